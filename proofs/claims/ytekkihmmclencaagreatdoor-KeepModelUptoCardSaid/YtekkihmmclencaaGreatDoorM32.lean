import Derived.Test.YtekkihmmclencaaGreatDoorM31
namespace Go.Proofs.YtekkihmmclencaaGreatDoor
set_option linter.all false
set_option maxRecDepth 100000
set_option maxHeartbeats 40000000
open Tryz
open Go Go.RowKit Go.Sort
variable(U w:World){d:Dk}
def vF{α:Type}(W0:World)(e:TypeId)(k:Nat)(enc:α->List Value)(l:List α)(M:va)(en:Ending)(w':World):Prop:=∃v F,en=.returned v/\Rw e k v l.length (l.flatMap enc) F/\St W0 w' (F++M)
theorem Ybi(W0 w:World)(M F:va)(sv:Value)(l:List RI)(f:RI)(q:Nat)(hR:Rw 141 4 sv l.length (l.flatMap riV) F)(hS:St W0 w (F++((q,.cells (riV f).toArray 141 (0,0))::M)))(hl:l.length<=1000000):
  Calls prog 136 #[sv,OI 0,.slice (some ⟨q,0,none⟩) 1 1] w (vF W0 141 4 riV (f::l) M):=by
 obtain⟨i0,hi,z,a9,E,a8,R,T,ah⟩:=X3;have S:(prog.info? 141).map (·.size)=some 4:=by rw[hi];simp[E]
 have ht:=underlying62;have m:=Zo f;have H:St W0 w ((q,.cells (riV f).toArray 141 (0,0))::(F++M)):=hS.pm CN;have J:∀W',(St W0 W' ((q,.cells (riV f).toArray 141 (0,0))::(F++M)))->qe riV 4 W' (.slice (some ⟨q,0,none⟩) 1 1) [f]:=λW' h=>Rw.rowK (W0:=W0) (e:=141) (F:=[(q,.cells (riV f).toArray 141 (0,0))]) (M:=F++M) ⟨by simp[m],.inr ⟨q,1,_,rfl,rfl,jm _,by unfold maxLen;omega,by simp[m],by simp only[Nat.one_mul];simpa using Ji (l:=riV f) (by rw[m];exact jm _)⟩⟩ (λx=>by have:=Zo x;intro e;rw[e]at this;cases this) h
 cases l with
 |nil =>
  obtain⟨ad,b,rfl,aM,V,_⟩:=hR.form;have a4:=J w H;obtain⟨HR,HS,a2⟩:=Hi3 hR hS a4;have L:=Hi (λ(ad:Option Addr) (b:Nat) (w':World) (F':va) (hR':Rw 141 4 (.slice ad 1 b) 1 ([]++[f].flatMap riV) F') (hS':St W0 w' (F'++((q,.cells (riV f).toArray 141 (0,0))::M)))=>show vF W0 141 4 riV [f] M (.returned (.slice ad 1 b)) w' from⟨_,F',rfl,hR',hS'.pmSub (D:=[(q,.cells (riV f).toArray 141 (0,0))]) CN⟩);have ac:qt (.slice (some ⟨q,0,none⟩) 1 1):=λ_ _ e=>by cases e
  have aK:((b:Int))<=9223372036854775807:=by unfold maxLen at V;omega
  have aE:(0:Int)<=(b:Int):=by omega
  clear hR hS a4 H J hl;simp only[jA]at *;go_enter func136,ntmps136;cases ad with
  |none =>
   go_wp2_with (at_builtin;refine qk (by rfl) _ _ 62 (by rfl) Zo (by decide) 141 i0 z R ht hi a9 E T a8 (.slice none 0 b) 0 [] F _ (by rfl) HR.o HS.o (.slice (some ⟨q,0,none⟩) 1 1) [f] (by rfl) a2.o ac zI (by simp[maxLen]) (by simp;omega) ?_);intro av ak w2 F2 K p;have HP:=Hi (L.o _ _ _ _ K p);clear K p;go_wp2_with fail;go_ret;exact HP.o
  |some a =>
   obtain⟨ab,ao,ap⟩:=a;go_wp2_with (at_builtin;refine qk (by rfl) _ _ 62 (by rfl) Zo (by decide) 141 i0 z R ht hi a9 E T a8 (.slice (some ⟨ab,ao,ap⟩) 0 b) 0 [] F _ (by rfl) HR.o HS.o (.slice (some ⟨q,0,none⟩) 1 1) [f] (by rfl) a2.o ac zI (by simp[maxLen]) (by simp;omega) ?_)
   all_goals(
    intro av ak w2 F2 K p;have HP:=Hi (L.o _ _ _ _ K p);clear K p;go_wp2_with fail;go_ret;exact HP.o)
 |cons y0 l =>
  obtain⟨n,hn⟩:=NE ((y0::l).length);have aI:1<=n:=by rw[<-hn];simp
  rw[hn]at hR hl;obtain⟨I,X⟩:=NE ((y0::l).flatMap riV);rw[X]at hR;have O:∀v∈I,v.oneCell'=true:=by
   rw[<-X];intro v hv;obtain⟨y,_,hy⟩:=JB.1 hv;exact zI y v hy
  rcases hR with⟨r,⟨_,h0,_⟩|⟨g,b,u,rfl,rfl,aN,V,af,ai⟩⟩
  .omega
  have al:q≠g:=λe=>H.ne (x:=(g,.cells u 141)) (jx _ jc) e.symm
  have Z:St W0 w ((g,.cells u 141)::(q,.cells (riV f).toArray 141 (0,0))::M):=hS;have aH:(b:Int)<=9223372036854775807:=by unfold maxLen at V;omega
  obtain⟨aA,aD,aG⟩:(n:Int)<=(b:Int)/\(1:Int)<=(n:Int)/\(n:Int)<=1000000:=by omega
  have aP:¬ ((0:Int)=(n:Int)):=by omega
  by_cases hroom:n+1<=b
  .have aJ:(n:Int)+1<=(b:Int):=by omega
   have au:∀lb cb,(callFunc 198 #[.slice (some ⟨q,0,none⟩) 1 1,.slice (some ⟨g,4,none⟩) lb cb]).run prog w=.ok (.value (.bool false)) w:=λlb cb=>by
    rw[kI func198 (by kernel_rfl) (by kernel_rfl) (by kernel_rfl) (e:=Extern.SlicesOverlaps.overlaps #[62,62] #[4]) (by kernel_rfl),
     Lib.run_overlaps_apart w 62 4 141 ht 4 (λW=>by simp[sizeOf,typeInfo,hi,E]) ⟨q,0,none⟩ ⟨g,4,none⟩ 1 1 lb cb al _ _ _ _ H.shape Z.shape (by rw[af];omega) (H.melt 0) (H.melt _)]
    rfl
   obtain⟨w2,aa,p⟩:=xF (P:=prog) 62 62 3 141 4 g 4 n (b-1) ⟨g,0,none⟩ (n+1) b n u I ht S Z.drew (by simp only[kp];split<;>omega) r (vA Z.drew (by rw[Ju,r];exact ai)) (by rw[r,af];omega) O;obtain⟨c,d⟩:=NE ((u.toList.take 4++I++u.toList.drop (4+I.length)).toArray);rw[d]at p;have B:c.size=b*4:=by rw[<-d];simp;omega
   have a3:St W0 w2 ((q,.cells (riV f).toArray 141 (0,0))::(g,.cells c 141)::M):=p.pm CN;obtain⟨w3,a6,A⟩:=xF (P:=prog) 62 62 3 141 4 g 0 (n+1) b ⟨q,0,none⟩ 1 1 1 c (riV f) ht S p (by simp only[kp];split<;>omega) (by rw[m]) (vA a3 (by simp)) (by rw[m,B];omega) (zI f);have t:vF W0 141 4 riV (f::y0::l) M (.returned (.slice (some ⟨g,0,none⟩) (n+1) b)) w3:=by
    obtain⟨i,k⟩:=NE ((c.toList.take 0++riV f++c.toList.drop (0+(riV f).length)).toArray);rw[k]at A;have U:i.size=b*4:=by rw[<-k];simp only[J4,jK,Jp,J2,ja,jQ,Ux,B,m];omega
    refine⟨_,[(g,.cells i 141)],rfl,?_,A.pmSub (D:=[(q,.cells (riV f).toArray 141 (0,0))]) CN⟩;have e1:(f::y0::l).length=n+1:=by rw[jk,hn]
    rw[e1,jB,X];refine⟨by rw[ja,m,r];omega,.inr ⟨g,b,i,rfl,rfl,hroom,V,U,?_⟩⟩;have e2:(c.toList.drop (0+(riV f).length))=I++u.toList.drop (4+I.length):=by
     rw[<-d,m];simp only[Jp,jE];rw[List.drop_append_of_le_length (by simp;omega)];rw[Ut (by simp;omega)];rfl
    rw[<-k,e2];simp only[J4,jK];rw[show(n+1)*4=(riV f++I).length from by rw[ja,m,r];omega,<-jE,Uj]
   have HP:=Hi t;clear t p a3 A d B;have ax:prog.follows .mixedOrders=true:=by kernel_rfl
   have an:IntKind.i64.wrap 1=1:=by decide
   have az:¬ (b=1):=by omega
   have ae:¬ (b=0):=by omega
   obtain⟨aq,aw⟩:(1:Int)<=(n:Int)+1/\(0:Int)<=(n:Int)+1:=by omega
   go_enter func136,ntmps136;go_wp2_with (simp only[au]);go_region_law_o (refine step_copy_runI rfl _ _ 62 62 rfl (.slice (some ⟨g,4,none⟩) n (b-1)) (.slice (some ⟨g,0,none⟩) (n+1) b) (by simp[Act.eval,Act.put]) (by simp[Act.eval,Act.put]) aa ?_);go_wp2_with (at_builtin;refine wpList_copy_runI _ rfl _ _ 62 62 rfl _ _ rfl rfl a6 ?_);go_ret;exact HP.o
  .have am:b=n:=by omega
   subst am;have ar:(prog.underlying 3)=some (.int .i64):=underlying3;have a5:(Builtin.firstCells i0.size 0 (.slice (some ⟨g,0,none⟩) 0 b)).run prog w.drew=.ok ([]:List Value).toArray w.drew:=by
    rw[E];exact run_firstCells_some w.drew 4 0 ⟨g,0,none⟩ 0 b [] (by simp) (λj v hj=>by cases hj)
   have C:=λty=>Lib.run_append_grow_zeros (P:=prog) w 62 3 ty 141 i0 z .i64 .i64 ht ar hi a9 (some ⟨g,0,none⟩) 0 b [] a5 (b+1) (by omega) (by rw[E];omega) (by omega) (by omega) (by rw[T];have:(b+1)*R<=(b+1)*128:=UU _ ah;omega) (growslice_fits (by omega) (by rw[T];have:(0+(b+1))*R<=(0+(b+1))*128:=UU _ ah;omega))
   obtain⟨G,hG⟩:=NE (grownCap w (0+(b+1)) b 141);have ay:b+1<=G:=by rw[<-hG];have:=grownCap_ge w (0+(b+1)) b 141;omega
   have ag:G<=maxLen:=by rw[<-hG];exact grownCap_le_maxLen w _ _ _ (by unfold maxLen;omega)
   rw[hG]at C;obtain⟨s,Q⟩:∃s:Array Value,([]:List Value).toArray++Builtin.zeroCells z.cells (b+1)++Builtin.zeroCells z.cells (G-(0+(b+1)))=s:=⟨_,rfl⟩;rw[Q]at C;have a7:s.size=G*4:=by rw[<-Q];simp[Builtin.zeroCells,a8];omega
   have aj:∀ty,(Builtin.append_ #[62,3] ty #[.slice (some ⟨g,0,none⟩) 0 b,OI ((b:Int)+1)]).run prog w=.ok (.slice (some ⟨w.heap.size,0,none⟩) (b+1) G) (w.drew.alloc (.cells s 141)):=λty=>by
    have h:=C ty;rw[Jp]at h;exact h
   have Y:St W0 (w.alloc (.cells s 141)).drew ((w.heap.size,.cells s 141)::(g,.cells u 141)::(q,.cells (riV f).toArray 141 (0,0))::M):=(Z.alloc _).drew;obtain⟨N,hN⟩:=NE w.heap.size;rw[hN]at aj Y;have a0:St W0 (w.alloc (.cells s 141)).drew ((q,.cells (riV f).toArray 141 (0,0))::(N,.cells s 141)::(g,.cells u 141)::M):=Y.pm CN;obtain⟨w2,aa,p⟩:=xF (P:=prog) 62 62 3 141 4 N 0 (b+1) G ⟨q,0,none⟩ 1 1 1 s (riV f) ht S Y (by simp only[kp];split<;>omega) (by rw[m]) (vA a0 (by simp)) (by rw[m,a7];omega) (zI f);obtain⟨c,d⟩:=NE ((s.toList.take 0++riV f++s.toList.drop (0+(riV f).length)).toArray);rw[d]at p;have B:c.size=G*4:=by rw[<-d];simp only[J4,jK,Jp,J2,ja,jQ,Ux,a7,m];omega
   have a1:St W0 w2.drew ((g,.cells u 141)::(N,.cells c 141)::(q,.cells (riV f).toArray 141 (0,0))::M):=p.drew.pm CN;obtain⟨w3,a6,A⟩:=xF (P:=prog) 62 62 3 141 4 N 4 b (G-1) ⟨g,0,none⟩ b b b c I ht S p.drew (by simp only[kp];split<;>omega) r (vA a1 (by rw[Ju,r];exact ai)) (by rw[r,B];omega) O;obtain⟨i,k⟩:=NE ((c.toList.take 4++I++c.toList.drop (4+I.length)).toArray);rw[k]at A;have U:i.size=G*4:=by rw[<-k];simp only[J2,ja,jN,jQ,Ux,B,r];omega
   have t:vF W0 141 4 riV (f::y0::l) M (.returned (.slice (some ⟨N,0,none⟩) (b+1) G)) w3:=by
    refine⟨_,[(N,.cells i 141)],rfl,?_,A.pmSub (D:=[(g,.cells u 141),(q,.cells (riV f).toArray 141 (0,0))]) CN⟩;have e1:(f::y0::l).length=b+1:=by rw[jk,hn]
    rw[e1,jB,X];refine⟨by rw[ja,m,r];omega,.inr ⟨N,G,i,rfl,rfl,ay,ag,U,?_⟩⟩;have e2:c.toList.take 4=riV f:=by
     rw[<-d];simp only[J4,jK];rw[show(4:Nat)=(riV f).length from m.symm,Uj]
    rw[<-k,e2];simp only;rw[show(b+1)*4=(riV f++I).length from by rw[ja,m,r];omega,Uj]
   obtain⟨HP,HN⟩:=Hi2 t hN;have ax:prog.follows .mixedOrders=true:=by kernel_rfl
   have an:IntKind.i64.wrap 1=1:=by decide
   have aO:(b:Int)+1<=(G:Int):=by omega
   have aL:(G:Int)<=9223372036854775807:=by unfold maxLen at ag;omega
   have aF:¬ (G=1):=by omega
   have aB:¬ (G=0):=by omega
   have ae:¬ (b=0):=by omega
   obtain⟨aq,aw,aC⟩:(1:Int)<=(b:Int)+1/\(0:Int)<=(b:Int)+1/\(b:Int)<(b:Int)+1:=by omega
   clear t Y a0 p a1 A d k B U Q a7 C hG hN a5;go_enter func136,ntmps136;go_wp2_with (first
    |(at_builtin;refine Lib.wpList_append_run _ rfl _ _ _ _ rfl _ _ rfl rfl _ _ (aj _) ?_)
    |(at_builtin;refine wpList_copy_runI _ rfl _ _ 62 62 rfl _ _ rfl rfl aa ?_))
   go_region_law_o (refine step_copy_runI rfl _ _ 62 62 rfl (.slice (some ⟨N,4,none⟩) b (G-1)) (.slice (some ⟨g,0,none⟩) b b) (by simp[Act.eval,Act.put]) (by simp[Act.eval,Act.put]) a6 ?_);go_wp2_with fail;go_ret;exact HP.o
theorem Xbi(W0 w:World)(M F:va)(sv:Value)(l:List Nat)(f:Nat)(q:Nat)(hR:Rw 106 1 sv l.length (l.flatMap pbV) F)(hS:St W0 w (F++((q,.cells (pbV f).toArray 106 (0,0))::M)))(hl:l.length<=1000000):
  Calls prog 137 #[sv,OI 0,.slice (some ⟨q,0,none⟩) 1 1] w (vF W0 106 1 pbV (f::l) M):=by
 obtain⟨i0,hi,z,a9,E,a8,R,T,ah⟩:=zar;have S:(prog.info? 106).map (·.size)=some 1:=by rw[hi];simp[E]
 have ht:=underlying53;have m:=Vt f;have H:St W0 w ((q,.cells (pbV f).toArray 106 (0,0))::(F++M)):=hS.pm CN;have J:∀W',(St W0 W' ((q,.cells (pbV f).toArray 106 (0,0))::(F++M)))->qe pbV 1 W' (.slice (some ⟨q,0,none⟩) 1 1) [f]:=λW' h=>Rw.rowK (W0:=W0) (e:=106) (F:=[(q,.cells (pbV f).toArray 106 (0,0))]) (M:=F++M) ⟨by simp[m],.inr ⟨q,1,_,rfl,rfl,jm _,by unfold maxLen;omega,by simp[m],by simp only[Nat.one_mul];simpa using Ji (l:=pbV f) (by rw[m];exact jm _)⟩⟩ (λx=>by have:=Vt x;intro e;rw[e]at this;cases this) h
 cases l with
 |nil =>
  obtain⟨ad,b,rfl,aM,V,_⟩:=hR.form;have a4:=J w H;obtain⟨HR,HS,a2⟩:=Hi3 hR hS a4;have L:=Hi (λ(ad:Option Addr) (b:Nat) (w':World) (F':va) (hR':Rw 106 1 (.slice ad 1 b) 1 ([]++[f].flatMap pbV) F') (hS':St W0 w' (F'++((q,.cells (pbV f).toArray 106 (0,0))::M)))=>show vF W0 106 1 pbV [f] M (.returned (.slice ad 1 b)) w' from⟨_,F',rfl,hR',hS'.pmSub (D:=[(q,.cells (pbV f).toArray 106 (0,0))]) CN⟩);have ac:qt (.slice (some ⟨q,0,none⟩) 1 1):=λ_ _ e=>by cases e
  have aK:((b:Int))<=9223372036854775807:=by unfold maxLen at V;omega
  have aE:(0:Int)<=(b:Int):=by omega
  clear hR hS a4 H J hl;simp only[jA]at *;go_enter func137,ntmps137;cases ad with
  |none =>
   go_wp2_with (at_builtin;refine qk (by rfl) _ _ 53 (by rfl) Vt (by decide) 106 i0 z R ht hi a9 E T a8 (.slice none 0 b) 0 [] F _ (by rfl) HR.o HS.o (.slice (some ⟨q,0,none⟩) 1 1) [f] (by rfl) a2.o ac YN (by simp[maxLen]) (by simp;omega) ?_);intro av ak w2 F2 K p;have HP:=Hi (L.o _ _ _ _ K p);clear K p;go_wp2_with fail;go_ret;exact HP.o
  |some a =>
   obtain⟨ab,ao,ap⟩:=a;go_wp2_with (at_builtin;refine qk (by rfl) _ _ 53 (by rfl) Vt (by decide) 106 i0 z R ht hi a9 E T a8 (.slice (some ⟨ab,ao,ap⟩) 0 b) 0 [] F _ (by rfl) HR.o HS.o (.slice (some ⟨q,0,none⟩) 1 1) [f] (by rfl) a2.o ac YN (by simp[maxLen]) (by simp;omega) ?_)
   all_goals(
    intro av ak w2 F2 K p;have HP:=Hi (L.o _ _ _ _ K p);clear K p;go_wp2_with fail;go_ret;exact HP.o)
 |cons y0 l =>
  obtain⟨n,hn⟩:=NE ((y0::l).length);have aI:1<=n:=by rw[<-hn];simp
  rw[hn]at hR hl;obtain⟨I,X⟩:=NE ((y0::l).flatMap pbV);rw[X]at hR;have O:∀v∈I,v.oneCell'=true:=by
   rw[<-X];intro v hv;obtain⟨y,_,hy⟩:=JB.1 hv;exact YN y v hy
  rcases hR with⟨r,⟨_,h0,_⟩|⟨g,b,u,rfl,rfl,aN,V,af,ai⟩⟩
  .omega
  have al:q≠g:=λe=>H.ne (x:=(g,.cells u 106)) (jx _ jc) e.symm
  have Z:St W0 w ((g,.cells u 106)::(q,.cells (pbV f).toArray 106 (0,0))::M):=hS;have aH:(b:Int)<=9223372036854775807:=by unfold maxLen at V;omega
  obtain⟨aA,aD,aG⟩:(n:Int)<=(b:Int)/\(1:Int)<=(n:Int)/\(n:Int)<=1000000:=by omega
  have aP:¬ ((0:Int)=(n:Int)):=by omega
  by_cases hroom:n+1<=b
  .have aJ:(n:Int)+1<=(b:Int):=by omega
   have au:∀lb cb,(callFunc 200 #[.slice (some ⟨q,0,none⟩) 1 1,.slice (some ⟨g,1,none⟩) lb cb]).run prog w=.ok (.value (.bool false)) w:=λlb cb=>by
    rw[kI func200 (by kernel_rfl) (by kernel_rfl) (by kernel_rfl) (e:=Extern.SlicesOverlaps.overlaps #[53,53] #[4]) (by kernel_rfl),
     Lib.run_overlaps_apart w 53 4 106 ht 1 (λW=>by simp[sizeOf,typeInfo,hi,E]) ⟨q,0,none⟩ ⟨g,1,none⟩ 1 1 lb cb al _ _ _ _ H.shape Z.shape (by rw[af];omega) (H.melt 0) (H.melt _)]
    rfl
   obtain⟨w2,aa,p⟩:=xF (P:=prog) 53 53 3 106 1 g 1 n (b-1) ⟨g,0,none⟩ (n+1) b n u I ht S Z.drew (by simp only[kp];split<;>omega) r (vA Z.drew (by rw[Ju,r];exact ai)) (by rw[r,af];omega) O;obtain⟨c,d⟩:=NE ((u.toList.take 1++I++u.toList.drop (1+I.length)).toArray);rw[d]at p;have B:c.size=b*1:=by rw[<-d];simp;omega
   have a3:St W0 w2 ((q,.cells (pbV f).toArray 106 (0,0))::(g,.cells c 106)::M):=p.pm CN;obtain⟨w3,a6,A⟩:=xF (P:=prog) 53 53 3 106 1 g 0 (n+1) b ⟨q,0,none⟩ 1 1 1 c (pbV f) ht S p (by simp only[kp];split<;>omega) (by rw[m]) (vA a3 (by simp)) (by rw[m,B];omega) (YN f);have t:vF W0 106 1 pbV (f::y0::l) M (.returned (.slice (some ⟨g,0,none⟩) (n+1) b)) w3:=by
    obtain⟨i,k⟩:=NE ((c.toList.take 0++pbV f++c.toList.drop (0+(pbV f).length)).toArray);rw[k]at A;have U:i.size=b*1:=by rw[<-k];simp only[J4,jK,Jp,J2,ja,jQ,Ux,B,m];omega
    refine⟨_,[(g,.cells i 106)],rfl,?_,A.pmSub (D:=[(q,.cells (pbV f).toArray 106 (0,0))]) CN⟩;have e1:(f::y0::l).length=n+1:=by rw[jk,hn]
    rw[e1,jB,X];refine⟨by rw[ja,m,r];omega,.inr ⟨g,b,i,rfl,rfl,hroom,V,U,?_⟩⟩;have e2:(c.toList.drop (0+(pbV f).length))=I++u.toList.drop (1+I.length):=by
     rw[<-d,m];simp only[Jp,jE];rw[List.drop_append_of_le_length (by simp;omega)];rw[Ut (by simp;omega)];rfl
    rw[<-k,e2];simp only[J4,jK];rw[show(n+1)*1=(pbV f++I).length from by rw[ja,m,r];omega,<-jE,Uj]
   have HP:=Hi t;clear t p a3 A d B;have ax:prog.follows .mixedOrders=true:=by kernel_rfl
   have an:IntKind.i64.wrap 1=1:=by decide
   have az:¬ (b=1):=by omega
   have ae:¬ (b=0):=by omega
   obtain⟨aq,aw⟩:(1:Int)<=(n:Int)+1/\(0:Int)<=(n:Int)+1:=by omega
   go_enter func137,ntmps137;go_wp2_with (simp only[au]);go_region_law_o (refine step_copy_runI rfl _ _ 53 53 rfl (.slice (some ⟨g,1,none⟩) n (b-1)) (.slice (some ⟨g,0,none⟩) (n+1) b) (by simp[Act.eval,Act.put]) (by simp[Act.eval,Act.put]) aa ?_);go_wp2_with (at_builtin;refine wpList_copy_runI _ rfl _ _ 53 53 rfl _ _ rfl rfl a6 ?_);go_ret;exact HP.o
  .have am:b=n:=by omega
   subst am;have ar:(prog.underlying 3)=some (.int .i64):=underlying3;have a5:(Builtin.firstCells i0.size 0 (.slice (some ⟨g,0,none⟩) 0 b)).run prog w.drew=.ok ([]:List Value).toArray w.drew:=by
    rw[E];exact run_firstCells_some w.drew 1 0 ⟨g,0,none⟩ 0 b [] (by simp) (λj v hj=>by cases hj)
   have C:=λty=>Lib.run_append_grow_zeros (P:=prog) w 53 3 ty 106 i0 z .i64 .i64 ht ar hi a9 (some ⟨g,0,none⟩) 0 b [] a5 (b+1) (by omega) (by rw[E];omega) (by omega) (by omega) (by rw[T];have:(b+1)*R<=(b+1)*128:=UU _ ah;omega) (growslice_fits (by omega) (by rw[T];have:(0+(b+1))*R<=(0+(b+1))*128:=UU _ ah;omega))
   obtain⟨G,hG⟩:=NE (grownCap w (0+(b+1)) b 106);have ay:b+1<=G:=by rw[<-hG];have:=grownCap_ge w (0+(b+1)) b 106;omega
   have ag:G<=maxLen:=by rw[<-hG];exact grownCap_le_maxLen w _ _ _ (by unfold maxLen;omega)
   rw[hG]at C;obtain⟨s,Q⟩:∃s:Array Value,([]:List Value).toArray++Builtin.zeroCells z.cells (b+1)++Builtin.zeroCells z.cells (G-(0+(b+1)))=s:=⟨_,rfl⟩;rw[Q]at C;have a7:s.size=G*1:=by rw[<-Q];simp[Builtin.zeroCells,a8];omega
   have aj:∀ty,(Builtin.append_ #[53,3] ty #[.slice (some ⟨g,0,none⟩) 0 b,OI ((b:Int)+1)]).run prog w=.ok (.slice (some ⟨w.heap.size,0,none⟩) (b+1) G) (w.drew.alloc (.cells s 106)):=λty=>by
    have h:=C ty;rw[Jp]at h;exact h
   have Y:St W0 (w.alloc (.cells s 106)).drew ((w.heap.size,.cells s 106)::(g,.cells u 106)::(q,.cells (pbV f).toArray 106 (0,0))::M):=(Z.alloc _).drew;obtain⟨N,hN⟩:=NE w.heap.size;rw[hN]at aj Y;have a0:St W0 (w.alloc (.cells s 106)).drew ((q,.cells (pbV f).toArray 106 (0,0))::(N,.cells s 106)::(g,.cells u 106)::M):=Y.pm CN;obtain⟨w2,aa,p⟩:=xF (P:=prog) 53 53 3 106 1 N 0 (b+1) G ⟨q,0,none⟩ 1 1 1 s (pbV f) ht S Y (by simp only[kp];split<;>omega) (by rw[m]) (vA a0 (by simp)) (by rw[m,a7];omega) (YN f);obtain⟨c,d⟩:=NE ((s.toList.take 0++pbV f++s.toList.drop (0+(pbV f).length)).toArray);rw[d]at p;have B:c.size=G*1:=by rw[<-d];simp only[J4,jK,Jp,J2,ja,jQ,Ux,a7,m];omega
   have a1:St W0 w2.drew ((g,.cells u 106)::(N,.cells c 106)::(q,.cells (pbV f).toArray 106 (0,0))::M):=p.drew.pm CN;obtain⟨w3,a6,A⟩:=xF (P:=prog) 53 53 3 106 1 N 1 b (G-1) ⟨g,0,none⟩ b b b c I ht S p.drew (by simp only[kp];split<;>omega) r (vA a1 (by rw[Ju,r];exact ai)) (by rw[r,B];omega) O;obtain⟨i,k⟩:=NE ((c.toList.take 1++I++c.toList.drop (1+I.length)).toArray);rw[k]at A;have U:i.size=G*1:=by rw[<-k];simp only[J2,ja,jN,jQ,Ux,B,r];omega
   have t:vF W0 106 1 pbV (f::y0::l) M (.returned (.slice (some ⟨N,0,none⟩) (b+1) G)) w3:=by
    refine⟨_,[(N,.cells i 106)],rfl,?_,A.pmSub (D:=[(g,.cells u 106),(q,.cells (pbV f).toArray 106 (0,0))]) CN⟩;have e1:(f::y0::l).length=b+1:=by rw[jk,hn]
    rw[e1,jB,X];refine⟨by rw[ja,m,r];omega,.inr ⟨N,G,i,rfl,rfl,ay,ag,U,?_⟩⟩;have e2:c.toList.take 1=pbV f:=by
     rw[<-d];simp only[J4,jK];rw[show(1:Nat)=(pbV f).length from m.symm,Uj]
    rw[<-k,e2];simp only;rw[show(b+1)*1=(pbV f++I).length from by rw[ja,m,r];omega,Uj]
   obtain⟨HP,HN⟩:=Hi2 t hN;have ax:prog.follows .mixedOrders=true:=by kernel_rfl
   have an:IntKind.i64.wrap 1=1:=by decide
   have aO:(b:Int)+1<=(G:Int):=by omega
   have aL:(G:Int)<=9223372036854775807:=by unfold maxLen at ag;omega
   have aF:¬ (G=1):=by omega
   have aB:¬ (G=0):=by omega
   have ae:¬ (b=0):=by omega
   obtain⟨aq,aw,aC⟩:(1:Int)<=(b:Int)+1/\(0:Int)<=(b:Int)+1/\(b:Int)<(b:Int)+1:=by omega
   clear t Y a0 p a1 A d k B U Q a7 C hG hN a5;go_enter func137,ntmps137;go_wp2_with (first
    |(at_builtin;refine Lib.wpList_append_run _ rfl _ _ _ _ rfl _ _ rfl rfl _ _ (aj _) ?_)
    |(at_builtin;refine wpList_copy_runI _ rfl _ _ 53 53 rfl _ _ rfl rfl aa ?_))
   go_region_law_o (refine step_copy_runI rfl _ _ 53 53 rfl (.slice (some ⟨N,1,none⟩) b (G-1)) (.slice (some ⟨g,0,none⟩) b b) (by simp[Act.eval,Act.put]) (by simp[Act.eval,Act.put]) a6 ?_);go_wp2_with fail;go_ret;exact HP.o
theorem xS(n:Nat):∀(l:List Nat) (d:Dk),d.Fits->(Dk.deleteTabs n l d).1.Fits
 |[],d,h=>by unfold Dk.deleteTabs;exact h
 |j::r,d,h=>by
  have a:=Ys h (Ve n j);unfold Dk.deleteTabs;simp only;split
  .exact a
  .exact xS n r _ a
theorem VT(h:d.Fits)(o:Op3)(n:Int):(d.deleteRun o n).1.Fits:=xS _ _ _ h
theorem Qak(h F b:Nat)(p:Array Value)(D:Dk)(M:va)(o:Op3)(v:Value)(a:List RI)(ho:Qb o=0)
  (x:Xa U h F D ((b,.cells p 82)::M) w) (E:D.Fits) (ht:vi U)
  (c0:p[0]?=some (za h)) (c3:p[3]?=some (OI o.width)) (c4:p[4]?=some (OI o.chunks)) (c5:p[5]?=some (OI o.mode))
  (m:∀s W,Xa U h F s ((b,.cells p 82)::M) W->qe riV 4 W v a)
  (K:∀i∈a,1<=i.number/\i.number<=1099511627776) :
  Calls prog 138 #[za b,v] w (qh U h F ((b,.cells p 82)::M) (OI (Dk.gonePast o a D).2) (Dk.gonePast o a D).1):=by
 obtain⟨ar,cr,rfl,a5,R,_⟩:=m D w x;obtain⟨a3,a4,HT⟩:=Hi3 m K ht;obtain⟨RR,C⟩:=NE (Dk.gonePast o a D);rw[C];obtain⟨n,hn⟩:=NE a.length;have HN:=Hi hn;obtain⟨a7,aa⟩:(n:Int)<=(cr:Int)/\(0:Int)<=(n:Int):=by omega
 have a9:(n:Int)<=9223372036854775807:=by unfold maxLen at R;omega
 rw[hn];obtain⟨P,HD,T,HO⟩:=Hi4 C x E ho;have HC:=Hi (λ(N:va) (W:World) (hW:St U W ((b,.cells p 82)::N))=>show OV W b 0 (za h)/\OV W b 3 (OI o.width)/\OV W b 4 (OI o.chunks)/\OV W b 5 (OI o.mode)from⟨(hW.cellH 0).trans c0,(hW.cellH 3).trans c3,(hW.cellH 4).trans c4,(hW.cellH 5).trans c5⟩);clear C hn x E ho ht m K c0 c3 c4 c5 a5 R;unfold za at *;go_enter func138,ntmps138;go_upto_region 2 with fail
 go_loopw [10] (λiv wr=>∃(k:Nat) (s:Dk),k<=n/\iv=OI (k:Int)/\Dk.gonePast o (a.drop k) s=RR/\s.Fits/\Xa U h F s ((b,.cells p 82)::M) wr) (λiv _=>n-(intOf iv).toNat)
 case atStart=>exact⟨0,D,jX _,rfl,by rw[Ju];exact P.o,T.o,HD.o⟩
 case round =>
  clear HD P T;obtain⟨k,s,hk,rfl,d,E,x⟩:=hrel;have a8:(0:Int)<=(k:Int):=by omega
  by_cases hlt:k<n
  .have a6:(k:Int)<(n:Int):=by omega
   have u:k<a.length:=by rw[HN.o];exact hlt
   obtain⟨g,of,c,hv,f⟩:=(a3.o s wr x).fld Zo k u;injection hv with e1 e2 e3
   subst e1;subst e3;clear e2;have H:a.drop k=a[k]::a.drop (k+1):=jR u;have l:a[k]∈a:=Jc u;obtain⟨i,Q⟩:=NE (a[k]);rw[Q]at f l H;have a2:=a4.o i l;rw[H]at d;unfold riV at f;have x0:wr.cell? ⟨g,of+k*4,none⟩=some (OI i.number):=by have:=f 0 _ rfl;simpa using this
   have x1:wr.cell? ⟨g,of+k*4+1,none⟩=some (OI i.lo):=by have:=f 1 _ rfl;simpa [j9] using this
   have x2:wr.cell? ⟨g,of+k*4+2,none⟩=some (OI i.hi):=by have:=f 2 _ rfl;simpa [j9] using this
   have x3:wr.cell? ⟨g,of+k*4+3,none⟩=some (OI i.count):=by have:=f 3 _ rfl;simpa [j9] using this
   unfold Dk.gonePast at d;simp only at d;have A:=Hi (VT E o i.number);obtain⟨q,Y,Z,V⟩:=i;simp only at *;have I:=x.alloc (.cells #[OI q,OI Y,OI Z,OI V] 141);obtain⟨HA,T⟩:=Hi2 I E;obtain⟨qn,J⟩:∃qn:Nat,(qn:Int)=q:=⟨q.toNat,by omega⟩;have j:=Hi (λ(W:World) (N:va) (hW:Xa U h F s N W)=>QaW U W h F s N qn o HO.o (by omega) (by omega) hW T.o HT.o);rw[J]at j;obtain⟨⟨d1,z1⟩,O⟩:=NE (s.deleteRun o q);rw[O]at j d A;simp only at j d A;have e:=Hi d;unfold qh xf at j;clear x E I f Q l H a2 u J O d;go_upto_region 4 with fail
   obtain⟨z,B⟩:=EN wr.heap.size;have I:=HA.o;rw[<-B]at I;rw[<-B];refine I.nameC ?_;clear HA I B x0 x1 x2 x3;intro w3 hS;have HL:=Hi (λ(W:World) (hb:Below w3.drew.heap.size w3.drew W)=>show OV W b 0 (OQ h)/\OV W b 3 (OI o.width)/\OV W b 4 (OI o.chunks)/\OV W b 5 (OI o.mode)/\OV W z 0 (OI q)from by
    have L:=(hS.drew.callB hb).rest;have t:=HC.o _ W L.tail;exact⟨t.1,t.2.1,t.2.2.1,t.2.2.2,L.cellH 0⟩)
   have a0:=Hi (λ(D'':Dk) (W:World) (hW:Xa U h F D'' ((z,.cells #[OI q,OI Y,OI Z,OI V] 141)::(b,.cells p 82)::M) W)=>show OV W b 0 (OQ h)/\OV W b 3 (OI o.width)/\OV W b 4 (OI o.chunks)/\OV W b 5 (OI o.mode)/\OV W z 0 (OI q)from by
    have L:=hW.rest;have t:=HC.o _ W L.tail;exact⟨t.1,t.2.1,t.2.2.1,t.2.2.2,L.cellH 0⟩)
   have a1:=Hi (j.o w3.drew _ hS.drew);clear hS;go_region_held3 (λW=>W.cell? ⟨b,0,none⟩=some (.pointer (some ⟨h,0,none⟩))/\W.cell? ⟨b,3,none⟩=some (.int .i64 o.width)/\W.cell? ⟨b,4,none⟩=some (.int .i64 o.chunks)/\W.cell? ⟨b,5,none⟩=some (.int .i64 o.mode)/\W.cell? ⟨z,0,none⟩=some (.int .i64 q)) (first|with_reducible exact a0.o _ _ G.o|with_reducible exact HL.o _ (jU _ _)|(go_keep;done)) (first|(go_at_call 169;refine MR a1.o λw4 G=>?_))
   all_goals(
    by_cases z0:z1=0
    .subst z0;have d:=e.o;rw[jd (by simp)]at d;have e:=Hi d;clear d;go_wp2_with fail;exact⟨⟨k+1,d1,by omega,by go_num,e.o,A.o,G.o.pmSub (X:=[(z,.cells #[OI q,OI Y,OI Z,OI V] 141)]) CN⟩,by simp[intOf];omega⟩
    .have d:=e.o;rw[jh z0]at d;have e:=Hi d;have z2:(z1 != 0)=true:=by simpa using z0
     clear d z0;go_wp2_with fail;go_ret;rw[<-e.o];exact⟨rfl,G.o.pmSub (X:=[(z,.cells #[OI q,OI Y,OI Z,OI V] 141)]) CN⟩)
  .obtain rfl:k=n:=by omega
   rw[List.drop_of_length_le (by rw[HN.o];exact jm _)]at d;unfold Dk.gonePast at d;obtain⟨HD,e⟩:=Hi2 x d;clear x d E;go_wp2_with fail;go_ret;rw[<-e.o];exact⟨rfl,HD.o⟩
end Go.Proofs.YtekkihmmclencaaGreatDoor
