import Derived.Test.YtekkihmmclencaaGreatDoorM24
namespace Go.Proofs.YtekkihmmclencaaGreatDoor
set_option linter.all false
set_option maxRecDepth 100000
set_option maxHeartbeats 40000000
open Tryz
open Go Go.RowKit Go.Sort
variable(w:World)(c:Nat){W V:World}{n:Nat}{F:va}{T:TypeId}{P:Program}
theorem xaZ(l:List En)(n:Nat)(x:En)(a:n+1<=l.length):(l.take (n+1)++x::l.drop (n+1)).set (n+1) l[n]=l.take n++l[n]::l.drop n:=by
 have b:(l.take (n+1)).length=n+1:=by rw[jN];omega
 rw[UZ,jd (by omega),b,Uk,ji,jS a,jE,List.singleton_append,jR a]
theorem vaZ(l:List En)(n:Nat)(x:En)(a:n+1<=l.length):(l.take (n+1)++x::l.drop (n+1))[n]?=some l[n]:=by
 rw[UN (by rw[jN];omega),JT (by omega),jt]
theorem Zas(l:List En)(n:Nat)(x:En)(a:n<=l.length):(l.take n++x::l.drop n).length=l.length+1:=by simp;omega
theorem qaZ(l:List En)(n:Nat)(x y:En)(b:n<=l.length):(l.take n++x::l.drop n).set n y=l.take n++y::l.drop n:=by
 have a:(l.take n).length=n:=by rw[jN];omega
 rw[UZ,jd (by omega),a,Uk,ji]
def qa9(l:List En)(w:World)(e:Ending)(w':World):Prop:=∃v F,e=.returned v/\Rw 137 5 v l.length (l.flatMap enV) F/\St w w' F
def Qbq(w:World)(R:List En)(a b:List En)(ov iv:Value)(wr:World):Prop:=∃(k:Nat) (acc:List En) (F:va),k<=b.length/\iv=.int .i64 (k:Int)/\Rw 137 5 ov acc.length (acc.flatMap enV) F/\acc.length<=a.length+k/\Xq acc (b.drop k)=R/\St w wr F
def JIn(w:World)(e:En)(acc:List En)(E:Nat)(F:va)(kv:Value)(wr:World):Prop:=∃k:Nat,kv=.int .i64 (k:Int)/\k<=acc.length/\(∀j,j<k->∀h:j<acc.length,XX e acc[j])/\St w wr ((E,.cells (enV e.zero).toArray 137 (0,0))::F)
def JSh(w:World)(e:En)(acc:List En)(E:Nat)(ad:Option Addr)(cap k:Nat)(nv:Value)(wr:World):Prop:=∃(n:Nat) (x:En) (F:va),nv=.int .i64 (n:Int)/\k<=n/\n<=acc.length/\Rw 137 5 (.slice ad (acc.length+1) cap) (acc.length+1) ((acc.take n++x::acc.drop n).flatMap enV) F/\St w wr (F++[(E,.cells (enV e.zero).toArray 137 (0,0))])
theorem En.eq5(e:En):enV e.zero=[OI 0,OT e.code,OI e.id,OI e.seq,.bool e.dead]:=rfl
theorem Za9(w:World)(av bv:Value)(a b:List En)(ha:qe enV 5 w av a)(ay:qt av)(hb:qe enV 5 w bv b)(bd:a.length<=1000000)(aa:b.length<=1000000):Calls prog 83 #[av,bv] w (qa9 (Xq a b) w):=by
 obtain⟨i0,hi,z,aI,aw,aG,a7,aC,af⟩:=yK;obtain⟨b3,aY,aW⟩:=Hi3 ha ay hb;obtain⟨b2,az,rfl,h1,h2,_⟩:=ha;obtain⟨bt,aE,rfl,h3,h4,_⟩:=hb;have bb:(b.length:Int)<=(aE:Int):=by omega
 have bs:(b.length:Int)<=1000000:=by omega
 have ax:0+a.length<=maxLen:=by unfold maxLen;omega
 have aH:(0+a.length)*a7<=140737488355328:=jI (Jg (show 0+a.length<=1000000 by omega) af) (by decide);have au:=Hi (St.refl w);obtain⟨R,hR⟩:=NE (Xq a b);rw[hR];have HJ:=Hi hR;clear ay h1 h2 h3 h4 hR;go_enter func83,ntmps83;go_upto_region 3 with(at_builtin;refine qk (W0:=w) (by rfl) _ _ 133 (by rfl) Qe (by decide) 137 i0 z a7 underlying133 hi aI aw aC aG (.slice none 0 0) 0 [] [] [] (by rfl) (Rw.nil _ _) au.o (.slice b2 a.length az) a (by rfl) b3.o aY.o Vam ax aH ?_;intro bm ba W' F' ar aO;obtain⟨aA,Q⟩:=Hi2 ar aO;clear ar aO)
 clear ax aH au;go_upto_region 4 with fail
 go_loopw [5,6] (λov iv wr=>Qbq w R a b ov iv wr) (λ_ iv _=>b.length-(intOf iv).toNat)
 case atStart =>
  have hr:=aA.o;have hs:=Q.o;rw[jJ]at hs;rw[Jp,jK]at hr;exact⟨0,a,F',jX _,rfl,hr,by omega,by rw[Ju];exact HJ.o,hs⟩
 case round =>
  clear aA Q;obtain⟨k,d,F,hk,rfl,hR,b6,H,V⟩:=hrel;obtain⟨ad,an,rfl,bk,bj,_⟩:=hR.form;have be:(0:Int)<=(k:Int):=by omega
  obtain⟨aj,HR,HS⟩:=Hi3 H hR V;clear hR H;by_cases hlt:k<b.length
  .have br:(k:Int)<(b.length:Int):=by omega
   obtain⟨g,o,c,hv,t⟩:=aW.o.fld Qe k hlt;injection hv with e1 e2 e3
   subst e1;subst e3;clear e2;have ao:b.drop k=b[k]::b.drop (k+1):=jR hlt;obtain⟨e,he⟩:=NE (b[k]);rw[he]at t ao;have H:=aj.o;rw[ao]at H;have a4:=Hi (show Xq (xr e d) (b.drop (k+1))=R from H);have bo:=Hi (En.eq5 e);have d0:wr.cell? ⟨g,o+k*5,none⟩=some (.int .i64 e.value):=by have:=V.old (t 0 _ rfl);simpa using this
   have d1:wr.cell? ⟨g,o+k*5+1,none⟩=some (.string ⟨e.code.toArray⟩):=by have:=V.old (t 1 _ rfl);simpa [j9,qa] using this
   have d2:wr.cell? ⟨g,o+k*5+2,none⟩=some (.int .i64 e.id):=by have:=V.old (t 2 _ rfl);simpa [j9,qa] using this
   have d3:wr.cell? ⟨g,o+k*5+3,none⟩=some (.int .i64 e.seq):=by have:=V.old (t 3 _ rfl);simpa [j9,qa] using this
   have d4:wr.cell? ⟨g,o+k*5+4,none⟩=some (.bool e.dead):=by have:=V.old (t 4 _ rfl);simpa [j9,qa] using this
   have hA:=V.alloc (.cells #[.int .i64 e.value,.string ⟨e.code.toArray⟩,.int .i64 e.id,.int .i64 e.seq,.bool e.dead] 137);obtain⟨E,hE⟩:=EN wr.heap.size;rw[<-hE]at hA;obtain⟨HA,aJ⟩:=Hi2 hA hE;clear hA hE t ao H aj HJ he V;go_upto_region 7 with fail
   rw[<-aJ.o];refine HA.o.nameC ?_;clear HA aJ d0 d1 d2 d3 d4;intro w1 ac;have c0:w1.cell? ⟨E,0,none⟩=some (.int .i64 e.value):=ac.cellH 0;have f0:w1.frozen? ⟨E,0,none⟩=false:=ac.freeH 0;have Q:=Hi (ac.set 0 (.int .i64 0));clear ac;go_upto_region 8 with fail
   refine Q.o.nameC ?_;clear Q c0 f0;intro w2 aF;have Q:=Hi (show St w w2 ((E,.cells (enV e.zero).toArray 137 (0,0))::F)from aF);clear aF;have b5:(d.length:Int)<=(an:Int):=by omega
   have b4:(0:Int)<=(d.length:Int):=by omega
   have b7:(d.length:Int)<=2000000:=by omega
   go_upto_region 9 with fail
   go_loopw [8] (λkv wr=>JIn w e d E F kv wr) (λkv _=>d.length-(intOf kv).toNat)
   case atStart=>exact⟨0,rfl,jX _,λj h=>by omega,Q.o⟩
   case round =>
    clear Q
    rename_i bn _ _
    obtain⟨q,rfl,hq,ae,V⟩:=hrel;have bg:(0:Int)<=(q:Int):=by omega
    have I:=Hi ae;have T:wr.cell? ⟨E,1,none⟩=some (.string ⟨e.code.toArray⟩):=V.cellH 1;have t2:wr.cell? ⟨E,2,none⟩=some (.int .i64 e.id):=V.cellH 2;have S:wr.cell? ⟨E,3,none⟩=some (.int .i64 e.seq):=V.cellH 3;have G:=Hi V;clear ae;by_cases hqn:q<d.length
    focus
     have bq:(q:Int)<(d.length:Int):=by omega
     obtain⟨U,cA,hv,t⟩:=HR.o.cells (W0:=w) (W:=wr) (M:=[]) (by rw[jJ];exact V.tail) (by intro h;have:=jT List.length h;rw[vg Qe]at this;simp at this;omega);injection hv with e1 e2 e3
     subst e1;subst e3;clear e2;obtain⟨x,hx⟩:=NE (d[q]);have f:∀j v,j<5->(enV x)[j]?=some v->wr.cell? ⟨U,q*5+j,none⟩=some v:=λj v hj h=>t _ _ (by rw[Zj Qe d q j hqn hj,hx];exact h)
     have O:wr.cell? ⟨U,q*5+1,none⟩=some (.string ⟨x.code.toArray⟩):=f 1 _ (by decide) rfl;have P:wr.cell? ⟨U,q*5+2,none⟩=some (.int .i64 x.id):=f 2 _ (by decide) rfl;have L:wr.cell? ⟨U,q*5+3,none⟩=some (.int .i64 x.seq):=f 3 _ (by decide) rfl;have HX:=Hi hx;have HC:=Hi (λ(W:World) (hW:St w W ((E,.cells (enV e.zero).toArray 137 (0,0))::F))=>show W.cell? ⟨E,1,none⟩=some (.string ⟨e.code.toArray⟩)/\W.cell? ⟨E,2,none⟩=some (.int .i64 e.id)/\W.cell? ⟨E,3,none⟩=some (.int .i64 e.seq)/\W.cell? ⟨U,q*5+1,none⟩=some (.string ⟨x.code.toArray⟩)/\W.cell? ⟨U,q*5+2,none⟩=some (.int .i64 x.id)/\W.cell? ⟨U,q*5+3,none⟩=some (.int .i64 x.seq)from by
      obtain⟨gB,cB,hv,t⟩:=HR.o.cells (W0:=w) (W:=W) (M:=[]) (by rw[jJ];exact hW.tail) (by intro h;have:=jT List.length h;rw[vg Qe]at this;simp at this;omega);injection hv with e1 e2 e3
      injection e1 with e1
      injection e1 with e1 e4 e5
      subst e1;have f:∀j v,j<5->(enV x)[j]?=some v->W.cell? ⟨U,q*5+j,none⟩=some v:=λj v hj h=>t _ _ (by rw[Zj Qe d q j hqn hj,HX.o];exact h)
      exact⟨hW.cellH 1,hW.cellH 2,hW.cellH 3,f 1 _ (by decide) rfl,f 2 _ (by decide) rfl,f 3 _ (by decide) rfl⟩)
     clear t f hx V;have D:=ZL x.code e.code;rcases vaw x.code e.code with u|u|u
     focus
      rw[u]at D;have aa:Op.bytesLess x.code e.code=true:=D;have am:=Hi (show XX e x from .inl (by rw[u];decide));clear u D t2 S P L;go_upto_region 10 with fail
      go_quiet (fail);have l:=Hi (G.o.drewN nq);go_wp2_with fail;refine⟨⟨q+1,by go_num,by omega,λj hj h=>?_,l.o⟩,by simp[intOf];omega⟩;by_cases ej:j=q
      .subst ej;rw[HX.o];exact am.o
      .exact I.o j (by omega) h
     focus
      rw[u]at D;have aL:x.code=e.code:=ZN u;obtain⟨xv,xc,xi,xs,xd⟩:=x;simp only at aL D O P L;subst aL;have aa:Op.bytesLess e.code e.code=false:=D;clear u D;by_cases hi1:xi<e.id
      focus
       have am:=Hi (show XX e ⟨xv,e.code,xi,xs,xd⟩from .inr ⟨rfl,hi1⟩);clear S L;go_upto_region 10 with fail
       go_quiet (fail);have l:=Hi (G.o.drewN nq);go_wp2_with fail;refine⟨⟨q+1,by go_num,by omega,λj hj h=>?_,l.o⟩,by simp[intOf];omega⟩;by_cases ej:j=q
       .subst ej;rw[HX.o];exact am.o
       .exact I.o j (by omega) h
      rcases(show xi=e.id\/e.id<xi by omega)with aq|aq
      focus
        subst aq;go_upto_region 10 with fail
        go_quiet (fail);refine(G.o.drewN nq).nameX ?_;clear T t2 S O P L G hi1;intro w3 p;obtain⟨T,t2,S,O,P,L⟩:=HC.o w3 p;have l:=Hi p;clear p;go_upto_region 12 with fail
        go_quiet (fail);refine(l.o.drewN nq).nameX ?_;clear T t2 S O P L l;intro w4 a1;obtain⟨T,t2,S,O,P,L⟩:=HC.o w4 a1;have J:=Hi a1;clear a1 T t2 O P;have a8:=Hi (yaZ e d q hqn I.o (by rw[HX.o]) (by rw[HX.o]));by_cases hsq:xs<e.seq
        .rw[jh (show d[q].seq<e.seq by rw[HX.o];exact hsq)]at a8;go_upto_region 13 with fail
         go_quiet (fail);refine(J.o.drewN nq).nameX ?_;clear S L J HC;intro w5 Y;have t0:w5.cell? ⟨E,0,none⟩=some (.int .i64 0):=Y.cellH 0;have T:w5.cell? ⟨E,1,none⟩=some (.string ⟨e.code.toArray⟩):=Y.cellH 1;have t2:w5.cell? ⟨E,2,none⟩=some (.int .i64 e.id):=Y.cellH 2;have S:w5.cell? ⟨E,3,none⟩=some (.int .i64 e.seq):=Y.cellH 3;have t4:w5.cell? ⟨E,4,none⟩=some (.bool e.dead):=Y.cellH 4;obtain⟨gB,cB,hv,N,i,HU⟩:=HR.o.put5 (W0:=w) (W:=w5) (M:=[(E,.cells (enV e.zero).toArray 137 (0,0))]) (Y.perm JO) (q*5) (by rw[vg Qe];omega);injection hv with e1 e2 e3
         injection e1 with e1
         injection e1 with e1 e4 e5
         subst e1;subst e3;have f:∀j v,j<5->(enV ⟨xv,e.code,e.id,xs,xd⟩)[j]?=some v->w5.cell? ⟨U,q*5+j,none⟩=some v:=λj v hj h=>by
          rw[N _ (by rw[vg Qe];omega),Zj Qe d q j hqn hj,HX.o];exact h
         have x0:w5.cell? ⟨U,q*5,none⟩=some (.int .i64 xv):=f 0 _ (by decide) rfl;have O:w5.cell? ⟨U,q*5+1,none⟩=some (.string ⟨e.code.toArray⟩):=f 1 _ (by decide) rfl;have P:w5.cell? ⟨U,q*5+2,none⟩=some (.int .i64 e.id):=f 2 _ (by decide) rfl;have L:w5.cell? ⟨U,q*5+3,none⟩=some (.int .i64 xs):=f 3 _ (by decide) rfl;have x4:w5.cell? ⟨U,q*5+4,none⟩=some (.bool xd):=f 4 _ (by decide) rfl;have z0:=i (q*5);have z1:=i (q*5+1);have z2:=i (q*5+2);have z3:=i (q*5+3);have z4:=i (q*5+4);obtain⟨F5,ak,a6⟩:=HU (.int .i64 0) (qa e.code) (.int .i64 e.id) (.int .i64 e.seq) (.bool e.dead);have B:=Vaf d q hqn e.zero;rw[show e.zero.value=0 from rfl,show e.zero.code=e.code from rfl,show e.zero.id=e.id from rfl,show e.zero.seq=e.seq from rfl,show e.zero.dead=e.dead from rfl]at B;rw[B]at ak;obtain⟨b0,a5⟩:=Hi2 ak a6;unfold qa at a5;clear N i HU f B ak a6 Y e2;go_upto_region 5 with fail
         refine a5.o.nameC ?_;clear a5 t0 T t2 S t4 x0 O P L x4 z0 z1 z2 z3 z4;intro w6 a6;have a5:=Hi a6;clear a6;go_wp2_with fail;exact⟨⟨k+1,d.set q e.zero,F5,by omega,by go_num,by rw[List.length_set];exact b0.o,by rw[List.length_set];omega,by rw[<-a4.o,a8.o],a5.o.appL⟩,by simp[intOf];omega⟩
        .rw[jd (show ¬ d[q].seq<e.seq by rw[HX.o];exact hsq),List.set_getElem_self]at a8;go_upto_region 13 with fail
         go_quiet (fail);have a9:=Hi (J.o.drewN nq);clear S L J HC;go_wp2_with fail;exact⟨⟨k+1,d,F,by omega,by go_num,HR.o,by omega,by rw[<-a4.o,a8.o],a9.o.tail⟩,by simp[intOf];omega⟩
      focus
        go_upto_region 10 with fail
        go_quiet (fail);refine(G.o.drewN nq).nameX ?_;clear T t2 S O P L G;intro w3 p;obtain⟨T,t2,S,O,P,L⟩:=HC.o w3 p;have l:=Hi p;clear p;go_upto_region 12 with fail
        go_quiet (fail);have J:=Hi (l.o.drewN nq);have ab:=Hi (Xaf e d q hq I.o (λh=>by rw[HX.o];exact⟨λc=>by rcases c with c|⟨_,c⟩<;>simp only at c;(rw[Qw]at c;omega);omega,λc=>by have:=c.2;simp only at this;omega⟩));clear T t2 S O P L l HC;obtain⟨ad,a3⟩:=NE ((some (⟨U,0,none⟩:Addr)));rw[a3]at HR|-
        clear a3
     rotate_left
     focus
      rw[u]at D;have aa:Op.bytesLess x.code e.code=false:=D;have ah:¬ (x.code=e.code):=λh=>by rw[h,Qw]at u;omega
      have ab:=Hi (Xaf e d q hq I.o (λh=>by rw[HX.o];exact⟨λc=>by rcases c with c|⟨c,_⟩;(rw[u]at c;omega);exact ah c,λc=>ah c.1⟩));clear u D t2 S P L;go_upto_region 10 with fail
      go_quiet (fail);refine(G.o.drewN nq).nameX ?_;clear T O G;intro w3 p;obtain⟨T,_,_,O,_,_⟩:=HC.o w3 p;have l:=Hi p;clear p;go_upto_region 12 with fail
      go_quiet (fail);have J:=Hi (l.o.drewN nq);clear T O l ah aa HC;obtain⟨ad,a3⟩:=NE ((some (⟨U,0,none⟩:Addr)));rw[a3]at HR|-
      clear a3
    rotate_left 2
    focus
     have ab:=Hi (Xaf e d q hq I.o (λh=>absurd h hqn));go_upto_region 10 with fail
     go_quiet (fail);refine(G.o.drewN nq).nameX ?_;clear T t2 S G;intro w3 p;have l:=Hi p;clear p;go_upto_region 12 with fail
     go_quiet (fail);have J:=Hi (l.o.drewN nq);clear l;clear hqn
    all_goals(
     refine J.o.nameX ?_;clear J;intro w4 a1;have a9:=Hi (a1.perm (M':=F++[(E,.cells (enV e.zero).toArray 137 (0,0))]) JO);have aK:=Hi (show Rw 137 5 (.slice ad d.length an) d.length (d.flatMap enV) F from HR.o);clear a1 HR;have aT:(d.length+1)*a7<=140737488355328:=jI (Jg (show d.length+1<=3000000 by omega) af) (by decide);have aN:d.length+1<=maxLen:=by unfold maxLen;omega
     go_upto_region 15 with(at_builtin;refine xh (W0:=w) (by rfl) _ _ 133 (by rfl) 137 i0 z 5 a7 underlying133 hi aI aw aC aG (by decide) (.slice ad d.length an) (d.length) _ _ _ (by rfl) aK.o a9.o 1 _ [.int .i64 0,.string ⟨#[]⟩,.int .i64 0,.int .i64 0,.bool false] (by rfl) (by rfl) (by rfl) (by intro y hy;simp at hy;rcases hy with rfl|rfl|rfl|rfl|rfl<;>rfl) aN aT ?_;intro v7 W7 F7 ap aM;obtain⟨aZ,ag,rfl,b9,b8,_⟩:=ap.form;obtain⟨aB,aR⟩:=Hi2 ap aM;clear ap aM)
     clear a9 aK aT aN;have bp:((d.length+1:Nat):Int)<=(ag:Int):=by omega
     have bc:wrap64 (((d.length+1:Nat):Int)-1)=(d.length:Int):=Uv _ (by omega) |>.trans (by omega)
     go_upto_region 16 with fail
     go_loopw [9] (λnv wr=>JSh w e d E aZ ag q nv wr) (λnv _=>(intOf nv).toNat)
     case atStart =>
      have h7:=aB.o;rw[show d.flatMap enV++[Value.int .i64 0,Value.string ⟨#[]⟩,Value.int .i64 0,Value.int .i64 0,Value.bool false]=(d.take d.length++(⟨0,[],0,0,false⟩:En)::d.drop d.length).flatMap enV by rw[J9,Uz,jD];rfl]at h7;exact⟨d.length,⟨0,[],0,0,false⟩,F7,by go_num,hq,jm _,h7,aR.o⟩
     case round =>
      clear aB aR;obtain⟨n,x,F8,rfl,bl,X,aX,aV⟩:=hrel;have bw:(0:Int)<=(n:Int):=by omega
      have bi:(n:Int)<=(d.length:Int):=by omega
      obtain⟨aU,al⟩:=Hi2 aX aV;have s:(d.take n++x::d.drop n).length=d.length+1:=Zas d n x X;by_cases hgt:q<n
      .have aP:(q:Int)<(n:Int):=by omega
       obtain⟨m,rfl⟩:∃m,n=m+1:=⟨n-1,by omega⟩;obtain⟨y,hy⟩:=NE (d[m]);have aD:(d.take (m+1)++x::d.drop (m+1))[m]?=some y:=by rw[<-hy];exact vaZ d m x X
       have a2:(d.take (m+1)++x::d.drop (m+1))[m+1]?=some x:=by
        rw[Jl (by rw[jN];omega),jN,Uy X,Uk];rfl
       obtain⟨K,cC,hv,N,i,HU⟩:=aU.o.put5 al.o ((m+1)*5) (by rw[vg Qe,s];omega);injection hv with e1 e2 e3
       subst e1;subst e3;have a0:∀j v,j<5->(enV y)[j]?=some v->wr.cell? ⟨K,m*5+j,none⟩=some v:=λj v hj h=>by
        rw[N _ (by rw[vg Qe,s];omega),Zj Qe _ m j (by rw[s];omega) hj,(jV.1 aD).2];exact h
       have r:∀j v,j<5->(enV x)[j]?=some v->wr.cell? ⟨K,(m+1)*5+j,none⟩=some v:=λj v hj h=>by
        rw[N _ (by rw[vg Qe,s];omega),Zj Qe _ (m+1) j (by rw[s];omega) hj,(jV.1 a2).2];exact h
       have y0:wr.cell? ⟨K,m*5,none⟩=some (.int .i64 y.value):=a0 0 _ (by decide) rfl;have y1:wr.cell? ⟨K,m*5+1,none⟩=some (.string ⟨y.code.toArray⟩):=a0 1 _ (by decide) rfl;have y2:wr.cell? ⟨K,m*5+2,none⟩=some (.int .i64 y.id):=a0 2 _ (by decide) rfl;have y3:wr.cell? ⟨K,m*5+3,none⟩=some (.int .i64 y.seq):=a0 3 _ (by decide) rfl;have y4:wr.cell? ⟨K,m*5+4,none⟩=some (.bool y.dead):=a0 4 _ (by decide) rfl;have x0:wr.cell? ⟨K,(m+1)*5,none⟩=some (.int .i64 x.value):=r 0 _ (by decide) rfl;have O:wr.cell? ⟨K,(m+1)*5+1,none⟩=some (.string ⟨x.code.toArray⟩):=r 1 _ (by decide) rfl;have P:wr.cell? ⟨K,(m+1)*5+2,none⟩=some (.int .i64 x.id):=r 2 _ (by decide) rfl;have L:wr.cell? ⟨K,(m+1)*5+3,none⟩=some (.int .i64 x.seq):=r 3 _ (by decide) rfl;have x4:wr.cell? ⟨K,(m+1)*5+4,none⟩=some (.bool x.dead):=r 4 _ (by decide) rfl;have z0:=i ((m+1)*5);have z1:=i ((m+1)*5+1);have z2:=i ((m+1)*5+2);have z3:=i ((m+1)*5+3);have z4:=i ((m+1)*5+4);obtain⟨F9,Z,A⟩:=HU (.int .i64 y.value) (qa y.code) (.int .i64 y.id) (.int .i64 y.seq) (.bool y.dead);have B:=Vaf (d.take (m+1)++x::d.drop (m+1)) (m+1) (by rw[s];omega) y;rw[<-hy,xaZ d m x X,hy]at B;rw[B]at Z;obtain⟨ai,C⟩:=Hi2 Z A;unfold qa at C;have bf:(0:Int)<=(m:Int):=by omega
       have bu:wrap64 (((m+1:Nat):Int)-1)=(m:Int):=(Uv _ (by omega)).trans (by push_cast;omega);have bh:(m:Int)<((d.length+1:Nat):Int):=by omega
       have b1:((m+1:Nat):Int)<((d.length+1:Nat):Int):=by omega
       clear N i HU a0 r B Z A aD a2 hy e2 s;go_upto_region 17 with fail
       refine C.o.nameC ?_;clear C y0 y1 y2 y3 y4 x0 O P L x4 z0 z1 z2 z3 z4;intro w9 A;have C:=Hi A;clear A;go_wp2_with fail;exact⟨⟨m,y,F9,by go_num,by omega,by omega,ai.o,C.o⟩,by simp[intOf]<;>omega⟩
      .obtain rfl:n=q:=by omega
       have a2:(d.take n++x::d.drop n)[n]?=some x:=by
        rw[Jl (by rw[jN];omega),jN,Uy X,Uk];rfl
       obtain⟨K,cC,hv,N,i,HU⟩:=aU.o.put5 al.o (n*5) (by rw[vg Qe,s];omega);injection hv with e1 e2 e3
       subst e1;subst e3;have r:∀j v,j<5->(enV x)[j]?=some v->wr.cell? ⟨K,n*5+j,none⟩=some v:=λj v hj h=>by
        rw[N _ (by rw[vg Qe,s];omega),Zj Qe _ n j (by rw[s];omega) hj,(jV.1 a2).2];exact h
       have x0:wr.cell? ⟨K,n*5,none⟩=some (.int .i64 x.value):=r 0 _ (by decide) rfl;have O:wr.cell? ⟨K,n*5+1,none⟩=some (.string ⟨x.code.toArray⟩):=r 1 _ (by decide) rfl;have P:wr.cell? ⟨K,n*5+2,none⟩=some (.int .i64 x.id):=r 2 _ (by decide) rfl;have L:wr.cell? ⟨K,n*5+3,none⟩=some (.int .i64 x.seq):=r 3 _ (by decide) rfl;have x4:wr.cell? ⟨K,n*5+4,none⟩=some (.bool x.dead):=r 4 _ (by decide) rfl;have z0:=i (n*5);have z1:=i (n*5+1);have z2:=i (n*5+2);have z3:=i (n*5+3);have z4:=i (n*5+4);have hE:=al.o.appR;have t0:wr.cell? ⟨E,0,none⟩=some (.int .i64 0):=hE.cellH 0;have T:wr.cell? ⟨E,1,none⟩=some (.string ⟨e.code.toArray⟩):=hE.cellH 1;have t2:wr.cell? ⟨E,2,none⟩=some (.int .i64 e.id):=hE.cellH 2;have S:wr.cell? ⟨E,3,none⟩=some (.int .i64 e.seq):=hE.cellH 3;have t4:wr.cell? ⟨E,4,none⟩=some (.bool e.dead):=hE.cellH 4;obtain⟨F9,Z,A⟩:=HU (.int .i64 0) (qa e.code) (.int .i64 e.id) (.int .i64 e.seq) (.bool e.dead);have B:=Vaf (d.take n++x::d.drop n) n (by rw[s];omega) e.zero;rw[qaZ d n x e.zero X,<-ab.o,show e.zero.value=0 from rfl,show e.zero.code=e.code from rfl,show e.zero.id=e.id from rfl,show e.zero.seq=e.seq from rfl,show e.zero.dead=e.dead from rfl]at B;rw[B]at Z;have aQ:(xr e d).length=d.length+1:=by rw[ab.o];exact Zas d n e.zero X
       obtain⟨ai,C,aS⟩:=Hi3 Z A aQ;unfold qa at C;have b1:(n:Int)<((d.length+1:Nat):Int):=by omega
       have aP:¬ ((n:Int)<(n:Int)):=by omega
       clear N i HU r B Z A a2 e2 s hE aQ;go_upto_region 5 with fail
       refine C.o.nameC ?_;clear C t0 T t2 S t4 x0 O P L x4 z0 z1 z2 z3 z4;intro w9 A;have C:=Hi A;clear A;go_wp2_with fail;exact⟨⟨k+1,xr e d,F9,by omega,by go_num,by rw[aS.o];exact ai.o,by rw[aS.o];omega,a4.o,C.o.appL⟩,by simp[intOf];omega⟩)
  .obtain rfl:k=b.length:=by omega
   have H:=aj.o;rw[Uz]at H;have a4:=Hi (show d=R from H);clear V H;go_wp2_with fail;go_ret;rw[<-a4.o];exact⟨_,F,rfl,HR.o,HS.o⟩
def Zbn(u:FrameMode)(w:World)(e:Ending)(u':FrameMode)(w':World):Prop:=u'=u/\e=.returned (.tuple #[])/\w'=w
theorem St.nameD{f:Func}{R:Ending->World->Prop}{b:Exit}{a:Act}(h:St V W F)(k:∀W',St V W' F->bodyPostD P f R b a W'):bodyPostD P f R b a W:=k W h
theorem Ya9(u:FrameMode)(a b2 b3:Nat)(c:w.cell? ⟨a,0,none⟩=some (OI 0)):CallsD prog 142 #[za a,za b2,za b3] u w (Zbn u w):=by
 unfold za;go_enter_d func142,ntmps142;go_wp2_with fail;refine jP (v:=.tuple #[]) (by simp[results,results142,go_sem]) rfl ⟨rfl,rfl⟩
theorem QaN(h:Hd)(c:Int)(e:En):vu {h with count:=c} e=vu h e:=rfl
theorem vad(h:Hd)(c:Int):∀(l:List En) (p:Option En),Qv {h with count:=c} p l=Qv h p l
 |[],_=>rfl
 |e::r,p=>by simp only[Qv,QaN,vad h c r]
theorem ZaE(h:Hd)(c:Int)(l:List En):Vm {h with count:=c} l=Vm h l:=by
 unfold Vm;rw[vad];rfl
theorem Yas{a b c d e f:Value}(h:St V W ((n,Obj.cells #[a,b,c,d,e,f] T)::F)):OV W n 0 a/\OV W n 1 b/\OV W n 2 c/\OV W n 3 d/\OV W n 4 e/\OV W n 5 f :=
 ⟨h.cellH 0,h.cellH 1,h.cellH 2,h.cellH 3,h.cellH 4,h.cellH 5⟩
theorem QaA(W0 w:World)(bd bm:Nat)(D:Dk)(M F:va)(o:Op3)(i:RI)(l:List En)(lv:Value)(c:ym o i l)(h:Xa W0 bd bm D (F++M) w)(hf:D.Fits)(aZ:D.off=false)(hR:Rw 137 5 lv l.length (l.flatMap enV) F)(ht:vi W0)(hc:zg W0)(Y:(D.writeRun o i l).2=0):
  Calls prog 88 #[za bd,OI i.number,.agg (xf o).toArray,.agg (riV i).toArray,lv] w (qh W0 bd bm (F++M) (OI 0) (D.writeRun o i l).1):=by
 obtain⟨hg,bg⟩:=yau aZ Y;rw[bg];have c4:∀(fn:Fn) (first J:Array Value) (w:World),(Instr.makeFunc fn first J).run prog w=.ok (.func fn first J) w:=λ_ _ _ _=>rfl
 obtain⟨n,hn⟩:∃n:Nat,i.number=(n:Int):=⟨i.number.toNat,by have:=c.n0;omega⟩;have bD:=c.n0;have bA:=c.n1;rw[hn]at bD bA|-
 have hA:=(((h.alloc (.cells #[za bd] 27)).alloc (.cells (xf o).toArray 23)).alloc (.cells (riV i).toArray 141)).alloc (.cells #[OI 0] 30);simp only[jF]at hA;obtain⟨B,hB⟩:=EN w.heap.size;rw[<-hB]at hA;obtain⟨y,bu⟩:=Hi2 hA hB;have HG:=Hi (λW=>zaa W (n:Int) o c.opt (by omega) (by omega));obtain⟨ad,J,bP,bW,bX,_⟩:=hR.form;subst bP;have ah:=Hi hR;clear h hA hB bg Y hR;unfold xf at y HG|-
 unfold riV at y|-
 unfold za at *;rw[hn]at y|-
 go_enter_defers func88,ntmps88;go_upto_region 1 with(fail)
 rw[<-bu.o];obtain⟨t,aO⟩:=EN (B+1+1+1);obtain⟨b8,h8⟩:=EN (B+1+1);obtain⟨E,h7⟩:=EN (B+1);rw[<-aO,<-h8,<-h7]at y;rw[<-aO,<-h8,<-h7];obtain⟨b5,h5⟩:=NE B;rw[h5]at y|-
 clear h5 aO h8 h7 bu;refine y.o.nameC ?_;clear y;intro w1 hA;have v:=hA.rest;obtain⟨k0,k1,k2⟩:=v.tail.tail.k3 0 1 2;have y:=Hi hA;clear hA v;go_upto_region 4 with(go_at_call 139;refine(HG.o _).mono ?_;rintro e' w2 ⟨rfl,be⟩;have a8:=Hi (y.o.callB be);clear be)
 have v:=a8.o.rest;have q5:=v.tail.tail.tail.cellH 0;clear v k0 k1 k2 HG y;have ak:=Hi (XG w2 bd D.off a8.o.off);rw[aZ]at ak;unfold za Ret at ak;go_upto_region 6 with(go_at_call 24;refine MQ ak.o ?_)
 clear q5 ak;have v:=a8.o.rest;have k0:=v.tail.tail.cellH 0;obtain⟨i1,i2⟩:=v.tail.k2 1 2;have u:=a8.o.alloc (.cells (VM ⟨o.width,0,32,i.lo,i.hi,0⟩) 212);obtain⟨b,aS⟩:=EN w2.heap.size;rw[<-aS]at u;obtain⟨U,ba⟩:=Hi2 u aS;clear v u aS;unfold VM at U;go_upto_region 7 with(fail)
 rw[<-ba.o];refine U.o.nameC ?_;clear k0 i1 i2 a8 U ba;intro w3 u;have HL:=Hi (λ(W:World) (H:Below w3.drew.heap.size w3.drew W)=>Yas (u.drew.callB H).rest);have a:=u.rest;have C:qe enV 5 w3 (.slice ad l.length J) l:=ah.o.rowK (λx=>by simp[enV]) a.tail.tail.tail.tail.tail;have ar:=Hi (Xbm w3.drew (.slice ad l.length J) l (C.below (jU _ _).drew (jm _)) ah.o.vnil (by have:=c.len;omega));have aj:=YC c.zero;have aM:=zaK c;rw[aj]at ar aM;have g:=Hi (λW lv H v=>Zam W ⟨o.width,0,32,i.lo,i.hi,0⟩ l lv aM v (hc.below (B:=W0.heap.size) (u.below.trans (Below.mono (w:=w3) (w':=W) H u.sz)) (jm _)));unfold Xe at ar;obtain⟨bb,ax⟩:=NE (Xk ⟨o.width,0,32,i.lo,i.hi,0⟩ l);rw[ax]at g;unfold hdV qa at g;simp only at g;clear ax aj aM;have U:=Hi u;clear u a C;go_region_held3 (λw'=>w'.cell? ⟨b,0,none⟩=some (.int .i64 o.width)/\w'.cell? ⟨b,1,none⟩=some (.int .i64 0)/\w'.cell? ⟨b,2,none⟩=some (.int .i64 32)/\w'.cell? ⟨b,3,none⟩=some (.int .i64 i.lo)/\w'.cell? ⟨b,4,none⟩=some (.int .i64 i.hi)/\w'.cell? ⟨b,5,none⟩=some (.int .i64 0)) (first|with_reducible exact HL.o _ aU.o|with_reducible exact HL.o _ ao.o|with_reducible exact HL.o _ (jU _ _)|(go_keep;done)) (first
  |(go_at_call 141;refine ar.o.mono ?_;rintro e' w4 ⟨v4,F4,rfl,aV,ap⟩;have ao:=Hi ap.below;have bs:=Hi (g.o w4 v4 (Below.trans (jU _ _).drew ap.below) (aV.rowK0 (λx=>by simp[enV]) ap));obtain⟨bY,bS,rfl,_⟩:=aV.form;clear aV ap)
  |(go_at_call 140;refine bs.o.mono ?_;rintro e' w5 ⟨rfl,bv⟩;have aU:=Hi (ao.o.trans (bv.mono ao.o.size));clear bv))
 have b9:=Hi (U.o.drew.callB aU.o);clear HL ar g bs ao aU U;have I:=b9.o.alloc (.cells #[.slice none 0 0] 93);obtain⟨d,aL⟩:=EN w5.heap.size;rw[<-aL]at I;obtain⟨ag,b1⟩:=Hi2 I aL;clear I aL;go_upto_region 12 with(fail)
 rw[<-b1.o];refine ag.o.nameC ?_;clear b9 ag b1;intro w6 I;have v:=I.rest;obtain⟨k0,k1,k2⟩:=v.tail.tail.tail.tail.k3 0 1 2;have S:=Hi (QR w6 o c.opt);obtain⟨t0,t1⟩:=Yj c.opt;unfold vl at S;rw[qv]at S;have bJ:=NE (Qd o);obtain⟨T,hT⟩:=bJ;rw[hT]at S t0 t1;obtain⟨A,ag⟩:=Hi2 hT I;clear hT v I;unfold xf at S;go_upto_region 13 with(go_at_call 143;refine S.o.mono ?_;rintro e' w7 ⟨v7,F7,rfl,aW,br⟩;obtain⟨c0,bT,rfl,bU,_⟩:=aW.form;have bB:=Hi aW;have aq:=Hi (ag.o.call br);clear aW br)
 clear k0 k1 k2 S ag;obtain⟨R,aP⟩:∃R:va,R=(t,.cells #[OI 0] 30)::(b8,.cells #[OI (n:Int),OI i.lo,OI i.hi,OI i.count] 141)::(E,.cells #[OI o.width,OI o.chunks,OI o.mode] 23)::(b5,.cells #[OQ bd] 27)::(F7++(F++M)):=⟨_,rfl⟩;have K:=Hi aP;have bf:Xa W0 bd bm D ([]++((d,.cells #[.slice none 0 0] 93)::(b,.cells #[OI o.width,OI 0,OI 32,OI i.lo,OI i.hi,OI 0] 212)::R)) w7:=aq.o.pm λx=>by rw[aP];simp only[xa,ya,OI,OT,OQ,Ya];omega
 have aq:=Hi bf;clear bf aP;go_loopw [50] (λiv wr=>∃(k:Nat) (ad:Option Addr) (cp:Nat) (Fs:va) (tb bt:Int),k<=T/\iv=OI (k:Int)/\Rw 9 1 (.slice ad k cp) k (((vt n o).take k).flatMap stV) Fs/\Xa W0 bd bm (D.tabsTo o i l k) (Fs++((d,.cells #[.slice ad k cp] 93)::(b,.cells #[OI o.width,OI tb,OI bt,OI i.lo,OI i.hi,OI 0] 212)::R)) wr) (λiv _=>T-(intOf iv).toNat)
 case atStart=>exact⟨0,none,0,[],0,32,jX _,rfl,Rw.nil _ _,aq.o⟩
 case round =>
  clear aq;obtain⟨k,r,p,Fs,tb,bt,hk,rfl,bl,hA⟩:=hrel;obtain⟨bM,y⟩:=Hi2 bl hA;have bV:(0:Int)<=(k:Int):=by omega
  clear bl hA;by_cases hlt:k<T
  .have a:=y.o.rest;rw[K.o]at a;obtain⟨g7,c7,bL,b6⟩:=bB.o.cells (W0:=W0) (W:=wr) (M:=Fs++((d,.cells #[.slice r k p] 93)::(b,.cells #[OI o.width,OI tb,OI bt,OI i.lo,OI i.hi,OI 0] 212)::(t,.cells #[OI 0] 30)::(b8,.cells #[OI (n:Int),OI i.lo,OI i.hi,OI i.count] 141)::(E,.cells #[OI o.width,OI o.chunks,OI o.mode] 23)::(b5,.cells #[OQ bd] 27)::(F++M))) (a.pm CN) (by intro e;have:=jT List.length e;rw[xO,qv,A.o]at this;simp at this;omega);injection bL with e1 e2 e3
   subst e1;subst e3;clear e2;have d7:OV wr g7 k (OI ((Zr o k:Nat):Int)):=b6 _ _ (by simp[xg,xB,Xs,A.o,hlt]);obtain⟨c3,c6⟩:(k:Int)<(T:Int)/\(T:Int)<=128:=by omega
   have m:=a.appR.tail;have u0:=m.cellH 1;have u1:=m.freeH 1;have u2:=m.cellH 2;have u3:=m.freeH 2;have q:Xa W0 bd bm (D.tabsTo o i l k) ((b,.cells #[OI o.width,OI tb,OI bt,OI i.lo,OI i.hi,OI 0] 212)::(Fs++((d,.cells #[.slice r k p] 93)::R))) wr:=y.o.pm CN;have V:=Hi ((q.set 1 (OI (k:Int))).set 2 (OI ((Zr o k:Nat):Int)));clear b6 m a q;go_upto_region 16 with(fail)
   refine V.o.nameC ?_;clear V u0 u1 u2 u3 d7 y;intro w8 q;have a:=q.rest;simp only[Array.setIfInBounds,List.toArray]at a;have aA:St W0 w8 (F++M):=(by
    have:=a.tail.appR.tail;rw[K.o]at this;exact this.tail.tail.tail.tail.appR)
   have C:qe enV 5 w8 (.slice ad l.length J) l:=ah.o.rowK (λx=>by simp[enV]) aA;have Z:=Hi (Zan w8.drew o k (.slice ad l.length J) l c.opt (by rw[A.o];exact hlt) (λe he=>by have:=c.code e he;have:=yM c.opt;omega) (vn c.ord c.zero) (C.below (jU _ _).drew (jm _)) ah.o.vnil c.len);have aN:=vae c (j:=k) (by rw[A.o];exact hlt);have bo:Hy (Xk ⟨o.width,(k:Int),((Zr o k:Nat):Int),i.lo,i.hi,0⟩ (Qc o k l)=Zp o i l k):=Hi rfl;rw[<-ZaE _ 0]at aN;have g:=Hi (λW lv H v=>Zam W ⟨o.width,(k:Int),((Zr o k:Nat):Int),i.lo,i.hi,0⟩ (Qc o k l) lv aN v (hc.below (B:=W0.heap.size) (q.below.trans (Below.mono (w:=w8) (w':=W) H q.sz)) (jm _)));rw[bo.o]at g;have aw:=Z0 c (j:=k) (by rw[A.o];exact hlt);have bQ:=c.len;have af:=Hi (yaE hg (k:=k) (by rw[A.o];exact hlt));have b3:=Hi (Qac (n:=n) (o:=o) (k:=k) (by rw[A.o];exact hlt));obtain⟨L2,bh⟩:=NE (Qc o k l);rw[bh]at Z g;obtain⟨fb,bq⟩:=NE (Zp o i l k);rw[bq]at g af aw;obtain⟨nm,al⟩:=NE (Ve n k);have bO:nm.length<=1000000:=by
    rw[<-al,xaf];have a1:=Zq (n:=n) (by omega);have a2:=Zq (n:=k) (by omega);simp only[ja,jk,jA];omega
   have HN:=Hi (λW (H:Below W0.heap.size W0 W)=>yaa W n k (by omega) (by omega) (ht.below H (jm _)));rw[show i.number.toNat=n by omega,al]at af;rw[al]at HN b3;obtain⟨bk,bx⟩:∃bk:Int,((Zr o k:Nat):Int)=bk:=⟨_,rfl⟩;rw[bx]at g q a;have G:=zaE hf o i l k;obtain⟨D1,bH⟩:=NE (D.tabsTo o i l k);rw[bH]at af q G;obtain⟨D2,b4⟩:=NE (D.tabsTo o i l (k+1));rw[b4]at af;have a7:=Hi (λW h=>Ybm (W0:=W0) (bd:=bd) (bm:=bm) (M:=(b,.cells #[OI o.width,OI (k:Int),OI bk,OI i.lo,OI i.hi,OI 0] 212)::(Fs++((d,.cells #[.slice r k p] 93)::R))) (w:=W) (D:=D1) h G nm fb bO (by omega));rw[af.o]at a7;unfold Xe at Z;unfold hdV qa at g;simp only at g;unfold xf at Z;unfold qh xbd za qa at a7;simp only at a7;unfold qa at HN;have am:Hy (∀(W:World),Below w8.drew.heap.size w8.drew W->OV W b 0 (OI o.width)/\OV W b 1 (OI (k:Int))/\OV W b 2 (OI bk)/\OV W b 3 (OI i.lo)/\OV W b 4 (OI i.hi)/\OV W b 5 (OI 0)/\OV W E 0 (OI o.width)/\OV W E 1 (OI o.chunks)/\OV W E 2 (OI o.mode)):=Hi (by
    intro W H;have hs:=(q.drew.callB H).rest;obtain⟨a0,a1,a2,a3,a4,a5⟩:=Yas hs;have s:=hs.tail.appR.tail;rw[K.o]at s;exact⟨a0,a1,a2,a3,a4,a5,s.tail.tail.cellH 0,s.tail.tail.cellH 1,s.tail.tail.cellH 2⟩)
   have V:=Hi q;clear a aA C aN bh bq al bx G q aw bo;go_region_held3 (λw'=>w'.cell? ⟨b,0,none⟩=some (.int .i64 o.width)/\w'.cell? ⟨b,1,none⟩=some (.int .i64 (k:Int))/\w'.cell? ⟨b,2,none⟩=some (.int .i64 bk)/\w'.cell? ⟨b,3,none⟩=some (.int .i64 i.lo)/\w'.cell? ⟨b,4,none⟩=some (.int .i64 i.hi)/\w'.cell? ⟨b,5,none⟩=some (.int .i64 0)/\w'.cell? ⟨E,0,none⟩=some (.int .i64 o.width)/\w'.cell? ⟨E,1,none⟩=some (.int .i64 o.chunks)/\w'.cell? ⟨E,2,none⟩=some (.int .i64 o.mode)) (first|with_reducible exact am.o _ ae.o|with_reducible exact am.o _ an.o|with_reducible exact am.o _ (jU _ _)|(go_keep;done)) (first
    |(go_at_call 144;refine Z.o.mono ?_;rintro e' w9 ⟨v9,F9,rfl,aQ,ai⟩;have an:=Hi ai.below;have bj:=Hi (g.o w9 v9 (Below.trans (jU _ _).drew ai.below) (aQ.rowK0 (λx=>by simp[enV]) ai));obtain⟨c5,bR,rfl,_⟩:=aQ.form;clear aQ ai)
    |(go_at_call 140;refine bj.o.mono ?_;rintro e' c2 ⟨rfl,aF⟩;have ae:=Hi (an.o.trans (aF.mono an.o.size));clear aF))
   have aC:=Hi (V.o.drew.callB ae.o);clear am Z g bj an ae V;refine aC.o.nameE (P:=prog) ?_;clear aC;intro a9 L;have HL:Hy (∀(W:World),Below a9.drew.heap.size a9.drew W->OV W b5 0 (OQ bd)):=Hi (by
    intro W H;have s:=(L.drew.callB H).rest.tail.appR.tail;rw[K.o]at s;exact s.tail.tail.tail.cellH 0)
   have aD:=Hi (HN.o a9.drew L.drew.below);have aB:=Hi (λ(W:World) (H:Below a9.drew.heap.size a9.drew W)=>a7.o W (L.drew.callB H));have bi:Hy (∀(W:World),Xa W0 bd bm D2 ((b,.cells #[OI o.width,OI (k:Int),OI bk,OI i.lo,OI i.hi,OI 0] 212)::(Fs++((d,.cells #[.slice r k p] 93)::R))) W->OV W b5 0 (OQ bd)):=Hi (by
    intro W H;have s:=H.rest.tail.appR.tail;rw[K.o]at s;exact s.tail.tail.tail.cellH 0)
   clear L a7;go_upto_region 19 with(fail)
   go_region_held3 (λw'=>w'.cell? ⟨b5,0,none⟩=some (.pointer (some ⟨bd,0,none⟩))) (first|with_reducible exact bi.o _ ab.o|with_reducible exact HL.o _ aa.o|with_reducible exact HL.o _ (jU _ _)|(go_keep;done)) (first
    |(go_at_call 146;refine MR aD.o λc9 aa=>?_)
    |(go_at_call 145;refine MR (aB.o _ aa.o) λbZ ab=>?_))
   clear aD aB HL bi aa;refine ab.o.nameE (P:=prog) ?_;clear ab;intro aT bn;obtain⟨om,fl,ac,hS⟩:=bn;obtain⟨X,hX⟩:∃X:va,X=Zb bd bm om fl D2++((b,.cells #[OI o.width,OI (k:Int),OI bk,OI i.lo,OI i.hi,OI 0] 212)::R):=⟨_,rfl⟩;have N:St W0 aT (Fs++((d,.cells #[.slice r k p] 93)::X)):=hS.pm λx=>by rw[hX];simp only[xa,ya,OI,OT,OQ];omega
   obtain⟨HX,aX⟩:=Hi2 hX ac;have aE:=Hi (HN.o aT.drew N.drew.below);have bN:=N.mid.cellH 0;have aJ:=Hi N;obtain⟨i0,hi,z,hz,aj,bK,b0,bC,bF⟩:=V4;have au:(k+1)*b0<=140737488355328:=jI (Jg (show k+1<=200 by omega) bF) (by decide);have bI:k+1<=maxLen:=by unfold maxLen;omega
   clear hS N hX ac HN;go_upto_region 21 with(fail)
   refine wp_region_noPanic ?_;refine wp_region_held_drew (S:=(λw'=>True)) (by kernel_rfl) (by (try dsimp only)<;>(exact trivial)) λhHq=>?_;refine' TK 1 rfl ?_ ?_;rotate_left;intro wq hwq;go_simp<;>rfl;(try simp only[Act.put,jf,ji,jj]);refine' TK 2 rfl ?_ ?_;rotate_left;intro wq hwq;go_simp<;>rfl;(try simp only[Act.put,jf,ji,jj]);refine B2 0 3 (by kernel_rfl) rfl rfl (λKq hKq=>?_) (λKq hKq=>?_);go_simp;refine hKq.out _ _ (by assumption) λhHq=>?_;clear hKq Kq;(try simp only[Act.put,jf,ji,jj]);refine BR 3 (by kernel_rfl) rfl λKq hKq=>?_;go_simp;(go_at_call 146;refine aE.o.mono ?_;rintro e' aR ⟨rfl,aH⟩;have O:=aJ.o.drew.callB aH;have p0:=O.mid.cellH 0;have bG:∀ob,(aR.alloc ob).cell? ⟨d,0,none⟩=some (.slice r k p):=λob=>(O.alloc ob).tail.mid.cellH 0;have aI:=Hi O;clear aH O);refine hKq.out _ _ (by (try dsimp only)<;>(exact trivial)) λhHq=>?_;clear hKq Kq;(try simp only[Act.put,jf,ji,jj]);refine BR 4 (by kernel_rfl) rfl λKq hKq=>?_;go_simp;refine hKq.out _ _ (by (try dsimp only)<;>(exact trivial)) λhHq=>?_;clear hKq Kq;(try simp only[Act.put,jf,ji,jj]);rotate_left;go_simp;(go_at_call 146;refine aE.o.mono ?_;rintro e' aR ⟨rfl,aH⟩;have O:=aJ.o.drew.callB aH;have p0:=O.mid.cellH 0;have bG:∀ob,(aR.alloc ob).cell? ⟨d,0,none⟩=some (.slice r k p):=λob=>(O.alloc ob).tail.mid.cellH 0;have aI:=Hi O;clear aH O);refine hKq.out _ _ (by (try dsimp only)<;>(exact trivial)) λhHq=>?_;clear hKq Kq;(try simp only[Act.put,jf,ji,jj]);refine B2 0 4 (by kernel_rfl) rfl rfl (λKq hKq=>?_) (λKq hKq=>?_);go_simp;refine hKq.out _ _ (by assumption) λhHq=>?_;clear hKq Kq;(try simp only[Act.put,jf,ji,jj]);refine BR 4 (by kernel_rfl) rfl λKq hKq=>?_;go_simp;refine hKq.out _ _ (by (try dsimp only)<;>(exact trivial)) λhHq=>?_;clear hKq Kq;(try simp only[Act.put,jf,ji,jj]);rotate_left;go_simp;refine hKq.out _ _ (by (try dsimp only)<;>(exact trivial)) λhHq=>?_;clear hKq Kq;(try simp only[Act.put,jf,ji,jj]);refine BR 0 (by kernel_rfl) rfl λKq hKq=>?_;go_simp;refine hKq.out _ _ (by assumption) λhHq=>?_;clear hKq Kq;(try simp only[Act.put,jf,ji,jj]);rotate_left;(all_goals (refine BR 5 (by kernel_rfl) rfl λKq hKq=>?_;(refine Zn (by rfl) _ _ 93 (by rfl) 9 i0 z 1 b0 underlying93 hi hz aj bC bK (by decide) (.slice r k p) k _ Fs _ (by rfl) bM.o 1 aR.heap.size [OT nm] (aI.o.alloc _) (by rfl) (by rfl) (qan nm) (by decide) bI au ?_;intro bc a6 bp bE aG Q;have bw:=Hi aG;have p1:=Q.mid.cellH 0;have p2:=Q.mid.freeH 0;have ay:=Hi (Q.mid.set 0 (.slice (some ⟨bc,0,none⟩) (k+1) a6));clear aG Q);refine hKq.out _ _ (by (try dsimp only)<;>(exact trivial)) λhHq=>?_;clear hKq Kq;(try simp only[Act.put,jf,ji,jj]);refine BR 6 (by kernel_rfl) rfl λKq hKq=>?_;go_simp;refine hKq.out _ _ (by (try dsimp only)<;>(exact trivial)) λhHq=>?_;clear hKq Kq;(try simp only[Act.put,jf,ji,jj]);refine wpAnyH_done (by kernel_rfl) ?_ _;refine NoPanic.normal ?_))
   all_goals
    refine ay.o.nameE (P:=prog) ?_;clear p0 bG p1 p2 aI aJ bN aE ay;intro c8 az;have aY:=Hi az;clear az;go_wp2_with fail;refine⟨⟨k+1,some ⟨bc,0,none⟩,a6,bE,(k:Int),bk,by omega,by go_num,?_,?_⟩,by simp[intOf];omega⟩
    .have:=bw.o;rw[b3.o,jD];exact this
    .rw[b4];exact⟨om,fl,aX.o,aY.o.pm λx=>by rw[HX.o];simp only[xa,ya,OI,OT,OQ,Array.setIfInBounds];simp;omega⟩
  .obtain rfl:k=T:=by omega
   have a:=y.o.rest;rw[K.o]at a;have p0:=a.appR.tail.tail.cellH 0;have p1:=a.appR.tail.tail.freeH 0;obtain⟨om,fl,ac,hS⟩:=y.o;have HF:Hy (St W0 (wr.setCell ⟨t,0,none⟩ (OI 0)) ((t,.cells #[OI 0] 30)::(Zb bd bm om fl (D.tabsTo o i l k)++(F++M)))):=Hi (by
    have h1:St W0 wr ((t,.cells #[OI 0] 30)::(Zb bd bm om fl (D.tabsTo o i l k)++(F++M))):=(hS.pmSub (D:=Fs++((d,.cells #[.slice r k p] 93)::(b,.cells #[OI o.width,OI tb,OI bt,OI i.lo,OI i.hi,OI 0] 212)::(b8,.cells #[OI (n:Int),OI i.lo,OI i.hi,OI i.count] 141)::(E,.cells #[OI o.width,OI o.chunks,OI o.mode] 23)::(b5,.cells #[OQ bd] 27)::F7)) λx=>by rw[K.o];simp only[xa,ya,OI,OT,OQ];omega);exact h1.set 0 (OI 0))
   have aX:=Hi ac;clear a hS ac y;go_wp2_with fail;refine HF.o.nameD ?_;clear HF p0 p1;intro bz av;have b2:OV bz t 0 (OI 0):=av.cellH 0;refine leaves_cons (f:=142) (args:=#[OQ t,OQ d,OQ b5]) (by simp) (by simp[go_sem]) ?_;refine(Ya9 bz .returning t d b5 b2).mono ?_;rintro e u' c1 ⟨rfl,rfl,rfl⟩;refine⟨OI 0,?_,?_⟩
   .simp[results,results88,go_sem,b2]
   .rw[A.o];exact⟨rfl,om,fl,aX.o,av.tail⟩
structure VD (w:World) (C:Nat) (m:Mf) (rv:Value):Prop where
 k0:w.cell? ⟨C,0,none⟩=some (.int .i64 m.o.width)
 k1:w.cell? ⟨C,1,none⟩=some (.int .i64 m.o.chunks)
 k2:w.cell? ⟨C,2,none⟩=some (.int .i64 m.o.mode)
 k3:w.cell? ⟨C,3,none⟩=some (.int .i64 m.seq)
 k4:w.cell? ⟨C,4,none⟩=some (.int .i64 m.next)
 k5:w.cell? ⟨C,5,none⟩=some (.int .i64 m.journal)
 k6:w.cell? ⟨C,6,none⟩=some rv
theorem VD.of{m:Mf}{rv:Value}(h:St V W F)(a:(n,Obj.cells (mfV m rv).toArray 64 (0,0))∈F):VD W n m rv :=
 ⟨h.rd a rfl,h.rd a rfl,h.rd a rfl,h.rd a rfl,h.rd a rfl,h.rd a rfl,h.rd a rfl⟩
theorem Ybn(m:Mf)(b:Value)(h:VD w c m b)(a:m.good):Calls prog 57 #[za c] w (Ret (.bool true) w):=by
 have k:=h.k3;have d:=Hi (λW=>qI W m.seq 0 1152921504606846976 a.s0 a.s1);unfold za;go_enter func57,ntmps57;go_wp2_with (go_at_call 58;refine MQ (d.o _) ?_);go_ret;exact⟨rfl,rfl⟩
theorem Xbn(m:Mf)(b:Value)(h:VD w c m b)(a:m.good):Calls prog 59 #[za c] w (Ret (.bool true) w):=by
 have k:=h.k4;have d:=Hi (λW=>qI W m.next 2 1099511627776 a.n0 a.n1);unfold za;go_enter func59,ntmps59;go_wp2_with (go_at_call 58;refine MQ (d.o _) ?_);go_ret;exact⟨rfl,rfl⟩
theorem Vbn(m:Mf)(b:Value)(h:VD w c m b)(a:m.good):Calls prog 60 #[za c] w (Ret (.bool true) w):=by
 have k:=h.k4;have j:=h.k5;have i:=a.n0;have f:=a.n1;have d:=Hi (λW=>qI W m.journal 1 (m.next-1) a.j0 a.j1);unfold za;go_enter func60,ntmps60;go_wp2_with (go_at_call 58;refine MQ (d.o _) ?_);go_ret;exact⟨rfl,rfl⟩
theorem Qbn(m:Mf)(d:Option Addr)(a:Nat)(h:VD w c m (.slice d m.runs.length a))(b:m.good):Calls prog 61 #[za c] w (Ret (.bool true) w):=by
 have k:=h.k6;have e:(m.runs.length:Int)<=24:=by have:=b.len;omega
 unfold za;go_enter func61,ntmps61;go_wp2_with fail;go_ret;exact⟨rfl,rfl⟩
theorem zbo(m:Mf)(f:Option Addr)(b:Nat)(h:VD w c m (.slice f m.runs.length b))(g:m.good)(a:qe riV 4 w (.slice f m.runs.length b) m.runs):Calls prog 62 #[za c] w (Vd (.bool true) w):=by
 obtain⟨p,j,k,l,r,s,q⟩:=h;have e:=Hi (qaL w m _ g a);unfold mfV at e;unfold za;go_enter func62,ntmps62;go_wp2_with (go_at_call 63;refine MR e.o λn i=>?_);go_ret;exact⟨rfl,i.o⟩
theorem Qaf(m:Mf)(rv:Value)(D:m.good)(f:qe riV 4 w rv m.runs):Calls prog 23 #[.agg (mfV m rv).toArray] w (Vd (OI 0) w):=by
 obtain⟨z,c,x,V,Q,_⟩:=id f;subst x;have i:=(St.refl w).alloc (.cells (mfV m (.slice z m.runs.length c)).toArray 64);obtain⟨C,v⟩:=EN w.heap.size;rw[<-v]at i;obtain⟨n,M,p,T⟩:=Hi4 i v D f;have A:=Hi (λW=>YaD W m.o D.o);have R:∀(fn:Fn) (first c:Array Value) (w:World),(Instr.makeFunc fn first c).run prog w=.ok (.func fn first c) w:=λ_ _ _ _=>rfl
 clear i v D f;unfold xf at A;unfold mfV at n|-
 go_enter func23,ntmps23;go_upto_region 1 with(fail)
 rw[<-M.o];refine n.o.nameC ?_;clear n M;intro u i;obtain⟨S,P,U⟩:=i.k3 0 1 2;have n:=Hi i;clear i;go_upto_region 4 with(go_at_call 56;refine(A.o _).mono ?_;rintro q X ⟨rfl,r⟩;have t:=Hi (n.o.callB r);clear r)
 clear S P U A n;have d:=t.o.alloc (.cells #[.func (.func 57) #[] #[OQ C],.func (.func 59) #[] #[OQ C],.func (.func 60) #[] #[OQ C],.func (.func 61) #[] #[OQ C],.func (.func 62) #[] #[OQ C]] 25);obtain⟨B,F⟩:=EN X.heap.size;rw[<-F]at d;obtain⟨h,L⟩:=Hi2 d F;clear d F;go_upto_region 5 with(fail)
 rw[<-L.o];refine h.o.nameC ?_;clear t h L;intro H d;have h:=Hi d;clear d;go_loopw [19] (λiv wr=>∃(k:Nat),k<=5/\iv=OI (k:Int)/\Below H.heap.size H wr) (λiv _=>5-(intOf iv).toNat)
 case atStart=>exact⟨0,by omega,rfl,jU _ _⟩
 case round =>
  obtain⟨k,Y,rfl,y⟩:=hrel;have a:=h.o.callB y;have e:VD wr C m (.slice z m.runs.length c):=VD.of a (jb _ jc);have g:qe riV 4 wr (.slice z m.runs.length c) m.runs:=T.o.below a.below (jm _);obtain⟨l,j,b2,b3,b4⟩:=a.k5 0 1 2 3 4;have N:=Hi (Ybn wr C m _ e p.o);have O:=Hi (Xbn wr C m _ e p.o);have J:=Hi (Vbn wr C m _ e p.o);have K:=Hi (Qbn wr C m _ _ e p.o);have I:=Hi (zbo wr C m _ _ e p.o g);obtain⟨E,b⟩:=Hi2 a y;unfold za at N O J K I;clear a e g y;rcases k with _|_|_|_|_|k
  .change OV wr B 0 (.func (.func 57) #[] #[OQ C])at l;clear j b2 b3 b4;go_wp2_with (go_at_call 57;refine MQ N.o ?_);exact⟨⟨1,by omega,by go_num,b.o⟩,by simp[intOf]⟩
  .change OV wr B 1 (.func (.func 59) #[] #[OQ C])at j;clear l b2 b3 b4;go_wp2_with (go_at_call 59;refine MQ O.o ?_);exact⟨⟨2,by omega,by go_num,b.o⟩,by simp[intOf]⟩
  .change OV wr B 2 (.func (.func 60) #[] #[OQ C])at b2;clear l j b3 b4;go_wp2_with (go_at_call 60;refine MQ J.o ?_);exact⟨⟨3,by omega,by go_num,b.o⟩,by simp[intOf]⟩
  .change OV wr B 3 (.func (.func 61) #[] #[OQ C])at b3;clear l j b2 b4;go_wp2_with (go_at_call 61;refine MQ K.o ?_);exact⟨⟨4,by omega,by go_num,b.o⟩,by simp[intOf]⟩
  .change OV wr B 4 (.func (.func 62) #[] #[OQ C])at b4;clear l j b2 b3;go_wp2_with (go_at_call 62;refine I.o.mono ?_;rintro q w' ⟨rfl,s⟩;have G:=Hi (b.o.trans (s.mono b.o.size));clear s);exact⟨⟨5,by omega,by go_num,G.o⟩,by simp[intOf]⟩
  .obtain rfl:k=0:=by omega
   clear l j b2 b3 b4;go_wp2_with fail;go_ret;exact⟨rfl,E.o.below⟩
end Go.Proofs.YtekkihmmclencaaGreatDoor
