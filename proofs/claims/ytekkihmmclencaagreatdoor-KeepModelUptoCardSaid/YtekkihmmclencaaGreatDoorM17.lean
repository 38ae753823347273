import Derived.Test.YtekkihmmclencaaGreatDoorM16
namespace Go.Proofs.YtekkihmmclencaaGreatDoor
set_option linter.all false
set_option maxRecDepth 100000
set_option maxHeartbeats 40000000
open Tryz
open Go Go.RowKit Go.Sort
variable(U w:World)(q c:Nat)(J:Kp){W V:World}{n b k:Nat}{F:va}{s t:Bs}{K:Kp}{d:Dk}{o:Op3}{l:List En}
theorem XaW(h:d.Fits)(n b:Bs):(d.fileM n b).1.Fits:=by
 have a:=Qu h n;have c:=zv a n b;unfold Dk.fileM;split
 .exact a
 .split
  .exact c
  .exact QE c n
theorem VaW(h:(d.fileM s t).2.2=0):(d.fileM s t).2.1=true:=by
 unfold Dk.fileM at *;split<;>rename_i a
 .rw[jh a]at h;exact absurd h a
 .split<;>rfl
theorem qaf(o:Op3)(i:RI)(l:List En):∀(js ks:List Nat) (d:Dk) (made:List Bs),
  Dk.writeTabs o i l (js++ks) d made=if(Dk.writeTabs o i l js d made).2.2≠0 then Dk.writeTabs o i l js d made else Dk.writeTabs o i l ks (Dk.writeTabs o i l js d made).1 (Dk.writeTabs o i l js d made).2.1
 |[],ks,d,made=>by simp[Dk.writeTabs]
 |j::js,ks,d,made=>by
  simp only[jO,Dk.writeTabs];by_cases h:(d.fileM (Ve i.number.toNat j) (Zp o i l j)).2.2≠0
  .rw[jh h];simp only[jh h]
  .rw[jd h,qaf o i l js ks];simp only[jd h]
theorem Q4(o:Op3)(i:RI)(l:List En):∀(js:List Nat) (d:Dk) (made:List Bs),d.Fits->(Dk.writeTabs o i l js d made).1.Fits
 |[],d,made,h=>h
 |j::js,d,made,h=>by
  have a:=XaW h (Ve i.number.toNat j) (Zp o i l j);simp only[Dk.writeTabs];split
  .exact a
  .exact Q4 o i l js _ _ a
def Dk.tabsTo(d:Dk)(o:Op3)(i:RI)(l:List En)(k:Nat):Dk:=(Dk.writeTabs o i l (List.range k) d []).1
theorem zaE(h:d.Fits)(o:Op3)(i:RI)(l:List En)(k:Nat):(d.tabsTo o i l k).Fits:=Q4 o i l _ _ _ h
theorem Xar{i:RI}(h:(Dk.writeTabs o i l (List.range n) d []).2.2=0)(b:k<=n):(Dk.writeTabs o i l (List.range k) d []).2.2=0:=by
 have a:List.range n=List.range k++(List.range (n-k)).map (k+·):=by rw[<-List.range_add];congr 1;omega
 rw[a,qaf]at h;by_cases h0:(Dk.writeTabs o i l (List.range k) d []).2.2≠0
 .rw[jh h0]at h;exact h
 .exact kX.1 h0
theorem yaE{i:RI}(h:(Dk.writeTabs o i l (List.range n) d []).2.2=0)(j:k<n):
  (d.tabsTo o i l k).fileM (Ve i.number.toNat k) (Zp o i l k)=(d.tabsTo o i l (k+1),true,0):=by
 have p:=Xar h (Kr j);have g:=Xar h (show k+1<=n by omega);unfold Dk.tabsTo;rw[Ue,qaf,jd (by rw[p];simp)]at g|-
 obtain⟨X,q⟩:=NE ((Dk.writeTabs o i l (List.range k) d []));rw[q]at g|-
 simp only[Dk.writeTabs]at g|-
 by_cases he:(X.1.fileM (Ve i.number.toNat k) (Zp o i l k)).2.2≠0
 .rw[jh he]at g;exact absurd g he
 .rw[jd he];have e:=kX.1 he;have f:=VaW e;obtain⟨⟨a,b,c⟩,m⟩:=NE (X.1.fileM (Ve i.number.toNat k) (Zp o i l k));rw[m]at e f|-
  simp only at e f;rw[e,f]
theorem yau{i:RI}(a:d.off=false)(h:(d.writeRun o i l).2=0):(Dk.writeTabs o i l (List.range (Qd o)) d []).2.2=0/\(d.writeRun o i l).1=d.tabsTo o i l (Qd o):=by
 unfold Dk.writeRun at h|-
 rw[a]at h|-
 simp only[JD,Jb]at h|-
 by_cases h0:(Dk.writeTabs o i l (List.range (Qd o)) d []).2.2=0
 .exact⟨h0,by rw[jh (.inl h0)];rfl⟩
 .by_cases h1:(Dk.writeTabs o i l (List.range (Qd o)) d []).2.2=45
  .rw[jh (.inr h1)]at h;exact absurd h h0
  .rw[jd (by rintro(b|b)<;>contradiction)]at h;exact absurd h h0
theorem xaE(c:n<=1099511627776)(b:k<=1000):(Ve n k).length<=1000000:=by
 rw[xaf];have a:=Zq (n:=n) (by omega);have d:=Zq (n:=k) (by omega);simp only[ja,jk,jA];omega
def vaH(h:Hd)(l:List En)(w:World)(e:Ending)(w':World):Prop:=∃f:FlH,f.h=h/\f.l=l/\f.ok/\e=.returned (za f.b)/\St w w' f.frag
theorem ybg(D:Dk)(M:va)(n:Bs)(f:zc)(h:Hd)(l:List En)(Q:Xa U q c D M w)(Y:D.Wf)(Z:D.off=false)(hn:Zf n=true)(X:D.get n=some f)(hf:f.data=Xk h l)(k:Vm h l=0)(hc:h.count=l.length)(ht:zg U):
  Calls prog 147 #[za q,qa n,.agg (hdV h).toArray] w (vaH h l w):=by
 have H:n.length<=1000000:=by
  unfold Zf at hn;simp only[Uf,jG]at hn;omega
 have s:D.look n=0:=by unfold Dk.look;rw[Z,hn,X];rfl
 have I:=QZ k;have a1:=(QA.of k).many;rw[<-hf]at I;have F:D.size n=((f.data.length:Int),0):=by unfold Dk.size;rw[X];simp only;rw[jd (by rw[s];decide)]
 have L:D.read n 0 (f.data.length:Nat)=(f.data,0):=by
  unfold Dk.read;rw[X];simp only;rw[jd (by rw[s];decide),jd (by omega)];simp
 have i:=Hi (λW (k:Below w.heap.size w W)=>XN (Q.callB k) n H);have g:=Hi (λW (k:Below w.heap.size w W)=>xan (Q.callB k) Y n f.data.length (by omega) H);rw[F]at i;rw[L]at g;have j:=Hi (λW (hb':Below w.heap.size w W)=>xbm W h l k hc (ht.below (Q.callB hb').below (jm _)));rw[<-hf]at j;obtain⟨b,P⟩:=NE f.data;rw[P]at i g j;have r:=(St.refl w).alloc (.cells (hdV h).toArray 212);obtain⟨C,V⟩:=EN w.heap.size;rw[<-V]at r;obtain⟨B,HC⟩:=Hi2 r V;have u:=Hi (λ(W:World) (x:FlH) (U:World) (M:va) (hS:St U W (x.frag++M))=>ybf W x U M hS);clear Q F L s I hf P r V ht hc k;unfold Ret at i g;unfold YP at j;unfold hdV at B|-
 unfold za qa at *;go_enter func147,ntmps147;go_upto_region 1 with(fail)
 rw[<-HC.o];refine B.o.nameC ?_;clear B HC;intro T r;have B:=Hi r;have z:=Hi (i.o T r.below);have G:=Hi (g.o T r.below);have N:=Hi (j.o T r.below);clear r i g j;go_upto_region 8 with(first
  |(go_at_call 25;refine MQ z.o ?_)
  |(go_at_call 91;refine MQ G.o ?_)
  |(go_at_call 212;refine N.o.mono ?_;rintro e' m ⟨x,J,t,O,rfl,a⟩;have R:=Hi (jy J (jy t O));have A:=Hi (B.o.call a);have a2:=Hi a;clear J t O a))
 have a:=A.o;obtain⟨k0,k1,k2,k3,k4,k5⟩:=a.appR.k6 0 1 2 3 4 5;have f0:=λd e=>jH k0 d e
 have f1:=λd e=>jH k1 d e
 have f2:=λd e=>jH k2 d e
 have f3:=λd e=>jH k3 d e
 have f4:=λd e=>jH k4 d e
 have f5:=λd e=>jH k5 d e
 have p:=Hi (λW (k:Below m.heap.size m W)=>u.o W x w _ (a.callB k));rw[R.o.1]at p;unfold hdV at p;clear a z G N u;refine Jq (by kernel_rfl) (by kernel_rfl) ?_
 repeat(go_big_quiet_step ((go_at_call 213;exact Jh (p.o _ (Jo _ _ _)))))
 refine Ub ?_;intro _ S;obtain⟨⟨dq,v⟩,K⟩:=S;subst K;have y:=Hi (Jo m dq v);obtain⟨w3,E⟩:=NE (grow (redrawn m dq) v);rw[E]at y|-
 have a0:=Hi (A.o.callB y.o);clear E f0 f1 f2 f3 f4 f5 k0 k1 k2 k3 k4 k5 p;go_wp2_with fail;go_ret;exact⟨x,R.o.1,R.o.2.1,R.o.2.2,rfl,a0.o.appL⟩
theorem QaW(D:Dk)(M:va)(n:Nat)(o:Op3)(h:Qb o=0)(n0:1<=n)(n1:n<=1099511627776)(hD:Xa U q c D M w)(hf:D.Fits)(ht:vi U):
  Calls prog 169 #[za q,OI (n:Int),.agg (xf o).toArray] w (qh U q c M (OI (D.deleteRun o (n:Int)).2) (D.deleteRun o (n:Int)).1):=by
 have s:=hD.alloc (.cells (xf o).toArray 23);obtain⟨C,V⟩:=EN w.heap.size;rw[<-V]at s;obtain⟨F,HC⟩:=Hi2 s V;have HG:=Hi (λW=>zaa W (n:Int) o h (by omega) (by omega));have N:=Hi (λW=>QR W o h);obtain⟨t0,t1⟩:=Yj h;obtain⟨RR,g⟩:=NE (D.deleteRun o (n:Int));rw[g];unfold Dk.deleteRun at g;unfold vl at N;rw[qv]at N;obtain⟨T,hT⟩:=NE (Qd o);rw[hT]at N t0 t1 g;simp only[JL]at g;obtain⟨a1,HF⟩:=Hi2 g hf;clear s V g hT hD hf;unfold xf at *;unfold za;go_enter func169,ntmps169;go_upto_region 1 with(fail)
 rw[<-HC.o];refine F.o.nameC ?_;clear F HC;intro S s;obtain⟨k0,k1,k2⟩:=s.rest.k3 0 1 2;have F:=Hi s;clear s;go_upto_region 4 with(go_at_call 139;refine(HG.o _).mono ?_;rintro u w2 ⟨rfl,K⟩;have v:=Hi (F.o.callB K);clear K)
 have P:=v.o.rest;obtain⟨q0,q1,q2⟩:=P.k3 0 1 2;clear P k0 k1 k2 HG F;go_upto_region 5 with(go_at_call 143;refine(N.o _).mono ?_;rintro u w3 ⟨v3,F3,rfl,E,J⟩;obtain⟨a5,a3,rfl,_⟩:=E.form;have Z:=Hi ((v.o.call J).pmSub (M':=M) (X:=F3++[(C,.cells #[OI o.width,OI o.chunks,OI o.mode] 23)]) (CN));clear E J)
 clear q0 q1 q2 N v;go_loopw [19] (λiv wr=>∃(k:Nat) (B:Dk),k<=T/\iv=OI (k:Int)/\B.Fits/\Xa U q c B M wr/\Dk.deleteTabs n ((List.range T).drop k) B=RR) (λiv _=>T-(intOf iv).toNat)
 case atStart=>exact⟨0,D,jX _,rfl,HF.o,Z.o,a1.o⟩
 case round =>
  obtain⟨k,B,hk,rfl,y,j,a⟩:=hrel;have a6:(0:Int)<=(k:Int):=by omega
  by_cases hlt:k<T
  .have z:(List.range T).drop k=k::(List.range T).drop (k+1):=by
    rw[jR (by simpa using hlt)];simp
   rw[z]at a;simp only[Dk.deleteTabs]at a;have G:=xaE (n:=n) (k:=k) n1 (by omega);have I:=Hi (yaa wr n k n1 (by omega) (ht.below j.below (jm _)));have f:=Hi (λW hb=>ZI (j.callB (W':=W) hb) y (Ve n k) G);have p:=Ys y (Ve n k);obtain⟨Y,L⟩:=NE (Ve n k);rw[L]at a I f p;obtain⟨⟨D2,t⟩,A⟩:=NE (B.delete Y);rw[A]at a f p;simp only at a f p;have H:=Hi p;have a4:(k:Int)<(T:Int):=by omega
   unfold qh za at f;unfold qa at f I;clear z G y j L A p;by_cases hbad:t≠0/\t≠42
   .rw[jh hbad]at a;have i:=Hi a;obtain⟨e1,e2⟩:=hbad;clear a;have a2:¬ (t=0):=e1;have R:¬ (t=42):=e2;clear e1 e2;have e3:(t != 0)=true:=by simpa using a2
    have e4:(t != 42)=true:=by simpa using R
    go_wp2_with (first
     |(go_at_call 146;refine MR I.o λw5 l=>?_)
     |(go_at_call 29;refine MR (f.o _ l.o) λw6 m=>?_))
    go_ret;rw[<-i.o];exact⟨rfl,m.o⟩
   .rw[jd hbad]at a;have i:=Hi a;clear a;rcases Decidable.em (t=0)with O|O
    .subst O;go_wp2_with (first
      |(go_at_call 146;refine MR I.o λw5 l=>?_)
      |(go_at_call 29;refine MR (f.o _ l.o) λw6 m=>?_))
     exact⟨⟨k+1,D2,by omega,by go_num,H.o,m.o,i.o⟩,by simp[intOf];omega⟩
    .have Q:t=42:=by
      rcases Decidable.em (t=42)with e|e
      .exact e
      .exact absurd ⟨O,e⟩ hbad
     subst Q;clear hbad O;go_wp2_with (first
      |(go_at_call 146;refine MR I.o λw5 l=>?_)
      |(go_at_call 29;refine MR (f.o _ l.o) λw6 m=>?_))
     exact⟨⟨k+1,D2,by omega,by go_num,H.o,m.o,i.o⟩,by simp[intOf];omega⟩
  .obtain rfl:k=T:=by omega
   have z:(List.range k).drop k=[]:=Ut (by simp);rw[z]at a;simp only[Dk.deleteTabs]at a;obtain⟨i,a0⟩:=Hi2 a j;clear a j z;go_wp2_with fail;go_ret;rw[<-i.o];exact⟨rfl,a0.o⟩
def Var(o:Op3)(i:RI)(l:List En)(w:World)(e:Ending)(w':World):Prop:=∃x:vd,x.r=⟨i,l⟩/\x.ok o/\e=.returned (.tuple #[za x.b,.int .i64 0])/\St w w' (x.frag o)
def Yan(o:Op3)(l:List En)(k:Nat)(fv:Value)(F0:va):Prop:=(k=0/\fv=.slice none 0 0/\F0=[])\/(0<k/\Rw 137 5 fv l.length ((Qc o 0 l).flatMap enV) F0)
def YL(o:Op3)(i:RI)(v:Value)(dead:Int):Array Value:=#[.int .i64 o.width,.int .i64 o.chunks,.int .i64 o.mode,.int .i64 i.number,.int .i64 i.lo,.int .i64 i.hi,.int .i64 i.count,v,.int .i64 dead]
theorem vaA(o:Op3)(i:RI)(v a:Value)(d:Int):(YL o i v d).setIfInBounds 7 a=YL o i a d:=rfl
theorem yC{a i c d e f g:Value}(h:St V W F)(k:(n,Obj.cells #[a,i,c] 23)∈F)(j:(b,Obj.cells #[d,e,f,g] 141)∈F):
  OV W n 0 a/\OV W n 1 i/\OV W n 2 c/\OV W b 0 d/\OV W b 1 e/\OV W b 2 f/\OV W b 3 g :=
 ⟨h.rd k rfl,h.rd k rfl,h.rd k rfl,h.rd j rfl,h.rd j rfl,h.rd j rfl,h.rd j rfl⟩
theorem Qar:∃i,prog.info? 201=some i/\∃z,i.zero=some z/\i.size=1/\z.cells.size=1/\∃by_,i.bytes=by_/\by_<=128:=by
 have h:(prog.info? 201).map (λi=>(i.zero.map (λz=>z.cells.size),i.size,decide (i.bytes<=128)))=some (some 1,1,true):=by kernel_rfl
 obtain⟨i,e,b⟩:=jL.1 h;simp only[Je,jL,jG]at b;obtain⟨⟨z,f,a⟩,c,d⟩:=b;exact⟨i,e,z,f,c,a,_,rfl,d⟩
theorem Xan(W0 w:World)(bd bm:Nat)(D:Dk)(M:va)(o:Op3)(i:RI)(l:List En)(d:ym o i l)(hD:Xa W0 bd bm D M w)(bD:D.Wf)(aY:D.off=false)(a3:∀j,j<Qd o->∃f,D.get (Ve i.number.toNat j)=some f/\f.data=Zp o i l j)(ht:vi W0)(hc:zg W0):
  Calls prog 89 #[za bd,.agg (xf o).toArray,.agg (riV i).toArray] w (Var o i l w):=by
 obtain⟨n,hn⟩:∃n:Nat,i.number=(n:Int):=⟨i.number.toNat,by have:=d.n0;omega⟩;have bj:=d.n0;have aX:=d.n1;rw[hn]at bj aX;have ar:=Hi a3;rw[show i.number.toNat=n by omega]at ar;have hA:=((St.refl w).alloc (.cells (xf o).toArray 23)).alloc (.cells (riV i).toArray 141);rw[jF]at hA;obtain⟨B,hB⟩:=EN w.heap.size;rw[<-hB]at hA;obtain⟨HA,HB⟩:=Hi2 hA hB;have HG:=Hi (λW=>zaa W (n:Int) o d.opt (by omega) (by omega));have HT:=Hi (λW=>QR W o d.opt);have ao:=Hi (λW (Q:Below w.heap.size w W)=>XG W bd D.off (hD.callB Q).off);rw[aY]at ao;have b7:=Hi (λW (Q:Below w.heap.size w W)=>hD.callB (W':=W) Q);obtain⟨t0,t1⟩:=Yj d.opt;obtain⟨T,hT⟩:=NE (Qd o);unfold vl at HT;rw[qv,hT]at HT;rw[hT]at ar t0 t1;have a5:=Hi hT;clear hA hB a3 hT hD;obtain⟨bK,q,p,a⟩:=i;simp only at hn;subst hn;unfold xf riV at HA;unfold xf at HT HG;unfold xf riV;unfold Ret at ao;unfold za at *;go_enter func89,ntmps89;go_upto_region 1 with(fail)
 rw[<-HB.o];obtain⟨b5,h5⟩:=NE (B+1);rw[h5]at HA|-
 clear h5;obtain⟨b4,h4⟩:=NE B;rw[h4]at HA|-
 clear h4 HB;refine HA.o.nameC ?_;clear HA;intro w1 hA;obtain⟨k0,k1,k2,k3,k4,k5,k6⟩:=yC hA (jb _ jc) jc;have HA:=Hi hA;clear hA;go_upto_region 4 with(go_at_call 139;refine(HG.o _).mono ?_;rintro e' w2 ⟨rfl,bg⟩;have aq:=Hi (HA.o.callB bg);clear bg)
 clear k0 k1 k2 k3 k4 k5 k6 HG HA;obtain⟨k0,k1,k2,k3,k4,k5,k6⟩:=yC aq.o (jb _ jc) jc;have av:=Hi (ao.o w2 aq.o.below);clear ao;have a1:=aq.o.alloc (.cells (YL o ⟨(n:Int),q,p,a⟩ (.slice none 0 0) 0) 204);obtain⟨rb,aP⟩:=EN w2.heap.size;rw[<-aP]at a1;obtain⟨a6,b0⟩:=Hi2 a1 aP;clear a1 aP;unfold YL at a6;go_upto_region 7 with(go_at_call 24;refine MQ av.o ?_)
 rw[<-b0.o];refine a6.o.nameC ?_;clear aq a6 b0 av k0 k1 k2 k3 k4 k5 k6;intro w3 a1;obtain⟨k0,k1,k2,k3,k4,k5,k6⟩:=yC a1.tail (jb _ jc) jc;have a6:=Hi a1;clear a1;go_upto_region 9 with(go_at_call 143;refine(HT.o _).mono ?_;rintro e' w4 ⟨v4,F4,rfl,aQ,bp⟩;obtain⟨bX,bM,rfl,bN,_⟩:=aQ.form;have b2:=Hi aQ;have bv:=Hi (a6.o.call bp);clear aQ bp)
 clear a6 HT k0 k1 k2 k3 k4 k5 k6;obtain⟨R,bb⟩:∃R:va,R=(b5,.cells #[OI (n:Int),OI q,OI p,OI a] 141)::(b4,.cells #[OI o.width,OI o.chunks,OI o.mode] 23)::F4:=⟨_,rfl⟩;have au:=Hi bb;clear bb;go_loopw [33,10] (λiv fv wr=>∃(k:Nat) (Y:List FlH) (ad:Option Addr) (cp:Nat) (Ff F0:va) (fw:Value),k<=T/\iv=OI (k:Int)/\fv=fw/\Yan o l k fw F0/\Y.length=k/\(Y.map (λf=>(f.h,f.l))=(List.range k).map λj=>(xM o ⟨(n:Int),q,p,a⟩ j,Qc o j l))/\(∀f∈Y,f.ok)/\Rw 201 1 (.slice ad k cp) k (Y.map λf=>za f.b) Ff/\St w wr ((rb,.cells (YL o ⟨(n:Int),q,p,a⟩ (.slice ad k cp) 0) 204)::(Ff++(Y.flatMap FlH.frag++(F0++R))))) (λiv _ _=>T-(intOf iv).toNat)
 case atStart=>exact⟨0,[],none,0,[],[],_,jX _,rfl,rfl,.inl ⟨rfl,rfl,rfl⟩,rfl,rfl,by simp,Rw.nil _ _,bv.o.pm λx=>by rw[au.o];simp only[YL,xa,ya,OI,OT,OQ,Ya,Jk];omega⟩
 case round =>
  obtain⟨k,Y,t,r,Ff,F0,fv,hk,rfl,bw,N,aG,aV,aC,aI,hS⟩:=hrel;have bf:=bw.symm;subst bf;obtain⟨az,HS,aA,aU,aD⟩:=Hi5 aI hS aC aV aG;have bV:(0:Int)<=(k:Int):=by omega
  have HP:Hy ((l.map En.pair).Nodup):=Hi (vn d.ord d.zero);by_cases hlt:k<T
  .obtain⟨g4,c4,bA,bc⟩:=b2.o.cells (W0:=w) (W:=wr) (M:=(rb,.cells (YL o ⟨(n:Int),q,p,a⟩ (.slice t k r) 0) 204)::(Ff++(Y.flatMap FlH.frag++(F0++((b5,.cells #[OI (n:Int),OI q,OI p,OI a] 141)::[(b4,.cells #[OI o.width,OI o.chunks,OI o.mode] 23)]))))) (hS.pm λx=>by rw[au.o];simp only[xa,ya,OI,OT,OQ,Ya];omega) (by intro e;have:=jT List.length e;rw[xO,qv,a5.o]at this;simp at this;omega);injection bA with e1 e2 e3
   subst e1;subst e3;clear e2;have d7:OV wr g4 k (OI ((Zr o k:Nat):Int)):=bc _ _ (by simp[xg,xB,Xs,a5.o,hlt]);obtain⟨bZ,c0⟩:(k:Int)<(T:Int)/\(T:Int)<=128:=by omega
   have HL:Hy (∀(W:World),Below wr.drew.heap.size wr.drew W->OV W b4 0 (OI o.width)/\OV W b4 1 (OI o.chunks)/\OV W b4 2 (OI o.mode)/\OV W b5 0 (OI (n:Int))/\OV W b5 1 (OI q)/\OV W b5 2 (OI p)/\OV W b5 3 (OI a)):=Hi (by
    intro W Q;have hs:=(hS.drew.callB Q).tail.appR.appR.appR;rw[au.o]at hs;exact yC hs (jb _ jc) jc)
   have ax:=Hi (b7.o wr.drew hS.below.drew);have HN:=Hi (yaa wr.drew n k (by omega) (by omega) (ht.below ax.o.below (jm _)));obtain⟨ff,b1,b6⟩:=ar.o k hlt;have ba:=vae d (j:=k) (by rw[a5.o];exact hlt);have X:=Hi (λW (Q:Below wr.drew.heap.size wr.drew W)=>ybg W0 W bd bm D M (Ve n k) ff (xM o ⟨(n:Int),q,p,a⟩ k) (Qc o k l) (ax.o.callB Q) bD aY (xae (by omega) (by omega)) b1 b6 ba (by rw[Zh];exact d.count) hc);obtain⟨nm,b3⟩:=NE (Ve n k);rw[b3]at HN X;unfold vaH at X;unfold hdV xM at X;simp only at X;unfold za qa at X;unfold qa at HN;have aS:=Hi N;clear bc b1 b6 ba b3 aI hS aC aV aG N;go_upto_region 11 with(fail)
   go_region_held3 (λw'=>w'.cell? ⟨b4,0,none⟩=some (.int .i64 o.width)/\w'.cell? ⟨b4,1,none⟩=some (.int .i64 o.chunks)/\w'.cell? ⟨b4,2,none⟩=some (.int .i64 o.mode)/\w'.cell? ⟨b5,0,none⟩=some (.int .i64 (n:Int))/\w'.cell? ⟨b5,1,none⟩=some (.int .i64 q)/\w'.cell? ⟨b5,2,none⟩=some (.int .i64 p)/\w'.cell? ⟨b5,3,none⟩=some (.int .i64 a)) (first|with_reducible exact HL.o _ b9.o|with_reducible exact HL.o _ a7.o|with_reducible exact HL.o _ (jU _ _)|(go_keep;done)) (first
    |(go_at_call 146;refine MR HN.o λw5 a7=>?_)
    |(go_at_call 147;refine(X.o _ a7.o).mono ?_;rintro e' w6 ⟨x,bs,b8,bi,rfl,aR⟩;have HX:=Hi (jy bs (jy b8 bi));have b9:=Hi (a7.o.trans (Below.mono aR.below a7.o.size));have ap:=Hi aR;clear bs b8 bi aR))
   have aw:=Hi ((HS.o.drew.callB a7.o).call ap.o);have am:=Hi (xaV w6 x w ((rb,.cells (YL o ⟨(n:Int),q,p,a⟩ (.slice t k r) 0) 204)::(Ff++(Y.flatMap FlH.frag++(F0++R)))) HX.o.2.2 (by rw[HX.o.2.1,Zh];have:=d.len;omega) aw.o);rw[HX.o.2.1]at am;unfold Xe at am;unfold za at am;clear HL HN X a7 b9 ap HS ax d7;go_upto_region 15 with(go_at_call 133;refine am.o.mono ?_;rintro e' w7 ⟨bY,an,rfl,F,aa⟩;have a8:=Hi (aw.o.call aa);have J:=Hi (F.rowK0 (λx=>by simp[enV]) aa);have a4:=Hi F;clear F aa)
   clear am aw;have bo:Hy (∀e∈Qc o 0 l,(e.code.length:Int)=o.width/8):=Hi (λe he=>by
    obtain⟨y,hy,rfl⟩:=yG.1 he;have:=d.code y hy;have:=yM d.opt;show(y.code.length:Int)=_;omega)
   have aW:Hy (((Qc o 0 l).map En.pair).Nodup):=Hi (zA HP.o);have bq:Hy (∀(W:World),Below w7.heap.size w7 W->OV W b4 0 (OI o.width)/\OV W b4 1 (OI o.chunks)/\OV W b4 2 (OI o.mode)/\OV W b5 0 (OI (n:Int))/\OV W b5 1 (OI q)/\OV W b5 2 (OI p)/\OV W b5 3 (OI a)):=Hi (by
    intro W Q;have hs:=(a8.o.callB Q).appR.appR.tail.appR.appR.appR;rw[au.o]at hs;exact yC hs (jb _ jc) jc)
   obtain⟨S,I,rfl,aE,_⟩:=a4.o.form;rw[Zh o k l]at J a4 aE|-
   rcases aS.o with⟨bk,bE,bu⟩|⟨bU,O⟩
   .subst bk;subst bE;subst bu;clear aS;have F:=a4.o;have aH:Hy (Yan o l (0+1) (.slice S l.length I) an):=Hi (.inr ⟨by omega,F⟩);have ag:Hy (qe enV 5 w7 (.slice S l.length I) (Qc o 0 l)):=Hi J.o;have aN:Hy (qt (.slice S l.length I)):=Hi F.vnil;clear F;have A:=Hi (λW Q=>Zan W o 0 _ (Qc o 0 l) d.opt (by rw[a5.o];exact hlt) bo.o aW.o (ag.o.below (B:=w7.heap.size) Q (jm _)) aN.o (by rw[Zh];exact d.len));rw[xac HP.o]at A;have V:=Hi (λW v Q hv=>yar W (.slice S l.length I) v (Qc o 0 l) (J.o.below (B:=w7.heap.size) Q (jm _)) hv (by rw[Zh];have:=d.len;omega));have al:Hy ((Qc o 0 l).length=l.length/\(Qc o 0 l).length=l.length):=Hi ⟨Zh o 0 l,Zh o 0 l⟩;obtain⟨L2,Z⟩:=NE (Qc o 0 l);rw[Z]at A V HX;have aK:=Hi Z;clear Z;unfold Xe at A;unfold xf at A;obtain⟨k0,k1,k2,_⟩:=bq.o w7 (jU _ _);go_upto_region 19 with(first
     |(go_at_call 144;refine(A.o _ (jU _ _)).mono ?_;rintro e' w8 ⟨v8,F8,rfl,U,K⟩;have a0:=Hi K.below;have af:=Hi (V.o w8 v8 K.below (U.rowK0 (λx=>by simp[enV]) K));obtain⟨bC,bt,rfl,_⟩:=U.form;clear U K)
     |(go_at_call 148;refine af.o.mono ?_;rintro e' w9 ⟨rfl,ah⟩;have ai:=Hi (a0.o.trans (ah.mono a0.o.size));clear ah))
    have ab:=a8.o.callB ai.o;have G:St w w9 (Ff++((rb,.cells (YL o ⟨(n:Int),q,p,a⟩ (.slice t 0 r) 0) 204)::(Y.flatMap FlH.frag++(x.frag++(an++R))))):=ab.pm CN;have c7:OV w9 rb 7 (.slice t 0 r):=G.mid.cellH 7;have aT:=Hi G;clear ab G k0 k1 k2 A V af a0 ai a8 J ag;obtain⟨i0,hi,z,hz,ay,aM,ac,aF,aJ⟩:=Qar;have L:(0+1)*ac<=140737488355328:=jI (Jg (show 0+1<=200 by omega) aJ) (by decide);have aL:0+1<=maxLen:=by unfold maxLen;omega
    go_wp2_with (at_builtin;refine xh (W0:=w) (by rfl) _ _ 202 (by rfl) 201 i0 z 1 ac underlying202 hi hz ay aF aM (by decide) (.slice t 0 r) 0 _ Ff _ (by rfl) az.o aT.o 1 w9.heap.size [OQ x.b] (by rfl) (by rfl) (by rfl) (by intro u hu;simp at hu;subst hu;rfl) aL L ?_;intro v' W' F' a2 P;obtain⟨H,s,rfl,_⟩:=a2.form;have ae:=Hi a2;have p0:OV W' rb 7 (.slice t 0 r):=P.mid.cellH 7;have p1:OZ W' rb 7:=P.mid.freeH 7;have a9:=Hi (vaA o ⟨(n:Int),q,p,a⟩ (.slice t 0 r) (.slice H (0+1) s) 0▸P.mid.set 7 (.slice H (0+1) s));clear a2 P);refine⟨⟨0+1,Y++[x],H,s,F',an,_,by omega,by go_num,rfl,aH.o,by rw[ja,aD.o];rfl,?_,?_,?_,?_⟩,by simp[intOf];omega⟩
    .rw[jr,aU.o,Ue,jr];simp only[ju,Jt];rw[HX.o.1,HX.o.2.1,aK.o];rfl
    .intro f hf;rcases jo.1 hf with h1|h1
     .exact aA.o f h1
     .rw[jC.1 h1];exact HX.o.2.2
    .rw[jr];exact ae.o
    .exact a9.o.pmSub (D:=[]) λy=>by simp only[xa,ya,OI,OT,OQ,Ya,jD,jB,Jk];omega
   .clear aS;have aH:Hy (Yan o l (k+1) fv F0):=Hi (.inr ⟨by omega,O⟩);have bl:=O;have ag:Hy (qe enV 5 w7 fv (Qc o 0 l)):=Hi (by
     have:=O;rw[<-Zh o 0 l]at this;exact this.rowK (M:=R) (λx=>by simp[enV]) a8.o.appR.appR.tail.appR.appR)
    have aN:Hy (qt fv):=Hi O.vnil;have bP:¬ ((k:Int)=0):=by omega
    have bO:¬ (k=0):=by omega
    clear O bl a4;have A:=Hi (λW Q=>Zan W o k _ (Qc o 0 l) d.opt (by rw[a5.o];exact hlt) bo.o aW.o (ag.o.below (B:=w7.heap.size) Q (jm _)) aN.o (by rw[Zh];exact d.len));rw[xac HP.o]at A;have V:=Hi (λW v Q hv=>yar W (.slice S l.length I) v (Qc o k l) (J.o.below (B:=w7.heap.size) Q (jm _)) hv (by rw[Zh];have:=d.len;omega));have al:Hy ((Qc o k l).length=l.length/\(Qc o 0 l).length=l.length):=Hi ⟨Zh o k l,Zh o 0 l⟩;obtain⟨L2,Z⟩:=NE (Qc o k l);rw[Z]at A V HX;have aK:=Hi Z;clear Z;unfold Xe at A;unfold xf at A;obtain⟨k0,k1,k2,_⟩:=bq.o w7 (jU _ _);go_upto_region 19 with(first
     |(go_at_call 144;refine(A.o _ (jU _ _)).mono ?_;rintro e' w8 ⟨v8,F8,rfl,U,K⟩;have a0:=Hi K.below;have af:=Hi (V.o w8 v8 K.below (U.rowK0 (λx=>by simp[enV]) K));obtain⟨bC,bt,rfl,_⟩:=U.form;clear U K)
     |(go_at_call 148;refine af.o.mono ?_;rintro e' w9 ⟨rfl,ah⟩;have ai:=Hi (a0.o.trans (ah.mono a0.o.size));clear ah))
    have ab:=a8.o.callB ai.o;have G:St w w9 (Ff++((rb,.cells (YL o ⟨(n:Int),q,p,a⟩ (.slice t k r) 0) 204)::(Y.flatMap FlH.frag++(x.frag++(F0++(an++R)))))):=ab.pm CN;have c7:OV w9 rb 7 (.slice t k r):=G.mid.cellH 7;have aT:=Hi G;clear ab G k0 k1 k2 A V af a0 ai a8 J ag;obtain⟨i0,hi,z,hz,ay,aM,ac,aF,aJ⟩:=Qar;have L:(k+1)*ac<=140737488355328:=jI (Jg (show k+1<=200 by omega) aJ) (by decide);have aL:k+1<=maxLen:=by unfold maxLen;omega
    go_wp2_with (at_builtin;refine xh (W0:=w) (by rfl) _ _ 202 (by rfl) 201 i0 z 1 ac underlying202 hi hz ay aF aM (by decide) (.slice t k r) k _ Ff _ (by rfl) az.o aT.o 1 w9.heap.size [OQ x.b] (by rfl) (by rfl) (by rfl) (by intro u hu;simp at hu;subst hu;rfl) aL L ?_;intro v' W' F' a2 P;obtain⟨H,s,rfl,_⟩:=a2.form;have ae:=Hi a2;have p0:OV W' rb 7 (.slice t k r):=P.mid.cellH 7;have p1:OZ W' rb 7:=P.mid.freeH 7;have a9:=Hi (vaA o ⟨(n:Int),q,p,a⟩ (.slice t k r) (.slice H (k+1) s) 0▸P.mid.set 7 (.slice H (k+1) s));clear a2 P);refine⟨⟨k+1,Y++[x],H,s,F',F0,_,by omega,by go_num,rfl,aH.o,by rw[ja,aD.o];rfl,?_,?_,?_,?_⟩,by simp[intOf];omega⟩
    .rw[jr,aU.o,Ue,jr];simp only[ju,Jt];rw[HX.o.1,HX.o.2.1,aK.o];rfl
    .intro f hf;rcases jo.1 hf with h1|h1
     .exact aA.o f h1
     .rw[jC.1 h1];exact HX.o.2.2
    .rw[jr];exact ae.o
    .exact a9.o.pmSub (D:=an) λy=>by simp only[xa,ya,OI,OT,OQ,Ya,jD,jB,Jk];omega
  .obtain rfl:k=T:=by omega
   clear ar b7;rcases N with⟨h0,_⟩|⟨_,O⟩
   .omega
   obtain⟨bQ,bG,bH,bR,bS,_⟩:=O.form;subst bH;have bB:=Hi O;have bI:=d.len;obtain⟨bj,aX,c2⟩:(0:Int)<=(l.length:Int)/\(l.length:Int)<=(bG:Int)/\(l.length:Int)<=2097152:=by omega
   have al:Hy ((Qc o 0 l).length=l.length):=Hi (Zh o 0 l);have bF:Hy (((Qc o 0 l).filter (·.dead)).length=(l.filter (·.dead)).length):=Hi (by
    rw[((Yp o 0 l).filter _).length_eq,List.filter_map,jz];rfl)
   clear O hS aI aC aV aG b2;go_upto_region 22 with(fail)
   go_loopw [82] (λiv wr=>∃(m dd:Nat),m<=l.length/\iv=OI (m:Int)/\dd=(((Qc o 0 l).take m).filter (·.dead)).length/\St w wr ((rb,.cells (YL o ⟨(n:Int),q,p,a⟩ (.slice t k r) (dd:Int)) 204)::(Ff++(Y.flatMap FlH.frag++(F0++R))))) (λiv _=>l.length-(intOf iv).toNat)
   case atStart=>exact⟨0,0,jX _,rfl,by simp,HS.o⟩
   case round =>
    clear HS;obtain⟨m,dd,hm,rfl,ak,hS⟩:=hrel;have bW:(0:Int)<=(m:Int):=by omega
    by_cases hlm:m<l.length
    .have be:m<(Qc o 0 l).length:=by rw[al.o];exact hlm
     obtain⟨g,c,hv,bh⟩:=bB.o.cells (W0:=w) (W:=wr) (M:=R) hS.tail.appR.appR (by intro e;have:=jT List.length e;rw[vg Qe,al.o]at this;simp at this;omega);injection hv with e1 e2 e3
     subst e1;subst e3;clear e2;have bT:dd<=m:=by
      rw[ak];exact jI (Um _ _) (by rw[jN];omega)
     obtain⟨e,he⟩:=NE ((Qc o 0 l)[m]);have C:∀j x,j<5->(enV e)[j]?=some x->OV wr g (m*5+j) x:=λj x hj hx=>bh _ _ (by rw[Zj Qe _ m j be hj,he];exact hx)
     have d0:OV wr g (m*5) (OI e.value):=C 0 _ (by decide) rfl;have d1:OV wr g (m*5+1) (qa e.code):=C 1 _ (by decide) rfl;have d2:OV wr g (m*5+2) (OI e.id):=C 2 _ (by decide) rfl;have d3:OV wr g (m*5+3) (OI e.seq):=C 3 _ (by decide) rfl;have d4:OV wr g (m*5+4) (.bool e.dead):=C 4 _ (by decide) rfl;have c1:(m:Int)<(l.length:Int):=by omega
     have aZ:(((Qc o 0 l).take (m+1)).filter (·.dead)).length=dd+if e.dead then 1 else 0:=by
      rw[jS be,ke,ja,<-ak,he];rw[kC,List.filter_nil];cases hh:e.dead<;>simp
     have aB:=Hi aZ;have E:=hS.alloc (.cells (enV e).toArray 137);obtain⟨C5,aO⟩:=EN wr.heap.size;rw[<-aO]at E;obtain⟨aj,bn⟩:=Hi2 E aO;clear C bh he hS E aO aZ ak;unfold enV at aj;unfold qa at *;go_upto_region 24 with(fail)
     rw[<-bn.o];refine aj.o.nameC ?_;clear aj bn d0 d1 d2 d3 d4;intro w5 E;have d4:OV w5 C5 4 (.bool e.dead):=E.cellH 4;have q8:OV w5 rb 8 (OI (dd:Int)):=E.tail.cellH 8;have f8:OZ w5 rb 8:=E.tail.freeH 8;obtain⟨bL,bJ⟩:(0:Int)<=(dd:Int)/\(dd:Int)<=2097152:=by omega
     obtain⟨ed,bz⟩:=NE e.dead;rw[bz]at aB d4;cases ed with
     |false =>
      have aj:=Hi E;clear E;go_wp2_with fail;exact⟨⟨m+1,dd,by omega,by go_num,by rw[aB.o];rfl,aj.o.tail⟩,by simp[intOf];omega⟩
     |true =>
      have ap:=Hi (E.tail.set 8 (OI ((dd:Int)+1)));clear E;go_wp2_with fail;exact⟨⟨m+1,dd+1,by omega,by go_num,by rw[aB.o];rfl,ap.o⟩,by simp[intOf];omega⟩
    .obtain rfl:m=l.length:=by omega
     have HS:=Hi hS;have bx:Hy (dd=(l.filter (·.dead)).length):=Hi (by rw[ak,Ji (by rw[al.o];omega),bF.o]);clear hS ak;go_wp2_with fail;go_ret2;refine⟨⟨rb,⟨⟨(n:Int),q,p,a⟩,l⟩,Y,.slice t k r,Ff,(dd:Int)⟩,rfl,⟨?_,?_,aA.o,?_⟩,rfl,HS.o.pmSub (D:=F0++R) λy=>by simp only[vd.frag,xa,ya,OI,OT,OQ];simp only[YL,xf,riV,jO,jK];omega⟩
     .show Rw 201 1 (.slice t k r) Y.length _ Ff;rw[aD.o];exact az.o
     .show _=(List.range (Qd o)).map _;rw[a5.o];exact aU.o
     .show(dd:Int)=_;rw[bx.o]
theorem Vbm(o:Op3)(x:vd)(M:va)(j:Nat)(g:x.ok o)(k:j<x.fs.length)(i:x.fs.length<=1000000)(a:St U w (x.frag o++M)):Calls prog 132 #[za x.b,OI (j:Int)] w (Ret (.bool true) w):=by
 unfold vd.frag at a;have d:=g.files;obtain⟨y,⟨⟨r,A,s,D⟩,c⟩,p,v,F,f⟩:=x;obtain⟨z,t,C⟩:=o;simp only at d k i;unfold xf riV at a;simp only[jO,jK]at a;obtain⟨u,m,rfl,_⟩:=d.form;have e:=a.cellH 7;simp at e;obtain⟨n,h⟩:=NE p.length;rw[h]at k i e;obtain⟨q,l,B⟩:(0:Int)<=(j:Int)/\(j:Int)<(n:Int)/\(n:Int)<=1000000:=by omega
 clear a d g h;unfold za;go_enter func132,ntmps132;go_wp2_with fail;go_ret;exact⟨by simp[q,l],rfl⟩
theorem zaX(o:Op3)(x:vd)(M:va)(j:Nat)(f:FlH)(s:x.ok o)(t:x.fs[j]?=some f)(K:f.l.length<=1000000000)(E:x.fs.length<=1000000)(d:St U w (x.frag o++M)):Calls prog 84 #[za x.b,OI (j:Int)] w (Xe 137 5 enV f.l w):=by
 have c:j<x.fs.length:=(jV.1 t).1;have G:=Hi (Vbm U w o x M j s c E d);have a:f∈x.fs:=Js t;obtain⟨A,B,h⟩:=JU a;unfold vd.frag at d;have i:St U w (f.frag++((x.b,.cells (xf o++riV x.r.info++[x.v,OI x.dead]).toArray 204 (0,0))::(x.F++(A.flatMap FlH.frag++(B.flatMap FlH.frag++M))))):=d.pm λy=>by rw[h];simp only[jD,jB,xa,ya,OI,OT,OQ];omega
 have C:=Hi (xaV w f U _ (s.each f a) K i);have H:=s.files;rw[Kx]at H;have p:qe (λf:FlH=>[za f.b]) 1 w x.v x.fs:=H.rowK (M:=(x.b,.cells (xf o++riV x.r.info++[x.v,OI x.dead]).toArray 204 (0,0))::(x.fs.flatMap FlH.frag++M)) (λx=>by simp) (d.pm CN);obtain⟨Z,T,P,S,Q,L⟩:=p;obtain⟨b,off,rfl,I⟩:=L (by intro e;rw[e]at c;simp at c);have W:OV w b (off+j) (za f.b):=I j _ (by rw[<-Kx,jZ,t];rfl);have u:w.cell? ⟨x.b,7,none⟩=some x.v:=by
  have:=d.cellH 7;simp[xf,riV]at this;exact this
 rw[P]at u;obtain⟨n,O⟩:=NE x.fs.length;rw[O]at u c E;obtain⟨j0,Y,n1⟩:(0:Int)<=(j:Int)/\(j:Int)<(n:Int)/\(n:Int)<=1000000:=by omega
 obtain⟨J,m⟩:=NE x.b;obtain⟨N,g⟩:=NE f.b;rw[m]at u G|-
 rw[g]at W C;clear d H s O i h a t P S Q L I K E m g;unfold Xe at C;unfold Ret at G;unfold za at *;go_enter func84,ntmps84;go_wp2_with (first
  |(go_at_call 132;refine MQ G.o ?_)
  |(go_at_call 133;refine C.o.mono ?_;rintro V w2 ⟨v2,R,rfl,q,k⟩;obtain⟨D,z⟩:=Hi2 q k;clear q k))
 go_ret;exact⟨_,R,rfl,D.o,z.o⟩
def vaa(c:Bs):Value:=.agg #[qa c]
def yD(_:Unit):Value:=.agg #[]
structure XI where
 key:Int
 b:Nat
 om:Obj
 ids:List Int
structure XI.ok (s:XI):Prop where
 map:Va Zg yD s.om (s.ids.map λi=>(i,()))
 keys:∀i∈s.ids,-9223372036854775808<=i/\i<=9223372036854775807
structure KtH where
 b:Nat
 om:Obj
 ss:List XI
def KtH.tab(t:KtH):List (Int × List Int):=t.ss.map λs=>(s.key,s.ids)
def KtH.frag(t:KtH):va:=(t.b,t.om)::t.ss.map λs=>(s.b,s.om)
structure KtH.ok (t:KtH):Prop where
 map:Va Zg (λb:Nat=>.map (some b)) t.om (t.ss.map λs=>(s.key,s.b))
 keys:∀s∈t.ss,-9223372036854775808<=s.key/\s.key<=9223372036854775807
 sets:∀s∈t.ss,s.ok
structure KpH where
 b:Nat
 bj:Nat
 rv:Value
 Fm:va
 rs:List vd
 rsv:Value
 Fr:va
 pv:Value
 Fp:va
 dl:DlH
 bl:Nat
 ol:Obj
 bc:Nat
 oc:Obj
 tv:Value
 Ft:va
 ts:List KtH
 live:List (Int × Bs)
 codes:List (Bs × Int)
def kpC(bd:Nat)(K:Kp)(h:KpH):Array Value :=
 #[za bd,.int .i64 K.age,.bool K.gone,.int .i64 K.m.o.width,.int .i64 K.m.o.chunks,.int .i64 K.m.o.mode,.int .i64 K.m.seq,.int .i64 K.m.next,.int .i64 K.m.journal,h.rv,h.rsv,za h.bj,h.pv,za h.dl.b,.int .i64 K.synced,.map (some h.bl),.map (some h.bc),h.tv]
def KpH.frag(bd:Nat)(K:Kp)(h:KpH):va :=
 (h.b,.cells (kpC bd K h) 82 (0,0))::(h.bl,h.ol)::(h.bc,h.oc)::jnF h.bj bd K.j ::
  (h.Fm++(h.Fr++(h.rs.flatMap (vd.frag K.m.o)++(h.Fp++(h.dl.frag++(h.Ft++h.ts.flatMap KtH.frag))))))
structure KpH.ok (K:Kp) (h:KpH):Prop where
 mrow:Rw 141 4 h.rv K.m.runs.length (K.m.runs.flatMap riV) h.Fm
 runs:h.rs.map (·.r)=K.runs
 each:∀r∈h.rs,r.ok K.m.o
 rrow:Rw 106 1 h.rsv h.rs.length (h.rs.map λr=>za r.b) h.Fr
 prow:Rw 35 4 h.pv K.past.length (K.past.flatMap upV) h.Fp
 dok:h.dl.ok
 dw:h.dl.w=K.m.o.width/\h.dl.m=K.m.o.chunks/\h.dl.last=K.wlast/\h.dl.words=K.words
 dt:h.dl.ts.length=max 1 K.m.o.chunks.toNat
 lmap:Va Zg vaa h.ol h.live
 lperm:h.live.Perm (K.P.map λp=>(p.id,p.code))
 cmap:Va qa Zg h.oc h.codes
 cok:Zl K.P h.codes
 trow:Rw 111 1 h.tv h.ts.length (h.ts.map λt=>.map (some t.b)) h.Ft
 tabs:∀t∈h.ts,t.ok
 tlen:h.ts.length=Qd K.m.o
 tok:∀(j:Nat) t,h.ts[j]?=some t->Xv (Yf K.m.o j) K.P t.tab
def Za(W0:World)(bd bm:Nat)(K:Kp)(h:KpH)(M:va)(W:World):Prop:=h.ok K/\Xa W0 bd bm K.d (h.frag bd K++M) W
theorem Zaf(k w:World)(l n:Nat)(K:Kp)(h:KpH)(M:va)(o:Za k l n K h M w):Calls prog 15 #[za h.b] w (Ret (.int .i64 (K.P.length:Int)) w):=by
 obtain⟨e,j⟩:=o;have f:=j.rest;unfold KpH.frag at f;have p:w.cell? ⟨h.b,15,none⟩=some (.map (some h.bl)):=f.cellH 15;have i:=f.tail.get;obtain⟨q,g,c,_⟩:=e.lmap.ex;have d:=Va.size e.lmap c;have a:h.live.length=K.P.length:=by have:=e.lperm.length_eq;simpa using this
 rw[c]at i;have m:(Builtin.len_ #[78] 3 #[.map (some h.bl)]).run prog w=.ok (.int .i64 (K.P.length:Int)) w:=by
  rw[run_len_map (h:=(by kernel_rfl:prog.underlying 78=_)) (hb:=i),d,a];rfl
 clear f j e c i d a;unfold za;go_enter func15,ntmps15;go_wp2_with fail;go_ret;exact⟨rfl,rfl⟩
theorem Y5(h:KpH)(M:va)(v:Za U q c J h M w)(t:0<=J.m.seq)(x:J.m.seq<=1152921504606846976)(r:J.past.length<=1152921504606846976):Calls prog 14 #[za h.b] w (Vd (OI J.seq) w):=by
 obtain⟨k,j⟩:=v;have d:=j.rest;unfold KpH.frag at d;have l:OV w h.b 6 (OI J.m.seq):=d.cellH 6;have a:OV w h.b 12 h.pv:=d.cellH 12;obtain⟨B,y,p,_⟩:=k.prow.form;rw[p]at a;have e:=Hi (show J.seq=J.m.seq+(J.past.length:Int)from rfl);obtain⟨n,g⟩:=NE J.past.length;obtain⟨s,f⟩:=NE J.m.seq;rw[g,f]at e;rw[g]at a r;rw[f]at l t x;rw[e.o];obtain⟨z,u⟩:(0:Int)<=(n:Int)/\(n:Int)<=1152921504606846976:=by omega
 have A:IntKind.i64.wrap (s+(n:Int))=s+(n:Int):=J1 _ (by omega);clear d j k p g f e;obtain⟨b,i⟩:=NE h.b;rw[i]at l a|-
 clear i;unfold za;go_enter func14,ntmps14;go_upto_region 1 with fail
 go_quiet (fail);go_wp2_with fail;go_ret;exact⟨by first|rfl|(congr 2),yj (jU _ _) _⟩
theorem XT(h:KpH)(M:va)(A:Za U q c J h M w)(u:h.rs.length<=1000000000):Calls prog 20 #[za h.b] w (Xe 106 1 pbV (h.rs.map (·.b)) w):=by
 obtain⟨t,r⟩:=A;have i:=r.rest;unfold KpH.frag at i;have d:OV w h.b 10 h.rsv:=i.cellH 10;have k:Rw 106 1 h.rsv (h.rs.map (·.b)).length ((h.rs.map (·.b)).flatMap pbV) h.Fr:=by
  have:=t.rrow;rw[jz,kD];rw[Kx]at this;exact this
 have a:qe pbV 1 w h.rsv (h.rs.map (·.b)):=k.rowK (M:=(h.b,.cells (kpC q J h) 82)::(h.bl,h.ol)::(h.bc,h.oc)::jnF h.bj q J.j::(h.Fm++(h.rs.flatMap (vd.frag J.m.o)++(h.Fp++(h.dl.frag++(h.Ft++(h.ts.flatMap KtH.frag++M))))))) (λx=>by simp[pbV]) (i.pm CN);have g:=Hi (Q3 w h.rsv (h.rs.map (·.b)) a k.vnil (by simpa using u));obtain⟨D,B,v,_⟩:=k.form;rw[v]at d g;obtain⟨L,s⟩:=NE (h.rs.map (·.b));rw[s]at d g|-
 obtain⟨b,p⟩:=NE h.b;rw[p]at d|-
 clear i r t k a v s p u;unfold za;unfold Xe at g;go_enter func20,ntmps20;go_wp2_with (go_at_call 50;refine g.o.mono ?_;rintro C F ⟨E,z,rfl,f,e⟩;obtain⟨n,l⟩:=Hi2 f e;clear f e);go_ret;exact⟨_,z,rfl,n.o,l.o⟩
def zd(W0:World)(bd bm b:Nat)(M:va)(r:Kp × Int)(e:Ending)(w':World):Prop:=e=.returned (.int .i64 r.2)/\∃h,h.b=b/\Za W0 bd bm r.1 h M w'
theorem KpH.ok.goneS{h:KpH}(a:h.ok K)(g:Bool):h.ok {K with gone:=g}:=⟨a.mrow,a.runs,a.each,a.rrow,a.prow,a.dok,a.dw,a.dt,a.lmap,a.lperm,a.cmap,a.cok,a.trow,a.tabs,a.tlen,a.tok⟩
theorem Za.setGone{c W:World}{d e:Nat}{K:Kp}{h:KpH}{M:va}(a:Za c d e K h M W)(g:Bool):Za c d e {K with gone:=g} h M (W.setCell ⟨h.b,2,none⟩ (.bool g)):=⟨a.1.goneS g,Xa.set a.2 2 (.bool g)⟩
theorem Za.callB{W0 W W':World}{h:KpH}{M:va}(a:Za W0 n b K h M W)(c:Below W.heap.size W W'):Za W0 n b K h M W':=⟨a.1,a.2.callB c⟩
theorem zF(K E:Kp)(h:KpH)(x:Int)(M L:va)(g:Nat)(N:Array Value)(I:Enters prog g)(r:Za U q c K h M w)(H:K.gone=false)(F:K.d.off=false)(J:K.d.age=K.age)
  (m:∀W,Za U q c K h M W->Calls prog g N W (zd U q c h.b L (E,x))) :
  Calls prog 47 #[za h.b,.func (.func g) #[] N] w (zd U q c h.b L ({E with gone:=decide (x=45)},x)):=by
 have u:=r.2.rest;have B:OV w h.b 0 (za q):=u.cellH 0;have y:OV w h.b 1 (OI K.age):=u.cellH 1;have v:OV w h.b 2 (.bool K.gone):=u.cellH 2;rw[H]at v;have k:=Hi (λW (l:Below w.heap.size w W)=>(XG W q K.d.off (r.2.callB l).off).mono λe R h=>Ret.toB h);have j:=Hi (λW (l:Below w.heap.size w W)=>(vW W q K.d.age (r.2.callB l).age).mono λe R h=>Ret.toB h);rw[F]at k;rw[J]at j;have Z:∀(args:Array Value) (w:World),(callFunc g args).run prog w=.ok (.enter g args) w:=I;obtain⟨f,O⟩:=Hi2 m r;obtain⟨b,l⟩:=NE h.b;rw[l]at B y v f|-
 have S:=λd p=>jH B d p
 have T:=λd p=>jH y d p
 have P:=λd p=>jH v d p
 clear u r m I H F J l;unfold zd at f;simp only at f;unfold za at *;go_enter func47,ntmps47;go_upto_region 1 with(fail)
 refine Jq (by kernel_rfl) (by kernel_rfl) ?_
 repeat(go_big_quiet_step ((first|(go_at_call 24;exact Jh (k.o _ (Jo _ _ _)))|(go_at_call 79;exact Jh (j.o _ (Jo _ _ _))))))
 refine Ub ?_;intro _ z;obtain⟨⟨D,i⟩,t⟩:=z;subst t;have s:=Hi (O.o.callB (Jo w D i));have V:=P D i;obtain⟨Q,n⟩:=NE (grow (redrawn w D) i);rw[n]at s V|-
 clear n S T P B y v k j O;go_wp2_with (go_at_fn g;refine(f.o _ s.o).mono ?_;rintro e G ⟨rfl,A,rfl,a⟩;have Y:=a.2.rest.cellH 2;have X:=a.2.rest.freeH 2;have C:=Hi (a.setGone (decide (x=45)));clear a);go_ret;exact⟨rfl,A,rfl,C.o⟩
end Go.Proofs.YtekkihmmclencaaGreatDoor
