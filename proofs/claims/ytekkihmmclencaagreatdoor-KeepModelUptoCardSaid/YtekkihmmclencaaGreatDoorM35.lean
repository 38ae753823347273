import Derived.Test.YtekkihmmclencaaGreatDoorM34
namespace Go.Proofs.YtekkihmmclencaaGreatDoor
set_option linter.all false
set_option maxRecDepth 100000
set_option maxHeartbeats 40000000
open Tryz
open Go Go.RowKit Go.Sort
variable(w:World)(c:Nat){W V:World}{n b:Nat}{F G:va}{K:Kp}
theorem Za.runSt{d W:World}{a e:Nat}{K:Kp}{h:KpH}{M:va}(g:Za d a e K h M W){x:vd}(i:x∈h.rs):∃R,St d W (x.frag K.m.o++R):=by
 obtain⟨A,B,c⟩:=JU i;obtain⟨l,k⟩:=g;have f:=k.rest;refine⟨(h.b,.cells (kpC a K h) 82)::(h.bl,h.ol)::(h.bc,h.oc)::jnF h.bj a K.j ::
  (h.Fm++(h.Fr++(A.flatMap (vd.frag K.m.o)++(B.flatMap (vd.frag K.m.o)++(h.Fp++(h.dl.frag++(h.Ft++(h.ts.flatMap KtH.frag++M)))))))),f.pm λy=>?_⟩
 unfold KpH.frag;rw[c];simp only[jD,jB,xa,ya,OI,OT,OQ];omega
theorem Za.front{h:KpH}(g:Za V n b K h (F++G) W):∃a c,xe a c K.d/\St V W (F++(Zb n b a c K.d++(h.frag n K++G))):=by
 obtain⟨i,a,c,e,f⟩:=g;exact⟨a,c,e,f.pm CN⟩
theorem Za.unfront{W0 W:World}{h:KpH}{a:Obj}{c:List FH}(f:h.ok K)(e:xe a c K.d)(g:St W0 W (F++(Zb n b a c K.d++(h.frag n K++G)))):Za W0 n b K h (F++G) W :=
 ⟨f,a,c,e,g.pm CN⟩
theorem zbj{W0 W:World}{z C:Nat}{K:Kp}{h:KpH}{M:va}(p:Za W0 z C K h M W)(a:Qb K.m.o=0)(u:K.all.length<=100000)(i:Nat)(w:i<h.rs.length)(n:i<K.runs.length):
  Calls prog 84 #[za h.rs[i].b,OI 0] W (Xe 137 5 enV (Qc K.m.o 0 K.runs[i].list) W)/\(Qc K.m.o 0 K.runs[i].list).length<=100000:=by
 obtain⟨x,s⟩:=NE (h.rs[i]);have y:x∈h.rs:=by rw[<-s];exact Jc w
 have c:x.r=K.runs[i]:=by
  have d:(h.rs.map (·.r))[i]'(by simpa using w)=K.runs[i]:=by simp only[p.1.runs]
  rw[KZ,s]at d;exact d
 obtain⟨R,F⟩:=p.runSt y;have g:=p.1.each x y;have t:=g.tabs;have G:=(Yj a).1;have E:=(Yj a).2;have D:x.fs.length=Qd K.m.o:=by have:=jT List.length t;simpa using this
 obtain⟨f,v⟩:∃f,x.fs[0]?=some f:=⟨_,jt (by omega)⟩;have j:f.l=Qc K.m.o 0 x.r.list:=by
  have d:(x.fs.map (λf=>(f.h,f.l)))[0]?=some (f.h,f.l):=by rw[jZ,v];rfl
  rw[t,jZ,kM (by omega)]at d;simp only[JE,Ug,Je]at d;exact d.2.symm
 have k:(Qc K.m.o 0 x.r.list).length<=100000:=by
  rw[Zh,c];have q:K.runs[i]∈K.runs:=Jc n;obtain⟨A,B,e⟩:=JU q;have:K.runs[i].list.length<=K.all.length:=by
   generalize K.runs[i]=r at e;unfold Kp.all;rw[e,jD,jB];simp only[ja];omega
  omega
 have:=zaX W0 W K.m.o x R 0 f g v (by rw[j];omega) (by omega) F;rw[j,c]at this;rw[s];exact⟨this,by rw[<-c];exact k⟩
theorem vau(o:Op3)(R:List Qj)(i:Nat)(h:i<R.length):Vg o (R.take (i+1)) []=Xq (Vg o (R.take i) []) (Qc o 0 R[i].list):=by
 unfold Vg;rw[jS h,List.foldl_append];rfl
theorem yaF(J:List En)(i:Nat)(h:i<J.length):(J.take (i+1)).filter (λe=>!e.dead)=(J.take i).filter (λe=>!e.dead)++(if J[i].dead then[]else[J[i]]):=by
 rw[jS h,ke];cases hd:J[i].dead<;>simp[hd]
def MgA(W0:World)(bd bm:Nat)(K:Kp)(h:KpH)(n:Nat)(Z:va)(lv iv:Value)(wr:World):Prop:=∃(i:Nat) (F:va),i<=n/\iv=.int .i64 (i:Int)/\Rw 137 5 lv (Vg K.m.o (K.runs.take i) []).length ((Vg K.m.o (K.runs.take i) []).flatMap enV) F/\Za W0 bd bm K h (F++Z) wr
def MgB(W0:World)(bd bm:Nat)(K:Kp)(h:KpH)(J:List En)(Z:va)(lv iv:Value)(wr:World):Prop:=∃(i:Nat) (F:va),i<=J.length/\iv=.int .i64 (i:Int)/\Rw 137 5 lv ((J.take i).filter (λe=>!e.dead)).length (((J.take i).filter (λe=>!e.dead)).flatMap enV) F/\Za W0 bd bm K h (F++Z) wr
theorem Zbb(W0 w:World)(p s:Nat)(K K':Kp)(h:KpH)(n:Nat)(M:va)(hm:zaP K K' n)(ht:vi W0)(hc:zg W0)(I:Za W0 p s K h M w):
  Calls prog 35 #[za h.b,za p,OI (n:Int)] w (zd W0 p s h.b M (K',0)):=by
 obtain⟨i0,hi,z,cd,bV,cl,aY,bX,bA⟩:=yK;have aW:h.rs.length=K.runs.length:=by have:=jT List.length I.1.runs;simpa using this
 have c6:=hm.n1;have cn:=hm.nl;have cv:=hm.rl;obtain⟨L,hL⟩:=NE h.rs.length;have c9:=Hi (show Calls prog 20 #[OQ h.b] w (λe G=>∃g c F,e=.returned (.slice (some ⟨g,0,none⟩) L c)/\L<=c/\Rw 106 1 (.slice (some ⟨g,0,none⟩) L c) L ((h.rs.map (·.b)).flatMap pbV) F/\Za W0 p s K h (F++M) G)from by
  refine(XT W0 w p s K h M I (by omega)).mono ?_;rintro e G ⟨v,F,rfl,hR,hS⟩;rw[jz,hL]at hR;obtain⟨g,c,rfl,_⟩:=hR.cells (M:=[]) (by rw[jJ];exact hS) (by intro e0;have h9:=jT List.length e0;rw[vg Vt,jz,jA]at h9;omega);obtain⟨_,_,e1,h1,h2,_⟩:=hR.form;injection e1 with e1 e2 e3
  subst e3;exact⟨g,_,F,rfl,h1,hR,I.call hS⟩)
 obtain⟨d6,cV,dq⟩:(n:Int)<=(L:Int)/\(L:Int)<=24/\(1:Int)<=(n:Int):=by omega
 have d9:decide ((n:Int)<1)=false:=by simp;omega
 have cW:decide (L<n)=false:=by simp;omega
 have d4:¬ (L<n):=by omega
 have cZ:¬ ((n:Int)<1):=by omega
 have HM:=Hi hm;clear hm I aW c6 cn cv;unfold zd;unfold za at *;go_enter func35,ntmps35;go_upto_region 2 with(go_at_call 20;refine c9.o.mono ?_;rintro e' w2 ⟨g,cg,Fa,rfl,bT,b4,bC⟩;obtain⟨aJ,ar,b7⟩:=Hi3 b4 bC bT;clear b4 bC)
 have cE:(L:Int)<=(cg:Int):=by have:=b7.o;omega
 go_upto_region 6 with fail
 have bH:=Hi (λ(N:va) (W:World) (i:Nat) (hi:i<L) (u:Za W0 p s K h (N++(Fa++M)) W)=>show ∃b,OV W g i (OQ b)/\∃aM:i<K.runs.length,Calls prog 84 #[OQ b,OI 0] W (Xe 137 5 enV (Qc K.m.o 0 K.runs[i].list) W)/\(Qc K.m.o 0 K.runs[i].list).length<=100000 from by
  have aW:h.rs.length=K.runs.length:=by have:=jT List.length u.1.runs;simpa using this
  obtain⟨c1,c2⟩:=zbj u HM.o.opt HM.o.all i (by omega) (by omega);obtain⟨g',c',he,a7⟩:=aJ.o.cells (W0:=W0) (W:=W) (M:=M) u.limbs.tail.appR (by intro e0;have h9:=jT List.length e0;rw[vg Vt,jz,jA]at h9;omega);injection he with e1 e2 e3
  injection e1 with e1
  injection e1 with e1 e4 e5
  subst e1;refine⟨h.rs[i].b,a7 i _ ?_,by omega,c1,c2⟩;have:=Zj Vt (h.rs.map (·.b)) i 0 (by rw[jz];omega) (by decide);rw[JM,UY]at this;rw[this,KZ];rfl)
 go_loopw [8,9] (λlv iv wr=>MgA W0 p s K h n (Fa++M) lv iv wr) (λ_ iv _=>n-(intOf iv).toNat)
 case atStart=>exact⟨0,[],jX _,rfl,Rw.nil _ _,ar.o⟩
 case round =>
  clear ar;obtain⟨i,F,cm,rfl,hR,I⟩:=hrel;have cI:(0:Int)<=(i:Int):=by omega
  obtain⟨ad,bi,rfl,cw,cT,_⟩:=hR.form;obtain⟨J,hJ⟩:=NE (Vg K.m.o (K.runs.take i) []);rw[hJ]at hR cw|-
  have d7:J.length<=100000:=by rw[<-hJ];exact HM.o.ords i cm
  have cr:=Hi hJ;by_cases hlt:i<n
  .obtain⟨cO,cK⟩:(i:Int)<(n:Int)/\(i:Int)<(L:Int):=by omega
   obtain⟨b,c0,aM,ah,cf⟩:=bH.o F wr i (by omega) I;obtain⟨T,hT⟩:=NE (Qc K.m.o 0 K.runs[i].list);rw[hT]at ah cf;have bt:=Hi (show Vg K.m.o (K.runs.take (i+1)) []=Xq J T from by rw[vau _ _ _ aM,hJ,hT]);have bx:=Hi ah;have bW:=Hi (λ(W:World) (v:Value) (F1:va) (hR1:Rw 137 5 v T.length (T.flatMap enV) F1) (hS1:St wr W F1)=>show Calls prog 83 #[.slice ad J.length bi,v] W (λe G=>∃v F',e=.returned v/\Rw 137 5 v (Xq J T).length ((Xq J T).flatMap enV) F'/\Za W0 p s K h (F'++(Fa++M)) G)from by
    have bS:=I.call hS1;refine(Za9 W _ v J T (Rw.rowK (W0:=W0) (M:=Fa++M) hR (λx=>by simp[enV]) (bS.limbs.tail.appR)) hR.vnil (Rw.rowK (M:=[]) hR1 (λx=>by simp[enV]) (by rw[jJ];exact hS1)) (by omega) (by omega)).mono ?_;rintro e G ⟨v',F',rfl,c8,ce⟩;exact⟨v',F',rfl,c8,(bS.call ce).pmSub (X:=F1++F) CN⟩)
   clear hJ hT aM ah hR I;unfold Xe at bx;go_wp2_with (first
    |(go_at_call 84;refine bx.o.mono ?_;rintro e' w3 ⟨v3,F3,rfl,aX,bc⟩;obtain⟨bZ,ca⟩:=Hi2 aX bc;clear aX bc)
    |(go_at_call 83;refine(bW.o _ _ _ bZ.o ca.o).mono ?_;rintro e' w4 ⟨v4,F4,rfl,bb,br⟩;obtain⟨ci,am⟩:=Hi2 bb br;clear bb br))
   exact⟨⟨i+1,F4,by omega,by go_num,by rw[bt.o];exact ci.o,am.o⟩,by simp[intOf];omega⟩
  .obtain rfl:i=n:=by omega
   have an:=Hi I;have cB:=aJ;clear bH aJ b7 I hlt;obtain⟨dd,dh,dg⟩:(J.length:Int)<=(bi:Int)/\(J.length:Int)<=100000/\(0:Int)<=(J.length:Int):=by omega
   have bu:=Hi hR;clear hR;go_upto_region 11 with fail
   go_loopw [10,11] (λlv iv wr=>MgB W0 p s K h J (F++(Fa++M)) lv iv wr) (λ_ iv _=>J.length-(intOf iv).toNat)
   case atStart=>exact⟨0,[],jX _,rfl,Rw.nil _ _,an.o⟩
   case round =>
    clear an;obtain⟨q,F2,dn,rfl,a8,I⟩:=hrel;have di:(0:Int)<=(q:Int):=by omega
    obtain⟨t,Y⟩:=NE ((J.take q).filter (λe=>!e.dead));rw[Y]at a8;have cJ:t.length<=100000:=by
     rw[<-Y];refine jI (Um _ _) ?_;rw[jN];omega
    obtain⟨cx,aw,rfl,cN,cH,_⟩:=a8.form;have bv:=Hi Y;by_cases hlt:q<J.length
    .have dc:(q:Int)<(J.length:Int):=by omega
     obtain⟨gj,cj,he,a7⟩:=bu.o.cells (W0:=W0) (W:=wr) (M:=Fa++M) I.limbs.tail.appR (by intro e0;have h9:=jT List.length e0;rw[vg Qe,jA]at h9;omega);injection he with e1 e2 e3
     subst e1;subst e3;clear e2;obtain⟨x,hx⟩:=NE (J[q]);have A:∀j v,j<5->(enV x)[j]?=some v->OV wr gj (q*5+j) v:=λj v hj h=>a7 _ _ (by rw[Zj Qe J q j hlt hj,hx];exact h)
     have x0:OV wr gj (q*5) (OI x.value):=A 0 _ (by decide) rfl;have x1:OV wr gj (q*5+1) (OT x.code):=A 1 _ (by decide) rfl;have x2:OV wr gj (q*5+2) (OI x.id):=A 2 _ (by decide) rfl;have x3:OV wr gj (q*5+3) (OI x.seq):=A 3 _ (by decide) rfl;have x4:OV wr gj (q*5+4) (.bool x.dead):=A 4 _ (by decide) rfl;have aQ:=Hi (yaF J q hlt);rw[Y,hx]at aQ;have bY:=Hi I.1;obtain⟨om,fl,bI,hS⟩:=I.front;obtain⟨cq,HS,aj,ar⟩:=Hi4 bI hS a8 I;obtain⟨xv,xc,xi,xs,xd⟩:=x;clear a7 A hx bI hS a8 I Y;have cD:(t.length+1)*aY<=140737488355328:=jI (Jg (show t.length+1<=3000000 by omega) bA) (by decide);have c5:t.length+1<=maxLen:=by unfold maxLen;omega
     cases xd with
     |true =>
      go_wp2_with fail;exact⟨⟨q+1,F2,by omega,by go_num,by rw[aQ.o];simpa using aj.o,ar.o⟩,by simp[intOf];omega⟩
     |false =>
      go_wp2_with (at_builtin;refine xh (W0:=W0) (by rfl) _ _ 133 (by rfl) 137 i0 z 5 aY underlying133 hi cd bV bX cl (by decide) (.slice cx t.length aw) (t.length) _ _ _ (by rfl) aj.o HS.o 1 _ [OI xv,OT xc,OI xi,OI xs,.bool false] (by rfl) (by rfl) (by rfl) (by intro y hy;simp at hy;rcases hy with rfl|rfl|rfl|rfl|rfl<;>rfl) c5 cD ?_;intro v7 W7 F7 aL ba;obtain⟨cY,cG,rfl,cS,cQ,_⟩:=aL.form;have cu:=Hi aL;have U:=Hi (Za.unfront bY.o cq.o ba);clear aL ba);refine⟨⟨q+1,F7,by omega,by go_num,?_,U.o⟩,by simp[intOf];omega⟩;rw[aQ.o];simp only[JD,Jb,ja,jD,j8,jB,Jk,jJ];exact cu.o
    .obtain rfl:q=J.length:=by omega
     have a1:K.liveFirst i=t:=by
      unfold Kp.liveFirst;rw[cr.o];have:=bv.o;rw[J9]at this;exact this
     have aj:=Hi a8;clear bu a8 bv hlt;by_cases hne:t=[]
     .subst hne;obtain⟨d1,d2,hs,hk⟩:=HM.o.one a1;have aK:=Hi (qbb W0 wr p s K h i _ d1 d2 hs ht hc I);rw[<-hk]at aK;unfold zd za at aK;clear hs hk I a1;go_wp2_with (go_at_call 85;refine aK.o.mono ?_;rintro e' w8 ⟨rfl,h8,e8,bL⟩;obtain⟨E8,cc⟩:=Hi2 e8 bL;clear e8 bL);go_ret;exact⟨rfl,h8,E8.o,cc.o.pmSub (X:=F2++(F++Fa)) CN⟩
     .obtain⟨dw,d1,d2,aN,ew,fw,cs,cy,aq,D,hs,hk,aF,aO⟩:=HM.o.two (by rw[a1];exact hne);have a9:(K.firstInfo i K.m.next).count=(t.length:Int):=by unfold Kp.firstInfo;rw[a1]
      have ak:(K.firstInfo i K.m.next).number=K.m.next:=rfl;rw[a1]at ew aq D hs hk;obtain⟨k,hI⟩:=NE (K.firstInfo i K.m.next);rw[hI]at a9 ak ew aq D hs hk aF aO;obtain⟨l,a2⟩:∃l:Kp,l={K with m:={K.m with next:=K.m.next+1}}:=⟨_,rfl⟩;rw[<-a2]at aN;have b5:YQ ({l with d:=dw}:Kp) i (some ⟨k,t⟩) d1 d2:=by rw[a2];exact hs
      have ac:K'=kSw ({l with d:=dw}:Kp) i (some ⟨k,t⟩) d2:=by rw[a2];exact hk
      have a4:=HM.o.next;have a5:=Hi (yaP W0 wr p s K h _ HM.o.hok (by omega) I);rw[aN]at a5;unfold yag at a5;simp only[JV]at a5;obtain⟨nx,aP⟩:=NE K.m.next;rw[aP]at a5 ak;have ap:=Hi (λ(W:World) (N:va) (u:Za W0 p s l h N W)=>show Calls prog 86 #[OQ h.b] W (λe G=>∃v F,e=.returned (.agg (mfV l.m v).toArray)/\Za W0 p s l h (F++N) G)from by
       refine(qaa W0 W p s l h (za h.bj) _ u.toJ (by rw[a2];show K.m.runs.length<=_;have:=HM.o.ri;have:=HM.o.rl;omega)).mono ?_;rintro e G ⟨v,F,rfl,hR,hS⟩;exact⟨v,F,rfl,u.call hS⟩)
      have bh:∀v,(mfV l.m v).toArray=#[OI K.m.o.width,OI K.m.o.chunks,OI K.m.o.mode,OI l.m.seq,OI l.m.next,OI l.m.journal,v]:=λv=>by rw[a2];rfl
      simp only[bh]at ap;obtain⟨cz,bK,bU,an,cA⟩:=Hi5 cs cy b5 ac D;obtain⟨bn,bN,b2,bR,ae⟩:=Hi5 ew aq aF aO a2;obtain⟨d0,co,bg,cX,cP⟩:=Hi5 a4 a9 ak hne a1;obtain⟨da,bt⟩:=Hi2 hI aP;have dm:¬ ((t.length:Int)=0):=by have:=JI.2 hne;omega
      have cU:((t.length:Int)==0)=false:=by simpa using hne
      have dk:(t.length:Int)<=(aw:Int):=by omega
      clear hs hk b5 ac D ew aq aF aO a2 a4 a9 ak I aN a1 hI aP hne bh;obtain⟨sq,b1⟩:=NE l.m.seq;obtain⟨jq,bw⟩:=NE l.m.journal;obtain⟨xq,bq⟩:=NE l.m.next;rw[b1,bw,bq]at ap;clear b1 bw bq;go_upto_region 20 with(go_at_call 36;refine MR a5.o λw3 c3=>?_)
      have be:∀(a b c d e f g:Value) (w:World),(Instr.field 64 (.agg #[a,b,c,d,e,f,g]) 0).run prog w=.ok (.agg #[a,b,c]) w:=λa b c d e f g w=>by kernel_rfl
      have cL:∀(a b c d:Value) (w:World),(Instr.field 141 (.agg #[a,b,c,d]) 1).run prog w=.ok b w:=λa b c d w=>by kernel_rfl
      have cR:∀(a b c d:Value) (w:World),(Instr.field 141 (.agg #[a,b,c,d]) 2).run prog w=.ok c w:=λa b c d w=>by kernel_rfl
      go_upto_region 21 with(go_at_call 86;refine(ap.o _ _ c3.o).mono ?_;rintro e' w4 ⟨v4,F4,rfl,bD⟩;have am:=Hi bD;clear bD)
      have hA:=am.o.alloc (.cells #[OI K.m.o.width,OI K.m.o.chunks,OI K.m.o.mode] 23);obtain⟨B,hB⟩:=EN w4.heap.size;rw[<-hB]at hA|-
      obtain⟨NN,aT⟩:∃NN:va,NN=(B,.cells #[OI K.m.o.width,OI K.m.o.chunks,OI K.m.o.mode] 23)::(F4++(F2++(F++(Fa++M)))):=⟨_,rfl⟩;rw[<-aT]at hA;refine hA.nameC ?_;clear hA hB am;intro w5 aU;obtain⟨ao,ax,a3⟩:=Hi3 aU.drew aU aT;clear aU aT;obtain⟨m,b6⟩:∃m,i=m+1:=⟨i-1,by omega⟩;obtain⟨b0,z0,bz,zz,Q⟩:∃(b0:Nat) (z0:RI) (bz:Nat) (zz:RI),∀(X:va) (W:World),Za W0 p s l h (X++NN) W->OV W g 0 (OQ b0)/\OV W g m (OQ bz) /\
        Calls prog 87 #[OQ b0] W (Vd (.agg #[OI z0.number,OI k.lo,OI z0.hi,OI z0.count]) W)/\Calls prog 87 #[OQ bz] W (Vd (.agg #[OI zz.number,OI zz.lo,OI k.hi,OI zz.count]) W):=by
       have h1:h.rs.map (·.r)=K.runs:=ao.o.1.runs.trans (by rw[ae.o]);have h2:K.m.runs=K.runs.map (·.info):=HM.o.inf.symm;have bQ:∀j (hj:j<h.rs.length),K.m.runs[j]?=some (h.rs[j].r.info):=λj hj=>by
        rw[h2,<-h1];simp[hj]
       refine⟨h.rs[0].b,h.rs[0].r.info,h.rs[m].b,h.rs[m].r.info,λX W u=>?_⟩;obtain⟨g',c',he,a7⟩:=cB.o.cells (W0:=W0) (W:=W) (M:=M) (by
        have h3:=u.limbs.tail.appR;rw[a3.o]at h3;exact h3.tail.appR.appR.appR) (by intro e0;have h9:=jT List.length e0;rw[vg Vt,jz,jA]at h9;omega)
       injection he with e1 e2 e3
       injection e1 with e1
       injection e1 with e1 e4 e5
       subst e1;have hc:∀j (hj:j<h.rs.length),OV W g j (OQ (h.rs[j].b)):=λj hj=>by
        refine a7 j _ ?_;have:=Zj Vt (h.rs.map (·.b)) j 0 (by rw[jz];omega) (by decide);rw[JM,UY]at this;rw[this,KZ];rfl
       have aA:∀j (hj:j<h.rs.length),Calls prog 87 #[OQ (h.rs[j].b)] W (Vd (.agg (riV h.rs[j].r.info).toArray) W):=λj hj=>by
        obtain⟨R,hS⟩:=u.runSt (Jc hj);exact yaI W0 W l.m.o h.rs[j] R hS
       have e0:=b2.o _ (bQ 0 (by omega));have em:=bR.o _ (by rw[show i-1=m by omega];exact bQ m (by omega));refine⟨hc 0 (by omega),hc m (by omega),?_,?_⟩
       .rw[e0];exact aA 0 (by omega)
       .rw[em];exact aA m (by omega)
      have aV:=Hi (λW (u:Za W0 p s l h NN W)=>(Q [] W u).2.2.1.mono (λe G (hr:Vd _ W e G)=>show e=.returned (.agg #[OI z0.number,OI k.lo,OI z0.hi,OI z0.count])/\Za W0 p s l h NN G from⟨hr.1,u.callB hr.2⟩));have aS:=Hi (λW (u:Za W0 p s l h NN W)=>(Q [] W u).2.2.2.mono (λe G (hr:Vd _ W e G)=>show e=.returned (.agg #[OI zz.number,OI zz.lo,OI k.hi,OI zz.count])/\Za W0 p s l h NN G from⟨hr.1,u.callB hr.2⟩));have aC:=Hi (λW y (u:Za W0 p s l h (y::NN) W)=>(Q [y] W u).2.2.1.mono (λe G (hr:Vd _ W e G)=>show e=.returned (.agg #[OI z0.number,OI k.lo,OI z0.hi,OI z0.count])/\Za W0 p s l h (y::NN) G from⟨hr.1,u.callB hr.2⟩));have al:=Hi (λW y (u:Za W0 p s l h (y::NN) W)=>(Q [y] W u).2.2.2.mono (λe G (hr:Vd _ W e G)=>show e=.returned (.agg #[OI zz.number,OI zz.lo,OI k.hi,OI zz.count])/\Za W0 p s l h (y::NN) G from⟨hr.1,u.callB hr.2⟩));have ag:=Hi (λW (u:Za W0 p s l h NN W)=>show OV W g 0 (OQ b0)/\OV W g m (OQ bz)from⟨(Q [] W u).1,(Q [] W u).2.1⟩);have S:=Hi (λW y (u:Za W0 p s l h (y::NN) W)=>show OV W g 0 (OQ b0)/\OV W g m (OQ bz)from⟨(Q [y] W u).1,(Q [y] W u).2.1⟩);obtain⟨q,hq⟩:∃q:Int,(i:Int)-1=q:=⟨_,rfl⟩;have aH:m=q.toNat:=by omega
      rw[aH]at ag S;obtain⟨dj,dp⟩:0<=q/\q<(L:Int):=by omega
      have df:wrap64 q=q:=Uv _ (by omega);have d5:IntKind.i64.wrap q=q:=J1 _ (by omega);obtain⟨dl,de,cM⟩:q.toNat<L/\(0:Int)<(L:Int)/\0<L:=by omega
      obtain⟨s1,aG⟩:=NE k.lo;obtain⟨s2,aR⟩:=NE k.hi;obtain⟨p0,bl⟩:=NE z0.number;obtain⟨p1,b9⟩:=NE z0.hi;obtain⟨p2,bM⟩:=NE z0.count;obtain⟨p3,bp⟩:=NE zz.number;obtain⟨p4,bs⟩:=NE zz.lo;obtain⟨p5,bB⟩:=NE zz.count;rw[aG,bl,b9,bM]at aV aC;rw[aR,bp,bs,bB]at aS al;obtain⟨ch,ct,dr,d8⟩:=Hi4 aG aR b6 aH;clear b6 aH;clear Q aG aR bl b9 bM bp bs bB be;have af:=Hi (show Za W0 p s l h ((w5.heap.size,.cells #[OI 0,OI 0,OI 0,OI 0] 141)::NN) (w5.alloc (.cells #[OI 0,OI 0,OI 0,OI 0] 141)).drew from(ax.o.alloc _).drew);go_region_held3 (λW=>W.cell? ⟨g,0,none⟩=some (.pointer (some ⟨b0,0,none⟩))/\W.cell? ⟨g,q.toNat,none⟩=some (.pointer (some ⟨bz,0,none⟩))) (first
       |with_reducible exact aD.o
       |with_reducible exact S.o _ _ (U.o.alloc _)
       |with_reducible exact ag.o _ U.o
       |with_reducible exact S.o _ _ U.o
       |with_reducible exact S.o _ _ (a0.o.alloc _)
       |with_reducible exact ag.o _ a0.o
       |with_reducible exact S.o _ _ a0.o
       |with_reducible exact S.o _ _ af.o
       |with_reducible exact ag.o _ ao.o
       |(go_keep;done)) (first
       |(go_at_call 87;(with_reducible refine(aV.o _ ao.o).mono ?_);rintro e' w6 ⟨rfl,a6⟩;have a0:=Hi a6;clear a6)
       |(go_at_call 87;(with_reducible refine(aC.o _ _ af.o).mono ?_);rintro e' w6 ⟨rfl,a6⟩;obtain⟨b3,V⟩:=EN w5.heap.size;rw[<-V]at a6|-;clear V;have a0:=Hi a6;clear a6)
       |(go_at_call 87;(with_reducible refine(aS.o _ a0.o).mono ?_);rintro e' O ⟨rfl,C⟩;have U:=Hi C;clear C)
       |(go_at_call 87;(with_reducible refine(al.o _ _ a0.o).mono ?_);rintro e' O ⟨rfl,C⟩;have P:=C.limbs.tail;obtain⟨y0,y1,y2,y3⟩:=P.k4 0 1 2 3;obtain⟨v0,v1,v2,v3⟩:=P.f4 0 1 2 3;have ab:=Hi ((((C.set 0 (OI nx)).set 1 (OI s1)).set 2 (OI s2)).set 3 (OI (t.length:Int)));have aD:=Hi (S.o _ _ ab.o);have U:=Hi C;clear C P)
       |(go_at_call 87;(with_reducible refine(al.o _ _ (a0.o.alloc (.cells #[OI 0,OI 0,OI 0,OI 0] 141))).mono ?_);rintro e' O ⟨rfl,C⟩;obtain⟨b3,V⟩:=EN w6.heap.size;rw[<-V]at C|-;clear V;have P:=C.limbs.tail;obtain⟨y0,y1,y2,y3⟩:=P.k4 0 1 2 3;obtain⟨v0,v1,v2,v3⟩:=P.f4 0 1 2 3;have ab:=Hi ((((C.set 0 (OI nx)).set 1 (OI s1)).set 2 (OI s2)).set 3 (OI (t.length:Int)));have aD:=Hi (S.o _ _ ab.o);have U:=Hi C;clear C P)
       |fail)
      all_goals first
       |(have hf:Za W0 p s l h ((b3,.cells #[OI nx,OI s1,OI s2,OI (t.length:Int)] 141)::NN) _:=ab.o;clear ab aD)
       |(obtain⟨b3,V⟩:=EN O.heap.size;have hf:=U.o.alloc (.cells #[OI nx,OI s1,OI s2,OI (t.length:Int)] 141);rw[<-V]at hf|-;clear V)
      all_goals refine Za.nameE hf ?_
      all_goals clear hf U a0 aV aS aC al ag S ao ax af ap
      all_goals(
       intro w8 E;have a4:=a3.o;have aI:riV k=[OI nx,OI s1,OI s2,OI (t.length:Int)]:=by unfold riV;rw[bg.o,ch.o,ct.o,co.o]
       have az:l.d=K.d:=by rw[ae.o]
       have ay:l.m.o=K.m.o:=by rw[ae.o]
       obtain⟨Z,hZ⟩:∃Z:va,Z=h.frag p l++((b3,.cells #[OI nx,OI s1,OI s2,OI (t.length:Int)] 141)::(B,.cells #[OI K.m.o.width,OI K.m.o.chunks,OI K.m.o.mode] 23)::(F4++(F++(Fa++M)))):=⟨_,rfl⟩;have bf:Xa W0 p s K.d (F2++Z) w8:=by
        have h1:=E.2;rw[az,a4]at h1;rw[hZ];exact h1.pm CN
       have ai:=Hi (QaA W0 w8 p s K.d Z F2 K.m.o k t _ bN.o bf HM.o.hok.fits HM.o.hok.off aj.o ht hc (by rw[bn.o]));rw[bn.o,aI,bg.o]at ai;have au:=E.1;have bJ:=Hi (λ(W:World) (u:Xa W0 p s dw (F2++Z) W)=>show Za W0 p s ({l with d:=dw}:Kp) h ((b3,.cells #[OI nx,OI s1,OI s2,OI (t.length:Int)] 141)::(B,.cells #[OI K.m.o.width,OI K.m.o.chunks,OI K.m.o.mode] 23)::(F4++(F2++(F++(Fa++M))))) W from Za.ofDk au (u.pm λy=>by rw[hZ];simp only[xa,ya,OI,OT,OQ];omega));obtain⟨q0,q1,q2,q3⟩:=E.limbs.tail.k4 0 1 2 3;rw[a4]at E;obtain⟨o0,o1,o2⟩:=E.limbs.tail.tail.k3 0 1 2;unfold qh za xf at ai;have cF:=a3;obtain⟨ck,aZ⟩:=Hi2 aI ay;clear a4 bf E au a3 a5 aI az ay hZ;go_upto_region 23 with(go_at_call 88;refine MR ai.o λw9 bk=>?_)
       have H:=bJ.o _ bk.o;obtain⟨q0,q1,q2,q3⟩:=H.limbs.tail.k4 0 1 2 3;obtain⟨o0,o1,o2⟩:=H.limbs.tail.tail.k3 0 1 2;have aE:=Hi (Xan W0 w9 p s dw _ K.m.o k t bN.o H.2 cz.o bK.o cA.o ht hc);rw[ck.o]at aE;have bE:=Hi (λ(W:World) (x:vd) (hx:x.r=⟨k,t⟩) (aa:x.ok K.m.o) (hS:St w9 W (x.frag K.m.o))=>show Calls prog 85 #[OQ h.b,OI (i:Int),OQ x.b] W (λe G=>e=.returned (OI 0)/\∃h',h'.b=h.b/\Za W0 p s K' h' M G)from by
        have b8:=bU.o;rw[<-hx]at b8;have hw:=H.call hS;have cC:x.frag l.m.o=x.frag K.m.o:=by rw[aZ.o]
        rw[<-aZ.o]at aa;rw[<-cC]at hw;have:=vbb W0 W p s ({l with d:=dw}:Kp) h i x _ d1 d2 b8 aa (λr hr=>by rw[hx];exact b2.o r (by rw[ae.o]at hr;exact hr)) (λr hr=>by rw[hx];exact bR.o r (by rw[ae.o]at hr;exact hr)) ht hc hw;refine this.mono ?_;rintro e G ⟨rfl,h',cb,ac⟩;refine⟨rfl,h',cb,?_⟩;rw[hx,<-an.o]at ac;exact ac.pmSub (X:=(b3,.cells #[OI nx,OI s1,OI s2,OI (t.length:Int)] 141)::(B,.cells #[OI K.m.o.width,OI K.m.o.chunks,OI K.m.o.mode] 23)::(F4++(F2++(F++Fa)))) CN)
       unfold Var za xf at aE;clear H bJ ai bk;go_wp2_with (first
        |(go_at_call 89;refine aE.o.mono ?_;rintro e' d3 ⟨x,hx,aa,rfl,aB⟩;obtain⟨HX,c7,bG⟩:=Hi3 hx aa aB;clear hx aa aB)
        |(go_at_call 85;refine(bE.o _ _ HX.o c7.o bG.o).mono ?_;rintro e' db ⟨rfl,c4,bP,av⟩;obtain⟨cp,bo⟩:=Hi2 bP av;clear bP av)
        |fail)
       go_ret;exact⟨rfl,c4,cp.o,bo.o⟩)
theorem yal(h:c<=1000000):wrap64 (c:Int)=(c:Int)/\IntKind.i64.wrap (c:Int)=(c:Int):=⟨Uv _ (by omega),J1 _ (by omega)⟩
def zbq(W0:World)(bd bm:Nat)(K:Kp)(b:Nat)(n:Nat)(N:va)(iv:Value)(wr:World):Prop:=∃(i:Nat) (h:KpH),i<=n/\iv=.int .i64 (i:Int)/\h.b=b/\Za W0 bd bm K h N wr
def HsB(W0:World)(bd bm:Nat)(K:Kp)(h:KpH)(L:List Pr)(p:Pr)(F N:va)(cv nv:Value)(wr:World):Prop:=∃n:Nat,n<=L.length/\nv=.int .i64 (n:Int)/\cv=.int .i64 (((L.take n).count p:Nat):Int)/\Za W0 bd bm K h (F++N) wr
def HsC(W0:World)(bd bm:Nat)(K:Kp)(h:KpH)(V:List Int)(vv:Int)(Z:va)(kv nv:Value)(wr:World):Prop:=∃n:Nat,n<=V.length/\nv=.int .i64 (n:Int)/\kv=.bool (decide (vv∈V.take n))/\Za W0 bd bm K h Z wr
theorem ybq(W0 w:World)(A z:Nat)(K:Kp)(h:KpH)(M FL:va)(v:Value)(l:List Pr)(aq:KOk K)(hp:K.P.Perm l)(hs:vP l)(R:Qb K.m.o=0)(cZ:l.length<=100000)
  (hR:Rw 86 2 v l.length (l.flatMap prV) FL) (t:Za W0 A z K h (FL++M) w) :
  Calls prog 16 #[za h.b,.agg #[OI K.m.o.width,OI K.m.o.chunks,OI K.m.o.mode],v,OI 3] w (λe w'=>e=.returned (.bool true)/\∃h',h'.b=h.b/\Za W0 A z K h' (FL++M) w'):=by
 have aZ:=hs.ids;have b6:K.P.length=l.length:=hp.length_eq;have bi:(K.P.map (·.id)).Nodup:=(hp.map (·.id)).nodup_iff.2 aZ;have bl:=aq.prs;obtain⟨ad,az,rfl,cP,cN,_⟩:=hR.form;obtain⟨cy,cC,cR⟩:(0:Int)<=(l.length:Int)/\(l.length:Int)<=100000/\(l.length:Int)<=(az:Int):=by omega
 obtain⟨T,hT⟩:=NE (Qd K.m.o);have bM:=(Yj R).1;have aX:=(Yj R).2;have cd:max 1 K.m.o.chunks=(T:Int):=by
  rw[<-hT,(Yaf R).1];obtain⟨w1,w2,w3,w4,w5,w6,w7⟩:=yM R;omega
 rw[hT]at bM aX;have hA:=t.alloc (.cells #[OI K.m.o.width,OI K.m.o.chunks,OI K.m.o.mode] 23);obtain⟨C,hC⟩:=EN w.heap.size;rw[<-hC]at hA;obtain⟨N,hN⟩:∃N:va,N=(C,.cells #[OI K.m.o.width,OI K.m.o.chunks,OI K.m.o.mode] 23)::(FL++M):=⟨_,rfl⟩;rw[<-hN]at hA;obtain⟨HA,HC,HN,HR⟩:=Hi4 hA hC hN hR;have bn:=Hi (ZaN hp hs);obtain⟨HP,aJ,bp,U,bN⟩:=Hi5 hp aZ bi aq R;have aO:=Hi hT;have u:=Hi (λ(X:va) (h:KpH) (W:World) (H:Za W0 A z K h (X++N) W)=>show qe prV 2 W (.slice ad l.length az) l from by
  have O:=H.limbs.tail.appR;rw[HN.o]at O;exact HR.o.rowK (M:=M) (λx=>by simp[prV]) O.tail)
 have a1:=Hi (λ(X:va) (h:KpH) (W:World) (H:Za W0 A z K h (X++N) W)=>show OV W C 0 (OI K.m.o.width)/\OV W C 1 (OI K.m.o.chunks)/\OV W C 2 (OI K.m.o.mode)from by
  have O:=H.limbs.tail.appR;rw[HN.o]at O;exact⟨O.cellH 0,O.cellH 1,O.cellH 2⟩)
 have aa:=Hi (λW (H:Za W0 A z K h N W)=>Zaf W0 W A z K h N H);rw[b6]at aa;have a9:=Hi (λW (H:Za W0 A z K h N W)=>Ya8 W0 W A z K h ((l.length:Int)+1) N aq (by omega) (by omega) H);rw[bn.o]at a9;obtain⟨b,hb⟩:=NE h.b;rw[hb]at aa a9|-
 have HB:=Hi hb;obtain⟨ow,au⟩:=NE K.m.o.width;obtain⟨oc,ak⟩:=NE K.m.o.chunks;obtain⟨om,an⟩:=NE K.m.o.mode;rw[au,ak,an]at HA HN a1;rw[ak]at cd;rw[au,ak,an];obtain⟨cf,bQ,bH⟩:=Hi3 au ak an;clear hb hA hC hN hR hp aZ bi aq R hT t b6 hs bl au ak an;unfold za at *;unfold Ret at aa;unfold XaY at a9;go_enter func16,ntmps16;go_upto_region 1 with fail
 rw[<-HC.o];refine HA.o.nameC ?_;clear HA HC;intro w1 ar;have bJ:=Hi ar;have aC:=Hi (aa.o _ ar);have aA:=Hi (a9.o _ ar);have aH:=Hi (λ(W:World) (a2:Option Addr) (c2:Nat) (F:va) (ac:Rw 86 2 (.slice a2 l.length c2) l.length (l.flatMap prV) F) (H:Za W0 A z K h (F++N) W)=>show Calls prog 42 #[.slice a2 l.length c2,.slice ad l.length az] W (Vd (.bool true) W)from
  xaD W _ _ l (ac.rowK (M:=N) (λx=>by simp[prV]) H.limbs.tail) (u.o F h W H))
 unfold Vd at aH;clear aa a9 ar;go_upto_region 3 with(first
  |(go_at_call 15;refine MQ aC.o ?_)
  |(go_at_call 43;refine aA.o.mono ?_;rintro e' w2 ⟨v2,F2,rfl,ac,bx⟩;obtain⟨a2,c2,rfl,_⟩:=ac.form;obtain⟨bU,bu⟩:=Hi2 ac bx;clear ac bx)
  |(go_at_call 42;refine(aH.o _ _ _ _ bU.o bu.o).mono ?_;rintro e' w3 ⟨rfl,bk⟩;have aT:=Hi ((bu.o.callB bk).pmSub (M':=N) (X:=F2) CN);clear bk)
  |fail)
 obtain⟨o0,o1,o2⟩:=a1.o [] h w3 aT.o;obtain⟨cz,cA⟩:(1:Int)<=(T:Int)/\(T:Int)<=128:=by omega
 have d6:¬ ((T:Int)=0):=by omega
 have cU:((T:Int)==0)=false:=by simp;omega
 go_upto_region 4 with fail
 clear o0 o1 o2;go_upto_region 5 with fail
 go_loopw [10] (λiv wr=>zbq W0 A z K b l.length N iv wr) (λiv _=>l.length-(intOf iv).toNat)
 case atStart=>exact⟨0,h,jX _,rfl,HB.o,aT.o⟩
 case round =>
  clear aT bJ aC aA aH bn;obtain⟨i,O,hi,rfl,bE,t⟩:=hrel;have cg:(0:Int)<=(i:Int):=by omega
  by_cases hlt:i<l.length
  .have cH:(i:Int)<(l.length:Int):=by omega
   obtain⟨g,o,c,hv,bX⟩:=(u.o [] O wr t).fld YE i hlt;injection hv with e1 e2 e3
   subst e1;subst e3;clear e2 bX;obtain⟨p,ay⟩:=NE (l[i]);have aI:p∈l:=by rw[<-ay];exact Jc hlt
   have aj:p∈K.P:=HP.o.mem_iff.2 aI;have av:=Hi (λ(X:va) (h:KpH) (W:World) (H:Za W0 A z K h (X++N) W)=>show OV W g (o+i*2) (OI p.id)/\OV W g (o+i*2+1) (OT p.code)from by
    obtain⟨g',o',c',aV,D⟩:=(u.o X h W H).fld YE i hlt;injection aV with e1 e2 e3
    injection e1 with e1
    injection e1 with e1 e4 e5
    subst e1;subst e4;rw[ay]at D;exact⟨D 0 _ rfl,D 1 _ rfl⟩)
   have bF:(p.code.length:Int)=K.m.o.width/8:=by
    have O:=(U.o.prs p aj).2.2;exact O
   obtain⟨Y,ao⟩:=NE (i%T);have a4:Y<T:=by rw[<-ao];exact JQ _ (by omega)
   have cF:(i:Int).tmod (T:Int)=(Y:Int):=by rw[<-ao,Jw cg,Int.natCast_emod]
   obtain⟨cB,cJ⟩:(0:Int)<=(Y:Int)/\(Y:Int)<(T:Int):=by omega
   have da:=(yal Y (jI (Kr a4) (jI aX (by decide)))).1;have d9:=(yal Y (jI (Kr a4) (jI aX (by decide)))).2;obtain⟨vv,b3⟩:=NE (Yf K.m.o Y p.code);have B:=Hi (YaA W0 wr A z K O p.id N U.o t);unfold Xaa at B;rw[qbh bp.o (λq hq=>⟨(U.o.prs q hq).1,(U.o.prs q hq).2.1⟩) aj,bE]at B;have aW:=Hi (λ(W:World) (q:Pr) (hq:q∈l)=>Vbh W K.m.o Y q.code bN.o ((U.o.prs q (HP.o.mem_iff.2 hq)).2.2) (by rw[aO.o];exact a4));have bc:=Hi (λ(h2:KpH) (W:World) (hb2:h2.b=b) (H:Za W0 A z K h2 N W)=>show Calls prog 22 #[za b,OI (Y:Int),OI vv] W (λe w'=>∃h3 a c F L,h3.b=b/\e=.returned (.tuple #[.slice a L.length c,OI 0])/\L.length<=c/\L.length<=100000/\YaN l (Yf K.m.o Y) vv L/\Rw 86 2 (.slice a L.length c) L.length (L.flatMap prV) F/\Za W0 A z K h3 (F++N) w')from by
    rw[<-hb2];refine(vbd W0 W A z K h2 Y vv N U.o (by rw[aO.o];exact a4) ⟨p,aj,b3⟩ H).mono ?_;rintro e w' ⟨h3,lv,F,L,e3,rfl,hL,hR,hk⟩;have b7:(xD L).length=L.length:=(JX L _).length_eq;have aQ:(xD L).length<=100000:=by
     have O:=hL.length_eq;have h2:(atL K Y vv).length<=K.P.length:=Um _ _;have h3:=HP.o.length_eq;omega
    rw[<-b7]at hR;obtain⟨a,c,rfl,cp,_⟩:=hR.form;exact⟨h3,a,c,F,xD L,e3.trans hb2 |>.trans hb2.symm,rfl,cp,aQ,YaN.of HP.o aJ.o hL,hR,hk⟩)
   have bo:=Hi (λ(h2:KpH) (X:va) (W:World) (hb2:h2.b=b) (H:Za W0 A z K h2 (X++N) W)=>show Calls prog 45 #[za b,OI (Y:Int)] W (qaN W0 A z K h2 (X++N) Y)from by
    rw[<-hb2];exact xbh W0 W A z K h2 Y (X++N) U.o (by rw[aO.o];exact a4) H)
   obtain⟨c0,c1⟩:=av.o [] O wr t;obtain⟨o0,o1,o2⟩:=a1.o [] O wr t;obtain⟨aR,bV,cX,aK,d7⟩:=Hi5 aI aj ay b3 a4;obtain⟨cE,d8⟩:=Hi2 ao bF;rw[cf.o,bQ.o,bH.o]at aW;clear bF aI aj ay b3 a4 ao t;unfold za qa at *;simp only at B;go_upto_region 8 with(first
    |(go_at_call 21;refine B.o.mono ?_;rintro e' w4 ⟨rfl,h4,e4,Z⟩;obtain⟨ah,J⟩:=Hi2 e4 Z;clear Z e4)
    |fail)
   obtain⟨c0,c1⟩:=av.o [] h4 w4 J.o;obtain⟨o0,o1,o2⟩:=a1.o [] h4 w4 J.o;go_upto_region 9 with fail
   have cj:=λd I=>jH c1 d I
   have bW:=λd I=>jH o0 d I
   have co:=λd I=>jH o1 d I
   have c6:=λd I=>jH o2 d I
   have aw:=Hi (λW=>aW.o W p aR.o);rw[aK.o]at aw;unfold vao at aw;refine Jq (by kernel_rfl) (by kernel_rfl) ?_
   repeat(go_big_quiet_step ((go_at_call 44;exact Jh (aw.o _))))
   refine Ub ?_;intro _ aM;obtain⟨⟨dq,ae⟩,ab⟩:=aM;subst ab;have aS:=Hi (J.o.callB (Jo w4 dq ae));obtain⟨w5,bj⟩:=NE (grow (redrawn w4 dq) ae);rw[bj]at aS|-
   clear bj c0 c1 o0 o1 o2 cj bW co c6 J B aw;go_upto_region 11 with(first
    |(go_at_call 22;refine(bc.o _ _ ah.o aS.o).mono ?_;rintro e' w6 ⟨h6,a6,bL,F6,L,bq,rfl,aP,bv,bz,br,bf⟩;obtain⟨bT,bb,b4,b5,bw⟩:=Hi5 bv bq bz br bf;have bS:=Hi aP;clear bq bz br bf aP bv)
    |fail)
   have aP:(L.length:Int)<=(bL:Int):=by have:=bS.o;omega
   have cG:(0:Int)<=(L.length:Int):=by omega
   have cL:(L.length:Int)<=100000:=by have:=bT.o;omega
   clear aS bc;go_upto_region 13 with fail
   go_loopw [17,18] (λcv nv wr=>HsB W0 A z K h6 L p F6 N cv nv wr) (λ_ nv _=>L.length-(intOf nv).toNat)
   case atStart=>exact⟨0,jX _,rfl,rfl,bw.o⟩
   case round =>
    clear bw;obtain⟨n,hn,rfl,rfl,t⟩:=hrel;have bZ:(0:Int)<=(n:Int):=by omega
    by_cases hltn:n<L.length
    .have bI:(n:Int)<(L.length:Int):=by omega
     obtain⟨p2,ax⟩:=NE (L[n]);obtain⟨a5,aB⟩:=b4.o.mem p2 (by rw[<-ax];exact Jc hltn);obtain⟨k,ci,be,am⟩:=Va8 aJ.o a5;obtain⟨cK,d2⟩:(0:Int)<=(k:Int)/\(k:Int)<(l.length:Int):=by omega
     have cI:¬ ((k:Int)<0):=by omega
     have cV:decide ((k:Int)<0)=false:=by simp<;>omega
     obtain⟨g2,cq,cb,b8⟩:=b5.o.cells (W0:=W0) (W:=wr) (M:=N) t.limbs.tail (by intro e0;have h9:=jT List.length e0;rw[vg YE,jA]at h9;omega);injection cb with e1 e2 e3
     subst e1;subst e3;clear e2 b8;have bg:=Hi (λ(W:World) (H:Za W0 A z K h6 (F6++N) W)=>show(OV W g2 (n*2) (OI p2.id)/\OV W g2 (n*2+1) (OT p2.code))/\(OV W g (o+k*2) (OI p2.id)/\OV W g (o+k*2+1) (OT p2.code))from by
      obtain⟨g3,c3,ce,bA⟩:=b5.o.cells (W0:=W0) (W:=W) (M:=N) H.limbs.tail (by intro e0;have h9:=jT List.length e0;rw[vg YE,jA]at h9;omega);injection ce with e1 e2 e3
      injection e1 with e1
      injection e1 with e1 e4 e5
      subst e1;have s:∀j v,j<2->(prV p2)[j]?=some v->OV W g2 (n*2+j) v:=λj v hj h=>bA _ _ (by rw[Zj YE L n j hltn hj,ax];exact h)
      obtain⟨g',o',c',aV,D⟩:=(u.o F6 h6 W H).fld YE k ci;injection aV with e1 e2 e3
      injection e1 with e1
      injection e1 with e1 e4 e5
      subst e1;subst e4;rw[be]at D;exact⟨⟨s 0 _ (by decide) rfl,s 1 _ (by decide) rfl⟩,D 0 _ rfl,D 1 _ rfl⟩)
     have S:=Hi (xay wr _ l p2.id (u.o F6 h6 wr t));rw[am]at S;unfold Ret at S;have ap:=Hi (λW=>aW.o W p2 a5);rw[aB]at ap;unfold vao at ap;have b2:=Hi (XaN L p n hltn);rw[ax]at b2;obtain⟨bO,f⟩:=Hi2 a5 t;obtain⟨⟨d0,d1⟩,b0,b1⟩:=bg.o wr t;obtain⟨q0,q1,q2⟩:=a1.o F6 h6 wr t;clear ax a5 aB be am t;go_upto_region 16 with(first
      |(go_at_call 32;refine MQ S.o ?_)
      |fail)
     have bK:=λd I=>jH d0 d I
     have c7:=λd I=>jH d1 d I
     have ch:=λd I=>jH b0 d I
     have c4:=λd I=>jH b1 d I
     have c9:=λd I=>jH q0 d I
     have bR:=λd I=>jH q1 d I
     have cm:=λd I=>jH q2 d I
     refine Jq (by kernel_rfl) (by kernel_rfl) ?_
     repeat(go_big_quiet_step ((go_at_call 44;exact Jh (ap.o _))))
     refine Ub ?_;intro _ aM;obtain⟨⟨dq,ae⟩,ab⟩:=aM;subst ab;have a3:=Hi (f.o.callB (Jo wr dq ae));obtain⟨w7,bB⟩:=NE (grow (redrawn wr dq) ae);rw[bB]at a3|-
     clear bB d0 d1 b0 b1 q0 q1 q2 bK c7 ch c4 c9 bR cm f S ap;obtain⟨⟨d0,d1⟩,_,_⟩:=bg.o w7 a3.o;obtain⟨c0,c1⟩:=av.o F6 h6 w7 a3.o;go_upto_region 18 with fail
     by_cases heq:p2=p
     .subst heq;go_quiet (fail);have a7:=Hi (a3.o.callB (yj (jU _ w7) nq));clear d0 d1 c0 c1 a3;have cl:(((L.take n).count p2:Nat):Int)<=100000:=by
       have O:(L.take n).count p2<=(L.take n).length:=List.count_le_length;have h2:(L.take n).length<=n:=by rw[jN];omega
       omega
      obtain⟨ct,al⟩:=NE ((L.take n).count p2);have c5:=Hi al;rw[al]at cl|-
      have cw:(0:Int)<=(ct:Int):=by omega
      clear al;go_wp2_with fail;exact⟨⟨n+1,by omega,by go_num,by rw[b2.o,c5.o,jh rfl];go_num,a7.o⟩,by simp[intOf]<;>omega⟩
     .have bG:¬ (p2.id=p.id):=λh=>heq (ZK aJ.o p2 bO.o p aR.o h)
      go_quiet (fail);have a7:=Hi (a3.o.callB (yj (jU _ w7) nq));have af:=Hi heq;clear d0 d1 c0 c1 a3 bG heq;go_wp2_with fail;exact⟨⟨n+1,by omega,by go_num,by rw[b2.o,jd af.o,UY],a7.o⟩,by simp[intOf]<;>omega⟩
    .obtain rfl:n=L.length:=by omega
     have O:=b4.o.one p aR.o aK.o;rw[J9,O];have aY:=Hi (bo.o h6 F6 wr bb.o t);unfold qaN at aY;clear t O bo;have cs:(((1:Nat):Int))=1:=rfl;go_upto_region 22 with(first
      |(go_at_call 45;refine aY.o.mono ?_;rintro e' w8 ⟨v8,F8,V,rfl,aG,bs,ba,bC⟩;obtain⟨a8,c8,rfl,bh,bD,_⟩:=aG.form;obtain⟨cr,a7,ca,bt⟩:=Hi4 aG bs ba bC;have aU:=Hi (jy bh bD);clear aG bs ba bC bh bD)
      |fail)
     have cO:(0:Int)<=(V.length:Int):=by omega
     have d3:(V.length:Int)<=(c8:Int):=by have:=aU.o.1;omega
     have cW:(V.length:Int)<=9223372036854775807:=by have O:=aU.o.1;have h2:=aU.o.2;unfold maxLen at h2;omega
     have aE:=Hi ((bt.o vv).2 ⟨p,bV.o,aK.o⟩);clear aY bt;go_upto_region 23 with fail
     go_loopw [20,22] (λkv nv wr=>HsC W0 A z K h6 V vv (F8++(F6++N)) kv nv wr) (λ_ nv _=>V.length-(intOf nv).toNat)
     case atStart=>exact⟨0,jX _,rfl,by simp,a7.o⟩
     case round =>
      clear a7;obtain⟨n,hn,rfl,rfl,t⟩:=hrel;have bZ:(0:Int)<=(n:Int):=by omega
      by_cases hltn:n<V.length
      .have bI:(n:Int)<(V.length:Int):=by omega
       obtain⟨x,hx⟩:=NE (V[n]);have a0:=Hi (za9 V vv n hltn);rw[hx]at a0;obtain⟨kb,b9⟩:=NE (decide (vv∈V.take n));rw[b9]at a0|-
       obtain⟨g8,cq,cc,aF⟩:=cr.o.cells (W0:=W0) (W:=wr) (M:=F6++N) t.limbs.tail (by intro e0;have h9:=jT List.length e0;rw[xO,jA]at h9;omega);injection cc with e1 e2 e3
       subst e1;subst e3;clear e2;have s:∀j (hj:j<V.length),OV wr g8 j (OI V[j]):=λj hj=>aF j _ (by unfold xg;rw[jZ,jt hj];rfl)
       have x0:wr.cell? ⟨g8,n,none⟩=some (OI x):=by rw[<-hx];exact s n hltn
       obtain⟨q,hq⟩:∃q:Int,(n:Int)-1=q:=⟨_,rfl⟩;have hy:0<n->∃y,OV wr g8 q.toNat (OI y)/\y<x:=λhp=>by
        refine⟨V[q.toNat]'(by omega),s _ (by omega),?_⟩;obtain⟨m,rfl⟩:∃m,n=m+1:=⟨n-1,by omega⟩;have bP:q.toNat=m:=by omega
        have:=VaN ca.o m hltn;rw[hx]at this;simpa only[bP] using this
       obtain⟨HY,f⟩:=Hi2 hy t;clear s aF hx b9 t hy;have Q:(x=vv\/¬ x=vv):=Classical.em _;rcases kS n with hz|hz
       .subst hz;clear HY hq;have z1:¬ (0<0):=by omega
        rcases kb with _|_
        .rcases Q with Q|Q
         .subst Q;go_upto_region 26 with fail
          go_quiet (fail);have G:=Hi (f.o.callB (yj (jU _ wr) nq));clear x0 f;go_wp2_with fail;exact⟨⟨0+1,by omega,by go_num,by rw[a0.o];simp,G.o⟩,by simp[intOf]<;>omega⟩
         .have af:=Hi Q;go_upto_region 26 with fail
          go_quiet (fail);have G:=Hi (f.o.callB (yj (jU _ wr) nq));clear x0 f;go_wp2_with fail;exact⟨⟨0+1,by omega,by go_num,by rw[a0.o];simp[af.o],G.o⟩,by simp[intOf]<;>omega⟩
        .go_upto_region 26 with fail
         go_quiet (fail);have G:=Hi (f.o.callB (yj (jU _ wr) nq));clear x0 f;go_wp2_with fail;exact⟨⟨0+1,by omega,by go_num,by rw[a0.o];simp,G.o⟩,by simp[intOf]<;>omega⟩
       .obtain⟨y,y0,cS⟩:=HY.o hz;obtain⟨cM,cY⟩:0<=q/\q<(V.length:Int):=by omega
        have cQ:wrap64 q=q:=Uv _ (by omega);have cD:IntKind.i64.wrap q=q:=J1 _ (by omega);have d4:(0:Int)<(n:Int):=by omega
        have cu:¬ (x<=y):=by omega
        have cx:decide (x<=y)=false:=by simp<;>omega
        have cT:decide (0<n)=true:=by simp<;>omega
        clear HY;rcases kb with _|_
        .rcases Q with Q|Q
         .subst Q;go_upto_region 26 with fail
          go_quiet (fail);have G:=Hi (f.o.callB (yj (jU _ wr) nq));clear x0 y0 f hq;go_wp2_with fail;exact⟨⟨n+1,by omega,by go_num,by rw[a0.o];simp,G.o⟩,by simp[intOf]<;>omega⟩
         .have af:=Hi Q;go_upto_region 26 with fail
          go_quiet (fail);have G:=Hi (f.o.callB (yj (jU _ wr) nq));clear x0 y0 f hq;go_wp2_with fail;exact⟨⟨n+1,by omega,by go_num,by rw[a0.o];simp[af.o],G.o⟩,by simp[intOf]<;>omega⟩
        .go_upto_region 26 with fail
         go_quiet (fail);have G:=Hi (f.o.callB (yj (jU _ wr) nq));clear x0 y0 f hq;go_wp2_with fail;exact⟨⟨n+1,by omega,by go_num,by rw[a0.o];simp,G.o⟩,by simp[intOf]<;>omega⟩
      .obtain rfl:n=V.length:=by omega
       rw[J9,U6 aE.o];obtain⟨c0,c1⟩:=av.o (F8++F6) h6 wr (by rw[jE];exact t);have bY:=Hi (t.pmSub (M':=N) (X:=F8++F6) CN);clear t aE;go_wp2_with fail;exact⟨⟨i+1,h6,by omega,by go_num,bb.o,bY.o⟩,by simp[intOf]<;>omega⟩
  .obtain rfl:i=l.length:=by omega
   have B:=Hi (YaA W0 wr A z K O 3 N U.o t);have S:=Hi (λ(h:KpH) (W:World) (H:Za W0 A z K h N W)=>xay W (.slice ad l.length az) l 3 (u.o [] h W H));have ag:∀(h:KpH) (W:World),Za W0 A z K h N W->Za W0 A z K h (FL++M) W:=λh W H=>by
    have h2:=H;rw[HN.o]at h2;exact h2.pmSub (X:=[(C,.cells #[OI ow,OI oc,OI om] 23)]) CN
   have aD:=Hi ag;unfold Xaa at B;unfold Ret at S;unfold za qa at *;rw[bE]at B;have E:=Zbh bp.o (i:=3) (by decide) (by decide);rw[(HP.o.map (·.id)).mem_iff]at E;obtain⟨⟨c3,x3⟩,hr⟩:=NE (Yx K 3);rw[hr]at B E;simp only at B E;have ai:=Qa8 (l:=l) (i:=3);obtain⟨f3,aN⟩:=NE (VA l 3);rw[aN]at S ai;by_cases h3:(3:Int)∈l.map (·.id)
   .have aL:x3=0:=E.2 h3;have ck:0<=f3:=ai.2 h3;subst aL;clear E ai h3 hr aN ag t u a1;go_wp2_with (first
     |(go_at_call 21;refine B.o.mono ?_;rintro e' w4 ⟨rfl,h4,e4,Z⟩;obtain⟨ah,J⟩:=Hi2 e4 Z;clear Z e4)
     |(go_at_call 32;refine MQ (S.o _ _ J.o) ?_)
     |fail)
    go_ret;exact⟨rfl,h4,ah.o,aD.o _ _ J.o⟩
   .have aL:¬ (x3=0):=λh=>h3 (E.1 h)
    have ck:¬ (0<=f3):=λh=>h3 (ai.1 h)
    have d5:(x3==0)=false:=by simpa using aL
    have cn:f3<0:=by omega
    clear E ai h3 hr aN ag t u a1;go_wp2_with (first
     |(go_at_call 21;refine B.o.mono ?_;rintro e' w4 ⟨rfl,h4,e4,Z⟩;obtain⟨ah,J⟩:=Hi2 e4 Z;clear Z e4)
     |(go_at_call 32;refine MQ (S.o _ _ J.o) ?_)
     |fail)
    go_ret;exact⟨by show Ending.returned (.bool !decide (0<=f3))=.returned (.bool true);rw[J8 (Int.not_le.2 cn)];rfl,h4,ah.o,aD.o _ _ J.o⟩
def ql(x:UInt8):Bs:=[0,0,0,0,0,0,0,x]
theorem vaI(x:UInt8):Calls prog 18 #[OI 64,.int .u8 (x.toNat:Int)] w (Vd (qa (ql x)) w):=by
 obtain⟨v,h,j,d,m⟩:=Vs ZO;have g:(Instr.makeSlice 103 (OI 8) (OI 8)).run prog w=.ok (.slice (some ⟨w.heap.size,0,none⟩) 8 8) (w.alloc (.cells #[.int .u8 0,.int .u8 0,.int .u8 0,.int .u8 0,.int .u8 0,.int .u8 0,.int .u8 0,.int .u8 0] 5)):=by
  have:=Ki (P:=prog) w 103 5 v (.int .u8 0) underlying103 h j .i64 .i64 8 8 (by decide) (by decide) (by rw[d];decide) (by rw[m];decide) (by decide);rw[d,show madeCells (Value.int .u8 0).cells (Int.toNat 8*1)=#[.int .u8 0,.int .u8 0,.int .u8 0,.int .u8 0,.int .u8 0,.int .u8 0,.int .u8 0,.int .u8 0]from by kernel_rfl]at this;exact this
 have k:=(St.refl w).alloc (.cells #[.int .u8 0,.int .u8 0,.int .u8 0,.int .u8 0,.int .u8 0,.int .u8 0,.int .u8 0,.int .u8 0] 5);obtain⟨C,i⟩:=EN w.heap.size;rw[<-i]at k g;obtain⟨q,t⟩:=Hi2 k i;clear k i;go_enter func18,ntmps18;go_upto_region 2 with fail
 refine q.o.nameC ?_;clear q t g;intro p b;have y:=b.cellH 7;have z:=b.freeH 7;have f:=b.set 7 (.int .u8 (x.toNat:Int));have c:=Hi f;clear b f;go_upto_region 3 with fail
 refine c.o.nameC ?_;clear c y z;intro r b;have a:∀l,l=9->(convert 103 l (.slice (some ⟨C,0,none⟩) 8 8)).run prog r=.ok (.string ⟨(ql x).toArray⟩) r:=λl e=>by
  subst e;exact Zab (W0:=w) (n:=8) (e:=5) underlying103 (by kernel_rfl) (by kernel_rfl) (Rw.lit 5 1 8 C _ (by simp) (by unfold maxLen;omega)) b
 have u:=a _ rfl;have s:=Hi b.below;clear a b;go_wp2_with fail;go_ret;exact⟨rfl,s.o⟩
end Go.Proofs.YtekkihmmclencaaGreatDoor
