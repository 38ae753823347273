import Derived.Test.YtekkihmmclencaaGreatDoorM06
namespace Go.Proofs.YtekkihmmclencaaGreatDoor
set_option linter.all false
set_option maxRecDepth 100000
set_option maxHeartbeats 40000000
open Tryz
open Go Go.RowKit
variable(w:World)(J:Kp){n k i j:Nat}{x:Int}{K:Kp}{d:Dk}{o:Op3}{l:List En}{p:List Pr}
theorem Xat:∀(R:List Qj) (d:Dk) (L:List (Bs × zc)),vq d->d.files.Perm ((R.flatMap λr=>Vb o r.info r.list)++L) ->
  ∃d',Dk.gonePast o (R.map (·.info)) d=(d',0)/\Yh d d'/\d'.files.Perm L:=by
 intro R;induction R with
 |nil=>intro d L h a;exact⟨d,rfl,Yh.refl h,a⟩
 |cons r s ih =>
  intro d L h a;rw[jB,jE]at a;obtain⟨j,f,b,e⟩:=zam h a;obtain⟨c,k,g,i⟩:=ih j L b.calm e;refine⟨c,?_,b.trans g,i⟩;simp only[ju,Dk.gonePast,f,JW,jW,Jb,k]
theorem qax(h:Inv K)(hn:1<=n)(a5:n<=K.runs.length){r:Option Qj}{d1:Dk}{m0:Mf}{s:Nat}(a0:m0={K.m with next:=m0.next})(a1:m0.next<=K.m.next)(a4:m0.good)
  (I:Yh K.d d1) (O:d1.files.Perm ((r.toList.flatMap λx=>Vb K.m.o x.info x.list)++K.filesAt m0 s)) (S:∀x∈r.toList,ym K.m.o x.info x.list)
  (M:({K.m with runs:=r.toList.map (·.info)++K.m.runs.drop n}:Mf).good) (q:(r.toList.flatMap λx=>Vb K.m.o x.info x.list).length+(K.filesAt m0 s).length<4096) (k:Xf ((r.toList.flatMap λx=>Vb K.m.o x.info x.list)++K.filesAt m0 s)+1014<=K.d.cap)
  (E:(((r.toList++K.runs.drop n).flatMap (·.list)).map (·.seq)).Nodup) (D:qx K.all ((r.toList++K.runs.drop n).flatMap (·.list))) :
  ∃g,({K with d:=d1}:Kp).swap n r=(g,0)/\Inv g/\g.m={K.m with runs:=r.toList.map (·.info)++K.m.runs.drop n}/\g.runs=r.toList++K.runs.drop n/\g.past=K.past/\g.P=K.P/\Yh K.d g.d:=by
 obtain⟨i,b⟩:∃i:Mf,i={K.m with runs:=r.toList.map (·.info)++K.m.runs.drop n}:=⟨_,rfl⟩;rw[<-b]at M;obtain⟨N,U⟩:=EN ((r.toList.flatMap λx=>Vb K.m.o x.info x.list));rw[<-U]at O q k;obtain⟨J,X⟩:∃J:Bs × zc,J=(Qa K.m.journal.toNat,⟨vf K.past,s⟩):=⟨_,rfl⟩;have c:(K.runs.flatMap λx=>Vb K.m.o x.info x.list)=((K.runs.take n).flatMap λx=>Vb K.m.o x.info x.list)++((K.runs.drop n).flatMap λx=>Vb K.m.o x.info x.list):=by
  rw[<-jD,Ja]
 obtain⟨A,W⟩:=EN (((K.runs.take n).flatMap λx=>Vb K.m.o x.info x.list));obtain⟨B,hB⟩:=EN (((K.runs.drop n).flatMap λx=>Vb K.m.o x.info x.list));rw[<-W,<-hB]at c;have y:K.filesAt m0 s=(Yc,Xi (mfB m0))::J::(A++B):=by
  unfold Kp.filesAt;rw[c,X]
 have G:d1.files.Perm ([Xi (mfB m0)].map (λf=>(Yc,f))++(N++J::(A++B))):=by
  rw[y]at O;exact O.trans Jd
 have L:=I.calm.wf.nodup' G;simp only[ju,Jt,jO,jK]at L;have hM:=(jY.1 L).1;have T:Xb∉(N++J::(A++B)).map (·.1):=by
  rw[jr,jo];rintro(H|H)
  .rw[U,List.map_flatMap]at H;obtain⟨x,F,H⟩:=JB.1 H;obtain⟨j,_,e⟩:=yw H;exact qah _ _ e.symm
  .refine Za4 (K:=K) (m0:=m0) (s:=s) ?_;rw[y];exact jb _ H
 have R:Xf ([Xi (mfB m0)].map (λf=>(Yc,f))++(N++J::(A++B)))=Xf (N++K.filesAt m0 s):=by
  rw[<-yk G,yk O]
 obtain⟨V,e2,Z,p2⟩:=qM M I.calm [Xi (mfB m0)] (by simp) G hM T (by
  rw[y]at q;simp only[jk,ja]at q|-
  omega) (by rw[R,I.cap];exact k)
 have Q:V.files.Perm (A++((Yc,Xi (mfB i))::J::(N++B))):=by
  refine p2.trans ?_;have q1:(N++J::(A++B)).Perm (A++(J::(N++B))):=by
   refine List.perm_middle.trans ?_;refine List.Perm.trans ?_ List.perm_middle.symm;refine Jm _ ?_;rw[<-jE,<-jE];exact List.perm_append_comm.append_right B
  exact(Jm _ q1).trans List.perm_middle.symm
 obtain⟨d3,Y,a3,p3⟩:=Xat (K.runs.take n) V _ Z.calm (by rw[<-W];exact Q);have z:(K.runs.take n).map (·.info)=K.m.runs.take n:=by rw[Kh,h.info]
 rw[z]at Y;have v:=(I.trans Z).trans a3;have t:i.o=K.m.o:=by rw[b]
 obtain⟨g,a⟩:∃g:Kp,g={K with d:=d3,m:=i,runs:=r.toList++K.runs.drop n,gone:=false}:=⟨_,rfl⟩;refine⟨g,?_,?_,by rw[a,b],by rw[a],by rw[a],by rw[a],by rw[a];exact v⟩
 .have C:({K with d:=d1}:Kp).shut=false:=by
   unfold Kp.shut;simp only[h.gone,I.calm.on,h.age,I.age];simp
  unfold Kp.swap;rw[qq C,jd (by omega)];simp only[<-b,e2,JW,jW,Jb,Y];rw[a];rfl
 .obtain⟨M0,b1,b2,b3,b4⟩:=h.base;obtain⟨j1,j2,j3,j4,j5⟩:=h.j;have l:g.seq=K.seq:=by
   rw[a];show i.seq+(K.past.length:Int)=_;rw[b];rfl
  exact
   {calm:=by rw[a];exact v.calm
    age:=by rw[a];exact h.age.trans v.age.symm
    gone:=by rw[a]
    good:=by rw[a];exact M
    disk:=⟨i,s,by rw[a],by rw[a];exact Jy _,M,by
     have e5:g.filesAt i s=(Yc,Xi (mfB i))::J::(N++B):=by
      rw[a,X,U,hB];unfold Kp.filesAt;simp only[jD,t];rw[b]
     rw[e5,a];exact p3⟩
    info:=by rw[a,b];simp only[jr,KH,h.info]
    ok:=by
     rw[a];intro x F;simp only at F|-
     rw[t];rcases jo.1 F with F|F
     .exact S x F
     .exact h.ok x (List.mem_of_mem_drop F)
    seqs:=by rw[a];exact E
    j:=⟨by rw[a];exact j1,by rw[a];exact j2,by rw[a,b];exact j3,by rw[a];show K.j.w=i.o.width;rw[t];exact j4,by rw[l,a];exact j5⟩
    num:=by rw[a,b];exact h.num
    fit:=by rw[a];show ∀u∈K.past,u.fit (i.o.width.toNat/8);rw[t];exact h.fit
    base:=⟨M0,by rw[a];exact qx.says b1 D,by rw[a];exact b2,by rw[a];exact b3,by rw[a];exact b4⟩
    wlast:=by rw[l,a];exact h.wlast
    wlen:=by rw[a];exact h.wlen
    ids:=by rw[a];exact h.ids
    prs:=by rw[a];show ∀p∈K.P,0<=p.id/\p.id<=281474976710656/\p.code.length=i.o.width.toNat/8;rw[t];exact h.prs}
def Kp.liveFirst(K:Kp)(n:Nat):List En:=(Vg K.m.o (K.runs.take n) []).filter (λe=>!e.dead)
def Kp.firstInfo(K:Kp)(n:Nat)(x:Int):RI:=⟨x,((K.m.runs.head?).map (·.lo)).getD 0,(((K.m.runs.take n).getLast?).map (·.hi)).getD 0,((K.liveFirst n).length:Int)⟩
def Kp.merge(K:Kp)(n:Nat):Kp × Int :=
 if K.liveFirst n=[]then K.swap n none
 else if K.number.2≠0 then K.number
 else
  let x:=K.number.1.d.writeRun K.m.o (K.firstInfo n K.m.next) (K.liveFirst n)
  if x.2≠0 then({K.number.1 with d:=x.1},x.2)
  else({K.number.1 with d:=x.1}:Kp).swap n (some ⟨K.firstInfo n K.m.next,K.liveFirst n⟩)
theorem YM(h:Inv K)(n:Nat):Ord (Vg K.m.o (K.runs.take n) [])/\xG (Vg K.m.o (K.runs.take n) [])/\(∀x∈Vg K.m.o (K.runs.take n) [],x∈(K.runs.take n).flatMap (·.list))/\(∀p,Ze (Vg K.m.o (K.runs.take n) []) p=Ze ((K.runs.take n).flatMap (·.list)) p)/\(Vg K.m.o (K.runs.take n) []).length<=((K.runs.take n).flatMap (·.list)).length:=by
 have a:qf K.m [K.m.journal] 0 ((K.runs.take n).map (·.info))=true:=by
  have b:=h.good.runs;rw[<-h.info,<-Ja n K.runs,jr]at b;exact(yq.1 b).1
 obtain⟨c,d,f,k,j⟩:=zaD (o:=K.m.o) (K.runs.take n) [K.m.journal] 0 [] [] a (λr i=>h.ok r (UC i)) (by simp) kr (by intro e g;cases g) (by simp) (λp=>rfl);exact⟨c,d,λx l=>by simpa using f x l,λp=>by simpa using k p,by simpa using j⟩
theorem qs(n:Nat):J.all=(J.runs.take n).flatMap (·.list)++(J.runs.drop n).flatMap (·.list):=by
 unfold Kp.all;rw[<-jD,Ja]
theorem xaq(h:Inv K)(n:Nat):qx K.all (K.liveFirst n++(K.runs.drop n).flatMap (·.list)):=by
 obtain⟨k,q,t,r,u⟩:=YM h n;rw[qs K n];refine qx.app (vaQ λp=>?_);have j:=vn k q;have g:((K.liveFirst n).map En.pair).Nodup:=j.sublist ((Ua (l:=Vg K.m.o (K.runs.take n) [])).map _);unfold qu;rw[<-r p];cases hl:Ze (Vg K.m.o (K.runs.take n) []) p with
 |none =>
  simp only[Option.filter_none];rw[qp]at hl|-
  exact λe c=>hl e (Jf.1 c).1
 |some e =>
  obtain⟨c,b⟩:=zl hl;cases hd:e.dead with
  |false =>
   rw[(Q0 g).2 ⟨Jf.2 ⟨c,by simp[hd]⟩,b⟩];simp[Option.filter,hd]
  |true =>
   have:Ze (K.liveFirst n) p=none:=qp.2 λx s f=>by
    obtain⟨d,a⟩:=Jf.1 s;have i:=(Q0 j).2 ⟨d,f⟩;rw[hl]at i;cases i;rw[hd]at a;cases a
   rw[this];simp[Option.filter,hd]
theorem vaq(h:Inv K)(n:Nat):({K.m with runs:=K.m.runs.drop n}:Mf).good:=by
 obtain⟨o,g,i,j,d,c,e,k,a⟩:=h.good;rw[<-Ja n K.m.runs]at a;have f:=(yq.1 a).2;refine⟨o,g,i,j,d,c,e,?_,?_⟩
 .show(K.m.runs.drop n).length<=24;rw[jQ];omega
 .refine zy (m:=K.m) (n:={K.m with runs:=K.m.runs.drop n}) (Jy _) (Jy _) f ?_ (λr _ b=>jx _ b);cases hg:(K.m.runs.take n).getLast? with
  |none=>exact Jy _
  |some r =>
   have:=yl (yq.1 a).1 r (U2 hg);show 0<=r.hi;omega
theorem yaT(h:Inv K)(W:Xp K)(hn:1<=n)(X:n<=K.runs.length):
  ∃q,K.merge n=(q,0)/\Inv q/\q.P=K.P/\q.past=K.past/\q.m.o=K.m.o/\q.m.seq=K.m.seq/\K.m.next<=q.m.next/\q.m.next<=K.m.next+1/\q.all.length<=K.all.length/\q.d.cap=K.d.cap/\q.d.age=K.d.age:=by
 obtain⟨k1,k2,k3,k4,k5⟩:=YM h n;obtain⟨m0,s,f1,f2,f3,f4⟩:=h.disk;obtain⟨z1,z2⟩:=h.size (s:=s) f3;have M:=W.held;have a7:=W.room;have af:=W.next;have ad:=W.seq;unfold Kp.held at M;have V:K.all.length=((K.runs.take n).flatMap (·.list)).length+((K.runs.drop n).flatMap (·.list)).length:=by rw[qs K n,ja]
 have p:=xaq h n;have u:=h.seqs;rw[qs K n,jr,Jr]at u;obtain⟨q1,q2,q3⟩:=u;have g:∀e∈K.liveFirst n,e∈(K.runs.take n).flatMap (·.list):=λe F=>k3 e (Jf.1 F).1
 have a3:(K.liveFirst n).length<=((K.runs.take n).flatMap (·.list)).length:=jI (Um _ _) k5;have a6:((K.liveFirst n).map En.pair).Nodup:=(vn k1 k2).sublist ((Ua (l:=Vg K.m.o (K.runs.take n) [])).map _);by_cases hl:K.liveFirst n=[]
 .obtain⟨q,e1,i1,k,H,Y,i5,J⟩:=qax h hn X (r:=none) (d1:=K.d) f1 f2 f3 (Yh.refl h.calm) (by simpa using f4) (by simp) (vaq h n) (by simp;omega) (by simp;omega) (by simpa using q2) (by rw[hl]at p;simpa using p);refine⟨q,?_,i1,i5,Y,by rw[k],by rw[k],by rw[k];exact Jy _,by rw[k];show K.m.next<=K.m.next+1;omega,?_,J.cap,J.age⟩
  .unfold Kp.merge;rw[jh hl];exact e1
  .unfold Kp.all;rw[H];simp only[Option.toList_none,jK];have:=V;unfold Kp.all at this;omega
 .obtain⟨S,e1,i1,k,H,Y,i5,J⟩:=ZM h W;have a0:K.runs.take n≠[]:=by
   intro e0;have:=jT List.length e0;rw[jN,jA]at this;omega
  have N:qf K.m [K.m.journal] 0 (K.m.runs.take n)=true:=by
   have T:=h.good.runs;rw[<-Ja n K.m.runs]at T;exact(yq.1 T).1
  have w:K.m.runs.take n=(K.runs.take n).map (·.info):=by rw[Kh,h.info]
  obtain⟨B,xs,v⟩:=List.exists_cons_of_ne_nil (show K.m.runs.take n≠[] by rw[w];simpa using a0);obtain⟨z,U⟩:∃z,(K.m.runs.take n).getLast?=some z:=by
   cases Z:(K.m.runs.take n).getLast? with
   |none=>rw[kN]at Z;rw[Z]at v;cases v
   |some z=>exact⟨z,rfl⟩
  have O:K.m.runs.head?=some B:=by
   have:(K.m.runs.take n).head?=some B:=by rw[v];rfl
   rw[List.head?_take]at this;rw[jd (by omega)]at this;exact this
  have D:=qT (by rw[<-v];exact N);have A:=ZY N;have t:=yl N;have ac:=t B (by rw[v];exact jc);have ae:=t z (U2 U);have a9:B.hi<=z.hi:=A B (by rw[v];exact jc) z U;obtain⟨c,hI⟩:=EN (K.firstInfo n K.m.next);have E:c=⟨K.m.next,B.lo,z.hi,((K.liveFirst n).length:Int)⟩:=by
   rw[hI];unfold Kp.firstInfo;rw[O,U];rfl
  have ag:=h.good.n0;have a2:=h.good.n1;have ah:=h.good.s1;have L:ym K.m.o c (K.liveFirst n):=by
   rw[E];refine⟨h.good.o,by show 0<=B.lo;omega,by show B.lo<z.hi;omega,by show z.hi<=_;omega,by show 1<=K.m.next;omega,a2,rfl,by omega,k1.sublist Ua,λe F=>k2 e (Jf.1 F).1,λe F=>?_,λe F=>?_,λe F=>?_⟩
   .exact(h.allMem e (by rw[qs K n];exact jx _ (g e F))).1
   .have:=h.allMem e (by rw[qs K n];exact jx _ (g e F));exact⟨this.2.1,this.2.2.1⟩
   .obtain⟨r,hr,a5⟩:=JB.1 (g e F);have g1:=(h.ok r (UC hr)).seq e a5;have R:r.info∈K.m.runs.take n:=by rw[w];exact jg.2 ⟨r,hr,rfl⟩
    have g3:=D r.info (by rw[<-v];exact R);have g4:=A r.info R z U;show B.lo<e.seq/\e.seq<=z.hi;omega
  have y:c.number=K.m.next:=by rw[E]
  have aa:=zW h.good.o (400*(((K.liveFirst n).length:Int)+1)) (by omega);have a4:=(Yj h.good.o).2;obtain⟨d1,e2,a1,p1⟩:=XC L (by omega) h.calm f4 (λj _=>by rw[y];exact xaK h (Jy _) j) (by omega) (by omega);have a8:=Zy L;have f:S.filesAt m0 s=K.filesAt m0 s:=by
   unfold Kp.filesAt;rw[k,H,Y]
  have Q:S.all=K.all:=by unfold Kp.all;rw[H]
  have Z:({S.m with runs:=(some (⟨c,K.liveFirst n⟩:Qj)).toList.map (·.info)++S.m.runs.drop n}:Mf).good:=by
   rw[k];obtain⟨o,s0,s1,n0,n1,j0,j1,ab,G⟩:=h.good;refine⟨o,s0,s1,by show 2<=K.m.next+1;omega,by show K.m.next+1<=_;omega,j0,by show K.m.journal<=K.m.next+1-1;omega,?_,?_⟩
   .show((some (⟨c,K.liveFirst n⟩:Qj)).toList.map (·.info)++K.m.runs.drop n).length<=24;rw[ja,jQ];simp only[UK,ju,Jt,j8];omega
   .show qf _ [K.m.journal] 0 (c::K.m.runs.drop n)=true;rw[<-Ja n K.m.runs]at G;have T:=(yq.1 G).2;rw[U]at T;unfold qf;rw[jd]
    .refine zy (m:=K.m) ?_ ?_ T ?_ (λr hr I=>?_)
     .show K.m.next<=K.m.next+1;omega
     .exact Jy _
     .show c.hi<=z.hi;rw[E];exact Jy _
     rcases jo.1 I with I|I
     .exact jx _ I
     .exfalso;rw[jC]at I;have:=(yl T r hr).2.1;rw[I,y]at this;omega
    .unfold RI.bad;simp only[Kc];rw[E];simp only;have ai:0<(K.liveFirst n).length:=JI.2 hl;refine⟨λI=>?_,by omega,by omega,by omega,by omega,by omega,by omega,by omega⟩;rw[jC]at I;omega
  have C:qx S.all (((some (⟨c,K.liveFirst n⟩:Qj)).toList++S.runs.drop n).flatMap (·.list)):=by
   rw[Q,H];simpa using p
  obtain⟨q,e3,g1,R,g3,g4,g5,g6⟩:=qax i1 hn (by rw[H];exact X) (r:=some ⟨c,K.liveFirst n⟩) (d1:=d1) (m0:=m0) (s:=s) (by rw[k];exact f1) (by rw[k];show m0.next<=K.m.next+1;omega) f3 (by rw[J];exact a1) (by rw[f,k];simpa using p1) (by
    intro x v;simp only[UK,jC]at v;subst v;rw[k];exact L) Z (by rw[f,k];simp only[UK,jB,Jk,jJ,zw];omega) (by
    rw[f,k,J];simp only[UK,jB,Jk,jJ];rw[vM];omega) (by
    rw[H];simp only[UK,jO,jK,jB];rw[jr,Jr];refine⟨XaF g q1 a6,q2,λa ha b hb=>?_⟩;obtain⟨x,v,rfl⟩:=jg.1 ha;exact q3 _ (jg.2 ⟨x,g x v,rfl⟩) b hb) C
  refine⟨q,?_,g1,by rw[g5,i5],by rw[g4,Y],by rw[R,k],by rw[R,k],by rw[R,k];show K.m.next<=K.m.next+1;omega,by rw[R,k];exact Jy _,?_,by rw[g6.cap,J],by rw[g6.age,J]⟩
  .unfold Kp.merge;rw[jd hl,e1];simp only[JW,jW,Jb];rw[<-hI,J,e2];simp only[JW,jW,Jb];exact e3
  .unfold Kp.all;rw[g3,H];simp only[UK,jO,jK,jB,ja];have:=V;unfold Kp.all at this;omega
def zt(L:List ((Int × Bs) × En))(A:List En):Prop:=(L.map (·.1)).Nodup/\(∀x∈L,x.2.pair=x.1)/\∀p,(Zd L p).map En.zero=Ze A p
theorem Ya4:zt [] []:=⟨by simp,by simp,λp=>by simp[Zd,Ze]⟩
theorem xaT{L:List ((Int × Bs) × En)}(h:zt L l)(x:En):zt (ye L x.pair x) (l++[x.zero]):=by
 refine⟨yo h.1 _ _,λy a=>?_,λp=>?_⟩
 .rcases Yi.1 a with rfl|⟨a,_⟩
  .rfl
  .exact h.2.1 y a
 .rw[qU h.1,Vag,(Zk x).2.1];by_cases hp:x.pair=p
  .rw[jh hp,jh hp.symm];rfl
  .rw[jd hp,jd (λb=>hp b.symm)];exact h.2.2 p
theorem qaK{L:List ((Int × Bs) × En)}{A B:List En}(h:zt L A)(a:∀p,Ze A p=Ze B p):zt L B:=⟨h.1,h.2.1,λp=>(h.2.2 p).trans (a p)⟩
def Qf(L:List ((Int × Bs) × En))(T:List En):List ((Int × Bs) × En):=T.foldl (λL x=>ye L x.pair x) L
theorem Xa4:∀(T:List En) {L:List ((Int × Bs) × En)} {A:List En},zt L A->zt (Qf L T) (A++T.map En.zero):=by
 intro T;induction T with
 |nil=>intro L A h;simpa [Qf] using h
 |cons x r ih =>
  intro L A h;have:=ih (xaT h x);rw[jE]at this;exact this
theorem ZaK{i:RI}(h:ym o i l){L:List ((Int × Bs) × En)}{A:List En}(c:zt L A):zt (Qf L (Qc o 0 l)) (A++l):=by
 have a:=vn h.ord h.zero;have b:((Qc o 0 l).map En.zero).Perm l:=by
  have:=(Yp o 0 l).map En.zero;rw[j7,show(En.zero ∘ En.inT o 0)=En.zero from rfl,YC h.zero]at this;exact this
 refine qaK (Xa4 _ c) λp=>?_
 rw[yE,yE,QU (by rw[Yap];exact zA a) b p]
def Yb(V:List ((Int × Bs) × En)):List Pr:=V.filterMap λx=>if x.2.dead then none else some ⟨x.1.1,x.1.2⟩
theorem vr{V:List ((Int × Bs) × En)}{p:Pr}:p∈Yb V<->∃x∈V,x.2.dead=false/\x.1=(p.id,p.code):=by
 unfold Yb;rw[List.mem_filterMap];constructor
 .rintro⟨x,b,e⟩;split at e
  .cases e
  .rename_i a
   cases e;exact⟨x,b,by simpa using a,rfl⟩
 .rintro⟨x,b,a,e⟩;refine⟨x,b,?_⟩;rw[a,e];rfl
theorem yW{V L:List ((Int × Bs) × En)}{v:Qi}(o:zt L l)(s:V.Perm L)(z:qO v l):((Yb V).map (·.id)).Nodup/\qd (Yb V)=v/\∀p∈Yb V,∃e∈l,e.pair=(p.id,p.code):=by
 have g:(V.map (·.1)).Nodup:=((s.map _).nodup_iff).2 o.1;have a:∀x∈V,x.2.dead=false->v x.1.1=some x.1.2/\∃e∈l,e.pair=x.1:=by
  intro x m f;have h:Zd L x.1=some x.2:=qg o.1 (s.mem_iff.1 m);have b:=o.2.2 x.1;rw[h]at b;have d:Ze l x.1=some x.2.zero:=b.symm;refine⟨(z x.1.1 x.1.2).2 ⟨x.2.zero,qS.2 ⟨d,f⟩⟩,x.2.zero,(zl d).1,(zl d).2⟩
 have k:((Yb V).map (·.id)).Nodup:=by
  clear s;induction V with
  |nil=>simp[Yb]
  |cons x r ih =>
   rw[ju,jY]at g;have j:=ih g.2 λy q=>a y (jb _ q)
   by_cases f:x.2.dead=true
   .have:Yb (x::r)=Yb r:=by simp[Yb,f]
    rw[this];exact j
   .have n:x.2.dead=false:=by simpa using f
    have:Yb (x::r)=⟨x.1.1,x.1.2⟩::Yb r:=by simp[Yb,n]
    rw[this,ju,jY];refine⟨λw=>?_,j⟩;obtain⟨p,u,e⟩:=jg.1 w;obtain⟨y,q,t,B⟩:=vr.1 u;have h:=(a x jc n).1;have b:=(a y (jb _ q) t).1;rw[B]at b;simp only at e b;rw[e,h]at b;refine g.1 (jg.2 ⟨y,q,?_⟩);rw[B,e,<-Jv b]
 refine⟨k,Zae λi c=>?_,λp u=>?_⟩
 .rw[vk k,vr];constructor
  .rintro⟨x,m,f,e⟩;have:=(a x m f).1;rw[e]at this;exact this
  .intro w;obtain⟨e,C⟩:=(z i c).1 w;obtain⟨h,b⟩:=qS.1 C;have d:=o.2.2 (i,c);rw[h]at d;cases hg:Zd L (i,c)with
   |none=>rw[hg]at d;cases d
   |some y =>
    rw[hg]at d;simp only[JE,Ug]at d;refine⟨((i,c),y),s.mem_iff.2 (Qq hg),?_,rfl⟩;rw[<-d]at b;exact b
 .obtain⟨x,m,f,e⟩:=vr.1 u;rw[<-e];exact(a x m f).2
def Kp.play(K:Kp):List Up->Kp
 |[]=>K
 |u::r=>Kp.play (K.made u (K.goes u).1) r
theorem VaF(e:Xc K.m.o.width=true)(g:K.m.o.width/8=((K.m.o.width.toNat/8:Nat):Int))(i:K.words.length<65536)(j:K.P.length<1048576){u:Up}(h:(qd K.P).goes u)(n:0<=u.id)(l:u.id<=281474976710656)(f:u.kind=1->u.code.length=K.m.o.width.toNat/8):K.goes u=(vh K.P u,0):=by
 have a:∀p:Pr,(if(Zd K.words (p.id,p.code)).isNone/\65536<=K.words.length then((⟨0,[]⟩,152):Pr × Int)else(p,0))=(p,0):=λp=>by rw[jd];rintro⟨_,q⟩;omega
 unfold Kp.goes;simp only[a];rw[jd (by omega)];rcases h with⟨k,d⟩|⟨k,d⟩
 .rw[jd (by omega),Qy e (by rw[f k,g]),jd (by decide),d,jd (by simp),jd (by omega)];unfold vh;rw[jh k];exact a ⟨u.id,u.code⟩
 .rw[jh k];obtain⟨c,b⟩:=UJ.1 d;simp only[b];rw[a ⟨u.id,c⟩];unfold vh;rw[jd (by omega),b];rfl
structure Q1 (K:Kp) (M0:Qi) (A:List Up):Prop where
 past:K.past=A
 words:qD K.words (zq M0 A)
 wlen:K.words.length<=A.length
 ids:(K.P.map (·.id)).Nodup
 live:qd K.P=qr M0 A
 prs:∀p∈K.P,0<=p.id/\p.id<=281474976710656/\p.code.length=K.m.o.width.toNat/8
 wlast:K.wlast<=K.m.seq+A.length
theorem qaq{g:Qi}{A:List Up}(h:Q1 K g A)(q:Xc K.m.o.width=true)(t:K.m.o.width/8=((K.m.o.width.toNat/8:Nat):Int)){u:Up}(j:(qr g A).goes u)(b:u.fit (K.m.o.width.toNat/8))(w:u.seq=K.m.seq+A.length+1)(v:A.length<65536)(s:K.P.length<1048576):
  K.goes u=(vh K.P u,0)/\Q1 (K.made u (K.goes u).1) g (A++[u])/\(K.made u (K.goes u).1).P.length<=K.P.length+1/\(K.made u (K.goes u).1).m=K.m/\(K.made u (K.goes u).1).d=K.d/\(K.made u (K.goes u).1).runs=K.runs/\(K.made u (K.goes u).1).age=K.age/\(K.made u (K.goes u).1).gone=K.gone/\(K.made u (K.goes u).1).synced=K.synced:=by
 rw[<-h.live]at j;have i:=VaF q t (Kz h.wlen v) s j b.i0 b.i1 b.c1;rw[i];have r:=b.k;have f:(((K.made u (vh K.P u)).P).map (·.id)).Nodup/\qd (K.made u (vh K.P u)).P=(qd K.P).apply u:=by
  unfold Kp.made;simp only;rcases j with⟨k,n⟩|⟨k,n⟩
  .rw[jd (by omega)];have:vh K.P u=⟨u.id,u.code⟩:=by unfold vh;rw[jh k]
   rw[this];exact Vah h.ids (p:=⟨u.id,u.code⟩) n u k rfl rfl
  .rw[jh k];exact Qah h.ids (vh K.P u).id u (by omega) rfl
 have e:(Qm (qd K.P) u).pair=((vh K.P u).id,(vh K.P u).code):=rfl;have c:(Qm (qd K.P) u).dead=decide (u.kind=2):=by
  show decide (u.kind≠1)=_;rcases r with k|k<;>simp[k]
 refine⟨rfl,⟨?_,?_,?_,f.1,?_,?_,?_⟩,?_,rfl,rfl,rfl,rfl,rfl,rfl⟩
 .show K.past++[u]=A++[u];rw[h.past]
 .rw[Qag,<-h.live];have:=zai h.words (Qm (qd K.P) u);rw[e,c]at this;exact this
 .show(ye K.words _ _).length<=(A++[u]).length;rw[Yy,ja,j8];have:=h.wlen;split<;>omega
 .rw[f.2,zR,h.live];rfl
 .intro p a;show 0<=p.id/\p.id<=281474976710656/\p.code.length=K.m.o.width.toNat/8;unfold Kp.made at a;simp only at a;split at a
  .exact h.prs p (Jf.1 a).1
  .rcases jo.1 a with a|a
   .exact h.prs p a
   .rw[jC]at a;subst a;have l:u.kind=1:=by omega
    unfold vh;rw[jh l];exact⟨b.i0,b.i1,b.c1 l⟩
 .show u.seq<=K.m.seq+((A++[u]).length:Int);rw[ja,j8];push_cast;omega
 .unfold Kp.made;simp only;split
  .exact jI (Um _ _) (by omega)
  .rw[ja,j8];omega
theorem QaF:∀(a:List Up) {K:Kp} {c:Qi} {A:List Up},Q1 K c A->Xc K.m.o.width=true->K.m.o.width/8=((K.m.o.width.toNat/8:Nat):Int)->qC (qr c A) a->(∀u∈a,u.fit (K.m.o.width.toNat/8))->zm (K.m.seq+A.length) a->A.length+a.length<65536->K.P.length+a.length<1048576 ->
  Q1 (K.play a) c (A++a)/\(K.play a).m=K.m/\(K.play a).d=K.d/\(K.play a).runs=K.runs/\(K.play a).age=K.age/\(K.play a).gone=K.gone/\(K.play a).synced=K.synced:=by
 intro a;induction a with
 |nil=>intro K c A h _ _ _ _ _ _ _;exact⟨by simpa [Kp.play] using h,rfl,rfl,rfl,rfl,rfl,rfl⟩
 |cons u r ih =>
  intro K c A h e k f g j B D;simp only[jk]at B D;obtain⟨G,z,H,b,F,l,y,q,v⟩:=qaq h e k f.1 (g u jc) j.1 (by omega) (by omega);have:=ih z (by rw[b];exact e) (by rw[b];exact k) (by rw[zR];exact f.2) (λx C=>by rw[b];exact g x (jb _ C)) (by
   rw[b,ja,j8];have:=j.2;rw[show K.m.seq+((A.length+1:Nat):Int)=K.m.seq+A.length+1 by push_cast;omega];exact this) (by rw[ja,j8];omega) (by omega)
  obtain⟨i,n,p,s,E,w,t⟩:=this;rw[jE]at i;exact⟨i,n.trans b,p.trans F,s.trans l,E.trans y,w.trans q,t.trans v⟩
theorem Zax(h:(p.map (·.id)).Nodup):p.Nodup:=(Uu.1 h).imp λa e=>a (by rw[e])
theorem Yax{P Q:List Pr}(b:(P.map (·.id)).Nodup)(a:(Q.map (·.id)).Nodup)(h:qd P=qd Q):P.Perm Q:=by
 refine(Un (Zax b) (Zax a)).2 λp=>?_
 obtain⟨i,c⟩:=p;rw[<-vk b,<-vk a,h]
def qai(d:Dk)(m:Mf)(runs:List Qj)(P:List Pr):Kp:=⟨d,d.age,false,m,runs,⟨d.age,false,[],0,0,0⟩,[],m.seq,[],0,P⟩
def vG(d:Dk)(m:Mf)(runs:List Qj)(P:List Pr)(past:List Up):Kp:={ (qai d m runs P).play past with j:=⟨d.age,false,Qa m.journal.toNat,m.o.width,m.seq+past.length,m.seq⟩}
theorem VC(V:List ((Int × Bs) × En)):(Yb V).length<=V.length:=List.length_filterMap_le _ _
theorem Xax(h:Inv K)(hs:Xp K){a:Mf}(q:a={K.m with next:=a.next})(Y:a.next<=K.m.next)(x:a.good)(hf:K.d.files.Perm (K.filesAt a n)){L V:List ((Int × Bs) × En)}(Z:zt L K.all)(hV:V.Perm L)(O:V.length<=K.all.length):
  Inv (vG K.d a K.runs (Yb V) K.past)/\(vG K.d a K.runs (Yb V) K.past).P.Perm K.P/\(vG K.d a K.runs (Yb V) K.past).past=K.past/\(vG K.d a K.runs (Yb V) K.past).m=a/\(vG K.d a K.runs (Yb V) K.past).runs=K.runs/\(vG K.d a K.runs (Yb V) K.past).d=K.d:=by
 obtain⟨T,N,b2,b3,b4⟩:=h.base;obtain⟨l1,l2,l3⟩:=yW Z hV N;obtain⟨w1,w2,w3,U,w5⟩:=h.w;have t:=hs.held;unfold Kp.held at t;have r:a.o=K.m.o:=by rw[q]
 have f:a.seq=K.m.seq:=by rw[q]
 have M:a.journal=K.m.journal:=by rw[q]
 have I:a.runs=K.m.runs:=by rw[q]
 have hA:Q1 (qai K.d a K.runs (Yb V)) T [] :=
  ⟨rfl,qR,jm _,l1,l2,λp hp=>by
   obtain⟨e,he,J⟩:=l3 p hp;have:=h.allMem e he;simp only[En.pair,Je]at J;show 0<=p.id/\p.id<=281474976710656/\p.code.length=a.o.width.toNat/8;rw[r,<-J.1,<-J.2];exact⟨this.2.1,this.2.2.1,this.1⟩,by show(0:Int)<=a.seq+0;rw[f];have:=h.good.s0;omega⟩
 have W:=VC V;obtain⟨i,v,C,E,H,F,X⟩:=QaF K.past hA (by show Xc a.o.width=true;rw[r];exact U) (by show a.o.width/8=((a.o.width.toNat/8:Nat):Int);rw[r];exact w5) b2 (by show ∀u∈K.past,u.fit (a.o.width.toNat/8);rw[r];exact h.fit) (by show zm (a.seq+0) K.past;rw[f];simpa using h.num) (by simp;omega) (by show(Yb V).length+_<_;omega);rw[jK]at i;obtain⟨k,A⟩:=EN ((qai K.d a K.runs (Yb V)).play K.past);rw[<-A]at i v C E H F X;have v:k.m=a:=v;have C:k.d=K.d:=C;have E:k.runs=K.runs:=E;have H:k.age=K.d.age:=H;have F:k.gone=false:=F;obtain⟨c,y⟩:=EN (vG K.d a K.runs (Yb V) K.past);have b:c={k with j:=⟨K.d.age,false,Qa a.journal.toNat,a.o.width,a.seq+K.past.length,a.seq⟩}:=by rw[y,A];rfl
 rw[<-y];have g:c.m=a:=by rw[b];exact v
 have G:c.d=K.d:=by rw[b];exact C
 have B:c.runs=K.runs:=by rw[b];exact E
 have S:c.age=K.d.age:=by rw[b];exact H
 have g5:c.gone=false:=by rw[b];exact F
 have l:c.past=K.past:=by rw[b];exact i.past
 have Q:c.all=K.all:=by unfold Kp.all;rw[B]
 have R:c.words=k.words:=by rw[b]
 have D:c.P=k.P:=by rw[b]
 have z:c.seq=K.seq:=by unfold Kp.seq;rw[g,l,f]
 refine⟨?_,?_,l,g,B,G⟩
 .exact
   {calm:=by rw[G];exact h.calm
    age:=by rw[G,S]
    gone:=g5
    good:=by rw[g];exact x
    disk:=⟨a,n,by rw[g],by rw[g];exact Jy _,x,by
     have:c.filesAt a n=K.filesAt a n:=by
      unfold Kp.filesAt;rw[g,B,l,r,M]
     rw[G,this];exact hf⟩
    info:=by rw[g,B,I];exact h.info
    ok:=by rw[g,B,r];exact h.ok
    seqs:=by rw[Q];exact h.seqs
    j:=by rw[z,S,g,b];exact⟨rfl,rfl,rfl,rfl,by show a.seq+(K.past.length:Int)=K.seq;rw[f];rfl⟩
    num:=by rw[g,l,f];exact h.num
    fit:=by rw[g,l,r];exact h.fit
    base:=⟨T,by rw[Q];exact N,by rw[l];exact b2,by rw[l,D];exact i.live.symm,by rw[l,R];exact i.words⟩
    wlast:=by
     rw[z];have:=i.wlast;rw[v,f]at this;rw[b];exact this
    wlen:=by rw[l,R];exact i.wlen
    ids:=by rw[D];exact i.ids
    prs:=by
     rw[g,D,r];have:=i.prs;rw[v,r]at this;exact this}
 .rw[D];exact Yax i.ids h.ids (i.live.trans b3)
def vw(d:Dk)(o:Op3):Kp:=⟨d,d.age,false,⟨o,0,2,1,[]⟩,[],⟨d.age,false,Qa 1,o.width,0,0⟩,[],0,[],0,[]⟩
theorem Zai(h:Qb o=0):(⟨o,0,2,1,[]⟩:Mf).good:={o:=h,s0:=(by decide:(0:Int)<=0),s1:=(by decide:(0:Int)<=1152921504606846976),n0:=(by decide:(2:Int)<=2),n1:=(by decide:(2:Int)<=1099511627776),j0:=(by decide:(1:Int)<=1),j1:=(by decide:(1:Int)<=2-1),len:=(by decide:([]:List RI).length<=24),runs:=rfl}
theorem Yai(h:vq d)(i:d.files=[])(y:2000<=d.cap)(m:Qb o=0):
  ∃c b,d.create (Qa 1)=(c,0)/\c.store ⟨o,0,2,1,[]⟩=(b,0)/\Yh d b/\Inv (vw b o):=by
 have g:=Zai m;obtain⟨c,q,f,l⟩:=XB (n:=Qa 1) (L:=[]) h (by rw[i]) (QO (by decide)) (by simp) (by simp);obtain⟨b,x,s,t⟩:=qM (R:=[(Qa 1,⟨[],0⟩)]) g f.calm [] (by simp) (by simpa using l) (by simp;exact λe=>QaR 1 e.symm) (by simp;exact λe=>vah 1 e.symm) (by simp) (by simp[Xf];rw[f.cap];omega);have a:=f.trans s;refine⟨c,b,q,x,a,?_⟩;exact
  {calm:=a.calm,age:=rfl,gone:=rfl,good:=g
   disk:=⟨_,0,rfl,Jy _,g,by
    have:(vw b o).filesAt ⟨o,0,2,1,[]⟩ 0=[(Yc,Xi (mfB ⟨o,0,2,1,[]⟩)),(Qa 1,⟨[],0⟩)]:=rfl;exact t.trans (List.Perm.of_eq this.symm)⟩
   info:=rfl,ok:=λr v=>by cases v
   seqs:=List.nodup_nil
   j:=⟨rfl,rfl,rfl,rfl,rfl⟩,num:=trivial,fit:=λu w=>by cases w
   base:=⟨λ_=>none,va3,trivial,rfl,qR⟩
   wlast:=Jy _,wlen:=jm _,ids:=List.nodup_nil,prs:=λp k=>by cases k}
def xo(u:Up):Bool->List Pr->List Pr
 |put,[]=>if put then[]else[⟨u.id,u.code⟩]
 |put,p::r=>(if put=false/\u.id<p.id then[⟨u.id,u.code⟩]else[])++((if p.id≠u.id then[p]else[])++xo u (put||decide (u.id<p.id)) r)
def qG(l:List Pr)(u:Up):List Pr:=xo u (decide (u.kind≠1)) l
def Ql(l:List Pr)(u:Up)(w:Int):Int :=
 if u.id<0\/281474976710656<u.id then 60
 else if u.kind=1/\(u.code.length:Int)≠w/8 then 11
 else if u.kind=1/\u.id∈l.map (·.id)then 130
 else if u.kind=2/\u.id∉l.map (·.id)then 131 else 0
def vP(l:List Pr):Prop:=l.Pairwise λa b=>a.id<b.id
theorem ZJ(u:Up):∀l,xo u true l=l.filter (λx=>decide (x.id≠u.id)):=by
 intro l;induction l with
 |nil=>rfl
 |cons p r ih =>
  simp only[xo,kU,false_and,Jb,jK,Bool.true_or,ih];by_cases h:p.id=u.id
  .rw[jd (by simpa using h),ka (by simpa using h)];rfl
  .rw[jh h,List.filter_cons_of_pos (by simpa using h)];rfl
theorem Vax(u:Up):∀l,u.id∉l.map (·.id)->(xo u false l).Perm (l++[⟨u.id,u.code⟩]):=by
 intro l;induction l with
 |nil=>intro _;exact UL _
 |cons p r ih =>
  intro h;rw[ju,jp,Kc]at h;have a:p.id≠u.id:=λe=>h.1 e.symm
  simp only[xo,KU,Bool.false_or];rw[jh a];by_cases hlt:u.id<p.id
  .rw[jh hlt,U6 hlt,ZJ,UT.2 (λx b=>by simpa using λe=>h.2 (jg.2 ⟨x,b,e⟩))];exact(JO (l₁:=[(⟨u.id,u.code⟩:Pr)]) (l₂:=[p]++r))
  .rw[jd hlt,J8 hlt];simp only[jK,List.singleton_append,jO];exact Jm _ (ih h.2)
theorem YaK(u:Up):∀l put p,p∈xo u put l->p=⟨u.id,u.code⟩\/p∈l:=by
 intro l;induction l with
 |nil =>
  intro put p h;simp only[xo]at h;split at h
  .cases h
  .rw[jC]at h;exact .inl h
 |cons x r ih =>
  intro put p h;simp only[xo]at h;rcases jo.1 h with h|h
  .split at h
   .rw[jC]at h;exact .inl h
   .cases h
  .rcases jo.1 h with h|h
   .split at h
    .rw[jC]at h;exact .inr (by rw[h];exact jc)
    .cases h
   .rcases ih _ p h with h|h
    .exact .inl h
    .exact .inr (jb _ h)
theorem YY(u:Up):∀l put,vP l->vP (xo u put l):=by
 intro l;induction l with
 |nil =>
  intro put _;simp only[xo];split
  .exact kr
  .exact List.pairwise_singleton _ _
 |cons x r ih =>
  intro put h;obtain⟨c,d⟩:=JA.1 h;cases put with
  |true =>
   rw[ZJ];exact h.sublist Ua
  |false =>
   simp only[xo,KU,Bool.false_or];by_cases hlt:u.id<x.id
   .rw[jh hlt,U6 hlt,ZJ];rw[jh (by omega)];refine JA.2 ⟨λy a=>?_,JA.2 ⟨λy a=>c y (Jf.1 a).1,d.sublist Ua⟩⟩;rcases jp.1 a with rfl|a
    .exact hlt
    .have:=c y (Jf.1 a).1;show u.id<y.id;omega
   .rw[jd hlt,J8 hlt];have b:=ih false d;split
    .rename_i e
     refine JA.2 ⟨λy a=>?_,b⟩;rcases YaK u r false y a with rfl|a
     .show x.id<u.id;omega
     .exact c y a
    .exact b
structure Qg (K:Kp) (l:List Pr) (i:Nat):Prop where
 inv:Inv K
 perm:K.P.Perm l
 sorted:vP l
 seq:K.seq<=i
 held:K.held<=i
 next:K.m.next<=2+2*(i:Int)
 cap:K.d.cap=1073741824
 live:K.P.length<=i
theorem Qg.small(h:Qg K p i)(b:i<=4000):Xp K:=⟨by have a:=h.held;have c:=h.inv.runsLen;have d:=h.cap;unfold Kp.held at a;omega,by have:=h.held;omega,by have:=h.seq;omega,by have:=h.next;omega,by have:=h.live;omega⟩
theorem Qg.mono(h:Qg K p i)(a:i<=j):Qg K p j:=⟨h.inv,h.perm,h.sorted,by have:=h.seq;omega,by have:=h.held;omega,by have:=h.next;omega,h.cap,by have:=h.live;omega⟩
theorem QJ(h:Inv K)(a:x≠45){f:Kp->Kp × Int}(b:f K=(K,x)):K.gate f=(K,x):=by
 rw[qq h.isOpen,b];simp only;rw[J8 a,h.goneF]
theorem Vat(h:Qg K p i)(U:i<=3000){u:Up}(Q:u.kind=1\/u.kind=2)(R:u.kind=2->u.code=[]):
  ∃a,K.update u=(a,Ql p u K.m.o.width)/\a.m=K.m/\(Ql p u K.m.o.width≠0->a=K)/\(Ql p u K.m.o.width=0->Qg a (qG p u) (i+1)/\a.seq=K.seq+1):=by
 have r:=h.inv;have O:=h.small (by omega);obtain⟨S,V,T,L,W⟩:=r.w;have b:∀x,x∈p.map (·.id)<->qd K.P x≠none:=λx=>by
  rw[<-(h.perm.map (·.id)).mem_iff,JW,Vu];simp only[Classical.not_not]
 have g:∀e,Ql p u K.m.o.width=e->e≠0->e≠45->(K.goes u).2=e->∃a,K.update u=(a,Ql p u K.m.o.width)/\a.m=K.m/\(Ql p u K.m.o.width≠0->a=K)/\(Ql p u K.m.o.width=0->Qg a (qG p u) (i+1)/\a.seq=K.seq+1):=by
  intro e I M z N;refine⟨K,?_,rfl,λ_=>rfl,λd=>absurd (I▸d) M⟩;unfold Kp.update;refine QJ r (by rw[I];exact z) ?_;rw[jh (by rw[N];exact M),N,I]
 by_cases Hi:u.id<0\/281474976710656<u.id
 .refine g 60 (by unfold Ql;rw[jh Hi]) (by decide) (by decide) ?_;unfold Kp.goes;rw[jh Hi]
 .rcases Q with k|k
  .by_cases hlen:(u.code.length:Int)=K.m.o.width/8
   .by_cases hin:u.id∈p.map (·.id)
    .refine g 130 (by unfold Ql;rw[jd Hi,jd (by rintro⟨_,d⟩;exact d hlen),jh ⟨k,hin⟩]) (by decide) (by decide) ?_;have j:(qd K.P u.id).isSome=true:=by
      cases hl:qd K.P u.id with
      |none=>exact absurd hl ((b u.id).1 hin)
      |some c=>rfl
     unfold Kp.goes;rw[jd Hi];simp only;rw[jd (by omega),Qy L hlen,jd (by decide),j,jh rfl]
    .have y:qd K.P u.id=none:=by
      cases hl:qd K.P u.id with
      |none=>rfl
      |some c=>exact absurd ((b u.id).2 (by rw[hl];simp)) hin
     have t:Ql p u K.m.o.width=0:=by
      unfold Ql;rw[jd Hi,jd (by rintro⟨_,d⟩;exact d hlen),jd (by rintro⟨_,d⟩;exact hin d),jd (by omega)]
     have s:=h.seq;have A:=r.good.s0;have C:K.m.seq<=K.seq:=by unfold Kp.seq;omega
     have B:({u with seq:=K.seq+1}:Up).fit (K.m.o.width.toNat/8):=⟨by show 1<=K.seq+1;omega,by show K.seq+1<=_;omega,.inl k,by show 0<=u.id;omega,by show u.id<=_;omega,λ_=>by show u.code.length=_;omega,λG=>by have:u.kind=2:=G;omega⟩;obtain⟨a,H,F,n,D,v,q,E⟩:=VS r O (u:=u) (.inl ⟨k,y⟩) B;rw[jd (by omega)]at q;have f:a.seq=K.seq+1:=by
      unfold Kp.seq;rw[n,v,ja,j8];push_cast;omega
     refine⟨a,by rw[t];exact H,n,λd=>absurd t d,λ_=>⟨⟨F,?_,YY _ _ _ h.sorted,by rw[f];push_cast;omega,?_,by rw[n];have:=h.next;push_cast;omega,by rw[E.cap];exact h.cap,?_⟩,f⟩⟩
     .rw[q];unfold qG;rw[show decide (u.kind≠1)=false by simp[k]];exact(h.perm.append_right _).trans (Vax u p hin).symm
     .have:=h.held;unfold Kp.held Kp.all at this|-
      rw[D,v,ja,j8];omega
     .rw[q,ja,j8];have:=h.live;omega
   .refine g 11 (by unfold Ql;rw[jd Hi,jh ⟨k,hlen⟩]) (by decide) (by decide) ?_;have J:Qh K.m.o.width u.code=11:=by unfold Qh;rw[jd (by rw[L];decide),jh hlen]
    unfold Kp.goes;rw[jd Hi];simp only;rw[jd (by omega),J,jh (by decide)]
  .by_cases hin:u.id∈p.map (·.id)
   .have y:=(b u.id).1 hin;have t:Ql p u K.m.o.width=0:=by
     unfold Ql;rw[jd Hi,jd (by omega),jd (by omega),jd (by rintro⟨_,d⟩;exact d hin)]
    have s:=h.seq;have A:=r.good.s0;have C:K.m.seq<=K.seq:=by unfold Kp.seq;omega
    have B:({u with seq:=K.seq+1}:Up).fit (K.m.o.width.toNat/8):=⟨by show 1<=K.seq+1;omega,by show K.seq+1<=_;omega,.inr k,by show 0<=u.id;omega,by show u.id<=_;omega,λG=>by have:u.kind=1:=G;omega,λ_=>R k⟩;obtain⟨a,H,F,n,D,v,q,E⟩:=VS r O (u:=u) (.inr ⟨k,y⟩) B;rw[jh k]at q;have f:a.seq=K.seq+1:=by
     unfold Kp.seq;rw[n,v,ja,j8];push_cast;omega
    refine⟨a,by rw[t];exact H,n,λd=>absurd t d,λ_=>⟨⟨F,?_,YY _ _ _ h.sorted,by rw[f];push_cast;omega,?_,by rw[n];have:=h.next;push_cast;omega,by rw[E.cap];exact h.cap,?_⟩,f⟩⟩
    .rw[q];unfold qG;rw[show decide (u.kind≠1)=true by simp[k],ZJ];exact h.perm.filter _
    .have:=h.held;unfold Kp.held Kp.all at this|-
     rw[D,v,ja,j8];omega
    .rw[q];have:=h.live;have:=Um (λx:Pr=>decide (x.id≠u.id)) K.P;omega
   .refine g 131 (by unfold Ql;rw[jd Hi,jd (by omega),jd (by omega),jh ⟨k,hin⟩]) (by decide) (by decide) ?_;have y:qd K.P u.id=none:=by
     cases hl:qd K.P u.id with
     |none=>rfl
     |some c=>exact absurd ((b u.id).2 (by rw[hl];simp)) hin
    unfold Kp.goes;rw[jd Hi];simp only;rw[jh k,y]
theorem yaD(h:Qg K p i):∃a,K.sync=(a,0)/\Qg a p (i+1)/\a.m.o=K.m.o/\a.seq=K.seq:=by
 obtain⟨a,g,f,c,j,e,d,k⟩:=qa4 h.inv;have b:a.seq=K.seq:=by unfold Kp.seq;rw[c,e]
 refine⟨a,g,⟨f,by rw[d];exact h.perm,h.sorted,by rw[b];have:=h.seq;push_cast;omega,?_,by rw[c];have:=h.next;push_cast;omega,by rw[k.cap];exact h.cap,by rw[d];have:=h.live;omega⟩,by rw[c],b⟩;have:=h.held;unfold Kp.held Kp.all at this|-
 rw[j,e];omega
theorem Qat(h:Qg K p i)(n:i<=3000):∃a,K.number=(a,0)/\Qg a p (i+1)/\a.m.o=K.m.o/\a.seq=K.seq:=by
 obtain⟨a,g,f,c,j,e,d,k⟩:=ZM h.inv (h.small (by omega));have b:a.seq=K.seq:=by unfold Kp.seq;rw[c,e]
 refine⟨a,g,⟨f,by rw[d];exact h.perm,h.sorted,by rw[b];have:=h.seq;push_cast;omega,?_,by rw[c];have:=h.next;show K.m.next+1<=_;push_cast;omega,by rw[k];exact h.cap,by rw[d];have:=h.live;omega⟩,by rw[c],b⟩;have:=h.held;unfold Kp.held Kp.all at this|-
 rw[j,e];omega
theorem Qax(h:Qg K p i)(u:i<=3000):∃a e,K.flush=(a,e)/\(e=0\/e=152)/\Qg a p (i+1)/\a.m.o=K.m.o/\a.seq=K.seq:=by
 by_cases hp:K.past=[]
 .refine⟨K,0,?_,.inl rfl,h.mono (by omega),rfl,rfl⟩;unfold Kp.flush;exact QJ h.inv (by decide) (by rw[jh hp])
 .by_cases hr:K.runs.length<24
  .obtain⟨a,f,d,c,g,k,j,s,n,q,t,r⟩:=Z1 h.inv (h.small (by omega)) hp hr;have b:a.seq=K.seq:=by unfold Kp.seq;rw[g,j];simp[Kp.seq]
   refine⟨a,0,f,.inl rfl,⟨d,by rw[c];exact h.perm,h.sorted,by rw[b];have:=h.seq;push_cast;omega,?_,by rw[s];have:=h.next;push_cast;omega,by rw[q];exact h.cap,by rw[c];have:=h.live;omega⟩,k,b⟩;have:=h.held;unfold Kp.held at this|-
   unfold Kp.held at n;omega
  .refine⟨K,152,?_,.inr rfl,h.mono (by omega),rfl,rfl⟩;unfold Kp.flush;refine QJ h.inv (by decide) ?_;rw[jd hp];unfold Kp.flushed;rw[jh (by omega)]
theorem zay(h:Qg K p i)(v:i<=3000)(s:1<=n)(c:n<=K.runs.length):∃a,K.merge n=(a,0)/\Qg a p (i+1)/\a.m.o=K.m.o/\a.seq=K.seq:=by
 obtain⟨a,j,f,e,d,q,k,w,t,u,g,r⟩:=yaT h.inv (h.small (by omega)) s c;have b:a.seq=K.seq:=by unfold Kp.seq;rw[d,k]
 refine⟨a,j,⟨f,by rw[e];exact h.perm,h.sorted,by rw[b];have:=h.seq;push_cast;omega,?_,by have:=h.next;push_cast;omega,by rw[g];exact h.cap,by rw[e];have:=h.live;omega⟩,q,b⟩;have:=h.held;unfold Kp.held at this|-
 rw[d];omega
def prC(p:Pr):List Value:=[.int .i64 p.id,.string ⟨p.code.toArray⟩]
theorem Y9(p:Pr):(prC p).length=2:=rfl
def VA(l:List Pr)(id:Int):Int:=if id∈l.map (·.id)then(l.findIdx (λp=>decide (p.id=id)):Nat)else -1
theorem yay(a:k<p.length)(h:p[k].id=x)(c:∀j,j<k->∀h:j<p.length,p[j].id≠x):VA p x=k:=by
 unfold VA;rw[jh (jg.2 ⟨p[k],Jc a,h⟩)]
 congr 1
 refine(List.findIdx_eq a).2 ⟨by simpa using h,λj b=>by simpa using c j b (by omega)⟩
theorem Va4(d:∀j,∀h:j<p.length,p[j].id≠x):VA p x=-1:=by
 unfold VA;rw[jd];intro c;obtain⟨a,b,e⟩:=jg.1 c;obtain⟨j,f,rfl⟩:=kH b;exact d j f e
theorem xay(v:Value)(l:List Pr)(id:Int)(a:qe prC 2 w v l):Calls prog 32 #[v,OI id] w (Ret (OI (VA l id)) w):=by
 have x:=Hi a;obtain⟨C,m,rfl,B,n,_⟩:=a;have q:(l.length:Int)<=(m:Int):=by omega
 have u:(l.length:Int)<=9223372036854775807:=by unfold maxLen at n;omega
 clear n;go_enter func32,ntmps32;go_upto_region 2 with fail
 go_loopw [5] (λiv wr=>∃(k:Nat),k<=l.length/\iv=OI (k:Int)/\(∀j,j<k->∀h:j<l.length,l[j].id≠id)/\wr=w) (λiv _=>l.length-(intOf iv).toNat)
 case atStart=>exact⟨0,jX _,rfl,λj h=>by omega,rfl⟩
 case round =>
  obtain⟨k,A,rfl,p,rfl⟩:=hrel;have i:=Hi p;clear p;have t:(0:Int)<=(k:Int):=by omega
  by_cases hlt:k<l.length
  .have s:(k:Int)<(l.length:Int):=by omega
   obtain⟨g,o,c,z,d⟩:=x.o.fld Y9 k hlt;injection z with e1 e2 e3
   subst e1;subst e3;clear e2;have y:wr.cell? ⟨g,o+k*2,none⟩=some (OI l[k].id):=by have:=d 0 _ rfl;simpa using this
   clear d;obtain⟨f,b⟩:=NE (l[k].id);rw[b]at y;have r:=Hi b;clear b;by_cases e:f=id
   .go_wp2_with fail;go_ret;exact⟨by rw[yay hlt (r.o.trans e) i.o];rfl,rfl⟩
   .go_wp2_with fail;refine⟨⟨k+1,by omega,by go_num,λj D h=>?_,by trivial⟩,by simp[intOf];omega⟩;by_cases ej:j=k
    .subst ej;rw[r.o];exact e
    .exact i.o j (by omega) h
  .obtain rfl:k=l.length:=by omega
   go_wp2_with fail;go_ret;exact⟨by rw[Va4 λj h=>i.o j h h];rfl,rfl⟩
theorem xaD(v u:Value)(l:List Pr)(D:qe prC 2 w v l)(F:qe prC 2 w u l):Calls prog 42 #[v,u] w (Vd (.bool true) w):=by
 obtain⟨L,q⟩:=Hi2 D F;obtain⟨R,m,rfl,P,x,_⟩:=D;obtain⟨S,h,rfl,V,J,_⟩:=F;have A:(l.length:Int)<=(m:Int):=by omega
 have K:(l.length:Int)<=9223372036854775807:=by unfold maxLen at x;omega
 obtain⟨t,H⟩:(l.length:Int)<=(h:Int)/\(0:Int)<=(l.length:Int):=by omega
 clear x J;go_enter func42,ntmps42;go_upto_region 4 with fail
 go_loopw [5] (λiv wr=>∃(k:Nat),k<=l.length/\iv=OI (k:Int)/\Below w.heap.size w wr) (λiv _=>l.length-(intOf iv).toNat)
 case atStart=>exact⟨0,jX _,rfl,jU _ _⟩
 case round =>
  obtain⟨k,N,rfl,a⟩:=hrel;have r:=Hi a;have i:=Hi (λn=>yj a n);have f:=Hi (L.o.below a (jm _));have d:=Hi (q.o.below a (jm _));clear a;have I:(0:Int)<=(k:Int):=by omega
  by_cases hlt:k<l.length
  .have G:(k:Int)<(l.length:Int):=by omega
   obtain⟨g,o,c,M,e⟩:=f.o.fld Y9 k hlt;injection M with e1 e2 e3
   subst e1;subst e3;obtain⟨z,B,U,j,b⟩:=d.o.fld Y9 k hlt;injection j with e4 e5 e6
   subst e4;subst e6;clear e2 e5;obtain⟨p,C⟩:=NE (l[k]);rw[C]at e b;obtain⟨y,E⟩:=p;have T:wr.cell? ⟨g,o+k*2,none⟩=some (OI y):=by have:=e 0 _ rfl;simpa using this
   have O:wr.cell? ⟨g,o+k*2+1,none⟩=some (OT E):=by have:=e 1 _ rfl;simpa [j9] using this
   have W:wr.cell? ⟨z,B+k*2,none⟩=some (OI y):=by have:=b 0 _ rfl;simpa using this
   have Q:wr.cell? ⟨z,B+k*2+1,none⟩=some (OT E):=by have:=b 1 _ rfl;simpa [j9] using this
   clear e b C f d;go_upto_region 6 with fail
   go_quiet (fail);have s:=Hi (i.o nq);go_wp2_with fail;exact⟨⟨k+1,by omega,by go_num,s.o⟩,by simp[intOf];omega⟩
  .obtain rfl:k=l.length:=by omega
   clear f d;go_wp2_with fail;go_ret;exact⟨rfl,r.o⟩
end Go.Proofs.YtekkihmmclencaaGreatDoor
