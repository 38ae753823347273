import Derived.Test.YtekkihmmclencaaGreatDoorM26
namespace Go.Proofs.YtekkihmmclencaaGreatDoor
set_option linter.all false
set_option maxRecDepth 100000
set_option maxHeartbeats 40000000
open Tryz
open Go Go.RowKit Go.Sort
variable(U w:World)(q c:Nat){m:Nat}{s:Bs}{K:Kp}{o:Op3}
def Vw(stay:List Bs):List Bs->Dk->Dk × Int
 |[],d=>(d,0)
 |n::r,d=>if n∈stay then Vw stay r d else if(d.delete n).2≠0 then d.delete n else Vw stay r (d.delete n).1
theorem Yak{a:List Bs}:∀(l:List Bs) (d:Dk),(∀n∈l,n∈a)->Vw a l d=(d,0)
 |[],_,_=>rfl
 |n::r,d,h=>by
  unfold Vw;rw[jh (h n jc)];exact Yak r d λx b=>h x (jb _ b)
theorem X6(l:List Bs):l.map qa=l.flatMap stC:=by
 induction l with
 |nil=>rfl
 |cons a r ih=>rw[ju,jB,ih];rfl
theorem yaO(h:Vau s):s.length<=1000/\ZC s≠(0,0,0)/\(ZC s).1≠0:=by
 rcases h with rfl|rfl|⟨n,b,a,rfl⟩|⟨n,j,b,a,c,rfl⟩
 .rw[qaR];simp[Yc]
 .rw[ZaR];simp[Xb,Yc]
 .rw[YaR b a];refine⟨?_,by simp,by simp⟩;have:=QO a;simp only[Zf,Uf,jG]at this;omega
 .rw[XaR b a c];refine⟨?_,by simp,by simp⟩;have:=xae a c;simp only[Zf,Uf,jG]at this;omega
theorem zaI(D:Dk)(sv:Value)(d:List Bs)(N M:va)(G:D.Fits)(a2:D.Wf)(T:D.off=false)(s:∀n∈D.names,Vau n)(hR:Rw 9 1 sv d.length (d.map qa) N)(l:Xa U q c D (N++M) w)(ht:vi U)(a3:QI U):
  Calls prog 26 #[za q,sv] w (qh U q c (N++M) (OI (Vw d D.names D).2) (Vw d D.names D).1):=by
 have HN:=Hi (Qa9 U w q c D (N++M) a2 T l);unfold Zak at HN;obtain⟨Z,HR,HT,a6⟩:=Hi4 s hR ht a3;obtain⟨sa,cs,rfl,_⟩:=hR.form;obtain⟨f,V⟩:=NE D.names;rw[V]at HN Z|-
 obtain⟨RR,F⟩:=NE (Vw d f D);rw[F];obtain⟨a4,HF⟩:=Hi2 F G;clear l hR s a2 T V F ht a3 G;unfold za at *;go_enter func26,ntmps26;go_upto_region 2 with(go_at_call 65;refine HN.o.mono ?_;rintro C w2 ⟨v2,F2,rfl,I,Y⟩;obtain⟨an,cn,rfl,a8,A,_⟩:=I.form;obtain⟨a5,R⟩:=Hi2 I Y;clear I Y)
 have a7:(f.length:Int)<=(cn:Int):=by omega
 have aa:(f.length:Int)<=9223372036854775807:=by unfold maxLen at A;omega
 clear A HN;go_loopw [14] (λiv wr=>∃(k:Nat) (Q:Dk),k<=f.length/\iv=OI (k:Int)/\Vw d (f.drop k) Q=RR/\Q.Fits/\Xa U q c Q (F2++(N++M)) wr) (λiv _=>f.length-(intOf iv).toNat)
 case atStart=>exact⟨0,D,jX _,rfl,by rw[Ju];exact a4.o,HF.o,R.o⟩
 case round =>
  clear R a4 HF;obtain⟨k,Q,hk,rfl,b,G,l⟩:=hrel;have a9:(0:Int)<=(k:Int):=by omega
  by_cases hlt:k<f.length
  .have ab:(k:Int)<(f.length:Int):=by omega
   have hS:=l.rest;have B:qe stC 1 wr (.slice an f.length cn) f:=Rw.rowK (M:=N++M) (by rw[<-X6];exact a5.o) (λx=>by simp[stC]) hS;have t:qe stC 1 wr (.slice sa d.length cs) d:=Rw.rowK (M:=F2++M) (by rw[<-X6];exact HR.o) (λx=>by simp[stC]) (hS.pm CN);obtain⟨g,o,a,hv,H⟩:=B.fld VaH k hlt;injection hv with e1 e2 e3
   subst e1;subst e3;clear e2;have L:f.drop k=f[k]::f.drop (k+1):=jR hlt;have z:f[k]∈f:=Jc hlt;have v:=Z.o _ z;obtain⟨p,hp⟩:=NE (f[k]);rw[hp]at H L v;rw[L]at b;have d0:wr.cell? ⟨g,o+k,none⟩=some (OT p):=by have:=H 0 _ rfl;simpa using this
   obtain⟨q1,q2,q3⟩:=yaO v;have O:=Hi (ybo wr p v (HT.o.below l.below (jm _)) (a6.o.below l.below (jm _)));have P:=Hi (λ(W:World) (hb:Below wr.heap.size wr W)=>YaE W (.slice sa d.length cs) d p (t.below hb (jm _)));have j:=Hi (λ(W:World) (hb:Below wr.heap.size wr W)=>ZI (l.callB hb) G p (by omega));obtain⟨⟨k1,k2,k3⟩,S⟩:=NE (ZC p);rw[S]at O q3;simp only at q3;obtain⟨K,a0,e⟩:=Hi3 l G b;unfold yaB at O;unfold qh at j;unfold Ret at P;unfold za qa at j;simp only at O;clear hS B t H L z v hp S l G b q2;have q4:(k1==0)=false:=by simpa using q3
   by_cases hin:p∈d
   .have b:=e.o;unfold Vw at b;rw[jh hin]at b;have e:=Hi b;have m:decide (p∈d)=true:=U6 hin;rw[m]at P;clear b m hin;go_wp2_with (first
     |(go_at_call 66;refine MR O.o λw3 i=>?_)
     |(go_at_call 67;refine MQ (P.o _ i.o) ?_))
    exact⟨⟨k+1,Q,by omega,by go_num,e.o,a0.o,K.o.callB i.o⟩,by simp[intOf];omega⟩
   .have b:=e.o;unfold Vw at b;rw[jd hin]at b;have e:=Hi b;have m:decide (p∈d)=false:=J8 hin;rw[m]at P;have J:=Hi (Ys a0.o p);obtain⟨⟨d1,x1⟩,a1⟩:=NE (Q.delete p);rw[a1]at j e J;simp only at j e J;clear b m hin a1;by_cases z0:x1=0
    .subst z0;have b:=e.o;rw[jd (by simp)]at b;have e:=Hi b;clear b;go_wp2_with (first
      |(go_at_call 66;refine MR O.o λw3 i=>?_)
      |(go_at_call 67;refine MQ (P.o _ i.o) ?_)
      |(go_at_call 29;refine MR (j.o _ i.o) λw4 E=>?_))
     exact⟨⟨k+1,d1,by omega,by go_num,e.o,J.o,E.o⟩,by simp[intOf];omega⟩
    .have b:=e.o;rw[jh z0]at b;have e:=Hi b;have z1:(x1 != 0)=true:=by simpa using z0
     clear b;go_wp2_with (first
      |(go_at_call 66;refine MR O.o λw3 i=>?_)
      |(go_at_call 67;refine MQ (P.o _ i.o) ?_)
      |(go_at_call 29;refine MR (j.o _ i.o) λw4 E=>?_))
     go_ret;rw[<-e.o];exact⟨rfl,E.o.pmSub (X:=F2) CN⟩
  .obtain rfl:k=f.length:=by omega
   have K:=Hi l;rw[Uz]at b;have e:=Hi b;clear l b G;go_wp2_with fail;go_ret;have:=e.o;unfold Vw at this;rw[<-this];exact⟨rfl,K.o.pmSub (X:=F2) CN⟩
def Yq(l:List Int):List Nat:=l.map Int.toNat
theorem zag(l:List Int):vj l=(Yq l).flatMap qb:=by
 unfold vj Yq num;rw[kD]
theorem yba{a b c d e f:Int}(p:0<=a)(q:0<=b)(r:0<=c)(m:0<=d)(o:0<=e)(n:0<=f)(g i k j h l v:Value):
  qo #[g,i,k,j,h,l,v] [0,1,2,3,4,5] (Yq [a,b,c,d,e,f])=#[OI a,OI b,OI c,OI d,OI e,OI f,v]:=by
 simp[qo,Yq];omega
theorem vbi{a b c d:Int}(j:0<=a)(k:0<=b)(l:0<=c)(i:0<=d)(e f h g:Value):
  qo #[e,f,h,g] [0,1,2,3] (Yq [a,b,c,d])=#[OI a,OI b,OI c,OI d]:=by
 simp[qo,Yq];omega
def zY(m:Mf)(w:World)(e:Ending)(w':World):Prop:=∃rv F,e=.returned (.tuple #[.agg (mfV m rv).toArray,.int .i64 0])/\Rw 141 4 rv m.runs.length (m.runs.flatMap riV) F/\St w w' F
theorem xaO{l:List Int}(h:∀n∈l,n<=(m:Int)):∀n∈Yq l,n<=m:=by
 intro n b;obtain⟨x,a,rfl⟩:=jg.1 b;have:=h x a;omega
theorem xba(m:Mf)(hm:m.good)(ht:zg w):Calls prog 92 #[qa (mfB m)] w (zY m w):=by
 have aG:=XZ hm;have a9:=xE hm;have aL:=hm.len;have Z:=Hi (λW (hb:Below w.heap.size w W)=>Qam W (mfB m) 0 (by have:=vT hm;omega) (jX _) (ht.below hb (jm _)));unfold Yu at Z;have I:=vS 3 (qz m) [] (by decide) (by decide) (by omega);rw[jJ]at I;have a7:ve 3 (qz m)=mfB m:=rfl;rw[a7]at I;rw[Ju,I]at Z;simp only[ZT]at Z;have a4:(mfB m).length=(qz m).length+14:=by rw[<-a7,zh]
 have N:qz m=(Yq [m.o.width,m.o.chunks,m.o.mode,m.seq,m.next,m.journal]).flatMap qb++((Yq [(m.runs.length:Int)]).flatMap qb++((Yq (qj m.runs)).flatMap qb++[])):=by
  unfold qz;rw[jJ,<-zag,<-zag,<-zag,<-VJ,<-VJ];rfl
 obtain⟨ao,HM,av⟩:=Hi3 N hm a9;obtain⟨b,hb⟩:=NE (qz m);rw[hb]at Z aG a4 ao;obtain⟨B,hB⟩:=NE (mfB m);rw[hB]at Z a4|-
 have hz:=zb B;have X:(B.length:Int)=(b.length:Int)+14:=by omega
 have aE:=Hi X;have hA:=(St.refl w).alloc (.cells #[OI 0,OI 0,OI 0,OI 0,OI 0,OI 0,.slice none 0 0] 64);obtain⟨d,a3⟩:=EN w.heap.size;rw[<-a3]at hA;obtain⟨HA,ag,HT⟩:=Hi3 hA a3 ht;clear N hm a9 I a7 a4 X hb hB hA a3 ht;have aM:((b.length:Nat):Int)<=1000:=by omega
 unfold qa at *;have au:(((0+(b.length+14):Nat)):Int)=(B.length:Int):=by have:=aE.o;omega
 rw[au]at Z;clear au;go_enter func92,ntmps92;go_upto_region 1 with(fail)
 rw[<-ag.o];refine HA.o.nameC ?_;clear HA ag;intro w1 hA;have HA:=Hi hA;have aw:=Hi (Z.o w1 hA.below);clear hA Z;go_upto_region 8 with(go_at_call 149;refine aw.o.mono ?_;rintro e' w2 ⟨rfl,ai⟩;have aj:=Hi (HA.o.callB ai);clear ai)
 clear aw HA;have s:=((aj.o.alloc (.cells #[OI 0,OI 0,OI 0,OI 0,OI 0,OI 0,.slice none 0 0] 64)).alloc (.cells #[OI 0] 3)).alloc (.cells #[OT b,OI 0,OI 0] 224);simp only[jF]at s;have a5:=Hi s;clear s;go_upto_region 11 with(fail)
 obtain⟨c,ae⟩:=EN (w2.heap.size+1+1);obtain⟨E,h9⟩:=EN (w2.heap.size+1);obtain⟨u,h8⟩:=EN w2.heap.size;rw[<-ae,<-h9,<-h8]at a5|-
 clear ae h9 h8;refine a5.o.nameC ?_;clear aj a5;intro w3 s;have h0:b.drop 0=(Yq [m.o.width,m.o.chunks,m.o.mode,m.seq,m.next,m.journal]).flatMap qb++((Yq [(m.runs.length:Int)]).flatMap qb++((Yq (qj m.runs)).flatMap qb++[])):=by rw[Ju];exact ao.o
 have ap:=s.alloc (.cells (Xx u [0,1,2,3,4,5]).toArray 226);have g:∀n∈[m.o.width,m.o.chunks,m.o.mode,m.seq,m.next,m.journal],0<=n/\n<=1152921504606846976:=λn A=>av.o n (by unfold Qz;simp only[jp,JF,UF,jO,jK]at A|-;rcases A with h|h|h|h|h|h<;>simp[h])
 have O:=zaB w _ c u w3.heap.size b _ 0 1152921504606846976 #[OI 0,OI 0,OI 0,OI 0,OI 0,OI 0,.slice none 0 0] 64 [0,1,2,3,4,5] (Yq [m.o.width,m.o.chunks,m.o.mode,m.seq,m.next,m.journal]) ((E,.cells #[OI 0] 3)::[(d,.cells #[OI 0,OI 0,OI 0,OI 0,OI 0,OI 0,.slice none 0 0] 64)]) (by omega) (jX _) h0 rfl (xaO λn A=>(g n A).2) (by decide) (by simp) (by simp) (ap.pm λx=>by unfold mrF qa;simp only[xa,ya,OI,OT,OQ,Ya];simp only[Int.ofNat_zero];omega);rw[yba (g _ (by simp)).1 (g _ (by simp)).1 (g _ (by simp)).1 (g _ (by simp)).1 (g _ (by simp)).1 (g _ (by simp)).1]at O;obtain⟨d6,_,l6⟩:=Zs (jX _) h0;obtain⟨p6,al⟩:=NE (0+((Yq [m.o.width,m.o.chunks,m.o.mode,m.seq,m.next,m.journal]).flatMap qb).length);rw[al]at O d6 l6;have M:=Hi O;unfold QX za Xx at M;simp only[ju,Jt,jk,jA,Int.reduceMul]at M;clear O s ap h0 al g;go_upto_region 12 with(go_at_call 150;refine MR M.o λw4 aa=>?_)
 have ab:=aa.o.alloc (.cells (Xx E [0]).toArray 226);have C:=zaB w _ c E w4.heap.size b _ p6 24 #[OI 0] 3 [0] (Yq [(m.runs.length:Int)]) ((u,.cells #[OI m.o.width,OI m.o.chunks,OI m.o.mode,OI m.seq,OI m.next,OI m.journal,.slice none 0 0] 64)::(w3.heap.size,.cells (Xx u [0,1,2,3,4,5]).toArray 226 (0,0))::[(d,.cells #[OI 0,OI 0,OI 0,OI 0,OI 0,OI 0,.slice none 0 0] 64)]) (by omega) l6 d6 rfl (xaO λn A=>by simp at A;omega) (by decide) (by simp) (by simp) (ab.pm λx=>by simp only[xa,ya,OI,OT,OQ,Ya,Xx,ju,Jt];omega);have am:qo #[OI 0] [0] (Yq [(m.runs.length:Int)])=#[OI (m.runs.length:Int)]:=by simp[qo,Yq]
 rw[am]at C;obtain⟨d7,_,l7⟩:=Zs l6 d6;obtain⟨p7,ah⟩:=NE (p6+((Yq [(m.runs.length:Int)]).flatMap qb).length);rw[ah]at C d7 l7;have H:=Hi C;unfold QX za Xx at H;simp only[ju,Jt,jk,jA,Int.reduceMul]at H;clear C ab ah am d6 l6 M;go_wp2_with (go_at_call 150;refine H.o.mono ?_;rintro e' w5 ⟨rfl,ak⟩;have ax:=Hi (ak.pmSub (M':=(u,.cells #[OI m.o.width,OI m.o.chunks,OI m.o.mode,OI m.seq,OI m.next,OI m.journal,.slice none 0 0] 64)::(mrF c b p7::(E,.cells #[OI (m.runs.length:Int)] 3)::[(d,.cells #[OI 0,OI 0,OI 0,OI 0,OI 0,OI 0,.slice none 0 0] 64)])) (D:=(w4.heap.size,.cells #[OQ E] 226)::[(w3.heap.size,.cells (Xx u [0,1,2,3,4,5]).toArray 226 (0,0))]) λx=>by simp only[xa,ya,OI,OT,OQ,Ya,Xx,ju,Jt];omega);clear ak);clear H aa;obtain⟨i0,hi,z,aJ,aA,aI,a8,aD,aF⟩:=X3;go_loopw [11] (λiv wr=>∃(k p:Nat) (l:Option Addr) (q:Nat) (Fr:va),k<=m.runs.length/\iv=OI (k:Int)/\p<=b.length/\b.drop p=(Yq (qj (m.runs.drop k))).flatMap qb++[]/\Rw 141 4 (.slice l k q) k ((m.runs.take k).flatMap riV) Fr/\St w wr ((u,.cells #[OI m.o.width,OI m.o.chunks,OI m.o.mode,OI m.seq,OI m.next,OI m.journal,.slice l k q] 64)::(mrF c b p::(E,.cells #[OI (m.runs.length:Int)] 3)::(d,.cells #[OI 0,OI 0,OI 0,OI 0,OI 0,OI 0,.slice none 0 0] 64)::Fr))) (λiv _=>m.runs.length-(intOf iv).toNat)
 case atStart=>exact⟨0,p7,none,0,[],jX _,rfl,l7,by rw[Ju];exact d7,Rw.nil _ _,ax.o⟩
 case round =>
  clear ax;obtain⟨k,p,l,q,Fr,hk,rfl,hp,hd,hR,S⟩:=hrel;have aO:(0:Int)<=(k:Int):=by omega
  have c9:=S.tail.tail.cellH 0;have F:=S.tail.cellH 2;have aK:(m.runs.length:Int)<=24:=by omega
  by_cases hlt:k<m.runs.length
  .have t:∀n∈[m.runs[k].number,m.runs[k].lo,m.runs[k].hi,m.runs[k].count],0<=n/\n<=1152921504606846976:=λn A=>av.o n (by
    unfold Qz qj;exact je _ (JB.2 ⟨m.runs[k],Jc hlt,A⟩))
   have J:b.drop p=(Yq [m.runs[k].number,m.runs[k].lo,m.runs[k].hi,m.runs[k].count]).flatMap qb++((Yq (qj (m.runs.drop (k+1)))).flatMap qb++[]):=by
    rw[hd,jR hlt];unfold qj Yq;simp only[jB,jr,jD,jJ]
   have a6:(m.runs.take (k+1)).flatMap riV=(m.runs.take k).flatMap riV++riV m.runs[k]:=by
    rw[jS hlt,jD];simp
   obtain⟨r,hr⟩:=NE (m.runs[k]);rw[hr]at t J a6;have K:=(S.alloc (.cells #[OI 0,OI 0,OI 0,OI 0] 141)).alloc (.cells (Xx wr.heap.size [0,1,2,3]).toArray 226);rw[jF]at K;obtain⟨a,L⟩:=EN wr.heap.size;rw[<-L]at K;have G:=zaB w _ c a (a+1) b _ p 1152921504606846976 #[OI 0,OI 0,OI 0,OI 0] 141 [0,1,2,3] (Yq [r.number,r.lo,r.hi,r.count]) ((u,.cells #[OI m.o.width,OI m.o.chunks,OI m.o.mode,OI m.seq,OI m.next,OI m.journal,.slice l k q] 64)::((E,.cells #[OI (m.runs.length:Int)] 3)::(d,.cells #[OI 0,OI 0,OI 0,OI 0,OI 0,OI 0,.slice none 0 0] 64)::Fr)) (by omega) hp J rfl (xaO λn A=>(t n A).2) (by decide) (by simp) (by simp) (K.pm CN);rw[vbi (t _ (by simp)).1 (t _ (by simp)).1 (t _ (by simp)).1 (t _ (by simp)).1]at G;obtain⟨d8,_,l8⟩:=Zs hp J;obtain⟨p8,aq⟩:=NE (p+((Yq [r.number,r.lo,r.hi,r.count]).flatMap qb).length);rw[aq]at G d8 l8;obtain⟨y,aB,HR,az,ay⟩:=Hi5 G L hR a6 d8;unfold QX za Xx at y;simp only[ju,Jt,jk,jA,Int.reduceMul]at y;have aP:(k:Int)<(m.runs.length:Int):=by omega
   rw[L]at y;clear G K aq hd J hr L S hR a6 d8;go_upto_region 18 with(go_at_call 150;refine MR y.o λw6 a2=>?_)
   rw[<-aB.o]at a2|-
   have e:=a2.o;obtain⟨q0,q1,q2,q3⟩:=e.tail.k4 0 1 2 3;have q6:=e.tail.tail.tail.cellH 6;have af:=Hi (show St w w6 (Fr++((u,.cells #[OI m.o.width,OI m.o.chunks,OI m.o.mode,OI m.seq,OI m.next,OI m.journal,.slice l k q] 64)::(mrF c b p8::(E,.cells #[OI (m.runs.length:Int)] 3)::[(d,.cells #[OI 0,OI 0,OI 0,OI 0,OI 0,OI 0,.slice none 0 0] 64)])))from e.pmSub (D:=(a,.cells #[OI r.number,OI r.lo,OI r.hi,OI r.count] 141)::[(a+1,.cells #[OQ a,.pointer (some ⟨a,1,none⟩),.pointer (some ⟨a,2,none⟩),.pointer (some ⟨a,3,none⟩)] 226)]) CN);have T:(k+1)*a8<=140737488355328:=jI (Jg (show k+1<=200 by omega) aF) (by decide);have aH:k+1<=maxLen:=by unfold maxLen;omega
   clear e a2 y c9 F;go_wp2_with (at_builtin;refine xh (W0:=w) (by rfl) _ _ 62 (by rfl) 141 i0 z 4 a8 underlying62 hi aJ aA aD aI (by decide) (.slice l k q) k _ Fr _ (by rfl) HR.o af.o 1 w6.heap.size (riV r) (by rfl) (by rfl) (by rfl) (zI r) aH T ?_;intro v' W' F' a1 P;obtain⟨an,Y,rfl,_⟩:=a1.form;have aC:=Hi a1;have y0:OV W' u 6 (.slice l k q):=P.mid.cellH 6;have y1:OZ W' u 6:=P.mid.freeH 6;have Q:=Hi (P.mid.set 6 (.slice an (k+1) Y));clear a1 P);refine⟨⟨k+1,p8,an,Y,F',by omega,by go_num,l8,ay.o,by rw[az.o];exact aC.o,Q.o.pm λx=>by simp only[xa,ya,OI,OT,OQ,Ya,jf,jj,ji];omega⟩,by simp[intOf];omega⟩
  .obtain rfl:k=m.runs.length:=by omega
   have N:p=b.length:=by
    have:=jT List.length hd;rw[jQ,Uz]at this;simp[qj,Yq]at this;omega
   subst N;have ac:=S.tail.cellH 1;have aN:=zb b;rw[J9]at hR;have V:qe riV 4 wr (.slice l m.runs.length q) m.runs:=hR.rowK0 (λx=>by simp[riV]) S.tail.tail.tail.tail;obtain⟨k0,k1,k2,k3,k4,k5,k6⟩:=VD.of (m:=m) (rv:=.slice l m.runs.length q) S jc;have a0:=Hi (Qaf wr m _ HM.o V);obtain⟨HR,HS⟩:=Hi2 hR S;unfold mfV at a0;clear S hR hd V;go_upto_region 22 with(fail)
   go_upto_region 23 with(go_at_call 23;refine a0.o.mono ?_;rintro e' w7 ⟨rfl,R⟩;have Q:=Hi (HS.o.callB R);have z0:OV w7 c 2 (OI 0):=(HS.o.callB R).tail.cellH 2;have z1:OZ w7 c 2:=(HS.o.callB R).tail.freeH 2;clear R)
   have j:=Q.o.swap.set 2 (OI 0);refine j.nameC ?_;clear j Q HS z0 z1 k0 k1 k2 k3 k4 k5 k6 c9 F ac a0;intro U j;have F:=j.cellH 2;obtain⟨k0,k1,k2,k3,k4,k5,k6⟩:=VD.of (m:=m) (rv:=.slice l m.runs.length q) j.tail jc;have i:=j.tail.tail.tail;have y0:OV U d 0 (OI 0):=i.cellH 0;have y1:OV U d 1 (OI 0):=i.cellH 1;have y2:OV U d 2 (OI 0):=i.cellH 2;have y3:OV U d 3 (OI 0):=i.cellH 3;have y4:OV U d 4 (OI 0):=i.cellH 4;have y5:OV U d 5 (OI 0):=i.cellH 5;have y6:OV U d 6 (.slice none 0 0):=i.cellH 6;obtain⟨f0,f1,f2,f3,f4,f5,f6⟩:=i.f7 0 1 2 3 4 5 6;have HF:=Hi (set7 i (OI m.o.width) (OI m.o.chunks) (OI m.o.mode) (OI m.seq) (OI m.next) (OI m.journal) (.slice l m.runs.length q));clear j i;go_wp2_with fail;refine HF.o.nameB ?_;clear HF y0 y1 y2 y3 y4 y5 y6 f0 f1 f2 f3 f4 f5 f6 k0 k1 k2 k3 k4 k5 k6 F;intro w9 f;have y0:OV w9 d 0 (OI m.o.width):=f.cellH 0;have y1:OV w9 d 1 (OI m.o.chunks):=f.cellH 1;have y2:OV w9 d 2 (OI m.o.mode):=f.cellH 2;have y3:OV w9 d 3 (OI m.seq):=f.cellH 3;have y4:OV w9 d 4 (OI m.next):=f.cellH 4;have y5:OV w9 d 5 (OI m.journal):=f.cellH 5;have y6:OV w9 d 6 (.slice l m.runs.length q):=f.cellH 6;refine jP (v:=.tuple #[.agg (mfV m (.slice l m.runs.length q)).toArray,OI 0]) ?_ rfl ⟨_,Fr,rfl,HR.o,f.tail⟩;simp[results,results92,go_sem,mfV,y0,y1,y2,y3,y4,y5,y6]
theorem xbo(D:Dk)(M:va)(m:Mf)(f:zc)(N:Xa U q c D M w)(R:D.Wf)(S:D.off=false)(Q:D.get Yc=some f)(Y:f.data=mfB m)(hm:m.good)(hc:zg U):
  Calls prog 37 #[za q] w (zY m w):=by
 have G:Yc.length<=1000000:=by decide
 have t:D.look Yc=0:=by unfold Dk.look;rw[S,Yaw,Q];rfl
 have H:=vT hm;rw[<-Y]at H;have C:D.size Yc=((f.data.length:Int),0):=by unfold Dk.size;rw[Q];simp only;rw[jd (by rw[t];decide)]
 have I:D.read Yc 0 (f.data.length:Nat)=(f.data,0):=by
  unfold Dk.read;rw[Q];simp only;rw[jd (by rw[t];decide),jd (by omega)];simp
 have i:=Hi (λW (hb:Below w.heap.size w W)=>XN (N.callB hb) Yc G);have g:=Hi (λW (hb:Below w.heap.size w W)=>xan (N.callB hb) R Yc f.data.length (by omega) G);rw[C]at i;rw[I]at g;have h:=Hi (λW (hb':Below w.heap.size w W)=>xba W m hm (hc.below (N.callB hb').below (jm _)));rw[<-Y]at h;obtain⟨b,L⟩:=NE f.data;rw[L]at i g h;have l:=(St.refl w).alloc (.cells #[OI 0,OI 0,OI 0,OI 0,OI 0,OI 0,.slice none 0 0] 64);obtain⟨a,p⟩:=EN w.heap.size;rw[<-p]at l;obtain⟨B,J⟩:=Hi2 l p;clear N C I t H Y L l p hm hc;unfold Ret at i g;unfold zY at h;unfold za qa Yc at i g;unfold qa at h;unfold za;go_enter func37,ntmps37;go_upto_region 1 with(fail)
 rw[<-J.o];refine B.o.nameC ?_;clear B J;intro O l;have B:=Hi l;have A:=Hi (i.o O l.below);have F:=Hi (g.o O l.below);have y:=Hi (h.o O l.below);unfold mfV at y;clear l i g h;go_upto_region 8 with(first
  |(go_at_call 25;refine MQ A.o ?_)
  |(go_at_call 91;refine MQ F.o ?_)
  |(go_at_call 92;refine y.o.mono ?_;rintro e' w2 ⟨rv,F2,rfl,z,E⟩;obtain⟨j,k,rfl,_⟩:=z.form;have V:=Hi z;have r:=Hi ((B.o.call E).alloc (.cells #[OI m.o.width,OI m.o.chunks,OI m.o.mode,OI m.seq,OI m.next,OI m.journal,.slice j m.runs.length k] 64));clear z E))
 obtain⟨C7,K⟩:=EN w2.heap.size;rw[<-K]at r|-
 clear K;refine r.o.nameC ?_;clear r A F y B;intro n s;obtain⟨k0,k1,k2,k3,k4,k5,k6⟩:=VD.of (m:=m) (rv:=.slice j m.runs.length k) s jc;have e:=s.tail.pmSub (M':=(a,.cells #[OI 0,OI 0,OI 0,OI 0,OI 0,OI 0,.slice none 0 0] 64)::F2) (D:=[]) CN;have y0:OV n a 0 (OI 0):=e.cellH 0;have P:OV n a 1 (OI 0):=e.cellH 1;have y2:OV n a 2 (OI 0):=e.cellH 2;have T:OV n a 3 (OI 0):=e.cellH 3;have y4:OV n a 4 (OI 0):=e.cellH 4;have X:OV n a 5 (OI 0):=e.cellH 5;have Z:OV n a 6 (.slice none 0 0):=e.cellH 6;obtain⟨f0,f1,f2,f3,f4,f5,f6⟩:=e.f7 0 1 2 3 4 5 6;have HF:=Hi (set7 e (OI m.o.width) (OI m.o.chunks) (OI m.o.mode) (OI m.seq) (OI m.next) (OI m.journal) (.slice j m.runs.length k));clear s e;go_wp2_with fail;refine HF.o.nameB ?_;clear HF y0 P y2 T y4 X Z f0 f1 f2 f3 f4 f5 f6 k0 k1 k2 k3 k4 k5 k6;intro u d;have y0:OV u a 0 (OI m.o.width):=d.cellH 0;have P:OV u a 1 (OI m.o.chunks):=d.cellH 1;have y2:OV u a 2 (OI m.o.mode):=d.cellH 2;have T:OV u a 3 (OI m.seq):=d.cellH 3;have y4:OV u a 4 (OI m.next):=d.cellH 4;have X:OV u a 5 (OI m.journal):=d.cellH 5;have Z:OV u a 6 (.slice j m.runs.length k):=d.cellH 6;refine jP (v:=.tuple #[.agg (mfV m (.slice j m.runs.length k)).toArray,OI 0]) ?_ rfl ⟨_,F2,rfl,V.o,d.tail⟩;simp[results,results37,go_sem,mfV,y0,P,y2,T,y4,X,Z]
def vQ(bd:Nat)(age:Int)(m:Mf)(rv:Value)(d:DlH)(x:LvH):Array Value :=
 #[za bd,.int .i64 age,.bool false,.int .i64 m.o.width,.int .i64 m.o.chunks,.int .i64 m.o.mode,.int .i64 m.seq,.int .i64 m.next,.int .i64 m.journal,rv,.slice none 0 0,.pointer none,.slice none 0 0,za d.b,.int .i64 m.seq,.map (some x.bl),.map (some x.bc),x.tv]
def V6(W0:World)(bd bm:Nat)(D:Dk)(m:Mf)(rv:Value)(M:va)(e:Ending)(w':World):Prop :=
 ∃(b:Nat) (d:DlH) (x:LvH),e=.returned (za b)/\d.w=m.o.width/\d.m=m.o.chunks/\d.last=0/\d.words=[]/\d.ok/\d.ts.length=max 1 m.o.chunks.toNat/\x.ok m.o [] /\
  Xa W0 bd bm D ((b,.cells (vQ bd D.age m rv d x) 82 (0,0))::(d.frag++(x.frag++M))) w'
theorem xaB(D:Dk)(m:Mf)(g:Value)(M:va)(L:Qb m.o=0)(a:Xa U q c D M w):
  Calls prog 31 #[za q,.agg (mfV m g).toArray] w (V6 U q c D m g M):=by
 have N:=Hi L;have n:=a.alloc (.cells (mfV m g).toArray 64);have G:=Hi (λW (h:Below w.heap.size w W)=>(vW W q D.age (a.callB h).age).mono λe v h=>Ret.toB h);have b:=Hi (λW (h:OV W q 3 (OI D.age))=>vW W q D.age h);obtain⟨⟨j,f,k⟩,i,p,l,mr⟩:=m;obtain⟨C,E⟩:=EN w.heap.size;rw[<-E]at n;obtain⟨J,K⟩:=Hi2 n E;clear a n E L G;unfold mfV at *;unfold Ret za at b;unfold za;simp only at *;go_enter func31,ntmps31;go_upto_region 1 with fail
 rw[<-K.o];refine J.o.nameC ?_;clear J K;intro z a;have s:=Hi (λ(W:World) (h:Below z.drew.heap.size z.drew W)=>show OV W C 0 (OI j)/\OV W C 1 (OI f)/\OV W C 2 (OI k)/\OV W C 3 (OI i)/\OV W C 4 (OI p)/\OV W C 5 (OI l)/\OV W C 6 g/\OV W q 3 (OI D.age)from
  ⟨(a.drew.callB h).rest.cellH 0,(a.drew.callB h).rest.cellH 1,(a.drew.callB h).rest.cellH 2,(a.drew.callB h).rest.cellH 3,(a.drew.callB h).rest.cellH 4,(a.drew.callB h).rest.cellH 5,(a.drew.callB h).rest.cellH 6,(a.drew.callB h).age⟩)
 have O:=Hi a;clear a;go_region_held3 (λW=>W.cell? ⟨C,0,none⟩=some (.int .i64 j)/\W.cell? ⟨C,1,none⟩=some (.int .i64 f)/\W.cell? ⟨C,2,none⟩=some (.int .i64 k)/\W.cell? ⟨C,3,none⟩=some (.int .i64 i)/\W.cell? ⟨C,4,none⟩=some (.int .i64 p)/\W.cell? ⟨C,5,none⟩=some (.int .i64 l)/\W.cell? ⟨C,6,none⟩=some g/\W.cell? ⟨q,3,none⟩=some (.int .i64 D.age)) (first|with_reducible exact s.o _ (jU _ _)|with_reducible exact s.o _ ((St.refl _).alloc _).below|with_reducible exact s.o _ ((St.refl _).alloc _).drew.below|assumption|(go_keep;done)) (first|(go_at_call 79;refine(b.o _ (s.o _ (jU _ _)).2.2.2.2.2.2.2).mono ?_;rintro e' v ⟨rfl,rfl⟩));have F:=(O.o.alloc (.cells #[OQ q,OI D.age,.bool false,OI j,OI f,OI k,OI i,OI p,OI l,g,.slice none 0 0,.pointer none,.slice none 0 0,.pointer none,OI i,.map none,.map none,.slice none 0 0] 82)).drew;obtain⟨B,I⟩:=EN z.heap.size;rw[<-I]at F;rw[<-I];refine F.nameE (P:=prog) ?_;clear F O s b I;intro R a;have u:=Hi (show Calls prog 80 #[za B] R (λe v=>e=.returned (.tuple #[])/\∃(d:DlH) (x:LvH),d.w=j/\d.m=f/\d.last=0/\d.words=[]/\d.ok/\d.ts.length=max 1 f.toNat/\x.ok ⟨j,f,k⟩ []/\Xa U q c D ((B,.cells (vQ q D.age ⟨⟨j,f,k⟩,i,p,l,mr⟩ g d x) 82)::(d.frag++(x.frag++M))) v)from by
  obtain⟨r,Q,S,hS⟩:=a;refine(Va7 U R B ⟨j,f,k⟩ (OQ q) (OI D.age) (.bool false) (OI k) (OI i) (OI p) (OI l) g (.slice none 0 0) (.pointer none) (.slice none 0 0) (.pointer none) (OI i) (.map none) (.map none) (.slice none 0 0) ((C,.cells #[OI j,OI f,OI k,OI i,OI p,OI l,g] 64)::(Zb q c r Q D++M)) N.o (hS.pm CN)).mono ?_;rintro e v ⟨rfl,d,x,e1,e2,e3,e4,T,e6,X,H⟩;exact⟨rfl,d,x,e1,e2,e3,e4,T,e6,X,r,Q,S,H.pmSub (D:=[(C,.cells #[OI j,OI f,OI k,OI i,OI p,OI l,g] 64)]) λy=>by
   unfold vQ za;simp only[xa,ya,OI,OT,OQ,Ya];omega⟩)
 clear a N;unfold za at u;go_wp2_with (go_at_call 80;refine u.o.mono ?_;rintro e' w3 ⟨rfl,d,x,n1,n2,Y,Z,V,n6,n7,t⟩;have A:=Hi t;clear t);go_ret;exact⟨B,d,x,rfl,n1,n2,Y,Z,V,n6,n7,A.o⟩
def Qp(W0:World)(bd bm:Nat)(M:va)(K:Kp)(e:Ending)(w':World):Prop:=∃h,e=.returned (.tuple #[za h.b,.int .i64 0])/\Za W0 bd bm K h M w'
theorem vaO{W0 W:World}{bd bm b bj:Nat}{d2:Dk}{d:DlH}{x:LvH}{M:va}(e:d.w=o.width)(k:d.m=o.chunks)(f:d.last=0)(i:d.words=[])(c:d.ok)(g:d.ts.length=max 1 o.chunks.toNat)(a:x.ok o [])
  (l:Xa W0 bd bm d2 ((b,.cells ((vQ bd d2.age ⟨o,0,2,1,[]⟩ (.slice none 0 0) d x).setIfInBounds 11 (za bj)) 82)::(d.frag++(x.frag++(jnF bj bd ⟨d2.age,false,Qa 1,o.width,0,0⟩::M)))) W) :
  ∃h:KpH,h.b=b/\Za W0 bd bm (vw d2 o) h M W :=
 ⟨⟨b,bj,.slice none 0 0,[],[],.slice none 0 0,[],.slice none 0 0,[],d,x.bl,x.ol,x.bc,x.oc,x.tv,x.Ft,x.ts,x.live,x.codes⟩,rfl,
  {mrow:=Rw.nil _ _,runs:=rfl,each:=(λr j=>by cases j),rrow:=Rw.nil _ _,prow:=Rw.nil _ _,dok:=c,dw:=⟨e,k,f,i⟩,dt:=g,
   lmap:=a.lmap,lperm:=a.lperm,cmap:=a.cmap,cok:=a.cok,trow:=a.trow,tabs:=a.tabs,tlen:=a.tlen,tok:=a.tok},
  l.pm λy=>by
   unfold KpH.frag LvH.frag;have:kpC bd (vw d2 o) ⟨b,bj,.slice none 0 0,[],[],.slice none 0 0,[],.slice none 0 0,[],d,x.bl,x.ol,x.bc,x.oc,x.tv,x.Ft,x.ts,x.live,x.codes⟩=(vQ bd d2.age ⟨o,0,2,1,[]⟩ (.slice none 0 0) d x).setIfInBounds 11 (za bj):=rfl;rw[this];simp only[vw,xa,ya,OI,OT,OQ,Ya,Jk];omega⟩
theorem Xas(W0 w:World)(bd bm:Nat)(D B d2:Dk)(o:Op3)(M:va)(ho:Qb o=0)(T:D.Wf)(hf:D.Fits)(a4:B.Fits)(f:D.off=false)(v:D.files=[])(a5:D.create (Qa 1)=(B,0))(Q:B.store ⟨o,0,2,1,[]⟩=(d2,0))(l:d2.age=B.age)
  (k:Xa W0 bd bm D M w) (ht:vi W0) (a0:QI W0) (a3:zg W0) :
  Calls prog 7 #[za bd,.agg #[OI o.width,OI o.chunks,OI o.mode]] w (Qp W0 bd bm M (vw d2 o)):=by
 have r:=Zai ho;obtain⟨g1,g2⟩:=yf ho;have a:∀W,qe riV 4 W (.slice none 0 0) ([]:List RI):=λW=>(Rw.nil 141 4).rowK (M:=[]) (λx=>by simp[riV]) (St.refl W)
 have G:D.size Yc=(0,42):=by
  have hg:D.get Yc=none:=by unfold Dk.get;rw[v];rfl
  unfold Dk.size Dk.look;rw[hg,f];rfl
 have q:D.names=[]:=by unfold Dk.names;rw[v];simp[Xn]
 have F:=Hi (λW=>Qaf W ⟨o,0,2,1,[]⟩ (.slice none 0 0) r (a W));have p:=Hi (λ(N:va) W (h:Xa W0 bd bm D N W)=>(XG W bd D.off h.off));rw[f]at p;have u:=Hi (λ(N:va) W (h:Xa W0 bd bm D N W)=>XN h Yc (by simp[Yc]));rw[G]at u;have z:=Hi (λ(N:va) W (h:Xa W0 bd bm D N W)=>zaI W0 W bd bm D (.slice none 0 0) [] [] N hf T f (by rw[q];simp) (Rw.nil _ _) h ht a0);have V:Vw [] D.names D=(D,0):=by rw[q];rfl
 rw[V]at z;have c:=Hi (λ(N:va) W (h:Xa W0 bd bm D N W)=>qar W0 W bd bm D N 1 0 o.width (by decide) (by decide) g1 (by decide) (by decide) h hf ht);unfold xaa at c;simp only[a5,JW,jW,Jb,show((1:Nat):Int)=1 from rfl]at c;have A:=Hi (λ(N:va) W (h:Xa W0 bd bm B N W)=>yab W0 W bd bm B N ⟨o,0,2,1,[]⟩ (.slice none 0 0) r h a4 (a W) a3);rw[Q]at A;have t:=Hi (λ(N:va) W (h:Xa W0 bd bm d2 N W)=>xaB W0 W bd bm d2 ⟨o,0,2,1,[]⟩ (.slice none 0 0) N ho h);unfold V6 at t;rw[<-l]at c;unfold Qp;have P:=Hi (λ(b bj:Nat) (d:DlH) (x:LvH) (W:World) I U e3 Y S L K k=>vaO (W0:=W0) (W:=W) (bd:=bd) (bm:=bm) (b:=b) (bj:=bj) (d2:=d2) (o:=o) (d:=d) (x:=x) (M:=M) I U e3 Y S L K k);have O:=(k.alloc (.cells #[OI o.width,OI o.chunks,OI o.mode] 23)).alloc (.cells #[OI o.width,OI o.chunks,OI o.mode,OI 0,OI 2,OI 1,.slice none 0 0] 64);rw[jF]at O;obtain⟨C,hC⟩:=EN w.heap.size;rw[<-hC]at O;obtain⟨K2,a2⟩:=NE (vw d2 o);rw[a2]at P|-
 obtain⟨N,hN⟩:∃N:va,N=(C+1,.cells #[OI o.width,OI o.chunks,OI o.mode,OI 0,OI 2,OI 1,.slice none 0 0] 64)::(C,.cells #[OI o.width,OI o.chunks,OI o.mode] 23)::M:=⟨_,rfl⟩;rw[<-hN]at O;have HN:=Hi hN;have j:=Hi (λ(W:World) (X:va) (hs:St W0 W (X++N))=>show OV W (C+1) 0 (OI o.width)/\OV W (C+1) 1 (OI o.chunks)/\OV W (C+1) 2 (OI o.mode)/\OV W (C+1) 3 (OI 0)/\OV W (C+1) 4 (OI 2)/\OV W (C+1) 5 (OI 1)/\OV W (C+1) 6 (.slice none 0 0)/\OV W C 0 (OI o.width)from by
  have i:=hs.appR;rw[hN]at i;exact⟨i.cellH 0,i.cellH 1,i.cellH 2,i.cellH 3,i.cellH 4,i.cellH 5,i.cellH 6,i.tail.cellH 0⟩)
 obtain⟨HA,HC⟩:=Hi2 O hC;clear O hC hN k r g1 g2 a G q V a5 Q l T hf a4 f v ht a0 a3 ho a2;obtain⟨ow,oc,om⟩:=o;unfold mfV qh Ret Vd at *;unfold za qa Yc at *;simp only at *;go_enter func7,ntmps7;go_upto_region 2 with fail
 rw[<-HC.o];refine HA.o.nameC ?_;clear HA HC;intro w1 k;obtain⟨c0,c1,c2,c3,c4,c5,c6,c7⟩:=j.o w1 [] k.rest;have HD:=Hi k;clear k;go_upto_region 13 with(first
  |(go_at_call 23;refine(F.o _).mono ?_;rintro E w2 ⟨rfl,R⟩;have e:=Hi (HD.o.callB R);clear R)
  |(go_at_call 24;refine MQ (p.o _ _ e.o) ?_)
  |(go_at_call 25;refine MQ (u.o _ _ e.o) ?_)
  |(go_at_call 26;refine MR (z.o _ _ e.o) λw4 n=>?_))
 obtain⟨e0,I,U,e3,Y,S,L,K⟩:=j.o w4 [] n.o.rest;clear c0 c1 c2 c3 c4 c5 c6 c7 F p u z HD e;go_upto_region 16 with(go_at_call 27;refine(c.o _ _ n.o).mono ?_;rintro E w5 ⟨bj,rfl,J⟩;have s:=Hi J;clear J)
 obtain⟨c0,c1,c2,c3,c4,c5,c6,c7⟩:=j.o w5 [jnF bj bd ⟨d2.age,false,Qa 1,ow,0,0⟩] s.o.rest;clear e0 I U e3 Y S L K c n;go_upto_region 21 with(go_at_call 28;refine MR (A.o _ _ s.o) λw6 m=>?_)
 obtain⟨e0,I,U,e3,Y,S,L,K⟩:=j.o w6 [jnF bj bd ⟨d2.age,false,Qa 1,ow,0,0⟩] m.o.rest;clear c0 c1 c2 c3 c4 c5 c6 c7 A s;go_upto_region 22 with(go_at_call 31;refine(t.o _ _ m.o).mono ?_;rintro E w7 ⟨b,d,x,rfl,q1,q2,q3,q4,q5,q6,q7,a1⟩;have HQ:=Hi (jy q1 (jy q2 (jy q3 (jy q4 (jy q5 (jy q6 q7))))));have g:=Hi a1;clear a1 q1 q2 q3 q4 q5 q6 q7)
 clear e0 I U e3 Y S L K t m;have y0:=g.o.rest.cellH 11;have y1:=g.o.rest.freeH 11;have a6:=Hi (Xa.set g.o 11 (OQ bj));clear g;go_wp2_with fail;obtain⟨q1,q2,q3,q4,q5,q6,q7⟩:=HQ.o;obtain⟨h,rfl,hK⟩:=P.o b bj d x _ q1 q2 q3 q4 q5 q6 q7 (a6.o.pmSub (X:=[(C+1,.cells #[OI ow,OI oc,OI om,OI 0,OI 2,OI 1,.slice none 0 0] 64),(C,.cells #[OI ow,OI oc,OI om] 23)]) λy=>by
  rw[HN.o];simp only[xa,ya,OI,OT,OQ,Ya];omega)
 go_ret2;exact⟨h,rfl,hK⟩
theorem KOk.of(h:Inv K)(c:Xp K)(l:K.d.Fits):KOk K:=by
 have q:=c.held;unfold Kp.held at q;have b:K.past.length<=4000:=by omega
 have a:=h.good;obtain⟨f,s,g,i,e⟩:=h.j;obtain⟨u,A,x,t,r⟩:=h.w;have k:=c.seq;unfold Kp.seq at k;exact
  {opt:=a.o,s0:=a.s0,s1:=a.s1
   prs:=λp b=>⟨(h.prs p b).1,(h.prs p b).2.1,by rw[r,(h.prs p b).2.2]⟩
   plen:=by have:=c.live;omega
   wlen:=by have:=h.wlen;omega
   wlast:=h.wlast,past:=by omega,fits:=l,jw:=i,jl:=e
   jn:=by
    rw[g];have y:=a.j0;have v:=a.j1;have z:=a.n1;have:=YJ (n:=K.m.journal.toNat) (by omega);omega
   jgone:=s,jage:=by rw[f,h.age],off:=h.calm.on,age:=h.age.symm,gone:=h.gone,ids:=h.ids}
end Go.Proofs.YtekkihmmclencaaGreatDoor
