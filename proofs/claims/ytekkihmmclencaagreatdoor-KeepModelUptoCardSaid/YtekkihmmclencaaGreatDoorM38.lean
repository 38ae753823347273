import Derived.Test.YtekkihmmclencaaGreatDoorRows
import Derived.ProofKit
import Derived.Test.YtekkihmmclencaaGreatDoorM37
namespace Go.Proofs.YtekkihmmclencaaGreatDoor
set_option linter.all false
set_option maxRecDepth 100000
set_option maxHeartbeats 40000000
open Go.Proofs.Tryz
open Go Go.RowKit Go.Sort Go.ChangeShapes Go.WideShapes Go.ChangeAt Go.Deep
variable(U w:World)(q c:Nat)(J:Kp)(h:KpH){n b k:Nat}{K:Kp}
def KB(W0:World)(bd bm b:Nat)(K:Kp)(W:World):Prop:=∃h,h.b=b/\Za W0 bd bm K h [] W
theorem KB.callB{W0 W W':World}(h:KB W0 n k b K W)(c:Below W.heap.size W W'):KB W0 n k b K W':=by
 obtain⟨x,e,a⟩:=h;exact⟨x,e,a.callB c⟩
theorem KB.below{W0 W:World}(h:KB W0 n k b K W):Below W0.heap.size W0 W:=by
 obtain⟨x,e,a⟩:=h;exact a.2.below
theorem Ybc(ht:vi w)(a8:QI w)(V:zg w):Calls prog 4 #[] w (Vd (.bool true) w):=by
 obtain⟨d1,d2,e1,e2,f1,ea,x,u⟩:=Ybj;obtain⟨D,r⟩:=EN (vw d2 o64);have a1:D.P=[]:=by rw[r];rfl
 have a2:D.runs=[]:=by rw[r];rfl
 have a3:D.past=[]:=by rw[r];rfl
 have a4:D.m.seq=0:=by rw[r];rfl
 have a5:D.m.next=2:=by rw[r];rfl
 rw[<-r]at x u;obtain⟨H,g1,k,p1,r1,q1,m1,c1⟩:=Xbj x a1 a2 a3 a4 a5 u;have g2:=Vbj k p1;have I:H.past≠[]:=by intro e;rw[e]at q1;cases q1
 obtain⟨T,k1,i1,i2,i3,i4,i5,i6,i7,i8,i9,a0⟩:=Z1 k.inv k.small I (by rw[r1];decide);have f2:T.d.Fits:=by
  obtain⟨y1,y2,y3,y4,_,y5,y6⟩:=Zao.of w k.inv k.small k.fits I (by rw[r1];decide);have:=(UI (k1.symm.trans y6)).1;rw[this];exact y5
 obtain⟨E,p2,r2,s2⟩:=Qbj k p1 r1 q1 (by rw[m1];exact a4) (by rw[m1];exact a5) c1 i1 f2 i2 i3 i4 i5 i6 i7 i8 a0;obtain⟨m0,s,o1,o2,o3,o4,n,p3,r3,J,s3⟩:=zbk E p2 r2 i3;obtain⟨t,R⟩:=EN (Xm T m0);rw[<-R]at n p3 r3 J s3;rw[s2]at s3;have N:=va2 p3;obtain⟨M,O⟩:=qa2 p3 J;have K:=KOk.of x.inv x.small x.fits;have Q:=KOk.of k.inv k.small k.fits;obtain⟨z1,A⟩:=EN (ql 1);obtain⟨z2,G⟩:=EN (ql 2);have Z:=Hi (show Calls prog 6 #[OI 1048576] w (λe j=>∃f g,e=.returned (OQ f)/\Xa w f g (Dk.fresh 1048576) [] j)from by
  refine(zbd w 1048576 (by decide) (by decide)).mono ?_;intro e j hp;unfold zB at hp;rw[jd (by decide)]at hp;obtain⟨f,g,om,rfl,hd,hS⟩:=hp;exact⟨f,g,rfl,om,[],hd,by rw[jJ];exact hS⟩)
 have aw:=Hi (λ(f g:Nat) (W:World) (hD:Xa w f g (Dk.fresh 1048576) [] W)=>show Calls prog 7 #[OQ f,.agg #[OI 64,OI 8,OI 1]] W (λe j=>∃b,e=.returned (.tuple #[OQ b,OI 0])/\KB w f g b D j)from by
  refine(Xas w W f g (Dk.fresh 1048576) d1 d2 o64 [] xa2 qal.wf (XM 1048576 (by decide) (by decide)) f1 rfl rfl e1 e2 ea hD ht a8 V).mono ?_;rintro e j ⟨h,rfl,p⟩;rw[<-r]at p;exact⟨h.b,rfl,h,rfl,p⟩)
 have a9:=Hi (λ(W:World)=>show Calls prog 18 #[OI 64,.int .u8 1] W (λe j=>e=.returned (OT z1)/\Below W.heap.size W j)from by
  rw[A];exact vaI W 1)
 have ah:=Hi (λ(W:World)=>show Calls prog 18 #[OI 64,.int .u8 2] W (λe j=>e=.returned (OT z2)/\Below W.heap.size W j)from by
  rw[G];exact vaI W 2)
 have ad:=Hi (λ(f g b:Nat) (W:World) (i:KB w f g b D W)=>show Calls prog 17 #[OQ b,OI 5,OT z1] W (λe j=>e=.returned (OI 0)/\KB w f g b H j)from by
  obtain⟨h,rfl,p⟩:=i;have S:=Q5 w W f g D h 5 z1 [] V K (by rw[A];decide) p;rw[A,show D.update ⟨0,1,5,ql 1⟩=(H,0)from g1,<-A]at S;refine S.mono ?_;rintro e j ⟨rfl,B,q,l⟩;exact⟨rfl,B,q,l⟩)
 have an:=Hi (λ(f g b:Nat) (W:World) (i:KB w f g b H W)=>show Calls prog 17 #[OQ b,OI 5,OT z2] W (λe j=>e=.returned (OI 130)/\KB w f g b H j)from by
  obtain⟨h,rfl,p⟩:=i;have S:=Q5 w W f g H h 5 z2 [] V Q (by rw[G];decide) p;rw[G,show H.update ⟨0,1,5,ql 2⟩=(H,130)from g2,<-G]at S;refine S.mono ?_;rintro e j ⟨rfl,B,q,l⟩;exact⟨rfl,B,q,l⟩)
 have ak:=Hi (λ(f g b:Nat) (W:World) (i:KB w f g b H W)=>show Calls prog 19 #[OQ b] W (λe j=>e=.returned (.tuple #[.bool true,OI 0])/\KB w f g b T j)from by
  obtain⟨h,rfl,p⟩:=i;obtain⟨K',k2,_,_,_,_,_,_,_,_,_,_,_,hF⟩:=VaB w W f g H h [] k.inv k.small k.fits I (by rw[r1];decide) p ht V;have hk:=(UI (k1.symm.trans k2)).1;rw[<-hk]at hF;refine hF.mono ?_;rintro e j ⟨rfl,B,q,l⟩;exact⟨rfl,B,q,l⟩)
 have ae:=Hi (λ(f g b:Nat) (W:World) (i:KB w f g b T W)=>show Calls prog 13 #[OQ f] W (λe j=>∃b',e=.returned (.tuple #[OQ b',OI 0])/\KB w f g b' t j)from by
  obtain⟨h,rfl,p⟩:=i;refine(YaI w W f g T m0 s _ E.inv E.small E.fits o1 o2 o3 o4 p.2 V ht a8).mono ?_;rintro e j ⟨B,rfl,l⟩;rw[<-R]at l;exact⟨B.b,rfl,B,rfl,l.pmSub (M':=[]) (X:=h.frag f T++[]) CN⟩)
 have ai:=Hi (λ(f g b:Nat) (W:World) (i:KB w f g b t W)=>show Calls prog 20 #[OQ b] W (λe j=>∃a c,e=.returned (.slice a 1 c)/\KB w f g b t j)from by
  obtain⟨h,rfl,p⟩:=i;have ab:h.rs.length=1:=by rw[<-r3];have:=jT List.length p.1.runs;simpa using this
  refine(XT w W f g t h [] p (by omega)).mono ?_;rintro e j ⟨v,F,rfl,hR,hS⟩;rw[jz,ab]at hR;obtain⟨a,c,rfl,_⟩:=hR.form;exact⟨a,c,rfl,h,rfl,(p.call hS).pmSub (M':=[]) (X:=F) CN⟩)
 have al:=Hi (λ(f g b:Nat) (W:World) (i:KB w f g b t W)=>show Calls prog 21 #[OQ b,OI 5] W (λe j=>e=.returned (.tuple #[OT z1,OI 0])/\KB w f g b t j)from by
  obtain⟨h,rfl,p⟩:=i;have S:=YaA w W f g t h 5 [] n p;refine S.mono ?_;rintro e j ⟨rfl,B,q,l⟩;rw[N,<-A];exact⟨rfl,B,q,l⟩)
 have ag:=Hi (λ(f g b:Nat) (W:World) (i:KB w f g b t W)=>show Calls prog 22 #[OQ b,OI 7,OI 1] W (λe j=>∃a c,e=.returned (.tuple #[.slice a 1 c,OI 0])/\KB w f g b t j)from by
  obtain⟨h,rfl,p⟩:=i;refine(vbd w W f g t h 7 1 [] n (by rw[J];decide) O p).mono ?_;rintro e j ⟨B,lv,F,L,q,rfl,hL,hR,l⟩;rw[M]at hL;rw[hL.length_eq,j8]at hR;obtain⟨a,c,rfl,_⟩:=hR.form;exact⟨a,c,rfl,B,q,l.pmSub (M':=[]) (X:=F) CN⟩)
 have au:=Hi (λ(f g b:Nat) (W:World) (i:KB w f g b t W)=>show Calls prog 14 #[OQ b] W (λe j=>e=.returned (OI 1)/\KB w f g b t j)from by
  obtain⟨h,rfl,p⟩:=i;have aA:=n.past;refine(Y5 w W f g t h [] p n.s0 n.s1 (by omega)).mono ?_;rintro e j ⟨he,q⟩;rw[s3]at he;exact⟨he,h,rfl,p.callB q⟩)
 clear s2 s3 x k E g1 g2 k1 i1 i2 i3 i4 i5 i6 i7 i8 i9 a0 f2 p1 r1 q1 m1 c1 p2 r2 o1 o2 o3 o4 n p3 r3 J N M O K Q A G a1 a2 a3 a4 a5 u r R I e1 e2 f1 ea;unfold Vd;go_enter func4,ntmps4;go_upto_region 2 with(go_at_call 6;(with_reducible refine Z.o.mono ?_);rintro C w1 ⟨f,g,rfl,hD⟩;have HD:=Hi hD;clear hD)
 go_upto_region 3 with(go_at_call 7;(with_reducible refine(aw.o f g w1 HD.o).mono ?_);rintro C w2 ⟨b,rfl,i⟩;have am:=Hi i;clear i)
 go_upto_region 5 with(first
  |(go_at_call 18;(with_reducible refine(a9.o _).mono ?_);rintro C w3 ⟨rfl,q⟩;have ap:=Hi (am.o.callB q);clear q)
  |(go_at_call 17;(with_reducible refine(ad.o f g b _ ap.o).mono ?_);rintro C w4 ⟨rfl,i⟩;have ar:=Hi i;clear i)
  |(go_at_call 18;(with_reducible refine(ah.o _).mono ?_);rintro C w5 ⟨rfl,q⟩;have av:=Hi (ar.o.callB q);clear q)
  |(go_at_call 17;(with_reducible refine(an.o f g b _ av.o).mono ?_);rintro C w6 ⟨rfl,i⟩;have af:=Hi i;clear i))
 go_upto_region 6 with(go_at_call 19;(with_reducible refine(ak.o f g b _ af.o).mono ?_);rintro C w7 ⟨rfl,i⟩;have aq:=Hi i;clear i)
 go_upto_region 7 with(go_at_call 13;(with_reducible refine(ae.o f g b _ aq.o).mono ?_);rintro C w8 ⟨b2,rfl,i⟩;have ao:=Hi i;clear i)
 go_upto_region 9 with(go_at_call 20;(with_reducible refine(ai.o f g b2 _ ao.o).mono ?_);rintro C w9 ⟨ra,rc,rfl,i⟩;have aj:=Hi i;clear i)
 go_upto_region 10 with(go_at_call 21;(with_reducible refine(al.o f g b2 _ aj.o).mono ?_);rintro C az ⟨rfl,i⟩;have a6:=Hi i;clear i)
 go_upto_region 11 with(go_at_call 22;(with_reducible refine(ag.o f g b2 _ a6.o).mono ?_);rintro C ax ⟨aa,ac,rfl,i⟩;have a7:=Hi i;clear i)
 go_wp2_with (first
  |(go_at_call 18;(with_reducible refine(a9.o _).mono ?_);rintro C aB ⟨rfl,q⟩;have Y:=Hi (a7.o.callB q);clear q)
  |(go_at_call 14;(with_reducible refine(au.o f g b2 _ Y.o).mono ?_);rintro C ay ⟨rfl,i⟩;have U:=Hi i;clear i))
 go_ret;exact⟨rfl,U.o.below⟩
def Zv(o:Op3):Op3 :=
 let w:=if 64<o.width/\o.width<=1024/\o.width%64=0 then o.width else 64
 if o.mode=2 then⟨w,0,2⟩else⟨w,if w/32<=o.chunks/\o.chunks<w/8 then o.chunks else w/8,1⟩
theorem XaP(o:Op3):Qb (Zv o)=0:=by
 unfold Zv;obtain⟨w,a⟩:=EN ((if 64<o.width/\o.width<=1024/\o.width%64=0 then o.width else 64));have f:64<=w/\w<=1024/\w%64=0:=by rw[a];split<;>omega
 rw[<-a];clear a;simp only;have d:Xc w=true:=Xd.2 ⟨by omega,by omega,by omega⟩;unfold Qb;by_cases hm:o.mode=2
 .rw[jh hm];simp[d]
 .rw[jd hm];obtain⟨c,b⟩:=EN ((if w/32<=o.chunks/\o.chunks<w/8 then o.chunks else w/8));have e:w/32<=c/\c<=w/8:=by rw[b];split<;>omega
  rw[<-b];clear b;simp[d];omega
theorem Ya2(o:Op3):Calls prog 5 #[.agg #[OI o.width,OI o.chunks,OI o.mode]] w (Vd (.agg #[OI (Zv o).width,OI (Zv o).chunks,OI (Zv o).mode]) w):=by
 have T:=(((St.refl w).alloc (.cells #[OI o.width,OI o.chunks,OI o.mode] 23)).alloc (.cells #[OI 0,OI 0,OI 0] 23)).alloc (.cells #[OI 64,OI 0,OI 1] 23);simp only[jF]at T;obtain⟨C,V⟩:=EN w.heap.size;rw[<-V]at T;obtain⟨Z,HC⟩:=Hi2 T V;clear T V;have HO:Hy (Zv o=Zv o):=Hi rfl;obtain⟨W,L⟩:=EN ((if 64<o.width/\o.width<=1024/\o.width%64=0 then o.width else 64));have p:Hy (Zv o=if o.mode=2 then⟨W,0,2⟩else⟨W,if W/32<=o.chunks/\o.chunks<W/8 then o.chunks else W/8,1⟩):=Hi (by rw[L];rfl);have a4:64<=W:=by rw[L];split<;>omega
 have a3:W<=1024:=by rw[L];split<;>omega
 have O:=Hi L;clear L;obtain⟨R,M⟩:=NE (Zv o);rw[M]at p|-
 obtain⟨k,r,J⟩:=o;simp only at *;clear M HO;go_enter func5,ntmps5;go_upto_region 2 with fail
 rw[<-HC.o];refine Z.o.nameC ?_;clear Z HC;intro E a;obtain⟨U,D,H⟩:=a.tail.tail.k3 0 1 2;have Q:=a.freeH 0;have c:OV E (C+1+1) 0 (OI 64):=a.cellH 0;have d:=Hi a;clear a;have b:Hy ((64<k/\k<=1024/\k%64=0/\W=k)\/(¬ (64<k)/\W=64)\/(64<k/\¬ (k<=1024)/\W=64)\/(64<k/\k<=1024/\¬ (k%64=0)/\W=64)):=Hi (by
  have:=O.o;split at this<;>omega)
 rcases b.o with⟨F,P,N,A⟩|⟨F,A⟩|⟨F,P,A⟩|⟨F,P,N,A⟩
 focus
  have G:Int.tmod k 64=0:=by rw[Jw (by omega)];exact N
  subst A;go_upto_region 4 with fail
  refine(d.o.set 0 (OI W)).nameC ?_;clear U D H Q c d O b G N F P;intro l a
 rotate_left
 focus
  go_upto_region 4 with fail
  have j:St w E ((C+1+1,.cells #[OI W,OI 0,OI 1] 23)::(C+1,.cells #[OI 0,OI 0,OI 0] 23)::(C,.cells #[OI k,OI r,OI J] 23)::[]):=by rw[A];exact d.o
  refine j.nameC ?_;clear U D H Q c d O b j A F;intro l a
 rotate_left
 focus
  go_upto_region 4 with fail
  have j:St w E ((C+1+1,.cells #[OI W,OI 0,OI 1] 23)::(C+1,.cells #[OI 0,OI 0,OI 0] 23)::(C,.cells #[OI k,OI r,OI J] 23)::[]):=by rw[A];exact d.o
  refine j.nameC ?_;clear U D H Q c d O b j A P F;intro l a
 rotate_left
 focus
  have G:¬ (Int.tmod k 64=0):=by rw[Jw (by omega)];exact N
  go_upto_region 4 with fail
  have j:St w E ((C+1+1,.cells #[OI W,OI 0,OI 1] 23)::(C+1,.cells #[OI 0,OI 0,OI 0] 23)::(C,.cells #[OI k,OI r,OI J] 23)::[]):=by rw[A];exact d.o
  refine j.nameC ?_;clear U D H Q c d O b j A G N P F;intro l a
 all_goals(
  have g:=p.o;have c:OV l (C+1+1) 0 (OI W):=a.cellH 0;have f:OV l (C+1+1) 1 (OI 0):=a.cellH 1;have b2:OV l (C+1+1) 2 (OI 1):=a.cellH 2;obtain⟨D,H⟩:=a.tail.tail.k2 1 2;obtain⟨I,f2⟩:=a.f2 1 2;have S:=λi=>a.tail.freeH i
  have z:OZ l (C+1) 0:=S 0;have B:OZ l (C+1) 1:=S 1;have y:OZ l (C+1) 2:=S 2;have n:OV l (C+1) 0 (OI 0):=a.tail.cellH 0;have q:OV l (C+1) 1 (OI 0):=a.tail.cellH 1;have m:OV l (C+1) 2 (OI 0):=a.tail.cellH 2;have d:=Hi a;clear a S;by_cases m2:J=2
  .subst m2;rw[jh rfl]at g;have p:=Hi g;clear g;go_upto_region 6 with fail
   refine(d.o.set 2 (OI 2)).nameC ?_;clear D H c f b2 I f2 z B y n q m d;intro K a;obtain⟨c,f,b2⟩:=a.k3 0 1 2;obtain⟨z,B,y⟩:=a.tail.f3 0 1 2;obtain⟨n,q,m⟩:=a.tail.k3 0 1 2;simp at c f b2 n q m;have x:=Hi (((a.swap.set 0 (OI W)).set 1 (OI 0)).set 2 (OI 2));clear a;go_wp2_with fail;refine x.o.nameB ?_;clear x c f b2 z B y n q m;intro X e;obtain⟨u,t,s⟩:=e.k3 0 1 2;simp at u t s;rw[p.o];refine jP (v:=.agg #[OI W,OI 0,OI 2]) ?_ rfl ⟨rfl,e.below⟩;simp[results,results5,go_sem,u,t,s]
  .rw[jd m2]at g;have p:=Hi g;clear g;go_upto_region 8 with fail
   refine(d.o.set 1 (OI (W/8))).nameC ?_;clear H c f b2 I f2 z B y n q m d m2;intro K a;have c:OV K (C+1+1) 0 (OI W):=a.cellH 0;have f:OV K (C+1+1) 1 (OI (W/8)):=a.cellH 1;have D:=a.tail.tail.cellH 1;have I:=a.freeH 1;have d:=Hi a;clear a;by_cases c1:W/32<=r
   .by_cases c2:r<W/8
    .have g:=p.o;rw[jh ⟨c1,c2⟩]at g;have p:=Hi g;clear g;go_upto_region 10 with fail
     refine(d.o.set 1 (OI r)).nameC ?_;clear D c f I d c1 c2;intro Y a;obtain⟨c,f,b2⟩:=a.k3 0 1 2;obtain⟨z,B,y⟩:=a.tail.f3 0 1 2;obtain⟨n,q,m⟩:=a.tail.k3 0 1 2;simp at c f b2 n q m;have x:=Hi (((a.swap.set 0 (OI W)).set 1 (OI r)).set 2 (OI 1));clear a;go_wp2_with fail;refine x.o.nameB ?_;clear x c f b2 z B y n q m;intro X e;obtain⟨u,t,s⟩:=e.k3 0 1 2;simp at u t s;rw[p.o];refine jP (v:=.agg #[OI W,OI r,OI 1]) ?_ rfl ⟨rfl,e.below⟩;simp[results,results5,go_sem,u,t,s]
    .have g:=p.o;rw[jd (λh=>c2 h.2)]at g;have p:=Hi g;clear g;go_upto_region 10 with fail
     refine d.o.nameC ?_;clear D c f I d c1 c2;intro Y a;obtain⟨c,f,b2⟩:=a.k3 0 1 2;obtain⟨z,B,y⟩:=a.tail.f3 0 1 2;obtain⟨n,q,m⟩:=a.tail.k3 0 1 2;simp at c f b2 n q m;have x:=Hi (((a.swap.set 0 (OI W)).set 1 (OI (W/8))).set 2 (OI 1));clear a;go_wp2_with fail;refine x.o.nameB ?_;clear x c f b2 z B y n q m;intro X e;obtain⟨u,t,s⟩:=e.k3 0 1 2;simp at u t s;rw[p.o];refine jP (v:=.agg #[OI W,OI (W/8),OI 1]) ?_ rfl ⟨rfl,e.below⟩;simp[results,results5,go_sem,u,t,s]
   .have g:=p.o;rw[jd (λh=>c1 h.1)]at g;have p:=Hi g;clear g;go_upto_region 10 with fail
    refine d.o.nameC ?_;clear D c f I d c1;intro Y a;obtain⟨c,f,b2⟩:=a.k3 0 1 2;obtain⟨z,B,y⟩:=a.tail.f3 0 1 2;obtain⟨n,q,m⟩:=a.tail.k3 0 1 2;simp at c f b2 n q m;have x:=Hi (((a.swap.set 0 (OI W)).set 1 (OI (W/8))).set 2 (OI 1));clear a;go_wp2_with fail;refine x.o.nameB ?_;clear x c f b2 z B y n q m;intro X e;obtain⟨u,t,s⟩:=e.k3 0 1 2;simp at u t s;rw[p.o];refine jP (v:=.agg #[OI W,OI (W/8),OI 1]) ?_ rfl ⟨rfl,e.below⟩;simp[results,results5,go_sem,u,t,s])
theorem Xa2(x:OpH)(M:va)(l:List Pr)(i:Nat)(f:Qg J l i)(u:i<=3000)(g:J.d.Fits)(s:Za U q c J h M w)(v:vi U)(y:zg U):
  ∃a e,(e=0\/(e=152/\x.kind=9))/\(Qg a l (if x.kind=3\/x.kind=4 then i else i+1))/\a.d.Fits/\a.m.o=J.m.o/\a.seq=J.seq /\
   Calls prog 12 #[za h.b,za q,.agg x.cells.toArray] w (zd U q c h.b M (a,e)):=by
 by_cases hu:x.kind=3\/x.kind=4
 .have A:=f.inv.good.n0;have t:=qaI U w q c J h x M (KOk.of f.inv (f.small (by omega)) g) (by omega) s (by omega) (by omega);unfold xal at t;rw[jd (by omega),jd (by omega)]at t;exact⟨J,0,.inl rfl,by rw[jh hu];exact f,g,rfl,rfl,t⟩
 .by_cases h9:x.kind=9
  .obtain⟨a,e,z,r,k,p,j,n⟩:=Qbb U w q c J h x M l i f u g s h9 v y;exact⟨a,e,z.imp id (λh=>⟨h,h9⟩),by rw[jd hu];exact r,k,p,j,n⟩
  .by_cases h11:x.kind=11
   .obtain⟨a,r,k,p,j,n⟩:=Za1 U w q c J h x M l i f u g s h11 v y;exact⟨a,0,.inl rfl,by rw[jd hu];exact r,k,p,j,n⟩
   .obtain⟨a,r,k,p,j,n⟩:=zbc U w q c J h x M l i f u g s h9 h11;exact⟨a,0,.inl rfl,by rw[jd hu];exact r,k,p,j,n⟩
theorem OpH.cells_len(x:OpH):x.cells.length=10:=rfl
def xbq(W0:World)(bd bm:Nat)(o:Op3)(n:Nat)(N:va)(kv lv nv iv:Value)(wr:World):Prop:=∃(i:Nat) (K:Kp) (h:KpH) (l:List Pr) (F:va),i<=n/\iv=.int .i64 (i:Int)/\kv=.pointer (some ⟨h.b,0,none⟩)/\nv=.int .i64 K.seq/\Rw 86 2 lv l.length (l.flatMap prV) F/\Qg K l i/\K.d.Fits/\K.m.o=o/\Za W0 bd bm K h (F++N) wr
theorem model_c(w:World)(v1:Value)(o:Op3)(S:List OpH)(aM:qe OpH.cells 10 w v1 S)(bM:∀x∈S,x.code.length<=4611686018427387904)(cg:S.length<=1000000000)(ht:vi w)(aw:QI w)(hc:zg w):
  Calls prog 3 #[.agg #[.int .i64 o.width,.int .i64 o.chunks,.int .i64 o.mode],v1] w (Vd (.bool true) w):=by
 have bD:=Hi aM;obtain⟨ad,ca,rfl,I,h2,_⟩:=aM;have cd:(0:Int)<=(S.length:Int):=by omega
 have ck:(S.length:Int)<=1000000000:=by omega
 have cb:(S.length:Int)<=(ca:Int):=by omega
 obtain⟨c2,HT,bZ,bc⟩:=Hi4 bM ht aw hc;obtain⟨X,hX⟩:=NE (Zv o);have aU:Qb X=0:=by rw[<-hX];exact XaP o
 have bi:=Hi aU;have hA:=(St.refl w).alloc (.cells #[.int .i64 o.width,.int .i64 o.chunks,.int .i64 o.mode] 23);obtain⟨C,hC⟩:=EN w.heap.size;rw[<-hC]at hA;obtain⟨HA,HC⟩:=Hi2 hA hC;have a0:=Hi (λW=>Ya2 W o);rw[hX]at a0;have aW:=Hi (λ(W:World) (P:Below w.heap.size w W)=>Ybc W (ht.below P (jm _)) (aw.below P (jm _)) (hc.below P (jm _)));have aJ:=Hi (λ(W:World) (M:va) (hS:St w W M)=>show Calls prog 6 #[.int .i64 1073741824] W (λe w'=>∃G L,e=.returned (.pointer (some ⟨G,0,none⟩))/\Xa w G L (Dk.fresh 1073741824) M w')from by
  refine(zbd W 1073741824 (by decide) (by decide)).mono ?_;intro e w' hp;unfold zB at hp;rw[jd (by decide)]at hp;obtain⟨G,L,om,rfl,hd,c4⟩:=hp;exact⟨G,L,rfl,om,[],hd,hS.call c4⟩)
 have aA:=Hi (λ(G L:Nat) (W:World) (M:va) (hD:Xa w G L (Dk.fresh 1073741824) M W)=>Za2 w W G L X M aU hD ht aw hc);clear hA hC hX aU bM I h2 ht aw hc;unfold Vd at a0 aW|-
 go_enter func3,ntmps3;go_upto_region 1 with fail
 rw[<-HC.o];refine HA.o.nameC ?_;clear HA HC;intro w1 ba;have a2:=Hi ba;have aK:=Hi (aW.o w1 ba.below);clear ba;go_upto_region 2 with(first
  |(go_at_call 4;refine aK.o.mono ?_;rintro Z w2 ⟨rfl,ac⟩;have E:=Hi (a2.o.callB ac);clear ac)
  |fail)
 have q0:w2.cell? ⟨C,0,none⟩=some (.int .i64 o.width):=E.o.cellH 0;have q1:w2.cell? ⟨C,1,none⟩=some (.int .i64 o.chunks):=E.o.cellH 1;have q2:w2.cell? ⟨C,2,none⟩=some (.int .i64 o.mode):=E.o.cellH 2;clear a2 aK;go_upto_region 3 with(first
  |(go_at_call 5;refine(a0.o _).mono ?_;rintro Z w3 ⟨rfl,af⟩;have a4:=Hi (E.o.callB af);clear af)
  |fail)
 have hA:=a4.o.alloc (.cells #[.int .i64 X.width,.int .i64 X.chunks,.int .i64 X.mode] 23);obtain⟨B,hB⟩:=EN w3.heap.size;rw[<-hB]at hA|-
 obtain⟨N,hN⟩:∃N:va,N=[(B,.cells #[.int .i64 X.width,.int .i64 X.chunks,.int .i64 X.mode] 23),(C,.cells #[.int .i64 o.width,.int .i64 o.chunks,.int .i64 o.mode] 23)]:=⟨_,rfl⟩;rw[<-hN]at hA;refine hA.nameC ?_;clear hA hB E a4 q0 q1 q2 a0;intro w4 bI;have c7:=Hi hN;have b5:=Hi (λ(W:World) (A:va) (hS:St w W (A++N))=>show W.cell? ⟨B,0,none⟩=some (.int .i64 X.width)/\W.cell? ⟨B,1,none⟩=some (.int .i64 X.chunks)/\W.cell? ⟨B,2,none⟩=some (.int .i64 X.mode)from by
  have I:=hS.appR;rw[c7.o]at I;exact⟨I.cellH 0,I.cellH 1,I.cellH 2⟩)
 have bh:=Hi (aJ.o w4 N bI);clear hN bI aJ;go_upto_region 4 with(first
  |(go_at_call 6;refine bh.o.mono ?_;rintro Z w5 ⟨G,L,rfl,hD⟩;have aV:=Hi hD;clear hD)
  |fail)
 obtain⟨K0,bv,bO,bf,aR,bT⟩:=aA.o G L w5 N aV.o;obtain⟨q0,q1,q2⟩:=b5.o w5 [] aV.o.rest;obtain⟨bA,bE,bG,bk,ah⟩:=Hi5 bv bO bf aR bT;clear bv bO bf aR bT bh aA;unfold Qp at ah;unfold za at *;go_upto_region 5 with(first
  |(go_at_call 7;refine ah.o.mono ?_;rintro Z w6 ⟨h6,rfl,bw⟩;have b9:=Hi bw;clear bw)
  |fail)
 by_cases hbig:2000<S.length
 .have aO:(2000:Int)<(S.length:Int):=by omega
  clear q0 q1 q2;go_wp2_with fail;go_ret;exact⟨rfl,b9.o.2.below⟩
 .have aO:¬ ((2000:Int)<(S.length:Int)):=by omega
  have c6:(S.length:Int)<=2000:=by omega
  clear q0 q1 q2;go_upto_region 10 with fail
  go_loopw [8,10,11,12] (λkv lv nv iv wr=>xbq w G L X S.length N kv lv nv iv wr) (λ_ _ _ iv _=>S.length-(intOf iv).toNat)
  case atStart=>exact⟨0,K0,h6,[],[],jX _,rfl,rfl,by rw[bk.o],Rw.nil _ _,bA.o,bE.o,bG.o,b9.o⟩
  case round =>
   clear b9 bA bE bG bk ah aV;obtain⟨i,K,h,l,F,hi,rfl,rfl,rfl,hR,P,hf,ho,hK⟩:=hrel;obtain⟨la,lc,rfl,_⟩:=hR.form;have cj:(0:Int)<=(i:Int):=by omega
   by_cases hlt:i<S.length
   .have cf:(i:Int)<(S.length:Int):=by omega
    obtain⟨g,s,c,hv,aS⟩:=bD.o.fld OpH.cells_len i hlt;injection hv with e1 e2 e3
    subst e1;subst e3;clear e2;obtain⟨x,hx⟩:=NE (S[i]);rw[hx]at aS;obtain⟨t,xn,xm,p,⟨xw,U,Y⟩,xp,xu,xd⟩:=x;have bW:=c2.o (⟨t,xn,xm,p,⟨xw,U,Y⟩,xp,xu,xd⟩:OpH) (by rw[<-hx];exact Jc hlt);have d:=Hi (λ(W:World) (P:Below w.heap.size w W) (j:Nat) (y:Value) (h:(OpH.cells (⟨t,xn,xm,p,⟨xw,U,Y⟩,xp,xu,xd⟩:OpH))[j]?=some y)=>show W.cell? ⟨g,s+(i*10+j),none⟩=some y from by
     have I:=aS j y h;rw[P.cell (jM w _ I)];exact I)
    have c5:=Hi bW;clear aS hx bW;obtain⟨sq,an⟩:=NE K.seq;rw[an];have ci:sq<=2000:=by have:=P.seq;omega
    have aR:0<=sq:=by have I:=P.inv.good.s0;rw[<-an];unfold Kp.seq;omega
    have a8:=Hi (λW=>ya9 W (⟨t,xn,xm,p,⟨xw,U,Y⟩,xp,xu,xd⟩:OpH) (sq+1));obtain⟨u,hu⟩:=NE (QN (⟨t,xn,xm,p,⟨xw,U,Y⟩,xp,xu,xd⟩:OpH) (sq+1));rw[hu]at a8;obtain⟨HU,H,O,a5,V⟩:=Hi5 hu hR P hf ho;obtain⟨ag,T⟩:=Hi2 hK an;have a:=hK.2.below;have y0:wr.cell? ⟨g,s+i*10,none⟩=some (.int .i64 t):=d.o wr a 0 _ rfl;have y1:wr.cell? ⟨g,s+i*10+1,none⟩=some (.int .i64 xn):=d.o wr a 1 _ rfl;have y2:wr.cell? ⟨g,s+i*10+2,none⟩=some (.int .i64 xm):=d.o wr a 2 _ rfl;have y3:wr.cell? ⟨g,s+i*10+3,none⟩=some (.string ⟨p.toArray⟩):=d.o wr a 3 _ rfl;have y4:wr.cell? ⟨g,s+i*10+4,none⟩=some (.int .i64 xw):=d.o wr a 4 _ rfl;have y5:wr.cell? ⟨g,s+i*10+5,none⟩=some (.int .i64 U):=d.o wr a 5 _ rfl;have y6:wr.cell? ⟨g,s+i*10+6,none⟩=some (.int .i64 Y):=d.o wr a 6 _ rfl;have y7:wr.cell? ⟨g,s+i*10+7,none⟩=some xp:=d.o wr a 7 _ rfl;have y8:wr.cell? ⟨g,s+i*10+8,none⟩=some xu:=d.o wr a 8 _ rfl;have y9:wr.cell? ⟨g,s+i*10+9,none⟩=some (.bool xd):=d.o wr a 9 _ rfl;clear hR P hf ho hK hu an a;unfold Vd at a8;unfold OpH.cells upC at a8;go_upto_region 13 with(first
     |(go_at_call 8;refine(a8.o _).mono ?_;rintro Z w7 ⟨rfl,al⟩;have ak:=Hi (ag.o.callB al);clear al)
     |fail)
    have aq:=ak.o.alloc (.cells (upC u.1).toArray 35);obtain⟨D,hD⟩:=EN w7.heap.size;unfold upC at aq;rw[<-hD]at aq|-
    refine aq.nameC ?_;clear aq hD ak a8 y0 y1 y2 y3 y4 y5 y6 y7 y8 y9;intro w8 bs;have q:=Hi bs;clear bs;by_cases hup:t=3\/t=4
    focus
     have bC:u.2=true/\(u.1.kind=1\/u.1.kind=2)/\(u.1.kind=2->u.1.code=[])/\u.1.code.length<=4611686018427387904:=by
      have:=HU.o;unfold QN at this;simp only at this;rcases hup with h|h
      .rw[jh h]at this;rw[<-this];exact⟨rfl,.inl rfl,λk=>by simp at k,c5.o⟩
      .rw[jd (by omega),jh h]at this;rw[<-this];exact⟨rfl,.inr rfl,λ_=>rfl,by simp⟩
     obtain⟨⟨us,uk,ui,uc⟩,ub⟩:=u;simp only at bC q;obtain⟨c8,b0,am,bN⟩:=bC;subst c8;obtain⟨c0,c1,_⟩:=yM bi.o;have b7:=Ybh w8 (.slice la l.length lc) l ⟨us,uk,ui,uc⟩ X.width b0 (H.o.rowK (M:=N) (λx=>by simp[prV]) q.o.limbs.tail.tail) (by omega) (by omega) (by show uc.length<=_;omega);obtain⟨wm,b3⟩:=NE (Ql l ⟨us,uk,ui,uc⟩ X.width);rw[b3]at b7;obtain⟨az,b6,aQ,aT,aX⟩:=Hi5 b7 b3 b0 am bN;have a1:=Hi hup;unfold Vd upC at az;simp only at az;have d0:w8.cell? ⟨D,0,none⟩=some (.int .i64 us):=q.o.limbs.tail.cellH 0;have d1:w8.cell? ⟨D,1,none⟩=some (.int .i64 uk):=q.o.limbs.tail.cellH 1;have d2:w8.cell? ⟨D,2,none⟩=some (.int .i64 ui):=q.o.limbs.tail.cellH 2;have d3:w8.cell? ⟨D,3,none⟩=some (.string ⟨uc.toArray⟩):=q.o.limbs.tail.cellH 3;obtain⟨q0,_,_⟩:=b5.o w8 ((D,.cells #[.int .i64 us,.int .i64 uk,.int .i64 ui,.string ⟨uc.toArray⟩] 35)::F) q.o.limbs.tail;clear b7 b3 b0 am bN hup c0 c1 HU ag;go_upto_region 15 with(first
      |(go_at_call 9;refine az.o.mono ?_;rintro Z w9 ⟨rfl,bu⟩;have a6:=Hi (q.o.callB bu);clear bu)
      |fail)
     obtain⟨K1,bQ,bU,aP,b4,aZ⟩:=ybj w w9 G L K h ⟨us,uk,ui,uc⟩ _ l i O.o (by omega) a5.o aQ.o aX.o aT.o a6.o bc.o;rw[V.o,b6.o]at aP b4 aZ;obtain⟨bb,bq,b1,b8,ax⟩:=Hi5 bQ bU aP b4 aZ;unfold zd upV za qa at ax;simp only at ax;have d0:w9.cell? ⟨D,0,none⟩=some (.int .i64 us):=a6.o.limbs.tail.cellH 0;have d1:w9.cell? ⟨D,1,none⟩=some (.int .i64 uk):=a6.o.limbs.tail.cellH 1;have d2:w9.cell? ⟨D,2,none⟩=some (.int .i64 ui):=a6.o.limbs.tail.cellH 2;have d3:w9.cell? ⟨D,3,none⟩=some (.string ⟨uc.toArray⟩):=a6.o.limbs.tail.cellH 3;clear bQ bU aP b4 aZ q0 q az;go_upto_region 17 with(first
      |(go_at_call 10;refine ax.o.mono ?_;rintro Z n ⟨rfl,I,a7,f⟩;obtain⟨J,b⟩:=Hi2 a7 f;clear f a7)
      |fail)
     clear a6 ax d0 d1 d2 d3;have bB:K1.m.o=X:=by rw[bb.o,V.o]
     have bn:=Hi bB;clear bB;by_cases hw:wm=0
     focus
      subst hw;have d0:n.cell? ⟨D,0,none⟩=some (.int .i64 us):=b.o.limbs.tail.cellH 0;have d1:n.cell? ⟨D,1,none⟩=some (.int .i64 uk):=b.o.limbs.tail.cellH 1;have d2:n.cell? ⟨D,2,none⟩=some (.int .i64 ui):=b.o.limbs.tail.cellH 2;have d3:n.cell? ⟨D,3,none⟩=some (.string ⟨uc.toArray⟩):=b.o.limbs.tail.cellH 3;have bH:l.length<=1000000:=by have I:=O.o.live;have h2:=O.o.perm.length_eq;omega
      have aY:=Xbh n (.slice la l.length lc) l ⟨us,uk,ui,uc⟩ (H.o.rowK (M:=N) (λx=>by simp[prV]) b.o.limbs.tail.tail) bH;obtain⟨a7,aG⟩:=b8.o rfl;obtain⟨l1,bp⟩:=NE (qG l ⟨us,uk,ui,uc⟩);rw[bp]at aY a7;have ar:=Hi (show Qg K1 l1 (if t=3\/t=4 then i+1 else i) by rw[jh a1.o];exact a7);have a2:=Hi (show K1.seq=sq+1 by rw[aG,T.o]);have av:=Hi aY;unfold qas upC at av;simp only at av;clear aY a7 aG bp bH b8 b1 b6;go_upto_region 20 with(first
       |(go_at_call 11;refine av.o.mono ?_;rintro Z v ⟨ce,F1,rfl,a9,aI⟩;obtain⟨c3,bY,rfl,_⟩:=a9.form;have ab:=Hi (show Rw 86 2 (.slice c3 l1.length bY) l1.length (l1.flatMap prV) F1 from a9);have z:=Hi ((b.o.call aI).pmSub (M':=F1++N) (X:=(D,.cells #[.int .i64 us,.int .i64 uk,.int .i64 ui,.string ⟨uc.toArray⟩] 35)::F) CN);clear a9 aI)
       |fail)
      rw[<-J.o];clear av d0 d1 d2 d3 b J O a5 V T H bb a1 aQ aT aX
     rotate_left
     focus
      have bX:(wm==0)=false:=by simpa using hw
      have hk:=b1.o hw;subst hk;have z:=Hi (b.o.pmSub (M':=F++N) (X:=[(D,.cells #[.int .i64 us,.int .i64 uk,.int .i64 ui,.string ⟨uc.toArray⟩] 35)]) CN);go_upto_region 20 with fail
      rw[<-J.o];have ar:=Hi (show Qg K1 l (if t=3\/t=4 then i+1 else i) by rw[jh a1.o];exact O.o.mono (by omega));have a2:=T;have ab:=H;obtain⟨F1,Q⟩:=NE F;obtain⟨v,aa⟩:=NE n;rw[Q]at z ab;rw[aa]at z|-
      clear aa b J O a5 V T H bb a1 aQ aT aX hw bX b8 b1 b6 Q
    rotate_left 2
    focus
     have am:u=(⟨0,0,0,[]⟩,false):=by
      have:=HU.o;unfold QN at this;rw[jd (λh=>hup (.inl h)),jd (λh=>hup (.inr h))]at this;exact this.symm
     subst am;have z:=Hi (q.o.pmSub (M':=F++N) (X:=[(D,.cells #[.int .i64 0,.int .i64 0,.int .i64 0,.string ⟨#[]⟩] 35)]) CN);have ar:=Hi (show Qg K l (if t=3\/t=4 then i+1 else i) by rw[jd hup];exact O.o);obtain⟨K1,aC⟩:=NE K;obtain⟨I,aD⟩:=NE h;rw[aC]at z ar a5 V T;rw[aD]at z|-
     have bq:=a5;have bn:=V;have a2:=T;have ab:=H;obtain⟨F1,Q⟩:=NE F;obtain⟨v,aa⟩:=NE w8;rw[Q]at z ab;rw[aa]at z|-
     clear aa q O a5 V T H ag HU aC aD Q hup;go_upto_region 20 with fail
    all_goals(
     have a:=z.o.2.below;have y0:v.cell? ⟨g,s+i*10,none⟩=some (.int .i64 t):=d.o v a 0 _ rfl;have y1:v.cell? ⟨g,s+i*10+1,none⟩=some (.int .i64 xn):=d.o v a 1 _ rfl;have y2:v.cell? ⟨g,s+i*10+2,none⟩=some (.int .i64 xm):=d.o v a 2 _ rfl;have y3:v.cell? ⟨g,s+i*10+3,none⟩=some (.string ⟨p.toArray⟩):=d.o v a 3 _ rfl;have y4:v.cell? ⟨g,s+i*10+4,none⟩=some (.int .i64 xw):=d.o v a 4 _ rfl;have y5:v.cell? ⟨g,s+i*10+5,none⟩=some (.int .i64 U):=d.o v a 5 _ rfl;have y6:v.cell? ⟨g,s+i*10+6,none⟩=some (.int .i64 Y):=d.o v a 6 _ rfl;have y7:v.cell? ⟨g,s+i*10+7,none⟩=some xp:=d.o v a 7 _ rfl;have y8:v.cell? ⟨g,s+i*10+8,none⟩=some xu:=d.o v a 8 _ rfl;have y9:v.cell? ⟨g,s+i*10+9,none⟩=some (.bool xd):=d.o v a 9 _ rfl;obtain⟨K2,e2,bS,ac,bx,bz,bl,bV⟩:=Xa2 w v G L K1 I (⟨t,xn,xm,p,⟨xw,U,Y⟩,xp,xu,xd⟩:OpH) (F1++N) _ (if t=3\/t=4 then i+1 else i) ar.o (by split<;>omega) bq.o z.o HT.o bc.o;have ap:=Hi (show Qg K2 _ (i+1)from ac.mono (by by_cases hq:t=3\/t=4;(rw[jh hq,jh hq];exact jm _);(rw[jd hq,jd hq];exact jm _)));have ay:=Hi bx;have ao:=Hi (bz.trans bn.o);have E:=Hi (bl.trans a2.o);have a3:=Hi bV;unfold zd za OpH.cells at a3;clear ac bx bz bl bV a;simp only at bS a3;have c9:e2=0/\t=2\/e2=0/\t≠2\/e2=152/\t=9:=by omega
     clear bS;rcases c9 with⟨rfl,rfl⟩|⟨rfl,br⟩|⟨rfl,rfl⟩
     focus
      go_upto_region 21 with(first|(go_at_call 12;refine a3.o.mono ?_;rintro Z n ⟨rfl,h2,r,f⟩;obtain⟨J,b⟩:=Hi2 r f;clear f r)|fail)
      have y0:n.cell? ⟨g,s+i*10,none⟩=some (.int .i64 2):=d.o n b.o.2.below 0 _ rfl;go_upto_region 24 with fail
      obtain⟨K3,af,bt,bK,be,bL⟩:=Zbj w n G L K2 (h2.frag G K2++(F1++N)) _ (i+1) ap.o (by omega) ay.o b.o.2 bc.o HT.o bZ.o;obtain⟨R,bR⟩:=Hi2 af bt;have bP:=Hi (bK.trans ao.o);have a4:=Hi (be.trans E.o);have bo:=Hi bL;unfold Qp za at bo;clear af bt bK be bL y0 y1 y2 y3 y4 y5 y6 y7 y8 y9;go_upto_region 28 with(first
       |(go_at_call 13;refine bo.o.mono ?_;rintro Z ch ⟨h3,rfl,aN⟩;have au:=Hi (aN.pmSub (M':=F1++N) (X:=h2.frag G K2) CN);clear aN)
       |fail)
     rotate_left
     focus
      have bj:(t==2)=false:=by simpa using br
      go_upto_region 21 with(first|(go_at_call 12;refine a3.o.mono ?_;rintro Z n ⟨rfl,h2,r,f⟩;obtain⟨J,b⟩:=Hi2 r f;clear f r)|fail)
      have y0:n.cell? ⟨g,s+i*10,none⟩=some (.int .i64 t):=d.o n b.o.2.below 0 _ rfl;go_upto_region 28 with fail
      clear bj br
     rotate_left
     focus
      go_upto_region 21 with(first|(go_at_call 12;refine a3.o.mono ?_;rintro Z n ⟨rfl,h2,r,f⟩;obtain⟨J,b⟩:=Hi2 r f;clear f r)|fail)
      have y0:n.cell? ⟨g,s+i*10,none⟩=some (.int .i64 9):=d.o n b.o.2.below 0 _ rfl;go_upto_region 28 with fail
     rotate_left
     all_goals first
      |(have:=au;skip)
      |(rw[<-J.o]
        obtain⟨K3,aF⟩:=NE K2
        obtain⟨h3,aH⟩:=NE h2;rw[aF]at ap ay ao E b;rw[aH]at b|-
        have R:=ap;have bR:=ay;have bP:=ao;have a4:=E;have au:=b;clear ap ay ao E b J a3 aF aH y0 y1 y2 y3 y4 y5 y6 y7 y8 y9)
     all_goals(
      have b2:=au.o;have bg:=Zaf w _ G L K3 h3 _ b2;rw[R.o.perm.length_eq]at bg;have ae:=Y5 w _ G L K3 h3 _ b2 (by have:=R.o.inv.good.s0;exact this) (by have I:=R.o.seq;have h2:K3.seq=K3.m.seq+(K3.past.length:Int):=rfl;omega) (by have I:=R.o.seq;have h2:K3.seq=K3.m.seq+(K3.past.length:Int):=rfl;have h3:=R.o.inv.good.s0;omega);rw[a4.o]at ae;have ai:=Hi (λ(W:World) (hW:Za w G L K3 h3 (F1++N) W)=>Zaf w W G L K3 h3 _ hW);rw[R.o.perm.length_eq]at ai;have aE:=Hi ae;unfold Vd za at aE;unfold Ret za at ai;clear b2 bg ae;go_upto_region 11 with(first
       |(go_at_call 14;refine aE.o.mono ?_;rintro Z cc ⟨rfl,aB⟩;have aL:=Hi (au.o.callB aB);clear aB)
       |(go_at_call 15;refine(ai.o _ aL.o).mono ?_;rintro Z w' ⟨rfl,rfl⟩)
       |fail)
      go_wp2_with fail;exact⟨⟨i+1,K3,h3,_,F1,by omega,by go_num,rfl,by rw[a4.o],ab.o,R.o,bR.o,bP.o,aL.o⟩,by simp[intOf]<;>omega⟩))
   .obtain rfl:i=S.length:=by omega
    obtain⟨H,ag⟩:=Hi2 hR hK;have bJ:=Hi (aW.o wr hK.2.below);have aj:=Hi (λ(W:World) (hW:Za w G L K h (F++N) W)=>ybq w W G L K h N F (.slice la l.length lc) l (KOk.of P.inv (P.small (by omega)) hf) P.perm P.sorted (by rw[ho];exact bi.o) (by have I:=P.live;have h2:=P.perm.length_eq;omega) H.o hW);rw[ho]at aj;unfold za at aj;clear hR P hf ho hK;go_upto_region 31 with(first
     |(go_at_call 4;refine bJ.o.mono ?_;rintro Z w7 ⟨rfl,al⟩;have ak:=Hi (ag.o.callB al);clear al)
     |fail)
    obtain⟨q0,q1,q2⟩:=b5.o w7 F ak.o.limbs.tail;go_wp2_with (first
     |(go_at_call 16;refine(aj.o _ ak.o).mono ?_;rintro Z w8 ⟨rfl,h8,_,bF⟩;have q:=Hi bF;clear bF)
     |fail)
    go_ret;exact⟨rfl,q.o.2.below⟩
section
theorem xat{H:Type}{d:DataW H}{l:List (DataW H)}(h:d∈l):Rows.uptoBulk d<=Rows.uptoBulkAll l:=by
 induction l with
 |nil=>cases h
 |cons x r ih =>
  simp only[Rows.uptoBulkAll];cases jp.1 h with
  |inl e=>subst e;omega
  |inr e=>have:=ih e;omega
theorem Va2{w:World}{a:Addr}{v:Value}(h:w.cell? (a.add 0)=some v):a=⟨a.block,a.off,none⟩:=by
 obtain⟨b,o,s⟩:=a;have c:s=none:=by
  cases s with
  |none=>rfl
  |some q =>
   exfalso;rw[show(⟨b,o,some q⟩:Addr).add 0=⟨b,o,some q⟩from rfl]at h;unfold World.cell? at h;split at h<;>simp_all
 rw[c]
theorem ybk{w:World}{a:Addr}{i:Nat}{v:Value}(b:a=⟨a.block,a.off,none⟩)(h:w.cell? (a.add i)=some v):w.cell? ⟨a.block,a.off+i,none⟩=some v:=by
 unfold Addr.add at h;split at h
 .rename_i c;rw[c,UY,<-b];exact h
 .exact h
section
variable {H:Type} {enc:TypeId × Value->H} {w:World} {base:Nat} {held:Bool}
instance:Inhabited OpH:=⟨⟨0,0,0,[],⟨0,0,0⟩,.slice none 0 0,.slice none 0 0,false⟩⟩
theorem xbk{e:Nat}{f:List Value}{x:DataW H × List MemPlace}(h:DataW.trod enc prog w base (λ_=>true) held e 40 f=some x):
  ∃s:OpH,f=s.cells/\s.code.length<=Rows.uptoBulk x.1:=by
 obtain⟨P,n,rfl,rfl,M,j,b⟩:=KM underlying40 h;have k:f.length=10:=by rw[M];kernel_rfl
 match f,k with
 |[c0,c1,c2,c3,c4,c5,c6,c7,c8,c9],_ =>
  match P,j with
  |[y0,y1,y2,y3,y4,y5,y6,y7],_ =>
   have q:=b 0 _ rfl;have u:=b 1 _ rfl;have D:=b 2 _ rfl;have G:=b 3 _ rfl;have F:=b 4 _ rfl;have r:=b 7 _ rfl;simp only[U9,Ju,show prog.cellsOf 3=1 by kernel_rfl,show prog.cellsOf 9=1 by kernel_rfl,show prog.cellsOf 4=1 by kernel_rfl,show prog.cellsOf 23=3 by kernel_rfl,UG,J4,kW,UQ]at q u D G F r;obtain⟨I,J,_,_⟩:=UM underlying3 q;obtain⟨z,Q,_,_⟩:=UM underlying3 u;obtain⟨C,L,_,_⟩:=UM underlying3 D;obtain⟨g,R,m,_⟩:=DataW.trod_string underlying9 G;obtain⟨i,U,_,_,N,c,a⟩:=KM underlying23 F;obtain⟨A,K,_⟩:=DataW.trod_bool underlying4 r
   match i,c with
   |[o0,o1,o2],_ =>
    have v:=a 0 _ rfl;have B:=a 1 _ rfl;have t:=a 2 _ rfl;simp only[U9,Ju,show prog.cellsOf 3=1 by kernel_rfl,UG,J4,kW,UQ]at v B t;obtain⟨y,O,_,_⟩:=UM underlying3 v;obtain⟨o,S,_,_⟩:=UM underlying3 B;obtain⟨E,T,_,_⟩:=UM underlying3 t;obtain rfl:=(Uo J).1;obtain rfl:=(Uo Q).1;obtain rfl:=(Uo L).1;obtain rfl:=(Uo R).1;obtain rfl:=(Uo K).1;obtain rfl:=(Uo O).1;obtain rfl:=(Uo S).1;obtain rfl:=(Uo T).1;refine⟨⟨I,z,C,g.data.toList,⟨y,o,E⟩,c7,c8,A⟩,rfl,?_⟩;have p:=xat (d:=y3.1) (l:=List.map (λx=>x.1) [y0,y1,y2,y3,y4,y5,y6,y7]) (by simp);rw[m]at p|-
    simp only[Rows.uptoBulk]at p|-
    have:(⟨I,z,C,g.data.toList,⟨y,o,E⟩,c7,c8,A⟩:OpH).code.length=g.data.toList.length:=rfl;omega
theorem vbk{a:List OpH}{i:Nat}{u:Value}(h:(a.flatMap OpH.cells)[i]?=some u):∃s,a[i/10]?=some s/\s.cells[i%10]?=some u:=by
 have c:=(jV.1 h).1;rw[vg OpH.cells_len]at c;have b:i/10<a.length:=by omega
 refine⟨a[i/10],jt b,?_⟩;rw[<-Zj OpH.cells_len a (i/10) (i%10) b (JQ _ (by decide)),show i/10*10+i%10=i by omega];exact h
theorem open_ops{v:Value}{d:DataW H}{p:List MemPlace}{r:Reach}{R:Nat}(Y:Value.okWide prog w r R 24 v)(h:DataW.Trod enc prog w base (λ_=>true) held 24 v d p)(e:Rows.uptoBulk d<=1048576):
  ∃xs:List OpH,qe OpH.cells 10 w v xs/\(∀s∈xs,s.code.length<=1048576)/\xs.length<=1048576:=by
 obtain⟨N,T⟩:=h;obtain⟨a0,b,J,rfl⟩:=okWide_slice underlying24 Y;rcases open_slice underlying24 T with⟨P,o⟩|⟨a,len,S,m,n,D,Pl,A,hb,U,X,q,o,M⟩
 .simp[Value.cells]at P;obtain⟨rfl,rfl,rfl⟩:=P;exact⟨[],⟨none,0,rfl,jm _,by unfold maxLen;omega,λh=>absurd rfl h⟩,by simp,by simp⟩
 .simp[Value.cells]at A;obtain⟨rfl,rfl,rfl⟩:=A;simp only[JV]at q;subst q;simp only[Je]at o;obtain⟨rfl,rfl⟩:=o;have E:prog.cellsOf 40=10:=by kernel_rfl
  rw[E]at M;simp only[Rows.uptoBulk]at e;obtain⟨f,g⟩:∃f:Nat->OpH,∀i,i<b->(∀j,j<10->w.cell? ((a.add (i*10)).add j)=(f i).cells[j]?)/\(f i).code.length<=Rows.uptoBulk (D i):=by
   refine choose_lt (p:=λi (s:OpH)=>(∀j,j<10->w.cell? ((a.add (i*10)).add j)=s.cells[j]?)/\s.code.length<=Rows.uptoBulk (D i)) λi h=>?_
   obtain⟨V,hc,Q⟩:=M i (by omega);obtain⟨_,Z,c⟩:=World.cells?_some hc;obtain⟨s,rfl,G⟩:=xbk Q;exact⟨s,c,G⟩
  refine⟨(List.range b).map f,⟨some a,m,by simp,by simpa using U,X,λF=>?_⟩,?_,?_⟩
  .have y:0<b:=by
    rcases kS b with y|y
    .subst y;simp at F
    .exact y
   have O:a=⟨a.block,a.off,none⟩:=by
    obtain⟨c,_⟩:=g 0 y;have o:=c 0 (by omega);rw[Go.Deep.add_add]at o;exact Va2 (o.trans rfl)
   refine⟨a.block,a.off,by rw[<-O],λi u W=>?_⟩;obtain⟨s,C,k⟩:=vbk W;have B:i/10<b:=by have:=(jV.1 C).1;simpa using this
   have I:s=f (i/10):=by
    rw[jZ,kM B]at C;simpa using C.symm
   subst I;obtain⟨c,_⟩:=g (i/10) B;have K:=(c (i%10) (JQ _ (by decide))).trans k;rw[Go.Deep.add_add,show i/10*10+i%10=i by omega]at K;exact ybk O K
  .intro s C;obtain⟨i,z,rfl⟩:=jg.1 C;have L:=(g i (Ud.1 z)).2;have G:=xat (d:=D i) (l:=(List.range b).map D) (jg.2 ⟨i,z,rfl⟩);omega
  .have L:∀l:List Nat,l.length<=Rows.uptoBulkAll (l.map D):=by
    intro l;induction l with
    |nil=>simp
    |cons x r ih =>
     have G:1<=Rows.uptoBulk (D x):=by
      cases D x with
      |lit l=>cases l<;>simp[Rows.uptoBulk]
      |nil=>simp[Rows.uptoBulk]
      |ptr d=>simp[Rows.uptoBulk]
      |slice elems spare=>simp[Rows.uptoBulk]
      |agg parts=>simp[Rows.uptoBulk]
      |iface t d=>simp[Rows.uptoBulk]
      |map entries=>simp[Rows.uptoBulk]
      |held h=>simp[Rows.uptoBulk]
     simp only[ju,Rows.uptoBulkAll,jk];omega
   have:=L (List.range b);simp at this|-
   omega
theorem qau{P:Program}{w:World}{r:Reach}{base:Nat}{t:TypeId}{v:Value}{c:Array Field}(d:P.underlying t=some (.struct c))(h:Value.okWide P w r base t v):∃a,v=.agg a:=by
 unfold Value.okWide at h;rw[d]at h;obtain⟨a,b,_⟩:=h;exact⟨a,b⟩
theorem open_opts{v:Value}{d:DataW H}{p:List MemPlace}{r:Reach}{l:Nat}(y:Value.okWide prog w r l 23 v)(h:DataW.Trod enc prog w base (λ_=>true) held 23 v d p):
  ∃o:Op3,v=.agg #[OI o.width,OI o.chunks,OI o.mode]:=by
 obtain⟨j,g⟩:=h;obtain⟨b,rfl⟩:=qau underlying23 y;obtain⟨b⟩:=b;have B:(Value.agg ⟨b⟩).cells.toList=b:=rfl;rw[B]at g;obtain⟨x,n,_,_,q,c,a⟩:=KM underlying23 g;have s:b.length=3:=by rw[q];kernel_rfl
 match b,s with
 |[c0,c1,c2],_ =>
  match x,c with
  |[y0,y1,y2],_ =>
   have f:=a 0 _ rfl;have i:=a 1 _ rfl;have e:=a 2 _ rfl;simp only[U9,Ju,show prog.cellsOf 3=1 by kernel_rfl,UG,J4,kW,UQ]at f i e;obtain⟨m,t,_,_⟩:=UM underlying3 f;obtain⟨k,z,_,_⟩:=UM underlying3 i;obtain⟨u,A,_,_⟩:=UM underlying3 e;obtain rfl:=(Uo t).1;obtain rfl:=(Uo z).1;obtain rfl:=(Uo A).1;exact⟨⟨m,k,u⟩,rfl⟩
end
theorem qag{P:Program}{W:World}{name:String}{d:DataW Unit}:∀{l:List (String × DataW Unit)} {ps:List MemPlace},DataW.LaidVars P W l ps->(name,d)∈l ->
  ∃g t cs fuel p,P.globalNamed name=some g/\(P.globals[g]?).map (·.type)=some t/\W.var? P name=some cs/\DataW.trod (λ_=>()) P W 0 (λ_=>true) false fuel t cs.toList=some (d,p)
 |[],_,_,h=>by cases h
 |(n,d')::r,ps,⟨g,t,cs,fuel,p,q,h1,h2,h3,h4,h5,_⟩,h=>by
  rcases jp.1 h with e|h
  .cases e;exact⟨g,t,cs,fuel,p,h1,h2,h3,h4⟩
  .exact qag h5 h
theorem vbr:prog.globalNamed "internal/strconv.uint64pow10" = some 1:=by kernel_rfl
theorem Xbo:prog.globalNamed "kindred/seal.table" = some 4:=by kernel_rfl
theorem tabK_of{W:World}{l:List (String × DataW Unit)}(h:laidMet prog l W)(b:("internal/strconv.uint64pow10",Rows.laid_internal_strconv_uint64pow10)∈l):vi W:=by
 obtain⟨m,c,_⟩:=h;obtain⟨g,t,o,a,p,i,d,j,f⟩:=qag c b;obtain rfl:=Jv (vbr.symm.trans i);obtain rfl:=Jv ((show(prog.globals[1]?).map (·.type)=some 377 by kernel_rfl).symm.trans d);unfold vi Lib.TabIs;rw[j];have:=Lib.cells_of_tab (n:=20) (k:=.u64) (zs:=Lib.pow10Tab) (e:=89) underlying377 underlying89 (by kernel_rfl) (by kernel_rfl) f;rw[<-this]
theorem crc_of{W:World}{l:List (String × DataW Unit)}(h:laidMet prog l W)(d:("kindred/seal.table",Rows.laid_kindred_seal_table)∈l):zg W:=by
 obtain⟨u,f,_⟩:=h;obtain⟨g,t,v,a,p,m,j,o,b⟩:=qag f d;obtain rfl:=Jv (Xbo.symm.trans m);obtain rfl:=Jv ((show(prog.globals[4]?).map (·.type)=some 401 by kernel_rfl).symm.trans j);have s:(Rows.laid_kindred_seal_table:DataW Unit)=Lib.tabData .u32 (Vx.toList.map Int.ofNat):=by kernel_rfl
 rw[s]at b;have q:=Lib.cells_of_tab (n:=16) (k:=.u32) (zs:=Vx.toList.map Int.ofNat) (e:=272) underlying401 underlying272 (by kernel_rfl) (by kernel_rfl) b;intro i c;have r:=World.var?_cell Xbo o i;rw[r,<-J3,q,jZ,jZ,J3,U3 (show i<Vx.size from c)];simp[Array.getD,show i<Vx.size from c]
theorem cut_of{W:World}(h:W.ShapedOpen prog):QI W :=
 Go.Proofs.cell_of_shapedOpen_int (zero:=#[OI 0]) (t:=3) h (of_decide_eq_true (by kernel_rfl)) (by kernel_rfl) rfl (by kernel_rfl) (by kernel_rfl) underlying3
theorem trod_again{H:Type}{enc:TypeId × Value->H}{W j:World}{g:List TypeId}{c:List Value}{a:List (DataW H)}{b:List MemPlace}
  (h:DataW.TrodAll enc prog W 0 (λ_=>true) true g c a b) (e:∀t∈g,t<prog.types.size) (s:Below W.heap.size W j) (hlt:∀p∈b,p.block<W.heap.size) (i:Nat->Bool) (f:∀p∈b,i p.block=true) :
  DataW.TrodAll enc prog j 0 i true g c a b:=by
 have r:=DataW.TrodAll.respare (spare':=i) (kids_rows (P:=prog) (by kernel_rfl) (by kernel_rfl)) (slices_full_of prog (by kernel_rfl)) e h f;have l:∀p∈b,W.sameAt j p:=λp m=>s.same (hlt p m)
 clear h e hlt f;induction g generalizing c a b with
 |nil =>
  cases c<;>cases a<;>simp_all [DataW.TrodAll]
 |cons t g ih =>
  cases c with
  |nil=>cases a<;>simp_all [DataW.TrodAll]
  |cons v c =>
   cases a with
   |nil=>simp_all [DataW.TrodAll]
   |cons d a =>
    obtain⟨p,q,⟨n,u⟩,o,rfl⟩:=r;exact⟨p,q,⟨n,DataW.trod_carry n _ _ _ u (λx k=>l x (jx _ k))⟩,ih o (λx k=>l x (je _ k)),rfl⟩
end
end Go.Proofs.YtekkihmmclencaaGreatDoor
