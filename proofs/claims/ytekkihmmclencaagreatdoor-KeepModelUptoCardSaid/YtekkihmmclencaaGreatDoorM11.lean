import Derived.Test.YtekkihmmclencaaGreatDoorM05
import Derived.Test.YtekkihmmclencaaGreatDoorM10
namespace Go.Proofs.YtekkihmmclencaaGreatDoor
set_option linter.all false
set_option maxRecDepth 100000
set_option maxHeartbeats 40000000
open Tryz
open Go Go.RowKit Go.Sort
variable(U w:World)(q c:Nat){W V:World}{n b k:Nat}{v:Value}{F:va}{s:Bs}{x:Int}{P:Program}{Q:Exit->Act->World->Prop}{l:List En}{p:List Pr}
def VG(h:Hd):List Nat:=[h.width.toNat,h.table.toNat,h.bits.toNat,h.lo.toNat,h.hi.toNat,h.count.toNat]
theorem xa5(h:Hd):Yk h h.count.toNat=(VG h).flatMap qb:=by
 simp[Yk,VG,num,jE]
theorem Zw(h:n<=1152921504606846976):(qb n).length<=10:=by
 refine zu _ ?_;have:(2:Nat)^64=18446744073709551616:=by decide
 omega
def Vae(ns:List Nat)(k:Nat):List Value:=(ns.take k).map (λn:Nat=>Value.int .i64 (n:Int))++List.replicate (6-k) (.int .i64 0)
theorem va5{ns:List Nat}{k:Nat}(hk:k<ns.length)(h6:ns.length=6):(Vae ns k).set k (.int .i64 ((ns[k]:Nat):Int))=Vae ns (k+1):=by
 unfold Vae;have hl:((ns.take k).map (λn:Nat=>Value.int .i64 (n:Int))).length=k:=by rw[jz,jN];omega
 rw[UZ,jd (by omega),hl,Uk,jS hk,jr,jE]
 congr 1
 rw[show 6-k=(6-(k+1))+1 by omega,kJ,ji];rfl
theorem qa5{a:List Nat}(c:a.length=6)(b:k<=6):(Vae a k).length=6:=by
 unfold Vae;rw[ja,jz,jN,List.length_replicate];omega
theorem Za5{a g c d e f s x:Value}{T U:TypeId}(h:St V W ((n,Obj.cells #[a,g,c,d,e,f] T)::(b,Obj.cells #[s,x,.bool false] U)::F)):
  OV W n 0 a/\OV W n 1 g/\OV W n 2 c/\OV W n 3 d/\OV W n 4 e/\OV W n 5 f/\OV W b 2 (.bool false) :=
 ⟨h.cellH 0,h.cellH 1,h.cellH 2,h.cellH 3,h.cellH 4,h.cellH 5,h.tail.cellH 2⟩
theorem YaU{j:Nat × Obj}{a i c d e f s x z v t y u w:Value}{T U g:TypeId}(h:St V W ((n,Obj.cells #[a,i,c,d,e,f] T)::(b,Obj.cells #[s,x,.bool false] U)::j::(k,Obj.cells #[z,v,t,y,u,w] g)::F))(p o m l q r:Value):
  St V ((((((W.setCell ⟨k,0,none⟩ p).setCell ⟨k,1,none⟩ o).setCell ⟨k,2,none⟩ m).setCell ⟨k,3,none⟩ l).setCell ⟨k,4,none⟩ q).setCell ⟨k,5,none⟩ r) ((n,Obj.cells #[a,i,c,d,e,f] T)::(b,Obj.cells #[s,x,.bool false] U)::j::(k,Obj.cells #[p,o,m,l,q,r] g)::F):=by
 have A:St V W ((k,Obj.cells #[z,v,t,y,u,w] g)::(n,Obj.cells #[a,i,c,d,e,f] T)::(b,Obj.cells #[s,x,.bool false] U)::j::F):=h.perm (Jd (l₁:=[_,_,_])).symm;exact(A.set6 p o m l q r).perm (Jd (l₁:=[_,_,_]))
theorem Qae{h:Hd}{c:Nat × Obj}(d:St V W ((n,Obj.cells #[OI h.width,OI h.table,OI h.bits,OI h.lo,OI h.hi,OI h.count] 212)::rdF (b+1) s k::c::[(b,Obj.cells #[OI 0,OI 0,OI 0,OI 0,OI 0,OI 0] 212)])):
  (W.cell? ⟨b,0,none⟩=some (OI 0)/\W.frozen? ⟨b,0,none⟩=false/\W.cell? ⟨b,1,none⟩=some (OI 0)/\W.frozen? ⟨b,1,none⟩=false/\W.cell? ⟨b,2,none⟩=some (OI 0)/\W.frozen? ⟨b,2,none⟩=false/\W.cell? ⟨b,3,none⟩=some (OI 0)/\W.frozen? ⟨b,3,none⟩=false/\W.cell? ⟨b,4,none⟩=some (OI 0)/\W.frozen? ⟨b,4,none⟩=false/\W.cell? ⟨b,5,none⟩=some (OI 0)/\W.frozen? ⟨b,5,none⟩=false)/\St V ((((((W.setCell ⟨b,0,none⟩ (OI h.width)).setCell ⟨b,1,none⟩ (OI h.table)).setCell ⟨b,2,none⟩ (OI h.bits)).setCell ⟨b,3,none⟩ (OI h.lo)).setCell ⟨b,4,none⟩ (OI h.hi)).setCell ⟨b,5,none⟩ (OI h.count)) ((n,Obj.cells #[OI h.width,OI h.table,OI h.bits,OI h.lo,OI h.hi,OI h.count] 212)::rdF (b+1) s k::c::[(b,Obj.cells #[OI h.width,OI h.table,OI h.bits,OI h.lo,OI h.hi,OI h.count] 212)]):=by
 unfold rdF at d|-
 have a:=d.tail.tail.tail;exact⟨⟨a.cellH 0,a.freeH 0,a.cellH 1,a.freeH 1,a.cellH 2,a.freeH 2,a.cellH 3,a.freeH 3,a.cellH 4,a.freeH 4,a.cellH 5,a.freeH 5⟩,YaU d (OI h.width) (OI h.table) (OI h.bits) (OI h.lo) (OI h.hi) (OI h.count)⟩
theorem Qai{h:Hd}(a:St V W ((n,Obj.cells #[OI h.width,OI h.table,OI h.bits,OI h.lo,OI h.hi,OI h.count] 212)::rdF (b+1) s k::F)):
  W.cell? ⟨n,0,none⟩=some (OI h.width)/\W.cell? ⟨n,1,none⟩=some (OI h.table)/\W.cell? ⟨n,2,none⟩=some (OI h.bits)/\W.cell? ⟨n,3,none⟩=some (OI h.lo)/\W.cell? ⟨n,4,none⟩=some (OI h.hi)/\W.cell? ⟨n,5,none⟩=some (OI h.count)/\W.cell? ⟨b+1,2,none⟩=some (.bool false):=by
 unfold rdF at a;exact Za5 a
def ZP(h:Hd)(w:World)(e:Ending)(w':World):Prop:=e=.returned (.tuple #[.agg (hdV h).toArray,.bool true])/\Below w.heap.size w w'
theorem ZP.mk{h:Hd}(a:v=.tuple #[.agg (hdV h).toArray,.bool true])(b:Below W.heap.size W V):ZP h W (.returned v) V:=⟨by rw[a],b⟩
theorem VaK(h:Hd)(hz:Zm h=0)(h0:0<=h.count)(h1:h.count<=2097152):
  Calls prog 259 #[qa (Yk h h.count.toNat)] w (ZP h w):=by
 obtain⟨p1,p2,p3,p4,p5,p6,p7,p8,p9,aa⟩:=qE hz;have c:∀n∈VG h,n<=1152921504606846976:=by
  intro n N;simp only[VG,jp,JF,UF]at N;rcases N with rfl|rfl|rfl|rfl|rfl|rfl<;>omega
 have h6:(VG h).length=6:=rfl;obtain⟨b,e⟩:=NE (Yk h h.count.toNat);have m:=xa5 h;rw[e]at m|-
 have ad:b.length<=60:=by
  rw[m];simp only[VG,jB,Jk,jJ,ja];have a1:=Zw (c h.width.toNat (by simp[VG]));have a2:=Zw (c h.table.toNat (by simp[VG]));have a3:=Zw (c h.bits.toNat (by simp[VG]));have a4:=Zw (c h.lo.toNat (by simp[VG]));have a5:=Zw (c h.hi.toNat (by simp[VG]));have a6:=Zw (c h.count.toNat (by simp[VG]));omega
 obtain⟨u,F⟩:=NE (VG h);rw[F]at c h6 m;obtain⟨a0,V,O⟩:=Hi3 F m c;have s:=(((St.refl w).alloc (.cells #[OI 0,OI 0,OI 0,OI 0,OI 0,OI 0] 212)).alloc (.cells #[qa b,OI ((0:Nat):Int),.bool false] 387)).alloc (.cells #[OI 0,OI 0,OI 0,OI 0,OI 0,OI 0] 388);simp only[jF]at s;obtain⟨C,q⟩:=EN w.heap.size;rw[<-q]at s;obtain⟨H,HC⟩:=Hi2 s q;clear s q F m c e;unfold qa at *;go_enter func259,ntmps259;go_wp2_with fail;rw[<-HC.o];refine H.o.nameC ?_;clear H;intro w1 M;go_loopw [11] (λiv wr=>∃(k p:Nat) (D:Array Value),k<=6/\iv=OI (k:Int)/\D.toList=Vae u k/\b.drop p=(u.drop k).flatMap qb/\p<=b.length/\St w wr (rdF (C+1) b p::(C+1+1,.cells D 388)::[(C,.cells #[OI 0,OI 0,OI 0,OI 0,OI 0,OI 0] 212)])) (λiv _=>6-(intOf iv).toNat)
 case atStart=>exact⟨0,0,_,by omega,rfl,rfl,by rw[Ju,Ju];exact V.o,jX _,M.swap⟩
 case round =>
  clear M;obtain⟨k,p,D,hk,rfl,i,y,hp,r⟩:=hrel;by_cases hlt:k<6
  .have A:k<u.length:=by omega
   have ag:D.size=6:=by rw[<-Ux,i,qa5 h6 hk]
   rw[jR A,jB]at y;have J:=O.o u[k] (Jc A);have j:=va5 A h6;obtain⟨n,N⟩:=NE (u[k]);rw[N]at y J j;have HN:=Hi (Z3 w wr (C+1) b p n 1152921504606846976 _ _ (by omega) hp y (by omega) (by omega) r);obtain⟨d1,_,l1⟩:=Zs hp y;have HX:=Hi (jy d1 l1);obtain⟨L,X⟩:=Hi2 j i;obtain⟨ab,ac⟩:(0:Int)<=(k:Int)/\(k:Int)<6:=by omega
   clear y J j i d1 l1 r N;unfold YG za at HN;obtain⟨x,hx⟩:∃x,D[k]?=some x:=⟨_,U3 (by omega)⟩;have a8:=Hi hx;clear hx;go_wp2_with (go_at_call 305;refine HN.o.mono ?_;rintro e' w2 ⟨rfl,t⟩;have q0:OV w2 (C+1+1) k x:=(t.tail.cellH k).trans a8.o;have q1:OZ w2 (C+1+1) k:=t.tail.freeH k;have S:=Hi t;clear t);refine⟨⟨k+1,p+(qb n).length,D.setIfInBounds k (OI (n:Int)),by omega,by go_num,?_,HX.o.1,HX.o.2,((S.o.swap).set k _).swap⟩,by simp[intOf];omega⟩;rw[J5,X.o];exact L.o
  .obtain rfl:k=6:=by omega
   have R:u.drop 6=[]:=Ut (by omega);rw[R]at y;have a7:p=b.length:=by
    have:=jT List.length y;rw[jQ]at this;simp only[Jk,jA]at this;omega
   have I:D=#[OI h.width,OI h.table,OI h.bits,OI h.lo,OI h.hi,OI h.count]:=by
    apply ky.1;rw[i,<-a0.o];simp only[Vae,VG,UG,List.take_nil,ju,Jt,Uk,kK,jJ];rw[JY (by omega),JY (by omega),JY (by omega),JY (by omega),JY (by omega),JY (by omega)]
   subst I;obtain⟨k0,k1,Q,T,k4,U⟩:=r.tail.k6 0 1 2 3 4 5;have HS:=Hi r;clear r i y;go_upto_region 9 with(fail)
   subst a7;have a:=HS.o.alloc (.cells #[OI h.width,OI h.table,OI h.bits,OI h.lo,OI h.hi,OI h.count] 212);obtain⟨f,K⟩:=EN wr.heap.size;rw[<-K]at a|-
   clear K k0 k1 Q T k4 U HS;refine a.nameC ?_;clear a;intro d a;obtain⟨k0,k1,Q,T,k4,U⟩:=a.k6 0 1 2 3 4 5;have k6:=a.tail.cellH 2;have B:=Hi (qaG d.drew (C+1) b b.length (by omega) (jm _) (a.tail.drew.cellH 0) (a.tail.drew.cellH 1) (a.tail.drew.cellH 2));rw[show decide (b.length<b.length)=false by simp]at B;have G:=Hi (λW=>Zay W h hz);unfold za at B;unfold hdV at G;have Y:=Hi (λ(W:World) (e:Below d.heap.size d W)=>Qai (a.callB e));have O:=Hi (λ(W:World) (e:Below d.heap.size d W)=>(Qae (a.callB e)).1);have HK:=Hi (λ(W:World) (e:Below d.heap.size d W)=>Qai (Qae (a.callB e)).2);have HF:=Hi (λ(W:World) (e:Below d.heap.size d W)=>(Qae (a.callB e)).2);have P:=Hi (Y.o _ (jU _ _).drew);have HD:=Hi ((jU d.heap.size d).drew);have Z:Hy (d.drew.heap.size=d.heap.size):=Hi rfl;have a9:h.count<=2097152:=h1;clear a;go_region_held3 (λE=>E.cell? ⟨f,0,none⟩=some (.int .i64 h.width)/\E.cell? ⟨f,1,none⟩=some (.int .i64 h.table)/\E.cell? ⟨f,2,none⟩=some (.int .i64 h.bits)/\E.cell? ⟨f,3,none⟩=some (.int .i64 h.lo)/\E.cell? ⟨f,4,none⟩=some (.int .i64 h.hi)/\E.cell? ⟨f,5,none⟩=some (.int .i64 h.count)/\E.cell? ⟨C+1,2,none⟩=some (.bool false)) (first|(with_reducible exact HK.o _ g.o)|(with_reducible exact Y.o _ g.o)|(with_reducible exact Y.o _ l.o)|(with_reducible exact P.o)|(go_keep;done)) (first
    |(go_at_call 306;refine B.o.mono ?_;rintro e' af ⟨rfl,e⟩;have l:=Hi (HD.o.trans (Z.o▸e));clear e)
    |(go_at_call 203;refine(G.o _).mono ?_;rintro e' ae ⟨rfl,e⟩;have g:=Hi (l.o.trans (e.mono l.o.size));clear e;obtain⟨m0,n0,m1,n1,m2,n2,m3,n3,m4,n4,m5,n5⟩:=O.o _ g.o))
   clear m0 n0 m1 n1 m2 n2 m3 n3 m4 n4 m5 n5 k0 k1 Q T k4 U k6;refine(HF.o _ g.o).nameT ?_;intro ah z;go_wp2_with fail;have q:=z.tail.tail.tail;obtain⟨q0,q1,q2,q3,q4,q5⟩:=q.k6 0 1 2 3 4 5;refine jP (v:=.tuple #[.agg (hdV h).toArray,.bool true]) ?_ rfl (ZP.mk rfl z.below);simp[results,results259,go_sem,hdV,q0,q1,q2,q3,q4,q5]
theorem zbm(l:Bs)(g:OV w q 0 (qa l))(d:OZ w q 0)(h:c<=l.length)(f:l.length<=4611686018427387904):
  Calls prog 214 #[OI (c:Int),OQ q] w λe a=>e=.returned (qa (l.take c))/\a=w.setCell ⟨q,0,none⟩ (qa (l.drop c)):=by
 have b:=zb l;unfold qa at *;go_enter func214,ntmps214;go_wp2_with fail;rw[xa3,xav];go_ret;exact⟨rfl,rfl⟩
theorem zaj(l:Bs)(M:va)(a:St U w ((q,.cells #[qa l] 9)::M))(f:c<=l.length)(d:l.length<=4611686018427387904):
  Calls prog 214 #[OI (c:Int),OQ q] w λe b=>e=.returned (qa (l.take c))/\St U b ((q,.cells #[qa (l.drop c)] 9)::M) :=
 (zbm w q c l (a.cellH 0) (a.freeH 0) f d).mono (by rintro e b ⟨rfl,rfl⟩;exact⟨rfl,a.set 0 _⟩)
def ZT(at':Nat):QaP->Value
 |.ok k p n=>.tuple #[.int .i64 (k:Int),qa p,.int .i64 ((at'+n:Nat):Int),.int .i64 0]
 |.bad e=>.tuple #[.int .i64 0,qa [],.int .i64 0,.int .i64 e]
def Yu(b:Bs)(at':Nat)(w:World)(e:Ending)(w':World):Prop:=e=.returned (ZT at' (yg (b.drop at')))/\Below w.heap.size w w'
theorem Yu.bad(h:yg (s.drop n)=.bad x)(a:Below W.heap.size W V):Yu s n W (.returned (.tuple #[OI 0,.string ⟨#[]⟩,OI 0,OI x])) V:=⟨by rw[h];rfl,a⟩
theorem Qam(b:Bs)(d:Nat)(hb:b.length<=4611686018427387904)(ha:d<=b.length)(ht:zg w):
  Calls prog 149 #[qa b,OI (d:Int)] w (Yu b d w):=by
 have av:=zb b;have HS:=Hi (λ(W:World) (l:Bs) (hl:l.length<=4611686018427387904) (hb:Below w.heap.size w W)=>vay W l hl (ht.below hb (jm _)));clear ht;obtain⟨L,hL⟩:=NE (b.drop d);have aa:L.length=b.length-d:=by rw[<-hL,jQ]
 have HL:=Hi hL;have ad:=zb L;have a6:Hy (yg (b.drop d)=yg L):=Hi (by rw[hL]);have a8:(ByteArray.mk b.toArray).extract d b.length=ByteArray.mk L.toArray:=by rw[xav,hL]
 clear hL;unfold qa at *;have g0:decide ((d:Int)<0)=false:=by simp
 have g1:decide (b.length<d)=false:=by simp;omega
 go_enter func149,ntmps149;go_upto_region 5 with(fail)
 refine((St.refl w).alloc _).nameC ?_;obtain⟨B,hB⟩:=EN w.heap.size;rw[<-hB];intro w1 hS;have HB:=Hi hB;clear hB a8;have ab:=hS.cellH 0;have hc:OV w1 B 0 (OT L):=ab;have u:=Hi (show St w w1 ((B,.cells #[qa L] 9)::[])from hS);have a:=Hi (λ(x:Int) (w':World) (h:yg L=.bad x) (hb:Below w.heap.size w w')=>(show Yu b d w (.returned (.tuple #[OI 0,.string ⟨#[]⟩,OI 0,OI x])) w' from Yu.bad (a6.o.trans h) hb));clear hS ab;by_cases h0:L=[]
 .have g:Hy (yg L=.bad 31):=Hi (by rw[h0];rfl);clear ad HL;subst h0;go_wp2_with fail;exact jP (v:=.tuple #[OI 0,.string ⟨#[]⟩,OI 0,OI 31]) (by simp[results,results149,go_sem]) rfl (a.o _ _ g.o u.o.below)
 .have aB:(L==[])=false:=by simpa using h0
  obtain⟨c,S⟩:=NE (L.getD 0 0);have O:0<L.length:=JI.2 h0;have hX:∀h,(ByteArray.mk L.toArray)[0]'h=c:=λh=>by rw[<-S];simp[JJ,O];rfl
  have al:(c.toNat:Int)<256:=by have:=c.toNat_lt;omega
  obtain⟨az,aw⟩:(L.length:Int)<=4611686018427387904/\(0:Int)<(L.length:Int):=by omega
  obtain⟨ag,D⟩:=Hi2 aa h0;have a0:Hy (L.headD 0=c):=Hi (by rw[<-S];cases L<;>rfl);clear aa S h0 O;go_upto_region 7 with(fail)
  by_cases q1:(c.toNat:Int)=167
  rotate_left
  .have g:Hy (yg L=.bad 33):=Hi (by unfold yg;rw[jd D.o,jh (by rw[a0.o];intro e;rw[e]at q1;exact q1 rfl)]);go_wp2_with fail;exact jP (v:=.tuple #[OI 0,.string ⟨#[]⟩,OI 0,OI 33]) (by simp[results,results149,go_sem]) rfl (a.o _ _ g.o u.o.below)
  .have z:=Hi (show ¬ L.headD 0≠0xa7 by rw[a0.o];intro h;exact h (kP.1 (by have:=Int.ofNat.inj q1;simpa using this)));by_cases q2:(L.length:Int)<10
   .have g:Hy (yg L=.bad 31):=Hi (by unfold yg;rw[jd D.o,jd z.o,jh (by omega)]);go_wp2_with fail;exact jP (v:=.tuple #[OI 0,.string ⟨#[]⟩,OI 0,OI 31]) (by simp[results,results149,go_sem]) rfl (a.o _ _ g.o u.o.below)
   .have Z:=Hi (show ¬ L.length<10 by omega);obtain⟨H,hH⟩:=NE (L.take 6);have af:H.length=6:=by rw[<-hH,jN];omega
    have U:=Hi (zaj w w1 B 6 L [] u.o (by omega) (by omega));rw[hH]at U;have r:=Hi hH;clear hH;go_upto_region 12 with(go_at_call 214;refine U.o.mono ?_;rintro e w2 ⟨rfl,a7⟩)
    clear hc;have j:=Hi (zaj w w2 B 4 (L.drop 6) [] a7 (by rw[jQ];omega) (by rw[jQ];omega));obtain⟨X1,Q⟩:=NE ((L.drop 6).take 4);rw[Q,U4]at j;have V:=Hi Q;clear a7 Q hX;by_cases e1:X1=Vl H
    rotate_left
    .have g:Hy (yg L=.bad 34):=Hi (by unfold yg;rw[jd D.o,jd z.o,jd Z.o,V.o,r.o,jh e1]);have aD:(X1==Vl H)=false:=by simpa using e1
     unfold qa at j;go_wp2_with (first|(go_at_call 214;refine j.o.mono ?_;rintro e w3 ⟨rfl,i⟩)|(go_at_call 194;refine(HS.o _ _ (by omega) i.below).mono ?_;try unfold qa;rintro e w4 ⟨rfl,K⟩));exact jP (v:=.tuple #[OI 0,.string ⟨#[]⟩,OI 0,OI 34]) (by simp[results,results149,go_sem]) rfl (a.o _ _ g.o (i.callB K).below)
    .have a9:=Hi (show ¬ (L.drop 6).take 4≠Vl (L.take 6) by rw[V.o,r.o];simpa using e1);subst e1;unfold qa at j;go_upto_region 14 with(first|(go_at_call 214;refine j.o.mono ?_;rintro e w3 ⟨rfl,i⟩)|(go_at_call 194;refine(HS.o _ _ (by omega) i.below).mono ?_;try unfold qa;rintro e w4 ⟨rfl,K⟩))
     have G:=i.callB K;clear i K U j V;obtain⟨k,hk⟩:=NE (H.getD 1 0);have ac:∀h,(ByteArray.mk H.toArray)[1]'h=k:=λh=>by rw[<-hk];simp[JJ,af];rfl
     have am:(k.toNat:Int)<256:=by have:=k.toNat_lt;omega
     have ai:=zb H;have M:(H.length:Int)=6:=by omega
     obtain⟨n,hn⟩:=NE (Vq ((H.drop 2).take 4) 0);have a1:n<4294967296:=by
      rw[<-hn];refine JG (qay _) ?_;exact jI (JS (by decide) (show _<=4 by rw[jN];omega)) (by decide)
     have I:=Hi (ZaT w4 H 2 (by omega) (by omega));rw[hn]at I;have HK:Hy (L.getD 1 0=k):=Hi (by rw[<-hk,<-r.o];simp[JJ,List.getElem?_take]);have HN:Hy (Vq ((L.drop 2).take 4) 0=n):=Hi (by rw[<-hn,<-r.o,List.drop_take,List.take_take];rfl);obtain⟨p,E⟩:=NE (L.drop (6+4));rw[E]at G;have aq:(p.length:Int)=L.length-10:=by rw[<-E,jQ];omega
     obtain⟨ae,F⟩:=Hi2 E G;have a5:=G.cellH 0;have c2:OV w4 B 0 (OT p):=a5;have ax:=zb p;clear hk hn E G a5;unfold qa at I;obtain⟨s,X⟩:∃s:Int,(n:Int)=s:=⟨_,rfl⟩;rw[X]at I;obtain⟨ay,aC⟩:(0:Int)<=s/\s<4294967296:=by omega
     have f:=Hi X;clear X;go_upto_region 16 with(go_at_call 215;refine MQ I.o ?_)
     have q:=Hi (show yg L=if k.toNat=0 then .bad 35 else if 65536<n then .bad 36 else if L.length-10<n+4 then .bad 31
       else if(L.drop (10+n)).take 4≠Vl (L.take 6++(L.drop 10).take n)then .bad 34 else .ok k.toNat ((L.drop 10).take n) (n+14) by
      unfold yg;rw[jd D.o,jd z.o,jd Z.o,jd a9.o,HK.o,HN.o])
     clear ai M ac a1;by_cases q3:(k.toNat:Int)=0
     .have g:Hy (yg L=.bad 35):=Hi (by rw[q.o,jh (by omega)]);go_wp2_with fail;exact jP (v:=.tuple #[OI 0,.string ⟨#[]⟩,OI 0,OI 35]) (by simp[results,results149,go_sem]) rfl (a.o _ _ g.o F.o.below)
     .by_cases q4:(65536:Int)<s
      .have g:Hy (yg L=.bad 36):=Hi (by rw[q.o,jd (by omega),jh (by have:=f.o;omega)]);go_wp2_with fail;exact jP (v:=.tuple #[OI 0,.string ⟨#[]⟩,OI 0,OI 36]) (by simp[results,results149,go_sem]) rfl (a.o _ _ g.o F.o.below)
      .by_cases q5:(p.length:Int)<s+4
       .have g:Hy (yg L=.bad 31):=Hi (by rw[q.o,jd (by omega),jd (by have:=f.o;omega),jh (by have:=f.o;omega)]);go_wp2_with fail;exact jP (v:=.tuple #[OI 0,.string ⟨#[]⟩,OI 0,OI 31]) (by simp[results,results149,go_sem]) rfl (a.o _ _ g.o F.o.below)
       .have ak:n<=p.length:=by have:=f.o;omega
        have C:=Hi (zaj w w4 B n p [] F.o ak (by omega));obtain⟨P,hP⟩:=NE (p.take n);obtain⟨R,y⟩:=NE (p.drop n);rw[hP,y,f.o]at C;have au:(P.length:Int)=s:=by have:=f.o;rw[<-hP,jN];omega
        have ao:(R.length:Int)=p.length-s:=by have:=f.o;rw[<-y,jQ];omega
        have a4:=Hi (jy hP y);unfold qa at C;clear hP y;go_upto_region 23 with(go_at_call 214;refine C.o.mono ?_;rintro e w5 ⟨rfl,a3⟩)
        have A:=Hi (zaj w w5 B 4 R [] a3 (by omega) (by omega));obtain⟨X2,T⟩:=NE (R.take 4);obtain⟨L4,t⟩:=NE (R.drop 4);rw[T,t]at A;have an:(L4.length:Int)=R.length-4:=by rw[<-t,jQ];omega
        have ah:=Hi (jy T t);have ap:=yh H P;have M:(H.length:Int)=6:=by omega
        have Hs:=zb H;have Ps:=zb P;clear c2 T t a3;unfold qa at A;have N:=Hi (show yg L=if X2≠Vl (H++P)then .bad 34 else .ok k.toNat P (n+14) by
         have e5:L.drop 10=p:=ae.o;rw[q.o,jd (by omega),jd (by have:=f.o;omega),jd (by have:=f.o;omega),<-U4,e5,a4.o.1,a4.o.2,ah.o.1,r.o])
        clear q a9 z Z C;by_cases e2:X2=Vl (H++P)
        rotate_left
        .have g:Hy (yg L=.bad 34):=Hi (by rw[N.o,jh e2]);have ar:(X2==Vl (H++P))=false:=by simpa using e2
         go_wp2_with (first|(go_at_call 214;refine A.o.mono ?_;rintro e w6 ⟨rfl,m⟩)|(go_at_call 194;refine(HS.o _ (H++P) (by rw[ja];omega) m.below).mono ?_;rintro e w7 ⟨rfl,J⟩));exact jP (v:=.tuple #[OI 0,.string ⟨#[]⟩,OI 0,OI 34]) (by simp[results,results149,go_sem]) rfl (a.o _ _ g.o (m.callB J).below)
        .have g:Hy (yg L=.ok k.toNat P (n+14)):=Hi (by rw[N.o,jd (by simpa using e2)]);subst e2;go_upto_region 25 with(first|(go_at_call 214;refine A.o.mono ?_;rintro e w6 ⟨rfl,m⟩)|(go_at_call 194;refine(HS.o _ (H++P) (by rw[ja];omega) m.below).mono ?_;rintro e w7 ⟨rfl,J⟩))
         have Y:=m.callB J;have a2:=Y.cellH 0;have c7:OV w7 B 0 (OT L4):=a2;have aA:=zb L4;have aj:=Hi Y;clear m J Y a2;go_quiet (fail);go_wp2_with fail;refine jP (v:=.tuple #[OI (k.toNat:Int),OT P,OI ((b.length:Int)-((L.length:Int)-10-s-4)),OI 0]) (by simp[results,results149,go_sem]) rfl ⟨?_,yj aj.o.below _⟩;rw[a6.o,g.o];have e9:((b.length:Int)-((L.length:Int)-10-s-4))=((d+(n+14):Nat):Int):=by have:=f.o;have:=ag.o;omega
         rw[e9];rfl
def frV(x:Nat × Bs × Nat):List Value:=[.int .i64 (x.1:Int),qa x.2.1,.int .i64 (x.2.2:Int)]
theorem ZaG(x:Nat × Bs × Nat):(frV x).length=3:=rfl
theorem Qbe(x:Nat × Bs × Nat):∀u∈frV x,u.oneCell'=true:=by
 intro u a;simp only[frV,qa,jp,JF,UF]at a;rcases a with rfl|rfl|rfl<;>rfl
theorem XaU:∃i,prog.info? 233=some i/\∃z,i.zero=some z/\i.size=3/\z.cells.size=3/\∃by_,i.bytes=by_/\by_<=128:=by
 have h:(prog.info? 233).map (λi=>(i.zero.map (λz=>z.cells.size),i.size,decide (i.bytes<=128)))=some (some 3,3,true):=by kernel_rfl
 obtain⟨i,e,b⟩:=jL.1 h;simp only[Je,jL,jG]at b;obtain⟨⟨z,f,a⟩,c,d⟩:=b;exact⟨i,e,z,f,c,a,_,rfl,d⟩
theorem VaU(h:yg s=.bad x):x≠0:=by
 unfold yg at h
 repeat' split at h
 all_goals first|(injection h with h;rw[<-h];decide)|cases h
def yaj(L:List (Nat × Bs × Nat) × Nat)(w:World)(e:Ending)(w':World):Prop :=
 ∃v F,e=.returned (.tuple #[v,.int .i64 (L.2:Int)])/\Rw 233 3 v L.1.length (L.1.flatMap frV) F/\St w w' F
theorem Ya5(b:Bs)(hb:b.length<=1000000000)(P:zg w):Calls prog 258 #[qa b] w (yaj (qm (b.length+1) b 0) w):=by
 have S:=Hi P;have J:=Hi (St.refl w);obtain⟨V,Z,z,U,O,K,m,H,A⟩:=XaU;obtain⟨L,G⟩:=NE (qm (b.length+1) b 0);rw[G];have Y:=Hi G;clear P G;go_enter func258,ntmps258;go_wp2_with fail;go_loopw [4,5] (λlv N wr=>∃(a:List (Nat × Bs × Nat)) (p c:Nat) (F:va),N=OI (p:Int)/\p<=b.length/\b.length-p<c/\a.length<=p/\L=(a++(qm c (b.drop p) p).1,(qm c (b.drop p) p).2)/\Rw 233 3 lv a.length (a.flatMap frV) F/\St w wr F) (λ_ N _=>b.length-(intOf N).toNat)
 case atStart=>exact⟨[],0,b.length+1,[],rfl,jX _,by omega,jX _,by rw[Ju,Y.o];rfl,Rw.nil _ _,J.o⟩
 case round =>
  obtain⟨a,p,c,F,rfl,W,a0,R,g,y,t⟩:=hrel;obtain⟨f,rfl⟩:∃f,c=f+1:=⟨c-1,by omega⟩;have l:=Qam wr b p (by omega) W (S.o.below t.below (jm _));unfold Yu at l;cases hpr:yg (b.drop p)with
  |bad x =>
   rw[hpr]at l;have hx:=VaU hpr;have e:L=(a,p):=by
    rw[g];unfold qm;rw[hpr];simp
   obtain⟨u,i,v,M⟩:=Hi4 l e y t;simp only[ZT]at u;clear l hpr e g y t;go_wp2_with (go_at_call 149;refine u.o.mono ?_;rintro T Q ⟨rfl,d⟩;have j:=Hi (M.o.callB d);clear d);go_ret2;have B:=i.o;subst B;exact⟨_,F,rfl,v.o,j.o⟩
  |ok k q n =>
   rw[hpr]at l;obtain⟨n1,n2,n3,k1,k2,q1⟩:=Vao hpr;rw[jQ]at n2;have e:L=(a++[(k,q,p)]++(qm f (b.drop (p+n)) (p+n)).1,(qm f (b.drop (p+n)) (p+n)).2):=by
    rw[g]
    conv=>lhs;unfold qm
    rw[hpr];simp[U4]
   obtain⟨u,i,v,M⟩:=Hi4 l e y t;simp only[ZT,qa]at u;have h:(a.length+1)*m<=140737488355328:=jI (Jg (show a.length+1<=1000000001 by omega) A) (by decide);have D:a.length+1<=maxLen:=by unfold maxLen;omega
   clear l hpr e g y t;obtain⟨X,C,rfl,_⟩:=v.o.form;unfold qa;go_wp2_with (first
    |(go_at_call 149;refine u.o.mono ?_;rintro T Q ⟨rfl,d⟩;have j:=Hi (M.o.callB d);clear d)
    |(at_builtin;refine xh (W0:=w) (by rfl) _ _ 343 (by rfl) 233 V z 3 m underlying343 Z U O H K (by decide) (.slice X a.length C) a.length (a.flatMap frV) F [] (by rfl) v.o (by rw[jJ];exact j.o) 1 Q.heap.size [OI (k:Int),OT q,OI (p:Int)] (by rfl) (by rfl) (by rfl) (Qbe (k,q,p)) D h ?_;intro v' W' F' r s;obtain⟨E,I⟩:=Hi2 r s;clear r s))
   refine⟨⟨a++[(k,q,p)],p+n,f,_,by go_num,by omega,by omega,by simp;omega,i.o,?_,by have:=I.o;rwa [jJ]at this⟩,by simp[intOf];omega⟩;rw[ja,<-VQ];exact E.o
structure Xv (val:Bs->Int) (P:List Pr) (t:List (Int × List Int)):Prop where
 keys:(t.map (·.1)).Nodup
 some':∀x∈t,x.2≠[]/\x.2.Nodup
 says:∀v i,(∃s,(v,s)∈t/\i∈s)<->∃p∈P,p.id=i/\val p.code=v
def xK(t:List (Int × List Int))(v i:Int):List (Int × List Int) :=
 match Zd t v with
 |none=>t++[(v,[i])]
 |some s=>ye t v (s++[i])
def vK(t:List (Int × List Int))(v i:Int):List (Int × List Int) :=
 match Zd t v with
 |none=>t
 |some s=>if s.filter (λx=>decide (x≠i))=[]then Zi t v else ye t v (s.filter (λx=>decide (x≠i)))
theorem Xv.nil(a:Bs->Int):Xv a [] []:=⟨by simp,by simp,by simp⟩
theorem Xv.put{f:Bs->Int}{P:List Pr}{t:List (Int × List Int)}(h:Xv f P t)(p:Pr)(A:p.id∉P.map (·.id)):Xv f (P++[p]) (xK t (f p.code) p.id):=by
 have z:∀k m,(∃q∈P++[p],q.id=m/\f q.code=k)<->(∃s,(k,s)∈t/\m∈s)\/(m=p.id/\k=f p.code):=by
  intro k m;rw[h.says];constructor
  .rintro⟨q,g,w,v⟩;rcases jo.1 g with g|g
   .exact .inl ⟨q,g,w,v⟩
   .rw[jC]at g;subst g;exact .inr ⟨w.symm,v.symm⟩
  .rintro(⟨q,g,w,v⟩|⟨rfl,rfl⟩)
   .exact⟨q,jx _ g,w,v⟩
   .exact⟨p,by simp,rfl,rfl⟩
 unfold xK;cases hm:Zd t (f p.code)with
 |none =>
  have B:=Yg.1 hm;refine⟨?_,?_,?_⟩
  .rw[jr,Jr];exact⟨h.keys,by simp,λa y b o e=>by simp at o;subst o;subst e;exact B y⟩
  .intro x i;rcases jo.1 i with i|i
   .exact h.some' x i
   .rw[jC]at i;subst i;simp
  .intro k m;rw[z];constructor
   .rintro⟨s,c,l⟩;rcases jo.1 c with c|c
    .exact .inl ⟨s,c,l⟩
    .simp only[jC,Je]at c;obtain⟨rfl,rfl⟩:=c;simp at l;exact .inr ⟨l,rfl⟩
   .rintro(⟨s,u,r⟩|⟨rfl,rfl⟩)
    .exact⟨s,jx _ u,r⟩
    .exact⟨[p.id],by simp,by simp⟩
 |some s =>
  have j:=Qq hm;have l:p.id∉s:=λl=>by
   obtain⟨q,g,e,_⟩:=(h.says _ _).1 ⟨s,j,l⟩;exact A (jg.2 ⟨q,g,e⟩)
  refine⟨yo h.keys _ _,?_,?_⟩
  .intro x i;rcases Yi.1 i with rfl|⟨i,_⟩
   .exact⟨by simp,Jr.2 ⟨(h.some' _ j).2,by simp,λa y b o e=>by simp at o;subst o;subst e;exact l y⟩⟩
   .exact h.some' x i
  .intro k m;rw[z];constructor
   .rintro⟨n,c,d⟩;rcases Yi.1 c with e|⟨c,_⟩
    .simp only[Je]at e;obtain⟨rfl,rfl⟩:=e;rcases jo.1 d with d|d
     .exact .inl ⟨s,j,d⟩
     .simp at d;exact .inr ⟨d,rfl⟩
    .exact .inl ⟨n,c,d⟩
   .rintro(⟨n,u,r⟩|⟨rfl,rfl⟩)
    .by_cases e:k=f p.code
     .subst e;have:n=s:=by
       have:=qg h.keys u;rw[hm]at this;exact(Jv this).symm
      subst this;exact⟨n++[p.id],Yi.2 (.inl rfl),jx _ r⟩
     .exact⟨n,Yi.2 (.inr ⟨u,e⟩),r⟩
    .exact⟨s++[p.id],Yi.2 (.inl rfl),by simp⟩
theorem ybm(d:(p.map (·.id)).Nodup){a q:Pr}(e:a∈p)(f:q∈p)(h:q.id=a.id):q=a:=by
 induction p with
 |nil=>cases e
 |cons x r ih =>
  rw[ju,jY]at d;rcases jp.1 e with c|c
  .rcases jp.1 f with b|b
   .rw[c,b]
   .exact absurd (jg.2 ⟨q,b,by rw[h,c]⟩) d.1
  .rcases jp.1 f with b|b
   .exact absurd (jg.2 ⟨a,c,by rw[<-h,b]⟩) d.1
   .exact ih d.2 c b
theorem Xv.del{d:Bs->Int}{P:List Pr}{t:List (Int × List Int)}(h:Xv d P t)(D:(P.map (·.id)).Nodup){p:Pr}(w:p∈P):Xv d (P.filter (λx=>decide (x.id≠p.id))) (vK t (d p.code) p.id):=by
 obtain⟨s,n,B⟩:=(h.says (d p.code) p.id).2 ⟨p,w,rfl,rfl⟩;have y:=qg h.keys n;have j:∀g r,(∃q∈P.filter (λx=>decide (x.id≠p.id)),q.id=r/\d q.code=g)<->(∃c,(g,c)∈t/\r∈c)/\r≠p.id:=by
  intro g r;rw[h.says];constructor
  .rintro⟨q,m,o,u⟩;obtain⟨m,f⟩:=Jf.1 m;exact⟨⟨q,m,o,u⟩,by rw[<-o];simpa using f⟩
  .rintro⟨⟨q,m,o,u⟩,f⟩;exact⟨q,Jf.2 ⟨m,by rw[o];simpa using f⟩,o,u⟩
 have i:∀g c,(g,c)∈t->g≠d p.code->p.id∉c:=by
  intro g c a l C;obtain⟨q,m,o,u⟩:=(h.says g p.id).1 ⟨c,a,C⟩;rw[ybm D w m o]at u;exact l u.symm
 have k:∀c,(d p.code,c)∈t->c=s:=λc a=>by
  have:=qg h.keys a;rw[y]at this;exact(Jv this).symm
 unfold vK;rw[y];simp only;by_cases he:s.filter (λx=>decide (x≠p.id))=[]
 .rw[jh he];refine⟨vU h.keys _,λx v=>h.some' x (YH.1 v).1,λg r=>?_⟩;rw[j];constructor
  .rintro⟨c,a,b⟩;obtain⟨a,l⟩:=YH.1 a;exact⟨⟨c,a,b⟩,λe=>i g c a l (e▸b)⟩
  .rintro⟨⟨c,a,b⟩,f⟩;have l:g≠d p.code:=by
    rintro rfl;have:=k c a;subst this;have:r∈c.filter (λx=>decide (x≠p.id)):=Jf.2 ⟨b,by simpa using f⟩;rw[he]at this;cases this
   exact⟨c,YH.2 ⟨a,l⟩,b⟩
 .rw[jd he];refine⟨yo h.keys _ _,λx v=>?_,λg r=>?_⟩
  .rcases Yi.1 v with rfl|⟨v,_⟩
   .exact⟨he,(h.some' _ n).2.filter _⟩
   .exact h.some' x v
  .rw[j];constructor
   .rintro⟨c,a,b⟩;rcases Yi.1 a with e|⟨a,l⟩
    .simp only[Je]at e;obtain⟨rfl,rfl⟩:=e;obtain⟨A,z⟩:=Jf.1 b;exact⟨⟨s,n,A⟩,by simpa using z⟩
    .exact⟨⟨c,a,b⟩,λe=>i g c a l (e▸b)⟩
   .rintro⟨⟨c,a,b⟩,f⟩;by_cases l:g=d p.code
    .subst l;have:=k c a;subst this;exact⟨_,Yi.2 (.inl rfl),Jf.2 ⟨b,by simpa using f⟩⟩
    .exact⟨c,Yi.2 (.inr ⟨a,l⟩),b⟩
def cnt(P:List Pr)(c:Bs):Int:=((P.filter (λx=>decide (x.code=c))).length:Int)
theorem xaj(P:List Pr)(c:Bs):0<=cnt P c:=KD _
theorem Xa5(P:List Pr)(p:Pr)(c:Bs):cnt (P++[p]) c=cnt P c+if p.code=c then 1 else 0:=by
 unfold cnt;rw[ke,ja];by_cases e:p.code=c<;>simp[kC,e]
theorem QaU(P:List Pr)(c:Bs):cnt P c<=P.length:=by
 unfold cnt;have:=Um (λx:Pr=>decide (x.code=c)) P;omega
structure Zl (P:List Pr) (C:List (Bs × Int)):Prop where
 keys:(C.map (·.1)).Nodup
 says:∀c n,(c,n)∈C<->n=cnt P c/\0<n
theorem Zl.nil:Zl [] []:=⟨by simp,λc n=>by simp[cnt];omega⟩
theorem Zl.get{P:List Pr}{C:List (Bs × Int)}(h:Zl P C)(c:Bs):(Zd C c).getD 0=cnt P c/\(0<cnt P c->Zd C c=some (cnt P c)):=by
 have a:=xaj P c;by_cases hc:0<cnt P c
 .have:=qg h.keys ((h.says c _).2 ⟨rfl,hc⟩);exact⟨by rw[this];rfl,λ_=>this⟩
 .refine⟨?_,λh=>absurd h hc⟩;cases hm:Zd C c with
  |none=>simp;omega
  |some n =>
   have:=(h.says c n).1 (Qq hm);omega
theorem Zl.put{P:List Pr}{C:List (Bs × Int)}(h:Zl P C)(p:Pr):Zl (P++[p]) (ye C p.code (cnt P p.code+1)):=by
 refine⟨yo h.keys _ _,λc n=>?_⟩;have f:=xaj P p.code;rw[Xa5];constructor
 .intro b;rcases Yi.1 b with e|⟨b,a⟩
  .simp only[Je]at e;obtain⟨rfl,rfl⟩:=e;rw[jh rfl];omega
  .have:=(h.says c n).1 b;rw[jd (λe=>a e.symm)];omega
 .rintro⟨e,d⟩;by_cases hc:p.code=c
  .subst hc;rw[jh rfl]at e;exact Yi.2 (.inl (by rw[e]))
  .rw[jd hc]at e;exact Yi.2 (.inr ⟨(h.says c n).2 ⟨by omega,d⟩,λe=>hc e.symm⟩)
theorem YaG(f:(p.map (·.id)).Nodup){a:Pr}(d:a∈p)(c:Bs):cnt (p.filter (λx=>decide (x.id≠a.id))) c=cnt p c-if a.code=c then 1 else 0:=by
 induction p with
 |nil=>cases d
 |cons x r ih =>
  rw[ju,jY]at f;have b:∀(y:Pr) (l:List Pr),cnt (y::l) c=cnt l c+if y.code=c then 1 else 0:=by
   intro y l;unfold cnt;by_cases e:y.code=c<;>simp[kC,e]
  rcases jp.1 d with rfl|d
  .have h:r.filter (λx=>decide (x.id≠a.id))=r:=by
    rw[UT];intro y g;simp only[jG];exact λe=>f.1 (jg.2 ⟨y,g,e⟩)
   rw[kC,jd (by simp),h,b];omega
  .have i:x.id≠a.id:=λe=>f.1 (jg.2 ⟨a,d,e.symm⟩)
   rw[kC,jh (by simpa using i),b,b,ih f.2 d];omega
theorem Zl.del{P:List Pr}{C:List (Bs × Int)}(h:Zl P C)(g:(P.map (·.id)).Nodup){p:Pr}(f:p∈P):
  Zl (P.filter (λx=>decide (x.id≠p.id))) (if cnt P p.code=1 then Zi (ye C p.code (cnt P p.code-1)) p.code else ye C p.code (cnt P p.code-1))/\1<=cnt P p.code:=by
 have i:1<=cnt P p.code:=by
  have a:p∈P.filter (λx=>decide (x.code=p.code)):=Jf.2 ⟨f,by simp⟩;have:=List.length_pos_of_mem a;unfold cnt;omega
 refine⟨?_,i⟩;by_cases e1:cnt P p.code=1
 .rw[jh e1];refine⟨vU (yo h.keys _ _) _,λc n=>?_⟩;rw[YaG g f,YH,Yi];constructor
  .rintro⟨a|⟨a,_⟩,b⟩
   .simp only[Je]at a;exact absurd a.1 b
   .have:=(h.says c n).1 a;rw[jd (λe=>b e.symm)];omega
  .rintro⟨e,d⟩;by_cases hc:p.code=c
   .subst hc;rw[jh rfl]at e;omega
   .rw[jd hc]at e;exact⟨.inr ⟨(h.says c n).2 ⟨by omega,d⟩,λe=>hc e.symm⟩,λe=>hc e.symm⟩
 .rw[jd e1];refine⟨yo h.keys _ _,λc n=>?_⟩;rw[YaG g f,Yi];constructor
  .rintro(a|⟨a,b⟩)
   .simp only[Je]at a;obtain⟨rfl,rfl⟩:=a;rw[jh rfl];omega
   .have:=(h.says c n).1 a;rw[jd (λe=>b e.symm)];omega
  .rintro⟨e,d⟩;by_cases hc:p.code=c
   .subst hc;rw[jh rfl]at e;exact .inl (by rw[e])
   .rw[jd hc]at e;exact .inr ⟨(h.says c n).2 ⟨by omega,d⟩,λe=>hc e.symm⟩
structure FlH where
 b:Nat
 h:Hd
 l:List En
 v:Value
 F:va
 lv:Value
 reads:Int
def FlH.frag(x:FlH):va:=(x.b,.cells (hdV x.h++[x.v,x.lv,.int .i64 x.reads]).toArray 284 (0,0))::x.F
structure FlH.ok (x:FlH):Prop where
 list:Rw 137 5 x.v x.l.length (x.l.flatMap enV) x.F
 ln:∃ad n cap,x.lv=.slice ad n cap
def xf(o:Op3):List Value:=[.int .i64 o.width,.int .i64 o.chunks,.int .i64 o.mode]
def riV(i:RI):List Value:=[.int .i64 i.number,.int .i64 i.lo,.int .i64 i.hi,.int .i64 i.count]
def upV(u:Up):List Value:=[.int .i64 u.seq,.int .i64 u.kind,.int .i64 u.id,qa u.code]
theorem Zo(i:RI):(riV i).length=4:=rfl
theorem zbf(u:Up):(upV u).length=4:=rfl
structure vd where
 b:Nat
 r:Qj
 fs:List FlH
 v:Value
 F:va
 dead:Int
def vd.frag(o:Op3)(x:vd):va:=(x.b,.cells (xf o++riV x.r.info++[x.v,.int .i64 x.dead]).toArray 204 (0,0))::(x.F++x.fs.flatMap FlH.frag)
structure vd.ok (o:Op3) (x:vd):Prop where
 files:Rw 201 1 x.v x.fs.length (x.fs.map λf=>za f.b) x.F
 tabs:x.fs.map (λf=>(f.h,f.l))=(List.range (Qd o)).map λj=>(xM o x.r.info j,Qc o j x.r.list)
 each:∀f∈x.fs,f.ok
 dead:x.dead=((x.r.list.filter (·.dead)).length:Int)
def jnC(bd:Nat)(j:Jn):Array Value:=#[za bd,.int .i64 j.age,.bool j.gone,qa j.name,.int .i64 j.w,.int .i64 j.last,.int .i64 j.synced]
def jnF(bj bd:Nat)(j:Jn):Nat × Obj:=(bj,.cells (jnC bd j) 188 (0,0))
theorem ZR{B w:World}{α:Type}{d:α->List Value}(X:∀x,(d x).length=k)(I:0<k)(t O e:TypeId)(i:TypeInfo)(z:Value)(c:Nat)(T:P.underlying t=some (.slice e))(U:P.info? e=some i)(hz:i.zero=some z)
  (m:i.size=k) (K:i.bytes=c) (Q:z.cells.size=k)
  (v:Value) (n:Nat) (E:List Value) (F M:va) (s:Rw e k v n E F) (y:St B w (F++M))
  (H:Value) (l:List α) (A:qe d k w H l) (q:qt H) (Z:∀x,∀u∈d x,u.oneCell'=true)
  (J:n+l.length<=maxLen) (f:(n+l.length)*c<=140737488355328) :
  ∃g a C D,(Builtin.append_ #[t,t] O #[v,H]).run P w=.ok (.slice g (n+l.length) a) C/\Rw e k (.slice g (n+l.length) a) (n+l.length) (E++l.flatMap d) D/\St B C (D++M):=by
 obtain⟨g,a,rfl,p1,p2,V⟩:=A;cases g with
 |none =>
  obtain⟨hl,S⟩:=q _ _ rfl;have hv:l=[]:=Uc.1 hl;subst hv;subst S;have r:=run_append_owned_none (P:=P) (w:=w) B.heap.size t O e i k T U v n E (s.owns y);obtain⟨g,a,rfl,_⟩:=s.form;exact⟨g,a,w,F,by simpa using r,by simpa using s,y⟩
 |some p =>
  have N:=vg X l;obtain⟨v',C,hr,W,h3,Y,h5⟩:=run_append_own_at (P:=P) w B.heap.size t O e i z k c T U hz m K Q I v n E (s.owns y) p l.length a (l.flatMap d) N (λj u R=>by
   have G:l≠[]:=by intro h;rw[h]at R;simp at R
   obtain⟨b,off,he,S⟩:=V G;cases he;have:=S j u R;unfold Addr.add;split
   .rename_i h;rw[h]at this;simpa using this
   .simpa using this) (λu hu=>by
    obtain⟨x,_,hx⟩:=JB.1 hu;exact Z x u hx) J f y.sz
  obtain⟨D,o,L⟩:=St.appended s y W h3 (λe=>(Y.1 e).1) h5;obtain⟨g,a,rfl,_⟩:=o.form;exact⟨g,a,C,D,hr,o,L⟩
theorem zaf{W0 w:World}{m:Array Oper}{o:Oper}{a:Act}{K:Act->World->Prop}{E:Prop}{α:Type}{d:α->List Value}(B:o.guard=none)(s x:Operand)(t:TypeId)
  (U:o.op=.call {callee:=.builtin .append,args:=#[s,x],argTypes:=#[t,t]}) (O:∀x,(d x).length=k) (C:0<k)
  (e:TypeId) (i:TypeInfo) (z:Value) (b:Nat) (N:P.underlying t=some (.slice e)) (X:P.info? e=some i) (T:i.zero=some z)
  (g:i.size=k) (H:i.bytes=b) (L:z.cells.size=k)
  (v:Value) (n:Nat) (J:List Value) (F M:va) (W:a.eval s=v) (Z:Rw e k v n J F) (hS:St W0 w (F++M))
  (r:Value) (l:List α) (Y:a.eval x=r) (p:qe d k w r l) (j:qt r) (R:∀x,∀u∈d x,u.oneCell'=true)
  (G:n+l.length<=maxLen) (f:(n+l.length)*b<=140737488355328)
  (h:∀A c q y,Rw e k (.slice A (n+l.length) c) (n+l.length) (J++l.flatMap d) y->St W0 q (y++M)->K (a.put o.dst (.slice A (n+l.length) c)) q) :
  if Region.wanted o (yielded m a.tmps)=true then Oper.wp P o a w K Q else E:=by
 have S:Region.wanted o (yielded m a.tmps)=true:=by simp[Region.wanted,B]
 rw[jh S];obtain⟨A,c,q,y,V,D,I⟩:=ZR (P:=P) O C t o.type e i z b N X T g H L v n J F M Z hS r l p j R G f;unfold Oper.wp execOp;simp only[U,resolve,invoke,builtin,KV,KW,kY,Kj,ju,Jt,W,Y,V];exact h A c q y D I
theorem qk{W0 W:World}{m:Array Oper}{rest:List Oper}{o:Oper}{a:Act}{α:Type}{d:α->List Value}(A:o.guard=none)(s x:Operand)(t:TypeId)
  (S:o.op=.call {callee:=.builtin .append,args:=#[s,x],argTypes:=#[t,t]}) (L:∀x,(d x).length=k) (B:0<k)
  (e:TypeId) (i:TypeInfo) (z:Value) (b:Nat) (J:P.underlying t=some (.slice e)) (V:P.info? e=some i) (R:i.zero=some z)
  (g:i.size=k) (E:i.bytes=b) (I:z.cells.size=k)
  (v:Value) (n:Nat) (H:List Value) (F M:va) (U:a.eval s=v) (Y:Rw e k v n H F) (Z:St W0 W (F++M))
  (r:Value) (l:List α) (X:a.eval x=r) (p:qe d k W r l) (j:qt r) (N:∀x,∀u∈d x,u.oneCell'=true)
  (D:n+l.length<=maxLen) (f:(n+l.length)*b<=140737488355328)
  (h:∀y c q w,Rw e k (.slice y (n+l.length) c) (n+l.length) (H++l.flatMap d) w->St W0 q (w++M)->wpList P m Q rest (a.put o.dst (.slice y (n+l.length) c)) q) :
  wpList P m Q (o::rest) a W:=by
 refine wpList_plain A λK O=>?_
 obtain⟨y,c,q,w,T,C,G⟩:=ZR (P:=P) L B t o.type e i z b J V R g E I v n H F M Y Z r l p j N D f;unfold Oper.wp execOp;simp only[S,resolve,invoke,builtin,KV,KW,kY,Kj,ju,Jt,U,X,T];exact O _ _ (h y c q w C G)
structure qbq (w:Nat) (x:Nat × Bs) (d:List En):Prop where
 size:x.2.length<=65536
 five:x.1=5->x.2=d.flatMap qc/\(∀e∈d,e.fit w)/\d.length<=65536
 other:x.1≠5->d=[]
theorem VY:∀l:List En,l.length<=(l.flatMap qc).length
 |[]=>by simp
 |e::r=>by
  have a:=vav e;have b:=VY r;rw[jB,ja,jk];omega
theorem QaK{h:Hd}(q:Vm h l=0):∃(L:List (Nat × Bs × Nat)) (Z:List ((Nat × Bs) × List En)),qm ((Xk h l).length+1) (Xk h l) 0=(L,(Xk h l).length) /\
  L.map (λx=>(x.1,x.2.1))=Z.map (·.1)/\(∀z∈Z,qbq (h.width.toNat/8) z.1 z.2)/\Z.flatMap (·.2)=l/\∃r,Z=((4,Yk h l.length),[])::r:=by
 obtain⟨f,k,c,n,t,w,B,j⟩:=xaw q;obtain⟨X,o⟩:∃X:List (Nat × Bs),X=(4,Yk h l.length)::(Xt f++(k++[(7,c)])):=⟨_,rfl⟩;rw[<-o]at n j;have u:=ZaJ X;obtain⟨p,m⟩:=vat X ((Xk h l).length+1) 0 j (by rw[n];omega);rw[<-n]at p m;obtain⟨Z,i⟩:∃Z:List ((Nat × Bs) × List En),Z=((4,Yk h l.length),[])::((f.map λg=>((5,g.flatMap qc),g))++((k.map λx=>(x,[]))++[((7,c),[])])):=⟨_,rfl⟩;have d:Z.map (·.1)=X:=by
  rw[i,o];simp[Xt,j7,Function.comp_def]
 refine⟨(qm ((Xk h l).length+1) (Xk h l) 0).1,Z,?_,by rw[p,d],?_,?_,_,i⟩
 .rw[Jp]at m;exact Prod.ext rfl m
 .intro z a;have b:=j z.1 (by rw[<-d];exact jg.2 ⟨z,a,rfl⟩);rw[i]at a;rcases jp.1 a with rfl|a
  .exact⟨b.2.2,λe=>by simp at e,λ_=>rfl⟩
  .rcases jo.1 a with a|a
   .obtain⟨g,s,rfl⟩:=jg.1 a;exact⟨b.2.2,λ_=>⟨rfl,w g s,jI (VY g) b.2.2⟩,λe=>absurd rfl e⟩
   .rcases jo.1 a with a|a
    .obtain⟨x,v,rfl⟩:=jg.1 a;have:=B x v;exact⟨b.2.2,λe=>by simp only at e;omega,λ_=>rfl⟩
    .rw[jC]at a;subst a;exact⟨b.2.2,λe=>by simp at e,λ_=>rfl⟩
 .rw[i,<-t];rw[jB,jD,jD];have y:(f.map λg=>(((5,g.flatMap qc),g):(Nat × Bs) × List En)).flatMap (·.2)=f.flatten:=by
   rw[kD];simp[List.flatMap_id']
  have A:(k.map λx=>((x,[]):(Nat × Bs) × List En)).flatMap (·.2)=[]:=by
   rw[kD];simp
  rw[y,A];simp
end Go.Proofs.YtekkihmmclencaaGreatDoor
