import Derived.Test.YtekkihmmclencaaGreatDoorM36
namespace Go.Proofs.YtekkihmmclencaaGreatDoor
set_option linter.all false
set_option maxRecDepth 100000
set_option maxHeartbeats 40000000
open Tryz
open Go Go.RowKit Go.Shelf Go.Sort
variable(U w:World)(q c:Nat)(J:Kp)(M:va){W V Z:World}{n:Nat}{v:Value}{s:Bs}{K L:Kp}{d:Dk}{o:Op3}
section
attribute [local go_sem] Oper.semAt_some
theorem Qa1{bs:List Nat}{M M':va}(h:St V W M)(c:St V Z M')(g:∀b∈bs,b<V.heap.size\/∃o,(b,o)∈M/\(b,o)∈M')(i:W.heap.size<=Z.heap.size):zi bs W Z :=
 ⟨i,λb a=>by
  rcases g b a with d|⟨o,f,e⟩
  .exact(c.below.block b d).trans (h.below.block b d).symm
  .exact((c.at' _ e).2).trans ((h.at' _ f).2).symm⟩
def qB(us:List Up)(Bg k:Nat):Nat × Obj:=(Bg,.cells #[.int .i64 (atK us k:Int)] 3 (0,0))
def upN(us:List Up)(x:Nat):List Value:=upV (Xl us (min x (us.length-1)))
def ZB(us:List Up)(Z:Nat)(w:World)(B Bg:Nat)(Mi:va)(pre:List Nat)(W:World):Prop:=Yl Z w B 76 35 4 (upN us) (qB us Bg pre.length::Mi) pre W
theorem ZB.own{us:List Up}{w:World}{B Bg:Nat}{Mi:va}{Z:Nat}(c:w.heap.size<=Z)(a:∀x∈Mi,x.2.isCells=true):OwnFrom Z (ZB us Z w B Bg Mi):=by
 intro pre X Y row h e d;exact Yl.own c (λx b=>by rcases jp.1 b with rfl|b;rfl;exact a x b) pre X Y row h e d
theorem ZB.step{c:List Up}{a B d i D:Nat}{f R F h:va}{j l:Obj}{x y:Nat}{pre:List Nat}{bs:List Nat}{e:Option Addr}(H:a<=W.heap.size)(m:W.heap.size<=Z.heap.size)(E:y=pre.length)
  (g:∀(k:Nat) (o:Obj),a<=k->W.heap[k]?=some o->o.isCells=false->(k,o)∈R) (p:∀b∈bs,b<V.heap.size\/∃o,(b,o)∈f) (G:St V W (F++((i,j)::(B,.cells #[v] 76)::((qB c d pre.length::f)++R))))
  (u:Rw 35 4 (.slice e (pre.length+1) n) (pre.length+1) (pre.flatMap (upN c)++upN c x) h) (r:St V Z (h++((D,l)::(i,j)::(B,.cells #[v] 76)::((qB c d pre.length::f)++R)))) :
  KeepsFrom a W ((Z.setCell ⟨B,0,none⟩ (.slice e (pre.length+1) n)).setCell ⟨d,0,none⟩ (OI (atK c (y+1):Int)))/\zi bs W ((Z.setCell ⟨B,0,none⟩ (.slice e (pre.length+1) n)).setCell ⟨d,0,none⟩ (OI (atK c (y+1):Int))) /\
   ZB c a V B d f (pre++[x]) ((Z.setCell ⟨B,0,none⟩ (.slice e (pre.length+1) n)).setCell ⟨d,0,none⟩ (OI (atK c (y+1):Int))):=by
 subst E;have q:=(r.pm (M':=(B,Obj.cells #[v] 76)::qB c d pre.length::(h++(D,l)::(i,j)::(f++R))) CN).set 0 (.slice e (pre.length+1) n);unfold qB at q;simp only[jf,ji]at q;have z:=(q.pm (M':=(d,Obj.cells #[OI (atK c pre.length:Int)] 3)::(B,Obj.cells #[.slice e (pre.length+1) n] 76)::(h++(D,l)::(i,j)::(f++R))) CN).set 0 (OI (atK c (pre.length+1):Int));simp only[jf,ji]at z;have t:=z.pm (M':=((d,Obj.cells #[OI (atK c (pre.length+1):Int)] 3)::(B,Obj.cells #[.slice e (pre.length+1) n] 76)::(h++(D,l)::(i,j)::f))++R) CN;refine⟨t.keepsFrom g (by simpa using m),Qa1 G t (λb C=>?_) (by simpa using m),?_⟩
 .rcases p b C with s|⟨o,A⟩
  .exact .inl s
  .exact .inr ⟨o,by simp[A],by simp[A]⟩
 .refine⟨by simp;omega,e,n,h,by simpa using u,?_⟩;have s:(pre++[x]).length=pre.length+1:=by simp
  rw[s];unfold qB;exact t.pmSub (D:=(D,l)::(i,j)::R) CN
theorem YaP:(prog.info? 35).map (λi=>(i.zero,i.size,i.bytes))=some (some (.agg #[OI 0,OI 0,OI 0,.string ⟨#[]⟩]),4,40):=by kernel_rfl
theorem xbj(b:List Up):(List.range b.length).flatMap (upN b)=b.flatMap upV:=by
 have:∀(l:List Up),(List.range l.length).map (Xl l)=l:=by
  intro l;refine KY (by simp) λi g d=>?_
  simp[Xl,jt d]
 have e:∀l:List Nat,(∀x∈l,x<b.length)->l.flatMap (upN b)=(l.map (Xl b)).flatMap upV:=by
  intro l;induction l with
  |nil=>intro _;rfl
  |cons a r ih =>
   intro h;have f:=h a jc;rw[jB,ih (λx c=>h x (jb _ c)),ju,jB];unfold upN;rw[show min a (b.length-1)=a by omega]
 have h:=e (List.range b.length) (λx c=>Ud.1 c);rw[h,this]
theorem Vad:∀{us:List Up} {s:Int} {k:Nat} (h:k<us.length),zm s us->(Xl us k).seq=s+k+1
 |u::r,s,0,_,h=>by simp[Xl,h.1]
 |u::r,s,k+1,hk,h=>by
  have:=Vad (us:=r) (s:=s+1) (k:=k) (by simpa using hk) h.2;have e:Xl (u::r) (k+1)=Xl r k:=by simp[Xl]
  rw[e,this];omega
def za2(l:List Up)(good:Int)(w:World)(e:Ending)(w':World):Prop :=
 ∃v F,e=.returned (.tuple #[v,.int .i64 good,.int .i64 0])/\Rw 35 4 v l.length (l.flatMap upV) F/\St w w' F
theorem Ybo(W0 w:World)(bd bm:Nat)(D:Dk)(M:va)(n:Nat)(s:Int)(w8:Nat)(us:List Up)(tail:Bs)(f:zc)(n0:1<=n)(n1:n<=1099511627776)(s0:0<=s)(s1:s<=1152921504606846976)(hw:Xc ((8*w8:Nat):Int)=true)(h0:0<w8)(h1:w8<=128)
  (hD:Xa W0 bd bm D M w) (aG:D.Wf) (aq:D.off=false) (hg:D.get (Qa n)=some f) (a0:f.data=vf us++tail) (ag:f.data.length<=1000000000) (br:us.length<=1000000) (S:∀u∈us,u.fit w8) (X:zm s us) (al:∃e,yg tail=.bad e/\e≠0) (ht:vi W0) (hc:zg W0) :
  Calls prog 94 #[za bd,.int .i64 (n:Int),.int .i64 s,.int .i64 ((8*w8:Nat):Int)] w (za2 us ((vf us).length:Int) w):=by
 have aE:=hD.below;have a1:=Hi (λW (p:Below w.heap.size w W)=>zaH W n s _ n0 n1 hw s0 s1 (ht.below (hD.callB p).below (jm _)));have U:=Hi (λW (p:Below w.heap.size w W)=>vI W (n:Int) (by omega) (by omega) (ht.below (hD.callB p).below (jm _)));rw[YI n0 n1]at U;have Y:=Hi (λW (p:Below w.heap.size w W)=>Zbc W0 W bd bm D M (Qa n) f (hD.callB p) aG aq (QO n1) hg ag);have af:=Hi (λW=>vbc W f.data);have aS:=Hi (hc.below aE (jm _));obtain⟨nm,av⟩:=NE (Qa n);rw[av]at U Y;obtain⟨data,ai⟩:=NE f.data;rw[ai]at Y af a0;have aB:(vf us++tail).length<=1000000000:=by rw[<-a0,<-ai];exact ag
 have b6:=Hi (show qa data=qa (vf us++tail)from by rw[a0]);obtain⟨xw,aO⟩:∃x:Int,((8*w8:Nat):Int)=x:=⟨_,rfl⟩;have ak:=Hi (λW u (hu:u.fit w8)=>Va1 W u w8 hu h0 h1);rw[aO]at ak a1|-
 have hA:=((((St.refl w).alloc (.cells #[.int .i64 s] 3)).alloc (.cells #[.int .i64 xw] 3)).alloc (.cells #[.slice none 0 0] 76)).alloc (.cells #[.int .i64 0] 3);have z:=hA.alloc (.cells #[.int .i64 0] 30);simp only[jF]at z;obtain⟨HA,ar⟩:=Hi2 z z.below;unfold Ret at Y;unfold Vd at a1 U ak;clear hA z hD aG aq hg ag aE hw av ai a0 aO ht hc;unfold za qa at *;refine(JZ (n:=8)).1 ?_;refine kL func94 rfl trivial ?_ rfl;simp only[ntmps94,J2,jk,jA,Nat.reduceAdd,Nat.reduceSub,UD,UE,UP,UH,jK,jO]
 gi_wp2_with (first
  |(refine⟨trivial,?_⟩;gi_at_call 68;refine(JZ.2 (a1.o _ ar.o)).mono ?_;rintro e w2 ⟨rfl,aA⟩;have ah:=Hi (HA.o.callB aA);clear aA)
  |(refine⟨trivial,?_⟩;gi_at_call 30;refine(JZ.2 (U.o _ ah.o.below)).mono ?_;rintro e w3 ⟨rfl,aC⟩;have a3:=Hi (ah.o.callB aC);clear aC)
  |(refine⟨trivial,?_⟩;gi_at_call 152;refine(JZ.2 (Y.o _ a3.o.below)).mono ?_;rintro e w4 ⟨rfl,rfl⟩)
  |(refine⟨trivial,?_⟩;gi_at_call 153;refine(JZ.2 (af.o _)).mono ?_;rintro e w5 ⟨rfl,rfl⟩))
 obtain⟨C,hC⟩:=EN w.heap.size;obtain⟨E,hE⟩:=EN w3.heap.size;have Q:=((a3.o.alloc (.cells #[.slice none 0 0] 76)).alloc (.cells #[.int .i64 0] 3)).alloc (.cells #[.string ⟨data.toArray⟩] 9);simp only[jF]at Q|-
 have ap:C+4<E:=by rw[hC,hE];exact a3.o.hlt
 rw[<-hE,<-hC]at Q|-
 obtain⟨G,ac⟩:=EN (((w3.alloc (.cells #[.slice none 0 0] 76)).alloc (.cells #[.int .i64 0] 3)).alloc (.cells #[.string ⟨data.toArray⟩] 9));have a8:G.heap.size=E+3/\w.heap.size=C/\C+4<E:=⟨by rw[ac,hE];simp only[jF],hC.symm,ap⟩;rw[<-ac]at Q|-
 have HZ:=Hi a8;clear ac hC hE a8 ap HA ar ah a3 a1 U Y af;obtain⟨Mi,a5⟩:∃Mi:va,Mi=[(E+1+1,.cells #[.string ⟨data.toArray⟩] 9),(C+1+1+1+1,.cells #[.int .i64 0] 30),(C+1+1+1,.cells #[.int .i64 0] 3),(C+1+1,.cells #[.slice none 0 0] 76),(C+1,.cells #[.int .i64 xw] 3),(C,.cells #[.int .i64 s] 3)]:=⟨_,rfl⟩;have j:∀y∈Mi,y.1<G.heap.size/\y.2.isCells=true:=by rw[a5];intro y O;have:=HZ.o;simp at O;rcases O with rfl|rfl|rfl|rfl|rfl|rfl<;>exact⟨by simp;omega,rfl⟩
 have J:∀k,∀y∈qB us (E+1) k::Mi,y.1<G.heap.size/\y.2.isCells=true:=λk y O=>by
  rcases jp.1 O with rfl|O
  .exact⟨by have:=HZ.o;simp only[qB];omega,rfl⟩
  .exact j y O
 have c1:G.cell? ⟨E+1+1,0,none⟩=some (qa data):=Q.cellH 0;have N:zg G:=aS.o.below Q.below (jm _);have ay:ZB us G.heap.size w E (E+1) Mi [] G:=⟨jm _,none,0,[],Rw.nil _ _,by
  rw[a5];unfold qB;rw[jA,QaB,show((0:Nat):Int)=0 from rfl];exact Q.pm λy=>by simp only[xa,ya,OI,OT,OQ,Ya,jA];omega⟩
 obtain⟨T,aT⟩:=Hi2 a5 ay;have a6:G.cell? ⟨E+1+1,0,none⟩=some (qa (vf us++tail)):=by rw[c1];exact jT some b6.o
 clear Q a5 ay;refine wpIn_rangeFunc_ownH rfl (by omega) (gf:=217) (lb:=#[Xh (E+1+1)]) rfl trivial (kf func217 (by kernel_rfl) rfl)
  (vaC (8-1) (by omega) (E+1+1) us tail w8 S h1 aB al G a6 N)
  (λh k=>h.trans k) (λW l o o'=>zi.putObj (by intro b p;simp only[jp,JF,UF]at p;rcases p with rfl|rfl;(have:=HZ.o.1;omega);exact jM G _ (N 0 (by decide))) W l o o') (jU _ _) (λ_=>rfl)
  (ZB us G.heap.size w E (E+1) Mi) (λc pre _=>c=.ret/\¬ pre <+: List.range us.length)
  (ZB.own (by have:=HZ.o;omega) (λy O=>(j y O).2)) (λ_ _ _ _ _ hs _ _=>hs) aT.o
  (Yw G.heap.size E 76 233 (λx=>vag us (min x (us.length-1))) (λx Bx=>{tmps:=#[Value.pointer (some {block:=bd,off:=0}),Value.int IntKind.i64 (n:Int),Value.int IntKind.i64 s,Value.int IntKind.i64 xw,undef,undef,Value.pointer (some {block:=C,off:=0}),
     Value.pointer (some {block:=C+1,off:=0}),Value.pointer (some {block:=C+1+1,off:=0}),Value.pointer (some {block:=C+1+1+1,off:=0}),Value.pointer (some {block:=C+1+1+1+1,off:=0}),Value.int IntKind.i64 0,
     Value.string {data:=List.toArray data},Value.int IntKind.i64 0,Value.pointer (some {block:=E,off:=0}),Value.pointer (some {block:=E+1,off:=0}),.pointer (some ⟨Bx,0,none⟩),.int .i64 (atK us (min x (us.length-1)+1):Int),undef,undef,
     Value.int IntKind.i64 (n:Int),Value.int IntKind.i64 s,Value.int IntKind.i64 xw,Value.int IntKind.i64 0,Value.int IntKind.i64 0,Value.bool false,undef,
     Value.tuple #[Value.string {data:=List.toArray data},Value.int IntKind.i64 0],Value.pointer (some {block:=bd,off:=0}),Value.int IntKind.i64 (n:Int),Value.string {data:=List.toArray nm},
     Value.tuple #[Value.string {data:=List.toArray data},Value.int IntKind.i64 0],Value.string {data:=List.toArray data},Value.int IntKind.i64 0,Value.int IntKind.i64 0,
     Value.bool false,undef,Value.string {data:=List.toArray data},Value.func (Fn.func 217) #[] #[Xh (E+1+1)],.agg (vag us (min x (us.length-1))).toArray,.int .i64 (atK us (min x (us.length-1)+1):Int),undef,undef,undef,undef,undef,undef,undef,undef,undef,undef,undef,undef,undef,undef,undef,undef,undef,undef,undef,undef,undef,undef,undef,undef,undef,undef,undef,undef],defers:=[]}))
  (λx a'=>Yw.own x a') ?assign ?body ?done ?stop
 case assign =>
  rintro l pre x W K hI hK;have ax:=ZB.own (us:=us) (Z:=G.heap.size) (w:=w) (B:=E) (Bg:=E+1) (Mi:=Mi) (by have:=HZ.o;omega) (λy O=>(j y O).2);have b7:=Hi (λo=>ax.alloc (s:=pre) (W:=W) o hI);obtain⟨hz,q,a,F,hR,H⟩:=hI;have b4:=Hi (λ(o:Obj)=>(show zi [E+1+1,4] W (W.alloc o)from⟨by simp,λb p=>UW W _ b (by simp only[jp,JF,UF]at p;rcases p with rfl|rfl;(have:=HZ.o.1;omega);exact JG (jM G _ (N 0 (by decide))) hz)⟩));have be:=Hi (λ(o:Obj)=>(show ∃v,(W.alloc o).heap[E]?=some (.cells #[v] 76)/\v.ownBlock≠some W.heap.size from⟨_,(UW W _ E H.hlt).trans H.get,λe=>by
    rcases hR.2 with⟨h,_⟩|⟨g,c',aX,h,hF,_⟩
    .rw[h]at e;cases e
    .rw[h]at e;have hlt:=H.lt (x:=(g,.cells aX 35)) (jb _ (jx _ (by rw[hF];exact jc)));have:g=W.heap.size:=by simpa [Value.ownBlock] using e
     omega⟩))
  have aN:=Hi (show E<G.heap.size/\E≠W.heap.size by have:=HZ.o.1;have:=H.hlt;omega);obtain⟨aj,aV,bg,bq,HK⟩:=Hi5 hz N j J hK;clear ax hR H hz N j J hK T aT c1 a6;unfold vaP vag qa
  gi_wp2
  exact HK.o _ _ ((KK _ _).from _) (b4.o _) (b7.o _) ⟨W.heap.size,aj.o,U5 W _,aN.o.2.symm,aN.o.1,be.o _,rfl⟩
 case body =>
  rintro l pre x a' W hl ⟨r,hr⟩ hI hV hlt;have aL:=hI.1;obtain⟨Bx,q,a,F,R,rfl,hR,V,H⟩:=Yw.join (by have:=HZ.o;omega) (J _) hI hV;obtain⟨y,O⟩:=NE (min x (us.length-1));have am:y<us.length:=by omega
  have aM:=xaC am S;have ae:=Vad am X;have t:=Hi (λW=>ak.o W (Xl us y) aM);have hN:upN us x=upV (Xl us y):=by unfold upN;rw[O]
  rw[O]at H|-
  obtain⟨A2,z⟩:=NE (atK us (y+1));have bi:A2<=1000000000:=by rw[<-z];exact jI (Ya1 us _) (by rw[ja]at aB;omega)
  obtain⟨⟨sq,kd,ii,cc⟩,hu⟩:=NE (Xl us y);obtain⟨pp,an⟩:=NE (Zt (Xl us y));have hF:vag us y=[.int .i64 kd,qa pp,.int .i64 (atK us y:Int)]:=by unfold vag;rw[an,hu]
  rw[an,hu]at t;rw[hu]at ae hN;rw[hF]at H|-
  rw[z]at|-
  unfold upV at t hN;simp only at t hN ae;subst ae;have d1:W.cell? ⟨Bx,0,none⟩=some (.int .i64 kd):=H.rd (i:=0) (je _ jc) rfl;have d2:W.cell? ⟨Bx,1,none⟩=some (qa pp):=H.rd (i:=1) (je _ jc) rfl;have aK:=T.o;have d7:W.cell? ⟨C+1,0,none⟩=some (.int .i64 xw):=H.rd (i:=0) (je _ (jb _ (jb _ (jx _ (jb _ (show(C+1,Obj.cells #[.int .i64 xw] 3)∈Mi by rw[aK];simp)))))) rfl;obtain⟨aa,HS,HR,az,HY⟩:=Hi5 V H hR hlt O;obtain⟨HF,HN,au⟩:=Hi3 hF hN z;have bn:pre.length<=1000000:=by omega
  obtain⟨aj,bg,aV⟩:=Hi3 aL j N;unfold qa at t d2;clear hR H V hI hV hr hl O am aM hF hN z hu an hlt aK aL j J N c1 a6 S X al;have aw:=Hi (λ(A:World) (p:Below W.heap.size W A)=>show(∀m,(A.alloc m).cell? ⟨C,0,none⟩=some (.int .i64 s))/\(∀m,(A.alloc m).cell? ⟨E,0,none⟩=some (.slice q pre.length a))from
   ⟨λm=>((HS.o.callB p).alloc m).tail.rd (i:=0) (je _ (jb _ (jb _ (jx _ (jb _ (show(C,Obj.cells #[.int .i64 s] 3)∈Mi by rw[T.o];simp)))))) rfl,
    λm=>((HS.o.callB p).alloc m).tail.rd (i:=0) (je _ (jb _ jc)) rfl⟩)
  have bh:(pre.length:Int)<=1000000:=by omega
  have bj:(0:Int)<=(pre.length:Int):=by omega
  obtain⟨i1,b0,a8,ba,aZ⟩:=Vs YaP;obtain⟨RS,ao⟩:∃RS:va,RS=((Bx,Obj.cells #[.int .i64 kd,qa pp,.int .i64 (atK us y:Int)] 233)::(E,.cells #[.slice q pre.length a] 76)::((qB us (E+1) pre.length::Mi)++R)):=⟨_,rfl⟩;have aF:St w W (F++RS):=by rw[ao];exact HS.o
  obtain⟨bc,aY⟩:=Hi2 aF ao;have b5:=Hi (λ(A:World) (p:Below W.heap.size W A)=>show St w (A.alloc (.cells #[.int .i64 (s+(y:Int)+1),.int .i64 kd,.int .i64 ii,.string ⟨cc.toArray⟩] 35)) (F++((A.heap.size,.cells #[.int .i64 (s+(y:Int)+1),.int .i64 kd,.int .i64 ii,.string ⟨cc.toArray⟩] 35)::RS))from((bc.o.callB p).alloc _).pm CN);clear ao aF;by_cases hyp:y=pre.length
  .subst hyp
   gi_wp2_with (first
    |(refine⟨trivial,?_⟩;gi_at_call 154;refine((JZ.2 (t.o _)).inRound _).mono ?_;rintro e A ⟨rfl,L⟩;obtain⟨k0,k1⟩:=aw.o _ L;have aP:=Hi L;clear L)
    |(gi_at_builtin;refine qac (by rfl) _ _ 76 (by rfl) 35 i1 _ 4 40 underlying76 b0 a8 ba aZ (by rfl) (by decide) (.slice q pre.length a) pre.length (pre.flatMap (upN us)) F ((A.heap.size,.cells #[.int .i64 (s+(pre.length:Int)+1),.int .i64 kd,.int .i64 ii,.string ⟨cc.toArray⟩] 35)::RS) (by rfl) HR.o (b5.o _ aP.o) 1 (A.heap.size+1) [.int .i64 (s+(pre.length:Int)+1),.int .i64 kd,.int .i64 ii,.string ⟨cc.toArray⟩] (by rfl) (by rw[jF]) (by rfl) (by intro u hu;simp at hu;rcases hu with rfl|rfl|rfl|rfl<;>rfl) (by unfold maxLen;omega) (by omega) (by decide) ?_))
   intro bo bk W2 F2 aD d a9 ab;have I:=d;rw[aY.o]at I;unfold qB at I;have f3:W2.frozen? ⟨E,0,none⟩=false:=I.free (je _ (jb _ (jb _ jc))) 0;have g3:W2.cell? ⟨E,0,none⟩=some (.slice q pre.length a):=I.rd (i:=0) (je _ (jb _ (jb _ jc))) rfl;have f4:W2.frozen? ⟨E+1,0,none⟩=false:=I.free (je _ (jb _ (jb _ (jb _ jc)))) 0;have g4:W2.cell? ⟨E+1,0,none⟩=some (.int .i64 (atK us pre.length:Int)):=I.rd (i:=0) (je _ (jb _ (jb _ (jb _ jc)))) rfl;obtain⟨a2,b3⟩:=Hi2 I aD;have b2:=Hi (show W.heap.size<=W2.heap.size from jI aP.o.size (jI (by simp) a9));clear aD d a9 ab I
   gi_wp2
   have b1:=HS.o;have aR:=a2.o;rw[<-au.o];exact ZB.step (y:=pre.length) aj.o b2.o rfl aa.o (bs:=[E+1+1,4]) (by
    intro b p;simp only[jp,JF,UF]at p;rcases p with rfl|rfl
    .exact .inr ⟨_,by rw[T.o];exact jc⟩
    .exact .inl (jM w _ (aS.o 0 (by decide)))) b1 (x:=x) (by rw[HN.o];exact b3.o) aR
  .have b9:=Hi (show ¬ (pre++[x]) <+: List.range us.length from λh=>hyp (by
    have hl:pre.length<(List.range us.length).length:=by rw[Uh];exact az.o
    have h1:=h.getElem (i:=pre.length) (by simp);rw[List.getElem_range]at h1;have h2:x=pre.length:=by simpa using h1
    have:=HY.o;have:=az.o;omega))
   have bl:¬ (s+(y:Int)+1=s+(pre.length:Int)+1):=by omega
   have aH:=Hi (λ(A:World) (p:Below W.heap.size W A) (m:Obj)=>show St w (A.alloc m) ((C+1+1,.cells #[.slice none 0 0] 76)::(C+1+1+1,.cells #[.int .i64 0] 3)::(C+1+1+1+1,.cells #[.int .i64 0] 30)::R)from(((HS.o.callB p).alloc m).pmSub (D:=(A.heap.size,m)::(F++((Bx,Obj.cells #[.int .i64 kd,qa pp,.int .i64 (atK us y:Int)] 233)::(E,.cells #[.slice q pre.length a] 76)::qB us (E+1) pre.length::[(E+1+1,.cells #[.string ⟨data.toArray⟩] 9),(C+1,.cells #[.int .i64 xw] 3),(C,.cells #[.int .i64 s] 3)]))) λy=>by rw[T.o];simp only[xa,ya,OI,OT,OQ,Ya];omega));have aW:=Hi (λ(A:World) (p:Below W.heap.size W A) (m:Obj)=>show KeepsFrom G.heap.size W ((((A.alloc m).setCell ⟨C+1+1,0,none⟩ (.slice none 0 0)).setCell ⟨C+1+1+1,0,none⟩ (.int .i64 0)).setCell ⟨C+1+1+1+1,0,none⟩ (.int .i64 80))from by
    have h1:=(aH.o A p m).set 0 (.slice none 0 0);have h2:=(h1.tail).set 0 (.int .i64 0);have h3:=(h2.tail).set 0 (.int .i64 80);have h4:St w _ ([_]++R):=h3;exact h4.keepsFrom aa.o (by simp;have:=p.size;omega))
   gi_wp2_with (first
    |(refine⟨trivial,?_⟩;gi_at_call 154;refine((JZ.2 (t.o _)).inRound _).mono ?_;rintro e A ⟨rfl,L⟩;obtain⟨k0,k1⟩:=aw.o _ L;have P:=aH.o _ L;have m0:=λm=>(P m).cellH 0;have m1:=λm=>(P m).tail.cellH 0;have m2:=λm=>(P m).tail.tail.cellH 0;have q0:=λm=>(P m).freeH 0;have q1:=λm=>(P m).tail.freeH 0;have q2:=λm=>(P m).tail.tail.freeH 0;have aI:=Hi (aW.o _ L);clear P L))
   exact⟨aI.o _,rfl,b9.o⟩
 case done =>
  rintro D' ys W bt rfl hI aU;obtain⟨hz,q,a,F,hR,H⟩:=hI;unfold qB at H;rw[T.o,Uh,ZaI us (jm _)]at H;rw[xbj,Uh]at hR;have d:=H.pmSub (M':=(C+1+1,.cells #[.slice none 0 0] 76)::(C+1+1+1,.cells #[.int .i64 0] 3)::(C+1+1+1+1,.cells #[.int .i64 0] 30)::(E,.cells #[.slice q us.length a] 76)::(E+1,.cells #[.int .i64 ((vf us).length:Int)] 3)::F) (D:=[(E+1+1,.cells #[.string ⟨data.toArray⟩] 9),(C+1,.cells #[.int .i64 xw] 3),(C,.cells #[.int .i64 s] 3)]) CN;have d1:W.cell? ⟨E,0,none⟩=some (.slice q us.length a):=d.tail.tail.tail.cellH 0;have d2:W.cell? ⟨E+1,0,none⟩=some (.int .i64 ((vf us).length:Int)):=d.tail.tail.tail.tail.cellH 0;have m0:=d.cellH 0;have m1:=d.tail.cellH 0;have m2:=d.tail.tail.cellH 0;have q0:=d.freeH 0;have q1:=d.tail.freeH 0;have q2:=d.tail.tail.freeH 0;simp at m0 m1 m2;have b8:((W.setCell ⟨C+1+1,0,none⟩ (.slice q us.length a)).drew).cell? ⟨E+1,0,none⟩=some (.int .i64 ((vf us).length:Int)):=(d.set 0 (.slice q us.length a)).tail.tail.tail.tail.cellH 0;obtain⟨HR,a2⟩:=Hi2 hR d;clear hR H d hz j J S X al c1 a6 N
  gi_wp2
  have bp:prog.follows .mixedOrders=true:=by kernel_rfl
  gi_region_o
  obtain⟨W9,a4⟩:=EN ((((W.setCell ⟨C+1+1,0,none⟩ (.slice q us.length a)).setCell ⟨C+1+1+1,0,none⟩ (.int .i64 ((vf us).length:Int))).setCell ⟨C+1+1+1+1,0,none⟩ (.int .i64 0)).drew);have aQ:W9.heap[D']?=some (.deferred (some [])):=by
   rw[a4];have hz:=HZ.o;show((((W.setCell _ _).setCell _ _).setCell _ _).heap[D']?)=_;rw[kV _ _ _ _ (by simp only;omega),kV _ _ _ _ (by simp only;omega),kV _ _ _ _ (by simp only;omega)];exact aU
  have a7:St w W9 ((C+1+1,.cells #[.slice q us.length a] 76)::(C+1+1+1,.cells #[.int .i64 ((vf us).length:Int)] 3)::(C+1+1+1+1,.cells #[.int .i64 0] 30)::F):=by
   rw[a4];have h1:=(a2.o).set 0 (.slice q us.length a);have h2:=(h1.pm (M':=(C+1+1+1,.cells #[.int .i64 0] 3)::(C+1+1,.cells #[.slice q us.length a] 76)::(C+1+1+1+1,.cells #[.int .i64 0] 30)::(E,.cells #[.slice q us.length a] 76)::(E+1,.cells #[.int .i64 ((vf us).length:Int)] 3)::F) λy=>by simp only[jf,ji,ya,OI,OT,OQ];omega).set 0 (.int .i64 ((vf us).length:Int));have h3:=(h2.pm (M':=(C+1+1+1+1,.cells #[.int .i64 0] 30)::(C+1+1+1,.cells #[.int .i64 ((vf us).length:Int)] 3)::(C+1+1,.cells #[.slice q us.length a] 76)::(E,.cells #[.slice q us.length a] 76)::(E+1,.cells #[.int .i64 ((vf us).length:Int)] 3)::F) λy=>by simp only[jf,ji,ya,OI,OT,OQ];omega).set 0 (.int .i64 0);exact h3.drew.pmSub (D:=[(E,.cells #[.slice q us.length a] 76),(E+1,.cells #[.int .i64 ((vf us).length:Int)] 3)]) λy=>by simp only[jf,ji,xa,ya,OI,OT,OQ,Ya];omega
  obtain⟨aJ,bf⟩:=Hi2 aQ a7;rw[<-a4];clear a4 aQ a7 m0 m1 m2 q0 q1 q2 d1 d2 b8 a2 aU
  gi_wp2
  have a7:=bf.o;have HT:=Hi (a7.taken (D:=D') (o':=.deferred none) (λx hx=>by
   simp only[jp]at hx;rcases hx with rfl|rfl|rfl|hx
   .rfl
   .rfl
   .rfl
   .exact HR.o.isCells x hx) (by have:=HZ.o;omega) aJ.o rfl)
  have z0:(W9.putObj D' (.deferred none)).cell? ⟨C+1+1,0,none⟩=some (.slice q us.length a):=HT.o.cellH 0;have z1:(W9.putObj D' (.deferred none)).cell? ⟨C+1+1+1,0,none⟩=some (.int .i64 ((vf us).length:Int)):=HT.o.tail.cellH 0;have z2:(W9.putObj D' (.deferred none)).cell? ⟨C+1+1+1+1,0,none⟩=some (.int .i64 0):=HT.o.tail.tail.cellH 0;refine⟨by simp,.inl ⟨_,_,rfl,Kl aJ.o,?_⟩⟩;refine⟨.tuple #[.slice q us.length a,.int .i64 ((vf us).length:Int),.int .i64 0],?_,⟨_,F,rfl,HR.o,HT.o.tail.tail.tail⟩⟩;simp[results,results94,go_sem,z0,z1,z2]
 case stop =>
  rintro D c pre W _ bb h _;exact absurd bb h.2
end
theorem vbj(D:Dk)(M:va)(n:Nat)(s:Int)(b:Nat)(a:List Up)(tail:Bs)(f:zc)(z:1<=n)(E:n<=1099511627776)(y:0<=s)(B:s<=1152921504606846976)(A:Xc ((8*b:Nat):Int)=true)(p:0<b)(x:b<=128)
  (o:Xa U q c D M w) (i:D.Wf) (j:D.off=false) (t:D.get (Qa n)=some f) (m:f.data=vf a++tail) (l:f.data.length<=1000000000) (k:a.length<=1000000) (d:∀u∈a,u.fit b) (g:zm s a) (h:∃e,yg tail=.bad e/\e≠0) (r:vi U) (I:zg U) :
  Calls prog 94 #[za q,OI (n:Int),OI s,OI ((8*b:Nat):Int)] w (yF U q c D M a ((vf a).length:Int)):=by
 refine(Ybo U w q c D M n s b a tail f z E y B A p x o i j t m l k d g h r I).mono ?_;rintro e J ⟨v,F,C,G,H⟩;exact⟨v,F,C,G,o.call H⟩
theorem z8(o:Op3)(r:Qj)(s:List Qj):Xj o (r::s)=Qc o 0 r.list++Xj o s:=by unfold Xj;rw[jB]
theorem vaF(o:Op3)(j:Nat)(l:List En):((Qc o j l).map (·.seq)).Perm (l.map (·.seq)):=by
 have h:=(Yp o j l).map (·.seq);rw[j7]at h;exact h
theorem zat(o:Op3):∀R:List Qj,((Xj o R).map (·.seq)).Perm ((R.flatMap (·.list)).map (·.seq))
 |[]=>UL _
 |r::s=>by
  rw[z8,jB,jr,jr];exact(vaF o 0 r.list).append (zat o s)
theorem qaC:∀{R:List Qj} {e:En},e∈Xj o R->∃r∈R,∃x∈r.list,x.inT o 0=e:=by
 intro R e a;unfold Xj at a;obtain⟨r,c,d⟩:=JB.1 a;obtain⟨x,f,b⟩:=yG.1 d;exact⟨r,c,x,f,b⟩
theorem yat:∀(R:List Qj) {L:List ((Int × Bs) × En)} {A:List En},(∀r∈R,ym o r.info r.list)->zt L A->zt (Qf L (Xj o R)) (A++R.flatMap (·.list))
 |[],L,A,_,h=>by simpa [Xj,Qf] using h
 |r::s,L,A,hok,h=>by
  rw[z8,QaE,jB,<-jE];exact yat s (λx a=>hok x (jb _ a)) (ZaK (hok r jc) h)
theorem ZaC{m:Mf}:∀(R:List Qj) (used:List Int) (last:Int),qf m used last (R.map (·.info))=true->(∀r∈R,ym o r.info r.list)->(Xj o R).Pairwise λa b=>a.pair=b.pair->a.seq<b.seq
 |[],_,_,_,_=>kr
 |r::s,used,last,hst,hok=>by
  have h:=hok r jc;rw[ju]at hst;unfold qf at hst;split at hst
  .cases hst
  .rw[z8,List.pairwise_append];refine⟨?_,ZaC s _ _ hst λx i=>hok x (jb _ i),?_⟩
   .have d:=zA (o:=o) (j:=0) (vn h.ord h.zero);unfold List.Nodup at d;rw[Uu]at d;exact d.imp λg e=>absurd e g
   .intro a k b n _;obtain⟨x,i,rfl⟩:=yG.1 k;obtain⟨f,c,y,l,rfl⟩:=qaC n;have q:=h.seq x i;have p:=(hok f (jb _ c)).seq y l;have t:=yl hst f.info (jg.2 ⟨f,c,rfl⟩);show x.seq<y.seq;omega
theorem xab.of(h:Inv K)(A:Xp K){a:Mf}(k:a={K.m with next:=a.next})(v:a.good)(D:K.d.files.Perm (K.filesAt a n)):
  xab K.d a K.runs/\zt (Qf [] (Xj a.o K.runs)) K.all/\(Qf [] (Xj a.o K.runs)).length<=K.all.length:=by
 have y:a.o=K.m.o:=by rw[k]
 have t:a.runs=K.m.runs:=by rw[k]
 have c:∀r∈K.runs,ym a.o r.info r.list:=by rw[y];exact h.ok
 have l:=yat (o:=a.o) K.runs c Ya4;rw[jK]at l;have l:zt (Qf [] (Xj a.o K.runs)) K.all:=l;obtain⟨P,B,b2,b3,b4⟩:=h.base;obtain⟨I,R,O⟩:=yW l (UL _) B;have f:=zat a.o K.runs;have b:=A.held;unfold Kp.held at b;have p:(Xj a.o K.runs).length=K.all.length:=by
  have:=f.length_eq;rw[jz,jz]at this;exact this
 have g:=h.good.runs;rw[<-h.info]at g;have F:K.runs.length<=24:=by
  have:=h.good.len;rw[<-h.info,jz]at this;exact this
 have C:=h.w;have E:=A.seq;have u:K.seq=K.m.seq+(K.past.length:Int):=rfl;refine⟨⟨v.o,by rw[t];exact h.info,c,h.calm.wf,h.calm.on,?_,(f.nodup_iff).2 h.seqs,ZaC K.runs _ _ g c,by omega,by omega,?_,I⟩,l,?_⟩
 .intro r z j H;have q:(Ve r.info.number.toNat j,Xi (Zp a.o r.info r.list j))∈K.d.files:=D.mem_iff.2 (by
   unfold Kp.filesAt;refine jb _ (jb _ (JB.2 ⟨r,z,?_⟩));rw[<-y];exact jg.2 ⟨j,Ud.2 H,rfl⟩)
  exact⟨_,(vD h.calm.wf.nodup).2 q,rfl⟩
 .intro e J;obtain⟨r,z,x,G,rfl⟩:=qaC J;have i:=h.allMem x (JB.2 ⟨r,z,G⟩);obtain⟨L,Q,M,S,N⟩:=C;rw[y];show 0<=x.id/\x.id<=281474976710656/\(x.code.length:Int)=K.m.o.width/8/\0<x.seq/\x.seq<=1152921504606846976;refine⟨i.2.1,i.2.2.1,by have:=i.1;omega,i.2.2.2.2.1,by have:=i.2.2.2.1;omega⟩
 .rw[<-p];simpa using yT (Xj a.o K.runs) []
theorem xN:∀(us:List Up) (K:Kp),Yz K us=K.play us
 |[],_=>rfl
 |u::r,K=>xN r _
theorem qbj{s:Qi}{A:List Up}(h:Q1 K s A)(n:Qb K.m.o=0){u:Up}(w:(qr s A).goes u)(b:u.fit (K.m.o.width.toNat/8))(D:u.seq=K.m.seq+A.length+1)(x:A.length<65536)(z:K.P.length<1048576)(j:u.seq<=1152921504606846976):xa0 K u:=by
 obtain⟨B,E,C,F⟩:=yM n;have t:=(yf n).1;have l:K.m.o.width/8=((K.m.o.width.toNat/8:Nat):Int):=by omega
 have d:=w;rw[<-h.live]at d;have e:=VaF t l (Kz h.wlen x) z d b.i0 b.i1 b.c1;have f:∀q∈K.P,0<=q.id/\q.id<=281474976710656/\(q.code.length:Int)=K.m.o.width/8:=λq j=>by
  have:=h.prs q j;exact⟨this.1,this.2.1,by rw[l,this.2.2]⟩
 have a:u.kind=2->vh K.P u∈K.P:=λk=>by
  rcases d with⟨y,_⟩|⟨_,p⟩
  .omega
  .obtain⟨c,g⟩:=UJ.1 p;have i:=(vk h.ids).1 g;unfold vh;rw[jd (by omega),g];exact i
 have v:=h.wlen;have r:=jT List.length h.past;refine⟨b.k,?_,by rw[e],n,f,?_,?_,?_,by have:=h.wlast;omega,j,.inr (by omega),by omega,by omega,by omega⟩
 .rcases b.k with k|k
  .rw[b.c1 k];omega
  .rw[b.c2 k];simp
 .rw[e];rcases b.k with k|k
  .refine⟨b.i0,b.i1,?_⟩;unfold vh;rw[jh k];show(u.code.length:Int)=_;rw[b.c1 k,l]
  .exact f _ (a k)
 .intro k i;rw[e]at i;rcases d with⟨_,p⟩|⟨y,_⟩
  .exact Vu.1 p i
  .omega
 .intro k;rw[e];exact a k
theorem qQ.of:∀(a:List Up) {K:Kp} {e:Qi} {A:List Up},Q1 K e A->Qb K.m.o=0->qC (qr e A) a->(∀u∈a,u.fit (K.m.o.width.toNat/8))->zm (K.m.seq+A.length) a->A.length+a.length<65536->K.P.length+a.length<1048576->K.m.seq+A.length+a.length<=1152921504606846976->qQ K a:=by
 intro a;induction a with
 |nil=>intro K e A _ _ _ _ _ _ _ _;trivial
 |cons u r ih =>
  intro K e A h c f g d n q j;simp only[jk]at n q j;obtain⟨s,D,z,F⟩:=yM c;have i:=(yf c).1;have l:K.m.o.width/8=((K.m.o.width.toNat/8:Nat):Int):=by omega
  obtain⟨C,k,E,b,G,t,y,v,w⟩:=qaq h i l f.1 (g u jc) d.1 (by omega) (by omega);have B:=d.1;refine⟨qbj h c f.1 (g u jc) d.1 (by omega) (by omega) (by omega),ih k (by rw[b];exact c) (by rw[zR];exact f.2) (λx p=>by rw[b];exact g x (jb _ p)) ?_ (by rw[ja,j8];omega) (by omega) (by rw[b,ja,j8];push_cast;omega)⟩;rw[b,ja,j8];have:=d.2;rw[show K.m.seq+((A.length+1:Nat):Int)=K.m.seq+A.length+1 by push_cast;omega];exact this
theorem ya2:s∈d.names<->s∈d.files.map (·.1):=by
 unfold Dk.names Xn;exact(JX _ _).mem_iff
def Xm(K:Kp)(m0:Mf):Kp:=vG K.d m0 K.runs (Yb (Qf [] (Xj m0.o K.runs))) K.past
theorem YaI(a:Mf)(s:Nat)(M:va)(h:Inv J)(hs:Xp J)(hf:J.d.Fits)(g:a={J.m with next:=a.next})(a8:a.next<=J.m.next)(b:a.good)(v:J.d.files.Perm (J.filesAt a s))
  (hD:Xa U q c J.d M w) (hc:zg U) (S:vi U) (Y:QI U) :
  Calls prog 13 #[za q] w (Qp U q c M (Xm J a)):=by
 have F:a.o=J.m.o:=by rw[g]
 have f:a.seq=J.m.seq:=by rw[g]
 have E:a.journal=J.m.journal:=by rw[g]
 have H:a.runs=J.m.runs:=by rw[g]
 obtain⟨T,hL,a4⟩:=xab.of h hs g b v;obtain⟨M0,b1,b2,b3,b4⟩:=h.base;obtain⟨l1,l2,l3⟩:=yW hL (UL _) b1;have C:=hs.held;unfold Kp.held at C;have a0:=VC (Qf [] (Xj a.o J.runs));obtain⟨Q,D⟩:=EN (Yb (Qf [] (Xj a.o J.runs)));rw[<-D]at l1 l2 l3 a0;have hA:Q1 (qai J.d a J.runs Q) M0 [] :=
  ⟨rfl,qR,jm _,l1,l2,λp hp=>by
   obtain⟨e,he,R⟩:=l3 p hp;have:=h.allMem e he;simp only[En.pair,Je]at R;show 0<=p.id/\p.id<=281474976710656/\p.code.length=a.o.width.toNat/8;rw[F,<-R.1,<-R.2];exact⟨this.2.1,this.2.2.1,this.1⟩,by show(0:Int)<=a.seq+0;rw[f];have:=h.good.s0;omega⟩
 obtain⟨w1,w2,w3,w4,w5⟩:=h.w;obtain⟨v1,v2,v3,v4⟩:=yM b.o;have a3:=hs.seq;have X:J.seq=J.m.seq+(J.past.length:Int):=rfl;have a2:=h.good.s0;have k:∀u∈J.past,u.fit (a.o.width.toNat/8):=by rw[F];exact h.fit
 have B:zm (a.seq+(([]:List Up).length:Int)) J.past:=by rw[f];simpa using h.num
 have L:qC (qr M0 []) J.past:=b2;have Z:=qQ.of J.past hA b.o L k B (by simp;omega) (by show Q.length+_<_;omega) (by show a.seq+(([]:List Up).length:Int)+_<=_;rw[f];simp;omega);obtain⟨t1,t2,t3,t4,t5,t6,t7⟩:=QaF J.past hA (yf b.o).1 (by show a.o.width/8=((a.o.width.toNat/8:Nat):Int);rw[F];exact w5) L k B (by simp;omega) (by show Q.length+_<_;omega);have a9:=b.j0;have a5:=b.j1;have a6:=b.n1;obtain⟨n,hn⟩:∃n:Nat,a.journal=(n:Int):=⟨a.journal.toNat,by omega⟩;have y:a.journal.toNat=n:=by omega
 have V:J.d.get Yc=some (Xi (mfB a)):=(vD h.calm.wf.nodup).2 (v.mem_iff.2 jc);have G:J.d.get (Qa n)=some ⟨vf J.past,s⟩:=(vD h.calm.wf.nodup).2 (v.mem_iff.2 (by
  unfold Kp.filesAt;rw[<-E,y];exact jb _ jc))
 have a7:=qae h.fit w2;have z:a.o.width=((8*(a.o.width.toNat/8):Nat):Int):=by rw[F]at v1 v2 v3|-;omega
 have t:∀x∈J.d.names,x=Yc\/x=Qa J.m.journal.toNat\/∃r∈J.runs,∃j,j<Qd J.m.o/\x=Ve r.info.number.toNat j:=λx O=>by
  have h1:=ya2.1 O;exact qJ.1 ((v.map (·.1)).mem_iff.1 h1)
 have l:∀r∈J.runs,1<=r.info.number/\r.info.number<=1099511627776:=λr A=>by
  have:=h.standing r A;have:=h.good.n1;omega
 have a1:=(Yj h.good.o).2;have I:=Zbi U w q c J.d a (Xi (mfB a)) ⟨J.d.age,false,[],0,0,0⟩ (qai J.d a J.runs Q) J.past ((vf J.past).length:Int) n M hD h.calm.wf hf h.calm.on V rfl b hc S Y
  (λW hh N hK=>by
   have:=Xba U W q c J.d a ⟨J.d.age,false,[],0,0,0⟩ hh (.pointer none) N J.runs T hK S hc;rw[<-D]at this;exact this)
  rfl rfl Z (by omega) (by rw[xN];exact t3) (by rw[xN];exact t2)
  (λW N hW=>by
   rw[hn,z];exact vbj U W q c J.d N n a.seq (a.o.width.toNat/8) J.past [] ⟨vf J.past,s⟩ (by omega) (by omega) (by rw[f];exact a2) (by rw[f];omega) (by rw[<-z];exact(yf b.o).1) (by rw[F];omega) (by rw[F];omega) hW h.calm.wf h.calm.on G (by rw[jJ]) (by show(vf J.past).length<=_;omega) (by omega) k (by rw[f];exact h.num) ⟨31,rfl,by decide⟩ S hc)
  hn (by
   unfold Dk.size;rw[G];simp only;rw[vE h.calm G];rfl)
  (λx O=>by
   rcases t x O with e|e|⟨r,A,j,hj,e⟩
   .exact .inl e
   .refine .inr (.inr (.inl ⟨n,by omega,by omega,?_⟩));rw[e,<-E,y]
   .refine .inr (.inr (.inr ⟨r.info.number.toNat,j,?_,?_,by omega,e⟩))
    .have:=l r A;omega
    .have:=l r A;omega)
  (Yak _ _ λx O=>by
   unfold vC;rcases t x O with e|e|⟨r,A,j,hj,e⟩
   .rw[e];simp
   .rw[e,<-E,y,hn,YI (by omega) (by omega)];simp
   .refine je _ (JB.2 ⟨r.info,?_,?_⟩)
    .rw[H,<-h.info];exact jg.2 ⟨r,A,rfl⟩
    .rw[e,F];unfold zJ vt;exact jg.2 ⟨j,Ud.2 hj,rfl⟩)
  (λi hi=>by
   rw[H,<-h.info]at hi;obtain⟨r,A,rfl⟩:=jg.1 hi;exact l r A)
 unfold Xm vG;rw[<-D,y,<-xN];exact I
theorem Zbj(l:List Pr)(i:Nat)(e:Qg J l i)(Q:i<=4000)(B:J.d.Fits)(G:Xa U q c J.d M w)(T:zg U)(F:vi U)(k:QI U):
  ∃a,Qg a l i/\a.d.Fits/\a.m.o=J.m.o/\a.seq=J.seq/\Calls prog 13 #[za q] w (Qp U q c M a):=by
 have p:=e.small Q;obtain⟨n,s,g,r,u,t⟩:=e.inv.disk;obtain⟨H,L,h⟩:=xab.of e.inv p g u t;obtain⟨S,E,N,O,I,R⟩:=Xax e.inv p g r u t L (UL _) h;obtain⟨a,b⟩:=EN (Xm J n);have z:=YaI U w q c J n s M e.inv p B g r u t G T F k;rw[<-b]at z;have D:Inv a:=by rw[b];exact S
 have A:a.P.Perm J.P:=by rw[b];exact E
 have x:a.past=J.past:=by rw[b];exact N
 have j:a.m=n:=by rw[b];exact O
 have C:a.runs=J.runs:=by rw[b];exact I
 have y:a.d=J.d:=by rw[b];exact R
 have f:a.seq=J.seq:=by unfold Kp.seq;rw[j,x,g]
 have v:a.all=J.all:=by unfold Kp.all;rw[C]
 refine⟨a,⟨D,A.trans e.perm,e.sorted,by rw[f];exact e.seq,by unfold Kp.held;rw[v,x];exact e.held,by rw[j];exact U7 r e.next,by rw[y];exact e.cap,by rw[A.length_eq];exact e.live⟩,by rw[y];exact B,by rw[j,g],f,z⟩
def o64:Op3:=⟨64,8,1⟩
theorem xa2:Qb o64=0:=by decide
theorem qal:vq (Dk.fresh 1048576):=⟨rfl,rfl,(XM 1048576 (by decide) (by decide)).wf⟩
structure XQ (K:Kp):Prop where
 inv:Inv K
 small:Xp K
 fits:K.d.Fits
 o:K.m.o=o64
def u1M:Up:=⟨0,1,5,ql 1⟩
def u2M:Up:=⟨0,1,5,ql 2⟩
theorem Ybj:∃c b,(Dk.fresh 1048576).create (Qa 1)=(c,0)/\c.store ⟨o64,0,2,1,[]⟩=(b,0)/\c.Fits/\b.age=c.age/\XQ (vw b o64)/\(vw b o64).d.cap=1048576:=by
 obtain⟨c,b,g,h,a,i⟩:=Yai qal rfl (by decide) xa2;obtain⟨k,j⟩:=X7 (XM 1048576 (by decide) (by decide)) g h;have e:b.cap=1048576:=a.cap;have f:c.age=(Dk.fresh 1048576).age:=by
  unfold Dk.create at g;have:c=((Dk.fresh 1048576).create (Qa 1)).1:=by unfold Dk.create;rw[g]
  rw[this];unfold Dk.create;split
  .rfl
  .split
   .rfl
   .split
    .rfl
    .rfl
 refine⟨c,b,g,h,k,by rw[a.age,f],⟨i,?_,j,rfl⟩,e⟩;exact⟨by show 5000+51200*(2*(0:Int)+2*0+0+2)<=b.cap;rw[e];decide,by show 0+0<=4000;decide,by show(0:Int)+0<=_;decide,by show(2:Int)<=_;decide,by show 0<=_;decide⟩
theorem xbr(x:UInt8):(⟨1,1,5,ql x⟩:Up).fit 8:=⟨by show(1:Int)<=1;decide,by show(1:Int)<=1152921504606846976;decide,.inl rfl,by show(0:Int)<=5;decide,by show(5:Int)<=281474976710656;decide,λ_=>rfl,λk=>by cases k⟩
theorem Xbj(h:XQ K)(s:K.P=[])(x:K.runs=[])(q:K.past=[])(i:K.m.seq=0)(p:K.m.next=2)(k:K.d.cap=1048576):
  ∃a,K.update u1M=(a,0)/\XQ a/\a.P=[⟨5,ql 1⟩]/\a.runs=[]/\a.past.length=1/\a.m=K.m/\a.d.cap=1048576:=by
 have g:K.seq=0:=by unfold Kp.seq;rw[q,i];rfl
 obtain⟨a,r,z,n,v,w,t,y⟩:=VS h.inv h.small (u:=u1M) (.inl ⟨rfl,by rw[s];rfl⟩) (by rw[g,h.o];exact xbr 1);have l:=Y7 h.fits u1M;rw[r]at l;have b:a.d.cap=1048576:=y.cap.trans k;have j:a.P=[⟨5,ql 1⟩]:=by rw[t,s];rfl
 have f:a.runs=[]:=v.trans x;have c:a.past.length=1:=by rw[w,q];rfl
 have e:a.all=[]:=by unfold Kp.all;rw[f];rfl
 refine⟨a,r,⟨z,⟨?_,?_,?_,?_,?_⟩,l,by rw[n];exact h.o⟩,j,f,c,n,b⟩
 .rw[e,c,f,b];decide
 .unfold Kp.held;rw[e,c];decide
 .unfold Kp.seq;rw[n,i,c];decide
 .rw[n,p];decide
 .rw[j];decide
theorem Vbj(h:XQ K)(d:K.P=[⟨5,ql 1⟩]):K.update u2M=(K,130):=by
 have a:=KOk.of h.inv h.small h.fits;have b:K.shut=false:=by unfold Kp.shut;rw[a.gone,a.off,a.age];simp
 have c:K.goes u2M=(⟨0,[]⟩,130):=by
  unfold Kp.goes;simp only;rw[jd (by decide),jd (by decide),h.o,d,jd (by decide),jh (by decide)]
 unfold Kp.update Kp.gate;rw[b,jd (by decide)];simp only[c];rw[jh (by decide)];simp only;rw[show decide ((130:Int)=45)=K.gone from by rw[a.gone];rfl]
theorem Qbj(h:XQ K)(t:K.P=[⟨5,ql 1⟩])(s:K.runs=[])(r:K.past.length=1)(j:K.m.seq=0)(l:K.m.next=2)(c:K.d.cap=1048576)
  (x:Inv L) (f:L.d.Fits) (n:L.P=K.P) (e:L.past=[]) (v:L.m.o=K.m.o) (p:L.m.seq=K.seq) (w:L.m.next=K.m.next+2) (q:L.all.length+L.past.length<=K.held) (u:L.d.cap=K.d.cap) (k:L.runs.length=K.runs.length+1) :
  XQ L/\L.P=[⟨5,ql 1⟩]/\L.runs.length=1/\L.seq=1:=by
 have i:K.all=[]:=by unfold Kp.all;rw[s];rfl
 have b:K.held=1:=by unfold Kp.held;rw[i,r];rfl
 have a:K.seq=1:=by unfold Kp.seq;rw[j,r];rfl
 have g:L.runs.length=1:=by rw[k,s];rfl
 rw[b,e]at q;simp only[jA]at q;refine⟨⟨x,⟨?_,?_,?_,?_,?_⟩,f,v.trans h.o⟩,n.trans t,g,by unfold Kp.seq;rw[p,a,e];rfl⟩
 .rw[u,c,e,g];simp only[jA];omega
 .unfold Kp.held;rw[e];simp only[jA];omega
 .unfold Kp.seq;rw[p,a,e];decide
 .rw[w,l];decide
 .rw[n,t];decide
theorem zbk(h:XQ K)(E:K.P=[⟨5,ql 1⟩])(B:K.runs.length=1)(F:K.past=[]):
  ∃(a:Mf) (s:Nat),a={K.m with next:=a.next}/\a.next<=K.m.next/\a.good/\K.d.files.Perm (K.filesAt a s)/\KOk (Xm K a)/\(Xm K a).P=[⟨5,ql 1⟩]/\(Xm K a).runs.length=1/\(Xm K a).m.o=o64/\(Xm K a).seq=K.seq:=by
 obtain⟨a,s,j,q,t,r⟩:=h.inv.disk;obtain⟨w,y,n⟩:=xab.of h.inv h.small j t r;obtain⟨D,v,A,u,x,C⟩:=Xax h.inv h.small j q t r y (UL _) n;have z:(Xm K a).m.o=o64:=by
  have:(Xm K a).m=a:=u;rw[this,j];exact h.o
 have i:(Xm K a).P=[⟨5,ql 1⟩]:=by
  have:=v;rw[E]at this;exact List.perm_singleton.1 this
 have l:=h.small;have e:(Xm K a).runs=K.runs:=x;have b:(Xm K a).past=K.past:=A;have g:(Xm K a).d=K.d:=C;have c:(Xm K a).m=a:=u;have k:(Xm K a).all=K.all:=by unfold Kp.all;rw[e]
 have f:a.seq=K.m.seq:=by rw[j]
 have p:Xp (Xm K a):=by
  refine⟨?_,?_,?_,?_,?_⟩
  .rw[k,b,e,g];exact l.room
  .unfold Kp.held;rw[k,b];exact l.held
  .unfold Kp.seq;rw[c,b,f];exact l.seq
  .rw[c];exact U7 q l.next
  .rw[i];decide
 exact⟨a,s,j,q,t,r,KOk.of D p (by rw[g];exact h.fits),i,by rw[e];exact B,z,by unfold Kp.seq;rw[c,b,f]⟩
theorem va2(a:K.P=[⟨5,ql 1⟩]):Yx K 5=(ql 1,0):=by
 unfold Yx;rw[jd (by decide),a];rfl
theorem qa2(b:K.P=[⟨5,ql 1⟩])(c:K.m.o=o64):atL K 7 1=[⟨5,ql 1⟩]/\∃p∈K.P,Yf K.m.o 7 p.code=1:=by
 have a:Yf o64 7 (ql 1)=1:=by decide +kernel
 refine⟨?_,⟨5,ql 1⟩,by rw[b];exact jC.2 rfl,by rw[c];exact a⟩;unfold atL;rw[b,c];simp[a]
theorem Za2(o:Op3)(M:va)(n:Qb o=0)(v:Xa U q c (Dk.fresh 1073741824) M w)(t:vi U)(k:QI U)(u:zg U):
  ∃K0,Qg K0 [] 0/\K0.d.Fits/\K0.m.o=o/\K0.seq=0/\Calls prog 7 #[za q,.agg #[OI o.width,OI o.chunks,OI o.mode]] w (Qp U q c M K0):=by
 have b:=XM 1073741824 (by decide) (by decide);have e:vq (Dk.fresh 1073741824):=⟨rfl,rfl,b.wf⟩;obtain⟨l,h,j,p,a,i⟩:=Yai e rfl (by decide) n;obtain⟨s,r⟩:=X7 b j p;have g:h.cap=1073741824:=a.cap;have f:l.age=(Dk.fresh 1073741824).age:=by
  have:l=((Dk.fresh 1073741824).create (Qa 1)).1:=by rw[j]
  rw[this];unfold Dk.create;split
  .rfl
  .split
   .rfl
   .split
    .rfl
    .rfl
 refine⟨vw h o,⟨i,UL _,kr,?_,?_,?_,g,?_⟩,r,rfl,rfl,Xas U w q c _ l h o M n b.wf b s rfl rfl j p (by rw[a.age,f]) v t k u⟩
 .show(0:Int)+0<=0;decide
 .show 0+0<=0;decide
 .show(2:Int)<=2+2*0;decide
 .show 0<=0;decide
end Go.Proofs.YtekkihmmclencaaGreatDoor
