import Derived.Test.YtekkihmmclencaaGreatDoorShelf
import Derived.Test.YtekkihmmclencaaGreatDoorM21
namespace Go.Proofs.YtekkihmmclencaaGreatDoor
set_option linter.all false
set_option maxRecDepth 100000
set_option maxHeartbeats 40000000
open Tryz
open Go Go.RowKit Go.Sort
variable(U w:World)(q c:Nat)(J:Kp)(h:KpH)(M:va){W V Z:World}{n b:Nat}{F:va}{K:Kp}{d:Dk}{P:Program}{Q:Exit->Act->World->Prop}{l:List En}
theorem Za.limbs{W0 W:World}{a e:Nat}{K:Kp}{h:KpH}{M:va}(d:Za W0 a e K h M W):St W0 W ((h.b,.cells (kpC a K h) 82)::M):=by
 have c:=d.2.rest;unfold KpH.frag at c;exact c.pmSub (D:=(h.bl,h.ol)::(h.bc,h.oc)::jnF h.bj a K.j::(h.Fm++(h.Fr++(h.rs.flatMap (vd.frag K.m.o)++(h.Fp++(h.dl.frag++(h.Ft++h.ts.flatMap KtH.frag))))))) CN
theorem Za.pm{W0 W:World}{h:KpH}{M M':va}(a:Za W0 n b K h M W)(c:∀x,cntF x M'=cntF x M):Za W0 n b K h M' W:=⟨a.1,a.2.pm λx=>by simp only[xa];have:=c x;omega⟩
theorem Za.pmSub{W0 W:World}{h:KpH}{M M' X:va}(a:Za W0 n b K h M W)(c:∀x,cntF x M'+cntF x X=cntF x M):Za W0 n b K h M' W:=⟨a.1,a.2.pmSub (X:=X) λx=>by simp only[xa];have:=c x;omega⟩
theorem Za.alloc{W0 W:World}{bd bm:Nat}{h:KpH}{M:va}(a:Za W0 bd bm K h M W)(o:Obj):Za W0 bd bm K h ((W.heap.size,o)::M) (W.alloc o):=⟨a.1,(a.2.alloc o).pm CN⟩
theorem Za.drew{W0 W:World}{h:KpH}{M:va}(a:Za W0 n b K h M W):Za W0 n b K h M W.drew:=⟨a.1,a.2.drew⟩
theorem Za.set{W0 W:World}{a d:Nat}{K:Kp}{h:KpH}{M:va}{b:Nat}{cs:Array Value}{T:TypeId}(c:Za W0 a d K h ((b,.cells cs T)::M) W)(i:Nat)(v:Value):Za W0 a d K h ((b,.cells (cs.setIfInBounds i v) T)::M) (W.setCell ⟨b,i,none⟩ v):=by
 have e:=Xa.set (c.2.pm (M':=(b,.cells cs T)::(h.frag a K++M)) CN) i v;exact⟨c.1,e.pm CN⟩
theorem Za.call{W0 W c:World}{h:KpH}{M M':va}(a:Za W0 n b K h M W)(k:St W c M'):Za W0 n b K h (M'++M) c:=⟨a.1,(a.2.call k).pm CN⟩
theorem Za.nameC{h:KpH}{c:Code}{a:Act}(d:Za V n b K h F W)(k:∀W',Za V n b K h F W'->c.wp P Q a W'):c.wp P Q a W:=k W d
theorem Za.nameE{W0 W:World}{bd bm:Nat}{h:KpH}{M:va}{c:Act->World->Prop}{b:Exit}{a:Act}(d:Za W0 bd bm K h M W)(k:∀W',Za W0 bd bm K h M W'->Exit.then c Q b a W'):Exit.then c Q b a W:=k W d
theorem Za.toJn{h:KpH}(a:Za V n b K h F W):JAt V n b h.bj K.d K.j (h.fragj n K (za h.bj)++F) W:=a.2.pm λx=>by
 unfold KpH.frag KpH.fragj kpC zk;simp only[xa,ya,OI,OT,OQ];omega
theorem Za.ofJn{c W:World}{b e:Nat}{K:Kp}{h:KpH}{M:va}{D:Dk}{j:Jn}(a:h.ok K)(f:JAt c b e h.bj D j (h.fragj b K (za h.bj)++M) W):Za c b e {K with j:=j,d:=D} h M W :=
 ⟨⟨a.mrow,a.runs,a.each,a.rrow,a.prow,a.dok,a.dw,a.dt,a.lmap,a.lperm,a.cmap,a.cok,a.trow,a.tabs,a.tlen,a.tok⟩,Xa.pm f λx=>by
  unfold KpH.frag KpH.fragj kpC zk;simp only[xa,ya,OI,OT,OQ];omega⟩
theorem ZaX(L J q f:Nat)(K:Kp)(h:KpH)(u:Up)(M:va)(hc:zg U)(a:KOk K)(hk:u.kind=1\/u.kind=2)(ag:u.code.length<=4611686018427387904)(am:u.kind=2->u.code=[])
  (i:Za U L J K h ((f,.cells (upV u).toArray 35 (0,0))::(q,.cells #[za h.b] 29)::M) w) :
  Calls prog 103 #[za q,za f] w (zd U L J h.b M (zQ K u)):=by
 obtain⟨g1,g2⟩:=yf a.opt;obtain⟨w0,w1,w2⟩:=Xd.1 g1;have ad:K.m.seq<=K.seq:=by unfold Kp.seq;omega
 have ab:K.seq<=K.m.seq+999999:=by unfold Kp.seq;have:=a.past;omega
 have aB:=a.s0;have aE:=a.s1;obtain⟨w8,ap⟩:∃w8:Nat,(w8:Int)=K.m.o.width/8:=⟨(K.m.o.width/8).toNat,by omega⟩;have HU:=Hi (show zQ K u=zQ K u from rfl);obtain⟨R,hR⟩:=NE (zQ K u);rw[hR];unfold zQ at hR;have Z:=Hi (λe=>qaX a hk e);have Y:=Hi (λW (hW:Za U L J K h ((f,.cells (upV u).toArray 35 (0,0))::(q,.cells #[za h.b] 29)::M) W)=>YaH U W L J K h (za h.bj) u _ hW.toJ hk ag (λp hp=>⟨(a.prs p hp).1,(a.prs p hp).2.1,by have:=(a.prs p hp).2.2;omega⟩) g1 (by have:=a.plen;omega));have F:=Hi (λ(N:va) W (hW:Za U L J K h N W)=>Y5 U W L J K h N hW aB (by omega) (by have:=a.past;omega));obtain⟨a6,c,HK,A,a5⟩:=Hi5 a hR i hk am;obtain⟨aA,aj,az⟩:=Hi3 hc ap ag;obtain⟨gp,ge⟩:=NE (K.goes u);obtain⟨l,T⟩:=NE K.seq;rw[T]at F ad ab;have H:=Hi T;rw[ge]at Y Z c;rw[T]at c;obtain⟨p,e0⟩:=gp;simp only at Y Z c;have a0:=i.limbs.tail.tail.cellH 0;obtain⟨a1,a2,a3,a4⟩:=i.limbs.tail.k4 0 1 2 3;have D:=Hi (Y.o w i);clear i a hR hk am hc ge T ap g2 g1 Y HU ag;obtain⟨us,s,t,n⟩:=u;obtain⟨z,Q⟩:=p;unfold upV at *;unfold Vd at D F;unfold zd;unfold za qa at *;simp only at *;go_enter func103,ntmps103;go_upto_region 2 with(go_at_call 95;refine D.o.mono ?_;rintro e' w2 ⟨rfl,ao⟩;have au:=Hi ((HK.o.callB ao).alloc (.cells #[OI z,OT Q] 86));clear ao)
 obtain⟨C,hC⟩:=EN w2.heap.size;have af:=au.o;rw[<-hC]at af;rw[<-hC];refine af.nameC ?_;clear au af hC a0 a1 a2 a3 a4 D HK;intro w3 i;have HK:=Hi i;by_cases x0:e0=0
 .subst x0;have G:=c.o;rw[jd (by simp)]at G;obtain⟨u0,u1,v1,v2,v3,v4,v5⟩:=Z.o rfl
  skip
  have V:=Hi (jy v1 (jy v2 (jy v3 (jy v4 v5))));have B:=Hi (F.o _ w3 i);have c0:=i.limbs.tail.tail.tail.cellH 0;clear i v1 v2 v3 v4 v5 c Z;by_cases x1:1152921504606846976<=l
  .rw[jh x1]at G;have c:=Hi G;clear G;go_wp2_with (go_at_call 14;refine B.o.mono ?_;rintro e' w4 ⟨rfl,I⟩;have a7:=Hi (HK.o.callB I);clear I);go_ret;rw[<-c.o];exact⟨rfl,h,rfl,a7.o.pmSub (X:=[(C,.cells #[OI z,OT Q] 86),(f,.cells #[OI us,OI s,OI t,OT n] 35),(q,.cells #[OQ h.b] 29)]) CN⟩
  .rw[jd x1]at G;have c:=Hi G;clear G;go_upto_region 6 with(go_at_call 14;refine B.o.mono ?_;rintro e' w4 ⟨rfl,I⟩;have a7:=Hi (HK.o.callB I);clear I)
   clear B HK c0;have i:=a7.o;have a9:=Hi (F.o _ w4 i);have c0:=i.limbs.tail.tail.tail.cellH 0;have av:=Hi (λ(W:World) (hW:Below w4.heap.size w4 W)=>show(OV W f 0 (OI us)/\OZ W f 0)/\Za U L J K h ((C,.cells #[OI z,OT Q] 86)::(f,.cells #[OI (l+1),OI s,OI t,OT n] 35)::(q,.cells #[OQ h.b] 29)::M) (W.setCell ⟨f,0,none⟩ (OI (l+1)))from by
    have O:=(i.callB hW).pm (M':=(f,.cells #[OI us,OI s,OI t,OT n] 35)::(C,.cells #[OI z,OT Q] 86)::(q,.cells #[OQ h.b] 29)::M) CN;exact⟨⟨O.limbs.tail.cellH 0,O.limbs.tail.freeH 0⟩,(O.set 0 (OI (l+1))).pm λy=>by simp only[jf,ji,ya,OI,OT,OQ];omega⟩)
   clear i F a7;go_upto_region 7 with(go_at_call 14;refine a9.o.mono ?_;rintro e' w5 ⟨rfl,ay⟩;obtain⟨⟨y0,y1⟩,ak⟩:=av.o _ ay;have aw:=Hi ak;clear ay ak)
   refine aw.o.nameC ?_;clear aw av a9 c0 y0 y1;intro w6 i;have HL:=Hi (λ(W:World) (K':Kp) (hW:Za U L J K' h ((C,.cells #[OI z,OT Q] 86)::(f,.cells #[OI (l+1),OI s,OI t,OT n] 35)::(q,.cells #[OQ h.b] 29)::M) W)=>show OV W q 0 (OQ h.b)/\OV W h.b 11 (OQ h.bj)/\OV W f 0 (OI (l+1))/\OV W f 1 (OI s)/\OV W f 2 (OI t)/\OV W f 3 (OT n)from
    ⟨hW.limbs.tail.tail.tail.cellH 0,hW.limbs.cellH 11,hW.limbs.tail.tail.cellH 0,hW.limbs.tail.tail.cellH 1,hW.limbs.tail.tail.cellH 2,hW.limbs.tail.tail.cellH 3⟩)
   have an:=Hi (HL.o w6.drew K i.drew);obtain⟨ax,ah⟩:=jy A.o a5.o;have a:=a6.o;have E:(⟨l+1,s,t,n⟩:Up).fit w8:=⟨by show 1<=l+1;omega,by show l+1<=_;omega,ax,u0,u1,λk=>by have:=(V.o.2.2.1 k).2;have:=aj.o;show n.length=w8;omega,ah⟩;have aa:=aj.o;have x:=Hi (zaW U w6.drew L J h.bj K.d K.j ⟨l+1,s,t,n⟩ w8 _ i.drew.toJn a.jgone a.off a.jage E (by omega) (by omega) (by omega) (by rw[a.jw];exact(yf a.opt).1) (by rw[a.jw];exact aa.symm) (by show l+1=_;rw[a.jl,H.o]) a.fits a.jn aA.o);have al:=Hi (zaN a.jgone a.off a.jage E (by omega) (by omega) (by omega) (by rw[a.jw];exact(yf a.opt).1) (by rw[a.jw];exact aa.symm) (by show l+1=_;rw[a.jl,H.o]));have a8:=c.o;rw[al.o]at a8;obtain⟨⟨j1,d1,y1⟩,ar⟩:=NE (YD K.j K.d ⟨l+1,s,t,n⟩);rw[ar]at x a8;have ac:=Hi a8;unfold xH upV at x;unfold za qa at x;simp only at x ac;have ae:=Hi i.1;clear i ax ah a E aa al a8 ar c;go_region_held3 (λW=>W.cell? ⟨q,0,none⟩=some (.pointer (some ⟨h.b,0,none⟩))/\W.cell? ⟨h.b,11,none⟩=some (.pointer (some ⟨h.bj,0,none⟩))/\W.cell? ⟨f,0,none⟩=some (.int .i64 (l+1))/\W.cell? ⟨f,1,none⟩=some (.int .i64 s)/\W.cell? ⟨f,2,none⟩=some (.int .i64 t)/\W.cell? ⟨f,3,none⟩=some (.string ⟨n.toArray⟩)) (first|with_reducible exact HL.o _ _ v.o|with_reducible exact an.o|(go_keep;done)) (first|(go_at_call 104;refine x.o.mono ?_;rintro e' w7 ⟨rfl,aq⟩;have v:=Hi (Za.ofJn ae.o aq);clear aq));have hx:=ac.o;clear an x ac aA;by_cases z0:y1=0
   .subst z0;rw[jd (by simp)]at hx;have aD:=HL.o _ _ v.o;obtain⟨l0,l1,l2,l3,l4,l5⟩:=aD;obtain⟨p0,p1⟩:=v.o.limbs.tail.k2 0 1;have a:=a6.o;obtain⟨v1,v2,v3,v4,v5⟩:=V.o;have S:=Hi (XaH U w7 L J {K with j:={j1 with gone:=decide ((0:Int)=45)},d:=d1} h (OQ h.bj) ⟨l+1,s,t,n⟩ ⟨z,Q⟩ _ v.o.toJ A.o a.opt a.prs ⟨by show 0<=z;omega,by show z<=_;omega,v2⟩ (λk=>(v3 k).1) v4 (by show K.wlast<l+1;have O:=a.wlast;have h2:=H.o;omega) (by show l+1<=_;omega) v5 (by have O:=a.wlen;show K.words.length<=_;omega) (by have O:=a.plen;show K.P.length<=_;omega) (by have O:=a.past;show K.past.length<=_;omega) (by show n.length<=_;rcases A.o with k|k;(have O:=(v3 k).2;omega);(have O:n=[]:=a5.o k;rw[O];simp)));unfold xC at S;unfold za qa upV at S;simp only at S;have HX:=Hi hx;clear a v1 v2 v3 v4 v5 hx HL a6 V A a5 az H ae;go_wp2_with (go_at_call 96;refine S.o.mono ?_;rintro e' w8 ⟨rfl,h8,e1,e2,ai⟩;obtain⟨E1,E2,aC⟩:=Hi3 e1 e2 ai;clear e1 e2 ai);go_ret;rw[<-HX.o];refine⟨rfl,h8,E1.o,?_⟩;have hq:=aC.o;rw[<-E2.o]at hq;exact(vc.toK (h:=h8) (by simpa [za,Kp.made] using hq)).pmSub (X:=[(C,.cells #[OI z,OT Q] 86),(f,.cells #[OI (l+1),OI s,OI t,OT n] 35),(q,.cells #[OQ h.b] 29)]) CN
   .rw[jh z0]at hx;have HX:=Hi hx;have z1:(y1 != 0)=true:=by simpa using z0
    clear hx HL a6 V A a5 az H ae;go_wp2_with fail;go_ret;rw[<-HX.o];exact⟨rfl,h,rfl,v.o.pmSub (X:=[(C,.cells #[OI z,OT Q] 86),(f,.cells #[OI (l+1),OI s,OI t,OT n] 35),(q,.cells #[OQ h.b] 29)]) CN⟩
 .have G:=c.o;rw[jh x0]at G;have c:=Hi G;have x1:(e0 != 0)=true:=by simpa using x0
  clear G i;go_wp2_with fail;go_ret;rw[<-c.o];exact⟨rfl,h,rfl,HK.o.pmSub (X:=[(C,.cells #[OI z,OT Q] 86),(f,.cells #[OI us,OI s,OI t,OT n] 35),(q,.cells #[OQ h.b] 29)]) CN⟩
theorem KOk.open(h:KOk K):K.shut=false:=by unfold Kp.shut;rw[h.gone,h.off];simp[h.age]
theorem YaX(h:KOk K)(u:Up):K.update u=({ (zQ K u).1 with gone:=decide ((zQ K u).2=45)},(zQ K u).2):=by
 unfold Kp.update;rw[qq h.open];rfl
theorem xas(u:Up)(M:va)(t:zg U)(a:KOk J)(n:u.kind=1\/u.kind=2)(i:u.code.length<=4611686018427387904)(g:u.kind=2->u.code=[])(r:Za U q c J h M w):
  Calls prog 46 #[za h.b,.agg (upV u).toArray] w (zd U q c h.b M (J.update u)):=by
 have z:∀(fn:Fn) (first cap:Array Value) (w:World),(Instr.makeFunc fn first cap).run prog w=.ok (.func fn first cap) w:=λ_ _ _ _=>rfl
 rw[YaX a];have d:=(r.alloc (.cells #[za h.b] 29)).alloc (.cells (upV u).toArray 35);rw[jF]at d;obtain⟨b2,e⟩:=EN w.heap.size;rw[<-e]at d;have f:=Hi (λW (hW:Za U q c J h ((b2+1,.cells (upV u).toArray 35 (0,0))::(b2,.cells #[za h.b] 29)::M) W)=>zF U W q c J (zQ J u).1 h (zQ J u).2 _ M 103 #[za b2,za (b2+1)] (λ_ _=>rfl) hW a.gone a.off a.age λA B=>ZaX U A q c b2 (b2+1) J h u M t a n i g B);obtain⟨⟨D,G⟩,x⟩:=NE (zQ J u);rw[x]at f|-
 simp only at f|-
 obtain⟨s,p⟩:=Hi2 d e;clear d e r a n i g t x;unfold zd at *;simp only at f;unfold upV at *;unfold za qa at *;go_enter func46,ntmps46;go_upto_region 1 with(fail)
 rw[<-p.o];refine s.o.nameC ?_;clear s p;intro m d;have F:=d.limbs.tail.tail.cellH 0;have l:=Hi (f.o m d);clear d f;go_wp2_with (go_at_call 47;refine l.o.mono ?_;rintro E H ⟨rfl,y,v,j⟩;obtain⟨C,k⟩:=Hi2 v j;clear v j);go_ret;exact⟨rfl,y,C.o,k.o⟩
theorem Q5(id:Int)(a:Bs)(M:va)(n:zg U)(d:KOk J)(e:a.length<=4611686018427387904)(m:Za U q c J h M w):
  Calls prog 17 #[za h.b,OI id,qa a] w (zd U q c h.b M (J.update ⟨0,1,id,a⟩)):=by
 have i:=Hi (xas U w q c J h ⟨0,1,id,a⟩ M n d (.inl rfl) e (λk=>by cases k) m);obtain⟨⟨s,t⟩,l⟩:=NE (J.update ⟨0,1,id,a⟩);rw[l]at i|-
 clear m d e n l;unfold zd at *;unfold upV at *;unfold za qa at *;simp only at i;go_enter func17,ntmps17;go_wp2_with (go_at_call 46;refine i.o.mono ?_;rintro v u ⟨rfl,p,j,f⟩;obtain⟨r,g⟩:=Hi2 j f;clear j f);go_ret;exact⟨rfl,p,r.o,g.o⟩
theorem XaX(id:Int)(M:va)(k:zg U)(a:KOk J)(j:Za U q c J h M w):
  Calls prog 33 #[za h.b,OI id] w (zd U q c h.b M (J.update ⟨0,2,id,[]⟩)):=by
 have f:=Hi (xas U w q c J h ⟨0,2,id,[]⟩ M k a (.inr rfl) (by simp) (λ_=>rfl) j);obtain⟨⟨n,p⟩,i⟩:=NE (J.update ⟨0,2,id,[]⟩);rw[i]at f|-
 clear j a k i;unfold zd at *;unfold upV at *;unfold za qa at *;simp only at f;go_enter func33,ntmps33;go_wp2_with (go_at_call 46;refine f.o.mono ?_;rintro s r ⟨rfl,l,g,d⟩;obtain⟨m,e⟩:=Hi2 g d;clear g d);go_ret;exact⟨rfl,l,m.o,e.o⟩
theorem qbg(u:Up)(M:va)(H:zg U)(n:KOk J)(I:u.kind=1\/u.kind=2)(x:u.code.length<=4611686018427387904)(g:u.kind=2->u.code=[])(L:Za U q c J h M w):
  Calls prog 10 #[za h.b,.agg (upV u).toArray] w (zd U q c h.b M (J.update u)):=by
 obtain⟨p,A,a,f⟩:=u;have d:=L.alloc (.cells (upV ⟨p,A,a,f⟩).toArray 35);have s:=Hi (λW (hW:Za U q c J h ((w.heap.size,.cells (upV ⟨p,A,a,f⟩).toArray 35 (0,0))::M) W)=>Q5 U W q c J h a f _ H n x hW);have r:=Hi (λW (hW:Za U q c J h ((w.heap.size,.cells (upV ⟨p,A,a,f⟩).toArray 35 (0,0))::M) W)=>XaX U W q c J h a _ H n hW);have t:=Hi d;simp only at I g;have i:J.update ⟨p,1,a,f⟩=J.update ⟨0,1,a,f⟩:=rfl;have E:J.update ⟨p,2,a,[]⟩=J.update ⟨0,2,a,[]⟩:=rfl;obtain⟨C,B⟩:=EN w.heap.size;rw[<-B]at t s r;have z:=Hi B;clear d B L n x H;unfold upV at *;rcases I with k|k
 .subst k;rw[i];obtain⟨⟨N,S⟩,v⟩:=NE (J.update ⟨0,1,a,f⟩);rw[v]at s|-
  clear v r i E g;unfold zd at *;unfold za qa at *;simp only at s;go_enter func10,ntmps10;go_upto_region 1 with(fail)
  rw[<-z.o];refine t.o.nameC ?_;clear t z;intro j d;obtain⟨P,Q,V⟩:=d.limbs.tail.k3 1 2 3;have m:=Hi (s.o j d);clear d s;go_wp2_with (go_at_call 17;refine m.o.mono ?_;rintro O T ⟨rfl,D,i,e⟩;obtain⟨G,l⟩:=Hi2 i e;clear i e);go_ret;exact⟨rfl,D,G.o,l.o.pmSub (X:=[(C,.cells #[OI p,OI 1,OI a,OT f] 35)]) CN⟩
 .subst k;have F:=g rfl;subst F;rw[E];obtain⟨⟨N,S⟩,v⟩:=NE (J.update ⟨0,2,a,[]⟩);rw[v]at r|-
  clear v s i E g;unfold zd at *;unfold za qa at *;simp only at r;go_enter func10,ntmps10;go_upto_region 1 with(fail)
  rw[<-z.o];refine t.o.nameC ?_;clear t z;intro j d;obtain⟨P,Q⟩:=d.limbs.tail.k2 1 2;have m:=Hi (r.o j d);clear d r;go_wp2_with (go_at_call 33;refine m.o.mono ?_;rintro O T ⟨rfl,D,i,e⟩;obtain⟨G,l⟩:=Hi2 i e;clear i e);go_ret;exact⟨rfl,D,G.o,l.o.pmSub (X:=[(C,.cells #[OI p,OI 2,OI a,.string ⟨(#[]:Array UInt8)⟩] 35)]) CN⟩
theorem Za.setC{f W:World}{c g:Nat}{K a:Kp}{h:KpH}{M:va}(q:Za f c g K h M W)(i:Nat)(v:Value)(l:h.ok a)(e:kpC c a h=(kpC c K h).setIfInBounds i v)(n:a.d=K.d)(r:a.j=K.j)(p:a.m.o=K.m.o):Za f c g a h M (W.setCell ⟨h.b,i,none⟩ v):=by
 refine⟨l,?_⟩;have k:=q.2;unfold KpH.frag at k|-
 rw[e,n,r,p];exact Xa.set k i v
theorem Za.setSynced{c W:World}{d e:Nat}{K:Kp}{h:KpH}{M:va}(f:Za c d e K h M W)(s:Int):Za c d e {K with synced:=s} h M (W.setCell ⟨h.b,14,none⟩ (OI s)):=by
 have a:=f.1;exact f.setC 14 _ ⟨a.mrow,a.runs,a.each,a.rrow,a.prow,a.dok,a.dw,a.dt,a.lmap,a.lperm,a.cmap,a.cok,a.trow,a.tabs,a.tlen,a.tok⟩ rfl rfl rfl rfl
theorem Za.setNext{c W:World}{d e:Nat}{K:Kp}{h:KpH}{M:va}(f:Za c d e K h M W)(s:Int):Za c d e {K with m:={K.m with next:=s}} h M (W.setCell ⟨h.b,7,none⟩ (OI s)):=by
 have a:=f.1;exact f.setC 7 _ ⟨a.mrow,a.runs,a.each,a.rrow,a.prow,a.dok,a.dw,a.dt,a.lmap,a.lperm,a.cmap,a.cok,a.trow,a.tabs,a.tlen,a.tok⟩ rfl rfl rfl rfl
def qX(K:Kp):Kp × Int :=
 let r:=K.j.sync K.d
 if r.2.2≠0 then({K with j:=r.1,d:=r.2.1},r.2.2)else({K with j:=r.1,d:=r.2.1,synced:=K.seq},0)
theorem Zbg(h:KOk K):K.sync=({ (qX K).1 with gone:=decide ((qX K).2=45)},(qX K).2):=by
 unfold Kp.sync;rw[qq h.open];rfl
theorem Qa7{j:Jn}(b:j.gone=false)(c:d.off=false)(e:d.age=j.age):j.sync d=({ (XD j d).1 with gone:=decide ((XD j d).2.2=45)},(XD j d).2):=by
 unfold Jn.sync XD;have a:j.shut d=false:=by unfold Jn.shut;rw[b,c];simp[e]
 rw[a];simp only[JD,Jb];by_cases hx:(d.sync j.name).2=0
 .rw[jd (by simpa using hx),jd (by simpa using hx)];rfl
 .rw[jh hx,jh hx]
theorem za8(n w:World)(t u e:Nat)(K:Kp)(h:KpH)(M:va)(a:KOk K)
  (i:Za n t u K h ((e,.cells #[za h.b] 29)::M) w) :
  Calls prog 81 #[za e] w (zd n t u h.b M (qX K)):=by
 have f:=Hi (λ(K':Kp) (e1:K'.m=K.m) (e2:K'.past=K.past) W (hW:Za n t u K' h ((e,.cells #[za h.b] 29)::M) W)=>Y5 n W t u K' h _ hW (by rw[e1];exact a.s0) (by rw[e1];exact a.s1) (by rw[e2];have:=a.past;omega));obtain⟨R,l⟩:=NE (qX K);rw[l];unfold qX at l;rw[Qa7 a.jgone a.off a.jage]at l;have z:=Hi (Vbf n w t u h.bj K.d K.j _ i.toJn a.jgone a.off a.jage a.fits a.jn);obtain⟨⟨Q,S,H⟩,s⟩:=NE (XD K.j K.d);rw[s]at z l;obtain⟨x,D,L⟩:=Hi3 l i.1 i;have E:w.cell? ⟨e,0,none⟩=some (za h.b):=i.limbs.tail.cellH 0;have N:w.cell? ⟨h.b,11,none⟩=some (za h.bj):=i.limbs.cellH 11;clear l s a i;unfold xH at z;unfold zd;unfold Vd at f;unfold za at *;simp only at *;go_enter func81,ntmps81;go_upto_region 2 with(go_at_call 82;refine z.o.mono ?_;rintro J A ⟨rfl,p⟩;have c:=Hi (Za.ofJn D.o p);clear p)
 have k:=x.o;clear E N z L x;by_cases z0:H=0
 .subst z0;rw[jd (by simp)]at k;have G:=Hi k;have q:=Hi (f.o _ (by rfl) (by rfl) A.drew c.o.drew);have E:A.drew.cell? ⟨e,0,none⟩=some (.pointer (some ⟨h.b,0,none⟩)):=c.o.drew.limbs.tail.cellH 0;have I:=Hi (λ(W:World) (hb:Below A.drew.heap.size A.drew W)=>show(W.cell? ⟨e,0,none⟩=some (.pointer (some ⟨h.b,0,none⟩)))/\(W.cell? ⟨h.b,14,none⟩=some (.int .i64 K.synced)/\W.frozen? ⟨h.b,14,none⟩=false)/\(∀v,(W.setCell ⟨h.b,14,none⟩ v).cell? ⟨e,0,none⟩=some (.pointer (some ⟨h.b,0,none⟩)))from by
   have B:=(c.o.drew.callB hb).limbs;exact⟨B.tail.cellH 0,⟨B.cellH 14,B.freeH 14⟩,λv=>(B.set 14 v).tail.cellH 0⟩)
  clear k f;go_upto_region 3 with(fail)
  go_region_held3 (λW=>W.cell? ⟨e,0,none⟩=some (.pointer (some ⟨h.b,0,none⟩))) (first|with_reducible exact F.2.2 _|with_reducible exact F.1|with_reducible exact E|(go_keep;done)) (first|(go_at_call 14;refine q.o.mono ?_;rintro J T ⟨rfl,g⟩;have F:=I.o _ g;obtain⟨P,O⟩:=F.2.1;have C:=Hi ((c.o.drew.callB g).setSynced K.seq);clear g));go_wp2_with fail;go_ret;rw[<-G.o];exact⟨rfl,h,rfl,C.o.pmSub (X:=[(e,.cells #[.pointer (some ⟨h.b,0,none⟩)] 29)]) CN⟩
 .rw[jh z0]at k;have G:=Hi k;clear k f;go_wp2_with fail;go_ret;rw[<-G.o];exact⟨rfl,h,rfl,c.o.pmSub (X:=[(e,.cells #[.pointer (some ⟨h.b,0,none⟩)] 29)]) CN⟩
theorem Ybg(a:KOk J)(m:Za U q c J h M w):
  Calls prog 34 #[za h.b] w (zd U q c h.b M J.sync):=by
 have t:∀(fn:Fn) (first cap:Array Value) (w:World),(Instr.makeFunc fn first cap).run prog w=.ok (.func fn first cap) w:=λ_ _ _ _=>rfl
 rw[Zbg a];have d:=m.alloc (.cells #[za h.b] 29);obtain⟨b2,e⟩:=EN w.heap.size;rw[<-e]at d;have f:=Hi (λW (hW:Za U q c J h ((b2,.cells #[za h.b] 29)::M) W)=>zF U W q c J (qX J).1 h (qX J).2 _ M 81 #[za b2] (λ_ _=>rfl) hW a.gone a.off a.age λu v=>za8 U u q c b2 J h M a v);obtain⟨⟨y,B⟩,r⟩:=NE (qX J);rw[r]at f|-
 simp only at f|-
 obtain⟨n,l⟩:=Hi2 d e;clear d e m a r;unfold zd at *;simp only at f;unfold za at *;go_enter func34,ntmps34;go_upto_region 1 with(fail)
 rw[<-l.o];refine n.o.nameC ?_;clear n l;intro k d;have A:=d.limbs.tail.cellH 0;have j:=Hi (f.o k d);clear d f;go_wp2_with (go_at_call 47;refine j.o.mono ?_;rintro z C ⟨rfl,s,p,g⟩;obtain⟨x,i⟩:=Hi2 p g;clear p g);go_ret;exact⟨rfl,s,x.o,i.o⟩
def Zx(K:Kp):Kp × Int:=if 1099511627776<=K.m.next then(K,151)else({K with m:={K.m with next:=K.m.next+1}},0)
theorem vas(h:KOk K):K.number=({ (Zx K).1 with gone:=decide ((Zx K).2=45)},(Zx K).2):=by
 unfold Kp.number;rw[qq h.open];rfl
def zao(W0:World)(bd bm b:Nat)(M:va)(n:Int)(r:Kp × Int)(e:Ending)(w':World):Prop:=e=.returned (.tuple #[.int .i64 (if r.2=0 then n else 0),.int .i64 r.2])/\∃h,h.b=b/\Za W0 bd bm r.1 h M w'
theorem Xbg(t u g i:Nat)(K:Kp)(h:KpH)(M:va)(D:0<=K.m.next)
  (a:Za U t u K h ((i,.cells #[OI 0] 3)::(g,.cells #[za h.b] 29)::M) w) :
  Calls prog 90 #[za g,za i] w (zd U t u h.b ((i,.cells #[OI (if(Zx K).2=0 then K.m.next else 0)] 3)::M) (Zx K)):=by
 have e:=Hi (a.set 0 (OI K.m.next));have z:=a.limbs.tail.tail.cellH 0;have p:OV w h.b 7 (OI K.m.next):=a.limbs.cellH 7;have C:=a.limbs.tail.cellH 0;have B:=a.limbs.tail.freeH 0;have x:=Hi a;obtain⟨n,l⟩:=NE K.m.next;have j:=Hi l;obtain⟨R,d⟩:=NE (Zx K);rw[d];unfold Zx at d;rw[l]at p e d D|-
 obtain⟨v,c⟩:=NE ((if R.2=0 then n else 0));rw[c];have A:=Hi c;clear a l c;unfold zd;unfold za at *;by_cases q:1099511627776<=n
 .rw[jh q]at d;have f:=Hi d;clear d;go_enter func90,ntmps90;go_wp2_with fail;go_ret;have c:=A.o;rw[<-f.o]at c|-
  simp at c;subst c;exact⟨rfl,h,rfl,x.o.pmSub (X:=[(g,.cells #[OQ h.b] 29)]) CN⟩
 .rw[jd q]at d;have f:=Hi d;clear d x;go_enter func90,ntmps90;go_upto_region 4 with fail
  refine e.o.nameC ?_;clear e z p C B;intro s a;have z:=a.limbs.tail.tail.cellH 0;have p:s.cell? ⟨h.b,7,none⟩=some (OI n):=by rw[<-j.o];exact a.limbs.cellH 7
  have E:=a.limbs.freeH 7;have k:=Hi (a.setNext (n+1));clear a;go_wp2_with fail;go_ret;have c:=A.o;rw[<-f.o]at c|-
  simp at c;subst c;refine⟨rfl,h,rfl,?_⟩;have r:=j.o;have:=k.o;subst r;exact this.pmSub (X:=[(g,.cells #[OQ h.b] 29)]) λy=>by simp only[jf,ji,ya,OI,OT,OQ,Ya];omega
theorem VaX(a:KOk J)(B:0<=J.m.next)(n:Za U q c J h M w):
  Calls prog 36 #[za h.b] w (zao U q c h.b M J.m.next J.number):=by
 have x:∀(fn:Fn) (first cap:Array Value) (w:World),(Instr.makeFunc fn first cap).run prog w=.ok (.func fn first cap) w:=λ_ _ _ _=>rfl
 rw[vas a];have d:=(n.alloc (.cells #[za h.b] 29)).alloc (.cells #[OI 0] 3);rw[jF]at d;obtain⟨b2,f⟩:=EN w.heap.size;rw[<-f]at d;have e:=Hi (λW (hW:Za U q c J h ((b2+1,.cells #[OI 0] 3)::(b2,.cells #[za h.b] 29)::M) W)=>zF U W q c J (Zx J).1 h (Zx J).2 _ ((b2+1,.cells #[OI (if(Zx J).2=0 then J.m.next else 0)] 3)::M) 90 #[za b2,za (b2+1)] (λ_ _=>rfl) hW a.gone a.off a.age λz A=>Xbg U z q c b2 (b2+1) J h M B A);obtain⟨⟨F,D⟩,t⟩:=NE (Zx J);rw[t]at e|-
 simp only at e|-
 obtain⟨v,s⟩:=NE ((if D=0 then J.m.next else 0));unfold zao;simp only;rw[s]at e|-
 obtain⟨p,l⟩:=Hi2 d f;clear d f n a t s;unfold zd at e;simp only at e;unfold za at *;go_enter func36,ntmps36;go_upto_region 2 with(fail)
 rw[<-l.o];refine p.o.nameC ?_;clear p l;intro k d;have H:=d.limbs.tail.tail.cellH 0;have j:=Hi (e.o k d);clear d e;go_wp2_with (go_at_call 47;refine j.o.mono ?_;rintro G E ⟨rfl,u,r,g⟩;have C:=Hi r;have I:=g.limbs.tail.cellH 0;have i:=Hi g;clear r g);go_ret2;exact⟨rfl,u,C.o,i.o.pmSub (X:=[(b2+1,.cells #[OI v] 3)]) CN⟩
def Yx(K:Kp)(id:Int):Bs × Int:=if id<0\/281474976710656<id then([],60)else match qd K.P id with|none=>([],131)|some c=>(c,0)
theorem Vbg(D E g f q:Nat)(K:Kp)(h:KpH)(id:Int)(M:va)(m:KOk K)
  (e:Za U D E K h ((q,.cells #[qa []] 9)::(f,.cells #[OI id] 3)::(g,.cells #[za h.b] 29)::M) w) :
  Calls prog 51 #[za f,za g,za q] w (zd U D E h.b ((q,.cells #[qa (Yx K id).1] 9)::M) (K,(Yx K id).2)):=by
 have k:=Hi (λ(i0:0<=id) (i1:id<=281474976710656)=>e.1.liveLook (λp C=>⟨(m.prs p C).1,(m.prs p C).2.1⟩) i0 i1);have G:=e.limbs.tail.tail.cellH 0;have i:=Hi e;have s:=Hi (λ(W:World) (hb:Below w.heap.size w W)=>show OV W g 0 (za h.b)/\OV W h.b 15 (.map (some h.bl))/\OV W f 0 (OI id)/\W.heap[h.bl]?=some h.ol from by
  have t:=e.callB hb;have A:=t.2.rest;unfold KpH.frag at A;exact⟨t.limbs.tail.tail.tail.cellH 0,t.limbs.cellH 15,t.limbs.tail.tail.cellH 0,A.tail.get⟩)
 obtain⟨R,r⟩:=NE (Yx K id);rw[r];unfold Yx at r;obtain⟨L,B⟩:=NE (qd K.P id);rw[B]at k r;have a:=Hi r;clear e m r B;unfold zd;unfold za qa at *;go_enter func51,ntmps51;have d:=a.o;clear a;by_cases i0:id<0
 .rw[jh (.inl i0)]at d;have a:=Hi d;clear d;go_wp2_with fail;go_ret;rw[<-a.o];exact⟨rfl,h,rfl,i.o.pmSub (X:=[(f,.cells #[OI id] 3),(g,.cells #[OQ h.b] 29)]) CN⟩
 .by_cases i1:281474976710656<id
  .rw[jh (.inr i1)]at d;have a:=Hi d;clear d;go_wp2_with fail;go_ret;rw[<-a.o];exact⟨rfl,h,rfl,i.o.pmSub (X:=[(f,.cells #[OI id] 3),(g,.cells #[OQ h.b] 29)]) CN⟩
  .rw[jd (by omega)]at d;have a:=Hi d;have v:=k.o (by omega) (by omega);have u:=Hi (λ(W:World) (hb:Below w.drew.heap.size w.drew W)=>s.o W ((jU w.heap.size w).drew.trans hb));clear d;go_upto_region 3 with fail
   clear G;go_region_held3 (λW=>W.cell? ⟨g,0,none⟩=some (.pointer (some ⟨h.b,0,none⟩))/\W.cell? ⟨h.b,15,none⟩=some (.map (some h.bl))/\W.cell? ⟨f,0,none⟩=some (.int .i64 id)/\W.heap[h.bl]?=some h.ol) (first|with_reducible exact u.o _ (jU _ _)|with_reducible exact u.o _ ((St.refl _).alloc _).below|with_reducible exact u.o _ (((St.refl _).alloc _).set _ _).below|(go_keep;done)) (fail)
   all_goals(
    obtain⟨n,l⟩:=EN w.heap.size;have x:=(i.o.alloc (.cells #[.string ⟨(L.getD []).toArray⟩] 108)).drew;rw[<-l]at x;rw[<-l];refine Za.nameE x ?_;clear x u s i v k l;intro z e;have F:OV z n 0 (.string ⟨(L.getD []).toArray⟩):=e.limbs.tail.cellH 0;have H:=e.limbs.tail.tail.cellH 0;have b2:=e.limbs.tail.tail.freeH 0;cases L with
    |none =>
     have d:=a.o;simp only at d;obtain⟨j,i⟩:=Hi2 d e;clear d e;go_wp2_with fail;go_ret;rw[<-j.o];exact⟨rfl,h,rfl,i.o.pmSub (X:=[(n,.cells #[.string ⟨#[]⟩] 108),(f,.cells #[OI id] 3),(g,.cells #[OQ h.b] 29)]) λy=>by simp only[Option.getD_none,ya,OI,OT,OQ,Ya];omega⟩
    |some c =>
     have d:=a.o;simp only at d;have j:=Hi d;simp only[kB]at F e;have i:=Hi ((e.pm (M':=(q,.cells #[.string ⟨#[]⟩] 9)::(n,.cells #[OT c] 108)::(f,.cells #[OI id] 3)::(g,.cells #[OQ h.b] 29)::M) CN).set 0 (OT c));clear d e;go_wp2_with fail;go_ret;rw[<-j.o];exact⟨rfl,h,rfl,i.o.pmSub (X:=[(n,.cells #[OT c] 108),(f,.cells #[OI id] 3),(g,.cells #[OQ h.b] 29)]) λy=>by simp only[jf,ji,ya,OI,OT,OQ,Ya];omega⟩)
def Xaa(W0:World)(bd bm b:Nat)(M:va)(K:Kp)(id:Int)(e:Ending)(w':World):Prop:=e=.returned (.tuple #[qa (Yx K id).1,.int .i64 (Yx K id).2])/\∃h,h.b=b/\Za W0 bd bm K h M w'
theorem YaA(id:Int)(M:va)(a:KOk J)(p:Za U q c J h M w):
  Calls prog 21 #[za h.b,OI id] w (Xaa U q c h.b M J id):=by
 have x:∀(fn:Fn) (first cap:Array Value) (w:World),(Instr.makeFunc fn first cap).run prog w=.ok (.func fn first cap) w:=λ_ _ _ _=>rfl
 have e:=((p.alloc (.cells #[za h.b] 29)).alloc (.cells #[OI id] 3)).alloc (.cells #[qa []] 9);simp only[jF]at e;obtain⟨b2,g⟩:=EN w.heap.size;rw[<-g]at e;have j:(Yx J id).2≠45:=by
  unfold Yx;split
  .simp
  .split<;>simp
 have f:=Hi (λW (hW:Za U q c J h ((b2+1+1,.cells #[qa []] 9)::(b2+1,.cells #[OI id] 3)::(b2,.cells #[za h.b] 29)::M) W)=>zF U W q c J J h (Yx J id).2 _ ((b2+1+1,.cells #[qa (Yx J id).1] 9)::M) 51 #[za (b2+1),za b2,za (b2+1+1)] (λ_ _=>rfl) hW a.gone a.off a.age λz A=>Vbg U z q c b2 (b2+1) (b2+1+1) J h id M a A);have d:({J with gone:=decide ((Yx J id).2=45)}:Kp)=J:=by
  rw[J8 j,<-a.gone]
 rw[d]at f;unfold Xaa;obtain⟨⟨s,G⟩,u⟩:=NE (Yx J id);rw[u]at f|-
 simp only at f|-
 obtain⟨r,n⟩:=Hi2 e g;clear e g p a u j d;unfold zd at f;simp only at f;unfold za qa at *;go_enter func21,ntmps21;go_upto_region 2 with(fail)
 rw[<-n.o];refine r.o.nameC ?_;clear r n;intro m e;have E:=e.limbs.tail.tail.tail.cellH 0;have l:=Hi (f.o m e);clear e f;go_wp2_with (go_at_call 47;refine l.o.mono ?_;rintro D C ⟨rfl,v,t,i⟩;have B:=Hi t;have F:=i.limbs.tail.cellH 0;have k:=Hi i;clear t i);go_ret2;exact⟨rfl,v,B.o,k.o.pmSub (X:=[(b2+1+1,.cells #[OT s] 9)]) CN⟩
theorem ZX(a b:Bs)(w:World):Calls prog 55 #[.string ⟨a.toArray⟩,.string ⟨b.toArray⟩] w (Ret (.int .i64 (Xg a b)) w):=by
 refine(strings_Compare ⟨a.toArray⟩ ⟨b.toArray⟩ w).mono ?_;rintro e c ⟨rfl,rfl⟩;exact⟨by rw[<-Xae],rfl⟩
theorem Xau(a b:Obj):(w.alloc a).alloc b=grow (w.drewN 0) #[a,b]:=by
 have h:w.heap++#[a,b]=(w.heap.push a).push b:=by apply ky.1;simp
 unfold grow World.drewN;simp only[h];rfl
def cfB(x y:En):Int:=if Xg x.code y.code≠0 then Xg x.code y.code else x.id-y.id
def cfV(x y:En):Int:=if x.value≠y.value then x.value-y.value else cfB x y
def cfI(x y:Pr):Int:=x.id-y.id
def cfP(x y:Pr):Int:=if Xg x.code y.code≠0 then Xg x.code y.code else x.id-y.id
theorem Vaa{b:Array Obj}{c:Code}{a:Act}(e:Z=grow (V.drewN n) b)(h:St W (grow (V.drewN n) b) F)(k:∀W',(∃n os',W'=grow (V.drewN n) os')->St W W' F->c.wp P Q a W'):c.wp P Q a Z:=by
 rw[e];exact k _ ⟨n,b,rfl⟩ h
theorem QaX(x y:En)(H:0<=x.id/\x.id<=281474976710656)(G:0<=y.id/\y.id<=281474976710656):Calls prog 173 #[.agg (enV x).toArray,.agg (enV y).toArray] w (YT (cfB x y) w):=by
 have m:=Hi (Xau w (.cells #[OI x.value,OT x.code,OI x.id,OI x.seq,.bool x.dead] 137) (.cells #[OI y.value,OT y.code,OI y.id,OI y.seq,.bool y.dead] 137));have i:=((St.refl w).alloc (.cells #[OI x.value,OT x.code,OI x.id,OI x.seq,.bool x.dead] 137)).alloc (.cells #[OI y.value,OT y.code,OI y.id,OI y.seq,.bool y.dead] 137);rw[jF]at i;obtain⟨C,k⟩:=EN w.heap.size;rw[<-k]at i;obtain⟨r,t⟩:=Hi2 k i;have b:=Hi (ZX x.code y.code);have l:=Hi (show cfB x y=cfB x y from rfl);obtain⟨R,j⟩:=NE (cfB x y);rw[j];unfold cfB at j;obtain⟨J,F⟩:=H;obtain⟨K,z⟩:=G;have g:=Hi j;clear k i j l;unfold Ret at b;unfold enV qa at *;obtain⟨B,s,A,P,M⟩:=x;obtain⟨D,p,I,S,V⟩:=y;simp only at *;go_enter func173,ntmps173;go_upto_region 1 with(fail)
 rw[<-r.o];have a:=t.o;clear t;rw[m.o]at a;refine Vaa m.o a ?_;clear r m a;intro d f a;obtain⟨Q,T,U⟩:=a.tail.k3 0 1 2;obtain⟨N,L,b2⟩:=a.k3 0 1 2;have u:=Hi f;clear a f;have c:=g.o;clear g;obtain⟨h,e⟩:=NE (Xg s p);rw[e]at c b;clear e;by_cases q:h=0
 .subst q;rw[jd (by simp)]at c;have n:=Hi c;clear c;go_wp2_with (go_at_call 55;refine MQ (b.o _) ?_);go_ret;rw[<-n.o];exact⟨rfl,u.o⟩
 .rw[jh q]at c;have n:=Hi c;have O:(h != 0)=true:=by simpa using q
  clear c;go_wp2_with (go_at_call 55;refine MQ (b.o _) ?_);go_ret;rw[<-n.o];exact⟨rfl,u.o⟩
theorem zaY(x y:En)(O:0<=x.id/\x.id<=281474976710656)(M:0<=y.id/\y.id<=281474976710656)(G:0<=x.value/\x.value<=8589934592)(N:0<=y.value/\y.value<=8589934592):Calls prog 233 #[.agg (enV x).toArray,.agg (enV y).toArray] w (YT (cfV x y) w):=by
 have n:=Hi (Xau w (.cells #[OI x.value,OT x.code,OI x.id,OI x.seq,.bool x.dead] 137) (.cells #[OI y.value,OT y.code,OI y.id,OI y.seq,.bool y.dead] 137));have j:=((St.refl w).alloc (.cells #[OI x.value,OT x.code,OI x.id,OI x.seq,.bool x.dead] 137)).alloc (.cells #[OI y.value,OT y.code,OI y.id,OI y.seq,.bool y.dead] 137);rw[jF]at j;obtain⟨C,l⟩:=EN w.heap.size;rw[<-l]at j;obtain⟨u,A⟩:=Hi2 l j;have c:=Hi (ZX x.code y.code);have m:=Hi (show cfV x y=cfV x y from rfl);obtain⟨R,k⟩:=NE (cfV x y);rw[k];unfold cfV cfB at k;obtain⟨Q,K⟩:=O;obtain⟨S,E⟩:=M;obtain⟨B,I⟩:=G;obtain⟨F,L⟩:=N;have g:=Hi k;clear l j k m;unfold Ret at c;unfold enV qa at *;obtain⟨s,z,H,X,U⟩:=x;obtain⟨t,r,P,Z,yd⟩:=y;simp only at *;go_enter func233,ntmps233;go_upto_region 1 with(fail)
 rw[<-u.o];have a:=A.o;clear A;rw[n.o]at a;refine Vaa n.o a ?_;clear u n a;intro d f a;obtain⟨Y,a1,a2⟩:=a.tail.k3 0 1 2;obtain⟨V,T,b2⟩:=a.k3 0 1 2;have p:=Hi f;clear a f;have b:=g.o;clear g;by_cases v:s=t
 .subst v;rw[jd (by simp)]at b;obtain⟨i,e⟩:=NE (Xg z r);rw[e]at b c;clear e;by_cases q:i=0
  .subst q;rw[jd (by simp)]at b;have h:=Hi b;clear b;go_wp2_with (go_at_call 55;refine MQ (c.o _) ?_);go_ret;rw[<-h.o];exact⟨rfl,p.o⟩
  .rw[jh q]at b;have h:=Hi b;have W:(i != 0)=true:=by simpa using q
   clear b;go_wp2_with (go_at_call 55;refine MQ (c.o _) ?_);go_ret;rw[<-h.o];exact⟨rfl,p.o⟩
 .rw[jh v]at b;have h:=Hi b;clear b c;go_wp2_with fail;go_ret;rw[<-h.o];exact⟨rfl,p.o⟩
theorem ya8(x y:Pr)(u:0<=x.id/\x.id<=281474976710656)(t:0<=y.id/\y.id<=281474976710656):Calls prog 99 #[.agg (prV x).toArray,.agg (prV y).toArray] w (YT (cfI x y) w):=by
 have j:=Hi (Xau w (.cells #[OI x.id,OT x.code] 86) (.cells #[OI y.id,OT y.code] 86));have f:=((St.refl w).alloc (.cells #[OI x.id,OT x.code] 86)).alloc (.cells #[OI y.id,OT y.code] 86);rw[jF]at f;obtain⟨C,h⟩:=EN w.heap.size;rw[<-h]at f;obtain⟨k,m⟩:=Hi2 h f;have d:=Hi (ZX x.code y.code);have i:=Hi (show cfI x y=cfI x y from rfl);obtain⟨R,g⟩:=NE (cfI x y);rw[g];unfold cfI at g;obtain⟨A,s⟩:=u;obtain⟨B,n⟩:=t;have c:=Hi g;clear h f g i;unfold Ret at d;unfold prV qa at *;obtain⟨q,r⟩:=x;obtain⟨z,p⟩:=y;simp only at *;go_enter func99,ntmps99;go_upto_region 1 with(fail)
 rw[<-k.o];have a:=m.o;clear m;rw[j.o]at a;refine Vaa j.o a ?_;clear k j a;intro e b a;obtain⟨F,G⟩:=a.tail.k2 0 1;obtain⟨b2,E⟩:=a.k2 0 1;have v:=Hi b;clear a b;have l:=c.o;clear c;have D:=Hi l;clear l d;go_wp2_with fail;go_ret;rw[<-D.o];exact⟨rfl,v.o⟩
theorem xbn(x y:Pr)(F:0<=x.id/\x.id<=281474976710656)(E:0<=y.id/\y.id<=281474976710656):Calls prog 54 #[.agg (prV x).toArray,.agg (prV y).toArray] w (YT (cfP x y) w):=by
 have m:=Hi (Xau w (.cells #[OI x.id,OT x.code] 86) (.cells #[OI y.id,OT y.code] 86));have i:=((St.refl w).alloc (.cells #[OI x.id,OT x.code] 86)).alloc (.cells #[OI y.id,OT y.code] 86);rw[jF]at i;obtain⟨C,k⟩:=EN w.heap.size;rw[<-k]at i;obtain⟨s,t⟩:=Hi2 k i;have b:=Hi (ZX x.code y.code);have l:=Hi (show cfP x y=cfP x y from rfl);obtain⟨R,j⟩:=NE (cfP x y);rw[j];unfold cfP at j;obtain⟨H,D⟩:=F;obtain⟨I,z⟩:=E;have f:=Hi j;clear k i j l;unfold Ret at b;unfold prV qa at *;obtain⟨A,r⟩:=x;obtain⟨G,p⟩:=y;simp only at *;go_enter func54,ntmps54;go_upto_region 1 with(fail)
 rw[<-s.o];have a:=t.o;clear t;rw[m.o]at a;refine Vaa m.o a ?_;clear s m a;intro g e a;obtain⟨L,M⟩:=a.tail.k2 0 1;obtain⟨b2,J⟩:=a.k2 0 1;have u:=Hi e;clear a e;have c:=f.o;clear f;obtain⟨h,d⟩:=NE (Xg r p);rw[d]at c b;clear d;by_cases q:h=0
 .subst q;rw[jd (by simp)]at c;have n:=Hi c;clear c;go_wp2_with (go_at_call 55;refine MQ (b.o _) ?_);go_ret;rw[<-n.o];exact⟨rfl,u.o⟩
 .rw[jh q]at c;have n:=Hi c;have K:(h != 0)=true:=by simpa using q
  clear c;go_wp2_with (go_at_call 55;refine MQ (b.o _) ?_);go_ret;rw[<-n.o];exact⟨rfl,u.o⟩
theorem yao{x y:En}(h:x.value=y.value):(cfB x y<0<->yb x y<0)/\(0<cfB x y<->0<yb x y):=by
 have c:yb x y=if x.code≠y.code then Xg x.code y.code else Vi x.id y.id:=by
  unfold yb;rw[jd (by simpa using h)]
 rw[c];unfold cfB;by_cases hc:x.code=y.code
 .rw[hc,Qw,jd (by simp),jd (by simp)];unfold Vi;split<;>(try split)<;>omega
 .have a:Xg x.code y.code≠0:=λb=>hc (ZN b)
  rw[jh a,jh hc];exact⟨Iff.rfl,Iff.rfl⟩
theorem Qbg(x y:En):(cfV x y<0<->yb x y<0)/\(0<cfV x y<->0<yb x y):=by
 by_cases h:x.value=y.value
 .have a:=yao h;unfold cfV;rw[jd (by simpa using h)];exact a
 .unfold cfV yb;rw[jh h,jh h];unfold Vi;split<;>(try split)<;>omega
theorem vaE(d:∀x∈l,x.value=0)(c:∀x∈l,0<=x.id/\x.id<=281474976710656):Qaz 173 cfB l :=
 ⟨λ_ _=>rfl,λx b y a=>yao ((d x b).trans (d y a).symm),λx b y a W=>QaX W x y (c x b) (c y a)⟩
theorem qaE(c:∀x∈l,0<=x.value/\x.value<=8589934592)(d:∀x∈l,0<=x.id/\x.id<=281474976710656):Qaz 233 cfV l :=
 ⟨λ_ _=>rfl,λx b y a=>Qbg x y,λx b y a W=>zaY W x y (d x b) (d y a) (c x b) (c y a)⟩
def Qaa(W0:World)(M:va)(l:List En)(e:Ending)(w':World):Prop:=∃v F,e=.returned v/\Rw 137 5 v l.length (l.flatMap enV) F/\St W0 w' (F++M)
theorem xa8(v:Value)(l:List En)(F M:va)(b:Rw 137 5 v l.length (l.flatMap enV) F)(f:St U w (F++M))(Y:l.length<=1000000000)(I:∀x∈l,0<=x.id/\x.id<=281474976710656)(r:((l.map En.zero).map En.key).Nodup):
  Calls prog 106 #[v] w (Qaa U M (Qo (l.map En.zero))):=by
 obtain⟨i,a,rfl,E,G,_⟩:=b.form;obtain⟨u,s,V,q⟩:=Hi4 b f I r;obtain⟨T,L,Q⟩:(0:Int)<=(l.length:Int)/\(l.length:Int)<=(a:Int)/\(l.length:Int)<=1000000000:=by omega
 clear b f I r;go_enter func106,ntmps106;go_upto_region 2 with fail
 go_loopw [6] (λiv wr=>∃(k:Nat) (F:va),k<=l.length/\iv=OI (k:Int)/\Rw 137 5 (.slice i l.length a) l.length ((upd En.zero k l).flatMap enV) F/\St U wr (F++M)) (λiv _=>l.length-(intOf iv).toNat)
 case atStart=>exact⟨0,F,jX _,rfl,by rw[zae];exact u.o,s.o⟩
 case round =>
  obtain⟨k,F,r,rfl,b,f⟩:=hrel;have P:(0:Int)<=(k:Int):=by omega
  by_cases hlt:k<l.length
  .obtain⟨g,c,S,D,W,H⟩:=b.putK f (k*5) (by rw[vg Qe,Vv];omega);injection S with e1 e2 e3
   subst e1;subst e3;clear e2;have e:=Zj Qe (upd En.zero k l) k 0 (by rw[Vv];exact hlt) (by decide);rw[UY]at e;rw[e]at D;obtain⟨J,j⟩:∃J,(enV ((upd En.zero k l)[k]'(by rw[Vv];exact hlt)))[0]?=some J:=⟨_,rfl⟩;rw[j]at D;obtain⟨O,d,m⟩:=H 0 (OI 0);rw[vaf hlt (OI 0) rfl]at d;obtain⟨z,C⟩:=Hi2 d m;have K:(k:Int)<(l.length:Int):=by omega
   clear H b f d m e j;go_wp2_with fail;exact⟨⟨k+1,O,by omega,by go_num,z.o,C.o⟩,by simp[intOf];omega⟩
  .obtain rfl:k=l.length:=by omega
   rw[yae]at b;have p:=Hi (van U wr M F (.slice i l.length a) (l.map En.zero) 173 cfB (vaE (by
     intro x B;obtain⟨y,_,rfl⟩:=jg.1 B;rfl) (by
     intro x B;obtain⟨y,R,rfl⟩:=jg.1 B;exact V.o y R)) q.o (by rw[jz];exact b) f (by rw[jz];omega))
   unfold Vp at p;have Z:=Hi (show(Qo (l.map En.zero)).length=l.length by rw[(Yr _).length_eq,jz]);clear b f;go_wp2_with (go_at_call 172;refine p.o.mono ?_;rintro X w5 ⟨rfl,N,h,n⟩;obtain⟨t,A⟩:=Hi2 h n;clear h n);go_ret;exact⟨_,N,rfl,t.o,A.o⟩
def YX(w m:Int)(c:Bs):Int:=((yp w m c)[0]?).getD 0
theorem XaA{w m:Int}{c:Bs}(b:m=0\/(Ye w m=0/\0<m/\m<=128)):(yp w m c)[0]?=some (YX w m c)/\0<(yp w m c).length:=by
 have d:=zad (w:=w) (c:=c) b;have a:0<(yp w m c).length:=by omega
 refine⟨?_,a⟩;unfold YX;rw[jt a];rfl
theorem yaN(d:DlH)(M:va)(p k:Nat)(id:Int)(a:Bs)(f:St U w ((p,.cells #[OI 0] 3)::(k,.cells #[za d.b] 77)::(d.frag++M)))(Q:Xc d.w=true)(J:d.m=0\/(Ye d.w d.m=0/\0<d.m/\d.m<=128))(B:(a.length:Int)=d.w/8):
  Calls prog 175 #[.agg #[OI id,OT a],za k,za p] w (Vd (OI (YX d.w d.m a)) w):=by
 have x:=Hi (λ(W:World) (hW:Below w.heap.size w W)=>xar U W d ((p,.cells #[OI 0] 3)::(k,.cells #[za d.b] 77)::M) a ((f.callB hW).pm CN) Q J B);have D:=Hi (λ(W:World) (hW:Below w.heap.size w W)=>show OV W p 0 (OI 0)/\OV W k 0 (za d.b)from⟨(f.callB hW).cellH 0,(f.callB hW).tail.cellH 0⟩);obtain⟨E,I⟩:=XaA (w:=d.w) (c:=a) J;obtain⟨V,T⟩:=NE (YX d.w d.m a);rw[T]at E|-
 obtain⟨L,P⟩:=NE (yp d.w d.m a);rw[P]at x E I;obtain⟨G,z⟩:=NE d.b;rw[z]at x D;have l:=(St.refl w).alloc (.cells #[OI id,OT a] 259);obtain⟨O,K,t⟩:=Hi3 l E I;clear f Q J B T P z l E I;unfold vl at x;unfold za qa at *;go_enter func175,ntmps175;go_upto_region 1 with fail
 obtain⟨C,H⟩:=EN w.heap.size;have l:=O.o;rw[<-H]at l;rw[<-H];refine l.nameC ?_;clear O l H;intro A f;have R:=Hi (λ(W:World) (hW:Below A.drew.heap.size A.drew W)=>show OV W p 0 (OI 0)/\OV W k 0 (OQ G)/\OV W C 1 (OT a)from⟨(D.o W (f.drew.callB hW).below).1,(D.o W (f.drew.callB hW).below).2,(f.drew.callB hW).cellH 1⟩);have r:=Hi (x.o A.drew f.drew.below);have Y:=Hi f;have u:=Hi (λ(v:Value) (F:va) (W:World) (hR:Rw 3 1 v L.length (xg L) F) (h:St A.drew W F)=>show ∃g i,v=.slice (some ⟨g,0,none⟩) L.length i/\OV W g 0 (OI V)from by
  obtain⟨g,i,e,B⟩:=hR.cells (M:=[]) (by rw[jJ];exact h) (by intro e;have:=jT List.length e;simp[xg]at this;have N:=t.o;rw[this]at N;simp at N);exact⟨g,i,e,B 0 _ (by unfold xg;rw[jZ,K.o];rfl)⟩)
 obtain⟨n,S⟩:=NE L.length;have Z:(0:Int)<(n:Int):=by have:=t.o;omega
 have X:0<n:=by omega
 rw[S]at u r;clear f x D S;refine wp_region_noPanic ?_;refine wp_region_held_drew (S:=(λW=>W.cell? ⟨p,0,none⟩=some (.int .i64 0)/\W.cell? ⟨k,0,none⟩=some (.pointer (some ⟨G,0,none⟩))/\W.cell? ⟨C,1,none⟩=some (.string ⟨a.toArray⟩))) (by kernel_rfl) (by (try dsimp only)<;>(first|with_reducible exact R.o _ s.o|with_reducible exact R.o _ (jU _ _)|(go_keep;done))) λhHq=>?_;refine' TK 0 rfl ?_ ?_;rotate_left;intro wq hwq;go_simp<;>rfl;(try simp only[Act.put,jf,ji,jj]);refine' TK 1 rfl ?_ ?_;rotate_left;intro wq hwq;go_simp<;>rfl;(try simp only[Act.put,jf,ji,jj]);refine' TK 2 rfl ?_ ?_;rotate_left;intro wq hwq;go_simp<;>rfl;(try simp only[Act.put,jf,ji,jj]);refine' TK 4 rfl ?_ ?_;rotate_left;intro wq hwq;go_simp<;>rfl;(try simp only[Act.put,jf,ji,jj]);refine BR 3 (by kernel_rfl) rfl λKq hKq=>?_;go_simp;(go_at_call 176;refine r.o.mono ?_;rintro e' w5 ⟨v5,F5,rfl,q,j⟩;have s:=Hi j.below;obtain⟨g5,c5,rfl,a0⟩:=u.o _ _ _ q j;clear q j);refine hKq.out _ _ (by (try dsimp only)<;>(first|with_reducible exact R.o _ s.o|with_reducible exact R.o _ (jU _ _)|(go_keep;done))) λhHq=>?_;clear hKq Kq;(try simp only[Act.put,jf,ji,jj]);refine' TK 5 rfl ?_ ?_;rotate_left;intro wq hwq;go_simp<;>rfl;(try simp only[Act.put,jf,ji,jj]);refine BR 6 (by kernel_rfl) rfl λKq hKq=>?_;go_simp;refine hKq.out _ _ (by assumption) λhHq=>?_;clear hKq Kq;(try simp only[Act.put,jf,ji,jj]);refine BR 7 (by kernel_rfl) rfl λKq hKq=>?_;go_simp;refine hKq.out _ _ (by assumption) λhHq=>?_;clear hKq Kq;(try simp only[Act.put,jf,ji,jj]);refine wpAnyH_done (by kernel_rfl) ?_ _;refine NoPanic.normal ?_;go_wp2_with fail;go_ret;exact⟨rfl,(Y.o.drew.callB s.o).below⟩
def qH(d:DlH)(p:Int × Bs):En:=⟨YX d.w d.m p.2,p.2,p.1,((Zd d.words p).getD (0,false)).1,((Zd d.words p).getD (0,false)).2⟩
theorem va8{d:DlH}(a:d.ok){p:Int × Bs}(f:-9223372036854775808<=p.1/\p.1<=9223372036854775807)(g:p.2.length<=1000000)(c:W.heap[d.bw]?=some d.om):
  (Instr.lookup 253 (.map (some d.bw)) (.agg #[OI p.1,OT p.2]) false).run prog W=.ok (.agg #[OI ((Zd d.words p).getD (0,false)).1,.bool ((Zd d.words p).getD (0,false)).2]) W:=by
 have b:=Va.look (P:=prog) (k:=259) (e:=306) (t:=253) XE underlying253 a.map a.keys c (x:=p) ⟨f,g⟩ false;cases hm:Zd d.words p with
 |none =>
  have:=b.2 hm _ (zan W);simpa [vo,qa] using this
 |some x =>
  have:=b.1 x hm;simpa [vo,qa,YR] using this
end Go.Proofs.YtekkihmmclencaaGreatDoor
