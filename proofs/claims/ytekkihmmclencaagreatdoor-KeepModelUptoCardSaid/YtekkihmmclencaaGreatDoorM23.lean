import Derived.Sort.OwnSortedInts
import Derived.Test.YtekkihmmclencaaGreatDoorM22
namespace Go.Proofs.YtekkihmmclencaaGreatDoor
set_option linter.all false
set_option maxRecDepth 100000
set_option maxHeartbeats 40000000
open Tryz
open Go Go.RowKit Go.Sort
variable(U w:World)(q c:Nat){P:Program}{p:List Pr}
theorem xaN:∃i,prog.info? 137=some i/\∃z,i.zero=some z/\i.size=5/\z.cells.size=5/\∃by_,i.bytes=by_/\by_<=128:=by
 have h:(prog.info? 137).map (λi=>(i.zero.map (λz=>z.cells.size),i.size,decide (i.bytes<=128)))=some (some 5,5,true):=by kernel_rfl
 obtain⟨i,e,b⟩:=jL.1 h;simp only[Je,jL,jG]at b;obtain⟨⟨z,f,a⟩,c,d⟩:=b;exact⟨i,e,z,f,c,a,_,rfl,d⟩
theorem yaY(x:Int × Bs):(QG x).length=2:=rfl
theorem xaY(W0 w:World)(d:DlH)(M:va)(lv:Value)(f:List (Int × Bs))(g:Nat)(lb:Array Value)(eg:Enters prog g)(hd:d.ok)(h:St W0 w (d.frag++M))(hw:Xc d.w=true)(hm:d.m=0\/(Ye d.w d.m=0/\0<d.m/\d.m<=128))
  (G:qe QG 2 w lv f) (aH:f.length<=1000000) (D:∀p∈f,(0<=p.1/\p.1<=281474976710656)/\p.2.length<=1000000) (aj:f.Nodup)
  (H:∀W,Below w.heap.size w W->∀p∈f,Calls prog g (#[.agg #[OI p.1,OT p.2]]++lb) W (Vd (OI (YX d.w d.m p.2)) W)) :
  Calls prog 174 #[za d.b,lv,.func (.func g) #[] lb] w (Qaa w [] (Qo (f.map (qH d)))):=by
 obtain⟨w0,w1,w2⟩:=Xd.1 hw;have aw:=Hi G;obtain⟨aJ,a4,rfl,aF,aC,_⟩:=G;obtain⟨aB,aE⟩:(f.length:Int)<=(a4:Int)/\(f.length:Int)<=1000000:=by omega
 have R:=Hi (λ(p:Int × Bs) (I:p∈f) (W:World) (hW:W.heap[d.bw]?=some d.om)=>va8 hd (p:=p) (by have:=D p I;omega) (D p I).2 hW);have O:=Hi (λ(W:World) (hb:Below w.heap.size w W)=>show OV W d.b 3 (.map (some d.bw))/\W.heap[d.bw]?=some d.om from by
  have h1:=h.callB hb;unfold DlH.frag at h1;exact⟨h1.cellH 3,h1.tail.get⟩)
 have ag:=Hi H;have t:=Hi (λ(p:Int × Bs)=>show qH d p=⟨YX d.w d.m p.2,p.2,p.1,((Zd d.words p).getD (0,false)).1,((Zd d.words p).getD (0,false)).2⟩from rfl);have ai:=Hi (show Qaz 233 cfV (f.map (qH d))from qaE (by
   intro x hx;obtain⟨p,I,rfl⟩:=jg.1 hx;obtain⟨h1,_⟩:=XaA (w:=d.w) (c:=p.2) hm;exact yad w0 w2 hm _ (Js h1)) (by
   intro x hx;obtain⟨p,I,rfl⟩:=jg.1 hx;exact(D p I).1))
 have a1:=Hi (show((f.map (qH d)).map En.key).Nodup from by
  rw[j7];refine(Uu.2 (aj.imp λ{a b} az e=>az ?_));simp only[Kv,En.key,qH,Je]at e;exact Prod.ext e.2.2 e.2.1)
 obtain⟨EE,aa⟩:=NE (qH d);rw[aa]at t ai a1|-
 obtain⟨VV,a9⟩:∃VV:Bs->Int,(λc=>YX d.w d.m c)=VV:=⟨_,rfl⟩;have ac:∀c,YX d.w d.m c=VV c:=λc=>by rw[<-a9]
 obtain⟨WW,a0⟩:∃WW:Int × Bs->Int × Bool,(λp=>(Zd d.words p).getD (0,false))=WW:=⟨_,rfl⟩;have a7:∀p,(Zd d.words p).getD (0,false)=WW p:=λp=>by rw[<-a0]
 simp only[ac,a7]at t ag R;obtain⟨db,K⟩:=NE d.b;obtain⟨U,Q⟩:=NE d.bw;obtain⟨om,J⟩:=NE d.om;rw[Q,J]at R;rw[K,Q,J]at O;rw[K];have he:∀(args:Array Value) (w:World),(callFunc g args).run prog w=.ok (.enter g args) w:=eg;obtain⟨i0,hi,z,ay,ap,ax,a2,ar,au⟩:=xaN;clear hd h hm D aj H aa a9 ac a0 a7 K Q J eg;unfold za;go_enter func174,ntmps174;go_upto_region 3 with fail
 go_loopw [7,13] (λov iv wr=>∃(k:Nat) (F:va),k<=f.length/\iv=OI (k:Int)/\Rw 137 5 ov k (((f.take k).map EE).flatMap enV) F/\St w wr F) (λ_ iv _=>f.length-(intOf iv).toNat)
 case atStart=>exact⟨0,[],jX _,rfl,Rw.nil _ _,St.refl w⟩
 case round =>
  obtain⟨k,F,hk,rfl,Z,h⟩:=hrel;obtain⟨ad,af,rfl,_⟩:=Z.form;have aG:(0:Int)<=(k:Int):=by omega
  by_cases hlt:k<f.length
  .have aI:(k:Int)<(f.length:Int):=by omega
   obtain⟨gp,o,c,hv,s⟩:=aw.o.fld yaY k hlt;injection hv with e1 e2 e3
   subst e1;subst e3;clear e2;have i:f[k]∈f:=Jc hlt;have S:f.take (k+1)=f.take k++[f[k]]:=jS hlt;obtain⟨p,I⟩:=NE (f[k]);rw[I]at s i S;have l:=Hi (R.o p i);have q:=Hi (λW hb=>ag.o W hb p i);have j:=Hi (t.o p);obtain⟨A,v⟩:=p;obtain⟨⟨X,Y⟩,a5⟩:=NE (WW (A,v));rw[a5]at l j;obtain⟨V,hV⟩:=NE (VV v);simp only at l j q;rw[hV]at j q;unfold QG qa at s;have x0:OV wr gp (o+k*2) (OI A):=h.old (by have:=s 0 _ rfl;simpa using this);have x1:OV wr gp (o+k*2+1) (OT v):=h.old (by have:=s 1 _ rfl;simpa [j9] using this);have an:=Hi S;have T:=h.alloc (.cells #[OI A,OT v] 259);obtain⟨HA,HR⟩:=Hi2 T Z;have E:(k+1)*a2<=140737488355328:=jI (Jg (show k+1<=1000001 by omega) au) (by decide);have av:k+1<=maxLen:=by unfold maxLen;omega
   clear h Z T s I i S a5 hV;go_upto_region 5 with fail
   obtain⟨C,hC⟩:=EN wr.heap.size;have T:=HA.o;rw[<-hC]at T;rw[<-hC];refine T.nameC ?_;clear HA T hC x0 x1;intro w3 h;have HL:=Hi (λ(W:World) (hW:Below w3.drew.heap.size w3.drew W)=>show OV W db 3 (.map (some U))/\OV W C 0 (OI A)/\OV W C 1 (OT v)/\W.heap[U]?=some om from⟨(O.o W (h.drew.callB hW).below).1,(h.drew.callB hW).cellH 0,(h.drew.callB hW).cellH 1,(O.o W (h.drew.callB hW).below).2⟩);have HS:=Hi h;have ao:=l.o;clear h;go_region_held3 (λW=>W.cell? ⟨db,3,none⟩=some (.map (some U))/\W.cell? ⟨C,0,none⟩=some (.int .i64 A)/\W.cell? ⟨C,1,none⟩=some (.string ⟨v.toArray⟩)/\W.heap[U]?=some om) (first|with_reducible exact HL.o _ (jU _ _)|with_reducible exact HL.o _ ((St.refl _).alloc _).below|with_reducible exact HL.o _ ((((St.refl _).alloc _).set _ _).set _ _).below|(go_keep;done)) (fail)
   all_goals(
    obtain⟨L,N⟩:=EN w3.heap.size;have hX:=((HS.o.alloc (.cells #[OI X,.bool Y] 306)).drew).pm (M':=F++[(C,.cells #[OI A,OT v] 259),(w3.heap.size,.cells #[OI X,.bool Y] 306)]) CN;rw[<-N]at hX;rw[<-N];refine St.nameE (P:=prog) hX ?_;clear hX HL HS ao N;intro w4 h;have B:=Hi (λ(W:World) (Fx:va) (hW:St w W (Fx++[(C,.cells #[OI A,OT v] 259),(L,.cells #[OI X,.bool Y] 306)]))=>show OV W C 0 (OI A)/\OV W C 1 (OT v)/\OV W L 0 (OI X)/\OV W L 1 (.bool Y)from⟨hW.appR.cellH 0,hW.appR.cellH 1,hW.appR.tail.cellH 0,hW.appR.tail.cellH 1⟩);have a8:=Hi (q.o w4.drew h.drew.below);have a6:=Hi h.drew;unfold Vd at a8;clear h;go_upto_region 6 with fail
    go_region_held3 (λW=>W.cell? ⟨C,0,none⟩=some (.int .i64 A)/\W.cell? ⟨C,1,none⟩=some (.string ⟨v.toArray⟩)/\W.cell? ⟨L,0,none⟩=some (.int .i64 X)/\W.cell? ⟨L,1,none⟩=some (.bool Y)) (first|with_reducible exact B.o _ _ ak.o|with_reducible exact B.o _ _ n.o|with_reducible exact B.o _ _ a6.o|with_reducible exact B.o _ _ (n.o.alloc _).tail|(go_keep;done)) (first|(go_at_fn g;refine a8.o.mono ?_;rintro e' w5 ⟨rfl,ah⟩;have n:=Hi (a6.o.callB ah);clear ah)|(refine Zn (W0:=w) (by rfl) _ _ 133 (by rfl) 137 i0 z 5 a2 underlying133 hi ay ap ar ax (by decide) (.slice ad k af) k (((f.take k).map EE).flatMap enV) F _ (by rfl) HR.o 1 w5.heap.size [OI V,OT v,OI A,OI X,.bool Y] (n.o.alloc _) (by rfl) (by rfl) (by intro u hu;simp at hu;rcases hu with rfl|rfl|rfl|rfl|rfl<;>rfl) (by decide) av E ?_;intro g7 aD w7 F7 am ae;obtain⟨aq,ak⟩:=Hi2 am ae;clear am ae))
    all_goals(
     go_wp2_with fail;refine⟨⟨k+1,F7,by omega,by go_num,?_,ak.o.appL⟩,by simp[intOf];omega⟩;rw[an.o,jr,jD];simp only[ju,Jt,jB,Jk,jJ,j.o];exact aq.o))
  .obtain rfl:k=f.length:=by omega
   rw[J9]at Z;have al:=Hi (van w wr [] F (.slice ad f.length af) (f.map EE) 233 cfV ai.o a1.o (by rw[jz];exact Z) (by rw[jJ];exact h) (by rw[jz];omega));unfold Vp at al;clear Z h;go_wp2_with (go_at_call 172;refine al.o.mono ?_;rintro e' w5 ⟨rfl,F5,ab,a3⟩;obtain⟨aA,n⟩:=Hi2 ab a3;clear ab a3);go_ret;exact⟨_,F5,rfl,aA.o,n.o⟩
def XK:Value->Nat
 |.slice _ n _=>n
 |_=>0
structure VIs (V:List (Int × Bs)) (ws:List ((Int × Bs) × (Int × Bool))):Prop where
 nd:V.Nodup
 sub:∀x∈V,x∈ws.map (·.1)
def vbn(W0:World)(d:DlH)(Z:va)(r:Nat)(lv:Value)(wr:World):Prop:=∃(V:List (Int × Bs)) (oi':Obj) (F:va),VIs V d.words/\V.length<=1000000/\Rw 259 2 lv V.length (V.flatMap QG) F/\Qx vo d.bw oi' d.om V/\St W0 wr ((r,oi')::(d.bw,d.om)::(F++Z))
def vaY(W0:World)(d:DlH)(M:va)(e:Ending)(w':World):Prop:=∃l:List (Int × Bs),l.Perm (d.words.map (·.1))/\Qaa W0 (d.frag++M) (Qo (l.map (qH d))) e w'
theorem vaN(W0 w:World)(d:DlH)(M:va)(hd:d.ok)(f:St W0 w (d.frag++M))(hw:Xc d.w=true)(hm:d.m=0\/(Ye d.w d.m=0/\0<d.m/\d.m<=128))(ag:0<d.ts.length)(ax:d.ts.length<=128)
  (ae:∀p∈d.words.map (·.1),(0<=p.1/\p.1<=281474976710656)/\(p.2.length:Int)=d.w/8) :
  Calls prog 107 #[za d.b,OI 0] w (vaY W0 d M):=by
 have aF:∀(fn:Fn) (first q:Array Value) (w:World),(Instr.makeFunc fn first q).run prog w=.ok (.func fn first q) w:=λ_ _ _ _=>rfl
 obtain⟨w0,w1,w2⟩:=Xd.1 hw;obtain⟨i0,hi,z,av,am,au,a9,an,ap⟩:=xad;obtain⟨HD,HW,HM,af⟩:=Hi4 hd hw hm ae;have i:=hd.row;obtain⟨I,c,aj,ai,_⟩:=i.form;have al:=hd.many;obtain⟨Y,hY⟩:=NE ((d.FR++d.ts.flatMap TbH.frag)++M);have O:St W0 w ((d.b,.cells #[OI d.w,OI d.m,OI d.last,.map (some d.bw),d.tv] 256)::(d.bw,d.om)::Y):=by rw[<-hY];exact f
 have a7:=Hi (λ(W:World) (N:va) (h:St W0 W ((d.b,.cells #[OI d.w,OI d.m,OI d.last,.map (some d.bw),d.tv] 256)::(d.bw,d.om)::(Y++N)))=>show St W0 W (d.frag++(M++N))from h.pm λy=>by rw[<-hY];unfold DlH.frag;simp only[xa,ya,OI,OT,OQ];omega);rw[aj]at O a7;have aD:=Hi i;obtain⟨n,hn⟩:=NE d.ts.length;rw[hn]at O a7 ag ax ai;have B:=(O.alloc (.cells #[za d.b] 77)).alloc (.cells #[OI 0] 3);rw[jF]at B;obtain⟨C,hC⟩:=EN w.heap.size;rw[<-hC]at B;obtain⟨HA,HC⟩:=Hi2 B hC;obtain⟨aE,aC⟩:(0:Int)<(n:Int)/\(n:Int)<=(c:Int):=by omega
 clear f O B hC hd hw hm ae hY aj i hn ag;unfold za at *;go_enter func107,ntmps107;go_upto_region 1 with fail
 rw[<-HC.o];refine HA.o.nameC ?_;clear HA HC;intro w1 f;have a0:=f.cellH 0;have a1:=f.tail.cellH 0;have a2:=f.tail.tail.cellH 4;have HS:=Hi f;clear f;go_quiet (fail);refine St.nameE (P:=prog) (HS.o.drewN nq) ?_;clear a0 a1 a2 HS;intro w2 f;have a1:=f.tail.cellH 0;have a3:=f.tail.tail.cellH 3;obtain⟨oi,R,l,G⟩:=Va.range (P:=prog) (k:=259) (e:=306) (t:=253) underlying253 HD.o.map (f.pm (M':=(d.bw,d.om)::(C+1,.cells #[OI 0] 3)::(C,.cells #[OQ d.b] 77)::(d.b,.cells #[OI d.w,OI d.m,OI d.last,.map (some d.bw),.slice I n c] 256)::Y) CN);obtain⟨ac,K⟩:=Hi2 l G;clear f l G;go_upto_region 5 with fail
 obtain⟨r,hr⟩:=EN w2.heap.size;have a4:=ac.o;rw[<-hr]at a4;rw[<-hr];refine a4.nameC ?_;clear ac a4 R a1 a3 hr;intro w3 A;have J:=Hi A;clear A;go_loopw [5] (λlv wr=>vbn W0 d ((C+1,.cells #[OI 0] 3)::(C,.cells #[OQ d.b] 77)::(d.b,.cells #[OI d.w,OI d.m,OI d.last,.map (some d.bw),.slice I n c] 256)::Y) r lv wr) (λlv _=>d.words.length-XK lv)
 case atStart=>exact⟨[],oi,[],⟨by simp,by simp⟩,by simp,Rw.nil _ _,K.o,J.o⟩
 case round =>
  clear J K;obtain⟨V,L,F,⟨hV,E⟩,ak,hR,hI,s⟩:=hrel;obtain⟨ad,q,rfl,_⟩:=hR.form;rcases Va.next (P:=prog) XE.inj HD.o.map s hI 0 with⟨T,j⟩|⟨p,hp,a6,ab,W2,j,l,G,U⟩
  .have HP:=Hi (show V.Perm (d.words.map (·.1))from by
    refine(Un hV HD.o.map.nodup).2 λx=>⟨E x,λv=>?_⟩
    obtain⟨y,hy,rfl⟩:=jg.1 v;exact T _ hy)
   have a1:=s.tail.tail.appR.tail.cellH 0;have Q:St W0 wr (d.frag++(M++((r,L)::(F++[(C+1,.cells #[OI 0] 3),(C,.cells #[OQ d.b] 77)])))):=a7.o wr _ (s.pm CN);have H:qe QG 2 wr (.slice ad V.length q) V:=hR.rowK (M:=(r,L)::(d.bw,d.om)::((C+1,.cells #[OI 0] 3)::(C,.cells #[OQ d.b] 77)::(d.b,.cells #[OI d.w,OI d.m,OI d.last,.map (some d.bw),.slice I n c] 256)::Y)) (λx=>by simp[QG]) (s.pm CN);have a8:=Hi (xaY W0 wr d _ (.slice ad V.length q) V 175 #[OQ C,OQ (C+1)] (λ_ _=>rfl) HD.o Q HW.o HM.o H ak (λp hp=>by
    have h1:=af.o p (HP.o.mem_iff.1 hp);exact⟨h1.1,by omega⟩) hV (λW hb p hp=>yaN W0 W d (M++((r,L)::F)) (C+1) C p.1 p.2 ((Q.callB hb).pm CN) HW.o HM.o (af.o p (HP.o.mem_iff.1 hp)).2))
   have aw:=Hi Q;unfold Qaa at a8;unfold za at a8;clear hV E ak hR hI s T Q H;go_wp2_with (go_at_call 174;refine a8.o.mono ?_;rintro e' w5 ⟨v5,F5,rfl,ah,aa⟩;obtain⟨ay,ao⟩:=Hi2 ah aa;clear ah aa);go_ret;refine⟨V,HP.o,_,F5,rfl,ay.o,?_⟩;have h5:=ao.o;rw[jJ]at h5;exact(aw.o.call h5).pmSub (D:=(r,L)::(F++[(C+1,.cells #[OI 0] 3),(C,.cells #[OQ d.b] 77)])) CN
  .have Z:p.1∈d.words.map (·.1):=jg.2 ⟨p,hp,rfl⟩;have aA:V.length<d.words.length:=by
    have:(p.1::V).length<=(d.words.map (·.1)).length:=JH (jY.2 ⟨a6,hV⟩) (by
     intro x v;rcases jp.1 v with rfl|v
     .exact Z
     .exact E x v)
    rw[jk,jz]at this;exact this
   have g:=U W2 _ l;have HV:=Hi (jy hV (jy E (jy a6 Z)));obtain⟨HR,K⟩:=Hi2 hR G;obtain⟨⟨pi,pc⟩,px⟩:=p;obtain⟨xs,xd⟩:=px;have B:=(l.alloc (.cells #[OI pi,OT pc] 259)).pm (M':=F++((W2.heap.size,.cells #[OI pi,OT pc] 259)::(r,ab)::(d.bw,d.om)::(C+1,.cells #[OI 0] 3)::(C,.cells #[OQ d.b] 77)::(d.b,.cells #[OI d.w,OI d.m,OI d.last,.map (some d.bw),.slice I n c] 256)::Y)) CN;have HA:=Hi B;unfold vo YR qa at j g;simp only at j g;have S:(V.length+1)*a9<=140737488355328:=jI (Jg (show V.length+1<=1000001 by omega) ap) (by decide);have ar:V.length+1<=maxLen:=by unfold maxLen;omega
   clear hV E hR hI s hp a6 l G U Z B;go_upto_region 7 with fail
   obtain⟨C2,a5⟩:=EN W2.heap.size;have B:=HA.o;rw[<-a5]at B;rw[<-a5];refine B.nameC ?_;clear HA B a5 j g;intro w5 f;obtain⟨p0,p1⟩:=f.appR.k2 0 1;have HS:=Hi f;clear f;go_wp2_with (at_builtin;refine xh (W0:=W0) (by rfl) _ _ 257 (by rfl) 259 i0 z 2 a9 underlying257 hi av am an au (by decide) (.slice ad V.length q) V.length (V.flatMap QG) F _ (by rfl) HR.o HS.o 1 w5.heap.size [OI pi,OT pc] (by rfl) (by rfl) (by rfl) (by intro u hu;simp at hu;rcases hu with rfl|rfl<;>rfl) ar S ?_;intro v3 W3 F3 X A;obtain⟨aB,az,rfl,_⟩:=X.form;obtain⟨aq,J⟩:=Hi2 X A;clear X A);refine⟨⟨V++[(pi,pc)],ab,F3,⟨?_,?_⟩,?_,?_,K.o,?_⟩,?_⟩
   .exact Jr.2 ⟨HV.o.1,by simp,λa ha b hb e=>by simp at hb;subst hb;subst e;exact HV.o.2.2.1 ha⟩
   .intro x v;rcases jo.1 v with v|v
    .exact HV.o.2.1 x v
    .simp only[jC]at v;subst v;exact HV.o.2.2.2
   .rw[ja];simp only[j8];omega
   .rw[ja,jD];exact aq.o
   .exact J.o.pmSub (D:=[(C2,.cells #[OI pi,OT pc] 259)]) CN
   .simp[XK];omega
def zN(l:List Pr):List Pr:=l.mergeSort λx y=>decide (cfI x y<=0)
theorem vB(l:List Pr):(zN l).Perm l:=JX _ _
theorem yQ(l:List Pr):(zN l).Pairwise λx y=>x.id<=y.id:=by
 have h:=US (le:=λx y:Pr=>decide (cfI x y<=0)) (λa b c d e=>by
  unfold cfI at *;simp only[jG]at *;omega) (λa b=>by
  unfold cfI;simp only[kO,jG];omega) l
 refine h.imp λ{a b} h=>?_
 unfold cfI at h;simp only[jG]at h;omega
theorem zab(h:(p.map (·.id)).Nodup):∀x∈p,∀y∈p,x.id=y.id->x=y:=ZK h
theorem qak{a b:List Pr}(d:a.Perm b)(c:(a.map (·.id)).Nodup)(e:a.Pairwise λx y=>x.id<=y.id)(g:b.Pairwise λx y=>x.id<=y.id):a=b :=
 List.Perm.eq_of_pairwise (λx y h f j i=>zab c x h y (d.mem_iff.2 f) (by omega)) e g d
theorem qaY{a b:List Pr}(d:a.Perm b)(c:(b.map (·.id)).Nodup):zN a=zN b :=
 qak ((vB a).trans (d.trans (vB b).symm)) (((vB a).trans d).map (·.id) |>.nodup_iff.2 c) (yQ a) (yQ b)
theorem ZaY:prog.elem 33=86:=by kernel_rfl
theorem qbn:(sizeOf (prog.elem 33)).run prog w=.ok 2 w:=by rw[ZaY];kernel_rfl
theorem Zbp:prog.underlying 33=some (.slice (prog.elem 33)):=by rw[ZaY];exact underlying33
theorem YaY{t:TypeId}(ht:P.underlying t=some (.slice (P.elem t)))(k:Nat)(c:∀W,(sizeOf (P.elem t)).run P W=.ok k W)(a:Option Addr)(n cap:Nat)(d:n<=cap)(W:World):
  (Instr.slice t (.slice a n cap) none (some (OI (n:Int))) none).run P W=.ok (.slice a n cap) W:=by
 rw[run_slice_h (P:=P) (w:=W) (t:=t) (a:=a) (len:=n) (cap:=cap) (ht:=ht) (kh:=.i64) (h:=n) (h0:=by omega) (h2:=by omega),c];cases a with
 |none=>simp[sliced]
 |some a=>obtain⟨b,o,p⟩:=a;simp[sliced,Addr.add]
theorem VK(h:(p.map (·.id)).Nodup):p.Nodup:=(Uu.1 h).imp λh e=>h (by rw[e])
theorem qa8(M F:va)(v:Value)(D:List Pr)(c:(D.map (·.id)).Nodup)(d:∀x∈D,0<=x.id/\x.id<=281474976710656)
  (f:Rw 86 2 v D.length (D.flatMap prV) F) (g:St U w (F++M)) (h:D.length<=1000000000) :
  Calls prog 53 #[v,.func (.func 99) #[] #[]] w (Vp U M 86 2 prV v (zN D)) :=
 xaH U w M F v D 99 cfI (λ_ _=>rfl)
    (λx b y a=>by unfold cfI;omega) (λx b y a z k j i=>by unfold cfI at *;omega) (λx b y a e=>zab c x b y a (by unfold cfI at e;omega))
    (λx b y a W=>ya8 W x y (d x b) (d y a)) f g h
structure Ybq (K:Kp) (L:List Pr):Prop where
 nd:(L.map (·.id)).Nodup
 sub:∀x∈L,x∈K.P
 le:L.length<=K.P.length
def Za8(W0:World)(K:Kp)(h:KpH)(Z:va)(r:Nat)(lv:Value)(wr:World):Prop:=∃(L:List Pr) (oi':Obj) (F:va),Ybq K L/\Rw 86 2 lv L.length (L.flatMap prV) F/\Qx Zg h.bl oi' h.ol (L.map (·.id))/\St W0 wr ((r,oi')::(h.bl,h.ol)::(F++Z))
def XaY(W0:World)(bd bm:Nat)(K:Kp)(h:KpH)(M:va)(l:List Pr)(e:Ending)(w':World):Prop:=∃v F,e=.returned v/\Rw 86 2 v l.length (l.flatMap prV) F/\Za W0 bd bm K h (F++M) w'
theorem Ya8(W0 w:World)(v bm:Nat)(K:Kp)(h:KpH)(f:Int)(M:va)(C:KOk K)(aB:(K.P.length:Int)<f)(aV:f<=2000000)(hK:Za W0 v bm K h M w):
  Calls prog 43 #[za h.b,.int .i64 0,.int .i64 f] w (XaY W0 v bm K h M (zN K.P)):=by
 obtain⟨i0,hi,z,aL,aA,aK,ai,aD,aF⟩:=Y3;obtain⟨ho,om,fl,aj,Q⟩:=hK;have HO:=Hi ho;obtain⟨Y,hY⟩:=EN ((h.bc,h.oc)::jnF h.bj v K.j::(h.Fm++(h.Fr++(h.rs.flatMap (vd.frag K.m.o)++(h.Fp++(h.dl.frag++(h.Ft++h.ts.flatMap KtH.frag))))))++(Zb v bm om fl K.d++M));have a6:∀x,cntF x (Zb v bm om fl K.d++(h.frag v K++M))=cntF x ((h.bl,h.ol)::(h.b,.cells (kpC v K h) 82)::Y):=λx=>by
  rw[hY];unfold KpH.frag;simp only[xa,ya,OI,OT,OQ,jO];omega
 have ac:=Q.pm (M':=(h.bl,h.ol)::(h.b,.cells (kpC v K h) 82)::Y) (λx=>(a6 x).symm);have ap:=Hi (λ(W:World) (F X:va) (hs:St W0 W (F++(X++((h.bl,h.ol)::(h.b,.cells (kpC v K h) 82)::Y))))=>show Za W0 v bm K h (F++M) W from⟨ho,om,fl,aj,hs.pmSub (D:=X) λx=>by
  have:=a6 x;simp only[xa,ya,OI,OT,OQ]at this|-;omega⟩)
 have aq:=Hi (λ(x:Int × Bs)=>show x∈h.live<->(⟨x.1,x.2⟩:Pr)∈K.P from by
  rw[ho.lperm.mem_iff,jg];exact⟨λ⟨p,hp,e⟩=>by subst e;exact hp,λc=>⟨_,c,rfl⟩⟩)
 obtain⟨a7,a0⟩:=Hi2 C.prs C.ids;have aG:=C.plen;have aM:(0:Int)<=(K.P.length:Int):=by omega
 have k1:w.cell? ⟨h.b,15,none⟩=some (.map (some h.bl)):=ac.tail.cellH 15;obtain⟨oi,N,q,A⟩:=Va.range (P:=prog) (k:=3) (e:=108) (t:=78) underlying78 ho.lmap ac;obtain⟨a3,G⟩:=Hi2 q A;clear Q ac q A hY a6 aj C ho;obtain⟨KC,ag⟩:=NE (kpC v K h);rw[ag]at a3 ap;obtain⟨PP,a5⟩:=NE K.P.length;have I:=Hi a5;rw[a5]at aB aM aG;clear ag a5;unfold za;go_enter func43,ntmps43;go_upto_region 5 with fail
 obtain⟨r,hr⟩:=EN w.heap.size;have Z:=a3.o;rw[<-hr]at Z;rw[<-hr];refine Z.nameC ?_;clear a3 Z N k1 hr;intro w3 s;have E:=Hi s;clear s;go_loopw [7] (λlv wr=>Za8 W0 K h ((h.b,.cells KC 82)::Y) r lv wr) (λlv _=>PP-XK lv)
 case atStart=>exact⟨[],oi,[],⟨by simp,by simp,by simp⟩,Rw.nil _ _,G.o,E.o⟩
 case round =>
  clear E G;obtain⟨L,a9,F,⟨hV,g,ae⟩,hR,hI,J⟩:=hrel;rw[I.o]at ae;obtain⟨ad,B,rfl,am,an,_⟩:=hR.form;rcases Va.next (P:=prog) (λx y e=>by injection e) HO.o.lmap J hI 0 with⟨T,l⟩|⟨p,hp,a8,ak,W2,l,q,A,U⟩
  .have ab:L.Perm K.P:=by
    refine(Un (VK hV) (VK a0.o)).2 λx=>⟨g x,λc=>?_⟩
    have h1:=T (x.id,x.code) ((aq.o (x.id,x.code)).2 c);obtain⟨y,hy,e⟩:=jg.1 h1;rw[<-zab a0.o y (g y hy) x c e];exact hy
   have au:L.length=PP:=by rw[ab.length_eq,I.o]
   have al:=Hi (qaY ab a0.o);have O:=Hi (qa8 W0 wr ((r,a9)::(h.bl,h.ol)::(h.b,.cells KC 82)::Y) F (.slice ad L.length B) L hV
    (λx c=>⟨(a7.o x (g x c)).1,(a7.o x (g x c)).2.1⟩) hR (J.pm CN) (by omega))
   have ar:=λW=>YaY (P:=prog) Zbp 2 qbn ad L.length B am W
   have a4:(zN L).length=L.length:=(vB L).length_eq;unfold Vp at O;obtain⟨S,Q⟩:=NE (zN L);rw[Q]at O al a4;have av:=Hi a4;have aU:L.length<9223372036854775807:=by omega
   obtain⟨n,hn⟩:=NE L.length;rw[hn]at ar O av au am;have aR:(n:Int)<f:=by omega
   have aW:(n:Int)<=(B:Int):=by omega
   have aQ:(0:Int)<=(n:Int):=by omega
   have ax:n<=1000000000:=by omega
   have aI:=Hi ax;have ay:=Hi (show(min f (n:Int)).toNat=n by omega);clear hV g ae hR hI J T ab Q a4 an au ax;rw[hn];clear hn;go_wp2_with (first|(go_at_call 53;refine O.o.mono ?_;rintro e' w5 ⟨rfl,F5,aa,a1⟩;have ah:=Rw.rowK (M:=(r,a9)::(h.bl,h.ol)::(h.b,.cells KC 82)::Y) aa (λx=>by simp[prV]) a1;have HC:=Hi (λhl=>yaV w5 (.slice ad n B) S ah aa.vnil hl);have aE:=Hi a1;clear aa a1 ah)|(go_at_call 100;rw[ay.o];refine(HC.o (by rw[av.o];exact aI.o)).mono ?_;rintro e' w6 ⟨v6,F6,rfl,ao,aw⟩;have az:=Hi ao;have aC:=Hi (aE.o.call aw);clear ao aw));go_ret;refine⟨v6,F6,rfl,?_,ap.o _ F6 (F5++[(r,a9)]) (aC.o.pm CN)⟩;rw[<-al.o];exact az.o
  .have H:(⟨p.1,p.2⟩:Pr)∈K.P:=(aq.o p).1 hp;have af:=a7.o _ H;have aO:L.length<PP:=by
    have:(p.1::L.map (·.id)).length<=(K.P.map (·.id)).length:=JH (jY.2 ⟨a8,hV⟩) (by
     intro x c;rcases jp.1 c with rfl|c
     .exact jg.2 ⟨_,H,rfl⟩
     .obtain⟨y,hy,rfl⟩:=jg.1 c;exact jg.2 ⟨y,g y hy,rfl⟩)
    rw[jk,jz,jz,I.o]at this;exact this
   have i:=U W2 _ q;have HV:=Hi (jy hV (jy g (jy a8 H)));obtain⟨HR,G⟩:=Hi2 hR A;obtain⟨pi,pc⟩:=p;simp only at af;obtain⟨aT,aS,_⟩:=af;have hA:=(q.alloc (.cells #[.string ⟨pc.toArray⟩] 108)).pm (M':=F++((W2.heap.size,.cells #[.string ⟨pc.toArray⟩] 108)::(r,ak)::(h.bl,h.ol)::(h.b,.cells KC 82)::Y)) CN;have HA:=Hi hA;unfold Zg vaa qa at l i;simp only at l i;have R:(L.length+1)*ai<=140737488355328:=jI (Jg (show L.length+1<=1000001 by omega) aF) (by decide);have aJ:L.length+1<=maxLen:=by unfold maxLen;omega
   clear hV g ae hR hI J hp a8 q A U H hA an;go_upto_region 7 with fail
   obtain⟨C2,a2⟩:=EN W2.heap.size;have hA:=HA.o;rw[<-a2]at hA;rw[<-a2];refine hA.nameC ?_;clear HA hA a2 l i;intro w5 Q;have p0:w5.cell? ⟨C2,0,none⟩=some (.string ⟨pc.toArray⟩):=Q.appR.cellH 0;have HS:=Hi Q;clear Q;go_wp2_with (at_builtin;refine xh (W0:=W0) (by rfl) _ _ 33 (by rfl) 86 i0 z 2 ai underlying33 hi aL aA aD aK (by decide) (.slice ad L.length B) L.length (L.flatMap prV) F _ (by rfl) HR.o HS.o 1 w5.heap.size [.int .i64 pi,.string ⟨pc.toArray⟩] (by rfl) (by rfl) (by rfl) (by intro u hu;simp at hu;rcases hu with rfl|rfl<;>rfl) aJ R ?_;intro v3 W3 F3 V s;obtain⟨aP,aN,rfl,_⟩:=V.form;obtain⟨aH,E⟩:=Hi2 V s;clear V s);refine⟨⟨L++[⟨pi,pc⟩],ak,F3,⟨?_,?_,?_⟩,?_,?_,?_⟩,?_⟩
   .rw[jr];exact Jr.2 ⟨HV.o.1,by simp,λa ha b hb e=>by simp at hb;subst hb;subst e;exact HV.o.2.2.1 ha⟩
   .intro x c;rcases jo.1 c with c|c
    .exact HV.o.2.1 x c
    .simp only[jC]at c;subst c;exact HV.o.2.2.2
   .rw[ja,I.o];simp only[j8];omega
   .rw[ja,jD];exact aH.o
   .rw[jr];exact G.o
   .exact E.o.pmSub (D:=[(C2,.cells #[.string ⟨pc.toArray⟩] 108)]) CN
   .simp[XK];omega
def ZH(l:List Int):List Int:=l.mergeSort λx y=>decide (x<=y)
theorem yN(l:List Int):(ZH l).Perm l:=JX _ _
theorem VaA{l:List Int}(h:l.Nodup):(ZH l).Pairwise (·<·):=by
 have d:(ZH l).Pairwise (λx y=>decide (x<=y)=true):=US (λa b c d e=>by simp only[jG]at *;omega) (λa b=>by simp;omega) l;have e:(ZH l).Nodup:=(yN l).nodup_iff.2 h;exact(d.and e).imp λ{a b} ⟨h3,h4⟩=>by simp only[jG]at h3;omega
theorem zbh(m w:World)(M F:va)(v:Value)(l:List Int)(k:Rw 3 1 v l.length (xg l) F)(c:St m w (F++M))(z:l.length<=1000000000):
  Calls prog 102 #[v] w λe d=>e=.returned (.tuple #[])/\∃F',Rw 3 1 v l.length (xg (ZH l)) F'/\St m d (F'++M):=by
 by_cases hne:l=[]
 .subst hne;have f:=k;obtain⟨r,a,rfl,_⟩:=k.form;refine(slices_Sort_int_none r a w).mono ?_;rintro e d ⟨rfl,rfl⟩;exact⟨rfl,F,by simpa [ZH] using f,c⟩
 have y:0<l.length:=JI.2 hne;obtain⟨x,q⟩:=k;rcases q with⟨rfl,t,rfl⟩|⟨g,a,b,rfl,rfl,h,s,j,o⟩
 .omega
 .have p:w.heap[g]?=some (.cells b 3):=c.get;rw[JM]at o j;have i:(ZH l).length=l.length:=(yN l).length_eq;refine(slices_Sort_int g 0 a l w (holds_of_blockI p (by simpa [xg] using o)) c.hlt (by omega)).mono ?_;rintro e d ⟨rfl,n,u,rfl⟩;refine⟨rfl,[(g,.cells (Go.Sort.putCells (Value.int .i64) 0 (ZH l).toArray b) 3)],⟨by simp[xg,i],.inr ⟨g,a,_,rfl,rfl,h,s,by simp[Go.Sort.putCells,j],?_⟩⟩,?_⟩
  .rw[JM,<-i];have:=take_putCellsI b (ZH l) (by rw[i,j];omega);simpa [xg] using this
  .exact c.put (grownBy_sortedI _) (heap_sortedI _ p)
theorem Xv.has{b:Bs->Int}{t:List (Int × List Int)}(h:Xv b p t)(v:Int):v∈t.map (·.1)<->∃a∈p,b a.code=v:=by
 constructor
 .intro g;obtain⟨⟨j,s⟩,f,rfl⟩:=jg.1 g;obtain⟨d,_⟩:=h.some' _ f;obtain⟨i,k⟩:∃i,i∈s:=kQ _ d;obtain⟨a,c,_,e⟩:=(h.says j i).1 ⟨s,f,k⟩;exact⟨a,c,e⟩
 .rintro⟨a,c,e⟩;obtain⟨s,d,_⟩:=(h.says v a.id).2 ⟨a,c,rfl,e⟩;exact jg.2 ⟨_,d,rfl⟩
theorem VaY{α:Type}(l:List α)(j:Nat)(h:j<l.length):l=l.take j++l[j]::l.drop (j+1):=by
 rw[<-jR h,Ja]
structure Xbq (t:KtH) (L:List Int):Prop where
 nd:L.Nodup
 sub:∀x∈L,x∈t.ss.map (·.key)
def ybh(W0:World)(t:KtH)(Z:va)(r:Nat)(lv:Value)(wr:World):Prop:=∃(L:List Int) (oi':Obj) (F:va),Xbq t L/\Rw 3 1 lv L.length (xg L) F/\Qx Zg t.b oi' t.om L/\St W0 wr ((r,oi')::(t.b,t.om)::(F++Z))
def qaN(W0:World)(bd bm:Nat)(K:Kp)(h:KpH)(M:va)(j:Nat)(e:Ending)(w':World):Prop:=∃v F l,e=.returned v/\Rw 3 1 v l.length (xg l) F/\Za W0 bd bm K h (F++M) w'/\l.Pairwise (·<·)/\∀x,x∈l<->∃p∈K.P,Yf K.m.o j p.code=x
theorem xbh(W0 w:World)(g bm:Nat)(K:Kp)(h:KpH)(j:Nat)(M:va)(ah:KOk K)(hj:j<Qd K.m.o)(hK:Za W0 g bm K h M w):
  Calls prog 45 #[za h.b,OI (j:Int)] w (qaN W0 g bm K h M j):=by
 obtain⟨i1,ay,aI,aF,ax⟩:=Vs Yal;obtain⟨ho,om,fl,ai,hS⟩:=hK;have E:j<h.ts.length:=by rw[ho.tlen];exact hj
 have a6:=VaY h.ts j E;obtain⟨t,ht⟩:=NE (h.ts[j]);rw[ht]at a6;have I:h.ts[j]?=some t:=by rw[jt E,ht]
 have A:=ho.tabs t (Js I);have a0:=ho.tok j t I;have c:t.tab.map (·.1)=t.ss.map (·.key):=by unfold KtH.tab;rw[j7];rfl
 have i:=a0.has;rw[c]at i;have aa:(t.ss.map (·.key)).Nodup:=by rw[<-c];exact a0.keys
 have Q:(t.ss.map (·.key)).length<=1000000:=by
  have h1:(t.ss.map (·.key)).length<=(K.P.map λp=>Yf K.m.o j p.code).length:=JH aa λx f=>by
   obtain⟨p,hp,e⟩:=(i x).1 f;exact jg.2 ⟨p,hp,e⟩
  simp only[jz]at h1|-
  exact jI h1 ah.plen
 obtain⟨Y,hY⟩:=EN ((h.bl,h.ol)::(h.bc,h.oc)::jnF h.bj g K.j::(h.Fm++(h.Fr++(h.rs.flatMap (vd.frag K.m.o)++(h.Fp++(h.dl.frag++(h.Ft++((h.ts.take j).flatMap KtH.frag++((t.ss.map λs=>(s.b,s.om))++(h.ts.drop (j+1)).flatMap KtH.frag))))))))++(Zb g bm om fl K.d++M));have ak:∀x,cntF x (h.ts.flatMap KtH.frag)=cntF x ((h.ts.take j).flatMap KtH.frag)+(cnt1 x (t.b,t.om)+cntF x (t.ss.map λs=>(s.b,s.om))+cntF x ((h.ts.drop (j+1)).flatMap KtH.frag)):=λx=>by
  have e:cntF x (h.ts.flatMap KtH.frag)=cntF x ((h.ts.take j++t::h.ts.drop (j+1)).flatMap KtH.frag):=by rw[<-a6]
  rw[e,zx,yx]
 have a2:∀x,cntF x (Zb g bm om fl K.d++(h.frag g K++M))=cntF x ((t.b,t.om)::(h.b,.cells (kpC g K h) 82)::Y):=λx=>by
  have:=ak x;rw[hY];unfold KpH.frag;simp only[xa,ya,OI,OT,OQ,jO]at this|-;omega
 have a9:=hS.pm (M':=(t.b,t.om)::(h.b,.cells (kpC g K h) 82)::Y) (λx=>(a2 x).symm);have ao:=Hi (λ(W:World) (F X:va) (hs:St W0 W (F++(X++((t.b,t.om)::(h.b,.cells (kpC g K h) 82)::Y))))=>show Za W0 g bm K h (F++M) W from⟨ho,om,fl,ai,hs.pmSub (D:=X) λx=>by
  have:=a2 x;simp only[xa,ya,OI,OT,OQ]at this|-;omega⟩)
 have a8:=ho.trow;obtain⟨gt,ae,a4,U⟩:=a8.cells (W:=w) (W0:=W0) (M:=(h.b,.cells (kpC g K h) 82)::(h.bl,h.ol)::(h.bc,h.oc)::jnF h.bj g K.j::(h.Fm++(h.Fr++(h.rs.flatMap (vd.frag K.m.o)++(h.Fp++(h.dl.frag++(h.ts.flatMap KtH.frag++(Zb g bm om fl K.d++M)))))))) (hS.pm λy=>by unfold KpH.frag;simp only[xa,ya,OI,OT,OQ];omega) (by intro e;have:=jT List.length e;simp at this;rw[this]at E;simp at E);have x1:OV w gt j (.map (some t.b)):=U j _ (by rw[jZ,I,JE]);have x2:w.cell? ⟨h.b,17,none⟩=some (.slice (some ⟨gt,0,none⟩) h.ts.length ae):=by
  have:=a9.tail.cellH 17;rw[this,<-a4];rfl
 have af:(h.ts.length:Int)<=(ae:Int):=by
  obtain⟨aP,aK,e,h1,_⟩:=a8.form;rw[a4]at e;injection e with _ _ e;omega
 obtain⟨aD,aO⟩:(j:Int)<(h.ts.length:Int)/\(0:Int)<=(j:Int):=by omega
 obtain⟨oi,N,q,B⟩:=Va.range (P:=prog) (k:=3) (e:=110) (t:=111) underlying111 A.map a9;obtain⟨a1,H,aA,aq,aN⟩:=Hi5 q B A i aa;have aG:=Hi Q;obtain⟨nt,an⟩:=NE h.ts.length;rw[an]at x2 af aD;obtain⟨KC,ac⟩:=NE (kpC g K h);rw[ac]at a1 ao;clear hS a9 q B hY a2 ak ai ah ho E a6 ht I A a0 c i aa Q a8 a4 U an ac hj;unfold za;go_enter func45,ntmps45;go_upto_region 5 with fail
 obtain⟨r,hr⟩:=EN w.heap.size;have Z:=a1.o;rw[<-hr]at Z;rw[<-hr];refine Z.nameC ?_;clear a1 Z N x1 x2 hr;intro w3 v;have G:=Hi v;clear v;go_loopw [5] (λlv wr=>ybh W0 t ((h.b,.cells KC 82)::Y) r lv wr) (λlv _=>t.ss.length-XK lv)
 case atStart=>exact⟨[],oi,[],⟨by simp,by simp⟩,Rw.nil _ _,H.o,G.o⟩
 case round =>
  clear G H;obtain⟨L,ap,F,⟨hV,l⟩,hR,hI,J⟩:=hrel;obtain⟨ad,av,rfl,aB,al,_⟩:=hR.form;have au:L.length<=1000000:=jI (JH hV l) aG.o;rcases Va.next (P:=prog) (λx y e=>by injection e) aA.o.map J hI 0 with⟨R,C⟩|⟨p,hp,a5,aj,W2,C,q,B,T⟩
  .have aw:=Hi (λ(x:Int)=>show x∈ZH L<->∃p∈K.P,Yf K.m.o j p.code=x from by
    rw[(yN L).mem_iff,<-aq.o x];refine⟨l x,λf=>?_⟩;obtain⟨s,hs,rfl⟩:=jg.1 f;exact R (s.key,s.b) (jg.2 ⟨s,hs,rfl⟩))
   have am:=Hi (VaA hV);have ab:=Hi (zbh W0 wr ((r,ap)::(t.b,t.om)::(h.b,.cells KC 82)::Y) F (.slice ad L.length av) L hR (J.pm CN) (by omega));have a7:=Hi (yN L).length_eq;obtain⟨S,hS⟩:=NE (ZH L);rw[hS]at ab aw am a7;obtain⟨n,hn⟩:=NE L.length;rw[hn]at ab a7;rw[hn];clear hV l hR hI J R hS al au hn aB;go_wp2_with (go_at_call 102;refine ab.o.mono ?_;rintro e' w5 ⟨rfl,F5,ar,ag⟩;obtain⟨aH,az⟩:=Hi2 ar ag;clear ar ag);go_ret;exact⟨_,F5,S,rfl,by rw[a7.o];exact aH.o,ao.o _ F5 [(r,ap)] (az.o.pm CN),am.o,aw.o⟩
  .have a3:p.1∈t.ss.map (·.key):=by
    obtain⟨s,hs,rfl⟩:=jg.1 hp;exact jg.2 ⟨s,hs,rfl⟩
   have aL:L.length<t.ss.length:=by
    have:(p.1::L).length<=(t.ss.map (·.key)).length:=JH (jY.2 ⟨a5,hV⟩) (by
     intro x f;rcases jp.1 f with rfl|f
     .exact a3
     .exact l x f)
    rw[jk,jz]at this;exact this
   have z:=T W2 _ q;have HV:=Hi (jy hV (jy l (jy a5 a3)));obtain⟨HR,H⟩:=Hi2 hR B;obtain⟨pi,pb⟩:=p;have hA:=q.pm (M':=F++((r,aj)::(t.b,t.om)::(h.b,.cells KC 82)::Y)) CN;have HS:=Hi hA;unfold Zg at C z;simp only at C z;have O:(L.length+1)*8<=140737488355328:=by omega
   have aE:L.length+1<=maxLen:=by unfold maxLen;omega
   clear hV l hR hI J hp a5 q B T a3 hA al au;go_wp2_with (at_builtin;refine xh (W0:=W0) (by rfl) _ _ 100 (by rfl) 3 i1 (OI 0) 1 8 underlying100 ay aI aF ax (by rfl) (by decide) (.slice ad L.length av) L.length (xg L) F _ (by rfl) HR.o HS.o 1 W2.heap.size [OI pi] (by rfl) (by rfl) (by rfl) (by intro u hu;simp at hu;rcases hu with rfl;rfl) aE O ?_;intro v3 W3 F3 V v;obtain⟨aM,aJ,rfl,_⟩:=V.form;obtain⟨aC,G⟩:=Hi2 V v;clear V v);refine⟨⟨L++[pi],aj,F3,⟨?_,?_⟩,?_,H.o,?_⟩,?_⟩
   .exact Jr.2 ⟨HV.o.1,by simp,λa ha b hb e=>by simp at hb;subst hb;subst e;exact HV.o.2.2.1 ha⟩
   .intro x f;rcases jo.1 f with f|f
    .exact HV.o.2.1 x f
    .simp only[jC]at f;subst f;exact HV.o.2.2.2
   .rw[ja];unfold xg;rw[jr];exact aC.o
   .exact G.o.pm CN
   .simp[XK];omega
def Z6(W0:World)(bd bm b:Nat)(G:va->Prop)(r:Kp × Int)(e:Ending)(w':World):Prop:=e=.returned (.int .i64 r.2)/\∃h M,h.b=b/\G M/\Za W0 bd bm r.1 h M w'
theorem Xa8(K H:Kp)(h:KpH)(x:Int)(M:va)(G:va->Prop)(g:Nat)(P:Array Value)(N:Enters prog g)(s:Za U q c K h M w)(L:K.gone=false)(I:K.d.off=false)(O:K.d.age=K.age)
  (m:∀W,Za U q c K h M W->Calls prog g P W (Z6 U q c h.b G (H,x))) :
  Calls prog 47 #[za h.b,.func (.func g) #[] P] w (Z6 U q c h.b G ({H with gone:=decide (x=45)},x)):=by
 have v:=s.2.rest;have C:OV w h.b 0 (za q):=v.cellH 0;have z:OV w h.b 1 (OI K.age):=v.cellH 1;have y:OV w h.b 2 (.bool K.gone):=v.cellH 2;rw[L]at y;have k:=Hi (λW (l:Below w.heap.size w W)=>(XG W q K.d.off (s.2.callB l).off).mono λe T h=>Ret.toB h);have j:=Hi (λW (l:Below w.heap.size w W)=>(vW W q K.d.age (s.2.callB l).age).mono λe T h=>Ret.toB h);rw[I]at k;rw[O]at j;have he:∀(args:Array Value) (w:World),(callFunc g args).run prog w=.ok (.enter g args) w:=N;obtain⟨f,Q⟩:=Hi2 m s;obtain⟨b,l⟩:=NE h.b;rw[l]at C z y f|-
 have V:=λd r=>jH C d r
 have X:=λd r=>jH z d r
 have R:=λd r=>jH y d r
 clear v s m N L I O l;unfold Z6 at f;simp only at f;unfold za at *;go_enter func47,ntmps47;go_upto_region 1 with(fail)
 refine Jq (by kernel_rfl) (by kernel_rfl) ?_
 repeat(go_big_quiet_step ((first|(go_at_call 24;exact Jh (k.o _ (Jo _ _ _)))|(go_at_call 79;exact Jh (j.o _ (Jo _ _ _))))))
 refine Ub ?_;intro _ A;obtain⟨⟨F,i⟩,u⟩:=A;subst u;have t:=Hi (Q.o.callB (Jo w F i));have Z:=R F i;obtain⟨S,n⟩:=NE (grow (redrawn w F) i);rw[n]at t Z|-
 clear n V X R C z y k j Q;go_wp2_with (go_at_fn g;refine(f.o _ t.o).mono ?_;rintro e J ⟨rfl,B,Y,rfl,p,a⟩;have y0:=a.2.rest.cellH 2;have y1:=a.2.rest.freeH 2;have D:=Hi p;have E:=Hi (a.setGone (decide (x=45)));clear a p);go_ret;exact⟨rfl,B,Y,rfl,D.o,E.o⟩
def xD(l:List Pr):List Pr:=l.mergeSort λx y=>decide (cfP x y<=0)
def prE(p:Pr):En:=⟨0,p.code,p.id,0,false⟩
theorem VN(x y:Pr):(cfP x y<0<->yb (prE x) (prE y)<0)/\(0<cfP x y<->0<yb (prE x) (prE y)):=yao (x:=prE x) (y:=prE y) rfl
theorem vbh(M F:va)(v:Value)(D:List Pr)(g:(D.map (·.id)).Nodup)(j:∀x∈D,0<=x.id/\x.id<=281474976710656)
  (k:Rw 86 2 v D.length (D.flatMap prV) F) (l:St U w (F++M)) (m:D.length<=1000000000) :
  Calls prog 53 #[v,.func (.func 54) #[] #[]] w (Vp U M 86 2 prV v (xD D)) :=
 xaH U w M F v D 54 cfP (λ_ _=>rfl)
    (λx e y d=>by
     have h:=VN x y;have f:=VN y x;have i:=zr (prE x) (prE y);omega) (λx e y d z p n o=>by
     have h:=VN x y;have f:=VN y z;have i:=VN x z;have:=ZA (a:=prE x) (b:=prE y) (c:=prE z) (by omega) (by omega);omega) (λx e y d a=>by
     have h:=VN x y;have f:=Yo.1 (show yb (prE x) (prE y)=0 by omega);simp only[En.key,prE,Je]at f;refine zab g x e y d ?_;rcases f with⟨_,_,i⟩|_<;>omega)
    (λx e y d W=>xbn W x y (j x e) (j y d)) k l m
end Go.Proofs.YtekkihmmclencaaGreatDoor
