import Derived.Test.YtekkihmmclencaaGreatDoorM17
namespace Go.Proofs.YtekkihmmclencaaGreatDoor
set_option linter.all false
set_option maxRecDepth 100000
set_option maxHeartbeats 40000000
open Tryz
open Go Go.RowKit Go.Sort
variable(U w:World)(q c:Nat)(J:Kp)(h:KpH){W V:World}{n b k i j m:Nat}{v:Value}{F G:va}{s:Bs}{T:TypeId}{o:Op3}{X:List Value}
section
structure LvH where
 bl:Nat
 ol:Obj
 bc:Nat
 oc:Obj
 tv:Value
 Ft:va
 ts:List KtH
 live:List (Int × Bs)
 codes:List (Bs × Int)
def LvH.frag(x:LvH):va:=(x.bl,x.ol)::(x.bc,x.oc)::(x.Ft++x.ts.flatMap KtH.frag)
structure LvH.ok (o:Op3) (P:List Pr) (x:LvH):Prop where
 lmap:Va Zg vaa x.ol x.live
 lperm:x.live.Perm (P.map λp=>(p.id,p.code))
 cmap:Va qa Zg x.oc x.codes
 cok:Zl P x.codes
 trow:Rw 111 1 x.tv x.ts.length (x.ts.map λt=>.map (some t.b)) x.Ft
 tabs:∀t∈x.ts,t.ok
 tlen:x.ts.length=Qd o
 tok:∀(j:Nat) t,x.ts[j]?=some t->Xv (Yf o j) P t.tab
def KpH.lv(h:KpH):LvH:=⟨h.bl,h.ol,h.bc,h.oc,h.tv,h.Ft,h.ts,h.live,h.codes⟩
def KpH.setLv(h:KpH)(x:LvH):KpH:={h with bl:=x.bl,ol:=x.ol,bc:=x.bc,oc:=x.oc,tv:=x.tv,Ft:=x.Ft,ts:=x.ts,live:=x.live,codes:=x.codes}
theorem KpH.ok.lv{K:Kp}{h:KpH}(a:h.ok K):h.lv.ok K.m.o K.P:=⟨a.lmap,a.lperm,a.cmap,a.cok,a.trow,a.tabs,a.tlen,a.tok⟩
theorem KpH.ok.setLv{K:Kp}{h:KpH}(b:h.ok K){x:LvH}{P:List Pr}(a:x.ok K.m.o P):(h.setLv x).ok {K with P:=P} :=
 ⟨b.mrow,b.runs,b.each,b.rrow,b.prow,b.dok,b.dw,b.dt,a.lmap,a.lperm,a.cmap,a.cok,a.trow,a.tabs,a.tlen,a.tok⟩
def zk(bd:Nat)(K:Kp)(h:KpH)(jv:Value):Array Value :=
 #[za bd,.int .i64 K.age,.bool K.gone,.int .i64 K.m.o.width,.int .i64 K.m.o.chunks,.int .i64 K.m.o.mode,.int .i64 K.m.seq,.int .i64 K.m.next,.int .i64 K.m.journal,h.rv,h.rsv,jv,h.pv,za h.dl.b,.int .i64 K.synced,.map (some h.bl),.map (some h.bc),h.tv]
def KpH.fragj(bd:Nat)(K:Kp)(h:KpH)(jv:Value):va :=
 (h.b,.cells (zk bd K h jv) 82 (0,0))::(h.bl,h.ol)::(h.bc,h.oc) ::
  (h.Fm++(h.Fr++(h.rs.flatMap (vd.frag K.m.o)++(h.Fp++(h.dl.frag++(h.Ft++h.ts.flatMap KtH.frag))))))
def vc(W0:World)(bd bm:Nat)(K:Kp)(h:KpH)(jv:Value)(M:va)(W:World):Prop:=h.ok K/\Xa W0 bd bm K.d (h.fragj bd K jv++M) W
theorem Za.toJ{W0 W:World}{bd bm:Nat}{K:Kp}{h:KpH}{M:va}(a:Za W0 bd bm K h M W):vc W0 bd bm K h (za h.bj) (jnF h.bj bd K.j::M) W :=
 ⟨a.1,a.2.pm λx=>by unfold KpH.frag KpH.fragj kpC zk;simp only[xa,ya,OI,OT,OQ];omega⟩
theorem vc.toK{W0 W:World}{bd bm:Nat}{K:Kp}{h:KpH}{M:va}(a:vc W0 bd bm K h (za h.bj) (jnF h.bj bd K.j::M) W):Za W0 bd bm K h M W :=
 ⟨a.1,a.2.pm λx=>by unfold KpH.frag KpH.fragj kpC zk;simp only[xa,ya,OI,OT,OQ];omega⟩
namespace vc
variable {W0 W W':World} {bd bm:Nat} {K:Kp} {h:KpH} {jv:Value} {M M':va}
theorem callB(a:vc W0 bd bm K h jv M W)(b:Below W.heap.size W W'):vc W0 bd bm K h jv M W':=⟨a.1,a.2.callB b⟩
theorem call(a:vc W0 bd bm K h jv M W)(k:St W W' M'):vc W0 bd bm K h jv (M'++M) W':=⟨a.1,(a.2.call k).pm CN⟩
theorem pm(a:vc W0 bd bm K h jv M W)(b:∀x,cntF x M'=cntF x M):vc W0 bd bm K h jv M' W:=⟨a.1,a.2.pm λx=>by simp only[xa];have:=b x;omega⟩
theorem drew(a:vc W0 bd bm K h jv M W):vc W0 bd bm K h jv M W.drew:=⟨a.1,a.2.drew⟩
theorem pmSub{X:va}(a:vc W0 bd bm K h jv M W)(b:∀x,cntF x M'+cntF x X=cntF x M):vc W0 bd bm K h jv M' W:=⟨a.1,a.2.pmSub (X:=X) λx=>by simp only[xa];have:=b x;omega⟩
theorem alloc(a:vc W0 bd bm K h jv M W)(o:Obj):vc W0 bd bm K h jv ((W.heap.size,o)::M) (W.alloc o):=⟨a.1,(a.2.alloc o).pm CN⟩
theorem lvSt(g:vc W0 bd bm K h jv M W):∃a c,xe a c K.d/\St W0 W ((h.b,.cells (zk bd K h jv) 82)::(h.lv.frag++(h.Fm++(h.Fr++(h.rs.flatMap (vd.frag K.m.o)++(h.Fp++(h.dl.frag++(Zb bd bm a c K.d++M)))))))):=by
 obtain⟨_,a,c,e,f⟩:=g;exact⟨a,c,e,f.pm λx=>by unfold KpH.fragj LvH.frag KpH.lv;simp only[xa,ya,OI,OT,OQ];omega⟩
theorem ofLv{x:LvH}{P:List Pr}{a:Obj}{c:List FH}(g:h.ok K)(f:xe a c K.d)(n:x.ok K.m.o P)(i:x.bl=h.bl)(l:x.bc=h.bc)(j:x.tv=h.tv)
  (k:St W0 W ((h.b,.cells (zk bd K h jv) 82)::(x.frag++(h.Fm++(h.Fr++(h.rs.flatMap (vd.frag K.m.o)++(h.Fp++(h.dl.frag++(Zb bd bm a c K.d++M))))))))) :
  vc W0 bd bm {K with P:=P} (h.setLv x) jv M W :=
 ⟨g.setLv n,a,c,f,k.pm λy=>by
  have e:zk bd {K with P:=P} (h.setLv x) jv=zk bd K h jv:=by unfold zk KpH.setLv;simp only[i,l,j]
  unfold KpH.fragj LvH.frag;rw[e];unfold KpH.setLv;simp only[xa,ya,OI,OT,OQ];omega⟩
end vc
theorem qaA(b:List XI)(v:Int):(∀s∈b,s.key≠v)\/∃A s B,b=A++s::B/\s.key=v:=by
 by_cases h:∃s∈b,s.key=v
 .obtain⟨s,a,e⟩:=h;obtain⟨A,B,rfl⟩:=JU a;exact .inr ⟨A,s,B,rfl,e⟩
 .exact .inl λs a e=>h ⟨s,a,e⟩
theorem Van{κ ν:Type}[DecidableEq κ]{l:List (κ × ν)}{x:κ}(h:∀p∈l,p.1≠x):Zd l x=none:=Yg.2 λb=>by
 obtain⟨p,a,e⟩:=jg.1 b;exact h p a e
theorem KtH.ok.keysB{t:KtH}(h:t.ok):((t.ss.map λs=>(s.key,s.b)).map (·.1)).Nodup:=h.map.nodup
theorem KtH.ok.keysT{t:KtH}(h:t.ok):(t.tab.map (·.1)).Nodup:=by
 have:=h.keysB;rw[j7]at this;unfold KtH.tab;rw[j7];exact this
theorem KtH.ok.mapKeys{t:KtH}(h:t.ok):∀p∈t.ss.map (λs=>(s.key,s.b)),-9223372036854775808<=p.1/\p.1<=9223372036854775807:=by
 intro p c;obtain⟨s,a,rfl⟩:=jg.1 c;exact h.keys s a
theorem Qbm:∀W,(zeroValue 110).run prog W=.ok (.map none) W:=λW=>by
 have h:(prog.info? 110).map (λi=>i.zero)=some (some (.map none)):=by kernel_rfl
 obtain⟨i,b,a⟩:=jL.1 h;simp[zeroValue,typeInfo,b,a]
theorem KtH.ok.look{t:KtH}(h:t.ok){W:World}(i:W.heap[t.b]?=some t.om){v:Int}(g:-9223372036854775808<=v)(f:v<=9223372036854775807):
  ((∀s∈t.ss,s.key≠v)->(Instr.lookup 111 (.map (some t.b)) (OI v) false).run prog W=.ok (.map none) W) /\
  (∀A s B,t.ss=A++s::B->s.key=v->(Instr.lookup 111 (.map (some t.b)) (OI v) false).run prog W=.ok (.map (some s.b)) W):=by
 have a:=Va.look (P:=prog) (k:=3) (e:=110) (t:=111) Qn underlying111 h.map h.mapKeys i (x:=v) ⟨g,f⟩ false;refine⟨λl=>?_,λA s B e d=>?_⟩
 .have:=a.2 (Van λp c=>by obtain⟨s,j,rfl⟩:=jg.1 c;exact l s j) _ (Qbm W);simpa [Zg] using this
 .have:=a.1 s.b (qg h.keysB (by rw[e,<-d];simp));simpa [Zg] using this
theorem KtH.putNew{t:KtH}(h:t.ok){v i:Int}(g:-9223372036854775808<=v)(k:v<=9223372036854775807)(m:-9223372036854775808<=i)(f:i<=9223372036854775807)(r:∀s∈t.ss,s.key≠v){l j:Obj}{o:Nat}
  (d:Va Zg (λb:Nat=>.map (some b)) l (ye (t.ss.map λs=>(s.key,s.b)) v o)) (c:Va Zg yD j (ye ([]:List (Int × Unit)) i ())) :
  (⟨t.b,l,t.ss++[⟨v,o,j,[i]⟩]⟩:KtH).ok/\(⟨t.b,l,t.ss++[⟨v,o,j,[i]⟩]⟩:KtH).tab=xK t.tab v i:=by
 have w:v∉(t.ss.map λs=>(s.key,s.b)).map (·.1):=λd=>by
  rw[j7]at d;obtain⟨s,c,e⟩:=jg.1 d;exact r s c e
 have n:Zd t.tab v=none:=Van λp u=>by
  obtain⟨s,c,rfl⟩:=jg.1 u;exact r s c
 refine⟨⟨?_,?_,?_⟩,?_⟩
 .unfold ye at d;rw[jd w]at d;rw[jr];exact d
 .intro s c;rcases jo.1 c with c|c
  .exact h.keys s c
  .rw[jC]at c;subst c;exact⟨g,k⟩
 .intro s a;rcases jo.1 a with a|a
  .exact h.sets s a
  .rw[jC]at a;subst a;refine⟨c,λx q=>?_⟩;simp only[jC]at q;subst q;exact⟨m,f⟩
 .unfold xK;rw[n];unfold KtH.tab;rw[jr];rfl
theorem KtH.putOld{t:KtH}(h:t.ok){v i:Int}(j:-9223372036854775808<=i)(d:i<=9223372036854775807){A B:List XI}{s:XI}(e:t.ss=A++s::B)(m:s.key=v)(n:i∉s.ids){g:Obj}(k:Va Zg yD g (ye (s.ids.map λi=>(i,())) i ())):
  (⟨t.b,t.om,A++⟨v,s.b,g,s.ids++[i]⟩::B⟩:KtH).ok/\(⟨t.b,t.om,A++⟨v,s.b,g,s.ids++[i]⟩::B⟩:KtH).tab=xK t.tab v i:=by
 subst m;rw[VaG n]at k;have f:Zd t.tab s.key=some s.ids:=qg h.keysT (by unfold KtH.tab;rw[e];simp);refine⟨⟨?_,?_,?_⟩,?_⟩
 .have:=h.map;rw[e]at this;simpa using this
 .intro x a;have:=h.keys;rw[e]at this;rcases jo.1 a with a|a
  .exact this x (jx _ a)
  .rcases jp.1 a with rfl|a
   .exact this s (by simp)
   .exact this x (by simp[a])
 .intro x a;have:=h.sets;rw[e]at this;rcases jo.1 a with a|a
  .exact this x (jx _ a)
  .rcases jp.1 a with rfl|a
   .refine⟨k,λy c=>?_⟩;rcases jo.1 c with c|c
    .exact(this s (by simp)).keys y c
    .rw[jC]at c;subst c;exact⟨j,d⟩
   .exact this x (by simp[a])
 .unfold xK;rw[f];simp only;have l:t.tab[A.length]?=some (s.key,s.ids):=by unfold KtH.tab;rw[e];simp
  have:=ZU h.keysT l (s.ids++[i]);rw[this];unfold KtH.tab;rw[e];simp
theorem zS(o:Op3)(c:Bs):(vm o c).length=Qd o:=by unfold vm;rw[jz,Uh]
theorem zas(W0 w:World)(b:Nat)(u:Array Value)(M:va)(o:Op3)(a:Bs)(n:St W0 w ((b,.cells u 82)::M))(y:u[3]?=some (OI o.width))(B:u[4]?=some (OI o.chunks))(x:Qb o=0)(F:(a.length:Int)=o.width/8):
  Calls prog 151 #[za b,qa a] w (vl (vm o a) w):=by
 obtain⟨E,J⟩:=yf x;have e:=Hi (λc=>zo x c);obtain⟨X,R,P⟩:=Xd.1 E;have i:=Hi (λr=>Zac (o:=o) r a);have f:=Hi (λc=>qL (o:=o) c a);have g:=Hi (λc=>show(vm o a).length=o.chunks.toNat by rw[zS,Xw c]);obtain⟨m,l,Y⟩:=o;simp only at *;have N:OV w b 3 (OI m):=(n.cellH 3).trans y;have G:OV w b 4 (OI l):=(n.cellH 4).trans B;have z:Hy (∀W,Below w.drew.heap.size w.drew W->OV W b 3 (OI m)/\OV W b 4 (OI l)):=Hi (λW C=>⟨((n.drew.callB C).cellH 3).trans y,((n.drew.callB C).cellH 4).trans B⟩);clear n y B E x;rcases J with⟨r,Q⟩|⟨c,U,S⟩
 .have k:=i.o r;subst Q;rw[k];clear k z r i f g e;unfold za qa;go_enter func151,ntmps151;go_wp2_with fail;go_ret;exact vl.lit
 .have k:=f.o c;rw[k];have d:=g.o c;rw[k]at d;have p:=e.o c;have s:=Hi (V9 w.drew m l a (by omega) (by omega) (by omega) (by omega) (by omega));unfold Vo Qt at s;simp only[p,F,JW,jW,Jb]at s;have H:¬ (l=0):=by omega
  obtain⟨L,D⟩:=NE (yu m.toNat l.toNat a);rw[D]at s d|-
  have O:=Hi d;clear k d D F p i f g e c;unfold za qa at *;go_enter func151,ntmps151;go_upto_region 3 with fail
  clear N G;go_region_held3 (λW=>W.cell? ⟨b,3,none⟩=some (.int .i64 m)/\W.cell? ⟨b,4,none⟩=some (.int .i64 l)) (first|with_reducible exact z.o _ A.o|with_reducible exact z.o _ (jU _ _)|(go_keep;done)) (first
   |(go_at_call 101;refine s.o.mono ?_;rintro T P ⟨V,I,rfl,q,j⟩;obtain⟨v,t,A⟩:=Hi3 q j j.below;clear q j))
  go_wp2_with fail;go_ret;exact⟨_,I,rfl,by rw[O.o];exact v.o,by have:=(St.refl w).drew.call t.o;simpa using this⟩
end
def yX(m:Mf)(w:World)(e:Ending)(w':World):Prop:=∃v F,e=.returned (.agg (mfV m v).toArray)/\Rw 141 4 v m.runs.length (m.runs.flatMap riV) F/\St w w' F
theorem qaa(jv:Value)(M:va)(hK:vc U q c J h jv M w)(hl:J.m.runs.length<=1000000000):Calls prog 86 #[za h.b] w (yX J.m w):=by
 obtain⟨ho,Y⟩:=hK;have a:=Y.rest;unfold KpH.fragj at a;have d:=ho.mrow;have i:=Hi (λ(W:World) (e:Below w.heap.size w W)=>qK W h.rv J.m.runs (Rw.rowK (M:=(h.b,.cells (zk q J h jv) 82)::(h.bl,h.ol)::(h.bc,h.oc)::(h.Fr++(h.rs.flatMap (vd.frag J.m.o)++(h.Fp++(h.dl.frag++(h.Ft++(h.ts.flatMap KtH.frag++M))))))) d (λx=>by simp[riV]) ((a.callB e).pm CN)) d.vnil hl);have K3:∀W,Below w.heap.size w W->OV W h.b 3 (OI J.m.o.width)/\OV W h.b 4 (OI J.m.o.chunks)/\OV W h.b 5 (OI J.m.o.mode)/\OV W h.b 6 (OI J.m.seq)/\OV W h.b 7 (OI J.m.next)/\OV W h.b 8 (OI J.m.journal)/\OV W h.b 9 h.rv:=λW e =>
  ⟨(a.callB e).cellH 3,(a.callB e).cellH 4,(a.callB e).cellH 5,(a.callB e).cellH 6,(a.callB e).cellH 7,(a.callB e).cellH 8,(a.callB e).cellH 9⟩
 have g:=Hi K3;obtain⟨Q,k,hv,_⟩:=d.form;rw[hv]at g i;obtain⟨⟨⟨N,H,R⟩,I,T,L,r⟩,hm⟩:=NE J.m;rw[hm]at g i|-
 obtain⟨b,e⟩:=NE h.b;rw[e]at g|-
 clear a Y ho d hv e hm hl K3;have hA:=(St.refl w).alloc (.cells #[OI 0,OI 0,OI 0,OI 0,OI 0,OI 0,.slice none 0 0] 64);have HA:=Hi hA;clear hA;unfold Xe at i;unfold za;simp only at *;go_enter func86,ntmps86;go_upto_region 1 with fail
 obtain⟨C,t⟩:=EN w.heap.size;have s:=HA.o;rw[<-t]at s;rw[<-t];clear HA t;refine s.nameC ?_;clear s;intro w1 a;obtain⟨O,S,P,u,k7,k8,k9⟩:=g.o w1 a.below;have h2:=a.alloc (.cells #[OI N,OI H,OI R,OI I,OI T,OI L,.slice Q r.length k] 64);have B:=Hi h2;clear a h2 g;go_upto_region 2 with fail
 obtain⟨A,t⟩:=EN w1.heap.size;have s:=B.o;rw[<-t]at s;rw[<-t];clear B t O S P u k7 k8 k9;refine s.nameC ?_;clear s;intro X a;have u:OV X A 6 (.slice Q r.length k):=a.cellH 6;have E:=Hi (i.o X a.below);have G:=Hi (λ(W:World) (F:va) (h:St X W F)=>show St w W ((A,.cells #[OI N,OI H,OI R,OI I,OI T,OI L,.slice Q r.length k] 64)::(C,.cells #[OI 0,OI 0,OI 0,OI 0,OI 0,OI 0,.slice none 0 0] 64)::F)from(a.call h).pm CN);clear a i;go_upto_region 3 with(go_at_call 135;refine E.o.mono ?_;rintro e' w3 ⟨v3,F3,rfl,p,z⟩;obtain⟨n,f,rfl,_⟩:=p.form;have V:=Hi p;have j:=G.o _ _ z;have y0:=j.cellH 6;have y1:=j.freeH 6;have D:=Hi (j.set 6 (.slice n r.length f));clear p z j)
 refine D.o.nameC ?_;clear D y0 y1 u E G;intro w4 a;simp only[jf,jj,ji]at a;obtain⟨k0,k1,k2,O,S,P,u⟩:=a.k7 0 1 2 3 4 5 6;obtain⟨r0,r1,r2,r3,r4,r5,Z⟩:=a.tail.k7 0 1 2 3 4 5 6;obtain⟨f0,f1,f2,f3,f4,f5,f6⟩:=a.tail.f7 0 1 2 3 4 5 6;simp at k0 k1 k2 O S P u r0 r1 r2 r3 r4 r5 Z;have HX:=Hi (((((((a.tail.set 0 (OI N)).set 1 (OI H)).set 2 (OI R)).set 3 (OI I)).set 4 (OI T)).set 5 (OI L)).set 6 (.slice n r.length f));clear a;go_wp2_with fail;refine HX.o.nameB ?_;clear HX k0 k1 k2 O S P u r0 r1 r2 r3 r4 r5 Z f0 f1 f2 f3 f4 f5 f6;intro w9 l;obtain⟨z0,z1,z2,z3,z4,z5,z6⟩:=l.k7 0 1 2 3 4 5 6;simp at z0 z1 z2 z3 z4 z5 z6;refine jP (v:=.agg #[OI N,OI H,OI R,OI I,OI T,OI L,.slice n r.length f]) ?_ rfl ⟨_,F3,rfl,V.o,l.tail⟩;simp[results,results86,go_sem,z0,z1,z2,z3,z4,z5,z6]
theorem yaX:∀W,(zeroValue 3).run prog W=.ok (OI 0) W:=λW=>by
 have h:(prog.info? 3).map (λi=>i.zero)=some (some (OI 0)):=by kernel_rfl
 obtain⟨i,b,a⟩:=jL.1 h;simp[zeroValue,typeInfo,b,a]
theorem xbg:∀W,(zeroValue 150).run prog W=.ok (.agg #[]) W:=λW=>by
 have h:(prog.info? 150).map (λi=>i.zero)=some (some (.agg #[])):=by kernel_rfl
 obtain⟨i,b,a⟩:=jL.1 h;simp[zeroValue,typeInfo,b,a]
def ZaA(W0:World)(b:Nat)(cs:Array Value)(o:Op3)(P:List Pr)(x:LvH)(M:va)(e:Ending)(w':World):Prop :=
 e=.returned (.tuple #[])/\∃y:LvH,y.bl=x.bl/\y.bc=x.bc/\y.tv=x.tv/\y.ok o P/\St W0 w' ((b,.cells cs 82 (0,0))::(y.frag++M))
def VP(o:Op3)(p:Pr)(ts us:List KtH)(k:Nat):Prop:=us.length=ts.length/\(∀j t u,ts[j]?=some t->us[j]?=some u->u.b=t.b/\u.ok/\u.tab=if j<k then xK t.tab (Yf o j p.code) p.id else t.tab)
theorem VP.zero(o:Op3)(p:Pr){a:List KtH}(h:∀t∈a,t.ok):VP o p a a 0:=⟨rfl,λj t u b c=>by rw[b]at c;cases c;exact⟨rfl,h t (Js b),by rw[jd (by omega)]⟩⟩
theorem VP.split{p:Pr}{d a:List KtH}(h:VP o p d a k)(e:k<d.length):∃A t B,a=A++t::B/\A.length=k/\t.ok/\t.b=d[k].b/\t.tab=d[k].tab:=by
 have c:k<a.length:=by rw[h.1];exact e
 refine⟨a.take k,a[k],a.drop (k+1),?_,by rw[jN];omega,?_⟩
 .rw[<-jR c,Ja]
 .have:=h.2 k d[k] a[k] (jt e) (jt c);exact⟨this.2.1,this.1,by rw[this.2.2,jd (by omega)]⟩
theorem VP.step{p:Pr}{l A B:List KtH}{t u:KtH}(h:VP o p l (A++t::B) k)(m:A.length=k)(s:u.b=t.b)(r:u.ok)(c:u.tab=xK t.tab (Yf o k p.code) p.id):VP o p l (A++u::B) (k+1):=by
 refine⟨by rw[<-h.1];simp,λj x y n a=>?_⟩;by_cases e:j=k
 .subst e;have g:(A++t::B)[j]?=some t:=by rw[Jl (by omega)];simp[m]
  have q:(A++u::B)[j]?=some u:=by rw[Jl (by omega)];simp[m]
  rw[q]at a;cases a;obtain⟨f,i,d⟩:=h.2 j x t n g;rw[jd (by omega)]at d;exact⟨s.trans f,r,by rw[jh (by omega),c,d]⟩
 .have g:(A++t::B)[j]?=some y:=by
   by_cases hj:j<A.length
   .rw[UN hj]at a|-;exact a
   .rw[Jl (by omega)]at a|-
    rw[show j-A.length=(j-A.length-1)+1 by omega]at a|-
    simpa using a
  obtain⟨f,i,d⟩:=h.2 j x y n g;exact⟨f,i,by rw[d];by_cases hjk:j<k<;>simp[hjk]<;>omega⟩
theorem VP.bs{p:Pr}{a c:List KtH}(h:VP o p a c k):(c.map λt=>Value.map (some t.b))=a.map λt=>Value.map (some t.b):=by
 refine KY (by simp[h.1]) λj d e=>?_
 simp only[jz]at d e;have:=h.2 j a[j] c[j] (jt e) (jt d);simp[this.1]
theorem zx(A B:List KtH)(t:KtH)(x:Nat × Obj):cntF x ((A++t::B).flatMap KtH.frag)=cntF x (A.flatMap KtH.frag)+(cntF x t.frag+cntF x (B.flatMap KtH.frag)):=by
 rw[jD,jB,xa,xa]
theorem yx(t:KtH)(x:Nat × Obj):cntF x t.frag=cnt1 x (t.b,t.om)+cntF x (t.ss.map λs=>(s.b,s.om)):=by unfold KtH.frag;rw[ya]
theorem YK(A B:List XI)(s:XI)(x:Nat × Obj):cntF x ((A++s::B).map λs=>(s.b,s.om))=cntF x (A.map λs=>(s.b,s.om))+(cnt1 x (s.b,s.om)+cntF x (B.map λs=>(s.b,s.om))):=by
 rw[jr,ju,xa,ya]
theorem xX(b:Qb o=0)(j:Nat)(c:Bs):0<=Yf o j c/\Yf o j c<=8589934592:=by
 obtain⟨d,a⟩:=yf b;obtain⟨l,h,n⟩:=Xd.1 d;unfold Yf;rcases a with⟨e,q⟩|⟨p,r,g⟩
 .rw[jh e];omega
 .rw[jd (by omega)];have k:=zM c (zf o.width.toNat o.chunks.toNat j) (ze o.width.toNat o.chunks.toNat j);have f:=XP (wd:=o.width.toNat) (c:=o.chunks.toNat) (by omega) (by omega) j;have m:2^ze o.width.toNat o.chunks.toNat j<=2^33:=JS (by decide) f;have i:(2:Nat)^33=8589934592:=by decide
  omega
theorem V5(h:j<Qd o):(vm o s)[j]?=some (Yf o j s):=by
 unfold vm;rw[jZ,kM h];rfl
theorem Rw.cellAt(h:Rw T b (.slice (some ⟨j,0,none⟩) n i) k X F)(c:St V W (F++G))(a:X[m]?=some v):W.cell? ⟨j,m,none⟩=some v:=by
 obtain⟨o,l,f,d⟩:=h.cells c (by intro T;rw[T]at a;simp at a);injection f with e3 _ _
 injection e3 with e3
 injection e3 with e4 _ _
 subst e4;exact d m v a
theorem qaH(I:Array Value)(o:Op3)(P:List Pr)(x:LvH)(M:va)(p:Pr)
  (g:St U w ((c,.cells I 82)::(x.frag++M))) (hx:x.ok o P) (ho:Qb o=0)
  (c3:I[3]?=some (OI o.width)) (c4:I[4]?=some (OI o.chunks)) (aR:I[15]?=some (.map (some x.bl))) (az:I[16]?=some (.map (some x.bc))) (aG:I[17]?=some x.tv)
  (hP:∀q∈P,0<=q.id/\q.id<=281474976710656/\(q.code.length:Int)=o.width/8) (hp:0<=p.id/\p.id<=281474976710656/\(p.code.length:Int)=o.width/8) (hn:p.id∉P.map (·.id)) (hl:P.length<=1000000000) :
  Calls prog 93 #[za c,.agg #[OI p.id,qa p.code]] w (ZaA U c I o (P++[p]) x M):=by
 obtain⟨p0,p1,p2⟩:=hp;obtain⟨g1,g2⟩:=yf ho;obtain⟨w0,w1,w2⟩:=Xd.1 g1;have hA:=(g.alloc (.cells #[OI p.id,qa p.code] 86)).pm (M':=(x.bl,x.ol)::(w.heap.size,.cells #[OI p.id,qa p.code] 86)::(c,.cells I 82)::(x.bc,x.oc)::(x.Ft++(x.ts.flatMap KtH.frag++M))) λy=>by unfold LvH.frag;simp only[xa,ya,OI,OT,OQ];omega
 obtain⟨C,hC⟩:=EN w.heap.size;rw[<-hC]at hA;obtain⟨HA,HC,G,HP,HN⟩:=Hi5 hA hC hx hP hn;obtain⟨aY,aX,aS,aE,aM⟩:=Hi5 c3 c4 aR az aG;obtain⟨HO,b4,ax⟩:=Hi3 ho hl p2;obtain⟨f,a⟩:=p;simp only at *;clear hA hC g hx hP hn c3 c4 aR az aG ho hl p2 g1 g2;unfold za qa at *;go_enter func93,ntmps93;go_upto_region 1 with fail
 rw[<-HC.o];refine HA.o.nameC ?_;clear HA HC;intro w1 g;have d0:OV w1 c 15 (.map (some x.bl)):=(g.tail.tail.cellH 15).trans aS.o;obtain⟨d1,d2⟩:=g.tail.k2 0 1;obtain⟨E,W1,d,r,O⟩:=Va.put (P:=prog) (k:=3) (e:=108) (t:=78) Qn underlying78 G.o.lmap (by
  intro q hq;obtain⟨q',b7,e⟩:=jg.1 (G.o.lperm.mem_iff.1 hq);have:=HP.o q' b7;rw[<-e];simp only;omega) g.drew (x:=f) (by omega) a
 have bi:=Hi O;have aL:=r.pm (M':=(x.bc,x.oc)::(C,.cells #[OI f,OT a] 86)::(c,.cells I 82)::(x.bl,E)::(x.Ft++(x.ts.flatMap KtH.frag++M))) CN;have V:=Hi aL;clear g r aL O;unfold Zg vaa qa at d;go_still_tail 9,(by kernel_rfl);change wpList _ _ _ _ _ w1.drew;go_upto_region 2 with fail
 refine V.o.nameC ?_;clear V d d0 d1 d2;intro w2 g;have d0:OV w2 c 16 (.map (some x.bc)):=(g.tail.tail.cellH 16).trans aE.o;have d2:=g.tail.cellH 1;have T:=Zl.get G.o.cok a;have bj:=QaU P a;have b3:=xaj P a;have bb:=b4.o;have am:∀q∈x.codes,q.1.length<=maxLen:=by
  intro q hq;obtain⟨q1,q2⟩:=q;have h1:=(G.o.cok.says q1 q2).1 hq;unfold cnt at h1;have h2:P.filter (λx=>decide (x.code=q1))≠[]:=λe=>by rw[e]at h1;simp at h1;omega
  obtain⟨z,hz⟩:=kQ _ h2;obtain⟨bd,aK⟩:=Jf.1 hz;have:=HP.o z bd;simp only[jG]at aK;rw[aK]at this;show q1.length<=maxLen;unfold maxLen;omega
 have a0:a.length<=maxLen:=by have:=ax.o;unfold maxLen;omega
 have l:=Va.look (P:=prog) (k:=9) (e:=3) (t:=79) encStr underlying79 G.o.cmap am g.drew.get (x:=a) a0 false;have aH:(Instr.lookup 79 (.map (some x.bc)) (OT a) false).run prog w2.drew=.ok (OI (cnt P a)) w2.drew:=by
  cases hm:Zd x.codes a with
  |none =>
   have h1:=l.2 hm _ (yaX w2.drew);rw[hm]at T;have h3:cnt P a=0:=by have:=T.1;simp at this;omega
   rw[h3];simpa [qa] using h1
  |some n =>
   have h1:=l.1 n hm;rw[hm]at T;have h3:n=cnt P a:=by simpa using T.1
   rw[<-h3];simpa [qa,Zg] using h1
 obtain⟨J,W2,d,r,O⟩:=Va.put (P:=prog) (k:=9) (e:=3) (t:=79) encStr underlying79 G.o.cmap am g.drew (x:=a) a0 (IntKind.i64.wrap (cnt P a+1));have af:IntKind.i64.wrap (cnt P a+1)=cnt P a+1:=J1 _ (by omega);rw[af]at d O;obtain⟨b9,V⟩:=Hi2 O r;obtain⟨cn,a8⟩:=EN (cnt P a);rw[<-a8]at aH d af;unfold Zg qa at d;obtain⟨bp,bo⟩:0<=cn/\cn<=1000000000:=by omega
 clear g r O l am T bj b3 bb a0 a8;go_still_tail 8,(by kernel_rfl);change wpList _ _ _ _ _ w2.drew;go_upto_region 3 with fail
 refine V.o.nameC ?_;clear V d aH af d0 d2;intro w3 Q;have g:=Q.pm (M':=(c,.cells I 82)::(C,.cells #[OI f,OT a] 86)::(x.bl,E)::(x.bc,J)::(x.Ft++(x.ts.flatMap KtH.frag++M))) CN;clear Q;have d2:=g.tail.cellH 1;have HV:=Hi (zas U w3 c I _ o a g aY.o aX.o HO.o ax.o);have HS:=Hi g;clear g;unfold vl za qa at HV;have aj:(vm o a).length=x.ts.length:=by rw[zS,G.o.tlen]
 have ad:=Hi (show ∀k,k<x.ts.length->(vm o a)[k]?=some (Yf o k a)from λk h=>V5 (by rw[<-G.o.tlen];exact h));obtain⟨L,hL⟩:=NE (vm o a);rw[hL]at HV aj ad;have be:=Hi aj;have ap:Qd o<=128:=by
  obtain⟨_,h⟩:=yf HO.o;unfold Qd;split<;>omega
 have ba:x.ts.length<=128:=by rw[G.o.tlen];exact ap
 clear hL ap aj;obtain⟨n,a2⟩:=NE x.ts.length;rw[a2]at ba;have ae:L.length=n:=be.o.trans a2;rw[ae]at HV;rw[a2]at ad;obtain⟨m,b5⟩:=Hi2 a2 ae;clear a2 ae;go_upto_region 4 with(go_at_call 151;refine HV.o.mono ?_;rintro e' w4 ⟨v4,F4,rfl,al,aP⟩;have ar:=HS.o.call aP;obtain⟨aD,aV⟩:=Hi2 ar al;obtain⟨av,cv,rfl,aB,b6,_⟩:=al.form;clear al aP ar)
 obtain⟨bn,bu⟩:(n:Int)<=(cv:Int)/\(n:Int)<=128:=by omega
 clear d2 HV HS aB b6;go_loopw [28] (λiv wr=>∃(k:Nat) (us:List KtH),k<=n/\iv=OI (k:Int)/\VP o ⟨f,a⟩ x.ts us k/\St U wr ((c,.cells I 82)::(C,.cells #[OI f,OT a] 86)::(x.bl,E)::(x.bc,J)::(x.Ft++(us.flatMap KtH.frag++(F4++M))))) (λiv _=>n-(intOf iv).toNat)
 case atStart=>exact⟨0,x.ts,jX _,rfl,VP.zero o ⟨f,a⟩ G.o.tabs,aD.o.pm CN⟩
 case round =>
  clear aD;obtain⟨k,us,hk,rfl,hU,g⟩:=hrel;have bt:(0:Int)<=(k:Int):=by omega
  by_cases hlt:k<n
  .have bv:(k:Int)<(n:Int):=by omega
   obtain⟨A,t,B,rfl,aC,Z,a3,au⟩:=hU.split (show k<x.ts.length by rw[m.o];exact hlt);obtain⟨v,a5⟩:=EN (Yf o k a);have hv:=ad.o k hlt;rw[<-a5]at hv;have aO:0<=v/\v<=8589934592:=by rw[a5];exact xX HO.o k a
   obtain⟨bw,aB⟩:=aO;have ak:=G.o.trow;obtain⟨gv,bq,b8,ay⟩:=aV.o.cells (M:=(c,.cells I 82)::(C,.cells #[OI f,OT a] 86)::(x.bl,E)::(x.bc,J)::(x.Ft++((A++t::B).flatMap KtH.frag++M))) (g.pm CN) (by intro e;have:=jT List.length e;simp[xg,b5.o]at this;omega);injection b8 with e1 e2 e3
   subst e1;subst e3;have x0:OV wr gv k (OI v):=ay k _ (by unfold xg;rw[jZ,hv];rfl);obtain⟨gt,ab,a4,a9⟩:=ak.cells (M:=(c,.cells I 82)::(C,.cells #[OI f,OT a] 86)::(x.bl,E)::(x.bc,J)::((A++t::B).flatMap KtH.frag++(F4++M))) (g.pm CN) (by intro e;have:=jT List.length e;simp[m.o]at this;omega);have x1:OV wr gt k (.map (some t.b)):=a9 k _ (by rw[jZ,jt (by rw[m.o];exact hlt),JE,a3]);have K:=aM.o;rw[a4,m.o]at K;have x2:OV wr c 17 (.slice (some ⟨gt,0,none⟩) n ab):=(g.cellH 17).trans K;have bk:(n:Int)<=(ab:Int):=by
    obtain⟨bx,bm,e,h1,_⟩:=ak.form;rw[a4]at e;injection e with _ _ e;rw[m.o]at h1;omega
   have ao:∀W M',St U W (x.Ft++M')->OV W gt k (.map (some t.b)):=λW M' h=>by
    have aq:=G.o.trow;rw[a4]at aq;exact aq.cellAt h (by rw[jZ,jt (by rw[m.o];exact hlt),JE,a3])
   obtain⟨aZ,an,aQ,b1,br⟩:=Hi5 ao K a5 au a3;obtain⟨aN,HU,H⟩:=Hi3 aC hU Z;have a1:St U wr ((t.b,t.om)::(c,.cells I 82)::(C,.cells #[OI f,OT a] 86)::(x.bl,E)::(x.bc,J)::(x.Ft++((t.ss.map λs=>(s.b,s.om))++(A.flatMap KtH.frag++(B.flatMap KtH.frag++(F4++M)))))):=g.pm λy=>by simp only[zx,yx,xa,ya,OI,OT,OQ];omega
   have l:=Z.look a1.get (v:=v) (by omega) (by omega);clear ay a9 a4 ao ak K hU aC a3 au a5 hv Z g;rcases qaA t.ss v with aA|⟨A',s,B',R,aa⟩
   .have aT:=l.1 aA;have a7:=Hi a1;have X:∀W,(binOp .eql 110 (.map none) (.map none)).run prog W=.ok (.bool true) W:=λ_=>rfl
    clear l a1;have b0:∀(ty:TypeId) w,(Instr.makeMap ty none).run prog w=.ok (.map (some w.heap.size)) (w.alloc (.map #[] 0)):=λty w=>kF _ w
    obtain⟨aw,W7,d,F,aF⟩:=Va.put (P:=prog) (k:=3) (e:=110) (t:=111) Qn underlying111 H.o.map H.o.mapKeys (a7.o.alloc (.map #[] 0)).swap (x:=v) (by omega) wr.heap.size;obtain⟨aI,bh⟩:=Hi2 aF F;unfold Zg at d;clear F aF;go_upto_region 7 with fail
    go_upto_region 8 with fail
    clear d aT X b0 x1 x2 x0 a7;have F:=bh.o;have x2:OV W7 c 17 (.slice (some ⟨gt,0,none⟩) n ab):=(F.tail.tail.cellH 17).trans an.o;have x3:=F.tail.tail.tail.cellH 0;have x1:OV W7 gt k (.map (some t.b)):=aZ.o W7 ((t.b,aw)::(wr.heap.size,.map #[] 0)::(c,.cells I 82)::(C,.cells #[OI f,OT a] 86)::(x.bl,E)::(x.bc,J)::((t.ss.map λs=>(s.b,s.om))++(A.flatMap KtH.frag++(B.flatMap KtH.frag++(F4++M))))) (F.pm CN);have l:=(Va.look (P:=prog) (k:=3) (e:=110) (t:=111) Qn underlying111 aI.o (by
     intro q hq;rcases Yi.1 hq with rfl|⟨hq,_⟩
     .exact⟨by simp only;omega,by simp only;omega⟩
     .exact H.o.mapKeys q hq) F.drew.get (x:=v) (by omega) false).1 wr.heap.size (by rw[qU H.o.keysB,jh rfl])
    simp only[JD,Jb]at l;unfold Zg at l;obtain⟨ai,W8,d,S,Y⟩:=Va.put (P:=prog) (k:=3) (e:=150) (t:=110) Qn underlying110 (Va.empty (ek:=Zg) (ev:=yD)) (by simp) F.drew.swap (x:=f) (by omega) ();obtain⟨ag,ah⟩:=Hi2 Y S;unfold Zg yD at d;clear F S Y;go_still_tail 12,(by kernel_rfl);change wpList _ _ _ _ _ W7.drew;go_wp2_with fail;obtain⟨n1,n2⟩:=KtH.putNew H.o (v:=v) (i:=f) (by omega) (by omega) (by omega) (by omega) aA aI.o ag.o;refine⟨⟨k+1,A++(⟨t.b,aw,t.ss++[⟨v,wr.heap.size,ai,[f]⟩]⟩:KtH)::B,by omega,by go_num,HU.o.step aN.o rfl n1 (by rw[n2,<-aQ.o]),ah.o.pm λy=>?_⟩,by simp[intOf];omega⟩;simp only[zx,yx,jr,ju,Jt,xa,ya,OI,OT,OQ,Ya];omega
   .have aW:=l.2 A' s B' R aa;have a7:=Hi a1;have X:∀W (z:Nat),(binOp .eql 110 (.map (some z)) (.map none)).run prog W=.ok (.bool false) W:=λ_ _=>rfl
    clear l a1;go_upto_region 8 with fail
    have Q:=a7.o;rw[R]at Q;have r:St U wr ((s.b,s.om)::(t.b,t.om)::(c,.cells I 82)::(C,.cells #[OI f,OT a] 86)::(x.bl,E)::(x.bc,J)::(x.Ft++((A'.map λs=>(s.b,s.om))++((B'.map λs=>(s.b,s.om))++(A.flatMap KtH.frag++(B.flatMap KtH.frag++(F4++M))))))):=Q.pm λy=>by simp only[YK,xa,ya,OI,OT,OQ];omega
    have x3:=r.tail.tail.tail.cellH 0;have ac:s∈t.ss:=by rw[R];simp
    have a6:=H.o.sets s ac;have l:=(H.o.look r.tail.drew.get (v:=v) (by omega) (by omega)).2 A' s B' R aa;obtain⟨ai,W8,d,S,Y⟩:=Va.put (P:=prog) (k:=3) (e:=150) (t:=110) Qn underlying110 a6.map (by
     intro q hq;obtain⟨i,hi,rfl⟩:=jg.1 hq;exact a6.keys i hi) r.drew (x:=f) (by omega) ()
    obtain⟨ag,ah,bz,bf,aU⟩:=Hi5 Y S a6 R ac;unfold Zg yD at d;clear Q r S Y a6 aW X R ac x0;go_still_tail 12,(by kernel_rfl);change wpList _ _ _ _ _ wr.drew;go_wp2_with fail;have aJ:f∉s.ids:=λhi=>by
     have hT:=G.o.tok k (x.ts[k]'(by rw[m.o];exact hlt)) (jt (by rw[m.o];exact hlt));have:(s.key,s.ids)∈(x.ts[k]'(by rw[m.o];exact hlt)).tab:=by rw[<-b1.o];exact jg.2 ⟨s,aU.o,rfl⟩
     obtain⟨q,hq,e,_⟩:=(hT.says s.key f).1 ⟨s.ids,this,hi⟩;exact HN.o (jg.2 ⟨q,hq,e⟩)
    obtain⟨n1,n2⟩:=KtH.putOld H.o (v:=v) (i:=f) (by omega) (by omega) bf.o aa aJ ag.o;refine⟨⟨k+1,A++(⟨t.b,t.om,A'++⟨v,s.b,ai,s.ids++[f]⟩::B'⟩:KtH)::B,by omega,by go_num,HU.o.step aN.o rfl n1 (by rw[n2,<-aQ.o]),ah.o.pm λy=>?_⟩,by simp[intOf];omega⟩;simp only[zx,yx,YK,xa,ya,OI,OT,OQ];omega
  .obtain rfl:k=n:=by omega
   obtain⟨HU,HS⟩:=Hi2 hU g;clear hU g;go_wp2_with fail;go_end0;have b2:=HU.o.bs;refine⟨rfl,⟨x.bl,E,x.bc,J,x.tv,x.Ft,us,ye x.live f a,ye x.codes a (cnt P a+1)⟩,rfl,rfl,rfl,⟨bi.o,?_,b9.o,G.o.cok.put ⟨f,a⟩,?_,?_,?_,?_⟩,?_⟩
   .have bg:f∉x.live.map (·.1):=λhm=>by
     have:=((G.o.lperm.map (·.1)).mem_iff).1 hm;rw[j7]at this;exact HN.o this
    unfold ye;rw[jd bg,jr];exact G.o.lperm.append_right _
   .have:=G.o.trow;rw[b2,HU.o.1];exact this
   .intro u hu;obtain⟨j,hj⟩:=JP.1 hu;have N:j<x.ts.length:=by rw[<-HU.o.1];exact(jV.1 hj).1
    exact(HU.o.2 j _ u (jt N) hj).2.1
   .rw[<-G.o.tlen];exact HU.o.1
   .intro j u hu;have N:j<x.ts.length:=by rw[<-HU.o.1];exact(jV.1 hu).1
    have h3:=HU.o.2 j _ u (jt N) hu;rw[h3.2.2,jh (by rw[m.o]at N;exact N)];exact(G.o.tok j _ (jt N)).put ⟨f,a⟩ HN.o
   .refine HS.o.pmSub (D:=(C,.cells #[OI f,OT a] 86)::F4) λy=>?_
    unfold LvH.frag;simp only[xa,ya,OI,OT,OQ];omega
end Go.Proofs.YtekkihmmclencaaGreatDoor
