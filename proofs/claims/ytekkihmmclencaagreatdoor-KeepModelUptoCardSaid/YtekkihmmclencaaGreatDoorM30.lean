import Derived.Test.YtekkihmmclencaaGreatDoorM29
namespace Go.Proofs.YtekkihmmclencaaGreatDoor
set_option linter.all false
set_option maxRecDepth 100000
set_option maxHeartbeats 40000000
open Tryz
open Go Go.RowKit Go.Sort
variable{W V:World}{n b k i:Nat}{v:Value}{F:va}{K:Kp}
theorem Zbi(W0 w:World)(a c:Nat)(D:Dk)(m:Mf)(f:zc)(j0:Jn)(p:Kp)(l:List Up)(good:Int)(n:Nat)(M:va)
  (e:Xa W0 a c D M w) (a7:D.Wf) (hf:D.Fits) (B:D.off=false) (hg:D.get Yc=some f) (ae:f.data=mfB m) (z:m.good) (hc:zg W0) (ht:vi W0) (aA:QI W0)
  (aa:∀W h N,vc W0 a c (yL D m j0) h (.pointer none) N W->Calls prog 38 #[za h.b] W (xC W0 a c h.b h.bj p (.pointer none) N (OI 0)))
  (T:p.d=D) (Z:p.m=m) (hP:qQ p l) (hl:l.length<=1000000) (L:(Yz p l).d=D) (a2:(Yz p l).m=m)
  (a4:∀W (N:va),Xa W0 a c D N W->Calls prog 94 #[za a,OI m.journal,OI m.seq,OI m.o.width] W (yF W0 a c D N l good))
  (hn:m.journal=(n:Int)) (ac:D.size (Qa n)=(good,0)) (s:∀x∈D.names,Vau x) (ao:Vw (vC m) D.names D=(D,0)) (ax:∀i∈m.runs,1<=i.number/\i.number<=1099511627776) :
  Calls prog 13 #[za a] w (Qp W0 a c M {Yz p l with j:=⟨D.age,false,Qa n,m.o.width,m.seq+l.length,m.seq⟩}):=by
 have aI:=z.j0;have aJ:=z.j1;have aF:=z.n1;have G:=Hi (λ(N:va) W (h:Xa W0 a c D N W)=>(XG W a D.off h.off));rw[B]at G;have a5:=Hi (λ(N:va) W (h:Xa W0 a c D N W)=>xbo W0 W a c D N m f h a7 B hg ae z hc);have a6:=Hi (λ(N:va) (rv:Value) W (h:Xa W0 a c D N W)=>xaB W0 W a c D m rv N z.o h);have a0:=Hi aa;have J:=Hi (λ(N:va) W h (hK:vc W0 a c p h (.pointer none) N W)=>va0 W0 W a c p h (.pointer none) N l good hK hl hP (by rw[T,Z];exact a4));have I:=Hi (λ(N:va) W h (hK:vc W0 a c (Yz p l) h (.pointer none) N W)=>show Calls prog 40 #[za h.b] W (Xe 9 1 stV (vC m) W)from by
  obtain⟨ho,aE⟩:=hK;have hS:=aE.rest;unfold KpH.fragj at hS;have hr:=ho.mrow;rw[a2]at hr;obtain⟨c3,c4,c5,c8,c9⟩:=hS.k5 3 4 5 8 9;unfold zk at c3 c4 c5 c8 c9;rw[a2]at c3 c4 c5 c8 c9;refine qba W h.b m h.rv z.o (by omega) (by omega) (ht.below aE.below (jm _)) hS.hlt c3 c4 c5 c8 c9 (Rw.rowK (W0:=W0) (F:=h.Fm) (M:=N) hr (λx=>by simp[riV]) ?_) ax (by have:=z.len;omega);exact hS.pmSub (D:=(h.b,.cells (zk a (Yz p l) h (.pointer none)) 82)::(h.bl,h.ol)::(h.bc,h.oc)::(h.Fr++(h.rs.flatMap (vd.frag (Yz p l).m.o)++(h.Fp++(h.dl.frag++(h.Ft++h.ts.flatMap KtH.frag)))))) λy=>by unfold zk;simp only[xa,ya,OI,OT,OQ];omega)
 have u:=Hi (λ(sv:Value) (Fs N:va) W (hR:Rw 9 1 sv (vC m).length ((vC m).flatMap stV) Fs) (h:Xa W0 a c D (Fs++N) W)=>zaI W0 W a c D sv (vC m) Fs N hf a7 B s (by rw[X6];exact hR) h ht aA);rw[ao]at u;have O:=Hi (λ(N:va) W (h:Xa W0 a c D N W)=>qbi W0 W a c D N n m.seq m.o.width l good (by omega) (by omega) z.s0 z.s1 hl h ac ht (by rw[<-hn];exact a4 W N h));rw[<-hn]at O;obtain⟨K,aD⟩:=NE (Yz p l);rw[aD]at J I L|-
 have al:=Hi (λ(h:KpH) (N:va) W (hK:vc W0 a c K h (.pointer none) N W)=>show Xa W0 a c D (h.fragj a K (.pointer none)++N) W from by
  have:=hK.2;rw[L]at this;exact this)
 have ak:=Hi (λ(h:KpH) (N:va) W (ho:h.ok K) (e:Xa W0 a c D (h.fragj a K (.pointer none)++N) W)=>show vc W0 a c K h (.pointer none) N W from⟨ho,by rw[L];exact e⟩);obtain⟨HD,HN⟩:=Hi2 e hn;clear e a7 hf B hg ae z hc ht aA T Z hP hl L a2 a4 hn ac s ao ax aD aa aI aJ aF;obtain⟨⟨Y,oc,om⟩,R,mn,V,mr⟩:=m;obtain⟨k,hk⟩:=NE l.length;unfold Qp;unfold zY mfV at a5;unfold V6 mfV at a6;unfold xC at a0 J;unfold Xe at I;unfold qh at u;unfold z7 at O;unfold Ret at G;unfold za at *;simp only at *;go_enter func13,ntmps13;go_upto_region 4 with(first
  |(go_at_call 24;refine MQ (G.o _ _ HD.o) ?_)
  |(go_at_call 37;refine(a5.o _ _ HD.o).mono ?_;rintro A w2 ⟨rv,Fm,rfl,a3,av⟩;obtain⟨ar,cr,rfl,_⟩:=a3.form;have aG:=Hi a3;have a9:=Hi (HD.o.call av);clear a3 av))
 have hA:=a9.o.alloc (.cells #[OI Y,OI oc,OI om,OI R,OI mn,OI V,.slice ar mr.length cr] 64);obtain⟨C,hC⟩:=EN w2.heap.size;rw[<-hC]at hA;rw[<-hC];refine hA.nameC ?_;clear hA hC a9 G a5 HD;intro S e;obtain⟨c0,c1,c2⟩:=e.rest.k3 0 1 2;have c3:OV S C 3 (OI R):=e.rest.cellH 3;have c4:OV S C 4 (OI mn):=e.rest.cellH 4;have c5:OV S C 5 (OI V):=e.rest.cellH 5;have c6:=e.rest.cellH 6;have af:=Hi (e.pm (M':=Fm++((C,.cells #[OI Y,OI oc,OI om,OI R,OI mn,OI V,.slice ar mr.length cr] 64)::M)) CN);clear e;go_upto_region 7 with(go_at_call 31;refine(a6.o _ _ _ af.o).mono ?_;rintro A w4 ⟨b,d,x,rfl,q1,q2,q3,q4,q5,q6,q7,au⟩;have aq:=Hi (vba (bj:=0) j0 aG.o q1 q2 q3 q4 q5 q6 q7 au);clear au q1 q2 q3 q4 q5 q6 q7)
 obtain⟨h,hb,aS,ad⟩:=aq.o;subst hb;have ay:=Hi ad;clear aq ad aS c0 c1 c2 c3 c4 c5 c6 af a6;go_upto_region 10 with(go_at_call 38;refine(a0.o _ _ _ ay.o).mono ?_;rintro A w5 ⟨rfl,h5,aB,aL,am⟩;obtain⟨az,ap⟩:=Hi2 aB am;clear aB aL am)
 have t:=Hi (J.o _ _ _ ap.o);rw[az.o]at t;clear J a0 ay ap;go_upto_region 13 with(go_at_call 39;refine t.o.mono ?_;rintro A w6 ⟨rfl,h6,q,aH,ah⟩;obtain⟨ag,P⟩:=Hi2 q ah;clear q aH ah)
 have g:=Hi (I.o _ _ _ P.o);have q:=ag.o;have aO:=Hi (show h.b=h6.b from q.symm);obtain⟨U,E⟩:=NE h6.b;rw[show h.b=U from by rw[<-q,E]];rw[E]at g;have aR:=Hi E;clear t I az ag q aO E;obtain⟨kn,a8⟩:=NE (vC ⟨⟨Y,oc,om⟩,R,mn,V,mr⟩);rw[a8]at g u;clear a8;obtain⟨nk,aP⟩:=NE kn.length;go_upto_region 16 with(first
  |(go_at_call 40;refine g.o.mono ?_;rintro A w7 ⟨v7,F7,rfl,aC,aw⟩;have Q:=Hi (u.o _ _ _ _ aC ((al.o _ _ _ P.o).call aw));clear aC aw)
  |(go_at_call 26;refine MR Q.o λw8 a1=>?_))
 clear g u Q aP;have H:=a1.o.rest.appR.appR;have c0:=H.cellH 0;have c3:OV w8 C 3 (OI R):=H.cellH 3;have c5:OV w8 C 5 (OI V):=H.cellH 5;clear H;have aj:=Hi P.o.1;have aN:=Hi (O.o _ _ a1.o);clear O;have an:=Hi (λ(W:World) (bj:Nat) (F9:va) (j:Jn) (r:Xa W0 a c D (jnF bj a j::(F9++(F7++(h6.fragj a K (.pointer none)++((C,.cells #[OI Y,OI oc,OI om,OI R,OI mn,OI V,.slice ar mr.length cr] 64)::M))))) W)=>show OV W U 11 (.pointer none)/\OZ W U 11/\∃h':KpH,h'.b=U/\Za W0 a c {K with j:=j} h' M (W.setCell ⟨U,11,none⟩ (za bj))from by
  have h1:=r.rest.tail.appR.appR;unfold KpH.fragj at h1;rw[jO]at h1;have h2:=ak.o h6 (jnF bj a j::(F9++(F7++((C,.cells #[OI Y,OI oc,OI om,OI R,OI mn,OI V,.slice ar mr.length cr] 64)::M)))) W aj.o (r.pm CN);obtain⟨h',A,ab⟩:=vc.setJ (bj:=bj) h2;rw[aR.o]at A ab h1;exact⟨h1.cellH 11,h1.freeH 11,h',A,ab.pmSub (X:=F9++(F7++[(C,.cells #[OI Y,OI oc,OI om,OI R,OI mn,OI V,.slice ar mr.length cr] 64)])) CN⟩)
 unfold za at an;clear al ak P a1;go_wp2_with (go_at_call 41;refine aN.o.mono ?_;rintro A w9 ⟨bj,v9,F9,rfl,aK,r⟩;obtain⟨y0,y1,y2⟩:=an.o _ _ _ _ r;have HY:=Hi y2;clear aK r y2);obtain⟨h',aM,aQ⟩:=HY.o;refine jP (v:=.tuple #[OQ U,OI 0]) (by simp[results,results13,go_sem]) rfl ?_;exact⟨h',by rw[aM],aQ⟩
theorem VaE:Go.Maps.Keyed prog 153:=Go.Maps.Keyed.of_law (deep_law (m:=3) (by omega) (by kernel_rfl) (by kernel_rfl) (by kernel_rfl))
theorem Yad:prog.cellsOf 153=2:=by kernel_rfl
theorem qa0:prog.keyType 153=true:=by kernel_rfl
theorem XaO(d:Nat)(a:Int)(s:Bs)(g:-9223372036854775808<=a)(f:a<=9223372036854775807)(i:s.length<=1000000):prog.keyLits (d+2) 153 [.int .i64 a,.string ⟨s.toArray⟩]=some [.int .i64 a,.string s]:=by
 have b:prog.keyLits (d+1) 3 [.int .i64 a]=some [.int .i64 a]:=by
  unfold Program.keyLits;rw[underlying3];simp only[KU];rw[jh];have e:IntKind.i64.min=-9223372036854775808:=by decide
  have h:IntKind.i64.max=9223372036854775807:=by decide
  simp only[Lit.wf,e,h,Uf,jG];exact⟨g,f⟩
 have c:prog.keyLits (d+1) 9 [.string ⟨s.toArray⟩]=some [.string s]:=by
  unfold Program.keyLits;rw[underlying9];simp only;rw[jh];have:=zb s;simp only[maxLen];omega
 unfold Program.keyLits;rw[underlying153];simp only[Yad];rw[jh (by simp)];simp[Yac,Xac,b,c]
theorem ZQ:Enc prog 153 vo (λx=>(-9223372036854775808<=x.1/\x.1<=9223372036854775807)/\x.2.length<=1000000):=⟨VaE,λa b h=>XE.inj a b h,λx i=>by
  obtain⟨⟨g,f⟩,d⟩:=i;unfold keyOf vo qa;rw[underlying153];simp only;rw[jh (by simp[qa0,Value.formed,underlying153,Yad])];have e:prog.types.size+1=(prog.types.size-1)+2:=by kernel_rfl
  rw[e];have c:=XaO (prog.types.size-1) x.1 x.2 g f d;exact⟨_,by rw[show(Value.agg #[.int .i64 x.1,.string ⟨x.2.toArray⟩]).cells.toList=[.int .i64 x.1,.string ⟨x.2.toArray⟩]from rfl,c];rfl⟩⟩
def evE(x:En):Value:=.agg (enV x).toArray
theorem Zba:∀W,(zeroValue 137).run prog W=.ok (.agg #[OI 0,.string ⟨#[]⟩,OI 0,OI 0,.bool false]) W:=λW=>by
 have h:(prog.info? 137).map (λi=>i.zero)=some (some (.agg #[OI 0,.string ⟨#[]⟩,OI 0,OI 0,.bool false])):=by kernel_rfl
 obtain⟨i,b,a⟩:=jL.1 h;simp[zeroValue,typeInfo,b,a]
theorem qaB(L:List ((Int × Bs) × En))(A:List En)(x:En):Qf L (A++[x])=ye (Qf L A) x.pair x:=by simp[Qf]
theorem QaE(L:List ((Int × Bs) × En))(A B:List En):Qf L (A++B)=Qf (Qf L A) B:=by simp[Qf]
theorem zT:∀(A:List En) {L:List ((Int × Bs) × En)} {B:List En},(∀y∈L,y.2∈B/\y.2.pair=y.1)->∀y∈Qf L A,y.2∈B++A/\y.2.pair=y.1
 |[],_,_,h=>λy a=>⟨jx _ (h y a).1,(h y a).2⟩
 |x::A,L,B,h=>λy a=>by
  have:=zT A (L:=ye L x.pair x) (B:=B++[x]) (λz b=>by
   rcases Yi.1 b with rfl|⟨b,_⟩
   .exact⟨by simp,rfl⟩
   .exact⟨jx _ (h z b).1,(h z b).2⟩) y a
  exact⟨by simpa using this.1,this.2⟩
theorem yT:∀(A:List En) (L:List ((Int × Bs) × En)),(Qf L A).length<=L.length+A.length
 |[],L=>by simp[Qf]
 |x::A,L=>by
  have b:=yT A (ye L x.pair x);have a:=Yy L x.pair x;have e:Qf L (x::A)=Qf (ye L x.pair x) A:=rfl;rw[e,jk];split at a<;>omega
theorem Yba{P Q:List Pr}(h:P.Perm Q)(c:Bs):cnt P c=cnt Q c:=by
 unfold cnt;rw[(h.filter _).length_eq]
theorem Zl.perm{P Q:List Pr}{C:List (Bs × Int)}(h:Zl P C)(a:P.Perm Q):Zl Q C:=⟨h.keys,λc n=>by rw[h.says,Yba a]⟩
theorem Xv.perm{a:Bs->Int}{P Q:List Pr}{t:List (Int × List Int)}(h:Xv a P t)(b:P.Perm Q):Xv a Q t:=⟨h.keys,h.some',λv i=>(h.says v i).trans ⟨λ⟨p,h1,h2⟩=>⟨p,b.mem_iff.1 h1,h2⟩,λ⟨p,h1,h2⟩=>⟨p,b.mem_iff.2 h1,h2⟩⟩⟩
theorem vc.permP{h:KpH}{P:List Pr}(a:vc V n b K h v F W)(c:K.P.Perm P):vc V n b {K with P:=P} h v F W :=
 ⟨⟨a.1.mrow,a.1.runs,a.1.each,a.1.rrow,a.1.prow,a.1.dok,a.1.dw,a.1.dt,a.1.lmap,a.1.lperm.trans (c.map _),a.1.cmap,a.1.cok.perm c,a.1.trow,a.1.tabs,a.1.tlen,λj t d=>(a.1.tok j t d).perm c⟩,a.2⟩
theorem Za0(a w:World)(g i:Nat)(K:Kp)(h:KpH)(f:Value)(M:va)(p:Pr)(c:vc a g i K h f M w)(n:Qb K.m.o=0)
  (x:∀q∈K.P,0<=q.id/\q.id<=281474976710656/\(q.code.length:Int)=K.m.o.width/8) (l:0<=p.id/\p.id<=281474976710656/\(p.code.length:Int)=K.m.o.width/8) (t:p.id∉K.P.map (·.id)) (r:K.P.length<=1000000000) :
  Calls prog 93 #[za h.b,.agg #[OI p.id,qa p.code]] w (xC a g i h.b h.bj {K with P:=K.P++[p]} f M (.tuple #[])):=by
 obtain⟨C,B,j,z⟩:=c.lvSt;refine(qaH a w h.b _ K.m.o K.P h.lv _ p z c.1.lv n rfl rfl rfl rfl rfl x l t r).mono ?_;rintro e A ⟨rfl,y,u,k,v,s,d⟩;exact⟨rfl,h.setLv y,rfl,rfl,vc.ofLv c.1 j s u k v d⟩
def KpH.fragR(K:Kp)(h:KpH):va:=(h.bl,h.ol)::(h.bc,h.oc)::(h.Fm++(h.rs.flatMap (vd.frag K.m.o)++(h.Fp++(h.dl.frag++(h.Ft++h.ts.flatMap KtH.frag)))))
theorem vc.rowOut{c W:World}{a e:Nat}{K:Kp}{h:KpH}{f:Value}{M:va}(g:vc c a e K h f M W):Xa c a e K.d (h.Fr++((h.b,.cells (zk a K h f) 82)::(h.fragR K++M))) W :=
 g.2.pm λy=>by unfold KpH.fragj KpH.fragR;simp only[xa,ya,OI,OT,OQ];omega
theorem vc.addRun{k W:World}{f l:Nat}{K:Kp}{h:KpH}{i rsv:Value}{M j:va}{x:vd}(a:h.ok K)(g:Rw 106 1 rsv (h.rs.length+1) ((h.rs.map (·.b)++[x.b]).flatMap pbV) j)(n:x.ok K.m.o)
  (p:Xa k f l K.d (j++((h.b,.cells ((zk f K h i).setIfInBounds 10 rsv) 82)::(h.fragR K++(x.frag K.m.o++M)))) W) :
  vc k f l {K with runs:=K.runs++[x.r]} {h with rs:=h.rs++[x],rsv:=rsv,Fr:=j} i M W:=by
 refine⟨⟨a.mrow,?_,?_,?_,a.prow,a.dok,a.dw,a.dt,a.lmap,a.lperm,a.cmap,a.cok,a.trow,a.tabs,a.tlen,a.tok⟩,?_⟩
 .rw[jr,a.runs];rfl
 .intro r c;rcases jo.1 c with c|c
  .exact a.each r c
  .rw[jC]at c;subst c;exact n
 .rw[zO,jr,j7]at g;rw[ja,jr];exact g
 .refine Xa.pm p λy=>?_
  have e:zk f {K with runs:=K.runs++[x.r]} {h with rs:=h.rs++[x],rsv:=rsv,Fr:=j} i=(zk f K h i).setIfInBounds 10 rsv:=by unfold zk;simp only[jf,jj,ji]
  unfold KpH.fragj KpH.fragR;rw[e];simp only[xa,ya,OI,OT,OQ,Ya,jD,jB,Jk,jJ];omega
def yS:Option Obj->Option Obj->Nat
 |some (.mapIter _ _ seen _),some (.map es _)=>es.toList.countP λx=>!seen.contains x.born
 |_,_=>0
theorem Qas{κ ν:Type}[DecidableEq κ]{ek:κ->Value}{ev:ν->Value}{om oi:Obj}{b:Nat}{l:List (κ × ν)}{V:List κ}(hinj:∀x y,ek x=ek y->x=y)(hM:Va ek ev om l)(hI:Qx ek b oi om V):
  yS (some oi) (some om)=l.countP λp=>decide (p.1∉V):=by
 obtain⟨es,clock,rfl,h1,h2,h3⟩:=hM.ex;obtain⟨es',clock',since,seen,c0,e0,rfl,i1,i2,i3,i4⟩:=hI;injection e0 with e1 e2
 subst e1 e2;show es.toList.countP _=_;have key:∀(xs:List MapEntry) (ls:List (κ × ν)),xs.map (λe=>(e.key,e.val))=ls.map (λx=>(ek x.1,ev x.2))->(∀x∈xs,(seen.contains x.born=true<->∃y∈V,x.key=ek y))->xs.countP (λx=>!seen.contains x.born)=ls.countP λp=>decide (p.1∉V):=by
  intro xs;induction xs with
  |nil=>intro ls h _;cases ls with|nil=>rfl|cons a r=>cases h
  |cons x xs ih =>
   intro ls h hs;cases ls with
   |nil=>cases h
   |cons a r =>
    rw[ju,ju,List.cons.injEq,Je]at h;rw[Ko,Ko,ih r h.2 (λy hy=>hs y (jb _ hy))]
    congr 1
    have hx:=hs x jc;rw[h.1.1]at hx;have hv:(∃y∈V,ek a.1=ek y)<->a.1∈V:=⟨λ⟨y,hy,e⟩=>by rw[hinj _ _ e];exact hy,λh=>⟨_,h,rfl⟩⟩;rw[hv]at hx;by_cases ha:a.1∈V
    .rw[hx.2 ha];simp[ha]
    .have:seen.contains x.born=false:=by cases hc:seen.contains x.born with|false=>rfl|true=>exact absurd (hx.1 hc) ha
     rw[this];simp[ha]
 exact key _ _ h1 i4
theorem Ya0{κ ν:Type}[DecidableEq κ]{l:List (κ × ν)}{V:List κ}{p:κ × ν}(b:p∈l)(d:p.1∉V):(l.countP λx=>decide (x.1∉V++[p.1]))<l.countP λx=>decide (x.1∉V):=by
 induction l with
 |nil=>cases b
 |cons a r ih =>
  rw[Ko,Ko];have c:∀r:List (κ × ν),(r.countP λx=>decide (x.1∉V++[p.1]))<=r.countP λx=>decide (x.1∉V):=λr=>List.countP_mono_left λx _ h=>by simp only[jG,jo,Kc]at *;exact h.1
  rcases jp.1 b with rfl|b
  .have:=c r;simp[d];simp at this;omega
  .have:=ih b;have e:(if decide (a.1∉V++[p.1])=true then 1 else 0)<=(if decide (a.1∉V)=true then 1 else 0):=by
    by_cases ha:a.1∈V
    .simp[ha]
    .simp[ha];split<;>omega
   omega
theorem vc.mapNext{h:KpH}{κ ν:Type}[DecidableEq κ]{e:κ->Value}{o:ν->Value}{f q:Obj}{l:List (κ × ν)}{a:List κ}(g:∀x y,e x=e y->x=y)(C:Va e o f l)
  (D:vc V n b K h v ((i,q)::(k,f)::F) W) (I:Qx e k q f a) (z:TypeId) :
  ((∀p∈l,p.1∈a)/\(Instr.next (OQ i) false z).run prog W=.ok (.tuple #[.bool false]) W) \/
  ∃p∈l,p.1∉a/\∃c m,(Instr.next (OQ i) false z).run prog W=.ok (.tuple #[.bool true,e p.1,o p.2]) m/\vc V n b K h v ((i,c)::(k,f)::F) m/\Qx e k c f (a++[p.1]) /\
   ∀W'' M',St V W'' ((i,c)::(k,f)::M')->(Instr.entry (OQ i)).run prog W''=.ok (.tuple #[e p.1,o p.2]) W'':=by
 obtain⟨H,j,A,B,N⟩:=D;have s:St V W ((i,q)::(k,f)::(Zb n b j A K.d++(h.fragj n K v++F))):=N.pm CN;rcases Va.next (P:=prog) g C s I z with E|⟨p,G,u,c,m,J,w,t,L⟩
 .exact .inl E
 .exact .inr ⟨p,G,u,c,m,J,⟨H,j,A,B,w.pm CN⟩,t,L⟩
def Xj(o:Op3)(R:List Qj):List En:=R.flatMap λr=>Qc o 0 r.list
structure xab (D:Dk) (m:Mf) (R:List Qj):Prop where
 opt:Qb m.o=0
 infos:R.map (·.info)=m.runs
 ok:∀r∈R,ym m.o r.info r.list
 wf:D.Wf
 on:D.off=false
 files:∀r∈R,∀j,j<Qd m.o->∃f,D.get (Ve r.info.number.toNat j)=some f/\f.data=Zp m.o r.info r.list j
 seqs:((Xj m.o R).map (·.seq)).Nodup
 ups:(Xj m.o R).Pairwise λa b=>a.pair=b.pair->a.seq<b.seq
 len:(Xj m.o R).length<=1000000
 rlen:R.length<=1000
 mem:∀e∈Xj m.o R,0<=e.id/\e.id<=281474976710656/\(e.code.length:Int)=m.o.width/8/\0<e.seq/\e.seq<=1152921504606846976
 ids:((Yb (Qf [] (Xj m.o R))).map (·.id)).Nodup
end Go.Proofs.YtekkihmmclencaaGreatDoor
