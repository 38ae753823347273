import Derived.Test.YtekkihmmclencaaGreatDoorM20
namespace Go.Proofs.YtekkihmmclencaaGreatDoor
set_option linter.all false
set_option maxRecDepth 100000
set_option maxHeartbeats 40000000
open Tryz
open Go Go.RowKit Go.Sort
variable{n:Nat}{K:Kp}{d:Dk}
theorem vX{P:List Pr}{l:List (Int × Bs)}(f:(l.map (·.1)).Nodup)(d:l.Perm (P.map λp=>(p.id,p.code)))(i:Int):Zd l i=qd P i/\(P.map (·.id)).Nodup:=by
 have a:(P.map (·.id)).Nodup:=by
  have b:=(d.map (·.1)).nodup_iff.1 f;rw[j7]at b;exact b
 refine⟨?_,a⟩;cases hl:qd P i with
 |none =>
  have e:=Vu.1 hl;refine Yg.2 λg=>e ?_
  have b:=((d.map (·.1)).mem_iff).1 g;rw[j7]at b;exact b
 |some c =>
  have e:=(vk a).1 hl;exact qg f (d.mem_iff.2 (jg.2 ⟨_,e,rfl⟩))
theorem Qan:∀W,(zeroValue 108).run prog W=.ok (.agg #[.string ⟨#[]⟩]) W:=λW=>by
 have h:(prog.info? 108).map (λi=>i.zero)=some (some (.agg #[.string ⟨#[]⟩])):=by kernel_rfl
 obtain⟨i,b,a⟩:=jL.1 h;simp[zeroValue,typeInfo,b,a]
theorem KpH.ok.liveLook{K:Kp}{h:KpH}(a:h.ok K)(j:∀p∈K.P,0<=p.id/\p.id<=281474976710656){i:Int}(n:0<=i)(o:i<=281474976710656):
  ∀W:World,W.heap[h.bl]?=some h.ol->(Instr.lookup 78 (.map (some h.bl)) (OI i) true).run prog W=.ok (.tuple #[.agg #[.string ⟨((qd K.P i).getD []).toArray⟩],.bool (qd K.P i).isSome]) W:=by
 intro W f;have b:=Va.look (P:=prog) (k:=3) (e:=108) (t:=78) Qn underlying78 a.lmap (by
  intro q g;obtain⟨l,d,e⟩:=jg.1 (a.lperm.mem_iff.1 g);have:=j l d;rw[<-e];simp only;omega) f (x:=i) (by omega) true
 have m:=(vX a.lmap.nodup a.lperm i).1;rw[m]at b;cases hm:qd K.P i with
 |none =>
  have:=b.2 hm _ (Qan W);simpa [Zg] using this
 |some c =>
  have:=b.1 c hm;simpa [Zg,vaa,qa] using this
theorem YaH(W0 w:World)(bd bm:Nat)(K:Kp)(h:KpH)(jv:Value)(u:Up)(M:va)(hK:vc W0 bd bm K h jv M w)(hk:u.kind=1\/u.kind=2)(aN:u.code.length<=4611686018427387904)(hP:∀p∈K.P,0<=p.id/\p.id<=281474976710656/\p.code.length<=100000)(hw:Xc K.m.o.width=true)(av:K.P.length<=9000000):
  Calls prog 95 #[za h.b,.agg (upV u).toArray] w (Vd (.tuple #[.agg #[OI (K.goes u).1.id,.string ⟨(K.goes u).1.code.toArray⟩],OI (K.goes u).2]) w):=by
 obtain⟨w0,w1,w2⟩:=Xd.1 hw;obtain⟨ho,hD⟩:=hK;have l:=hD.rest;have af:=Hi (λW=>X9 W K.m.o.width u.code (by omega) (by omega) (by omega));have an:=Hi (λ(i0:0<=u.id) (i1:u.id<=281474976710656)=>ho.liveLook (λp hp=>⟨(hP p hp).1,(hP p hp).2.1⟩) i0 i1);have ai:((qd K.P u.id).getD []).length<=100000:=by
  cases hl:qd K.P u.id with
  |none=>simp
  |some c =>
   have:=(vk (vX ho.lmap.nodup ho.lperm u.id).2).1 hl;exact(hP _ this).2.2
 have aL:Hy (K.goes u=K.goes u):=Hi rfl;obtain⟨R,hR⟩:=NE (K.goes u);rw[hR];unfold Kp.goes at hR;have aB:=ho.dw.2.2.2;rw[<-aB]at hR;have a4:=Hi (λ(W:World) (hb:Below w.heap.size w W) (c:Bs) (hc:c.length<=1000000) (i0:0<=u.id) (i1:u.id<=281474976710656)=>Ybf W0 W h.dl ((h.b,.cells (zk bd K h jv) 82)::(h.bl,h.ol)::(h.bc,h.oc)::(h.Fm++(h.Fr++(h.rs.flatMap (vd.frag K.m.o)++(h.Fp++(h.Ft++(h.ts.flatMap KtH.frag++M))))))) u.id c ho.dok ((l.callB hb).pm λy=>by unfold KpH.fragj;simp only[xa,ya,OI,OT,OQ];omega) (by omega) (by omega) hc);have ad:=Hi (λ(W:World) (hb:Below w.heap.size w W)=>qbm W0 W h.dl ((h.b,.cells (zk bd K h jv) 82)::(h.bl,h.ol)::(h.bc,h.oc)::(h.Fm++(h.Fr++(h.rs.flatMap (vd.frag K.m.o)++(h.Fp++(h.Ft++(h.ts.flatMap KtH.frag++M))))))) ho.dok ((l.callB hb).pm λy=>by unfold KpH.fragj;simp only[xa,ya,OI,OT,OQ];omega));have aj:=Hi (λ(W:World) (hW:W.heap[h.bl]?=some h.ol)=>show(Builtin.len_ #[78] 3 #[.map (some h.bl)]).run prog W=.ok (OI (K.P.length:Int)) W from by
  have:=Va.len (P:=prog) (k:=3) (e:=108) (t:=78) (W:=W) underlying78 ho.lmap hW 3;rw[this];have:=ho.lperm.length_eq;rw[jz]at this;rw[this])
 have U:=ho.dok.many;have N:=Hi (λ(W:World) (hb:Below w.heap.size w W)=>show OV W h.b 3 (OI K.m.o.width)/\OV W h.b 13 (za h.dl.b)/\OV W h.b 15 (.map (some h.bl))/\W.heap[h.bl]?=some h.ol from by
  have h1:St W0 W (h.fragj bd K jv++M):=l.callB hb;unfold KpH.fragj at h1;exact⟨h1.cellH 3,h1.cellH 13,h1.cellH 15,h1.tail.get⟩)
 obtain⟨L,hL⟩:=NE (qd K.P u.id);rw[hL]at an hR ai;obtain⟨H,aD⟩:=NE h.dl.words;rw[aD]at a4 ad hR U;obtain⟨pn,aJ⟩:=NE K.P.length;rw[aJ]at aj hR av;obtain⟨kw,aH⟩:=NE K.m.o.width;rw[aH]at af N hR w0 w1 w2;obtain⟨db,aA⟩:=NE h.dl.b;rw[aA]at a4 ad N;obtain⟨bl,aE⟩:=NE h.bl;rw[aE]at an aj N;obtain⟨ol,aC⟩:=NE h.ol;rw[aC]at an aj N;obtain⟨b,hb⟩:=NE h.b;rw[hb]at N|-
 have hA:=((St.refl w).alloc (.cells (upV u).toArray 35)).alloc (.cells #[OI 0,.string ⟨#[]⟩] 86);rw[jF]at hA;obtain⟨C,hC⟩:=EN w.heap.size;rw[<-hC]at hA;obtain⟨HA,HC,i,aK⟩:=Hi4 hA hC hR hk;obtain⟨us,uk,d,n⟩:=u;unfold upV at *;unfold Ret at af;unfold za qa at *;simp only at *;clear l hA hC hR hk aB ho hD aD aJ aH aA aE aC hb hL aL hP hw;go_enter func95,ntmps95;go_upto_region 1 with fail
 rw[<-HC.o];refine HA.o.nameC ?_;clear HA HC;intro w1 l;obtain⟨a1,a2⟩:=l.tail.k2 1 2;obtain⟨r0,r1⟩:=l.k2 0 1;obtain⟨ab,aa⟩:=l.f2 0 1;have Y:=Hi l;clear l;have f:=i.o;clear i;by_cases i0:d<0
 .rw[jh (.inl i0)]at f;have i:=Hi f;clear f;have A:=Hi ((Y.o.set 0 (OI 0)).set 1 (.string ⟨#[]⟩));go_wp2_with (fail);refine A.o.nameB ?_;clear A;intro w9 j;obtain⟨E,G⟩:=j.k2 0 1;simp at E G;rw[<-i.o];refine jP (v:=.tuple #[.agg #[OI 0,.string ⟨#[]⟩],OI 60]) ?_ rfl ⟨rfl,j.below⟩;simp[results,results95,go_sem,E,G]
 .by_cases i1:281474976710656<d
  .rw[jh (.inr i1)]at f;have i:=Hi f;clear f;have A:=Hi ((Y.o.set 0 (OI 0)).set 1 (.string ⟨#[]⟩));go_wp2_with (fail);refine A.o.nameB ?_;clear A;intro w9 j;obtain⟨E,G⟩:=j.k2 0 1;simp at E G;rw[<-i.o];refine jP (v:=.tuple #[.agg #[OI 0,.string ⟨#[]⟩],OI 60]) ?_ rfl ⟨rfl,j.below⟩;simp[results,results95,go_sem,E,G]
  .rw[jd (by omega)]at f;have i:=Hi f;clear f r0 r1 ab aa;have aM:=an.o (by omega) (by omega);have HL:=Hi (λ(W:World) (hW:Below w1.drew.heap.size w1.drew W)=>show OV W b 15 (.map (some bl))/\OV W C 2 (OI d)/\W.heap[bl]?=some ol from
    have h1:=N.o W (Y.o.drew.callB hW).below
    ⟨h1.2.2.1,(Y.o.drew.callB hW).tail.cellH 2,h1.2.2.2⟩)
   go_upto_region 3 with(fail)
   clear a1 a2;go_region_held3 (λW=>W.cell? ⟨b,15,none⟩=some (.map (some bl))/\W.cell? ⟨C,2,none⟩=some (.int .i64 d)/\W.heap[bl]?=some ol) (first|with_reducible exact HL.o _ (jU _ _)|with_reducible exact HL.o _ ((St.refl _).alloc _).below|with_reducible exact HL.o _ ((((St.refl _).alloc _).set _ _)).below|(go_keep;done)) (fail)
   all_goals(
    obtain⟨C2,ar⟩:=EN w1.heap.size;have hX:=(Y.o.alloc (.cells #[.string ⟨(L.getD []).toArray⟩] 108)).drew;rw[<-ar]at hX;rw[<-ar];refine St.nameE (P:=prog) hX ?_;clear hX HL Y aM ar;intro w2 l;obtain⟨a2,a3⟩:=l.tail.tail.k2 2 3;have hX:=l.alloc (.cells #[OI d,OT n] 86);have A:=Hi hX;clear l hX;go_upto_region 5 with(fail)
    obtain⟨J,aw⟩:=EN w2.heap.size;have hX:=A.o;rw[<-aw]at hX;rw[<-aw];refine hX.nameC ?_;clear hX A aw a2 a3;intro w3 l;have a1:=l.tail.tail.tail.cellH 1;have D:=l.pm (M':=(C+1,.cells #[OI 0,.string ⟨#[]⟩] 86)::(J,.cells #[OI d,OT n] 86)::(C2,.cells #[.string ⟨(L.getD []).toArray⟩] 108)::(C,.cells #[OI us,OI uk,OI d,OT n] 35)::[]) CN;have am:OV w3 C2 0 (.string ⟨(L.getD []).toArray⟩):=l.tail.cellH 0;have aq:=l.freeH 1;have au:=l.cellH 1;obtain⟨Y,S⟩:=Hi2 l D;clear l D;rcases aK.o with k|k
    .subst k;have f:=i.o;clear i;rw[jd (by decide)]at f;have i:=Hi f;clear f;have ay:=Hi (λ(h0:Qh kw n=0)=>show n.length<=1000 from by
      unfold Qh at h0;split at h0
      .cases h0
      .split at h0
       .cases h0
       .omega)
     obtain⟨x,hx⟩:=NE (Qh kw n);rw[hx]at af i ay;have ao:=Hi (af.o w3.drew);have az:OV w3.drew b 3 (OI kw)/\OV w3.drew C 3 (OT n):=⟨(N.o w3.drew Y.o.drew.below).1,Y.o.drew.tail.tail.tail.cellH 3⟩;have aG:=Hi az;clear az hx am;go_upto_region 9 with(fail)
     go_region_held3 (λW=>W.cell? ⟨b,3,none⟩=some (.int .i64 kw)/\W.cell? ⟨C,3,none⟩=some (.string ⟨n.toArray⟩)) (first|with_reducible exact aG.o|(go_keep;done)) (first|(go_at_call 155;refine MQ ao.o ?_));refine St.nameE (P:=prog) Y.o.drew ?_;clear aG ao af Y S aq au a1;intro w4 l;have D:=l.pm (M':=(C+1,.cells #[OI 0,.string ⟨#[]⟩] 86)::(J,.cells #[OI d,OT n] 86)::(C2,.cells #[.string ⟨(L.getD []).toArray⟩] 108)::(C,.cells #[OI us,OI 1,OI d,OT n] 35)::[]) CN;obtain⟨Y,S⟩:=Hi2 l D;clear l;by_cases x0:x=0
     .subst x0;have f:=i.o;clear i;rw[jd (by simp)]at f;cases L with
      |some c =>
       rw[jh (by rfl)]at f;have i:=Hi f;clear f;obtain⟨r0,r1⟩:=D.k2 0 1;obtain⟨ab,aa⟩:=D.f2 0 1;have A:=Hi ((S.o.set 0 (OI 0)).set 1 (.string ⟨#[]⟩));go_wp2_with (fail);refine A.o.nameB ?_;clear A;intro w9 j;obtain⟨E,G⟩:=j.k2 0 1;simp at E G;rw[<-i.o];refine jP (v:=.tuple #[.agg #[OI 0,.string ⟨#[]⟩],OI 130]) ?_ rfl ⟨rfl,j.below⟩;simp[results,results95,go_sem,E,G]
      |none =>
       rw[jd (by simp)]at f;by_cases hpn2:1048576<=pn
       .rw[jh hpn2]at f;have i:=Hi f;clear f;have al:=aj.o w4 (N.o w4 Y.o.below).2.2.2;have aF:=(N.o w4 Y.o.below).2.2.1;obtain⟨pl,a8⟩:=NE ((pn:Int));rw[a8]at al;have ap:1048576<=pl:=by omega
        clear hpn2 a8 av;obtain⟨r0,r1⟩:=D.k2 0 1;obtain⟨ab,aa⟩:=D.f2 0 1;have A:=Hi ((S.o.set 0 (OI 0)).set 1 (.string ⟨#[]⟩));go_wp2_with (fail);refine A.o.nameB ?_;clear A;intro w9 j;obtain⟨E,G⟩:=j.k2 0 1;simp at E G;rw[<-i.o];refine jP (v:=.tuple #[.agg #[OI 0,.string ⟨#[]⟩],OI 43]) ?_ rfl ⟨rfl,j.below⟩;simp[results,results95,go_sem,E,G]
       .rw[jd hpn2]at f;have i:=Hi f;clear f;have al:=aj.o w4 (N.o w4 Y.o.below).2.2.2;have aF:=(N.o w4 Y.o.below).2.2.1;obtain⟨pl,a8⟩:=NE ((pn:Int));rw[a8]at al;have ap:pl<1048576:=by omega
        clear hpn2 a8 av D S;go_upto_region 15 with(fail)
        clear al aF ap;have a7:n.length<=1000000:=by have:=ay.o rfl;omega
        have B:=Y;obtain⟨Q,aI⟩:=EN w4;rw[<-aI]at B|-
        clear Y aI;simp only[Option.getD_none]at B;have q:=Hi (λ(W:World) (hW:St w W ((J,.cells #[OI d,OT n] 86)::(C2,.cells #[.string ⟨([]:Bs).toArray⟩] 108)::(C+1,.cells #[OI 0,.string ⟨#[]⟩] 86)::(C,.cells #[OI us,OI 1,OI d,OT n] 35)::[]))=>a4.o W hW.below n a7 (by omega) (by omega));have s:=Hi (λ(W:World) (z:Nat × Obj) (hW:St w W (z::(J,.cells #[OI d,OT n] 86)::(C2,.cells #[.string ⟨([]:Bs).toArray⟩] 108)::(C+1,.cells #[OI 0,.string ⟨#[]⟩] 86)::(C,.cells #[OI us,OI 1,OI d,OT n] 35)::[]))=>a4.o W hW.below n a7 (by omega) (by omega));have a5:=Hi (λ(W:World) (hW:St w W ((J,.cells #[OI d,OT n] 86)::(C2,.cells #[.string ⟨([]:Bs).toArray⟩] 108)::(C+1,.cells #[OI 0,.string ⟨#[]⟩] 86)::(C,.cells #[OI us,OI 1,OI d,OT n] 35)::[]))=>ad.o W hW.below);have g:=Hi (λ(W:World) (hW:St w W ((J,.cells #[OI d,OT n] 86)::(C2,.cells #[.string ⟨([]:Bs).toArray⟩] 108)::(C+1,.cells #[OI 0,.string ⟨#[]⟩] 86)::(C,.cells #[OI us,OI 1,OI d,OT n] 35)::[]))=>show OV W b 13 (OQ db)/\OV W J 0 (OI d)/\OV W J 1 (OT n)from⟨(N.o W hW.below).2.1,hW.cellH 0,hW.cellH 1⟩);have ae:=g.o Q.drew B.o.drew;have ag:=Hi ae;clear ae a4 ad;unfold Vd at q s;have a0:(xA H d n).2=(Zd H (d,n)).isSome:=by unfold xA;cases Zd H (d,n)<;>rfl
        obtain⟨⟨⟨ev,ec,ei,es,ed⟩,sp⟩,ah⟩:=NE (xA H d n);rw[ah]at q s a0;unfold enV qa at q s;simp only at q s a0;have a9:=Hi a0;clear ah a0;go_region_held3 (λW=>W.cell? ⟨b,13,none⟩=some (.pointer (some ⟨db,0,none⟩))/\W.cell? ⟨J,0,none⟩=some (.int .i64 d)/\W.cell? ⟨J,1,none⟩=some (.string ⟨n.toArray⟩)) (first|with_reducible exact g.o _ a.o|with_reducible exact g.o _ a.o.tail|with_reducible exact ag.o|with_reducible exact g.o _ (B.o.alloc _).tail.drew|with_reducible exact g.o _ (a.o.alloc _).tail|with_reducible exact g.o _ (((((a.o.set 0 _).set 1 _).set 2 _).set 3 _).set 4 _).tail|(go_keep;done)) (first
         |(go_at_call 156;refine(q.o _ B.o.drew).mono ?_;rintro e' T ⟨rfl,X⟩;have a:=Hi (B.o.drew.callB X);clear X)
         |(go_at_call 156;refine(s.o _ _ (B.o.alloc (.cells #[OI 0,.string ⟨#[]⟩,OI 0,OI 0,.bool false] 137)).drew).mono ?_;rintro e' T ⟨rfl,X⟩;have a:=Hi ((B.o.alloc (.cells #[OI 0,.string ⟨#[]⟩,OI 0,OI 0,.bool false] 137)).drew.callB X);obtain⟨y0,y1,y2,y3,y4⟩:=a.o.k5 0 1 2 3 4;obtain⟨v0,v1,v2,v3,v4⟩:=a.o.f5 0 1 2 3 4;clear X))
        all_goals(
         clear q s ag
         first
          |(have:=y0;clear this;refine St.nameE (P:=prog) (((((a.o.set 0 (OI ev)).set 1 (OT ec)).set 2 (OI ei)).set 3 (OI es)).set 4 (.bool ed)).tail ?_)
          |refine St.nameE (P:=prog) (a.o.alloc (.cells #[OI ev,OT ec,OI ei,OI es,.bool ed] 137)).tail ?_
         clear a
         try clear y0 y1 y2 y3 y4 v0 v1 v2 v3 v4
         intro wM l;obtain⟨q0,q1⟩:=l.k2 0 1;have q2:=(g.o _ l).1;have Z:=a5.o _ l;have O:=l.pm (M':=(C+1,.cells #[OI 0,.string ⟨#[]⟩] 86)::(J,.cells #[OI d,OT n] 86)::(C2,.cells #[.string ⟨([]:Bs).toArray⟩] 108)::(C,.cells #[OI us,OI 1,OI d,OT n] 35)::[]) CN;clear l;obtain⟨r0,r1⟩:=O.k2 0 1;obtain⟨ab,aa⟩:=O.f2 0 1;have ac:=Hi O;clear O g a5;cases sp with
         |true =>
          have f:=i.o;clear i;have V:¬ ((Zd H (d,n)).isNone=true/\65536<=H.length):=λh=>by
           have h1:=h.1;rw[Option.isNone_iff_eq_none]at h1;have h2:=a9.o;rw[h1]at h2;cases h2
          rw[jd V]at f;clear V;have i:=Hi f;clear f Z q2;have A:=Hi ((ac.o.set 0 (OI d)).set 1 (OT n));go_wp2_with (fail);refine A.o.nameB ?_;clear A;intro w9 j;obtain⟨E,G⟩:=j.k2 0 1;simp at E G;rw[<-i.o];refine jP (v:=.tuple #[.agg #[OI d,OT n],OI 0]) ?_ rfl ⟨rfl,j.below⟩;simp[results,results95,go_sem,E,G]
         |false =>
          unfold Ret at Z;have I:=Hi Z;clear Z;by_cases hwl:65536<=H.length
          .have f:=i.o;have a6:(Zd H (d,n)).isNone=true/\65536<=H.length:=by
            refine⟨?_,hwl⟩;have h2:=a9.o;cases hq:Zd H (d,n)with
            |none=>rfl
            |some z=>rw[hq]at h2;cases h2
           rw[jh a6]at f;clear a6;have i:=Hi f;clear f;obtain⟨wl,F⟩:=NE ((H.length:Int));rw[F]at I;have ak:65536<=wl:=by omega
           clear hwl F U;have A:=Hi ((ac.o.set 0 (OI 0)).set 1 (.string ⟨#[]⟩));go_wp2_with (go_at_call 157;refine MQ I.o ?_);refine A.o.nameB ?_;clear A;intro w9 j;obtain⟨E,G⟩:=j.k2 0 1;simp at E G;rw[<-i.o];refine jP (v:=.tuple #[.agg #[OI 0,.string ⟨#[]⟩],OI 152]) ?_ rfl ⟨rfl,j.below⟩;simp[results,results95,go_sem,E,G]
          .have f:=i.o;have V:¬ ((Zd H (d,n)).isNone=true/\65536<=H.length):=λh=>hwl h.2
           rw[jd V]at f;clear V;have i:=Hi f;clear f;obtain⟨wl,F⟩:=NE ((H.length:Int));rw[F]at I;have ak:wl<65536:=by omega
           clear hwl F U;have A:=Hi ((ac.o.set 0 (OI d)).set 1 (OT n));go_wp2_with (go_at_call 157;refine MQ I.o ?_);refine A.o.nameB ?_;clear A;intro w9 j;obtain⟨E,G⟩:=j.k2 0 1;simp at E G;rw[<-i.o];refine jP (v:=.tuple #[.agg #[OI d,OT n],OI 0]) ?_ rfl ⟨rfl,j.below⟩;simp[results,results95,go_sem,E,G])
     .have f:=i.o;rw[jh x0]at f;have i:=Hi f;have x1:(x != 0)=true:=by simpa using x0
      clear f;obtain⟨r0,r1⟩:=D.k2 0 1;obtain⟨ab,aa⟩:=D.f2 0 1;have A:=Hi ((S.o.set 0 (OI 0)).set 1 (.string ⟨#[]⟩));go_wp2_with (fail);refine A.o.nameB ?_;clear A;intro w9 j;obtain⟨E,G⟩:=j.k2 0 1;simp at E G;rw[<-i.o];refine jP (v:=.tuple #[.agg #[OI 0,.string ⟨#[]⟩],OI 11]) ?_ rfl ⟨rfl,j.below⟩;simp[results,results95,go_sem,E,G]
    .subst k;cases L with
     |none =>
      have f:=i.o;clear i;simp only[JV]at f;have i:=Hi f;clear f aq au am;obtain⟨r0,r1⟩:=S.o.k2 0 1;obtain⟨ab,aa⟩:=S.o.f2 0 1;have A:=Hi ((S.o.set 0 (OI 0)).set 1 (.string ⟨#[]⟩));go_wp2_with (fail);refine A.o.nameB ?_;clear A;intro w9 j;obtain⟨E,G⟩:=j.k2 0 1;simp at E G;rw[<-i.o];refine jP (v:=.tuple #[.agg #[OI 0,.string ⟨#[]⟩],OI 131]) ?_ rfl ⟨rfl,j.below⟩;simp[results,results95,go_sem,E,G]
     |some c =>
      have f:=i.o;clear i;simp only[JV]at f;have i:=Hi f;simp only[kB]at am ai Y;clear f;go_upto_region 15 with(fail)
      refine(Y.o.set 1 (OT c)).nameC ?_;clear Y S aq au am a1;intro Q l;have a7:c.length<=1000000:=by omega
      have B:=Hi l;clear l;obtain⟨LC,ax⟩:=EN c;rw[<-ax]at B;simp only[jf,jj,ji]at B;rw[ax]at B;clear ax LC;have q:=Hi (λ(W:World) (hW:St w W ((J,.cells #[OI d,OT c] 86)::(C2,.cells #[OT c] 108)::(C+1,.cells #[OI 0,.string ⟨#[]⟩] 86)::(C,.cells #[OI us,OI 2,OI d,OT n] 35)::[]))=>a4.o W hW.below c a7 (by omega) (by omega));have s:=Hi (λ(W:World) (z:Nat × Obj) (hW:St w W (z::(J,.cells #[OI d,OT c] 86)::(C2,.cells #[OT c] 108)::(C+1,.cells #[OI 0,.string ⟨#[]⟩] 86)::(C,.cells #[OI us,OI 2,OI d,OT n] 35)::[]))=>a4.o W hW.below c a7 (by omega) (by omega));have a5:=Hi (λ(W:World) (hW:St w W ((J,.cells #[OI d,OT c] 86)::(C2,.cells #[OT c] 108)::(C+1,.cells #[OI 0,.string ⟨#[]⟩] 86)::(C,.cells #[OI us,OI 2,OI d,OT n] 35)::[]))=>ad.o W hW.below);have g:=Hi (λ(W:World) (hW:St w W ((J,.cells #[OI d,OT c] 86)::(C2,.cells #[OT c] 108)::(C+1,.cells #[OI 0,.string ⟨#[]⟩] 86)::(C,.cells #[OI us,OI 2,OI d,OT n] 35)::[]))=>show OV W b 13 (OQ db)/\OV W J 0 (OI d)/\OV W J 1 (OT c)from⟨(N.o W hW.below).2.1,hW.cellH 0,hW.cellH 1⟩);have ae:=g.o Q.drew B.o.drew;have ag:=Hi ae;clear ae a4 ad;unfold Vd at q s;have a0:(xA H d c).2=(Zd H (d,c)).isSome:=by unfold xA;cases Zd H (d,c)<;>rfl
      obtain⟨⟨⟨ev,ec,ei,es,ed⟩,sp⟩,ah⟩:=NE (xA H d c);rw[ah]at q s a0;unfold enV qa at q s;simp only at q s a0;have a9:=Hi a0;clear ah a0;go_upto_region 15 with(fail)
      go_region_held3 (λW=>W.cell? ⟨b,13,none⟩=some (.pointer (some ⟨db,0,none⟩))/\W.cell? ⟨J,0,none⟩=some (.int .i64 d)/\W.cell? ⟨J,1,none⟩=some (.string ⟨c.toArray⟩)) (first|with_reducible exact g.o _ a.o|with_reducible exact g.o _ a.o.tail|with_reducible exact ag.o|with_reducible exact g.o _ (B.o.alloc _).tail.drew|with_reducible exact g.o _ (a.o.alloc _).tail|with_reducible exact g.o _ (((((a.o.set 0 _).set 1 _).set 2 _).set 3 _).set 4 _).tail|(go_keep;done)) (first
       |(go_at_call 156;refine(q.o _ B.o.drew).mono ?_;rintro e' T ⟨rfl,X⟩;have a:=Hi (B.o.drew.callB X);clear X)
       |(go_at_call 156;refine(s.o _ _ (B.o.alloc (.cells #[OI 0,.string ⟨#[]⟩,OI 0,OI 0,.bool false] 137)).drew).mono ?_;rintro e' T ⟨rfl,X⟩;have a:=Hi ((B.o.alloc (.cells #[OI 0,.string ⟨#[]⟩,OI 0,OI 0,.bool false] 137)).drew.callB X);obtain⟨y0,y1,y2,y3,y4⟩:=a.o.k5 0 1 2 3 4;obtain⟨v0,v1,v2,v3,v4⟩:=a.o.f5 0 1 2 3 4;clear X))
      all_goals(
       clear q s ag
       first
        |(have:=y0;clear this;refine St.nameE (P:=prog) (((((a.o.set 0 (OI ev)).set 1 (OT ec)).set 2 (OI ei)).set 3 (OI es)).set 4 (.bool ed)).tail ?_)
        |refine St.nameE (P:=prog) (a.o.alloc (.cells #[OI ev,OT ec,OI ei,OI es,.bool ed] 137)).tail ?_
       clear a
       try clear y0 y1 y2 y3 y4 v0 v1 v2 v3 v4
       intro wM l;obtain⟨q0,q1⟩:=l.k2 0 1;have q2:=(g.o _ l).1;have Z:=a5.o _ l;have O:=l.pm (M':=(C+1,.cells #[OI 0,.string ⟨#[]⟩] 86)::(J,.cells #[OI d,OT c] 86)::(C2,.cells #[OT c] 108)::(C,.cells #[OI us,OI 2,OI d,OT n] 35)::[]) CN;clear l;obtain⟨r0,r1⟩:=O.k2 0 1;obtain⟨ab,aa⟩:=O.f2 0 1;have ac:=Hi O;clear O g a5;cases sp with
       |true =>
        have f:=i.o;clear i;have V:¬ ((Zd H (d,c)).isNone=true/\65536<=H.length):=λh=>by
         have h1:=h.1;rw[Option.isNone_iff_eq_none]at h1;have h2:=a9.o;rw[h1]at h2;cases h2
        rw[jd V]at f;clear V;have i:=Hi f;clear f Z q2;have A:=Hi ((ac.o.set 0 (OI d)).set 1 (OT c));go_wp2_with (fail);refine A.o.nameB ?_;clear A;intro w9 j;obtain⟨E,G⟩:=j.k2 0 1;simp at E G;rw[<-i.o];refine jP (v:=.tuple #[.agg #[OI d,OT c],OI 0]) ?_ rfl ⟨rfl,j.below⟩;simp[results,results95,go_sem,E,G]
       |false =>
        unfold Ret at Z;have I:=Hi Z;clear Z;by_cases hwl:65536<=H.length
        .have f:=i.o;have a6:(Zd H (d,c)).isNone=true/\65536<=H.length:=by
          refine⟨?_,hwl⟩;have h2:=a9.o;cases hq:Zd H (d,c)with
          |none=>rfl
          |some z=>rw[hq]at h2;cases h2
         rw[jh a6]at f;clear a6;have i:=Hi f;clear f;obtain⟨wl,F⟩:=NE ((H.length:Int));rw[F]at I;have ak:65536<=wl:=by omega
         clear hwl F U;have A:=Hi ((ac.o.set 0 (OI 0)).set 1 (.string ⟨#[]⟩));go_wp2_with (go_at_call 157;refine MQ I.o ?_);refine A.o.nameB ?_;clear A;intro w9 j;obtain⟨E,G⟩:=j.k2 0 1;simp at E G;rw[<-i.o];refine jP (v:=.tuple #[.agg #[OI 0,.string ⟨#[]⟩],OI 152]) ?_ rfl ⟨rfl,j.below⟩;simp[results,results95,go_sem,E,G]
        .have f:=i.o;have V:¬ ((Zd H (d,c)).isNone=true/\65536<=H.length):=λh=>hwl h.2
         rw[jd V]at f;clear V;have i:=Hi f;clear f;obtain⟨wl,F⟩:=NE ((H.length:Int));rw[F]at I;have ak:wl<65536:=by omega
         clear hwl F U;have A:=Hi ((ac.o.set 0 (OI d)).set 1 (OT c));go_wp2_with (go_at_call 157;refine MQ I.o ?_);refine A.o.nameB ?_;clear A;intro w9 j;obtain⟨E,G⟩:=j.k2 0 1;simp at E G;rw[<-i.o];refine jP (v:=.tuple #[.agg #[OI d,OT c],OI 0]) ?_ rfl ⟨rfl,j.below⟩;simp[results,results95,go_sem,E,G])
   )
theorem vaX:∃i,prog.info? 35=some i/\∃z,i.zero=some z/\i.size=4/\z.cells.size=4/\∃by_,i.bytes=by_/\by_<=128:=by
 have h:(prog.info? 35).map (λi=>(i.zero.map (λz=>z.cells.size),i.size,decide (i.bytes<=128)))=some (some 4,4,true):=by kernel_rfl
 obtain⟨i,e,b⟩:=jL.1 h;simp only[Je,jL,jG]at b;obtain⟨⟨z,f,a⟩,c,d⟩:=b;exact⟨i,e,z,f,c,a,_,rfl,d⟩
def KpH.restF(K:Kp)(h:KpH):va:=h.Fm++(h.Fr++h.rs.flatMap (vd.frag K.m.o))
theorem vc.open{f W:World}{e g:Nat}{K:Kp}{h:KpH}{i:Value}{M:va}(l:vc f e g K h i M W):∃a c,xe a c K.d/\St f W ((h.b,.cells (zk e K h i) 82)::(h.dl.frag++(h.lv.frag++(h.Fp++(h.restF K++(Zb e g a c K.d++M)))))):=by
 obtain⟨_,a,c,j,k⟩:=l;exact⟨a,c,j,k.pm λx=>by unfold KpH.fragj LvH.frag KpH.lv KpH.restF;simp only[xa,ya,OI,OT,OQ];omega⟩
theorem vc.shut{k W:World}{c l:Nat}{K:Kp}{h:KpH}{f:Value}{M:va}{j:Obj}{i:List FH}(g:h.ok K)(n:xe j i K.d){d:DlH}{x:LvH}{pv:Value}{Fp:va}{P:List Pr}{past:List Up}
  (s:d.ok) (p:d.w=K.m.o.width) (r:d.m=K.m.o.chunks) (v:d.ts.length=max 1 K.m.o.chunks.toNat) (a:x.ok K.m.o P) (q:d.b=h.dl.b) (z:x.bl=h.bl) (t:x.bc=h.bc) (A:x.tv=h.tv) (u:Rw 35 4 pv past.length (past.flatMap upV) Fp)
  (B:St k W ((h.b,.cells ((zk c K h f).setIfInBounds 12 pv) 82)::(d.frag++(x.frag++(Fp++(h.restF K++(Zb c l j i K.d++M))))))) :
  vc k c l {K with words:=d.words,wlast:=d.last,P:=P,past:=past} {h with dl:=d,pv:=pv,Fp:=Fp,bl:=x.bl,ol:=x.ol,bc:=x.bc,oc:=x.oc,tv:=x.tv,Ft:=x.Ft,ts:=x.ts,live:=x.live,codes:=x.codes} f M W:=by
 refine⟨⟨g.mrow,g.runs,g.each,g.rrow,u,s,⟨p,r,rfl,rfl⟩,v,a.lmap,a.lperm,a.cmap,a.cok,a.trow,a.tabs,a.tlen,a.tok⟩,j,i,n,B.pm λy=>?_⟩;have e:zk c {K with words:=d.words,wlast:=d.last,P:=P,past:=past} {h with dl:=d,pv:=pv,Fp:=Fp,bl:=x.bl,ol:=x.ol,bc:=x.bc,oc:=x.oc,tv:=x.tv,Ft:=x.Ft,ts:=x.ts,live:=x.live,codes:=x.codes} f=(zk c K h f).setIfInBounds 12 pv:=by
  unfold zk;simp only[jf,jj,ji,q,z,t,A]
 unfold KpH.fragj LvH.frag KpH.restF;rw[e];simp only[xa,ya,OI,OT,OQ];omega
def xC(W0:World)(bd bm b bj:Nat)(K':Kp)(jv:Value)(M:va)(v:Value)(e:Ending)(w':World):Prop:=e=.returned v/\∃h',h'.b=b/\h'.bj=bj/\vc W0 bd bm K' h' jv M w'
theorem XaH(W0 w:World)(X bm:Nat)(K:Kp)(h:KpH)(jv:Value)(u:Up)(p:Pr)(M:va)(hK:vc W0 X bm K h jv M w)(hk:u.kind=1\/u.kind=2)(ho:Qb K.m.o=0)
  (hP:∀q∈K.P,0<=q.id/\q.id<=281474976710656/\(q.code.length:Int)=K.m.o.width/8) (hp:0<=p.id/\p.id<=281474976710656/\(p.code.length:Int)=K.m.o.width/8)
  (h1:u.kind=1->p.id∉K.P.map (·.id)) (h2:u.kind=2->p∈K.P) (s0:K.wlast<u.seq) (s1:u.seq<=1152921504606846976) (aA:(Zd K.words (p.id,p.code)).isSome=true\/K.words.length<65536) (aD:K.words.length<=999999) (ax:K.P.length<=1000000000) (aS:K.past.length<=1000000) (aT:u.code.length<=1000000) :
  Calls prog 96 #[za h.b,.agg (upV u).toArray,.agg #[OI p.id,qa p.code]] w (xC W0 X bm h.b h.bj (K.made u p) jv M (.tuple #[])):=by
 obtain⟨g1,g2⟩:=yf ho;obtain⟨om,fl,hd,E⟩:=hK.open;have g:=hK.1;obtain⟨S,a9,ai,V⟩:=g.dw;have aC:h.dl.m=0\/(Ye h.dl.w h.dl.m=0/\0<h.dl.m/\h.dl.m<=128):=by
  rw[S,a9];rcases g2 with⟨_,c0⟩|⟨m1,_⟩
  .exact .inl c0
  .exact .inr (zo ho m1)
 have aj:(K.P.map (·.id)).Nodup:=(vX g.lmap.nodup g.lperm 0).2;obtain⟨c,B⟩:=NE (zk X K h jv);rw[B]at E;have q3:c[3]?=some (OI K.m.o.width):=by rw[<-B];rfl
 have q4:c[4]?=some (OI K.m.o.chunks):=by rw[<-B];rfl
 have aJ:c[12]?=some h.pv:=by rw[<-B];rfl
 have az:c[13]?=some (za h.dl.b):=by rw[<-B];rfl
 have ay:c[15]?=some (.map (some h.bl)):=by rw[<-B];rfl
 have aq:c[16]?=some (.map (some h.bc)):=by rw[<-B];rfl
 have aw:c[17]?=some h.tv:=by rw[<-B];rfl
 obtain⟨Z,hZ⟩:=NE (h.Fp++(h.restF K++(Zb X bm om fl K.d++M)));have aL:=Hi hZ;rw[hZ]at E;obtain⟨b,hb⟩:=NE h.b;rw[hb]at E;obtain⟨db,ar⟩:=NE h.dl.b;rw[ar]at az;have F:=Hi (λ(hk2:u.kind=2) (W:World) (N:va) (hW:St W0 W (h.dl.frag++N))=>vbg W0 W h.dl N u.seq p.id p.code g.dok hW (by rw[S];exact g1) aC (by rw[S];exact hp.2.2) (by rw[a9];exact g.dt) hp.1 hp.2.1 (by rw[ai];exact s0) s1 (by rw[V];exact aA) (by rw[V];exact aD));have T:=Hi (λ(hk2:u.kind=1) (W:World) (N:va) (hW:St W0 W (h.dl.frag++N))=>zbn W0 W h.dl N u.seq p.id p.code g.dok hW (by rw[S];exact g1) aC (by rw[S];exact hp.2.2) (by rw[a9];exact g.dt) hp.1 hp.2.1 (by rw[ai];exact s0) s1 (by rw[V];exact aA) (by rw[V];exact aD));have G:=Hi (λ(hk2:u.kind=2) (W:World) (N:va) (hW:St W0 W ((b,.cells c 82)::(h.lv.frag++N)))=>ybn W0 W b c K.m.o K.P h.lv N p hW g.lv ho q3 q4 ay aq aw hP hp aj (h2 hk2) ax);have j:=Hi (λ(hk2:u.kind=1) (W:World) (N:va) (hW:St W0 W ((b,.cells c 82)::(h.lv.frag++N)))=>qaH W0 W b c K.m.o K.P h.lv N p hW g.lv ho q3 q4 ay aq aw hP hp (h1 hk2) ax);have hA:=(E.alloc (.cells (upV u).toArray 35)).alloc (.cells #[OI p.id,qa p.code] 86);rw[jF]at hA;obtain⟨C,hC⟩:=EN w.heap.size;rw[<-hC]at hA;obtain⟨HA,HC,aQ,ah,HD⟩:=Hi5 hA hC hk g hd;obtain⟨aN,HB,ag⟩:=Hi3 B hb ar;have aI:=Hi (jy S (jy a9 (jy ai V)));obtain⟨al,ak⟩:=Hi2 aJ az;have a7:=g.prow;have am:K.past.length+1<=maxLen:=by unfold maxLen;omega
 obtain⟨i0,hi,z,aP,aK,aO,ao,aM,aR⟩:=vaX;have U:(K.past.length+1)*ao<=140737488355328:=jI (Jg (show K.past.length+1<=1000001 by omega) aR) (by decide);have af:=Hi a7;have HK:=Hi (show K.made u p=K.made u p from rfl);clear E hA hC hk g hd B hb ar S a9 ai V q3 q4 aJ az ay aq aw aC aj a7 hP hp h1 h2 aA aD ax g1 g2 hK ho hZ;obtain⟨a,uk,f,e⟩:=u;obtain⟨i,A⟩:=p;unfold upV at HA;unfold VI at F T;unfold ZaA at G j;unfold za qa at *;simp only at *;rw[HB.o];go_enter func96,ntmps96;go_upto_region 1 with fail
 unfold upV qa;rw[<-HC.o];refine HA.o.nameC ?_;clear HA HC;intro w1 E;have a1:=E.tail.cellH 1;have HS:=Hi E;clear E;rcases aQ.o with k|k
 .subst k;go_upto_region 4 with(fail)
  have E:=HS.o;have l:=Hi (λ(W:World) (dd:va) (hW:St W0 W (dd++((b,.cells c 82)::(C+1,.cells #[OI i,OT A] 86)::(C,.cells #[OI a,OI 1,OI f,OT e] 35)::(h.lv.frag++Z))))=>show OV W b 13 (OQ db)/\OV W C 0 (OI a)/\OV W (C+1) 0 (OI i)/\OV W (C+1) 1 (OT A)from⟨(hW.appR.cellH 13).trans ak.o,hW.appR.tail.tail.cellH 0,hW.appR.tail.cellH 0,hW.appR.tail.cellH 1⟩);have O:St W0 w1.drew (h.dl.frag++((b,.cells c 82)::(C+1,.cells #[OI i,OT A] 86)::(C,.cells #[OI a,OI 1,OI f,OT e] 35)::(h.lv.frag++Z))):=E.drew.pm CN;have a4:=Hi O;have J:=Hi (T.o (by simp) w1.drew _ O);rw[ag.o]at J;clear E O a1;go_region_held3 (λW=>W.cell? ⟨b,13,none⟩=some (.pointer (some ⟨db,0,none⟩))/\W.cell? ⟨C,0,none⟩=some (.int .i64 a)/\W.cell? ⟨C+1,0,none⟩=some (.int .i64 i)/\W.cell? ⟨C+1,1,none⟩=some (.string ⟨A.toArray⟩)) (first|with_reducible exact l.o _ _ n.o|with_reducible exact l.o _ _ a4.o|(go_keep;done)) (first|(go_at_call 160;refine J.o.mono ?_;rintro e' w5 ⟨rfl,d,n1,n2,n3,n4,n5,n6,n7,a0⟩;obtain⟨n,N1,N2,N3,N4⟩:=Hi5 a0 n1 n2 n3 n4;obtain⟨N5,N6,N7⟩:=Hi3 n5 n6 n7;clear n1 n2 n3 n4 n5 n6 n7 a0));have E:=n.o.pm (M':=(b,.cells c 82)::(h.lv.frag++((C+1,.cells #[OI i,OT A] 86)::(C,.cells #[OI a,OI 1,OI f,OT e] 35)::(d.frag++Z)))) CN;have p0:OV w5 (C+1) 0 (OI i):=(l.o _ _ n.o).2.2.1;have p1:OV w5 (C+1) 1 (OT A):=(l.o _ _ n.o).2.2.2;have a8:=Hi (j.o (by simp) w5 _ E);clear E a4 J l HS F T G j n;go_upto_region 6 with(go_at_call 93;refine a8.o.mono ?_;rintro e' w6 ⟨rfl,x,e1,e2,e3,e4,aa⟩;obtain⟨E1,E2,E3,E4,av⟩:=Hi5 e1 e2 e3 e4 aa;clear e1 e2 e3 e4 aa)
  clear p0 p1 a8;obtain⟨ad,s,R,_⟩:=af.o.form;have L:=af.o;rw[R]at L;have an:=Hi L;have r:St W0 w6 (h.Fp++((b,.cells c 82)::(C,.cells #[OI a,OI 1,OI f,OT e] 35)::(C+1,.cells #[OI i,OT A] 86)::(d.frag++(x.frag++(h.restF K++(Zb X bm om fl K.d++M)))))):=av.o.pm λy=>by rw[<-aL.o];simp only[xa,ya,OI,OT,OQ];omega
  have H:c[12]?=some (.slice ad K.past.length s):=al.o.trans (by rw[R]);have aG:OV w6.drew b 12 (.slice ad K.past.length s):=(r.drew.appR.cellH 12).trans H;have a5:∀ob,(w6.alloc ob).drew.cell? ⟨b,12,none⟩=some (.slice ad K.past.length s):=λob=>((r.alloc ob).tail.drew.appR.cellH 12).trans H
  have Q:=Hi (λ(W:World) (Fx:va) (hW:St W0 W (Fx++((b,.cells c 82)::(C,.cells #[OI a,OI 1,OI f,OT e] 35)::(C+1,.cells #[OI i,OT A] 86)::(d.frag++(x.frag++(h.restF K++(Zb X bm om fl K.d++M)))))))=>show(OV W C 0 (OI a)/\OV W C 1 (OI 1)/\OV W C 2 (OI f)/\OV W C 3 (OT e))/\(OV W b 12 (.slice ad K.past.length s)/\OZ W b 12)/\(∀v,(W.setCell ⟨b,12,none⟩ v).cell? ⟨C,0,none⟩=some (OI a)/\(W.setCell ⟨b,12,none⟩ v).cell? ⟨C,1,none⟩=some (OI 1)/\(W.setCell ⟨b,12,none⟩ v).cell? ⟨C,2,none⟩=some (OI f)/\(W.setCell ⟨b,12,none⟩ v).cell? ⟨C,3,none⟩=some (OT e))from
   ⟨⟨hW.appR.tail.cellH 0,hW.appR.tail.cellH 1,hW.appR.tail.cellH 2,hW.appR.tail.cellH 3⟩,⟨(hW.appR.cellH 12).trans H,hW.appR.freeH 12⟩,λv=>⟨(hW.appR.set 12 v).tail.cellH 0,(hW.appR.set 12 v).tail.cellH 1,(hW.appR.set 12 v).tail.cellH 2,(hW.appR.set 12 v).tail.cellH 3⟩⟩)
  have ac:=(Q.o w6.drew _ r.drew).1;obtain⟨a2,ab⟩:=Hi2 ac r;clear r ac L R H;refine wp_region_noPanic ?_;refine wp_region_held_drew (S:=(λW=>W.cell? ⟨C,0,none⟩=some (.int .i64 a)/\W.cell? ⟨C,1,none⟩=some (.int .i64 1)/\W.cell? ⟨C,2,none⟩=some (.int .i64 f)/\W.cell? ⟨C,3,none⟩=some (.string ⟨e.toArray⟩))) (by kernel_rfl) (by (try dsimp only)<;>(first|with_reducible exact q9.2.2 _|with_reducible exact q9.1|with_reducible exact a2.o|with_reducible exact(Q.o _ _ (ab.o.alloc _).tail.drew).1|(go_keep;done))) λhHq=>?_;refine' TK 0 rfl ?_ ?_;rotate_left;intro wq hwq;go_simp<;>rfl;(try simp only[Act.put,jf,ji,jj]);refine' TK 1 rfl ?_ ?_;rotate_left;intro wq hwq;go_simp<;>rfl;(try simp only[Act.put,jf,ji,jj]);refine' TK 2 rfl ?_ ?_;rotate_left;intro wq hwq;go_simp<;>rfl;(try simp only[Act.put,jf,ji,jj]);refine' TK 3 rfl ?_ ?_;rotate_left;intro wq hwq;go_simp<;>rfl;(try simp only[Act.put,jf,ji,jj]);refine' TK 5 rfl ?_ ?_;rotate_left;intro wq hwq;go_simp<;>rfl;(try simp only[Act.put,jf,ji,jj]);refine B2 4 6 (by kernel_rfl) rfl rfl (λKq hKq=>?_) (λKq hKq=>?_);go_simp;refine hKq.out _ _ (by assumption) λhHq=>?_;clear hKq Kq;(try simp only[Act.put,jf,ji,jj]);refine BR 6 (by kernel_rfl) rfl λKq hKq=>?_;go_simp;refine hKq.out _ _ (by (try dsimp only)<;>(first|with_reducible exact q9.2.2 _|with_reducible exact q9.1|with_reducible exact a2.o|with_reducible exact(Q.o _ _ (ab.o.alloc _).tail.drew).1|(go_keep;done))) λhHq=>?_;clear hKq Kq;(try simp only[Act.put,jf,ji,jj]);rotate_left;go_simp;refine hKq.out _ _ (by (try dsimp only)<;>(first|with_reducible exact q9.2.2 _|with_reducible exact q9.1|with_reducible exact a2.o|with_reducible exact(Q.o _ _ (ab.o.alloc _).tail.drew).1|(go_keep;done))) λhHq=>?_;clear hKq Kq;(try simp only[Act.put,jf,ji,jj]);refine BR 4 (by kernel_rfl) rfl λKq hKq=>?_;go_simp;refine hKq.out _ _ (by assumption) λhHq=>?_;clear hKq Kq;(try simp only[Act.put,jf,ji,jj]);rotate_left;(all_goals (refine BR 7 (by kernel_rfl) rfl λKq hKq=>?_;(refine Zn (W0:=W0) (by rfl) _ _ 76 (by rfl) 35 i0 z 4 ao underlying76 hi aP aK aM aO (by decide) (.slice ad K.past.length s) K.past.length (K.past.flatMap upV) h.Fp _ (by rfl) an.o 1 w6.heap.size [OI a,OI 1,OI f,OT e] ((ab.o.alloc _).drew) (by rfl) (by rfl) (by intro y hy;simp at hy;rcases hy with rfl|rfl|rfl|rfl<;>rfl) (by decide) am U ?_;intro g7 t w7 F7 ae I;have q9:=Q.o _ _ I;obtain⟨aH,aE⟩:=q9.2.1;obtain⟨au,aF⟩:=Hi2 ae I;clear ae I);refine hKq.out _ _ (by (try dsimp only)<;>(first|with_reducible exact q9.2.2 _|with_reducible exact q9.1|with_reducible exact a2.o|with_reducible exact(Q.o _ _ (ab.o.alloc _).tail.drew).1|(go_keep;done))) λhHq=>?_;clear hKq Kq;(try simp only[Act.put,jf,ji,jj]);refine' TK 8 rfl ?_ ?_;rotate_left;intro wq hwq;go_simp<;>rfl;(try simp only[Act.put,jf,ji,jj]);refine' TK 9 rfl ?_ ?_;rotate_left;intro wq hwq;go_simp<;>rfl;(try simp only[Act.put,jf,ji,jj]);refine BR 10 (by kernel_rfl) rfl λKq hKq=>?_;go_simp;refine hKq.out _ _ (by (try dsimp only)<;>(first|with_reducible exact q9.2.2 _|with_reducible exact q9.1|with_reducible exact a2.o|with_reducible exact(Q.o _ _ (ab.o.alloc _).tail.drew).1|(go_keep;done))) λhHq=>?_;clear hKq Kq;(try simp only[Act.put,jf,ji,jj]);refine wpAnyH_done (by kernel_rfl) ?_ _;refine NoPanic.normal ?_))
  all_goals(
   refine St.nameB ((aF.o.pm (M':=(b,.cells c 82)::(C,.cells #[OI a,OI 1,OI f,OT e] 35)::(C+1,.cells #[OI i,OT A] 86)::(F7++(d.frag++(x.frag++(h.restF K++(Zb X bm om fl K.d++M)))))) CN).set 12 (.slice (some ⟨g7,0,none⟩) (K.past.length+1) t)) ?_;clear q9 aH aE aG a5 a2;intro w8 Y;have aB:=Hi Y;clear Y;go_end0;have hN:=N5.o;obtain⟨e1,e2,e3,e4⟩:=aI.o;have a3:=aB.o.pmSub (M':=(b,.cells (c.setIfInBounds 12 (.slice (some ⟨g7,0,none⟩) (K.past.length+1) t)) 82)::(d.frag++(x.frag++(F7++(h.restF K++(Zb X bm om fl K.d++M)))))) (D:=[(C,.cells #[OI a,OI 1,OI f,OT e] 35),(C+1,.cells #[OI i,OT A] 86)]) CN;rw[<-HB.o,<-aN.o]at a3;have a6:=vc.shut (past:=K.past++[⟨a,1,f,e⟩]) ah.o HD.o N6.o (N2.o.trans e1) (N3.o.trans e2) (N7.o.trans ah.o.dt) E4.o (N1.o.trans ag.o.symm) E1.o E2.o E3.o (by rw[ja,jD];exact au.o) a3;refine⟨rfl,{h with dl:=d,pv:=.slice (some ⟨g7,0,none⟩) (K.past.length+1) t,Fp:=F7,bl:=x.bl,ol:=x.ol,bc:=x.bc,oc:=x.oc,tv:=x.tv,Ft:=x.Ft,ts:=x.ts,live:=x.live,codes:=x.codes},HB.o,rfl,?_⟩;have ap:K.made ⟨a,1,f,e⟩ ⟨i,A⟩={K with words:=d.words,wlast:=d.last,P:=K.P++[⟨i,A⟩],past:=K.past++[⟨a,1,f,e⟩]}:=by
    unfold Kp.made;simp only[N4.o,hN,e4];rfl
   rw[ap];exact a6)
 .subst k;go_upto_region 2 with(fail)
  have E:=HS.o;have l:=Hi (λ(W:World) (dd:va) (hW:St W0 W (dd++((b,.cells c 82)::(C+1,.cells #[OI i,OT A] 86)::(C,.cells #[OI a,OI 2,OI f,OT e] 35)::(h.lv.frag++Z))))=>show OV W b 13 (OQ db)/\OV W C 0 (OI a)/\OV W (C+1) 0 (OI i)/\OV W (C+1) 1 (OT A)from⟨(hW.appR.cellH 13).trans ak.o,hW.appR.tail.tail.cellH 0,hW.appR.tail.cellH 0,hW.appR.tail.cellH 1⟩);have O:St W0 w1.drew (h.dl.frag++((b,.cells c 82)::(C+1,.cells #[OI i,OT A] 86)::(C,.cells #[OI a,OI 2,OI f,OT e] 35)::(h.lv.frag++Z))):=E.drew.pm CN;have a4:=Hi O;have J:=Hi (F.o (by simp) w1.drew _ O);rw[ag.o]at J;clear E O a1;go_region_held3 (λW=>W.cell? ⟨b,13,none⟩=some (.pointer (some ⟨db,0,none⟩))/\W.cell? ⟨C,0,none⟩=some (.int .i64 a)/\W.cell? ⟨C+1,0,none⟩=some (.int .i64 i)/\W.cell? ⟨C+1,1,none⟩=some (.string ⟨A.toArray⟩)) (first|with_reducible exact l.o _ _ n.o|with_reducible exact l.o _ _ a4.o|(go_keep;done)) (first|(go_at_call 158;refine J.o.mono ?_;rintro e' w5 ⟨rfl,d,n1,n2,n3,n4,n5,n6,n7,a0⟩;obtain⟨n,N1,N2,N3,N4⟩:=Hi5 a0 n1 n2 n3 n4;obtain⟨N5,N6,N7⟩:=Hi3 n5 n6 n7;clear n1 n2 n3 n4 n5 n6 n7 a0));have E:=n.o.pm (M':=(b,.cells c 82)::(h.lv.frag++((C+1,.cells #[OI i,OT A] 86)::(C,.cells #[OI a,OI 2,OI f,OT e] 35)::(d.frag++Z)))) CN;have p0:OV w5 (C+1) 0 (OI i):=(l.o _ _ n.o).2.2.1;have p1:OV w5 (C+1) 1 (OT A):=(l.o _ _ n.o).2.2.2;have a8:=Hi (G.o (by simp) w5 _ E);clear E a4 J l HS F T G j n;go_upto_region 6 with(go_at_call 159;refine a8.o.mono ?_;rintro e' w6 ⟨rfl,x,e1,e2,e3,e4,aa⟩;obtain⟨E1,E2,E3,E4,av⟩:=Hi5 e1 e2 e3 e4 aa;clear e1 e2 e3 e4 aa)
  clear p0 p1 a8;obtain⟨ad,s,R,_⟩:=af.o.form;have L:=af.o;rw[R]at L;have an:=Hi L;have r:St W0 w6 (h.Fp++((b,.cells c 82)::(C,.cells #[OI a,OI 2,OI f,OT e] 35)::(C+1,.cells #[OI i,OT A] 86)::(d.frag++(x.frag++(h.restF K++(Zb X bm om fl K.d++M)))))):=av.o.pm λy=>by rw[<-aL.o];simp only[xa,ya,OI,OT,OQ];omega
  have H:c[12]?=some (.slice ad K.past.length s):=al.o.trans (by rw[R]);have aG:OV w6.drew b 12 (.slice ad K.past.length s):=(r.drew.appR.cellH 12).trans H;have a5:∀ob,(w6.alloc ob).drew.cell? ⟨b,12,none⟩=some (.slice ad K.past.length s):=λob=>((r.alloc ob).tail.drew.appR.cellH 12).trans H
  have Q:=Hi (λ(W:World) (Fx:va) (hW:St W0 W (Fx++((b,.cells c 82)::(C,.cells #[OI a,OI 2,OI f,OT e] 35)::(C+1,.cells #[OI i,OT A] 86)::(d.frag++(x.frag++(h.restF K++(Zb X bm om fl K.d++M)))))))=>show(OV W C 0 (OI a)/\OV W C 1 (OI 2)/\OV W C 2 (OI f)/\OV W C 3 (OT e))/\(OV W b 12 (.slice ad K.past.length s)/\OZ W b 12)/\(∀v,(W.setCell ⟨b,12,none⟩ v).cell? ⟨C,0,none⟩=some (OI a)/\(W.setCell ⟨b,12,none⟩ v).cell? ⟨C,1,none⟩=some (OI 2)/\(W.setCell ⟨b,12,none⟩ v).cell? ⟨C,2,none⟩=some (OI f)/\(W.setCell ⟨b,12,none⟩ v).cell? ⟨C,3,none⟩=some (OT e))from
   ⟨⟨hW.appR.tail.cellH 0,hW.appR.tail.cellH 1,hW.appR.tail.cellH 2,hW.appR.tail.cellH 3⟩,⟨(hW.appR.cellH 12).trans H,hW.appR.freeH 12⟩,λv=>⟨(hW.appR.set 12 v).tail.cellH 0,(hW.appR.set 12 v).tail.cellH 1,(hW.appR.set 12 v).tail.cellH 2,(hW.appR.set 12 v).tail.cellH 3⟩⟩)
  have ac:=(Q.o w6.drew _ r.drew).1;obtain⟨a2,ab⟩:=Hi2 ac r;clear r ac L R H;refine wp_region_noPanic ?_;refine wp_region_held_drew (S:=(λW=>W.cell? ⟨C,0,none⟩=some (.int .i64 a)/\W.cell? ⟨C,1,none⟩=some (.int .i64 2)/\W.cell? ⟨C,2,none⟩=some (.int .i64 f)/\W.cell? ⟨C,3,none⟩=some (.string ⟨e.toArray⟩))) (by kernel_rfl) (by (try dsimp only)<;>(first|with_reducible exact q9.2.2 _|with_reducible exact q9.1|with_reducible exact a2.o|with_reducible exact(Q.o _ _ (ab.o.alloc _).tail.drew).1|(go_keep;done))) λhHq=>?_;refine' TK 0 rfl ?_ ?_;rotate_left;intro wq hwq;go_simp<;>rfl;(try simp only[Act.put,jf,ji,jj]);refine' TK 1 rfl ?_ ?_;rotate_left;intro wq hwq;go_simp<;>rfl;(try simp only[Act.put,jf,ji,jj]);refine' TK 2 rfl ?_ ?_;rotate_left;intro wq hwq;go_simp<;>rfl;(try simp only[Act.put,jf,ji,jj]);refine' TK 3 rfl ?_ ?_;rotate_left;intro wq hwq;go_simp<;>rfl;(try simp only[Act.put,jf,ji,jj]);refine' TK 5 rfl ?_ ?_;rotate_left;intro wq hwq;go_simp<;>rfl;(try simp only[Act.put,jf,ji,jj]);refine B2 4 6 (by kernel_rfl) rfl rfl (λKq hKq=>?_) (λKq hKq=>?_);go_simp;refine hKq.out _ _ (by assumption) λhHq=>?_;clear hKq Kq;(try simp only[Act.put,jf,ji,jj]);refine BR 6 (by kernel_rfl) rfl λKq hKq=>?_;go_simp;refine hKq.out _ _ (by (try dsimp only)<;>(first|with_reducible exact q9.2.2 _|with_reducible exact q9.1|with_reducible exact a2.o|with_reducible exact(Q.o _ _ (ab.o.alloc _).tail.drew).1|(go_keep;done))) λhHq=>?_;clear hKq Kq;(try simp only[Act.put,jf,ji,jj]);rotate_left;go_simp;refine hKq.out _ _ (by (try dsimp only)<;>(first|with_reducible exact q9.2.2 _|with_reducible exact q9.1|with_reducible exact a2.o|with_reducible exact(Q.o _ _ (ab.o.alloc _).tail.drew).1|(go_keep;done))) λhHq=>?_;clear hKq Kq;(try simp only[Act.put,jf,ji,jj]);refine BR 4 (by kernel_rfl) rfl λKq hKq=>?_;go_simp;refine hKq.out _ _ (by assumption) λhHq=>?_;clear hKq Kq;(try simp only[Act.put,jf,ji,jj]);rotate_left;(all_goals (refine BR 7 (by kernel_rfl) rfl λKq hKq=>?_;(refine Zn (W0:=W0) (by rfl) _ _ 76 (by rfl) 35 i0 z 4 ao underlying76 hi aP aK aM aO (by decide) (.slice ad K.past.length s) K.past.length (K.past.flatMap upV) h.Fp _ (by rfl) an.o 1 w6.heap.size [OI a,OI 2,OI f,OT e] ((ab.o.alloc _).drew) (by rfl) (by rfl) (by intro y hy;simp at hy;rcases hy with rfl|rfl|rfl|rfl<;>rfl) (by decide) am U ?_;intro g7 t w7 F7 ae I;have q9:=Q.o _ _ I;obtain⟨aH,aE⟩:=q9.2.1;obtain⟨au,aF⟩:=Hi2 ae I;clear ae I);refine hKq.out _ _ (by (try dsimp only)<;>(first|with_reducible exact q9.2.2 _|with_reducible exact q9.1|with_reducible exact a2.o|with_reducible exact(Q.o _ _ (ab.o.alloc _).tail.drew).1|(go_keep;done))) λhHq=>?_;clear hKq Kq;(try simp only[Act.put,jf,ji,jj]);refine' TK 8 rfl ?_ ?_;rotate_left;intro wq hwq;go_simp<;>rfl;(try simp only[Act.put,jf,ji,jj]);refine' TK 9 rfl ?_ ?_;rotate_left;intro wq hwq;go_simp<;>rfl;(try simp only[Act.put,jf,ji,jj]);refine BR 10 (by kernel_rfl) rfl λKq hKq=>?_;go_simp;refine hKq.out _ _ (by (try dsimp only)<;>(first|with_reducible exact q9.2.2 _|with_reducible exact q9.1|with_reducible exact a2.o|with_reducible exact(Q.o _ _ (ab.o.alloc _).tail.drew).1|(go_keep;done))) λhHq=>?_;clear hKq Kq;(try simp only[Act.put,jf,ji,jj]);refine wpAnyH_done (by kernel_rfl) ?_ _;refine NoPanic.normal ?_))
  all_goals(
   refine St.nameB ((aF.o.pm (M':=(b,.cells c 82)::(C,.cells #[OI a,OI 2,OI f,OT e] 35)::(C+1,.cells #[OI i,OT A] 86)::(F7++(d.frag++(x.frag++(h.restF K++(Zb X bm om fl K.d++M)))))) CN).set 12 (.slice (some ⟨g7,0,none⟩) (K.past.length+1) t)) ?_;clear q9 aH aE aG a5 a2;intro w8 Y;have aB:=Hi Y;clear Y;go_end0;have hN:=N5.o;obtain⟨e1,e2,e3,e4⟩:=aI.o;have a3:=aB.o.pmSub (M':=(b,.cells (c.setIfInBounds 12 (.slice (some ⟨g7,0,none⟩) (K.past.length+1) t)) 82)::(d.frag++(x.frag++(F7++(h.restF K++(Zb X bm om fl K.d++M)))))) (D:=[(C,.cells #[OI a,OI 2,OI f,OT e] 35),(C+1,.cells #[OI i,OT A] 86)]) CN;rw[<-HB.o,<-aN.o]at a3;have a6:=vc.shut (past:=K.past++[⟨a,2,f,e⟩]) ah.o HD.o N6.o (N2.o.trans e1) (N3.o.trans e2) (N7.o.trans ah.o.dt) E4.o (N1.o.trans ag.o.symm) E1.o E2.o E3.o (by rw[ja,jD];exact au.o) a3;refine⟨rfl,{h with dl:=d,pv:=.slice (some ⟨g7,0,none⟩) (K.past.length+1) t,Fp:=F7,bl:=x.bl,ol:=x.ol,bc:=x.bc,oc:=x.oc,tv:=x.tv,Ft:=x.Ft,ts:=x.ts,live:=x.live,codes:=x.codes},HB.o,rfl,?_⟩;have ap:K.made ⟨a,2,f,e⟩ ⟨i,A⟩={K with words:=d.words,wlast:=d.last,P:=K.P.filter (λx=>decide (x.id≠i)),past:=K.past++[⟨a,2,f,e⟩]}:=by
    unfold Kp.made;simp only[N4.o,hN,e4];rfl
   rw[ap];exact a6)
structure KOk (K:Kp):Prop where
 opt:Qb K.m.o=0
 s0:0<=K.m.seq
 s1:K.m.seq<=1152921504606846976
 prs:∀p∈K.P,0<=p.id/\p.id<=281474976710656/\(p.code.length:Int)=K.m.o.width/8
 plen:K.P.length<=1000000
 wlen:K.words.length<=65536
 wlast:K.wlast<=K.seq
 past:K.past.length<=999999
 fits:K.d.Fits
 jw:K.j.w=K.m.o.width
 jl:K.j.last=K.seq
 jn:K.j.name.length<=1000000
 jgone:K.j.gone=false
 jage:K.d.age=K.j.age
 off:K.d.off=false
 age:K.d.age=K.age
 gone:K.gone=false
 ids:(K.P.map (·.id)).Nodup
theorem qaX(i:KOk K){u:Up}(n:u.kind=1\/u.kind=2)(h:(K.goes u).2=0):
  0<=u.id/\u.id<=281474976710656/\(K.goes u).1.id=u.id/\((K.goes u).1.code.length:Int)=K.m.o.width/8/\(u.kind=1->(K.goes u).1.id∉K.P.map (·.id)/\(u.code.length:Int)=K.m.o.width/8)/\(u.kind=2->(K.goes u).1∈K.P)/\((Zd K.words ((K.goes u).1.id,(K.goes u).1.code)).isSome=true\/K.words.length<65536):=by
 obtain⟨l,r⟩:=yf i.opt;have a:∀p:Pr,(if(Zd K.words (p.id,p.code)).isNone/\65536<=K.words.length then((⟨0,[]⟩,152):Pr × Int)else(p,0)).2=0->(if(Zd K.words (p.id,p.code)).isNone/\65536<=K.words.length then((⟨0,[]⟩,152):Pr × Int)else(p,0)).1=p/\((Zd K.words (p.id,p.code)).isSome=true\/K.words.length<65536):=by
  intro p j;by_cases hc:(Zd K.words (p.id,p.code)).isNone/\65536<=K.words.length
  .rw[jh hc]at j;simp at j
  .rw[jd hc];refine⟨rfl,?_⟩;by_cases hl:K.words.length<65536
   .exact .inr hl
   .left;cases f:Zd K.words (p.id,p.code)with
    |some z=>rfl
    |none=>exact absurd ⟨by rw[f];rfl,by omega⟩ hc
 unfold Kp.goes at h|-
 by_cases hid':u.id<0\/281474976710656<u.id
 .rw[jh hid']at h;simp at h
 .rw[jd hid']at h|-
  simp only at h|-
  rcases n with k|k
  .rw[jd (by omega)]at h|-
   by_cases hc:Qh K.m.o.width u.code=0
   .rw[jd (by simpa using hc)]at h|-
    by_cases hl:(qd K.P u.id).isSome=true
    .rw[jh hl]at h;simp at h
    .rw[jd hl]at h|-
     by_cases hn:1048576<=K.P.length
     .rw[jh hn]at h;simp at h
     .rw[jd hn]at h|-
      obtain⟨d,e⟩:=a ⟨u.id,u.code⟩ h;simp only at d e;rw[d];have b:(u.code.length:Int)=K.m.o.width/8:=by
       unfold Qh at hc;rw[l]at hc;simp only[kU,Jb]at hc;by_cases q:(u.code.length:Int)=K.m.o.width/8
       .exact q
       .rw[jh q]at hc;simp at hc
      have g:u.id∉K.P.map (·.id):=by
       rw[<-Vu];cases hq:qd K.P u.id with
       |none=>rfl
       |some z=>rw[hq]at hl;simp at hl
      exact⟨by omega,by omega,rfl,b,λ_=>⟨g,b⟩,λq=>by omega,e⟩
   .rw[jh (by simpa using hc)]at h;exact absurd h (by simp)
  .rw[jh k]at h|-
   cases hq:qd K.P u.id with
   |none=>rw[hq]at h;simp at h
   |some c =>
    rw[hq]at h;simp only at h|-
    obtain⟨d,e⟩:=a ⟨u.id,c⟩ h;simp only at d e;rw[d];have f:=(vk i.ids).1 hq;have:=i.prs _ f;simp only at this;exact⟨by omega,by omega,rfl,this.2.2,λq=>by omega,λ_=>f,e⟩
def zQ(K:Kp)(u:Up):Kp × Int :=
 if(K.goes u).2≠0 then(K,(K.goes u).2)
 else if 1152921504606846976<=K.seq then(K,151)
 else
  let r:=K.j.append K.d {u with seq:=K.seq+1}
  if r.2.2≠0 then({K with j:=r.1,d:=r.2.1},r.2.2)
  else(({K with j:=r.1,d:=r.2.1}:Kp).made {u with seq:=K.seq+1} (K.goes u).1,0)
theorem zaN{j:Jn}{u:Up}(l:j.gone=false)(i:d.off=false)(m:d.age=j.age)(e:u.fit n)(h:0<n)(g:n<=128)(b:n%8=0)(f:Xc j.w=true)(c:j.w/8=(n:Int))(o:u.seq=j.last+1):
  j.append d u=({ (YD j d u).1 with gone:=decide ((YD j d u).2.2=45)},(YD j d u).2):=by
 unfold Jn.append YD;have a:j.shut d=false:=by unfold Jn.shut;rw[l,i];simp[m]
 rw[a];simp only[JD,Jb];rw[jd (by rw[yaq e h g b];simp),jd,jd (by simpa using o)]
 .by_cases hx:(d.append j.name (upB u)).2=0
  .rw[jd (by simpa using hx),jd (by simpa using hx)];rfl
  .rw[jh hx,jh hx]
 .rintro⟨k,p⟩;refine p ?_;rw[Qy f (by rw[e.c1 k,c])]
end Go.Proofs.YtekkihmmclencaaGreatDoor
