import Derived.Test.YtekkihmmclencaaGreatDoorM32
namespace Go.Proofs.YtekkihmmclencaaGreatDoor
set_option linter.all false
set_option maxRecDepth 100000
set_option maxHeartbeats 40000000
open Tryz
open Go Go.RowKit Go.Sort
variable(U w:World)(q c:Nat)(J:Kp)(h:KpH)(M:va){n k:Nat}{v:Value}{K L:Kp}{d:Dk}{o:Op3}{P:Program}
theorem Xad{b:Option Addr}{len cap:Nat}(h:qt (.slice b len cap))(f d k:Nat)(h2:d<=len):qt (sliced b f d cap k):=by
 intro n c e;cases b with
 |none =>
  obtain⟨g,i⟩:=h _ _ rfl;unfold sliced at e;simp at e;omega
 |some a =>
  unfold sliced at e;simp at e;split at e<;>simp at e
theorem qe.from_run'{α:Type}{b:α->List Value}{w:World}{l:List α}(g:∀x,(b x).length=k)(h:qe b k w v l)(c:qt v)(t:TypeId)(ht:P.underlying t=some (.slice (P.elem t)))(e:∀W,(sizeOf (P.elem t)).run P W=.ok k W)(d:Nat)(h1:d<=l.length):
  ∃v',(∀W,(Instr.slice t v (some (OI (d:Int))) none none).run P W=.ok v' W)/\qe b k w v' (l.drop d)/\qt v':=by
 have h0:=h;obtain⟨i,cap,rfl,m,j,n⟩:=h;have f:=h0.sub g d l.length h1 (jm _);rw[Ji (by rw[jQ];omega)]at f;refine⟨_,λW=>?_,f,Xad c _ _ _ (jm _)⟩;rw[run_slice_l (P:=P) (w:=W) (t:=t) (a:=i) (len:=l.length) (cap:=cap) (ht:=ht) (kl:=.i64) (l:=d) (h0:=by omega) (h1:=by omega),e];rfl
theorem qe.to_run{α:Type}{b:α->List Value}{w:World}{l:List α}(g:∀x,(b x).length=k)(h:qe b k w v l)(c:qt v)(t:TypeId)(ht:P.underlying t=some (.slice (P.elem t)))(e:∀W,(sizeOf (P.elem t)).run P W=.ok k W)(d:Nat)(h2:d<=l.length):
  ∃v',(∀W,(Instr.slice t v none (some (OI (d:Int))) none).run P W=.ok v' W)/\qe b k w v' (l.take d)/\qt v':=by
 have h0:=h;obtain⟨i,cap,rfl,m,j,n⟩:=h;have f:=h0.sub g 0 d (jX _) h2;rw[Ju,Nat.sub_zero]at f;refine⟨_,λW=>?_,f,Xad c _ _ _ h2⟩;rw[run_slice_h (P:=P) (w:=W) (t:=t) (a:=i) (len:=l.length) (cap:=cap) (ht:=ht) (kh:=.i64) (h:=d) (h0:=by omega) (h2:=by omega),e];rfl
theorem Xa0:prog.elem 62=141:=by kernel_rfl
theorem zal:(sizeOf (prog.elem 62)).run prog w=.ok 4 w:=by rw[Xa0];kernel_rfl
theorem Qau:prog.underlying 62=some (.slice (prog.elem 62)):=by rw[Xa0];exact underlying62
theorem Va0:prog.elem 53=106:=by kernel_rfl
theorem Qa0:(sizeOf (prog.elem 53)).run prog w=.ok 1 w:=by rw[Va0];kernel_rfl
theorem qbd:prog.underlying 53=some (.slice (prog.elem 53)):=by rw[Va0];exact underlying53
def swM(K:Kp)(n:Nat)(r:Option Qj):Mf:={K.m with runs:=r.toList.map (·.info)++K.m.runs.drop n}
def kSw(K:Kp)(n:Nat)(r:Option Qj)(d2:Dk):Kp:={K with d:=d2,m:=swM K n r,runs:=r.toList++K.runs.drop n}
structure YQ (K:Kp) (n:Nat) (r:Option Qj) (d1 d2:Dk):Prop where
 hok:KOk K
 n1:1<=n
 nl:n<=K.runs.length
 ri:K.m.runs.length=K.runs.length
 ml:K.m.runs.length<=1000000
 good:(swM K n r).good
 st:K.d.store (swM K n r)=(d1,0)
 f1:d1.Fits
 gp:Dk.gonePast K.m.o (K.m.runs.take n) d1=(d2,0)
 nums:∀i∈K.m.runs,1<=i.number/\i.number<=1099511627776
def vd.opt(o:Op3):Option vd->va
 |none=>[]
 |some x=>x.frag o
theorem Zbd{w W:World}{g z:Nat}{K:Kp}{h:KpH}{n p v:Nat}{l:Option Addr}{rsv:Value}{u t M:va}{f:Option Qj}{xs:List vd}{bs:List Nat}{x:Dk}(a:h.ok K)(k:xs.map (·.r)=f.toList)(s:∀y∈xs,y.ok K.m.o)(i:xs.map (·.b)++(h.rs.map (·.b)).drop n=bs)
  (q:Rw 141 4 (.slice l p v) (swM K n f).runs.length ((swM K n f).runs.flatMap riV) u) (c:Rw 106 1 rsv bs.length (bs.flatMap pbV) t)
  (A:Xa w g z x ((h.b,.cells #[za g,OI K.age,.bool K.gone,OI K.m.o.width,OI K.m.o.chunks,OI K.m.o.mode,OI K.m.seq,OI K.m.next,OI K.m.journal,.slice l p v,rsv,za h.bj,h.pv,za h.dl.b,OI K.synced,.map (some h.bl),.map (some h.bc),h.tv] 82)::(u++(t++(xs.flatMap (vd.frag K.m.o)++((h.bl,h.ol)::(h.bc,h.oc)::jnF h.bj g K.j::(h.rs.flatMap (vd.frag K.m.o)++(h.Fp++(h.dl.frag++(h.Ft++(h.ts.flatMap KtH.frag++M)))))))))) W):∃h',h'.b=h.b/\Za w g z (kSw K n f x) h' M W:=by
 refine⟨{h with rv:=.slice l p v,Fm:=u,rs:=xs++h.rs.drop n,rsv:=rsv,Fr:=t},rfl,⟨q,?_,?_,?_,a.prow,a.dok,a.dw,a.dt,a.lmap,a.lperm,a.cmap,a.cok,a.trow,a.tabs,a.tlen,a.tok⟩,?_⟩
 .rw[jr,k,KH,a.runs];rfl
 .intro r d;rcases jo.1 d with d|d
  .exact s r d
  .exact a.each r (List.mem_of_mem_drop d)
 .have e:(xs++h.rs.drop n).map (·.b)=bs:=by rw[jr,KH];exact i
  have B:bs.length=(xs++h.rs.drop n).length:=by rw[<-e,jz]
  rw[B,zO,<-e,j7]at c;exact c
 .refine Xa.pmSub A (X:=(h.rs.take n).flatMap (vd.frag K.m.o)) λy=>?_
  have e:h.rs.flatMap (vd.frag K.m.o)=(h.rs.take n).flatMap (vd.frag K.m.o)++(h.rs.drop n).flatMap (vd.frag K.m.o):=by rw[<-jD,Ja]
  rw[e];unfold KpH.frag kSw swM kpC;simp only[xa,ya,OI,OT,OQ,jD];omega
theorem Vbi(W0 w:World)(bd bm r l C:Nat)(K:Kp)(h:KpH)(n:Nat)(M:va)(d1 d2:Dk)(hs:YQ K n none d1 d2)(ht:vi W0)(hc:zg W0)
  (k:Za W0 bd bm K h ((C,.cells #[.pointer none] 106)::(r,.cells #[OI (n:Int)] 3)::(l,.cells #[za h.b] 29)::M) w) :
  Calls prog 134 #[za r,za l,za C] w (zd W0 bd bm h.b M (kSw K n none d2,0)):=by
 have a0:h.rs.length=K.runs.length:=by have:=jT List.length k.1.runs;simpa using this
 have bN:=hs.nl;have bR:=hs.n1;have aZ:=hs.ri;have bU:=hs.ml;have q0:=k.limbs.tail.tail.cellH 0;have q1:OV w l 0 (za h.b):=k.limbs.tail.tail.tail.cellH 0;have q2:=k.limbs.tail.cellH 0;obtain⟨a1,ac,g,bJ,_⟩:=k.1.rrow.form;have q3:OV w h.b 10 h.rsv:=k.limbs.cellH 10;rw[g,a0]at q3;obtain⟨bW,bQ⟩:(n:Int)<=(K.runs.length:Int)/\(1:Int)<=(n:Int):=by omega
 have bt:=Hi (show h.rsv=.slice a1 K.runs.length ac from by rw[g,a0]);obtain⟨HK,HS⟩:=Hi2 k hs;have f:=Hi (jy aZ a0);clear k hs g bJ aZ a0;unfold zd;unfold za at *;go_enter func134,ntmps134;go_upto_region 1 with fail
 go_quiet (fail);refine Za.nameE (K:=K) (h:=h) (M:=(C,.cells #[.pointer none] 106)::(r,.cells #[OI (n:Int)] 3)::(l,.cells #[za h.b] 29)::M) (W0:=W0) (bd:=bd) (bm:=bm) ⟨HK.o.1,HK.o.2.drewN nq⟩ ?_;clear q0 q1 q2 q3 HK;intro w2 k;have q0:=k.limbs.tail.tail.cellH 0;have q1:OV w2 l 0 (za h.b):=k.limbs.tail.tail.tail.cellH 0;have hcond:(decide ((n:Int)<0)||decide (K.runs.length<n))=false:=by
  rw[Bool.or_eq_false_iff];exact⟨J8 (by omega),J8 (by omega)⟩
 have bO:((n:Int)==0)=false:=by simp;omega
 have a9:=Hi (qaa W0 w2 bd bm K h (za h.bj) _ k.toJ (by omega));have bf:=Hi k;unfold yX mfV at a9;unfold za at q1 a9;clear k;go_upto_region 6 with(go_at_call 86;refine a9.o.mono ?_;rintro e' w3 ⟨v5,F5,rfl,aJ,aY⟩;obtain⟨s,t,rfl,_⟩:=aJ.form;have bu:=Hi aJ;have bi:=Hi (bf.o.call aY);clear aJ aY)
 obtain⟨b4,bv⟩:=EN w3.heap.size;have hA:=bi.o.alloc (.cells #[OI K.m.o.width,OI K.m.o.chunks,OI K.m.o.mode,OI K.m.seq,OI K.m.next,OI K.m.journal,.slice s K.m.runs.length t] 64);rw[<-bv]at hA|-
 refine hA.nameC ?_;clear hA bv bi bf a9 q0 q1 hcond bO;intro w4 k;have J:=k.drew;have u:Rw 141 4 (.slice s K.m.runs.length t) K.m.runs.length (K.m.runs.flatMap riV) F5:=bu.o;have c:qe riV 4 w4.drew (.slice s K.m.runs.length t) K.m.runs:=Rw.rowK (W0:=W0) (M:=(b4,.cells #[OI K.m.o.width,OI K.m.o.chunks,OI K.m.o.mode,OI K.m.seq,OI K.m.next,OI K.m.journal,.slice s K.m.runs.length t] 64)::((C,.cells #[.pointer none] 106)::(r,.cells #[OI (n:Int)] 3)::(l,.cells #[za h.b] 29)::M)) u (λx=>by simp[riV]) (J.limbs.tail.pm CN);obtain⟨v1,bS,R,G⟩:=c.to_run (P:=prog) Zo u.vnil 62 Qau zal n (by have:=f.o.1;omega);have aQ:Rw 106 1 h.rsv (h.rs.map (·.b)).length ((h.rs.map (·.b)).flatMap pbV) h.Fr:=by
  have h0:=k.1.rrow;rw[zO,j7,jz];exact h0
 have g:h.rsv=.slice a1 K.runs.length ac:=bt.o;have I:qe pbV 1 w4.drew h.rsv (h.rs.map (·.b)):=Rw.rowK (W0:=W0) (M:=(h.b,.cells (kpC bd K h) 82)::(h.bl,h.ol)::(h.bc,h.oc)::jnF h.bj bd K.j::(h.Fm++(h.rs.flatMap (vd.frag K.m.o)++(h.Fp++(h.dl.frag++(h.Ft++(h.ts.flatMap KtH.frag++((b4,.cells #[OI K.m.o.width,OI K.m.o.chunks,OI K.m.o.mode,OI K.m.seq,OI K.m.next,OI K.m.journal,.slice s K.m.runs.length t] 64)::(F5++((C,.cells #[.pointer none] 106)::(r,.cells #[OI (n:Int)] 3)::(l,.cells #[za h.b] 29)::M))))))))) ) aQ (λx=>by simp[pbV]) (J.2.rest.pm λy=>by unfold KpH.frag;simp only[xa,ya,OI,OT,OQ];omega);obtain⟨v2,bz,Q,L⟩:=I.from_run' (P:=prog) Vt aQ.vnil 53 qbd Qa0 n (by rw[jz,f.o.2];exact bN);rw[g]at bz;have ab:=Hi (λ(A:va) W (hW:Za W0 bd bm K h (A++((b4,.cells #[OI K.m.o.width,OI K.m.o.chunks,OI K.m.o.mode,OI K.m.seq,OI K.m.next,OI K.m.journal,.slice s K.m.runs.length t] 64)::(F5++((C,.cells #[.pointer none] 106)::(r,.cells #[OI (n:Int)] 3)::(l,.cells #[za h.b] 29)::M)))) W)=>show OV W b4 6 (.slice s K.m.runs.length t)/\OV W r 0 (OI (n:Int))/\OV W l 0 (OQ h.b)/\OV W h.b 10 (.slice a1 K.runs.length ac)from by
  have z:=hW.limbs.tail.appR;have z2:=z.tail.appR;have aU:OV W h.b 10 h.rsv:=hW.limbs.cellH 10;rw[g]at aU;exact⟨z.cellH 6,z2.tail.cellH 0,z2.tail.tail.cellH 0,aU⟩)
 have aX:=Hi (ab.o [] _ J);have a4:=Hi (qK w4.drew v1 (K.m.runs.take n) R G (by have:=f.o.1;rw[jN];omega));have aa:=Hi (λW (hb:Below w4.drew.heap.size w4.drew W)=>Q3 W v2 ((h.rs.map (·.b)).drop n) (Q.below hb (jm _)) L (by have:=f.o.1;rw[jQ,jz,f.o.2];omega));have bL:=Hi J;have a2:(K.m.runs.take n).length=n:=by have:=f.o.1;rw[jN];omega
 have bb:((h.rs.map (·.b)).drop n).length=K.runs.length-n:=by rw[jQ,jz,f.o.2]
 unfold Xe at a4 aa;rw[a2]at a4;rw[bb]at aa;clear k J u c R G aQ g I Q L a2 bb;go_region_held3 (λW=>W.cell? ⟨b4,6,none⟩=some (.slice s K.m.runs.length t)/\W.cell? ⟨r,0,none⟩=some (.int .i64 (n:Int))/\W.cell? ⟨l,0,none⟩=some (.pointer (some ⟨h.b,0,none⟩))/\W.cell? ⟨h.b,10,none⟩=some (.slice a1 K.runs.length ac)) (first|with_reducible exact ab.o _ _ aL.o|with_reducible exact ab.o _ _ aN.o|with_reducible exact aX.o|(go_keep;done)) (first
  |(go_at_call 135;refine a4.o.mono ?_;rintro e' w6 ⟨v6,F6,rfl,aE,aP⟩;obtain⟨a6,c6,rfl,_⟩:=aE.form;have bB:=Hi aE;have aN:=Hi (bL.o.call aP);have b0:=Hi aP.below;clear aE aP)
  |(go_at_call 50;refine(aa.o _ b0.o).mono ?_;rintro e' w7 ⟨v7,V,rfl,aR,bq⟩;obtain⟨a7,c7,rfl,_⟩:=aR.form;have b6:=Hi aR;have aL:=Hi (Za.as (aN.o.call bq));clear aR bq))
 have ap:=aL.o.pm (M':=(b4,.cells #[OI K.m.o.width,OI K.m.o.chunks,OI K.m.o.mode,OI K.m.seq,OI K.m.next,OI K.m.journal,.slice s K.m.runs.length t] 64)::(V++(F6++(F5++((C,.cells #[.pointer none] 106)::(r,.cells #[OI (n:Int)] 3)::(l,.cells #[OQ h.b] 29)::M))))) CN;have s7:=ap.limbs.tail;have y6:=s7.cellH 6;have yn:=s7.tail.appR.appR.appR.tail.cellH 0;have yr:=s7.tail.appR.appR.appR.cellH 0;have u:Rw 141 4 (.slice s K.m.runs.length t) K.m.runs.length (K.m.runs.flatMap riV) F5:=bu.o;have c:qe riV 4 w7 (.slice s K.m.runs.length t) K.m.runs:=Rw.rowK (W0:=W0) (M:=(b4,.cells #[OI K.m.o.width,OI K.m.o.chunks,OI K.m.o.mode,OI K.m.seq,OI K.m.next,OI K.m.journal,.slice s K.m.runs.length t] 64)::(V++(F6++((C,.cells #[.pointer none] 106)::(r,.cells #[OI (n:Int)] 3)::(l,.cells #[OQ h.b] 29)::M)))) u (λx=>by simp[riV]) (s7.pm CN);obtain⟨v8,bT,H,O⟩:=c.from_run' (P:=prog) Zo u.vnil 62 Qau zal n (by have:=f.o.1;omega);have ad:=Hi (qK w7 v8 (K.m.runs.drop n) H O (by rw[jQ];omega));obtain⟨S,E⟩:=NE (K.runs.length-n);have ao:(K.m.runs.drop n).length=S:=by rw[jQ,f.o.1,E]
 unfold Xe at ad;rw[ao]at ad;have bh:=Hi (jy E ao);have aW:=Hi (show Rw 106 1 (.slice a7 S c7) S (((h.rs.map (·.b)).drop n).flatMap pbV) V from by rw[<-E];exact b6.o);rw[E];have aj:=Hi ap;clear ap s7 u c H O E ao aL aN b6 b0 a4 aa aX ab;go_upto_region 7 with fail
 go_upto_region 8 with(go_at_call 135;refine ad.o.mono ?_;rintro e' w8 ⟨u8,F8,rfl,au,aT⟩;obtain⟨a8,c8,rfl,_⟩:=au.form;have bP:=Hi au;have D:=(aj.o.call aT).pm (M':=(b4,.cells #[OI K.m.o.width,OI K.m.o.chunks,OI K.m.o.mode,OI K.m.seq,OI K.m.next,OI K.m.journal,.slice s K.m.runs.length t] 64)::(F8++(V++(F6++(F5++((C,.cells #[.pointer none] 106)::(r,.cells #[OI (n:Int)] 3)::(l,.cells #[OQ h.b] 29)::M)))))) (λy=>(by simp only[xa,ya,OI,OT,OQ];omega));have z6:=D.limbs.tail.cellH 6;have g6:=D.limbs.tail.freeH 6;have b9:=D.set 6 (.slice a8 S c8);have ba:=Hi b9;clear au aT D b9)
 have aF:=ba.o;simp only[jf,ji,jj]at aF;refine aF.nameC ?_;clear ba aF aj ad y6 yn yr z6 g6;intro w9 k;have yr:=k.limbs.tail.tail.appR.appR.appR.appR.cellH 0;have ai:(swM K n none).runs=K.m.runs.drop n:=by simp[swM]
 have B:=Hi (show Rw 141 4 (.slice a8 S c8) (swM K n none).runs.length ((swM K n none).runs.flatMap riV) F8 from by rw[ai,bh.o.2];exact bP.o);have b1:=Hi (show Rw 106 1 (.slice a7 S c7) (([]:List Nat)++(h.rs.map (·.b)).drop n).length ((([]:List Nat)++(h.rs.map (·.b)).drop n).flatMap pbV) V from by
  have e:((h.rs.map (·.b)).drop n).length=S:=by rw[jQ,jz,f.o.2];exact bh.o.1
  rw[jK,e];exact aW.o)
 have be:=Hi k;clear k ai;go_upto_region 13 with fail
 obtain⟨Z,hZ⟩:∃Z:va,Z=F5++((C,.cells #[.pointer none] 106)::(r,.cells #[OI (n:Int)] 3)::(l,.cells #[OQ h.b] 29)::M):=⟨_,rfl⟩;have a3:=Hi (λ(W:World) (hW:St W0 W Z)=>show OV W l 0 (OQ h.b)from by rw[hZ]at hW;exact hW.appR.tail.tail.cellH 0);have bD:=Hi hZ;obtain⟨aM,aC⟩:=NE a8;obtain⟨cM,av⟩:=NE c8;obtain⟨nM,aG⟩:=NE S;obtain⟨FM,aK⟩:=NE F8;obtain⟨ro,N⟩:∃ro:Option Qj,(none:Option Qj)=ro:=⟨_,rfl⟩;obtain⟨bs,an⟩:∃bs:List Nat,([]:List Nat)++(h.rs.map (·.b)).drop n=bs:=⟨_,rfl⟩;have aO:=be.o;rw[aC,av,aG,aK]at B;rw[N]at B HS;rw[an]at b1;rw[aC,av,aG,aK,<-hZ]at aO;have aS:=Hi (jy an N);have q:=aO.drew;have U:=q.limbs.tail;obtain⟨m0,m1,m2,m3,m4,m5,m6⟩:=U.k7 0 1 2 3 4 5 6;simp at m0 m1 m2 m3 m4 m5 m6;have p0:=a3.o _ U.tail.appR.appR.appR;have k0:OV w9.drew h.b 0 (za bd):=q.limbs.cellH 0;unfold za at k0;have ax:=yab W0 w9.drew bd bm K.d _ (swM K n ro) (.slice aM nM cM) HS.o.good q.2 HS.o.hok.fits (Rw.rowK (W0:=W0) (F:=FM) (M:=(b4,.cells #[OI K.m.o.width,OI K.m.o.chunks,OI K.m.o.mode,OI K.m.seq,OI K.m.next,OI K.m.journal,.slice aM nM cM] 64)::(V++(F6++Z))) B.o (λx=>by simp[riV]) (U.pm CN)) hc;rw[HS.o.st]at ax;have T:=Hi ax;unfold mfV swM at T;simp only at T;unfold qh at T;have bK:=Hi q.1;clear aO q U ax be hZ aC av aG aK N an;go_still_tail 5,(by kernel_rfl);change wpList _ _ _ _ _ w9.drew;go_upto_region 16 with(go_at_call 28;refine MR T.o λbo ah=>?_)
 clear m0 m1 m2 m3 m4 m5 m6 p0 k0 T;have v:=ah.o.pm (M':=(h.b,.cells (kpC bd K h) 82)::(F6++((b4,.cells #[OI K.m.o.width,OI K.m.o.chunks,OI K.m.o.mode,OI K.m.seq,OI K.m.next,OI K.m.journal,.slice aM nM cM] 64)::(FM++(V++((h.bl,h.ol)::(h.bc,h.oc)::jnF h.bj bd K.j::(h.Fm++(h.Fr++(h.rs.flatMap (vd.frag K.m.o)++(h.Fp++(h.dl.frag++(h.Ft++(h.ts.flatMap KtH.frag++Z))))))))))))) λy=>by unfold KpH.frag;simp only[xa,ya,OI,OT,OQ];omega
 obtain⟨Y,hY⟩:∃Y:va,Y=(F6++((b4,.cells #[OI K.m.o.width,OI K.m.o.chunks,OI K.m.o.mode,OI K.m.seq,OI K.m.next,OI K.m.journal,.slice aM nM cM] 64)::(FM++(V++((h.bl,h.ol)::(h.bc,h.oc)::jnF h.bj bd K.j::(h.Fm++(h.Fr++(h.rs.flatMap (vd.frag K.m.o)++(h.Fp++(h.dl.frag++(h.Ft++(h.ts.flatMap KtH.frag++Z)))))))))))):=⟨_,rfl⟩;rw[<-hY]at v;have aA:=Qak W0 bo bd bm h.b (kpC bd K h) d1 Y K.m.o (.slice a6 n c6) (K.m.runs.take n) HS.o.hok.opt v HS.o.f1 ht rfl rfl rfl rfl (λD' W hW=>by
  have a2:(K.m.runs.take n).length=n:=by have:=f.o.1;rw[jN];omega
  have D:=hW.rest.tail;rw[hY]at D;refine Rw.rowK (W0:=W0) (F:=F6) (M:=((b4,.cells #[OI K.m.o.width,OI K.m.o.chunks,OI K.m.o.mode,OI K.m.seq,OI K.m.next,OI K.m.journal,.slice aM nM cM] 64)::(FM++(V++((h.bl,h.ol)::(h.bc,h.oc)::jnF h.bj bd K.j::(h.Fm++(h.Fr++(h.rs.flatMap (vd.frag K.m.o)++(h.Fp++(h.dl.frag++(h.Ft++(h.ts.flatMap KtH.frag++Z)))))))))))) (by rw[a2];exact bB.o) (λx=>by simp[riV]) D) (λi hi=>HS.o.nums i (UC hi))
 rw[HS.o.gp]at aA;have aD:=Hi aA;have pk:bo.cell? ⟨l,0,none⟩=some (OQ h.b):=by
  have D:=v.rest.tail;rw[hY]at D;exact a3.o _ D.appR.tail.appR.appR.tail.tail.tail.appR.appR.appR.appR.appR.appR.appR
 have ay:=Hi hY;unfold qh at aD;unfold za at aD;clear v ah aA hY;go_upto_region 19 with(go_at_call 138;refine MR aD.o λbI af=>?_)
 have hd:=af.o;unfold kpC at hd;have p:=hd.rest;have am:∀W,St W0 W ((h.b,.cells #[za bd,OI K.age,.bool K.gone,OI K.m.o.width,OI K.m.o.chunks,OI K.m.o.mode,OI K.m.seq,OI K.m.next,OI K.m.journal,.slice aM nM cM,h.rsv,za h.bj,h.pv,za h.dl.b,OI K.synced,.map (some h.bl),.map (some h.bc),h.tv] 82)::Y)->OV W l 0 (OQ h.b):=λW hW=>by
  have D:=hW.tail;rw[ay.o]at D;exact a3.o _ D.appR.tail.appR.appR.tail.tail.tail.appR.appR.appR.appR.appR.appR.appR
 have aH:=Xa.set hd 3 (OI K.m.o.width);simp only[jf,ji,jj]at aH;have aB:=Xa.set aH 4 (OI K.m.o.chunks);simp only[jf,ji,jj]at aB;have aq:=Xa.set aB 5 (OI K.m.o.mode);simp only[jf,ji,jj]at aq;have aI:=Xa.set aq 6 (OI K.m.seq);simp only[jf,ji,jj]at aI;have aw:=Xa.set aI 7 (OI K.m.next);simp only[jf,ji,jj]at aw;have ar:=Xa.set aw 8 (OI K.m.journal);simp only[jf,ji,jj]at ar;have ae:=Xa.set ar 9 (.slice aM nM cM);simp only[jf,ji,jj]at ae;have az:=Xa.set ae 10 (.slice a7 S c7);simp only[jf,ji,jj]at az;have hy:=p.tail;rw[ay.o]at hy;have pk:OV bI l 0 (OQ h.b):=a3.o _ hy.appR.tail.appR.appR.tail.tail.tail.appR.appR.appR.appR.appR.appR.appR;have bH:_=some (OQ h.b):=am _ ae.drew.rest;have mm:=hy.appR;obtain⟨m0,m1,m2,m3,m4,m5,m6⟩:=mm.k7 0 1 2 3 4 5 6;have b2:=p.cellH 3;have bx:=p.freeH 3;have b5:=p.cellH 4;have bA:=p.freeH 4;have b8:=p.cellH 5;have bC:=p.freeH 5;have b7:=p.cellH 6;have bG:=p.freeH 6;have bp:=p.cellH 7;have bF:=p.freeH 7;have b3:=p.cellH 8;have bM:=p.freeH 8;have aV:=p.cellH 9;have bE:=p.freeH 9;have ak:=p.cellH 10;have bw:=p.freeH 10;simp at m0 m1 m2 m3 m4 m5 m6 b2 b5 b8 b7 bp b3 aV ak;have HE:=Hi az;clear hd aH aB aq aI aw ar ae az p hy mm am af;have bV:prog.follows .mixedOrders=true:=by kernel_rfl
 go_upto_region 19 with fail
 go_region;have hE:=HE.o.drew;rw[ay.o,bD.o]at hE;have bg:=Hi (Zbd (xs:=[]) bK.o (by rw[<-aS.o.2];rfl) (by simp) (by rw[<-aS.o.1];rfl) B.o b1.o (hE.pmSub (X:=F6++((b4,.cells #[OI K.m.o.width,OI K.m.o.chunks,OI K.m.o.mode,OI K.m.seq,OI K.m.next,OI K.m.journal,.slice aM nM cM] 64)::(h.Fm++(h.Fr++(F5++((C,.cells #[.pointer none] 106)::(r,.cells #[OI (n:Int)] 3)::[(l,.cells #[OQ h.b] 29)])))))) (M':=(h.b,.cells _ 82)::(FM++(V++(([]:List vd).flatMap (vd.frag K.m.o)++((h.bl,h.ol)::(h.bc,h.oc)::jnF h.bj bd K.j::(h.rs.flatMap (vd.frag K.m.o)++(h.Fp++(h.dl.frag++(h.Ft++(h.ts.flatMap KtH.frag++M)))))))))) λy=>by simp only[xa,ya,OI,OT,OQ,Ya,Jk];omega));clear hE HE m0 m1 m2 m3 m4 m5 m6 b2 b5 b8 b7 bp b3 aV ak bx bA bC bG bF bM bE bw pk bH;have N:=aS.o.2;subst N;go_wp2_with fail;go_ret;exact⟨rfl,bg.o⟩
theorem Z7:∀(l:List Bs) (d:Dk),d.Fits->(d.dropAll l).Fits
 |[],_,h=>h
 |n::r,d,h=>Z7 r _ (Ys h n)
theorem zZ(h:d.Fits)(o:Op3)(i:RI)(l:List En):(d.writeRun o i l).1.Fits:=by
 unfold Dk.writeRun;split
 .exact h
 .have a:=Q4 o i l (List.range (Qd o)) d [] h;simp only;split
  .exact a
  .exact Z7 _ _ a
theorem yY(h:d.Fits)(m:Mf):(d.store m).1.Fits:=by
 unfold Dk.store;split
 .exact h
 .have b:(if d.look Xb=0 then d.delete Xb else(d,0)).1.Fits:=by
   split
   .exact Ys h _
   .exact h
  simp only;generalize (if d.look Xb=0 then d.delete Xb else(d,0))=x at b|-
  split
  .exact b
  .have c:=Qu b Xb;split
   .exact c
   .have a:=zv c Xb (mfB m);split
    .split
     .exact a
     .exact Ys a _
    .have e:=QE a Xb;split
     .exact e
     .exact VaD e _ _
theorem zaF(h:Inv K)(w:Xp K)(A:K.past≠[])(hr:K.runs.length<24):
  ∃H v k J,K.d.writeRun K.m.o (wrI K K.seq K.m.seq K.waiting) K.waiting=(H,0)/\H.create (Qa (K.m.next+1).toNat)=(v,0)/\v.store (wrM K K.seq K.m.seq K.waiting)=(k,0)/\k.delete (Qa K.m.journal.toNat)=(J,0) /\
   Yh K.d v/\Yh K.d k/\Yh K.d J/\(wrM K K.seq K.m.seq K.waiting).good/\ym K.m.o (wrI K K.seq K.m.seq K.waiting) K.waiting/\K.waiting≠[] /\
   (∃R,k.files.Perm (R++Vb K.m.o (wrI K K.seq K.m.seq K.waiting) K.waiting)):=by
 obtain⟨y,U,w3,w4,w5,w6⟩:=xai h w A;obtain⟨m0,s,f1,f2,f3,f4⟩:=h.disk;obtain⟨z1,X⟩:=h.size (s:=s) f3;have l:=w.held;have Z:=w.room;have a6:=w.seq;have a8:=w.next;unfold Kp.held at l;have Y:0<K.past.length:=JI.2 A;have t:0<K.waiting.length:=JI.2 U;have N:K.seq=K.m.seq+(K.past.length:Int):=rfl;have ab:=h.good.n0;have aa:=h.good.j0;have a7:=h.good.j1;obtain⟨W,M⟩:=EN K.waiting;rw[<-M]at y U w3 w4 w5 w6 t;obtain⟨a,I⟩:∃i:RI,i=⟨K.m.next,K.m.seq,K.seq,(W.length:Int)⟩:=⟨_,rfl⟩;rw[<-I]at y;have p:a.number=K.m.next:=by rw[I]
 have b:=vai h w hr (c:=(W.length:Int)) (by omega) (by omega) (by omega);rw[<-I]at b;obtain⟨B,D⟩:∃B:Mf,B={K.m with runs:=K.m.runs++[a],seq:=K.seq,journal:=K.m.next+1,next:=K.m.next+2}:=⟨_,rfl⟩;rw[<-D]at b;have a0:=zW h.good.o (400*((W.length:Int)+1)) (by omega);have P:=(Yj h.good.o).2;obtain⟨H,e1,G,p1⟩:=XC y (by omega) h.calm f4 (λj _=>by rw[p];exact xaK h (Jy _) j) (by omega) (by omega);have a5:=Zy y;have L:Qa (K.m.next+1).toNat∉(Vb K.m.o a W++K.filesAt m0 s).map (·.1):=by
  rw[jr,jo];rintro(u|u)
  .obtain⟨j,_,e⟩:=yw u;exact xah _ _ _ e
  .exact zbl h (by omega) u
 obtain⟨v,e2,x,V⟩:=XB G.calm p1 (QO (n:=(K.m.next+1).toNat) (by omega)) L (by rw[ja,zw];omega);have q:v.files.Perm ([Xi (mfB m0)].map (λf=>(Yc,f))++((Qa (K.m.next+1).toNat,⟨[],0⟩)::(Vb K.m.o a W++((Qa K.m.journal.toNat,⟨vf K.past,s⟩)::K.runs.flatMap λr=>Vb K.m.o r.info r.list)))):=by
  refine V.trans ?_;unfold Kp.filesAt;refine(Jm _ Jd).trans ?_;exact JC _ _ _
 have g:=x.calm.wf.nodup' q;have Q:Yc∉(((Qa (K.m.next+1).toNat,(⟨[],0⟩:zc))::(Vb K.m.o a W++((Qa K.m.journal.toNat,⟨vf K.past,s⟩)::K.runs.flatMap λr=>Vb K.m.o r.info r.list)))).map (·.1):=by
  simp only[ju,Jt,jO,jK]at g;exact(jY.1 g).1
 have T:Xb∉(((Qa (K.m.next+1).toNat,(⟨[],0⟩:zc))::(Vb K.m.o a W++((Qa K.m.journal.toNat,⟨vf K.past,s⟩)::K.runs.flatMap λr=>Vb K.m.o r.info r.list)))).map (·.1):=by
  rw[ju,jp,jr,jo];rintro(e|u|u)
  .exact vah _ e.symm
  .obtain⟨j,_,e⟩:=yw u;exact qah _ _ e.symm
  .exact Za4 (K:=K) (m0:=m0) (s:=s) (jb _ u)
 have E:Xf ([Xi (mfB m0)].map (λf=>(Yc,f))++((Qa (K.m.next+1).toNat,⟨[],0⟩)::(Vb K.m.o a W++((Qa K.m.journal.toNat,⟨vf K.past,s⟩)::K.runs.flatMap λr=>Vb K.m.o r.info r.list))))=Xf (Vb K.m.o a W)+Xf (K.filesAt m0 s):=by
  rw[<-yk q,yk V,Zc,vM];simp
 have a9:(K.runs.flatMap λr=>Vb K.m.o r.info r.list).length<=3072:=by
  unfold Kp.filesAt at X;simp only[jk]at X;omega
 obtain⟨k,e3,O,p3⟩:=qM b x.calm [Xi (mfB m0)] (by simp) q Q T (by
  simp only[jk,ja,zw];omega) (by rw[E,x.cap,G.cap];omega)
 have C:k.files.Perm ((Qa K.m.journal.toNat,⟨vf K.past,s⟩)::((Yc,Xi (mfB B))::(Qa (K.m.next+1).toNat,⟨[],0⟩)::(Vb K.m.o a W++K.runs.flatMap λr=>Vb K.m.o r.info r.list))):=by
  refine p3.trans ?_;refine(Jm _ (Jm _ Jd)).trans ?_;refine(Jm _ (JC _ _ _)).trans ?_;exact JC _ _ _
 obtain⟨J,e4,a4,p4⟩:=XS O.calm C;have F:=((G.trans x).trans O).trans a4;have z:wrI K K.seq K.m.seq K.waiting=a:=by rw[I,M];rfl
 have S:wrM K K.seq K.m.seq K.waiting=B:=by unfold wrM;rw[z,D]
 rw[z,S,<-M];refine⟨H,v,k,J,e1,e2,e3,e4,G.trans x,(G.trans x).trans O,F,b,y,U,((Qa K.m.journal.toNat,⟨vf K.past,s⟩)::(Yc,Xi (mfB B))::(Qa (K.m.next+1).toNat,⟨[],0⟩)::(K.runs.flatMap λr=>Vb K.m.o r.info r.list)),C.trans ?_⟩;exact Jm _ (Jm _ (Jm _ JO))
theorem Zao.of(N:World){K:Kp}(h:Inv K)(q:Xp K)(I:K.d.Fits)(f:K.past≠[])(J:K.runs.length<24):
  ∃u c e k,Zao N K u c e k/\k.Fits/\K.flush=(Q6 K c k,0):=by
 obtain⟨u,c,e,k,r,y,C,E,X,v,a4,Q,b,g,R,z⟩:=zaF h q f J;have s:=zZ I K.m.o (wrI K K.seq K.m.seq K.waiting) K.waiting;rw[r]at s;have A:=Qu s (Qa (K.m.next+1).toNat);rw[y]at A;have D:=yY A (wrM K K.seq K.m.seq K.waiting);rw[C]at D;have M:=Ys D (Qa K.m.journal.toNat);rw[E]at M;have O:=q.seq;have V:=q.next;have a:=h.good;have B:=a.j0;have P:=a.j1;have Z:=a.n0;have S:=a.s0;have t:K.seq=K.m.seq+(K.past.length:Int):=rfl;have H:K.m.runs.length=K.runs.length:=by rw[<-h.info,jz]
 obtain⟨M0,b1,b2,b3,b4⟩:=h.base;have U:=h.w;refine⟨u,c,e,k,⟨KOk.of h q I,?_,b4.1,by omega,J,b,g,by omega,by omega,by omega,by omega,r,s,y,A,Q,C,v.calm.wf,D,v.calm.on,?_,B,by omega,E⟩,M,?_⟩
 .intro p z;obtain⟨x,W,rfl⟩:=jg.1 z;have L:(⟨0,x.1.2,x.1.1,x.2.1,x.2.2⟩:En)∈K.waiting:=(Yr (Zu K.words)).mem_iff.2 (jg.2 ⟨x,W,rfl⟩);have T:=b.code _ L;have G:=b.id _ L;simp only at T G;obtain⟨k1,k2,k3,k4,k5⟩:=U;exact⟨G,by omega⟩
 .intro j Y;have l:(Ve K.m.next.toNat j,Xi (Zp K.m.o (wrI K K.seq K.m.seq K.waiting) K.waiting j))∈e.files:=z.mem_iff.2 (je _ (jg.2 ⟨j,Ud.2 Y,rfl⟩));exact⟨_,(vD v.calm.wf.nodup).2 l,rfl⟩
 .have i:c.age=K.d.age:=X.age;unfold Kp.flush;rw[qq h.isOpen,jd f];unfold Kp.flushed;have F:K.written K.seq K.m.seq K.waiting=⟨e,0,wrM K K.seq K.m.seq K.waiting,K.runs++[⟨wrI K K.seq K.m.seq K.waiting,K.waiting⟩],⟨K.d.age,false,Qa (K.m.next+1).toNat,K.m.o.width,K.seq,K.seq⟩⟩:=by
   unfold wrI at r;have n:=C;unfold wrM wrI at n;unfold Kp.written;simp only[jd g,r,JW,jW,Jb,y,n];rfl
  rw[jd (by omega),jd (by omega),F];simp only[JW,jW,Jb,E];unfold Q6;rw[i,show decide ((0:Int)=45)=K.gone from by rw[h.gone];rfl];rfl
theorem KOk.withD(h:KOk K)(a:Yh K.d d)(b:d.Fits):KOk {K with d:=d} :=
 {h with fits:=b,jage:=a.age.trans h.jage,off:=a.calm.on,age:=a.age.trans h.age}
theorem yZ(o:Op3):∀(l:List RI) (d:Dk),d.Fits->(Dk.gonePast o l d).1.Fits
 |[],_,h=>h
 |i::r,d,h=>by
  unfold Dk.gonePast;have a:=VT h o i.number;simp only;split
  .exact a
  .exact yZ o r _ a
theorem YQ.of{r:Option Qj}(b:KOk K)(w:1<=n)(p:n<=K.runs.length)(k:K.m.runs.length=K.runs.length)(s:K.m.runs.length<=1000000)(v:(swM K n r).good)(h:∀i∈K.m.runs,1<=i.number/\i.number<=1099511627776)(a:K.swap n r=(L,0)):
  ∃j g,YQ K n r j g/\L=kSw K n r g/\g.Fits:=by
 have u:K.shut=false:=by
  unfold Kp.shut;rw[b.gone,b.off,b.age];simp
 unfold Kp.swap at a;unfold Kp.gate at a;rw[u,jd (by decide)]at a;have q:¬ n=0:=by omega
 simp only[jd q]at a;obtain⟨⟨j,x⟩,e⟩:=NE (K.d.store (swM K n r));have l:=yY b.fits (swM K n r);rw[e]at l;have c:=e;unfold swM at c;simp only[c]at a;by_cases hx:x=0
 .subst hx;simp only[JW,jW,Jb]at a;obtain⟨⟨g,y⟩,f⟩:=NE (Dk.gonePast K.m.o (K.m.runs.take n) j);have t:=yZ K.m.o (K.m.runs.take n) j l;rw[f]at t;simp only[f]at a;by_cases hy:y=0
  .subst hy;simp only[JW,jW,Jb]at a;refine⟨j,g,⟨b,w,p,k,s,v,e,l,f,h⟩,?_,t⟩;have:=(UI a).1;rw[<-this];unfold kSw swM;rw[show decide ((0:Int)=45)=K.gone from by rw[b.gone];rfl]
  .rw[jh hy]at a;exact absurd (UI a).2 hy
 .rw[jh hx]at a;exact absurd (UI a).2 hx
theorem Y7(h:K.d.Fits)(u:Up):(K.update u).1.d.Fits:=by
 unfold Kp.update Kp.gate;split
 .exact h
 .show(if(K.goes u).2≠0 then(K,(K.goes u).2)else _).1.d.Fits;split
  .exact h
  .split
   .exact h
   .have a:(K.j.append K.d {u with seq:=K.seq+1}).2.1.Fits:=by
     unfold Jn.append;split
     .exact h
     .split
      .exact h
      .split
       .exact h
       .split
        .exact h
        .split
         .exact zv h _ _
         .exact zv h _ _
    simp only;split
    .exact a
    .exact a
theorem QaO(h:K.d.Fits):(K.sync).1.d.Fits:=by
 unfold Kp.sync Kp.gate;split
 .exact h
 .have a:(K.j.sync K.d).2.1.Fits:=by
   unfold Jn.sync;split
   .exact h
   .split
    .exact QE h _
    .exact QE h _
  simp only;split
  .exact a
  .exact a
theorem X7{d b e:Dk}(h:d.Fits)(f:d.create (Qa 1)=(b,0))(g:b.store ⟨o,0,2,1,[]⟩=(e,0)):b.Fits/\e.Fits:=by
 have a:=Qu h (Qa 1);rw[f]at a;have c:=yY a ⟨o,0,2,1,[]⟩;rw[g]at c;exact⟨a,c⟩
theorem za1(h:Inv K)(M:Xp K)(hn:1<=n)(af:n<=K.runs.length)(hl:K.liveFirst n≠[]):
  ∃q dw R,K.number=(q,0)/\Inv q/\q={K with m:={K.m with next:=K.m.next+1}}/\K.d.writeRun K.m.o (K.firstInfo n K.m.next) (K.liveFirst n)=(dw,0)/\Yh K.d dw/\dw.files.Perm (Vb K.m.o (K.firstInfo n K.m.next) (K.liveFirst n)++R)/\ym K.m.o (K.firstInfo n K.m.next) (K.liveFirst n) /\
   (swM q n (some ⟨K.firstInfo n K.m.next,K.liveFirst n⟩)).good/\(∀i,K.m.runs[0]?=some i->(K.firstInfo n K.m.next).lo=i.lo)/\(∀i,K.m.runs[n-1]?=some i->(K.firstInfo n K.m.next).hi=i.hi):=by
 obtain⟨k1,k2,k3,k4,k5⟩:=YM h n;obtain⟨V,s,f1,f2,f3,f4⟩:=h.disk;obtain⟨z1,z2⟩:=h.size (s:=s) f3;have E:=M.held;have a2:=M.room;have ac:=M.next;have aa:=M.seq;unfold Kp.held at E;have a9:K.all.length=((K.runs.take n).flatMap (·.list)).length+((K.runs.drop n).flatMap (·.list)).length:=by rw[qs K n,ja]
 have S:=xaq h n;have g:=h.seqs;rw[qs K n,jr,Jr]at g;obtain⟨q1,q2,q3⟩:=g;have c:∀e∈K.liveFirst n,e∈(K.runs.take n).flatMap (·.list):=λe x=>k3 e (Jf.1 x).1
 have U:(K.liveFirst n).length<=((K.runs.take n).flatMap (·.list)).length:=jI (Um _ _) k5;have ag:((K.liveFirst n).map En.pair).Nodup:=(vn k1 k2).sublist ((Ua (l:=Vg K.m.o (K.runs.take n) [])).map _);obtain⟨q,e1,i1,i2,i3,i4,i5,i6⟩:=ZM h M;have P:K.runs.take n≠[]:=by
  intro e0;have:=jT List.length e0;rw[jN,jA]at this;omega
 have F:qf K.m [K.m.journal] 0 (K.m.runs.take n)=true:=by
  have I:=h.good.runs;rw[<-Ja n K.m.runs]at I;exact(yq.1 I).1
 have b:K.m.runs.take n=(K.runs.take n).map (·.info):=by rw[Kh,h.info]
 obtain⟨v,xs,B⟩:=List.exists_cons_of_ne_nil (show K.m.runs.take n≠[] by rw[b];simpa using P);obtain⟨z,H⟩:∃z,(K.m.runs.take n).getLast?=some z:=by
  cases D:(K.m.runs.take n).getLast? with
  |none=>rw[kN]at D;rw[D]at B;cases B
  |some z=>exact⟨z,rfl⟩
 have p:K.m.runs.head?=some v:=by
  have:(K.m.runs.take n).head?=some v:=by rw[B];rfl
  rw[List.head?_take]at this;rw[jd (by omega)]at this;exact this
 have w:=qT (by rw[<-B];exact F);have u:=ZY F;have f:=yl F;have a8:=f v (by rw[B];exact jc);have ab:=f z (U2 H);have a4:v.hi<=z.hi:=u v (by rw[B];exact jc) z H;obtain⟨a,G⟩:=EN (K.firstInfo n K.m.next);have k:a=⟨K.m.next,v.lo,z.hi,((K.liveFirst n).length:Int)⟩:=by
  rw[G];unfold Kp.firstInfo;rw[p,H];rfl
 have ad:=h.good.n0;have Q:=h.good.n1;have ae:=h.good.s1;have C:ym K.m.o a (K.liveFirst n):=by
  rw[k];refine⟨h.good.o,by show 0<=v.lo;omega,by show v.lo<z.hi;omega,by show z.hi<=_;omega,by show 1<=K.m.next;omega,Q,rfl,by omega,k1.sublist Ua,λe x=>k2 e (Jf.1 x).1,λe x=>?_,λe x=>?_,λe x=>?_⟩
  .exact(h.allMem e (by rw[qs K n];exact jx _ (c e x))).1
  .have:=h.allMem e (by rw[qs K n];exact jx _ (c e x));exact⟨this.2.1,this.2.2.1⟩
  .obtain⟨r,O,Y⟩:=JB.1 (c e x);have g1:=(h.ok r (UC O)).seq e Y;have g2:r.info∈K.m.runs.take n:=by rw[b];exact jg.2 ⟨r,O,rfl⟩
   have g3:=w r.info (by rw[<-B];exact g2);have g4:=u r.info g2 z H;show v.lo<e.seq/\e.seq<=z.hi;omega
 have t:a.number=K.m.next:=by rw[k]
 have a5:=zW h.good.o (400*(((K.liveFirst n).length:Int)+1)) (by omega);have X:=(Yj h.good.o).2;obtain⟨d1,e2,a1,p1⟩:=XC C (by omega) h.calm f4 (λj _=>by rw[t];exact xaK h (Jy _) j) (by omega) (by omega);have a3:=Zy C;have J:q.filesAt V s=K.filesAt V s:=by
  unfold Kp.filesAt;rw[i2,i3,i4]
 have W:q.all=K.all:=by unfold Kp.all;rw[i3]
 have D:({q.m with runs:=(some (⟨a,K.liveFirst n⟩:Qj)).toList.map (·.info)++q.m.runs.drop n}:Mf).good:=by
  rw[i2];obtain⟨o,s0,s1,n0,n1,j0,j1,a6,y⟩:=h.good;refine⟨o,s0,s1,by show 2<=K.m.next+1;omega,by show K.m.next+1<=_;omega,j0,by show K.m.journal<=K.m.next+1-1;omega,?_,?_⟩
  .show((some (⟨a,K.liveFirst n⟩:Qj)).toList.map (·.info)++K.m.runs.drop n).length<=24;rw[ja,jQ];simp only[UK,ju,Jt,j8];omega
  .show qf _ [K.m.journal] 0 (a::K.m.runs.drop n)=true;rw[<-Ja n K.m.runs]at y;have I:=(yq.1 y).2;rw[H]at I;unfold qf;rw[jd]
   .refine zy (m:=K.m) ?_ ?_ I ?_ (λr O A=>?_)
    .show K.m.next<=K.m.next+1;omega
    .exact Jy _
    .show a.hi<=z.hi;rw[k];exact Jy _
    rcases jo.1 A with A|A
    .exact jx _ A
    .exfalso;rw[jC]at A;have:=(yl I r O).2.1;rw[A,t]at this;omega
   .unfold RI.bad;simp only[Kc];rw[k];simp only;have ah:0<(K.liveFirst n).length:=JI.2 hl;refine⟨λA=>?_,by omega,by omega,by omega,by omega,by omega,by omega,by omega⟩;rw[jC]at A;omega
 have T:q={K with m:={K.m with next:=K.m.next+1}}:=by
  have Z:K.number=({K with m:={K.m with next:=K.m.next+1},gone:=false},0):=by
   unfold Kp.number;rw[qq h.isOpen,jd (by omega)];rfl
  have:=(UI (e1.symm.trans Z)).1;rw[this];have D:=h.gone;obtain⟨d0,a0,g0,a7,r0,j0,p0,s0,w0,l0,P0⟩:=K;simp only at D;subst D;rfl
 refine⟨q,d1,K.filesAt V s,e1,i1,T,by rw[<-G];exact e2,a1,by rw[<-G];exact p1,by rw[<-G];exact C,by rw[<-G];exact D,λi N=>?_,λi N=>?_⟩
 .rw[<-G,k];rw[<-List.head?_eq_getElem?,p]at N;cases N;rfl
 .rw[<-G,k];have:(K.m.runs.take n).getLast?=K.m.runs[n-1]?:=by
   have L:(K.m.runs.take n).length=n:=by rw[b,jz,jN];omega
   rw[List.getLast?_eq_getElem?,L,JT (by omega)]
  rw[<-this,H]at N;cases N;rfl
structure zaP (K K':Kp) (n:Nat):Prop where
 hok:KOk K
 n1:1<=n
 nl:n<=K.runs.length
 ri:K.m.runs.length=K.runs.length
 rl:K.runs.length<=24
 inf:K.runs.map (·.info)=K.m.runs
 opt:Qb K.m.o=0
 next:1<=K.m.next/\K.m.next+1<=1099511627776
 all:K.all.length<=100000
 ords:∀i,i<=n->(Vg K.m.o (K.runs.take i) []).length<=100000
 one:K.liveFirst n=[]->∃d1 d2,YQ K n none d1 d2/\K'=kSw K n none d2
 two:K.liveFirst n≠[]->∃dw d1 d2,K.number=({K with m:={K.m with next:=K.m.next+1}},0)/\K.d.writeRun K.m.o (K.firstInfo n K.m.next) (K.liveFirst n)=(dw,0)/\dw.Fits/\dw.Wf/\dw.off=false/\ym K.m.o (K.firstInfo n K.m.next) (K.liveFirst n) /\
  (∀j,j<Qd K.m.o->∃f,dw.get (Ve (K.firstInfo n K.m.next).number.toNat j)=some f/\f.data=Zp K.m.o (K.firstInfo n K.m.next) (K.liveFirst n) j) /\
  YQ {K with m:={K.m with next:=K.m.next+1},d:=dw} n (some ⟨K.firstInfo n K.m.next,K.liveFirst n⟩) d1 d2/\K'=kSw {K with m:={K.m with next:=K.m.next+1},d:=dw} n (some ⟨K.firstInfo n K.m.next,K.liveFirst n⟩) d2 /\
  (∀i,K.m.runs[0]?=some i->(K.firstInfo n K.m.next).lo=i.lo)/\(∀i,K.m.runs[n-1]?=some i->(K.firstInfo n K.m.next).hi=i.hi)
theorem zaP.of(h:Inv K)(c:Xp K)(hx:K.m.next<=900000)(H:K.d.Fits)(v:1<=n)(b:n<=K.runs.length)(g:K.merge n=(L,0)):zaP K L n/\L.d.Fits:=by
 have s:=KOk.of h c H;have e:K.m.runs.length=K.runs.length:=by rw[<-h.info,jz]
 have V:=h.runsLen;have U:=c.next;have Y:=h.good.n0;have p:=c.held;unfold Kp.held at p;have l:∀i∈K.m.runs,1<=i.number/\i.number<=1099511627776:=λi J=>by
  rw[<-h.info]at J;obtain⟨r,O,rfl⟩:=jg.1 J;exact⟨(h.ok r O).n0,(h.ok r O).n1⟩
 have f:∀i,i<=n->(Vg K.m.o (K.runs.take i) []).length<=100000:=λi J=>by
  have Z:=(YM h i).2.2.2.2;have Q:=jT List.length (qs K i);rw[ja]at Q;omega
 by_cases hl:K.liveFirst n=[]
 .have q:K.swap n none=(L,0):=by unfold Kp.merge at g;rw[jh hl]at g;exact g
  obtain⟨E,B,z,t,M⟩:=YQ.of s v b e (by omega) (show(swM K n none).good from vaq h n) l q;exact⟨⟨s,v,b,e,by omega,h.info,h.good.o,⟨by omega,by omega⟩,by omega,f,λ_=>⟨E,B,z,t⟩,λk=>absurd hl k⟩,by rw[t];exact M⟩
 .obtain⟨u,y,R,P,W,a,G,A,T,C,S,N,F⟩:=za1 h c v b hl;have D:=zZ H K.m.o (K.firstInfo n K.m.next) (K.liveFirst n);rw[G]at D;have q:({u with d:=y}:Kp).swap n (some ⟨K.firstInfo n K.m.next,K.liveFirst n⟩)=(L,0):=by
   unfold Kp.merge at g;rw[jd hl,P]at g;simp only[JW,jW,Jb]at g;rw[show u.d=K.d by rw[a],G]at g;simpa using g
  have x:KOk ({u with d:=y}:Kp):=by
   have I:Xp u:=by rw[a];exact⟨c.room,c.held,c.seq,by have:=c.next;show K.m.next+1<=_;omega,c.live⟩
   have:KOk u:=KOk.of W I (by rw[a];exact H);exact this.withD (by rw[a];exact A) D
  obtain⟨E,B,z,t,M⟩:=YQ.of x v (by rw[a];exact b) (by rw[a];exact e) (by rw[a];show K.m.runs.length<=_;omega) S (by rw[a];exact l) q;rw[a]at z t;refine⟨⟨s,v,b,e,by omega,h.info,h.good.o,⟨by omega,by omega⟩,by omega,f,λk=>absurd k hl,λ_=>⟨y,E,B,by rw[P,a],G,D,A.calm.wf,A.calm.on,C,λj X=>?_,z,t,N,F⟩⟩,by rw[t];exact M⟩;have w:(Ve (K.firstInfo n K.m.next).number.toNat j,Xi (Zp K.m.o (K.firstInfo n K.m.next) (K.liveFirst n) j))∈y.files:=T.mem_iff.2 (jx _ (jg.2 ⟨j,Ud.2 X,rfl⟩));exact⟨_,(vD A.calm.wf.nodup).2 w,rfl⟩
def QT(W0:World)(bd bm b:Nat)(M:va)(Hp:KpH->Prop)(r:Kp × Int)(e:Ending)(w':World):Prop:=e=.returned (.int .i64 r.2)/\∃h,h.b=b/\Hp h/\Za W0 bd bm r.1 h M w'
def yag(W0:World)(bd bm:Nat)(h:KpH)(M:va)(n:Int)(r:Kp × Int)(e:Ending)(w':World):Prop:=e=.returned (.tuple #[.int .i64 (if r.2=0 then n else 0),.int .i64 r.2])/\Za W0 bd bm r.1 h M w'
theorem Vba(K G:Kp)(h:KpH)(x:Int)(M:va)(R:KpH->Prop)(O:va)(g:Nat)(P:Array Value)(L:Enters prog g)(s:Za U q c K h M w)(J:K.gone=false)(H:K.d.off=false)(N:K.d.age=K.age)
  (m:∀W,Za U q c K h M W->Calls prog g P W (QT U q c h.b O R (G,x))) :
  Calls prog 47 #[za h.b,.func (.func g) #[] P] w (QT U q c h.b O R ({G with gone:=decide (x=45)},x)):=by
 have v:=s.2.rest;have C:OV w h.b 0 (za q):=v.cellH 0;have z:OV w h.b 1 (OI K.age):=v.cellH 1;have y:OV w h.b 2 (.bool K.gone):=v.cellH 2;rw[J]at y;have k:=Hi (λW (l:Below w.heap.size w W)=>(XG W q K.d.off (s.2.callB l).off).mono λe V h=>Ret.toB h);have j:=Hi (λW (l:Below w.heap.size w W)=>(vW W q K.d.age (s.2.callB l).age).mono λe V h=>Ret.toB h);rw[H]at k;rw[N]at j;have he:∀(args:Array Value) (w:World),(callFunc g args).run prog w=.ok (.enter g args) w:=L;obtain⟨f,Q⟩:=Hi2 m s;obtain⟨b,l⟩:=NE h.b;rw[l]at C z y f|-
 have X:=λd r=>jH C d r
 have Y:=λd r=>jH z d r
 have S:=λd r=>jH y d r
 clear v s m L J H N l;unfold QT at f;simp only at f;unfold za at *;go_enter func47,ntmps47;go_upto_region 1 with(fail)
 refine Jq (by kernel_rfl) (by kernel_rfl) ?_
 repeat(go_big_quiet_step ((first|(go_at_call 24;exact Jh (k.o _ (Jo _ _ _)))|(go_at_call 79;exact Jh (j.o _ (Jo _ _ _))))))
 refine Ub ?_;intro _ A;obtain⟨⟨F,i⟩,u⟩:=A;subst u;have t:=Hi (Q.o.callB (Jo w F i));have Z:=S F i;obtain⟨T,n⟩:=NE (grow (redrawn w F) i);rw[n]at t Z|-
 clear n X Y S C z y k j Q;go_wp2_with (go_at_fn g;refine(f.o _ t.o).mono ?_;rintro e I ⟨rfl,B,rfl,p,a⟩;have y0:=a.2.rest.cellH 2;have y1:=a.2.rest.freeH 2;have D:=Hi p;have E:=Hi (a.setGone (decide (x=45)));clear a p);go_ret;exact⟨rfl,B,rfl,D.o,E.o⟩
theorem Qba(t u g i:Nat)(K:Kp)(h:KpH)(M:va)(D:0<=K.m.next)
  (a:Za U t u K h ((i,.cells #[OI 0] 3)::(g,.cells #[za h.b] 29)::M) w) :
  Calls prog 90 #[za g,za i] w (QT U t u h.b ((i,.cells #[OI (if(Zx K).2=0 then K.m.next else 0)] 3)::M) (·=h) (Zx K)):=by
 have e:=Hi (a.set 0 (OI K.m.next));have z:=a.limbs.tail.tail.cellH 0;have p:OV w h.b 7 (OI K.m.next):=a.limbs.cellH 7;have C:=a.limbs.tail.cellH 0;have B:=a.limbs.tail.freeH 0;have x:=Hi a;obtain⟨n,l⟩:=NE K.m.next;have j:=Hi l;obtain⟨R,d⟩:=NE (Zx K);rw[d];unfold Zx at d;rw[l]at p e d D|-
 obtain⟨v,c⟩:=NE ((if R.2=0 then n else 0));rw[c];have A:=Hi c;clear a l c;unfold QT;unfold za at *;by_cases q:1099511627776<=n
 .rw[jh q]at d;have f:=Hi d;clear d;go_enter func90,ntmps90;go_wp2_with fail;go_ret;have c:=A.o;rw[<-f.o]at c|-
  simp at c;subst c;exact⟨rfl,h,rfl,rfl,x.o.pmSub (X:=[(g,.cells #[OQ h.b] 29)]) CN⟩
 .rw[jd q]at d;have f:=Hi d;clear d x;go_enter func90,ntmps90;go_upto_region 4 with fail
  refine e.o.nameC ?_;clear e z p C B;intro s a;have z:=a.limbs.tail.tail.cellH 0;have p:s.cell? ⟨h.b,7,none⟩=some (OI n):=by rw[<-j.o];exact a.limbs.cellH 7
  have E:=a.limbs.freeH 7;have k:=Hi (a.setNext (n+1));clear a;go_wp2_with fail;go_ret;have c:=A.o;rw[<-f.o]at c|-
  simp at c;subst c;refine⟨rfl,h,rfl,rfl,?_⟩;have r:=j.o;have:=k.o;subst r;exact this.pmSub (X:=[(g,.cells #[OQ h.b] 29)]) λy=>by simp only[jf,ji,ya,OI,OT,OQ,Ya];omega
theorem yaP(a:KOk J)(A:0<=J.m.next)(n:Za U q c J h M w):
  Calls prog 36 #[za h.b] w (yag U q c h M J.m.next J.number):=by
 have u:∀(fn:Fn) (first cap:Array Value) (w:World),(Instr.makeFunc fn first cap).run prog w=.ok (.func fn first cap) w:=λ_ _ _ _=>rfl
 rw[vas a];have d:=(n.alloc (.cells #[za h.b] 29)).alloc (.cells #[OI 0] 3);rw[jF]at d;obtain⟨b2,f⟩:=EN w.heap.size;rw[<-f]at d;have e:=Hi (λW (hW:Za U q c J h ((b2+1,.cells #[OI 0] 3)::(b2,.cells #[za h.b] 29)::M) W)=>Vba U W q c J (Zx J).1 h (Zx J).2 _ (·=h) ((b2+1,.cells #[OI (if(Zx J).2=0 then J.m.next else 0)] 3)::M) 90 #[za b2,za (b2+1)] (λ_ _=>rfl) hW a.gone a.off a.age λx z=>Qba U x q c b2 (b2+1) J h M A z);obtain⟨⟨F,C⟩,s⟩:=NE (Zx J);rw[s]at e|-
 simp only at e|-
 obtain⟨v,r⟩:=NE ((if C=0 then J.m.next else 0));unfold yag;simp only;rw[r]at e|-
 obtain⟨p,l⟩:=Hi2 d f;clear d f n a s r;unfold QT at e;simp only at e;unfold za at *;go_enter func36,ntmps36;go_upto_region 2 with(fail)
 rw[<-l.o];refine p.o.nameC ?_;clear p l;intro k d;have H:=d.limbs.tail.tail.cellH 0;have j:=Hi (e.o k d);clear d e;go_wp2_with (go_at_call 47;refine j.o.mono ?_;rintro G D ⟨rfl,E,B,t,g⟩;subst t;have I:=g.limbs.tail.cellH 0;have i:=Hi g;clear g B);go_ret2;exact⟨rfl,i.o.pmSub (X:=[(b2+1,.cells #[OI v] 3)]) CN⟩
theorem yaI(o:Op3)(x:vd)(M:va)(d:St U w (x.frag o++M)):Calls prog 87 #[za x.b] w (Vd (.agg (riV x.r.info).toArray) w):=by
 unfold vd.frag at d;obtain⟨y,⟨⟨f,m,g,n⟩,e⟩,z,v,F,j⟩:=x;obtain⟨A,u,B⟩:=o;unfold xf riV at d;simp only[jO,jK]at d;have a:=d.alloc (.cells #[OI 0,OI 0,OI 0,OI 0] 141);obtain⟨p,t,q,s⟩:=a.tail.k4 3 4 5 6;simp at p t q s;clear d a;unfold riV za;go_enter func87,ntmps87;go_wp2_with fail;have c:=(St.refl w).alloc (.cells #[OI f,OI m,OI g,OI n] 141);refine c.nameB ?_;clear c;intro C c;obtain⟨l,i,h,k⟩:=c.k4 0 1 2 3;simp at l i h k;refine jP (v:=.agg #[OI f,OI m,OI g,OI n]) ?_ rfl ⟨rfl,c.below⟩;simp[results,results87,go_sem,l,i,h,k]
end Go.Proofs.YtekkihmmclencaaGreatDoor
