import Derived.Test.YtekkihmmclencaaGreatDoorM28
namespace Go.Proofs.YtekkihmmclencaaGreatDoor
set_option linter.all false
set_option maxRecDepth 100000
set_option maxHeartbeats 40000000
open Tryz
open Go Go.RowKit Go.Sort
variable(U w:World)(q c:Nat)(J:Kp)(h:KpH){W V:World}{n b:Nat}{v:Value}{F G:va}{K:Kp}{d:Dk}{P:Program}{Q:Exit->Act->World->Prop}
structure Zao (W0:World) (K:Kp) (d1 d2 d3 d4:Dk):Prop where
 hok:KOk K
 hps:∀p∈K.words.map (·.1),(0<=p.1/\p.1<=281474976710656)/\(p.2.length:Int)=K.m.o.width/8
 hnd:(K.words.map (·.1)).Nodup
 mr:K.m.runs.length<=1000000
 rl:K.runs.length<24
 run:ym K.m.o (wrI K K.seq K.m.seq K.waiting) K.waiting
 wne:K.waiting≠[]
 n0:1<=K.m.next
 n1:K.m.next+2<=1099511627776
 s0:0<=K.seq
 s1:K.seq<=1152921504606846976
 hd1:K.d.writeRun K.m.o (wrI K K.seq K.m.seq K.waiting) K.waiting=(d1,0)
 hf1:d1.Fits
 hd2:d1.create (Qa (K.m.next+1).toNat)=(d2,0)
 hf2:d2.Fits
 hm2:(wrM K K.seq K.m.seq K.waiting).good
 hd3:d2.store (wrM K K.seq K.m.seq K.waiting)=(d3,0)
 hwf3:d3.Wf
 hf3:d3.Fits
 hon3:d3.off=false
 hfiles:∀j,j<Qd K.m.o->∃f,d3.get (Ve K.m.next.toNat j)=some f/\f.data=Zp K.m.o (wrI K K.seq K.m.seq K.waiting) K.waiting j
 j0:1<=K.m.journal
 j1:K.m.journal<=1099511627776
 hd4:d3.delete (Qa K.m.journal.toNat)=(d4,0)
def Q6(K:Kp)(d2 d4:Dk):Kp:={K with d:=d4,m:=wrM K K.seq K.m.seq K.waiting,runs:=K.runs++[⟨wrI K K.seq K.m.seq K.waiting,K.waiting⟩],j:=⟨d2.age,false,Qa (K.m.next+1).toNat,K.m.o.width,K.seq,K.seq⟩,past:=[],synced:=K.seq,words:=[]}
def ybr(W0:World)(bd bm:Nat)(K:Kp)(h:KpH)(d2 d3:Dk)(N:va)(s3 s4 s5 s6:Value)(wx:World):Prop :=
 ∃(b3:Nat) (a1:Option Addr) (c1:Nat) (a2:Option Addr) (c2:Nat) (F1 F2:va) (x:vd) (bj:Nat),s3=za b3/\s4=.slice a2 (h.rs.length+1) c2/\s5=za bj/\s6=.int .i64 0 /\
  Rw 141 4 (.slice a1 (K.m.runs.length+1) c1) (K.m.runs.length+1) ((wrM K K.seq K.m.seq K.waiting).runs.flatMap riV) F1/\Rw 106 1 (.slice a2 (h.rs.length+1) c2) (h.rs.length+1) ((h.rs.map (·.b)++[x.b]).flatMap pbV) F2 /\
  x.r=⟨wrI K K.seq K.m.seq K.waiting,K.waiting⟩/\x.ok K.m.o /\
  Xa W0 bd bm d3 ((b3,Obj.cells #[.int .i64 K.m.o.width,.int .i64 K.m.o.chunks,.int .i64 K.m.o.mode,.int .i64 K.seq,.int .i64 (K.m.next+2),.int .i64 (K.m.next+1),.slice a1 (K.m.runs.length+1) c1] 64 (0,0))::(F1++(F2++(x.frag K.m.o++(jnF bj bd ⟨d2.age,false,Qa (K.m.next+1).toNat,K.m.o.width,K.seq,K.seq⟩::(h.frag bd K++N)))))) wx
theorem zO(l:List Nat):l.flatMap pbV=l.map za:=by
 induction l with
 |nil=>rfl
 |cons a r ih=>rw[jB,ih];rfl
theorem Zbo{H W:World}{d I b3 bj:Nat}{K:Kp}{h:KpH}{N u q:va}{i E:Option Addr}{g t:Nat}{x:vd}{p l:Dk}{F:Obj}{v:List FH}{c:DlH}(a:h.ok K)(n:h.rs.length=K.runs.length)
  (G:Rw 141 4 (.slice i (K.m.runs.length+1) g) (K.m.runs.length+1) ((wrM K K.seq K.m.seq K.waiting).runs.flatMap riV) u) (k:Rw 106 1 (.slice E (h.rs.length+1) t) (h.rs.length+1) ((h.rs.map (·.b)++[x.b]).flatMap pbV) q)
  (s:x.r=⟨wrI K K.seq K.m.seq K.waiting,K.waiting⟩) (C:x.ok K.m.o) (z:xe F v l) (Q:c.b=h.dl.b) (P:c.w=h.dl.w) (R:c.m=h.dl.m) (T:c.last=h.dl.last) (L:c.words=[]) (A:c.ok) (B:c.ts.length=max 1 h.dl.m.toNat)
  (S:St H W (c.frag++(Zb d I F v l++((h.b,Obj.cells #[OQ d,OI K.age,.bool K.gone,OI K.m.o.width,OI K.m.o.chunks,OI K.m.o.mode,OI K.seq,OI (K.m.next+2),OI (K.m.next+1),.slice i (K.m.runs.length+1) g,.slice E (K.runs.length+1) t,OQ bj,.slice none 0 0,OQ h.dl.b,OI K.seq,.map (some h.bl),.map (some h.bc),h.tv] 82)::(b3,Obj.cells #[OI K.m.o.width,OI K.m.o.chunks,OI K.m.o.mode,OI K.seq,OI (K.m.next+2),OI (K.m.next+1),.slice i (K.m.runs.length+1) g] 64)::(u++(q++(x.frag K.m.o++(jnF bj d ⟨p.age,false,Qa (K.m.next+1).toNat,K.m.o.width,K.seq,K.seq⟩::((h.bl,h.ol)::(h.bc,h.oc)::jnF h.bj d K.j::(h.Fm++(h.Fr++(h.rs.flatMap (vd.frag K.m.o)++(h.Fp++(h.Ft++(h.ts.flatMap KtH.frag++N))))))))))))))):∃h',h'.b=h.b/\Za H d I (Q6 K p l) h' N W:=by
 obtain⟨M,J,O,U⟩:=a.dw;refine⟨{h with rv:=.slice i (K.m.runs.length+1) g,Fm:=u,rs:=h.rs++[x],rsv:=.slice E (K.runs.length+1) t,Fr:=q,bj:=bj,pv:=.slice none 0 0,Fp:=[],dl:=c},rfl,⟨?_,?_,?_,?_,?_,A,?_,?_,a.lmap,a.lperm,a.cmap,a.cok,a.trow,a.tabs,a.tlen,a.tok⟩,F,v,z,?_⟩
 .have e:(Q6 K p l).m.runs.length=K.m.runs.length+1:=by simp[Q6,wrM]
  rw[e];exact G
 .rw[jr,a.runs];show _++[x.r]=K.runs++[_];rw[s]
 .intro r f;rcases jo.1 f with f|f
  .exact a.each r f
  .rw[jC]at f;subst f;exact C
 .rw[zO,jr,j7]at k;rw[ja,jr,<-n];exact k
 .exact Rw.nil _ _
 .exact⟨P.trans M,R.trans J,T.trans O,L⟩
 .rw[B,J];rfl
 .refine S.pmSub (D:=(b3,Obj.cells #[OI K.m.o.width,OI K.m.o.chunks,OI K.m.o.mode,OI K.seq,OI (K.m.next+2),OI (K.m.next+1),.slice i (K.m.runs.length+1) g] 64)::jnF h.bj d K.j::(h.Fm++(h.Fr++h.Fp))) λy=>?_
  unfold KpH.frag Q6 kpC za wrM;simp only[xa,ya,OI,OT,OQ,Ya,jD,jB,Jk,jJ,Q];omega
theorem ya0(c w:World)(a i:Nat)(K:Kp)(h:KpH)(N:va)(d1 d2 d3 d4:Dk)(d:Zao c K d1 d2 d3 d4)(hK:Za c a i K h N w)(ht:vi c)(hc:zg c):
  Calls prog 49 #[za h.b] w (zd c a i h.b N (Q6 K d2 d4,0)):=by
 have aj:h.rs.length=K.runs.length:=by have:=jT List.length hK.1.runs;simpa using this
 have bQ:=d.rl;have bR:=d.n0;have bL:=d.n1;have bM:=d.j0;have bO:=d.j1;have bP:=d.s0;have bT:=d.s1;have bW:K.words.length<=1000000000:=by have:=d.hok.wlen;omega
 have av:=Hi (λ(M:va) W (hW:Za c a i K h M W)=>Y5 c W a i K h M hW d.hok.s0 d.hok.s1 (by have:=d.hok.past;omega));have an:=Hi (λ(X:va) W (hW:Za c a i K h (X++N) W)=>YaO c W a i K h (X++N) d.hok d.hps d.hnd hW);have al:=Hi (λ(X F:va) (L:List En) (v:Value) W (hW:Za c a i K h (F++(X++N)) W) (hR:Rw 137 5 v L.length (L.flatMap enV) F) (hi:∀x∈L,0<=x.id/\x.id<=281474976710656) (hk:((L.map En.zero).map En.key).Nodup) (hw:Qo (L.map En.zero)=K.waiting) (hl:L.length=K.words.length)=>za0 c W a i K h (X++N) F L v hW hR (by omega) hi hk hw);have aD:=Hi (λ(X F:va) (v:Value) W (hR:Rw 137 5 v K.waiting.length (K.waiting.flatMap enV) F) (hW:Za c a i K h (F++(X++N)) W)=>show Calls prog 105 #[za h.b,.agg #[.int .i64 K.seq,v,.int .i64 K.m.seq,.bool false]] W (λe w'=>∃(C:Option Addr) (B:Nat) (a2:Option Addr) (c2:Nat) (q s:va) (x:vd) (Y:Nat),e=.returned (.tuple #[.agg #[.int .i64 K.m.o.width,.int .i64 K.m.o.chunks,.int .i64 K.m.o.mode,.int .i64 K.seq,.int .i64 (K.m.next+2),.int .i64 (K.m.next+1),.slice C (K.m.runs.length+1) B],.slice a2 (h.rs.length+1) c2,za Y,.int .i64 0]) /\
   (Rw 141 4 (.slice C (K.m.runs.length+1) B) (K.m.runs.length+1) ((wrM K K.seq K.m.seq K.waiting).runs.flatMap riV) q/\Rw 106 1 (.slice a2 (h.rs.length+1) c2) (h.rs.length+1) ((h.rs.map (·.b)++[x.b]).flatMap pbV) s/\x.r=⟨wrI K K.seq K.m.seq K.waiting,K.waiting⟩/\x.ok K.m.o) /\
   Xa c a i d3 (q++(s++(x.frag K.m.o++(jnF Y a ⟨d2.age,false,Qa (K.m.next+1).toNat,K.m.o.width,K.seq,K.seq⟩::(h.frag a K++(X++N)))))) w')from by
  refine(ZaO c W a i K h K.seq K.m.seq K.waiting v F (X++N) d1 d2 d3 d.mr (by omega) hW hR d.wne d.run d.hok.fits d.hok.off d.n0 d.n1 d.s0 d.s1 d.hd1 d.hf1 d.hd2 d.hf2 d.hm2 d.hd3 d.hwf3 d.hon3 d.hfiles ht hc).mono ?_;rintro e w' ⟨rv,bX,q,s,x,Y,rfl,a0,ac,ax,ap,H⟩;have bA:(wrM K K.seq K.m.seq K.waiting).runs.length=K.m.runs.length+1:=by simp[wrM]
  rw[bA]at a0;obtain⟨C,B,rfl,_⟩:=a0.form;obtain⟨a2,c2,rfl,_⟩:=ac.form;exact⟨C,B,a2,c2,q,s,x,Y,rfl,⟨a0,ac,ax,ap⟩,H⟩)
 have ad:=Hi (λ(W:World) (o:Obj) (hW:Za c a i K h (([]:va)++N) W)=>show Za c a i K h ([(W.heap.size,o)]++N) (W.alloc o)from hW.alloc o);have aS:=Hi (λ(F:va) (W:World) (o:Obj) (hW:Za c a i K h (F++(([]:va)++N)) W)=>show Za c a i K h (F++([(W.heap.size,o)]++N)) (W.alloc o)from(hW.alloc o).pm CN);have t:=Hi (λ(M:va) (W:World) (hW:Za c a i K h M W)=>show W.cell? ⟨h.b,13,none⟩=some (.pointer (some ⟨h.dl.b,0,none⟩))/\W.cell? ⟨h.b,6,none⟩=some (.int .i64 K.m.seq)from⟨hW.limbs.cellH 13,hW.limbs.cellH 6⟩);have bD:=Hi (λ(A M:va) (D:Dk) (W:World) (hW:Xa c a i D (A++(h.frag a K++M)) W)=>show W.cell? ⟨h.b,13,none⟩=some (.pointer (some ⟨h.dl.b,0,none⟩))/\W.cell? ⟨h.b,6,none⟩=some (.int .i64 K.m.seq)from by
  have S:=hW.rest.appR;unfold KpH.frag at S;exact⟨S.cellH 13,S.cellH 6⟩)
 obtain⟨a7,ak⟩:=Hi2 d hK;have b8:=hK.1.rrow;obtain⟨ar,cr,aW,bE,bt,_⟩:=b8.form;have bg:w.cell? ⟨h.b,10,none⟩=some h.rsv:=hK.limbs.cellH 10;have k7:w.cell? ⟨h.b,7,none⟩=some (.int .i64 K.m.next):=hK.limbs.cellH 7;rw[aW,aj]at bg;have bN:(K.runs.length:Int)<24:=by omega
 have au:=Hi (show Za c a i K h (([]:va)++N) w.drew from⟨hK.1,hK.2.drew⟩);clear d hK b8 aW bE bt;unfold Vas at an;unfold vaB at al;unfold Vd at av;unfold zd;unfold za at *;go_enter func49,ntmps49;go_upto_region 5 with fail
 go_cut [3,4,5,6]from 21 to 41 (λs3 s4 s5 s6 wx=>ybr c a i K h d2 d3 N s3 s4 s5 s6 wx)
 case first =>
  have bB:=Hi (show Za c a i K h (([]:va)++N) w from ak.o);have az:Za c a i K h ([(w.heap.size,Obj.cells #[Value.int .i64 0,.int .i64 0,.int .i64 0,.int .i64 0,.int .i64 0,.int .i64 0,.slice none 0 0] 64)]++N) (w.alloc (.cells #[.int .i64 0,.int .i64 0,.int .i64 0,.int .i64 0,.int .i64 0,.int .i64 0,.slice none 0 0] 64)).drew:=⟨ak.o.1,(ad.o _ (.cells #[.int .i64 0,.int .i64 0,.int .i64 0,.int .i64 0,.int .i64 0,.int .i64 0,.slice none 0 0] 64) bB.o).2.drew⟩;have ah:=Hi az;clear az;have b6:=Hi (λ(W:World) (q s Fx:va) (j:Nat × Obj) (b:Nat) (hW:Xa c a i d3 (q++(s++(Fx++(j::(h.frag a K++([(b,Obj.cells #[Value.int .i64 0,.int .i64 0,.int .i64 0,.int .i64 0,.int .i64 0,.int .i64 0,.slice none 0 0] 64)]++N)))))) W)=>show Xa c a i d3 ((b,Obj.cells #[Value.int .i64 0,.int .i64 0,.int .i64 0,.int .i64 0,.int .i64 0,.int .i64 0,.slice none 0 0] 64)::(q++(s++(Fx++(j::(h.frag a K++N)))))) W from hW.pm CN);have bH:=Hi (λ(W:World) (q s Fx:va) (j:Nat × Obj) (C:Option Addr) (B:Nat) (hW:Xa c a i d3 (q++(s++(Fx++(j::(h.frag a K++(([]:va)++N)))))) W)=>show Xa c a i d3 ((W.heap.size,Obj.cells #[.int .i64 K.m.o.width,.int .i64 K.m.o.chunks,.int .i64 K.m.o.mode,.int .i64 K.seq,.int .i64 (K.m.next+2),.int .i64 (K.m.next+1),.slice C (K.m.runs.length+1) B] 64)::(q++(s++(Fx++(j::(h.frag a K++N)))))) (W.alloc (.cells #[.int .i64 K.m.o.width,.int .i64 K.m.o.chunks,.int .i64 K.m.o.mode,.int .i64 K.seq,.int .i64 (K.m.next+2),.int .i64 (K.m.next+1),.slice C (K.m.runs.length+1) B] 64))from(hW.alloc _).pm CN);have aT:=Hi (λ(D:Dk) (b:Nat × Obj) (q s Fx M:va) (j:Nat × Obj) (W:World) (hW:Xa c a i D (b::(q++(s++(Fx++(j::(h.frag a K++M)))))) W)=>show W.cell? ⟨h.b,13,none⟩=some (.pointer (some ⟨h.dl.b,0,none⟩))/\W.cell? ⟨h.b,6,none⟩=some (.int .i64 K.m.seq)from by
   have S:=hW.rest.tail.appR.appR.appR.tail;unfold KpH.frag at S;exact⟨S.cellH 13,S.cellH 6⟩)
  have bb:=Hi (λ(D:Dk) (q s Fx M:va) (j:Nat × Obj) (W:World) (hW:Xa c a i D (q++(s++(Fx++(j::(h.frag a K++M))))) W)=>show W.cell? ⟨h.b,13,none⟩=some (.pointer (some ⟨h.dl.b,0,none⟩))/\W.cell? ⟨h.b,6,none⟩=some (.int .i64 K.m.seq)from by
   have S:=hW.rest.appR.appR.appR.tail;unfold KpH.frag at S;exact⟨S.cellH 13,S.cellH 6⟩)
  go_region_held3 (λW=>W.cell? ⟨h.b,13,none⟩=some (.pointer (some ⟨h.dl.b,0,none⟩))/\W.cell? ⟨h.b,6,none⟩=some (.int .i64 K.m.seq)) (first
   |with_reducible exact bp.o
   |with_reducible exact b0.o
   |with_reducible exact bC.o _
   |with_reducible exact t.o _ _ V.o|with_reducible exact t.o _ _ (V.o.alloc _)
   |with_reducible exact t.o _ _ U.o|with_reducible exact t.o _ _ (U.o.alloc _)
   |with_reducible exact t.o _ _ T.o|with_reducible exact t.o _ _ (T.o.alloc _)
   |with_reducible exact t.o _ _ au.o|with_reducible exact t.o _ _ ah.o
   |(go_keep;done)) (first
   |(go_at_call 14;(with_reducible refine(av.o _ _ au.o).mono ?_);rintro e' w2 ⟨rfl,aa⟩;have T:=Hi (au.o.callB aa);clear aa)
   |(go_at_call 14;(with_reducible refine(av.o _ _ ah.o).mono ?_);rintro e' w2 ⟨rfl,aa⟩;have T:=Hi (ah.o.callB aa);clear aa;obtain⟨b3,p⟩:=EN w.heap.size;rw[<-p]at T|-;clear p)
   |(go_at_call 107;(with_reducible refine(an.o _ _ T.o).mono ?_);rintro e' w3 ⟨L,v3,F3,rfl,I,ae,af,ai,ag,a9⟩;obtain⟨a3,c3,rfl,_⟩:=I.form;obtain⟨aP,U⟩:=Hi2 I ae;have u:=Hi (jy af (jy ai (jy ag a9)));clear I ae af ai ag a9)
   |(go_at_call 107;(with_reducible refine(an.o _ _ (ad.o _ (.cells #[.int .i64 0,.int .i64 0,.int .i64 0,.int .i64 0,.int .i64 0,.int .i64 0,.slice none 0 0] 64) T.o)).mono ?_);rintro e' w3 ⟨L,v3,F3,rfl,I,ae,af,ai,ag,a9⟩;obtain⟨a3,c3,rfl,_⟩:=I.form;obtain⟨aP,U⟩:=Hi2 I ae;have u:=Hi (jy af (jy ai (jy ag a9)));clear I ae af ai ag a9;obtain⟨b3,p⟩:=EN w2.heap.size;rw[<-p]at U|-;clear p)
   |(go_at_call 106;(with_reducible refine(al.o _ _ _ _ _ U.o aP.o u.o.2.1 u.o.2.2.1 u.o.1 u.o.2.2.2).mono ?_);rintro e' w4 ⟨v4,F4,rfl,O,a6⟩;obtain⟨a4,c4,rfl,_⟩:=O.form;obtain⟨aJ,V⟩:=Hi2 O a6;clear O a6)
   |(go_at_call 106;(with_reducible refine(al.o _ _ _ _ _ (aS.o _ _ (.cells #[.int .i64 0,.int .i64 0,.int .i64 0,.int .i64 0,.int .i64 0,.int .i64 0,.slice none 0 0] 64) U.o) aP.o u.o.2.1 u.o.2.2.1 u.o.1 u.o.2.2.2).mono ?_);rintro e' w4 ⟨v4,F4,rfl,O,a6⟩;obtain⟨a4,c4,rfl,_⟩:=O.form;obtain⟨aJ,V⟩:=Hi2 O a6;clear O a6;obtain⟨b3,p⟩:=EN w3.heap.size;rw[<-p]at V|-;clear p)
   |(go_at_call 105;(with_reducible refine(aD.o _ _ _ _ aJ.o V.o).mono ?_);rintro e' l ⟨C,B,a2,c2,q,s,x,Y,rfl,a5,H⟩;obtain⟨z,E⟩:=Hi2 a5 H;clear a5 H;have b0:=Hi (bb.o _ _ _ _ _ _ _ E.o);(first|(have J:=b6.o _ _ _ _ _ _ E.o;have f:=J.rest;have y0:l.cell? ⟨b3,0,none⟩=some (.int .i64 0):=f.cellH 0;have y1:l.cell? ⟨b3,1,none⟩=some (.int .i64 0):=f.cellH 1;have y2:l.cell? ⟨b3,2,none⟩=some (.int .i64 0):=f.cellH 2;have y3:l.cell? ⟨b3,3,none⟩=some (.int .i64 0):=f.cellH 3;have y4:l.cell? ⟨b3,4,none⟩=some (.int .i64 0):=f.cellH 4;have y5:l.cell? ⟨b3,5,none⟩=some (.int .i64 0):=f.cellH 5;have y6:l.cell? ⟨b3,6,none⟩=some (.slice none 0 0):=f.cellH 6;have v0:l.frozen? ⟨b3,0,none⟩=false:=f.freeH 0;have v1:l.frozen? ⟨b3,1,none⟩=false:=f.freeH 1;have v2:l.frozen? ⟨b3,2,none⟩=false:=f.freeH 2;have v3:l.frozen? ⟨b3,3,none⟩=false:=f.freeH 3;have v4:l.frozen? ⟨b3,4,none⟩=false:=f.freeH 4;have v5:l.frozen? ⟨b3,5,none⟩=false:=f.freeH 5;have v6:l.frozen? ⟨b3,6,none⟩=false:=f.freeH 6;have aw:=Hi (Xa.set7 J (.int .i64 K.m.o.width) (.int .i64 K.m.o.chunks) (.int .i64 K.m.o.mode) (.int .i64 K.seq) (.int .i64 (K.m.next+2)) (.int .i64 (K.m.next+1)) (.slice C (K.m.runs.length+1) B));have bp:=Hi (aT.o _ _ _ _ _ _ _ _ aw.o);clear f J)|(have bF:=Hi (bH.o _ _ _ _ _ C B E.o);have bC:=Hi (λob=>aT.o _ _ _ _ _ _ _ _ (E.o.alloc ob)))))
   |(go_at_call 105;(with_reducible refine(aD.o _ _ _ _ aJ.o (aS.o _ _ (.cells #[.int .i64 0,.int .i64 0,.int .i64 0,.int .i64 0,.int .i64 0,.int .i64 0,.slice none 0 0] 64) V.o)).mono ?_);rintro e' l ⟨C,B,a2,c2,q,s,x,Y,rfl,a5,H⟩;obtain⟨z,E⟩:=Hi2 a5 H;clear a5 H;obtain⟨b3,p⟩:=EN w4.heap.size;rw[<-p]at E|-;clear p;have b0:=Hi (bb.o _ _ _ _ _ _ _ E.o);have J:=b6.o _ _ _ _ _ _ E.o;have f:=J.rest;have y0:l.cell? ⟨b3,0,none⟩=some (.int .i64 0):=f.cellH 0;have y1:l.cell? ⟨b3,1,none⟩=some (.int .i64 0):=f.cellH 1;have y2:l.cell? ⟨b3,2,none⟩=some (.int .i64 0):=f.cellH 2;have y3:l.cell? ⟨b3,3,none⟩=some (.int .i64 0):=f.cellH 3;have y4:l.cell? ⟨b3,4,none⟩=some (.int .i64 0):=f.cellH 4;have y5:l.cell? ⟨b3,5,none⟩=some (.int .i64 0):=f.cellH 5;have y6:l.cell? ⟨b3,6,none⟩=some (.slice none 0 0):=f.cellH 6;have v0:l.frozen? ⟨b3,0,none⟩=false:=f.freeH 0;have v1:l.frozen? ⟨b3,1,none⟩=false:=f.freeH 1;have v2:l.frozen? ⟨b3,2,none⟩=false:=f.freeH 2;have v3:l.frozen? ⟨b3,3,none⟩=false:=f.freeH 3;have v4:l.frozen? ⟨b3,4,none⟩=false:=f.freeH 4;have v5:l.frozen? ⟨b3,5,none⟩=false:=f.freeH 5;have v6:l.frozen? ⟨b3,6,none⟩=false:=f.freeH 6;have aw:=Hi (Xa.set7 J (.int .i64 K.m.o.width) (.int .i64 K.m.o.chunks) (.int .i64 K.m.o.mode) (.int .i64 K.seq) (.int .i64 (K.m.next+2)) (.int .i64 (K.m.next+1)) (.slice C (K.m.runs.length+1) B));have bp:=Hi (aT.o _ _ _ _ _ _ _ _ aw.o);clear f J))
  all_goals go_wp2_with fail
  all_goals go_meet
  all_goals first
   |exact⟨_,_,_,_,_,_,_,_,_,rfl,(by rw[aj]),rfl,rfl,z.o.1,z.o.2.1,z.o.2.2.1,z.o.2.2.2,aw.o⟩
   |exact⟨_,_,_,_,_,_,_,_,_,rfl,(by rw[aj]),rfl,rfl,z.o.1,z.o.2.1,z.o.2.2.1,z.o.2.2.2,bF.o⟩
 case rest =>
  obtain⟨b3,C,B,a2,c2,q,s,x,Y,rfl,rfl,rfl,rfl,a0,ac,ax,ap,H⟩:=hcut;obtain⟨bz,bx⟩:=Hi2 a0 ac;have HX:=Hi (jy ax ap);clear a0 ac ax ap av an al aD ad aS t bD au bg k7;have a8:=Hi (λ(M:va) W (hW:Xa c a i d3 M W)=>vI W K.m.journal (by omega) (by omega) (ht.below hW.below (jm _)));have aZ:jnM K.m.journal=Qa K.m.journal.toNat:=by
   have:=YI (n:=K.m.journal.toNat) (by omega) (by omega);rw[show((K.m.journal.toNat:Nat):Int)=K.m.journal by omega]at this;exact this
  rw[aZ]at a8;have ab:=Hi (λ(M:va) W (hW:Xa c a i d3 M W)=>ZI hW a7.o.hf3 (Qa K.m.journal.toNat) (by have:=YJ (n:=K.m.journal.toNat) (by omega);omega));rw[a7.o.hd4]at ab;obtain⟨nm,b5⟩:=NE (Qa K.m.journal.toNat);rw[b5]at a8 ab;obtain⟨Z,hZ⟩:=EN ((q++(s++(x.frag K.m.o++(jnF Y a ⟨d2.age,false,Qa (K.m.next+1).toNat,K.m.o.width,K.seq,K.seq⟩::(h.frag a K++N))))));rw[<-hZ]at H;have HZ:=Hi hZ;have aq:=Hi (λ(D:Dk) W (hW:Xa c a i D ((b3,Obj.cells #[.int .i64 K.m.o.width,.int .i64 K.m.o.chunks,.int .i64 K.m.o.mode,.int .i64 K.seq,.int .i64 (K.m.next+2),.int .i64 (K.m.next+1),.slice C (K.m.runs.length+1) B] 64)::Z) W)=>show W.cell? ⟨h.b,0,none⟩=some (.pointer (some ⟨a,0,none⟩))/\W.cell? ⟨h.b,8,none⟩=some (.int .i64 K.m.journal)from by
   have S:=hW.rest.tail;rw[HZ.o]at S;have h2:=S.appR.appR.appR.tail;unfold KpH.frag at h2;exact⟨h2.cellH 0,h2.cellH 8⟩)
  have b2:=Hi (aq.o _ _ H.drew);have aF:=Hi H.drew;unfold Vd at a8;unfold qh at ab;unfold za qa at *;clear H hZ b5 aZ;go_upto_region 8 with fail
  go_region_held3 (λW=>W.cell? ⟨h.b,0,none⟩=some (.pointer (some ⟨a,0,none⟩))/\W.cell? ⟨h.b,8,none⟩=some (.int .i64 K.m.journal)) (first|with_reducible exact aq.o _ _ aU.o|with_reducible exact aq.o _ _ aE.o|with_reducible exact b2.o|(go_keep;done)) (first
   |(go_at_call 30;refine(a8.o _ _ aF.o).mono ?_;rintro e' w8 ⟨rfl,am⟩;have aE:=Hi (aF.o.callB am);clear am)
   |(go_at_call 29;refine(ab.o _ _ aE.o).mono ?_;rintro e' w9 ⟨rfl,b7⟩;have aU:=Hi b7;clear b7))
  have G:=aU.o;rw[HZ.o]at G;have hd:=G.pm (M':=(h.b,.cells (kpC a K h) 82)::(b3,Obj.cells #[.int .i64 K.m.o.width,.int .i64 K.m.o.chunks,.int .i64 K.m.o.mode,.int .i64 K.seq,.int .i64 (K.m.next+2),.int .i64 (K.m.next+1),.slice C (K.m.runs.length+1) B] 64)::(q++(s++(x.frag K.m.o++(jnF Y a ⟨d2.age,false,Qa (K.m.next+1).toNat,K.m.o.width,K.seq,K.seq⟩::(((h.bl,h.ol)::(h.bc,h.oc)::jnF h.bj a K.j::(h.Fm++(h.Fr++(h.rs.flatMap (vd.frag K.m.o)++(h.Fp++(h.dl.frag++(h.Ft++h.ts.flatMap KtH.frag)))))))++N)))))) λy=>by unfold KpH.frag;simp only[xa,ya,OI,OT,OQ];omega
  clear G aU aE aF b2 aq a8 ab;obtain⟨Z2,aH⟩:=EN ((q++(s++(x.frag K.m.o++(jnF Y a ⟨d2.age,false,Qa (K.m.next+1).toNat,K.m.o.width,K.seq,K.seq⟩::(((h.bl,h.ol)::(h.bc,h.oc)::jnF h.bj a K.j::(h.Fm++(h.Fr++(h.rs.flatMap (vd.frag K.m.o)++(h.Fp++(h.dl.frag++(h.Ft++h.ts.flatMap KtH.frag)))))))++N))))));rw[<-aH]at hd;have bv:=Hi aH;clear aH;unfold kpC za at hd;refine Xa.nameE (P:=prog) hd ?_;clear hd;intro bV hd;have bi:=hd;have aQ:=Xa.set bi 3 (.int .i64 K.m.o.width);simp only[jf,ji,jj]at aQ;have aN:=Xa.set aQ 4 (.int .i64 K.m.o.chunks);simp only[jf,ji,jj]at aN;have aG:=Xa.set aN 5 (.int .i64 K.m.o.mode);simp only[jf,ji,jj]at aG;have aR:=Xa.set aG 6 (.int .i64 K.seq);simp only[jf,ji,jj]at aR;have aK:=Xa.set aR 7 (.int .i64 (K.m.next+2));simp only[jf,ji,jj]at aK;have aI:=Xa.set aK 8 (.int .i64 (K.m.next+1));simp only[jf,ji,jj]at aI;have ay:=Xa.set aI 9 (.slice C (K.m.runs.length+1) B);simp only[jf,ji,jj]at ay;have ao:=Xa.set ay 10 (.slice a2 (K.runs.length+1) c2);simp only[jf,ji,jj]at ao;have G:=Xa.set ao 11 (.pointer (some ⟨Y,0,none⟩));simp only[jf,ji,jj]at G;have Q:=Xa.set G 12 (.slice none 0 0);simp only[jf,ji,jj]at Q;have R:=Xa.set Q 14 (.int .i64 K.seq);simp only[jf,ji,jj]at R;have k:=hd.rest;have c3:=k.cellH 3;have f3:=k.freeH 3;have c4:=k.cellH 4;have f4:=k.freeH 4;have c5:=k.cellH 5;have f5:=k.freeH 5;have c6:=k.cellH 6;have f6:=k.freeH 6;have c7:=k.cellH 7;have f7:=k.freeH 7;have c8:=k.cellH 8;have f8:=k.freeH 8;have c9:=k.cellH 9;have f9:=k.freeH 9;have b1:=k.cellH 10;have bI:=k.freeH 10;have bn:=k.cellH 11;have bs:=k.freeH 11;have be:=k.cellH 12;have br:=k.freeH 12;have aX:=k.cellH 14;have bG:=k.freeH 14;have m0:=k.tail.cellH 0;have m1:=k.tail.cellH 1;have m2:=k.tail.cellH 2;have m3:=k.tail.cellH 3;have m4:=k.tail.cellH 4;have m5:=k.tail.cellH 5;have m6:=k.tail.cellH 6;simp at c3 c4 c5 c6 c7 c8 c9 b1 bn be aX m0 m1 m2 m3 m4 m5 m6;have bJ:_=some (Value.int .i64 K.seq):=ay.drew.rest.tail.cellH 3;have am:_=some (Value.int .i64 K.seq):=ao.drew.rest.tail.cellH 3;have bw:_=some (Value.int .i64 K.seq):=G.drew.rest.tail.cellH 3;have bk:_=some (Value.int .i64 K.seq):=Q.drew.rest.tail.cellH 3;have aY:_=some (Value.int .i64 K.seq):=R.drew.rest.tail.cellH 3;have HE:=Hi R;clear k bi aQ aN aG aR aK aI ay ao G Q R hd;go_upto_region 11 with fail
  have bS:prog.follows .mixedOrders=true:=by kernel_rfl
  go_region;refine Xa.nameE (P:=prog) HE.o.drew ?_;clear HE c3 c4 c5 c6 c7 c8 c9 b1 bn be aX f3 f4 f5 f6 f7 f8 f9 bI bs br bG m0 m1 m2 m3 m4 m5 m6 bJ am bw bk aY;intro aO H;have bU:aO.cell? ⟨h.b,13,none⟩=some (.pointer (some ⟨h.dl.b,0,none⟩)):=H.rest.cellH 13;obtain⟨om,fl,b4,aV⟩:=H;rw[bv.o]at aV;have bh:St c aO (h.dl.frag++(Zb a i om fl d4++((h.b,Obj.cells #[.pointer (some ⟨a,0,none⟩),.int .i64 K.age,.bool K.gone,.int .i64 K.m.o.width,.int .i64 K.m.o.chunks,.int .i64 K.m.o.mode,.int .i64 K.seq,.int .i64 (K.m.next+2),.int .i64 (K.m.next+1),.slice C (K.m.runs.length+1) B,.slice a2 (K.runs.length+1) c2,.pointer (some ⟨Y,0,none⟩),.slice none 0 0,.pointer (some ⟨h.dl.b,0,none⟩),.int .i64 K.seq,.map (some h.bl),.map (some h.bc),h.tv] 82)::(b3,Obj.cells #[.int .i64 K.m.o.width,.int .i64 K.m.o.chunks,.int .i64 K.m.o.mode,.int .i64 K.seq,.int .i64 (K.m.next+2),.int .i64 (K.m.next+1),.slice C (K.m.runs.length+1) B] 64)::(q++(s++(x.frag K.m.o++(jnF Y a ⟨d2.age,false,Qa (K.m.next+1).toNat,K.m.o.width,K.seq,K.seq⟩::((h.bl,h.ol)::(h.bc,h.oc)::jnF h.bj a K.j::(h.Fm++(h.Fr++(h.rs.flatMap (vd.frag K.m.o)++(h.Fp++(h.Ft++(h.ts.flatMap KtH.frag++N)))))))))))))):=aV.pm CN;have aM:=ak.o.1.dw;have aL:=yf a7.o.hok.opt;have b9:0<=h.dl.m:=by
   rw[aM.2.1];rcases aL.2 with g|g
   .omega
   .have:=(zo a7.o.hok.opt g.1).2.1;omega
  have bo:h.dl.m<=128:=by
   rw[aM.2.1];rcases aL.2 with g|g
   .omega
   .exact(zo a7.o.hok.opt g.1).2.2
  have bq:=Hi (Xa7 c aO h.dl _ bh b9 bo);have bK:=Hi b4;unfold vak za at bq;clear aV bh aM aL b9 bo b4;go_wp2_with (go_at_call 108;refine bq.o.mono ?_;rintro e' bY ⟨rfl,d',e1,e2,e3,e4,e5,aC,aA,aB⟩;have bu:=Hi (jy e1 (jy e2 (jy e3 (jy e4 e5))));have bf:=Hi (jy aC aA);have ba:=Hi aB;clear e1 e2 e3 e4 e5 aC aA aB);go_ret;obtain⟨e1,e2,e3,e4,e5⟩:=bu.o;exact⟨rfl,Zbo ak.o.1 aj bz.o bx.o HX.o.1 HX.o.2 bK.o e1 e2 e3 e4 e5 bf.o.1 bf.o.2 ba.o⟩
def yF(W0:World)(bd bm:Nat)(D:Dk)(M:va)(l:List Up)(good:Int)(e:Ending)(w':World):Prop :=
 ∃v F,e=.returned (.tuple #[v,.int .i64 good,.int .i64 0])/\Rw 35 4 v l.length (l.flatMap upV) F/\Xa W0 bd bm D (F++M) w'
def z7(W0:World)(bd bm:Nat)(D:Dk)(M:va)(j:Jn)(l:List Up)(e:Ending)(w':World):Prop :=
 ∃bj v F,e=.returned (.tuple #[za bj,v,.int .i64 0])/\Rw 35 4 v l.length (l.flatMap upV) F/\Xa W0 bd bm D (jnF bj bd j::(F++M)) w'
theorem qbi(D:Dk)(M:va)(n:Nat)(s x:Int)(l:List Up)(good:Int)(H:1<=n)(E:n<=1099511627776)(X:0<=s)(Z:s<=1152921504606846976)(J:l.length<=1000000)(P:Xa U q c D M w)(j:D.size (Qa n)=(good,0))(z:vi U)
  (i:Calls prog 94 #[za q,OI (n:Int),OI s,OI x] w (yF U q c D M l good)) :
  Calls prog 41 #[za q,OI (n:Int),OI s,OI x] w (z7 U q c D M ⟨D.age,false,Qa n,x,s+l.length,s⟩ l):=by
 have y:=Hi (λ(N:va) W (h:Xa U q c D N W)=>vI W (n:Int) (by omega) (by omega) (z.below h.below (jm _)));rw[YI H E]at y;have d:=Hi (λ(N:va) W (h:Xa U q c D N W)=>XN h (Qa n) (by have:=YJ E;omega));rw[j]at d;have b:=Hi (λ(N:va) W (h:Xa U q c D N W)=>Vaz W q n s x (s+(l.length:Int)) D.age H E (z.below h.below (jm _)) h.age);unfold z7;obtain⟨G,r⟩:=NE (Qa n);rw[r]at y d b|-
 have a:=Hi i;obtain⟨k,u⟩:=NE l.length;have HK:=Hi u;rw[u]at J b|-
 obtain⟨L,R⟩:(0:Int)<=(k:Int)/\(k:Int)<=1000000:=by omega
 unfold yF at a;rw[u]at a;clear i r u j P z J;unfold Xaz at b;unfold Ret at d;unfold Vd at y;unfold za qa at *;simp only at *;go_enter func41,ntmps41;go_wp2_with (first
  |(go_at_call 94;refine a.o.mono ?_;rintro B w2 ⟨Y,O,rfl,f,m⟩;obtain⟨S,I,rfl,C,_⟩:=f.form;have Q:(k:Int)<=(I:Int):=(by omega);obtain⟨A,g⟩:=Hi2 f m;clear f m C)
  |(go_at_call 30;refine(y.o _ _ g.o).mono ?_;rintro B V ⟨rfl,t⟩;have e:=Hi (g.o.callB t);clear t)
  |(go_at_call 25;refine MQ (d.o _ _ e.o) ?_)
  |(go_at_call 70;refine(b.o _ _ e.o).mono ?_;rintro B w5 ⟨K,rfl,p⟩;have F:=Hi (e.o.call p);clear p))
 refine jP (v:=.tuple #[OQ K,.slice S k I,OI 0]) (by simp[results,results41,go_sem]) rfl ?_;exact⟨K,_,O,rfl,A.o,F.o⟩
structure xa0 (K:Kp) (u:Up):Prop where
 kind:u.kind=1\/u.kind=2
 clen:u.code.length<=100000
 goes:(K.goes u).2=0
 opt:Qb K.m.o=0
 prs:∀q∈K.P,0<=q.id/\q.id<=281474976710656/\(q.code.length:Int)=K.m.o.width/8
 pr:0<=(K.goes u).1.id/\(K.goes u).1.id<=281474976710656/\((K.goes u).1.code.length:Int)=K.m.o.width/8
 put:u.kind=1->(K.goes u).1.id∉K.P.map (·.id)
 dead:u.kind=2->(K.goes u).1∈K.P
 s0:K.wlast<u.seq
 s1:u.seq<=1152921504606846976
 room:(Zd K.words ((K.goes u).1.id,(K.goes u).1.code)).isSome=true\/K.words.length<65536
 wlen:K.words.length<=999999
 plen:K.P.length<=9000000
 past:K.past.length<=1000000
def qQ:Kp->List Up->Prop
 |_,[]=>True
 |K,u::r=>xa0 K u/\qQ (K.made u (K.goes u).1) r
def Yz:Kp->List Up->Kp
 |K,[]=>K
 |K,u::r=>Yz (K.made u (K.goes u).1) r
def Vbp(W0:World)(bd bm b bj:Nat)(jv:Value)(M:va)(KF:Kp)(l:List Up)(k:Nat)(wr:World):Prop :=
 ∃(K:Kp) (h:KpH),h.b=b/\h.bj=bj/\qQ K (l.drop k)/\Yz K (l.drop k)=KF/\vc W0 bd bm K h jv M wr
theorem vc.side{W0 W:World}{h:KpH}{M:va}(a:vc W0 n b K h v M W):St W0 W M:=a.2.rest.appR
theorem vc.nameC{h:KpH}{c:Code}{a:Act}(d:vc V n b K h v F W)(k:∀W',vc V n b K h v F W'->c.wp P Q a W'):c.wp P Q a W:=k W d
theorem va0(E:Value)(M:va)(l:List Up)(good:Int)(f:vc U q c J h E M w)(hl:l.length<=1000000)(hP:qQ J l)
  (a5:∀W (N:va),Xa U q c J.d N W->Calls prog 94 #[za q,OI J.m.journal,OI J.m.seq,OI J.m.o.width] W (yF U q c J.d N l good)) :
  Calls prog 39 #[za h.b] w (xC U q c h.b h.bj (Yz J l) E M (OI 0)):=by
 have HL:=Hi (λ(W:World) (hb:Below w.drew.heap.size w.drew W)=>show OV W h.b 0 (OQ q)/\OV W h.b 3 (OI J.m.o.width)/\OV W h.b 6 (OI J.m.seq)/\OV W h.b 8 (OI J.m.journal)from by
  have t:=(f.2.drew.callB hb).rest;unfold KpH.fragj at t;exact⟨t.cellH 0,t.cellH 3,t.cellH 6,t.cellH 8⟩)
 have D:=Hi (λ(W:World) (F:va) (hW:Xa U q c J.d (F++(h.fragj q J E++M)) W)=>show OV W h.b 0 (OQ q)/\OV W h.b 3 (OI J.m.o.width)/\OV W h.b 6 (OI J.m.seq)/\OV W h.b 8 (OI J.m.journal)from by
  have t:=hW.rest.appR;unfold KpH.fragj at t;exact⟨t.cellH 0,t.cellH 3,t.cellH 6,t.cellH 8⟩)
 have i:=Hi (a5 w.drew _ f.2.drew);obtain⟨a8,HP⟩:=Hi2 f.1 hP;unfold yF at i;obtain⟨n,hn⟩:=NE l.length;have HN:=Hi hn;rw[hn]at i hl;obtain⟨ao,am⟩:(0:Int)<=(n:Int)/\(n:Int)<=1000000:=by omega
 obtain⟨KF,Z⟩:=NE (Yz J l);have ab:=Hi Z;rw[Z];obtain⟨b,hb⟩:=NE h.b;obtain⟨bj,Y⟩:=NE h.bj;have HB:=Hi (jy hb Y);rw[hb]at HL D|-
 rw[Y];obtain⟨xw,ac⟩:=NE J.m.o.width;obtain⟨xs,ad⟩:=NE J.m.seq;obtain⟨xj,ae⟩:=NE J.m.journal;rw[ac,ad,ae]at HL D i;clear hn Z hb Y ac ad ae f hP a5 hl;unfold za at *;go_enter func39,ntmps39;go_upto_region 1 with fail
 go_region_held3 (λW=>W.cell? ⟨b,0,none⟩=some (.pointer (some ⟨q,0,none⟩))/\W.cell? ⟨b,3,none⟩=some (.int .i64 xw)/\W.cell? ⟨b,6,none⟩=some (.int .i64 xs)/\W.cell? ⟨b,8,none⟩=some (.int .i64 xj)) (first|with_reducible exact D.o _ _ L.o|with_reducible exact HL.o _ (jU _ _)|(go_keep;done)) (first|(go_at_call 94;refine i.o.mono ?_;rintro e' w2 ⟨v2,F2,rfl,R,a0⟩;obtain⟨a2,c2,rfl,ai,_⟩:=R.form;have aq:(n:Int)<=(c2:Int):=(by omega);obtain⟨a4,L⟩:=Hi2 R a0;clear R a0 ai))
 all_goals(
  have a9:=Hi (show vc U q c J h E (F2++M) w2 from⟨a8.o,L.o.pm CN⟩);clear HL D i a8 L;go_upto_region 5 with fail
  go_loopw [39] (λiv wr=>∃(k:Nat),k<=n/\iv=OI (k:Int)/\Vbp U q c b bj E (F2++M) KF l k wr) (λiv _=>n-(intOf iv).toNat)
  case atStart=>exact⟨0,jX _,rfl,J,h,HB.o.1,HB.o.2,by rw[Ju];exact HP.o,by rw[Ju];exact ab.o,a9.o⟩
  case round =>
   clear a9 HP ab HB;obtain⟨k,hk,rfl,G,t,B,z,S,s,f⟩:=hrel;have an:(0:Int)<=(k:Int):=by omega
   by_cases hlt:k<n
   .have ap:(k:Int)<(n:Int):=by omega
    have T:k<l.length:=by rw[HN.o];exact hlt
    have H:qe upV 4 wr (.slice a2 n c2) l:=Rw.rowK (M:=M) (by rw[<-HN.o]at a4|-;exact a4.o) (λx=>by simp[upV]) f.side;obtain⟨g,o,a,hv,r⟩:=H.fld zbf k T;injection hv with e1 e2 e3
    subst e1;subst e3;clear e2;have V:l.drop k=l[k]::l.drop (k+1):=jR T;obtain⟨u,hu⟩:=NE (l[k]);rw[hu]at r V;rw[V]at S s;obtain⟨e,A⟩:=S;unfold Yz at s;obtain⟨g1,g2⟩:=yf e.opt;have aj:=Xd.1 g1;have j:=Hi (λW (N:va) (hW:vc U q c G t E N W)=>YaH U W q c G t E u N hW e.kind (jI e.clen (by decide)) (λp hp=>⟨(e.prs p hp).1,(e.prs p hp).2.1,by have:=(e.prs p hp).2.2;omega⟩) g1 e.plen);rw[e.goes]at j;have v:=Hi (λW (N:va) (hW:vc U q c G t E N W)=>XaH U W q c G t E u (G.goes u).1 N hW e.kind e.opt e.prs e.pr e.put e.dead e.s0 e.s1 e.room e.wlen (by have:=e.plen;omega) e.past (by have:=e.clen;omega));rw[B,z]at v;rw[B]at j;obtain⟨K2,ag⟩:=NE (G.made u (G.goes u).1);rw[ag]at v A s;obtain⟨⟨pi,pc⟩,hp⟩:=NE ((G.goes u).1);rw[hp]at j v;have a1:=Hi (jy A s);unfold upV at j v r;obtain⟨us,uk,ui,uc⟩:=u;simp only at j v r;unfold qa at j v r;have x0:wr.cell? ⟨g,o+k*4,none⟩=some (OI us):=by have:=r 0 _ rfl;simpa using this
    have x1:wr.cell? ⟨g,o+k*4+1,none⟩=some (OI uk):=by have:=r 1 _ rfl;simpa [j9] using this
    have x2:wr.cell? ⟨g,o+k*4+2,none⟩=some (OI ui):=by have:=r 2 _ rfl;simpa [j9] using this
    have x3:wr.cell? ⟨g,o+k*4+3,none⟩=some (OT uc):=by have:=r 3 _ rfl;simpa [j9] using this
    have P:=f.alloc (.cells #[OI us,OI uk,OI ui,OT uc] 35);obtain⟨C,hC⟩:=EN wr.heap.size;rw[<-hC]at P;obtain⟨HA,HC⟩:=Hi2 P hC;unfold za xC at v;unfold za Vd at j;clear f H r V hu e A s g1 g2 aj ag hp P hC T B z;go_upto_region 7 with fail
    rw[<-HC.o];refine HA.o.nameC ?_;clear HA HC x0 x1 x2 x3;intro w3 f;obtain⟨y0,y1,y2,y3⟩:=f.side.k4 0 1 2 3;have Q:=Hi f;clear f;go_upto_region 8 with(go_at_call 95;refine(j.o _ _ Q.o).mono ?_;rintro e' w4 ⟨rfl,ah⟩;have af:=Hi (Q.o.callB ah);clear ah)
    have P:=af.o.alloc (.cells #[OI pi,OT pc] 86);obtain⟨C2,O⟩:=EN w4.heap.size;rw[<-O]at P;rw[<-O];refine P.nameC ?_;clear P O af Q y0 y1 y2 y3 j;intro w5 f;obtain⟨z0,z1⟩:=f.side.k2 0 1;obtain⟨y0,y1,y2,y3⟩:=f.side.tail.k4 0 1 2 3;have Q:=Hi f;clear f;go_wp2_with (go_at_call 96;refine(v.o _ _ Q.o).mono ?_;rintro e' w6 ⟨rfl,h',a7,I,a6⟩;have al:=Hi a6;have a3:=Hi (jy a7 I);clear a6 a7 I);exact⟨⟨k+1,by omega,by go_num,K2,h',a3.o.1,a3.o.2,a1.o.1,a1.o.2,al.o.pmSub (X:=[(C2,.cells #[OI pi,OT pc] 86),(C,.cells #[OI us,OI uk,OI ui,OT uc] 35)]) CN⟩,by simp[intOf];omega⟩
   .obtain rfl:k=n:=by omega
    rw[List.drop_of_length_le (by rw[HN.o];exact jm _)]at s;unfold Yz at s;obtain⟨Q,ak⟩:=Hi2 f s;have aa:=Hi (jy B z);clear f s S B z;go_wp2_with fail;go_ret;exact⟨rfl,t,aa.o.1,aa.o.2,by rw[<-ak.o];exact Q.o.pmSub (X:=F2) CN⟩)
def yL(D:Dk)(m:Mf)(j:Jn):Kp:=⟨D,D.age,false,m,[],j,[],m.seq,[],0,[]⟩
theorem vba{e f b bj:Nat}{m:Mf}{a:DlH}{x:LvH}(j:Jn)(n:Rw 141 4 v m.runs.length (m.runs.flatMap riV) F)(i:a.w=m.o.width)(s:a.m=m.o.chunks)(k:a.last=0)(p:a.words=[])(g:a.ok)(l:a.ts.length=max 1 m.o.chunks.toNat)(c:x.ok m.o [])
  (t:Xa V e f d ((b,.cells (vQ e d.age m v a x) 82)::(a.frag++(x.frag++(F++G)))) W) :
  ∃h:KpH,h.b=b/\h.bj=bj/\vc V e f (yL d m j) h (.pointer none) G W :=
 ⟨⟨b,bj,v,F,[],.slice none 0 0,[],.slice none 0 0,[],a,x.bl,x.ol,x.bc,x.oc,x.tv,x.Ft,x.ts,x.live,x.codes⟩,rfl,rfl,
  {mrow:=n,runs:=rfl,each:=(λr q=>by cases q),rrow:=Rw.nil _ _,prow:=Rw.nil _ _,dok:=g,dw:=⟨i,s,k,p⟩,dt:=l,
   lmap:=c.lmap,lperm:=c.lperm,cmap:=c.cmap,cok:=c.cok,trow:=c.trow,tabs:=c.tabs,tlen:=c.tlen,tok:=c.tok},
  t.pm λy=>by
   unfold KpH.fragj LvH.frag;have:zk e (yL d m j) ⟨b,bj,v,F,[],.slice none 0 0,[],.slice none 0 0,[],a,x.bl,x.ol,x.bc,x.oc,x.tv,x.Ft,x.ts,x.live,x.codes⟩ (.pointer none)=vQ e d.age m v a x:=rfl;rw[this];simp only[xa,ya,OI,OT,OQ,Ya,Jk];omega⟩
theorem vc.setJ{e W:World}{c f:Nat}{K:Kp}{h:KpH}{g:Value}{M:va}{j:Jn}{bj:Nat}(i:vc e c f K h g (jnF bj c j::M) W):
  ∃h':KpH,h'.b=h.b/\Za e c f {K with j:=j} h' M (W.setCell ⟨h.b,11,none⟩ (za bj)):=by
 obtain⟨a,d⟩:=i;unfold KpH.fragj at d;rw[jO]at d;have k:=Xa.set d 11 (za bj);refine⟨{h with bj:=bj},rfl,⟨a.mrow,a.runs,a.each,a.rrow,a.prow,a.dok,a.dw,a.dt,a.lmap,a.lperm,a.cmap,a.cok,a.trow,a.tabs,a.tlen,a.tok⟩,k.pm λy=>?_⟩;have:(zk c K h g).setIfInBounds 11 (za bj)=kpC c {K with j:=j} {h with bj:=bj}:=rfl;rw[this];unfold KpH.frag;simp only[xa,ya,OI,OT,OQ,jO];omega
def zJ(o:Op3)(i:RI):List Bs:=vt i.number.toNat o
def vC(m:Mf):List Bs:=[Yc,jnM m.journal]++m.runs.flatMap (zJ m.o)
theorem Xak{α:Type}{f:α->List Bs}(h:∀i,(f i).length<=n):∀l:List α,(l.flatMap f).length<=n*l.length
 |[]=>by simp
 |a::r=>by
  have b:=Xak h r;have d:=h a;rw[jB,ja,jk,Nat.mul_succ];omega
theorem qba(m:Mf)(rv:Value)(ho:Qb m.o=0)(j0:0<=m.journal)(j1:m.journal<=1099511627776)(ht:vi w)
  (j:c<w.heap.size)
  (k3:OV w c 3 (OI m.o.width)) (k4:OV w c 4 (OI m.o.chunks)) (k5:OV w c 5 (OI m.o.mode))
  (k8:OV w c 8 (OI m.journal)) (k9:OV w c 9 rv) (A:qe riV 4 w rv m.runs)
  (u:∀i∈m.runs,1<=i.number/\i.number<=1099511627776) (am:m.runs.length<=1000) :
  Calls prog 40 #[za c] w (Xe 9 1 stV (vC m) w):=by
 obtain⟨i0,hi,z,hz,ai,av,Y,al,an⟩:=V4;obtain⟨n0,n1⟩:=Yaf ho;have au:=Hi A;obtain⟨ar,cr,rfl,az,aA,_⟩:=A;have HJ:=Hi (λW (j:Below w.heap.size w W)=>vI W m.journal (by omega) (by omega) (ht.below j (jm _)));have P:=Hi (λW (i:RI) (hi:i∈m.runs) (j:Below w.heap.size w W)=>va7 W i.number.toNat m.o ho (by have:=u i hi;omega) (by have:=u i hi;omega) (ht.below j (jm _)));have M:=Hi (λ(i:RI)=>show(zJ m.o i).length<=128 by unfold zJ;rw[QM];exact n1);have ah:=Hi u;have s:=Hi (show vC m=[Yc,jnM m.journal]++m.runs.flatMap (zJ m.o)from rfl);obtain⟨R,a0⟩:=NE (jnM m.journal);rw[a0]at HJ s;have HK:=Hi (λ(W:World) (j:Below w.heap.size w W)=>show OV W c 3 (OI m.o.width)/\OV W c 4 (OI m.o.chunks)/\OV W c 5 (OI m.o.mode)/\OV W c 9 (.slice ar m.runs.length cr)from⟨(j.cell (jM w _ k3)).trans k3,(j.cell (jM w _ k4)).trans k4,(j.cell (jM w _ k5)).trans k5,(j.cell (jM w _ k9)).trans k9⟩);unfold xf at P;obtain⟨o,a7,N,mj,h⟩:=m;simp only at *;obtain⟨J,K⟩:=NE (zJ o);have V:∀i,vt i.number.toNat o=J i:=λi=>by rw[<-K];rfl
 simp only[V]at P;rw[K]at M s;obtain⟨KN,a2⟩:=NE (vC ⟨o,a7,N,mj,h⟩);rw[a2]at s|-
 obtain⟨ow,oc,om⟩:=o;simp only at *;obtain⟨n,hn⟩:=NE h.length;have HN:=Hi hn;obtain⟨aC,aE,aH⟩:(n:Int)<=(cr:Int)/\(0:Int)<=(n:Int)/\(n:Int)<=1000:=by omega
 rw[hn]at HK;have H:n<=1000:=by omega
 clear V K a2 hn k3 k4 k5 k9 u ho a0 az aA am j n0 n1;unfold za qa Xe at *;go_enter func40,ntmps40;go_upto_region 2 with(go_at_call 30;refine MR (HJ.o _ (jU _ _)) λw1 a9=>?_)
 have r:=(St.refl w).callB a9.o;have E:=r.alloc (.cells #[OT Yc,OT R] 9);obtain⟨C,hC⟩:=EN w1.heap.size;rw[<-hC]at E;rw[<-hC];refine E.nameC ?_;clear r E hC a9 HJ;intro w2 d;have k9:=(HK.o _ d.below).2.2.2;have HS:=Hi d;clear d;go_upto_region 3 with fail
 clear k9 k8;go_loopw [3,19] (λov iv wr=>∃(k:Nat) (F:va) (L:List Bs),k<=n/\iv=OI (k:Int)/\L=[Yc,R]++(h.take k).flatMap J/\Rw 9 1 ov L.length (L.flatMap stV) F/\St w wr F) (λ_ iv _=>n-(intOf iv).toNat)
 case atStart=>exact⟨0,_,[Yc,R],jX _,rfl,by simp,Rw.lit 9 1 2 C #[OT Yc,OT R] (by simp) (by unfold maxLen;omega),HS.o⟩
 case round =>
  clear HS;obtain⟨k,F,L,hk,rfl,hL,hR,d⟩:=hrel;obtain⟨ad,ax,rfl,a5,a6,_⟩:=hR.form;have aD:(0:Int)<=(k:Int):=by omega
  by_cases hlt:k<n
  .have aG:(k:Int)<(n:Int):=by omega
   have t:k<h.length:=by rw[HN.o];exact hlt
   obtain⟨g,o,a,hv,e⟩:=au.o.fld Zo k t;injection hv with e1 e2 e3
   subst e1;subst e3;clear e2;have f:h[k]∈h:=Jc t;have Q:h.take (k+1)=h.take k++[h[k]]:=jS t;obtain⟨i,a1⟩:=NE (h[k]);rw[a1]at e f Q;have l:=Hi (λW j=>P.o W i f j);have ap:=ah.o i f;have ao:L.length<=128002:=by
    rw[hL,ja];have h1:=Xak M.o (h.take k);rw[jN]at h1;have h2:128*min k h.length<=128*1000:=UU _ (by omega);simp only[jk,jA];omega
   have Z:=M.o i;have a8:=Hi (show[Yc,R]++(h.take (k+1)).flatMap J=L++J i from by
    rw[Q,hL,jD,jB,Jk,jJ,jE])
   unfold riV at e;have x0:OV wr g (o+k*4) (OI i.number):=d.old (by have:=e 0 _ rfl;simpa using this);have x1:OV wr g (o+k*4+1) (OI i.lo):=d.old (by have:=e 1 _ rfl;simpa [j9] using this);have x2:OV wr g (o+k*4+2) (OI i.hi):=d.old (by have:=e 2 _ rfl;simpa [j9] using this);have x3:OV wr g (o+k*4+3) (OI i.count):=d.old (by have:=e 3 _ rfl;simpa [j9] using this);obtain⟨B,H⟩:=NE (J i);rw[H]at l a8 Z;obtain⟨q,U,T,S⟩:=i;simp only at *;have hq:(q.toNat:Int)=q:=by omega
   rw[hq]at l;have r:=(d.alloc (.cells #[OI q,OI U,OI T,OI S] 141));obtain⟨HA,HR⟩:=Hi2 r hR;have v:(L.length+B.length)*Y<=140737488355328:=jI (Jg (show L.length+B.length<=1000001 by omega) an) (by decide);have aq:L.length+B.length<=maxLen:=by unfold maxLen;omega
   clear d hR r e a1 f Q hL a6 a5 hq ao Z ap t H;go_upto_region 5 with fail
   obtain⟨p,I⟩:=EN wr.heap.size;have r:=HA.o;rw[<-I]at r;rw[<-I];refine r.nameC ?_;clear HA r I x0 x1 x2 x3;intro w3 d;have HL:=Hi (λ(W:World) (F':va) (hW:St w W ((p,.cells #[OI q,OI U,OI T,OI S] 141)::F'))=>show OV W c 3 (OI ow)/\OV W c 4 (OI oc)/\OV W c 5 (OI om)/\OV W p 0 (OI q)from⟨(HK.o W hW.below).1,(HK.o W hW.below).2.1,(HK.o W hW.below).2.2.1,hW.cellH 0⟩);have a3:=Hi d.drew;have aj:=Hi (l.o w3.drew d.drew.below);clear d;go_region_held3 (λW=>W.cell? ⟨c,3,none⟩=some (.int .i64 ow)/\W.cell? ⟨c,4,none⟩=some (.int .i64 oc)/\W.cell? ⟨c,5,none⟩=some (.int .i64 om)/\W.cell? ⟨p,0,none⟩=some (.int .i64 q)) (first|with_reducible exact HL.o _ _ ac.o|with_reducible exact HL.o _ _ a4.o|with_reducible exact HL.o _ _ a3.o|(go_keep;done)) (first
    |(go_at_call 97;refine aj.o.mono ?_;rintro e' w5 ⟨v5,F5,rfl,O,G⟩;have X:=O.rowK0 (λx=>by simp[stV]) G;have ab:=O.vnil;have a4:=Hi ((a3.o.call G).pm (M':=(p,.cells #[OI q,OI U,OI T,OI S] 141)::(F++F5)) CN);obtain⟨ay,ag⟩:=Hi2 X ab;clear O G X ab)
    |(refine zaf (W0:=w) (by rfl) _ _ 93 (by rfl) zbg (by decide) 9 i0 z Y underlying93 hi hz ai al av (.slice ad L.length ax) L.length (L.flatMap stV) F ((p,.cells #[OI q,OI U,OI T,OI S] 141)::F5) (by rfl) HR.o (a4.o.pm CN) v5 B (by rfl) ay.o ag.o qan aq v ?_;intro aF aB w7 F7 ae aa;have ak:=Hi ae;have ac:=Hi (aa.pm (M':=(p,.cells #[OI q,OI U,OI T,OI S] 141)::(F7++F5)) CN);clear ae aa))
   all_goals(
    go_wp2_with fail;refine⟨⟨k+1,F7,L++B,by omega,by go_num,a8.o.symm,?_,ac.o.pmSub (D:=(p,.cells #[OI q,OI U,OI T,OI S] 141)::F5) CN⟩,by simp[intOf];omega⟩;rw[ja,jD];exact ak.o)
  .obtain rfl:k=n:=by omega
   have aw:=Hi (show L=KN from by rw[hL,s.o,Ji (by rw[HN.o];exact jm _)]);obtain⟨HR,HS⟩:=Hi2 hR d;clear hR d hL a6 a5;go_wp2_with fail;go_ret;exact⟨_,F,rfl,by rw[<-aw.o];exact HR.o,HS.o⟩
end Go.Proofs.YtekkihmmclencaaGreatDoor
