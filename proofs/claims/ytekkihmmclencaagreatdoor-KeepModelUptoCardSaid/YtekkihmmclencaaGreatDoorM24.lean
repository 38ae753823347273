import Derived.Test.YtekkihmmclencaaGreatDoorM07
import Derived.Test.YtekkihmmclencaaGreatDoorM23
namespace Go.Proofs.YtekkihmmclencaaGreatDoor
set_option linter.all false
set_option maxRecDepth 100000
set_option maxHeartbeats 40000000
open Tryz
open Go Go.RowKit Go.Sort
variable(U w:World)(q c:Nat)(J:Kp)(h:KpH){W V:World}{n k j:Nat}{v:Value}{F:va}{s t:Bs}{x y:Int}{K:Kp}{T:TypeId}{Q:Exit->Act->World->Prop}{p:List Pr}{X:List Value}
def atL(K:Kp)(j:Nat)(v:Int):List Pr:=K.P.filter λp=>decide (Yf K.m.o j p.code=v)
def AtG(bl:Nat)(M:va)(K:Kp)(j:Nat)(v:Int)(M2:va):Prop:=∃lv F L,M2=(bl,.cells #[lv] 33 (0,0))::(F++M)/\L.Perm (atL K j v)/\Rw 86 2 lv L.length ((xD L).flatMap prV) F
structure Vbq (K:Kp) (j:Nat) (v:Int) (L:List Pr):Prop where
 nd:(L.map (·.id)).Nodup
 sub:∀x∈L,x∈atL K j v
def Ybp(W0:World)(K:Kp)(j:Nat)(v:Int)(s:XI)(bl:Nat)(Z:va)(r:Nat)(wr:World):Prop:=∃(L:List Pr) (oi':Obj) (lv:Value) (F:va),Vbq K j v L/\Rw 86 2 lv L.length (L.flatMap prV) F/\Qx Zg s.b oi' s.om (L.map (·.id))/\St W0 wr ((r,oi')::(s.b,s.om)::(bl,.cells #[lv] 33 (0,0))::(F++Z))
theorem Xbp(W0 w:World)(bd bm bj bk bv g:Nat)(K:Kp)(h:KpH)(j:Nat)(v:Int)(M:va)(O:KOk K)(hj:j<Qd K.m.o)(hv:∃p∈K.P,Yf K.m.o j p.code=v)
  (hK:Za W0 bd bm K h ((g,.cells #[.slice none 0 0] 33)::(bv,.cells #[OI v] 3)::(bj,.cells #[OI (j:Int)] 3)::(bk,.cells #[za h.b] 29)::M) w) :
  Calls prog 52 #[za bj,za bk,za bv,za g] w (Z6 W0 bd bm h.b (AtG g M K j v) (K,0)):=by
 obtain⟨i0,hi,z,bB,b7,bz,aD,ba,bn⟩:=Y3;have bO:0<=v/\v<=8589934592:=by obtain⟨p,_,rfl⟩:=hv;exact xX O.opt j p.code
 obtain⟨ho,om,fl,aJ,hS⟩:=hK;have a3:j<h.ts.length:=by rw[ho.tlen];exact hj
 have au:=VaY h.ts j a3;obtain⟨t,ht⟩:=NE (h.ts[j]);rw[ht]at au;have aa:h.ts[j]?=some t:=by rw[jt a3,ht]
 have a2:=ho.tabs t (Js aa);have a7:=ho.tok j t aa;have J:t.tab.map (·.1)=t.ss.map (·.key):=by unfold KtH.tab;rw[j7];rfl
 obtain⟨A,s,B,a8,ak⟩:∃A s B,t.ss=A++s::B/\s.key=v:=by
  rcases qaA t.ss v with b8|aT
  .have:=(a7.has v).2 hv;rw[J]at this;obtain⟨s,hs,e⟩:=jg.1 this;exact absurd e (b8 s hs)
  .exact aT
 have a6:s∈t.ss:=by rw[a8];simp
 have aU:=a2.sets s a6;have V:=Hi (λ(i:Int)=>show i∈s.ids<->∃c,(⟨i,c⟩:Pr)∈atL K j v from by
  have G:=a7.says v i;constructor
  .intro hi;obtain⟨p,hp,rfl,e⟩:=G.1 ⟨s.ids,jg.2 ⟨s,a6,by rw[ak]⟩,hi⟩;exact⟨p.code,Jf.2 ⟨hp,by simpa using e⟩⟩
  .rintro⟨c,hc⟩;obtain⟨hp,e⟩:=Jf.1 hc;obtain⟨s',bq,b3⟩:=G.2 ⟨_,hp,rfl,by simpa using e⟩;obtain⟨s2,b5,e2⟩:=jg.1 bq;simp only[Je]at e2;have bI:(t.ss.map (·.key)).Nodup:=by rw[<-J];exact a7.keys
   have:s2=s:=ZK bI s2 b5 s a6 (by rw[e2.1,ak]);rw[<-this,e2.2];exact b3)
 obtain⟨Y,hY⟩:=EN ((h.bc,h.oc)::jnF h.bj bd K.j::(h.Fm++(h.Fr++(h.rs.flatMap (vd.frag K.m.o)++(h.Fp++(h.dl.frag++((h.ts.take j).flatMap KtH.frag++((A.map λs=>(s.b,s.om))++((B.map λs=>(s.b,s.om))++(h.ts.drop (j+1)).flatMap KtH.frag))))))))++(Zb bd bm om fl K.d++M));have aM:∀x,cntF x (h.ts.flatMap KtH.frag)=cntF x ((h.ts.take j).flatMap KtH.frag)+(cnt1 x (t.b,t.om)+(cntF x (A.map λs=>(s.b,s.om))+(cnt1 x (s.b,s.om)+cntF x (B.map λs=>(s.b,s.om))))+cntF x ((h.ts.drop (j+1)).flatMap KtH.frag)):=λx=>by
  have e:cntF x (h.ts.flatMap KtH.frag)=cntF x ((h.ts.take j++t::h.ts.drop (j+1)).flatMap KtH.frag):=by rw[<-au]
  rw[e,zx,yx,a8,YK]
 obtain⟨Z,hZ⟩:=EN ((bv,Obj.cells #[OI v] 3)::(bj,.cells #[OI (j:Int)] 3)::(bk,.cells #[za h.b] 29)::(t.b,t.om)::(h.bl,h.ol)::(h.b,.cells (kpC bd K h) 82)::(h.Ft++Y));have ap:∀x,cntF x (Zb bd bm om fl K.d++(h.frag bd K++M))+(cnt1 x (bv,Obj.cells #[OI v] 3)+cnt1 x (bj,Obj.cells #[OI (j:Int)] 3)+cnt1 x (bk,Obj.cells #[za h.b] 29))=cntF x ((s.b,s.om)::Z):=λx=>by
  have:=aM x;rw[hZ,hY];unfold KpH.frag;simp only[xa,ya,OI,OT,OQ,jO]at this|-;omega
 have ax:=hS.pm (M':=(s.b,s.om)::(g,.cells #[.slice none 0 0] 33)::([]++Z)) (λx=>by
  have:=ap x;simp only[xa,ya,OI,OT,OQ,Ya]at this|-;omega)
 have bx:=Hi (λ(W:World) (F X:va) (lv:Value) (hs:St W0 W (X++((s.b,s.om)::(g,.cells #[lv] 33)::(F++Z))))=>show Za W0 bd bm K h ((g,.cells #[lv] 33)::(F++M)) W from⟨ho,om,fl,aJ,hs.pmSub (D:=X++[(bv,Obj.cells #[OI v] 3),(bj,Obj.cells #[OI (j:Int)] 3),(bk,Obj.cells #[za h.b] 29)]) λx=>by
  have:=ap x;simp only[xa,ya,OI,OT,OQ,Ya]at this|-;omega⟩)
 have aw:=ho.trow;obtain⟨gt,am,a9,b2⟩:=aw.cells (W:=w) (W0:=W0) (M:=(bv,Obj.cells #[OI v] 3)::(bj,.cells #[OI (j:Int)] 3)::(bk,.cells #[za h.b] 29)::(t.b,t.om)::(h.bl,h.ol)::(h.b,.cells (kpC bd K h) 82)::Y) (ax.pmSub (D:=[(s.b,s.om),(g,.cells #[.slice none 0 0] 33)]) λy=>by rw[hZ];simp only[xa,ya,OI,OT,OQ,Ya];omega) (by intro e;have:=jT List.length e;simp at this;rw[this]at a3;simp at a3);have aO:(kpC bd K h)[17]?=some (.slice (some ⟨gt,0,none⟩) h.ts.length am):=by rw[<-a9];rfl
 have aC:(kpC bd K h)[15]?=some (.map (some h.bl)):=rfl;have aE:(h.ts.length:Int)<=(am:Int):=by
  obtain⟨bP,bL,e,G,_⟩:=aw.form;rw[a9]at e;injection e with _ _ e;omega
 have ae:=Hi (λ(W:World) (N:va) (hs:St W0 W (N++Z))=>show OV W bv 0 (OI v)/\OV W bj 0 (OI (j:Int))/\OV W bk 0 (za h.b)/\W.heap[t.b]?=some t.om/\W.heap[h.bl]?=some h.ol/\OV W h.b 15 (.map (some h.bl))/\OV W h.b 17 (.slice (some ⟨gt,0,none⟩) h.ts.length am)/\OV W gt j (.map (some t.b))from by
  have G:=hs.appR;rw[hZ]at G;refine⟨G.cellH 0,G.tail.cellH 0,G.tail.tail.cellH 0,G.tail.tail.tail.get,G.tail.tail.tail.tail.get,(G.tail.tail.tail.tail.tail.cellH 15).trans aC,(G.tail.tail.tail.tail.tail.cellH 17).trans aO,?_⟩;have aF:=ho.trow;rw[a9]at aF;exact aF.cellAt (G.tail.tail.tail.tail.tail.tail) (by rw[jZ,aa,JE]))
 obtain⟨bt,bN⟩:(j:Int)<(h.ts.length:Int)/\(0:Int)<=(j:Int):=by omega
 have bs:=Hi (λ(W:World) (hW:W.heap[t.b]?=some t.om)=>(a2.look hW (v:=v) (by omega) (by omega)).2 A s B a8 ak);have bJ:=Hi (λ(i:Int) (i0:0<=i) (i1:i<=281474976710656) (W:World) (hW:W.heap[h.bl]?=some h.ol)=>show(Instr.lookup 78 (.map (some h.bl)) (OI i) false).run prog W=.ok (.agg #[.string ⟨((qd K.P i).getD []).toArray⟩]) W from by
  have hl:=Va.look (P:=prog) (k:=3) (e:=108) (t:=78) Qn underlying78 ho.lmap (by
   intro q hq;obtain⟨q',bA,e⟩:=jg.1 (ho.lperm.mem_iff.1 hq);have:=O.prs q' bA;rw[<-e];simp only;omega) hW (x:=i) (by omega) false
  have hg:=(vX ho.lmap.nodup ho.lperm i).1;rw[hg]at hl;cases hm:qd K.P i with
  |none =>
   have:=hl.2 hm _ (Qan W);simpa [Zg] using this
  |some c =>
   have:=hl.1 c hm;simpa [Zg,vaa,qa] using this)
 have bf:=Hi (λ(i:Int) (c:Bs) (hc:(⟨i,c⟩:Pr)∈K.P)=>(vk O.ids).2 hc);obtain⟨aq,b6,bb,aZ,an⟩:=Hi5 O.prs O.ids O.plen aU ax;obtain⟨nt,aP⟩:=NE h.ts.length;rw[aP]at ae aE bt;clear hS ax hY ap aM aJ O ho a3 au ht aa a2 a7 J aw a9 b2 aP hZ hj aC aO hv a8 a6 aU;unfold za at *;go_enter func52,ntmps52;go_upto_region 1 with fail
 obtain⟨d0,d1,d2,d3,d4,d5,d6,d7⟩:=ae.o w [(s.b,s.om),(g,.cells #[.slice none 0 0] 33)] an.o;clear d0 d3 d4 d5 d7;go_quiet (fail);refine St.nameE (P:=prog) (an.o.drewN nq) ?_;clear d1 d2 d6 an;intro w2 C;obtain⟨d0,d1,d2,d3,d4,d5,d6,d7⟩:=ae.o w2.drew [(s.b,s.om),(g,.cells #[.slice none 0 0] 33)] C.drew;have aG:=bs.o w2.drew d3;obtain⟨oi,ac,a0,aL⟩:=Va.range (P:=prog) (k:=3) (e:=150) (t:=110) underlying110 aZ.o.map C.drew;obtain⟨a1,aR⟩:=Hi2 a0 aL;clear C a0 aL d3 d4 d5;go_upto_region 3 with fail
 go_still_tail 9,(by kernel_rfl);change wpList _ _ _ _ _ w2.drew;go_upto_region 4 with fail
 obtain⟨r,hr⟩:=EN w2.heap.size;have al:=a1.o;have aB:w2.drew.heap.size=r:=by rw[hr];rfl
 rw[aB]at al;rw[<-hr];refine al.nameC ?_;clear a1 al ac hr aB aG d0 d1 d2 d6 d7;intro w3 a0;have a1:=Hi a0;clear a0;go_loopw [5] (λ_ wr=>Ybp W0 K j v s g Z r wr) (λ_ W=>s.ids.length-XK ((W.cell? ⟨g,0,none⟩).getD (.slice none 0 0)))
 case atStart=>exact⟨[],oi,_,[],⟨by simp,by simp⟩,Rw.nil _ _,aR.o,a1.o⟩
 case round =>
  clear a1 aR;obtain⟨L,aS,lv,F,⟨hV,l⟩,hR,hI,a5⟩:=hrel;obtain⟨R,f,rfl,bg,aN,_⟩:=hR.form;have aW:L.length<=1000000:=by
   have G:(L.map (·.id)).length<=(K.P.map (·.id)).length:=JH hV λx E=>by
    obtain⟨p,hp,rfl⟩:=jg.1 E;exact jg.2 ⟨p,(Jf.1 (l p hp)).1,rfl⟩
   simp only[jz]at G;exact jI G bb.o
  have b0:OV wr g 0 (.slice R L.length f):=a5.tail.tail.cellH 0;rcases Va.next (P:=prog) (λx y e=>by injection e) aZ.o.map a5 hI 0 with⟨ah,T⟩|⟨p,hp,ab,H,W2,T,C,aQ,ai⟩
  .have aX:L.Perm (atL K j v):=by
    have aj:((atL K j v).map (·.id)).Nodup:=(List.Sublist.map _ Ua).nodup b6.o;refine(Un (VK hV) (VK aj)).2 λx=>⟨l x,λE=>?_⟩
    have bh:x.id∈s.ids:=(V.o x.id).2 ⟨x.code,E⟩;have G:=ah (x.id,()) (jg.2 ⟨x.id,bh,rfl⟩);obtain⟨y,hy,e⟩:=jg.1 G;rw[<-zab aj y (l y hy) x E e];exact hy
   have br:=Hi aX;have U:=Hi (vbh W0 wr ((r,aS)::(s.b,s.om)::(g,.cells #[.slice R L.length f] 33)::Z) F (.slice R L.length f) L hV
    (λx E=>⟨(aq.o x (Jf.1 (l x E)).1).1,(aq.o x (Jf.1 (l x E)).1).2.1⟩) hR (a5.pm CN) (by omega))
   have av:=Hi (show(xD L).length=L.length from(JX _ _).length_eq);have bG:=Hi (show xD L=xD L from rfl);unfold Vp at U;clear hV l hR hI a5 ah aX aN aW bg;obtain⟨S,hS⟩:=NE (xD L);have bH:=Hi hS;rw[hS]at U av;clear hS bG;obtain⟨n,hn⟩:=NE L.length;have HN:=Hi hn;rw[hn]at U av b0;clear hn;go_wp2_with (go_at_call 53;refine U.o.mono ?_;rintro e' w5 ⟨rfl,F5,aV,aH⟩;obtain⟨bF,be⟩:=Hi2 aV aH;clear aV aH);go_ret;refine⟨rfl,h,_,rfl,⟨.slice R n f,F5,L,rfl,br.o,?_⟩,bx.o _ F5 [(r,aS)] _ (be.o.pm CN)⟩;have h5:=bF.o;rw[av.o]at h5;rw[HN.o,bH.o];exact h5
  .obtain⟨q,hq,rfl⟩:=jg.1 hp;obtain⟨c,hc⟩:=(V.o q).1 hq;have ao:=(Jf.1 hc).1;have aA:=aq.o _ ao;simp only at aA ab;obtain⟨bD,bw,_⟩:=aA;have bM:L.length<s.ids.length:=by
    have:(q::L.map (·.id)).length<=s.ids.length:=JH (jY.2 ⟨ab,hV⟩) (by
     intro x E;rcases jp.1 E with rfl|E
     .exact hq
     .obtain⟨y,hy,rfl⟩:=jg.1 E;exact(V.o y.id).2 ⟨y.code,l y hy⟩)
    rw[jk,jz]at this;exact this
   have Q:=ai W2 _ C;have HV:=Hi (jy hV (jy l (jy ab hc)));obtain⟨HR,bo,bp⟩:=Hi3 hR aQ b0;have af:=bJ.o q bD bw;rw[bf.o q c ao]at af;simp only[kB]at af;have aI:=Hi af;unfold Zg yD at T Q;simp only at T Q;have ag:(L.length+1)*aD<=140737488355328:=jI (Jg (show L.length+1<=1000001 by omega) bn) (by decide);have bu:L.length+1<=maxLen:=by unfold maxLen;omega
   have ar:=C.pm (M':=F++([(r,H),(s.b,s.om),(g,.cells #[.slice R L.length f] 33)]++Z)) CN;have ay:St W0 W2 ((F++[(r,H),(s.b,s.om),(g,.cells #[.slice R L.length f] 33)])++Z):=by rw[jE];exact ar
   obtain⟨b4,bC⟩:=Hi2 ar ay;have bi:=Hi (λob=>(ay.alloc ob).tail.drew);have e0:=C.drew.tail.tail.cellH 0;have e1:∀ob,(W2.alloc ob).drew.cell? ⟨g,0,none⟩=some (.slice R L.length f):=λob=>(C.alloc ob).drew.tail.tail.tail.cellH 0
   have HL:=Hi (λ(W:World) (N:va) (hs:St W0 W (N++Z))=>show OV W bk 0 (OQ h.b)/\OV W h.b 15 (.map (some h.bl))/\W.heap[h.bl]?=some h.ol from by
    obtain⟨d0,d1,d2,d3,d4,d5,d6,d7⟩:=ae.o W N hs;exact⟨d2,d5,d4⟩)
   clear hV l hR hI a5 hp ab C aQ ai hc ao aN aW ar ay b0 af;go_upto_region 6 with fail
   clear T Q;have aG:=aI.o;have bK:∀(a:Value) (w:World),(Instr.field 108 (.agg #[a]) 0).run prog w=.ok a w:=λa w=>by kernel_rfl
   refine wp_region_noPanic ?_;refine wp_region_held_drew (S:=(λW=>W.cell? ⟨bk,0,none⟩=some (.pointer (some ⟨h.b,0,none⟩))/\W.cell? ⟨h.b,15,none⟩=some (.map (some h.bl))/\W.heap[h.bl]?=some h.ol)) (by kernel_rfl) (by (try dsimp only)<;>(first|(with_reducible first|exact HL.o _ _ az.o|exact HL.o _ _ bE.o|exact HL.o _ _ bC.o.drew|exact HL.o _ _ (bi.o _)|fail)|(go_keep;done))) λhHq=>?_;refine' TK 1 rfl ?_ ?_;rotate_left;intro wq hwq;go_simp<;>rfl;(try simp only[Act.put,jf,ji,jj]);refine' TK 2 rfl ?_ ?_;rotate_left;intro wq hwq;go_simp<;>rfl;(try simp only[Act.put,jf,ji,jj]);refine' TK 3 rfl ?_ ?_;rotate_left;intro wq hwq;go_simp<;>rfl;(try simp only[Act.put,jf,ji,jj]);refine' TK 4 rfl ?_ ?_;rotate_left;intro wq hwq;go_simp<;>rfl;(try simp only[Act.put,jf,ji,jj]);refine' TK 5 rfl ?_ ?_;rotate_left;intro wq hwq;go_simp<;>rfl;(try simp only[Act.put,jf,ji,jj]);refine' TK 6 rfl ?_ ?_;rotate_left;intro wq hwq;go_simp<;>rfl;(try simp only[Act.put,jf,ji,jj]);refine B2 0 7 (by kernel_rfl) rfl rfl (λKq hKq=>?_) (λKq hKq=>?_);go_simp;refine hKq.out _ _ (by assumption) λhHq=>?_;clear hKq Kq;(try simp only[Act.put,jf,ji,jj]);refine BR 7 (by kernel_rfl) rfl λKq hKq=>?_;go_simp;refine hKq.out _ _ (by (try dsimp only)<;>(first|(with_reducible first|exact HL.o _ _ az.o|exact HL.o _ _ bE.o|exact HL.o _ _ bC.o.drew|exact HL.o _ _ (bi.o _)|fail)|(go_keep;done))) λhHq=>?_;clear hKq Kq;(try simp only[Act.put,jf,ji,jj]);refine' TK 8 rfl ?_ ?_;rotate_left;intro wq hwq;go_simp<;>rfl;(try simp only[Act.put,jf,ji,jj]);refine' TK 9 rfl ?_ ?_;rotate_left;intro wq hwq;go_simp<;>rfl;(try simp only[Act.put,jf,ji,jj]);refine BR 10 (by kernel_rfl) rfl λKq hKq=>?_;go_simp;refine hKq.out _ _ (by (try dsimp only)<;>(first|(with_reducible first|exact HL.o _ _ az.o|exact HL.o _ _ bE.o|exact HL.o _ _ bC.o.drew|exact HL.o _ _ (bi.o _)|fail)|(go_keep;done))) λhHq=>?_;clear hKq Kq;(try simp only[Act.put,jf,ji,jj]);rotate_left;go_simp;refine hKq.out _ _ (by (try dsimp only)<;>(first|(with_reducible first|exact HL.o _ _ az.o|exact HL.o _ _ bE.o|exact HL.o _ _ bC.o.drew|exact HL.o _ _ (bi.o _)|fail)|(go_keep;done))) λhHq=>?_;clear hKq Kq;(try simp only[Act.put,jf,ji,jj]);refine' TK 8 rfl ?_ ?_;rotate_left;intro wq hwq;go_simp<;>rfl;(try simp only[Act.put,jf,ji,jj]);refine' TK 9 rfl ?_ ?_;rotate_left;intro wq hwq;go_simp<;>rfl;(try simp only[Act.put,jf,ji,jj]);refine B2 0 10 (by kernel_rfl) rfl rfl (λKq hKq=>?_) (λKq hKq=>?_);go_simp;refine hKq.out _ _ (by assumption) λhHq=>?_;clear hKq Kq;(try simp only[Act.put,jf,ji,jj]);refine BR 10 (by kernel_rfl) rfl λKq hKq=>?_;go_simp;refine hKq.out _ _ (by (try dsimp only)<;>(first|(with_reducible first|exact HL.o _ _ az.o|exact HL.o _ _ bE.o|exact HL.o _ _ bC.o.drew|exact HL.o _ _ (bi.o _)|fail)|(go_keep;done))) λhHq=>?_;clear hKq Kq;(try simp only[Act.put,jf,ji,jj]);rotate_left;go_simp;refine hKq.out _ _ (by (try dsimp only)<;>(first|(with_reducible first|exact HL.o _ _ az.o|exact HL.o _ _ bE.o|exact HL.o _ _ bC.o.drew|exact HL.o _ _ (bi.o _)|fail)|(go_keep;done))) λhHq=>?_;clear hKq Kq;(try simp only[Act.put,jf,ji,jj]);refine BR 0 (by kernel_rfl) rfl λKq hKq=>?_;go_simp;refine hKq.out _ _ (by assumption) λhHq=>?_;clear hKq Kq;(try simp only[Act.put,jf,ji,jj]);rotate_left;(all_goals (refine BR 11 (by kernel_rfl) rfl λKq hKq=>?_;(refine Zn (W0:=W0) (by rfl) _ _ 33 (by rfl) 86 i0 z 2 aD underlying33 hi bB b7 ba bz (by decide) (.slice R L.length f) L.length (L.flatMap prV) F _ (by rfl) HR.o 1 W2.heap.size [OI q,OT c] ((b4.o.alloc _).drew) (by rfl) (by rfl) (by intro u hu;simp at hu;rcases hu with rfl|rfl<;>rfl) (by decide) bu ag ?_;intro g7 I w7 F7 b1 a4;have aK:St W0 w7 ((F7++[(r,H),(s.b,s.om),(g,.cells #[.slice R L.length f] 33)])++Z):=(by rw[jE];exact a4);have aY:St W0 (w7.setCell ⟨g,0,none⟩ (.slice (some ⟨g7,0,none⟩) (L.length+1) I)) (((g,.cells #[.slice (some ⟨g7,0,none⟩) (L.length+1) I] 33)::(F7++[(r,H),(s.b,s.om)]))++Z):=St.set (cs:=#[.slice R L.length f]) (M:=(F7++[(r,H),(s.b,s.om)])++Z) (a4.pm CN) 0 _;have y0:w7.frozen? ⟨g,0,none⟩=false:=(a4.pm (M':=(g,.cells #[.slice R L.length f] 33)::((F7++[(r,H),(s.b,s.om)])++Z)) CN).freeH 0;have y1:w7.cell? ⟨g,0,none⟩=some (.slice R L.length f):=(a4.pm (M':=(g,.cells #[.slice R L.length f] 33)::((F7++[(r,H),(s.b,s.om)])++Z)) CN).cellH 0;obtain⟨b9,bE,az⟩:=Hi3 b1 aK aY;clear b1 a4 aK aY);refine hKq.out _ _ (by (try dsimp only)<;>(first|(with_reducible first|exact HL.o _ _ az.o|exact HL.o _ _ bE.o|exact HL.o _ _ bC.o.drew|exact HL.o _ _ (bi.o _)|fail)|(go_keep;done))) λhHq=>?_;clear hKq Kq;(try simp only[Act.put,jf,ji,jj]);refine BR 12 (by kernel_rfl) rfl λKq hKq=>?_;go_simp;refine hKq.out _ _ (by (try dsimp only)<;>(first|(with_reducible first|exact HL.o _ _ az.o|exact HL.o _ _ bE.o|exact HL.o _ _ bC.o.drew|exact HL.o _ _ (bi.o _)|fail)|(go_keep;done))) λhHq=>?_;clear hKq Kq;(try simp only[Act.put,jf,ji,jj]);refine wpAnyH_done (by kernel_rfl) ?_ _;refine NoPanic.normal ?_))
   all_goals(
    go_wp2_with fail;refine⟨⟨L++[⟨q,c⟩],H,.slice (some ⟨g7,0,none⟩) (L.length+1) I,F7,⟨?_,?_⟩,?_,?_,?_⟩,?_⟩
    .rw[jr];exact Jr.2 ⟨HV.o.1,by simp,λa ha b hb e=>by simp at hb;subst hb;subst e;exact HV.o.2.2.1 ha⟩
    .intro x E;rcases jo.1 E with E|E
     .exact HV.o.2.1 x E
     .simp only[jC]at E;subst E;exact HV.o.2.2.2
    .rw[ja,jD];exact b9.o
    .rw[jr];exact bo.o
    .exact az.o.pm CN
    .have h9:(w7.setCell ⟨g,0,none⟩ (.slice (some ⟨g7,0,none⟩) (L.length+1) I)).cell? ⟨g,0,none⟩=some (.slice (some ⟨g7,0,none⟩) (L.length+1) I):=az.o.appL.cellH 0;rw[h9,bp.o];simp only[kB,XK];omega)
def QaY(W0:World)(bd bm b:Nat)(M:va)(K:Kp)(j:Nat)(v:Int)(e:Ending)(w':World):Prop:=∃h lv F L,h.b=b/\e=.returned (.tuple #[lv,.int .i64 0])/\L.Perm (atL K j v)/\Rw 86 2 lv L.length ((xD L).flatMap prV) F/\Za W0 bd bm K h (F++M) w'
theorem vbd(j:Nat)(v:Int)(M:va)(a:KOk J)(C:j<Qd J.m.o)(D:∃p∈J.P,Yf J.m.o j p.code=v)(z:Za U q c J h M w):
  Calls prog 22 #[za h.b,OI (j:Int),OI v] w (QaY U q c h.b M J j v):=by
 have G:∀(fn:Fn) (first cap:Array Value) (w:World),(Instr.makeFunc fn first cap).run prog w=.ok (.func fn first cap) w:=λ_ _ _ _=>rfl
 have e:=(((z.alloc (.cells #[za h.b] 29)).alloc (.cells #[OI (j:Int)] 3)).alloc (.cells #[OI v] 3)).alloc (.cells #[.slice none 0 0] 33);simp only[jF]at e;obtain⟨b2,f⟩:=EN w.heap.size;rw[<-f]at e;have k:=Hi (λW (hW:Za U q c J h ((b2+1+1+1,.cells #[.slice none 0 0] 33)::(b2+1+1,.cells #[OI v] 3)::(b2+1,.cells #[OI (j:Int)] 3)::(b2,.cells #[za h.b] 29)::M) W)=>Xa8 U W q c J J h 0 _ (AtG (b2+1+1+1) M J j v) 52 #[za (b2+1),za b2,za (b2+1+1),za (b2+1+1+1)] (λ_ _=>rfl) hW a.gone a.off a.age λO H=>Xbp U O q c (b2+1) b2 (b2+1+1) (b2+1+1+1) J h j v M a C D H);have d:({J with gone:=decide ((0:Int)=45)}:Kp)=J:=by
  rw[show decide ((0:Int)=45)=false from by decide,<-a.gone]
 rw[d]at k;unfold QaY;obtain⟨A,x⟩:=Hi2 e f;clear e f z a d C D;unfold Z6 AtG at k;simp only at k;unfold za at *;go_enter func22,ntmps22;go_upto_region 2 with(fail)
 rw[<-x.o];refine A.o.nameC ?_;clear A x;intro u e;have R:=e.limbs.tail.tail.tail.tail.cellH 0;have t:=Hi (k.o u e);clear e k;go_wp2_with (go_at_call 47;refine t.o.mono ?_;rintro Q N ⟨rfl,E,T,B,⟨lv,F,L,rfl,l,i⟩,g⟩;have I:=Hi B;have S:=g.limbs.tail.cellH 0;obtain⟨r,s,n⟩:=Hi3 g l i;clear B g l i);go_ret2;exact⟨E,lv,F,L,I.o,rfl,s.o,n.o,r.o.pmSub (X:=[(b2+1+1+1,.cells #[lv] 33)]) CN⟩
theorem vP.ids(h:vP p):(p.map (·.id)).Nodup:=Uu.2 (h.imp λh=>by omega)
theorem ZaN{P l:List Pr}(b:P.Perm l)(a:vP l):zN P=l :=
 qak ((vB P).trans b) (((vB P).trans b).map (·.id) |>.nodup_iff.2 a.ids) (yQ P) (a.imp λh=>by omega)
theorem Va8(g:(p.map (·.id)).Nodup){a:Pr}(c:a∈p):∃k,∃b:k<p.length,p[k]=a/\VA p a.id=(k:Int):=by
 obtain⟨k,b,e⟩:=kH c;refine⟨k,b,e,yay b (by rw[e]) λj i h f=>?_⟩;have d:(p.map (·.id))[j]'(by simpa using h)=(p.map (·.id))[k]'(by simpa using b):=by simp[f,e]
 have:=(kz g).1 d;omega
theorem Qa8{l:List Pr}{i:Int}:0<=VA l i<->i∈l.map (·.id):=by
 unfold VA;by_cases h:i∈l.map (·.id)
 .rw[jh h];exact⟨λ_=>h,λ_=>by omega⟩
 .rw[jd h];exact⟨λk=>by omega,λk=>absurd k h⟩
theorem qbh(c:(K.P.map (·.id)).Nodup)(d:∀p∈K.P,0<=p.id/\p.id<=281474976710656){p:Pr}(a:p∈K.P):Yx K p.id=(p.code,0):=by
 have b:qd K.P p.id=some p.code:=(vk c).2 a;have:=d p a;unfold Yx;rw[jd (by omega),b]
theorem Zbh(d:(K.P.map (·.id)).Nodup){i:Int}(b:0<=i)(a:i<=281474976710656):(Yx K i).2=0<->i∈K.P.map (·.id):=by
 unfold Yx;rw[jd (by omega)];cases hl:qd K.P i with
 |none =>
  have:=Vu.1 hl;simp only;exact⟨λh=>absurd h (by decide),λh=>absurd h this⟩
 |some c =>
  have:i∈K.P.map (·.id):=by
   apply Classical.byContradiction;intro h;rw[Vu.2 h]at hl;cases hl
  simp only;exact⟨λ_=>this,λ_=>trivial⟩
structure YaN (l:List Pr) (val:Bs->Int) (v:Int) (L:List Pr):Prop where
 mem:∀p∈L,p∈l/\val p.code=v
 one:∀p∈l,val p.code=v->L.count p=1
theorem YaN.of{l L:List Pr}(b:K.P.Perm l)(d:(l.map (·.id)).Nodup)(c:L.Perm (atL K j x)):YaN l (Yf K.m.o j) x (xD L):=by
 have a:(xD L).Perm (l.filter λp=>decide (Yf K.m.o j p.code=x)):=((JX L _).trans c).trans (b.filter _);refine⟨λp h=>?_,λp h e=>?_⟩
 .have:=a.mem_iff.1 h;rw[Jf]at this;exact⟨this.1,by simpa using this.2⟩
 .rw[a.count_eq,List.count_filter (by simpa using e)];rw[(VK d).count,jh h]
theorem XaN(L:List Pr)(p:Pr)(n:Nat)(h:n<L.length):(L.take (n+1)).count p=(L.take n).count p+if L[n]=p then 1 else 0:=by
 rw[jS h,List.count_append,List.count_singleton];by_cases e:L[n]=p
 .simp[e]
 .simp[e]
theorem za9(L:List Int)(v:Int)(n:Nat)(h:n<L.length):decide (v∈L.take (n+1))=(decide (v∈L.take n)||decide (L[n]=v)):=by
 rw[jS h,kj];simp only[jo,jC,jG,kO];exact⟨λh=>h.imp id Eq.symm,λh=>h.imp id Eq.symm⟩
theorem VaN{L:List Int}(h:L.Pairwise (·<·))(n:Nat)(a:n+1<L.length):L[n]<L[n+1]:=List.pairwise_iff_getElem.1 h n (n+1) (by omega) a (by omega)
structure OpH where
 kind:Int
 n:Int
 m:Int
 code:Bs
 o:Op3
 pairs:Value
 cuts:Value
 done:Bool
def OpH.cells(x:OpH):List Value:=[.int .i64 x.kind,.int .i64 x.n,.int .i64 x.m,.string ⟨x.code.toArray⟩,.int .i64 x.o.width,.int .i64 x.o.chunks,.int .i64 x.o.mode,x.pairs,x.cuts,.bool x.done]
def upC(u:Up):List Value:=[.int .i64 u.seq,.int .i64 u.kind,.int .i64 u.id,.string ⟨u.code.toArray⟩]
def QN(x:OpH)(seq:Int):Up × Bool:=if x.kind=3 then(⟨seq,1,x.n,x.code⟩,true)else if x.kind=4 then(⟨seq,2,x.n,[]⟩,true)else(⟨0,0,0,[]⟩,false)
theorem ya9(x:OpH)(seq:Int):Calls prog 8 #[.agg x.cells.toArray,OI seq] w (Vd (.tuple #[.agg (upC (QN x seq).1).toArray,.bool (QN x seq).2]) w):=by
 unfold QN;obtain⟨c,n,m,b,⟨M,I,N⟩,J,K,L⟩:=x;have q:=((St.refl w).alloc (.cells (OpH.cells ⟨c,n,m,b,⟨M,I,N⟩,J,K,L⟩).toArray 40)).alloc (.cells #[OI 0,OI 0,OI 0,.string ⟨#[]⟩] 35);rw[jF]at q;obtain⟨C,u⟩:=EN w.heap.size;rw[<-u]at q;obtain⟨F,G⟩:=Hi2 q u;clear q u;unfold OpH.cells at *;simp only at *;go_enter func8,ntmps8;go_upto_region 1 with fail
 rw[<-G.o];refine F.o.nameC ?_;clear F G;intro s d;obtain⟨D,E,A⟩:=d.tail.k3 0 1 3;obtain⟨y,B,t,z⟩:=d.f4 0 1 2 3;obtain⟨l,r,k,p⟩:=d.k4 0 1 2 3;simp at l r k p;have j:=Hi d;clear d;by_cases k3:c=3
 .subst k3;simp only[JV];have i:=Hi ((((j.o.set 0 (OI seq)).set 1 (OI 1)).set 2 (OI n)).set 3 (OT b));go_wp2_with fail;refine i.o.nameB ?_;clear i j z y B t l r k p D E A;intro H a;obtain⟨h,f,e,g⟩:=a.k4 0 1 2 3;simp at h f e g;unfold upC;refine jP (v:=.tuple #[.agg #[OI seq,OI 1,OI n,OT b],.bool true]) ?_ rfl ⟨rfl,a.below⟩;simp[results,results8,go_sem,h,f,e,g]
 .by_cases k4:c=4
  .subst k4;simp only[k3,Jb,JV];have i:=Hi ((((j.o.set 0 (OI seq)).set 1 (OI 2)).set 2 (OI n)).set 3 (.string ⟨#[]⟩));go_wp2_with fail;refine i.o.nameB ?_;clear i j z y B t l r k p D E A;intro H a;obtain⟨h,f,e,g⟩:=a.k4 0 1 2 3;simp at h f e g;unfold upC;refine jP (v:=.tuple #[.agg #[OI seq,OI 2,OI n,.string ⟨#[]⟩],.bool true]) ?_ rfl ⟨rfl,a.below⟩;simp[results,results8,go_sem,h,f,e,g]
  .simp only[k3,k4,Jb];have i:=Hi ((((j.o.set 0 (OI 0)).set 1 (OI 0)).set 2 (OI 0)).set 3 (.string ⟨#[]⟩));go_wp2_with fail;refine i.o.nameB ?_;clear i j z y B t l r k p D E A;intro H a;obtain⟨h,f,e,g⟩:=a.k4 0 1 2 3;simp at h f e g;unfold upC;refine jP (v:=.tuple #[.agg #[OI 0,OI 0,OI 0,.string ⟨#[]⟩],.bool false]) ?_ rfl ⟨rfl,a.below⟩;simp[results,results8,go_sem,h,f,e,g]
theorem Ybh(v:Value)(l:List Pr)(u:Up)(x:Int)(H:u.kind=1\/u.kind=2)(g:qe prC 2 w v l)(P:0<=x)(O:x<=1024)(Q:u.code.length<=9223372036854775806):Calls prog 9 #[v,.agg (upC u).toArray,OI x] w (Vd (OI (Ql l u x)) w):=by
 have r:(u.id∈l.map (·.id)/\0<=VA l u.id)\/(u.id∉l.map (·.id)/\VA l u.id<0):=by
  unfold VA;by_cases h:u.id∈l.map (·.id)
  .exact .inl ⟨h,by rw[jh h];omega⟩
  .exact .inr ⟨h,by rw[jd h];omega⟩
 have a:=Hi r;obtain⟨R,z⟩:=NE (Ql l u x);rw[z];unfold Ql at z;have D:=(St.refl w).alloc (.cells (upC u).toArray 35);have t:=Hi (λ(W:World) (hb:Below w.heap.size w W)=>xay W v l u.id (g.below hb (jm _)));obtain⟨C,A⟩:=EN w.heap.size;rw[<-A]at D;obtain⟨F,L⟩:=NE (VA l u.id);rw[L]at t a;obtain⟨I,K,f⟩:=Hi3 D A z;clear D A r z L g;obtain⟨T,M,G,y⟩:=u;unfold upC at *;simp only at *;have n:=Hi H;clear H;unfold Ret at t;go_enter func9,ntmps9;go_upto_region 1 with fail
 rw[<-K.o];refine I.o.nameC ?_;clear I K;intro s p;obtain⟨U,V,S⟩:=p.k3 1 2 3;have d:=Hi (t.o s p.below);have i:=Hi p.below;have J:=zb y;have N:(0:Int)<=(y.length:Int):=by omega
 clear p t;have b:=f.o;by_cases i0:G<0
 .rw[jh (.inl i0)]at b;subst b;clear f a;go_wp2_with (go_at_call 32;refine MQ d.o ?_);go_ret;exact⟨rfl,i.o⟩
 .by_cases i1:281474976710656<G
  .rw[jh (.inr i1)]at b;subst b;clear f a;go_wp2_with (go_at_call 32;refine MQ d.o ?_);go_ret;exact⟨rfl,i.o⟩
  .rw[jd (by omega)]at b;have j:=Hi b;clear b f;rcases n.o with k|k
   .subst k;have b:=j.o;by_cases c:(y.length:Int)=x/8
    .rw[jd (λh=>h.2 c)]at b;rcases a.o with⟨e,B⟩|⟨e,B⟩
     .rw[jh ⟨rfl,e⟩]at b;subst b;clear j a e n;go_wp2_with (go_at_call 32;refine MQ d.o ?_);go_ret;exact⟨rfl,i.o⟩
     .rw[jd (λh=>e h.2),jd (λh=>absurd h.1 (by decide))]at b;subst b;clear j a e n;have E:¬ (0<=F):=by omega
      go_wp2_with (go_at_call 32;refine MQ d.o ?_);go_ret;exact⟨rfl,i.o⟩
    .rw[jh ⟨rfl,c⟩]at b;subst b;clear j a n;go_wp2_with (go_at_call 32;refine MQ d.o ?_);go_ret;exact⟨rfl,i.o⟩
   .subst k;have b:=j.o;rw[jd (λh=>absurd h.1 (by decide)),jd (λh=>absurd h.1 (by decide))]at b;rcases a.o with⟨e,B⟩|⟨e,B⟩
    .rw[jd (λh=>h.2 e)]at b;subst b;clear j a e n;have E:¬ (F<0):=by omega
     go_wp2_with (go_at_call 32;refine MQ d.o ?_);go_ret;exact⟨rfl,i.o⟩
    .rw[jh ⟨rfl,e⟩]at b;subst b;clear j a e n;go_wp2_with (go_at_call 32;refine MQ d.o ?_);go_ret;exact⟨rfl,i.o⟩
theorem zaZ:∃i,prog.info? 86=some i/\∃z,i.zero=some z/\i.size=2/\z.cells.size=2/\∃by_,i.bytes=by_/\by_<=128:=by
 have h:(prog.info? 86).map (λi=>(i.zero.map (λz=>z.cells.size),i.size,decide (i.bytes<=128)))=some (some 2,2,true):=by kernel_rfl
 obtain⟨i,e,b⟩:=jL.1 h;simp only[Je,jL,jG]at b;obtain⟨⟨z,f,a⟩,c,d⟩:=b;exact⟨i,e,z,f,c,a,_,rfl,d⟩
def qas(l:List Pr)(w:World)(e:Ending)(w':World):Prop:=∃v F,e=.returned v/\Rw 86 2 v l.length (l.flatMap prC) F/\St w w' F
theorem St.nameX{K:Act->World->Prop}{b:Exit}{a:Act}(h:St V W F)(k:∀W',St V W' F->Exit.then K Q b a W'):Exit.then K Q b a W:=k W h
theorem xao(h:Rw T 2 v (p.length+1) (p.flatMap prC++[OI x,Value.string (ByteArray.mk s.toArray)]) F):Rw T 2 v (p++[(⟨x,s⟩:Pr)]).length ((p++[(⟨x,s⟩:Pr)]).flatMap prC) F:=by
 rw[ja,jD];exact h
theorem xa9(h:Rw T 2 v (p.length+1+1) ((p.flatMap prC++[OI x,Value.string (ByteArray.mk s.toArray)])++[OI y,Value.string (ByteArray.mk t.toArray)]) F):Rw T 2 v ((p++[(⟨x,s⟩:Pr)])++[(⟨y,t⟩:Pr)]).length (((p++[(⟨x,s⟩:Pr)])++[(⟨y,t⟩:Pr)]).flatMap prC) F:=by
 rw[ja,ja,jD,jD];exact h
theorem Xbh(v:Value)(l:List Pr)(u:Up)(a5:qe prC 2 w v l)(hl:l.length<=1000000):Calls prog 11 #[v,.agg (upC u).toArray] w (qas (qG l u) w):=by
 obtain⟨i0,hi,z,N,K,M,A,L,af⟩:=zaZ;have ak:=Hi a5;obtain⟨ax,ae,rfl,h1,h2,_⟩:=a5;obtain⟨ao,av⟩:(l.length:Int)<=(ae:Int)/\(l.length:Int)<=1000000:=by omega
 have P:=Hi (show qG l u=xo u (decide (u.kind≠1)) l from rfl);obtain⟨R,hR⟩:=NE (qG l u);rw[hR]at P|-
 have hA:=(St.refl w).alloc (.cells (upC u).toArray 35);obtain⟨C,hC⟩:=EN w.heap.size;rw[<-hC]at hA;obtain⟨HA,HC⟩:=Hi2 hA hC;have am:=Hi (show xo u (decide (u.kind≠1)) l=xo u (decide (u.kind≠1)) l from rfl);obtain⟨p0,a7⟩:=NE (decide (u.kind≠1));rw[a7]at P;have ag:(u.kind != 1)=p0:=by rw[<-a7];by_cases h:u.kind=1<;>simp[h]
 have O:=Hi (λ(put:Bool) (p:Pr) (r:List Pr)=>show xo u put (p::r)=(if put=false/\u.id<p.id then[⟨u.id,u.code⟩]else[])++((if p.id≠u.id then[p]else[])++xo u (put||decide (u.id<p.id)) r)from rfl);have a4:=Hi (λ(put:Bool)=>show xo u put []=if put then[]else[⟨u.id,u.code⟩]from rfl);have ac:=Hi ag;clear hR hA hC h2 a7 am ag;obtain⟨AP,aa⟩:=EN (xo u);rw[<-aa]at P O a4;obtain⟨us,uk,D,T⟩:=u;clear aa;unfold upC at *;simp only at *;go_enter func11,ntmps11;go_upto_region 1 with fail
 rw[<-HC.o];refine HA.o.nameC ?_;clear HA HC;intro w1 b;have V:=b.cellH 1;have ab:=Hi b;clear b;go_upto_region 4 with fail
 rw[ac.o];clear V ac;go_loopw [5,6,7] (λov pv iv wr=>∃(k:Nat) (d:List Pr) (put:Bool) (F:va),k<=l.length/\iv=OI (k:Int)/\pv=.bool put/\Rw 86 2 ov d.length (d.flatMap prC) F/\d.length<=2*k/\R=d++AP put (l.drop k)/\St w wr (F++[(C,.cells #[OI us,OI uk,OI D,OT T] 35)])) (λ_ _ iv _=>l.length-(intOf iv).toNat)
 case atStart=>exact⟨0,[],p0,[],jX _,rfl,rfl,Rw.nil _ _,jX _,by rw[Ju];exact P.o,ab.o⟩
 case round =>
  clear ab P;obtain⟨k,d,put,F,hk,rfl,rfl,hR,aq,a,b⟩:=hrel;obtain⟨ad,X,rfl,_⟩:=hR.form;have ar:(0:Int)<=(k:Int):=by omega
  have Z:=b.appR;obtain⟨V,t,G⟩:=Z.k3 1 2 3;have a0:(d.length+1)*A<=140737488355328:=jI (Jg (show d.length+1<=3000000 by omega) af) (by decide);have aj:(d.length+1+1)*A<=140737488355328:=jI (Jg (show d.length+1+1<=3000000 by omega) af) (by decide);have Y:d.length+1<=maxLen:=by unfold maxLen;omega
  have ah:d.length+1+1<=maxLen:=by unfold maxLen;omega
  obtain⟨HR,f,Q⟩:=Hi3 hR b a;clear hR Z a;by_cases hlt:k<l.length
  .have aw:(k:Int)<(l.length:Int):=by omega
   obtain⟨g,o,c,hv,U⟩:=ak.o.fld Y9 k hlt;injection hv with e1 e2 e3
   subst e1;subst e3;clear e2;have a8:l.drop k=l[k]::l.drop (k+1):=jR hlt;obtain⟨p,hp⟩:=NE (l[k]);rw[hp]at U a8;obtain⟨J,pc⟩:=p;have c0:w.cell? ⟨g,o+k*2,none⟩=some (OI J):=by have:=U 0 _ rfl;simpa using this
   have c1:w.cell? ⟨g,o+k*2+1,none⟩=some (OT pc):=by have:=U 1 _ rfl;simpa [j9] using this
   obtain⟨S,C1⟩:=Hi2 c0 c1;have q:OV wr g (o+k*2) (OI J):=b.old c0;have s:OV wr g (o+k*2+1) (OT pc):=b.old c1;have a:=Q.o;rw[a8,O.o put]at a;have n:=Hi a;clear U a8 hp a Q b c0 c1;cases put with
   |true =>
    have a:=n.o;simp only[kU,false_and,Jb,jK,Bool.true_or]at a;by_cases y:J=D
    .rw[jd (λh=>h y),jK]at a;have e:=Hi a;clear a n;go_upto_region 6 with fail
     go_quiet (fail);refine(f.o.drewN nq).nameX ?_;clear q s V t G f;intro I b;have t:=b.appR.cellH 2;have q:=b.old S.o;have f:=Hi b;clear b;go_upto_region 9 with fail
     go_quiet (fail);have ai:=Hi (f.o.drewN nq);go_wp2_with fail;exact⟨⟨k+1,d,true,F,by omega,by go_num,rfl,HR.o,by omega,e.o,ai.o⟩,by simp[intOf];omega⟩
    .rw[jh y]at a;have e:=Hi a;clear a n;go_upto_region 6 with fail
     go_quiet (fail);refine(f.o.drewN nq).nameX ?_;clear q s V t G f;intro I b;obtain⟨t,G⟩:=b.appR.k2 2 3;have q:=b.old S.o;have s:=b.old C1.o;have f:=Hi b;clear b;go_upto_region 9 with fail
     go_quiet (fail);refine(f.o.drewN nq).nameX ?_;clear q s t G f;intro w3 b;have q:=b.old S.o;have s:=b.old C1.o;have f:=Hi b;clear b;go_wp2_with (at_builtin;refine xh (W0:=w) (by rfl) _ _ 33 (by rfl) 86 i0 z 2 A underlying33 hi N K L M (by decide) (.slice ad d.length X) (d.length) _ _ _ (by rfl) HR.o f.o 1 _ [OI J,OT pc] (by rfl) (by rfl) (by rfl) (by intro x E;simp at E;rcases E with rfl|rfl<;>rfl) Y a0 ?_;intro v7 W7 F7 i j;obtain⟨W,H,rfl,_⟩:=i.form;have B:=Hi (xao i);have m:=Hi j;clear i j);exact⟨⟨k+1,d++[⟨J,pc⟩],true,F7,by omega,by go_num,rfl,B.o,by simp;omega,by rw[e.o];simp,m.o⟩,by simp[intOf];omega⟩
   |false =>
    have a:=n.o;by_cases hlt2:D<J
    .have y:¬ (J=D):=by omega
     rw[jh ⟨rfl,hlt2⟩,jh y,U6 hlt2]at a;have e:=Hi a;clear a n;go_upto_region 6 with fail
     go_quiet (fail);refine(f.o.drewN nq).nameX ?_;clear q s V t G f;intro I b;obtain⟨t,G⟩:=b.appR.k2 2 3;have q:=b.old S.o;have s:=b.old C1.o;have f:=Hi b;clear b;go_upto_region 8 with(at_builtin;refine xh (W0:=w) (by rfl) _ _ 33 (by rfl) 86 i0 z 2 A underlying33 hi N K L M (by decide) (.slice ad d.length X) (d.length) _ _ _ (by rfl) HR.o f.o 1 _ [OI D,OT T] (by rfl) (by rfl) (by rfl) (by intro x E;simp at E;rcases E with rfl|rfl<;>rfl) Y a0 ?_;intro v7 W7 F7 i j;obtain⟨W,H,rfl,_⟩:=i.form;obtain⟨B,m⟩:=Hi2 i j;clear i j)
     clear q s t G f HR;have t:=m.o.appR.cellH 2;have q:=m.o.old S.o;have s:=m.o.old C1.o;go_upto_region 9 with fail
     go_quiet (fail);refine(m.o.drewN nq).nameX ?_;clear q s t m;intro w3 b;have q:=b.old S.o;have s:=b.old C1.o;have f:=Hi b;clear b;go_wp2_with (at_builtin;refine xh (W0:=w) (by rfl) _ _ 33 (by rfl) 86 i0 z 2 A underlying33 hi N K L M (by decide) (.slice W (d.length+1) H) (d.length+1) _ _ _ (by rfl) B.o f.o 1 _ [OI J,OT pc] (by rfl) (by rfl) (by rfl) (by intro x E;simp at E;rcases E with rfl|rfl<;>rfl) ah aj ?_;intro v8 W8 F8 a6 a9;obtain⟨au,ap,rfl,_⟩:=a6.form;have an:=Hi (xa9 a6);have al:=Hi a9;clear a6 a9);exact⟨⟨k+1,(d++[⟨D,T⟩])++[⟨J,pc⟩],true,F8,by omega,by go_num,rfl,an.o,by simp;omega,by rw[e.o];simp,al.o⟩,by simp[intOf];omega⟩
    .rw[jd (λh=>hlt2 h.2),J8 hlt2,jK]at a;simp only[Bool.or_false]at a;by_cases y:J=D
     .rw[jd (λh=>h y),jK]at a;have e:=Hi a;clear a n;go_upto_region 6 with fail
      go_quiet (fail);refine(f.o.drewN nq).nameX ?_;clear q s V t G f;intro I b;obtain⟨t,G⟩:=b.appR.k2 2 3;have q:=b.old S.o;have s:=b.old C1.o;have f:=Hi b;clear b;go_upto_region 9 with fail
      go_quiet (fail);refine(f.o.drewN nq).nameX ?_;clear q s t G f;intro w3 b;have q:=b.old S.o;have s:=b.old C1.o;have f:=Hi b;clear b;go_wp2_with fail;exact⟨⟨k+1,d,false,F,by omega,by go_num,rfl,HR.o,by omega,e.o,f.o⟩,by simp[intOf];omega⟩
     .rw[jh y]at a;have e:=Hi a;clear a n;go_upto_region 6 with fail
      go_quiet (fail);refine(f.o.drewN nq).nameX ?_;clear q s V t G f;intro I b;obtain⟨t,G⟩:=b.appR.k2 2 3;have q:=b.old S.o;have s:=b.old C1.o;have f:=Hi b;clear b;go_upto_region 9 with fail
      go_quiet (fail);refine(f.o.drewN nq).nameX ?_;clear q s t G f;intro w3 b;have q:=b.old S.o;have s:=b.old C1.o;have f:=Hi b;clear b;go_wp2_with (at_builtin;refine xh (W0:=w) (by rfl) _ _ 33 (by rfl) 86 i0 z 2 A underlying33 hi N K L M (by decide) (.slice ad d.length X) (d.length) _ _ _ (by rfl) HR.o f.o 1 _ [OI J,OT pc] (by rfl) (by rfl) (by rfl) (by intro x E;simp at E;rcases E with rfl|rfl<;>rfl) Y a0 ?_;intro v7 W7 F7 i j;obtain⟨W,H,rfl,_⟩:=i.form;have B:=Hi (xao i);have m:=Hi j;clear i j);exact⟨⟨k+1,d++[⟨J,pc⟩],false,F7,by omega,by go_num,rfl,B.o,by simp;omega,by rw[e.o];simp,m.o⟩,by simp[intOf];omega⟩
  .obtain rfl:k=l.length:=by omega
   have a:=Q.o;rw[Uz,a4.o]at a;cases put with
   |true =>
    simp only[JV,jJ]at a;subst a;clear Q V t G b;go_wp2_with fail;go_ret;exact⟨_,F,rfl,HR.o,f.o.appL⟩
   |false =>
    have e:=Hi a;clear Q V b a;go_wp2_with (at_builtin;refine xh (W0:=w) (by rfl) _ _ 33 (by rfl) 86 i0 z 2 A underlying33 hi N K L M (by decide) (.slice ad d.length X) (d.length) _ _ _ (by rfl) HR.o f.o 1 _ [OI D,OT T] (by rfl) (by rfl) (by rfl) (by intro x E;simp at E;rcases E with rfl|rfl<;>rfl) Y a0 ?_;intro v7 W7 F7 i j;obtain⟨W,H,rfl,_⟩:=i.form;have B:=Hi (xao i);have m:=Hi j;clear i j);go_ret;have:=e.o;simp only[JD,Jb]at this;rw[this];exact⟨_,F7,rfl,B.o,m.o.appL⟩
def vao(v:Int)(w:World)(e:Ending)(w':World):Prop:=e=.returned (.int .i64 v)/\Below w.heap.size w w'
theorem Vbh(o:Op3)(j:Nat)(a:Bs)(G:Qb o=0)(Z:(a.length:Int)=o.width/8)(N:j<Qd o):
  Calls prog 44 #[.agg #[OI o.width,OI o.chunks,OI o.mode],OI (j:Int),qa a] w (vao (Yf o j a) w):=by
 obtain⟨X,g2⟩:=yf G;have l:=Hi (λb=>zo G b);obtain⟨w0,w1,O⟩:=Xd.1 X;have m:=Hi (λb=>qL (o:=o) b a);have p:=Hi (λb=>show(vm o a).length=o.chunks.toNat by rw[zS,Xw b]);have d:=Hi (show(vm o a)[j]?=some (Yf o j a)from V5 N);have h:=Hi (λ(z:o.mode=2)=>show Yf o j a=0 by unfold Yf;rw[jh z]);have E:=(St.refl w).alloc (.cells #[OI o.width,OI o.chunks,OI o.mode] 23);obtain⟨V,Y⟩:=NE (Yf o j a);rw[Y]at d h|-
 have B:=Hi (λb=>show j<o.chunks.toNat by rw[<-Xw (o:=o) b];exact N);obtain⟨D,P,om⟩:=o;simp only at *;obtain⟨C,A⟩:=EN w.heap.size;rw[<-A]at E;obtain⟨R,i⟩:=Hi2 E A;clear E A Y G N X;unfold qa;go_enter func44,ntmps44;go_upto_region 1 with fail
 rw[<-i.o];refine R.o.nameC ?_;clear R i;intro c u;obtain⟨a0,a1,a2⟩:=u.k3 0 1 2;have H:=Hi u;clear u;rcases g2 with⟨z,c0⟩|⟨b,p1,p2⟩
 .have t:=h.o z;subst c0 z;have J:=Hi t;clear t m p l d h B;go_wp2_with fail;go_ret;rw[J.o];exact⟨rfl,H.o.below⟩
 .have t:=m.o b;have f:=p.o b;have k:=d.o;have r:=B.o b;rw[t]at f k;have x:=l.o b;have i:=Hi (V9 c D P a (by omega) (by omega) (by omega) (by omega) (by omega));unfold Vo Qt at i;simp only[x,Z,JW,jW,Jb]at i;obtain⟨L,T⟩:=NE (yu D.toNat P.toNat a);rw[T]at i f k;rw[<-f]at i r;have F:=Hi k;obtain⟨a3,a5,a4⟩:(j:Int)<(L.length:Int)/\(0:Int)<=(j:Int)/\(L.length:Int)<=1000000:=by omega
  subst b;clear t f T Z x h m p l k B r d;unfold qa at i;go_upto_region 4 with(go_at_call 101;refine i.o.mono ?_;rintro e' O ⟨v2,F2,rfl,y,s⟩;obtain⟨q,n⟩:=Hi2 y s;clear y s)
  obtain⟨g,cg,Q,v⟩:=q.o.cells (W0:=c) (W:=O) (M:=[]) (by rw[jJ];exact n.o) (by intro e;have:=jT List.length e;simp only[xg,jz,jA]at this;omega);obtain⟨ad,cp,U,K,_⟩:=q.o.form;rw[Q]at U;injection U with e1 e2 hcc
  subst e1;subst hcc;subst Q;clear e2;have S:(L.length:Int)<=(cg:Int):=by omega
  have d0:OV O g j (OI V):=v j _ (by unfold xg;rw[jZ,F.o];rfl);have I:=Hi n.o.below;clear q n v K a0 a1 a2;go_wp2_with fail;go_ret;exact⟨rfl,H.o.below.trans (I.o.mono H.o.sz)⟩
def XX(e x:En):Prop:=Xg x.code e.code<0\/(x.code=e.code/\x.id<e.id)
theorem qao(e x:En):yb x.zero e.zero<0<->XX e x:=by
 unfold yb XX En.zero;simp only[JW,jW,Jb];by_cases h:x.code=e.code
 .rw[jd (λk=>k h),h,Qw];unfold Vi;constructor
  .intro k;split at k
   .exact .inr ⟨rfl,by assumption⟩
   .split at k<;>omega
  .rintro(k|⟨_,k⟩)
   .omega
   .rw[jh k];decide
 .rw[jh h];constructor
  .exact λk=>.inl k
  .rintro(k|⟨k,_⟩)
   .exact k
   .exact absurd k h
theorem VX(e:En):∀(l:List En) (k:Nat),k<=l.length->(∀j,j<k->∀h:j<l.length,XX e l[j])->xr e l=l.take k++xr e (l.drop k)
 |l,0,_,_=>by simp
 |[],k+1,h,_=>by simp at h
 |x::r,k+1,h,hl=>by
  have a:=hl 0 (by omega) (by simp);have b:=VX e r k (by simpa using h) (λj d c=>by
   have:=hl (j+1) (by omega) (by simpa using c);simpa using this)
  rw[UG,U9,jO,<-b]
  conv=>lhs;unfold xr
  rw[jh ((qao e x).2 a)]
theorem Xaf(e:En)(l:List En)(k:Nat)(a:k<=l.length)(b:∀j,j<k->∀h:j<l.length,XX e l[j])(g:∀h:k<l.length,¬ XX e l[k]/\¬ (l[k].code=e.code/\l[k].id=e.id)):xr e l=l.take k++e.zero::l.drop k:=by
 rw[VX e l k a b]
 congr 1
 by_cases h:k<l.length
 .obtain⟨f,d⟩:=g h;rw[jR h];unfold xr;rw[jd (λc=>f ((qao _ _).1 c)),jd d]
 .rw[Ut (by omega)];rfl
theorem yaZ(e:En)(l:List En)(k:Nat)(a:k<l.length)(f:∀j,j<k->∀h:j<l.length,XX e l[j])(b:l[k].code=e.code)(d:l[k].id=e.id):xr e l=l.set k (if l[k].seq<e.seq then e.zero else l[k]):=by
 rw[VX e l k (by omega) f,Ke,jh a]
 congr 1
 rw[jR a]
 conv=>lhs;unfold xr
 rw[jd (λc=>by
  rcases(qao _ _).1 c with c|⟨_,c⟩
  .rw[b,Qw]at c;omega
  .omega),jh ⟨b,d⟩]
theorem Rw.put5{F M:va}{W0 W:World}(h:Rw T k v n X F)(q:St W0 W (F++M))(j:Nat)(s:j+4<X.length):
  ∃g a,v=.slice (some ⟨g,0,none⟩) n a/\(∀i,i<X.length->W.cell? ⟨g,i,none⟩=X[i]?)/\(∀i,W.frozen? ⟨g,i,none⟩=false)/\∀b d m f c,∃F',Rw T k v n (((((X.set j b).set (j+1) d).set (j+2) m).set (j+3) f).set (j+4) c) F'/\St W0 (((((W.setCell ⟨g,j,none⟩ b).setCell ⟨g,j+1,none⟩ d).setCell ⟨g,j+2,none⟩ m).setCell ⟨g,j+3,none⟩ f).setCell ⟨g,j+4,none⟩ c) (F'++M):=by
 obtain⟨p,t⟩:=h;rcases t with⟨rfl,rfl,rfl⟩|⟨g,a,o,rfl,rfl,x,u,w,r⟩
 .simp at p;simp[p]at s
 .refine⟨g,a,rfl,λi y=>?_,λi=>q.freeH i,λb d m f c=>⟨[(g,.cells (((((o.setIfInBounds j b).setIfInBounds (j+1) d).setIfInBounds (j+2) m).setIfInBounds (j+3) f).setIfInBounds (j+4) c) T)],⟨by simpa using p,.inr ⟨g,a,_,rfl,rfl,x,u,by simpa using w,?_⟩⟩,?_⟩⟩
  .rw[q.cellH,<-r,JT (by omega),J3]
  .simp only[J5,List.take_set,r]
  .exact((((q.set j b).set (j+1) d).set (j+2) m).set (j+3) f).set (j+4) c
theorem va9(A:List Value)(d e f g c b a b2 b3 b4:Value)(C:List Value):(((((A++d::e::f::g::c::C).set A.length b).set (A.length+1) a).set (A.length+2) b2).set (A.length+3) b3).set (A.length+4) b4=A++b::a::b2::b3::b4::C:=by
 induction A with
 |nil=>rfl
 |cons x r ih =>
  simp only[jO,jk,jj,Nat.add_right_comm _ 1];rw[ih]
theorem Vaf(l:List En)(k:Nat)(b:k<l.length)(x:En):((((((l.flatMap enV).set (k*5) (OI x.value)).set (k*5+1) (qa x.code)).set (k*5+2) (OI x.id)).set (k*5+3) (OI x.seq)).set (k*5+4) (.bool x.dead))=(l.set k x).flatMap enV:=by
 have c:l=l.take k++l[k]::l.drop (k+1):=by rw[<-jR b,Ja]
 have a:((l.take k).flatMap enV).length=k*5:=by rw[vg Qe,jN,Uy (by omega)]
 obtain⟨y,d⟩:=NE (l[k]);rw[show l.set k x=l.take k++x::l.drop (k+1) by rw[Ke,jh b]]
 conv=>lhs;rw[c]
 rw[d,jD,jD,jB,jB,<-a];exact va9 _ _ _ _ _ _ _ _ _ _ _ _
end Go.Proofs.YtekkihmmclencaaGreatDoor
