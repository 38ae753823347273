import Derived.Test.YtekkihmmclencaaGreatDoorM11
namespace Go.Proofs.YtekkihmmclencaaGreatDoor
set_option linter.all false
set_option maxRecDepth 100000
set_option maxHeartbeats 40000000
open Tryz
open Go Go.RowKit Go.Sort Go.Shelf
variable(w:World)(q c:Nat){W V Z:World}{n b k i:Nat}{v:Value}{F G:va}{l:List En}
def YP(h:Hd)(l:List En)(w:World)(e:Ending)(w':World):Prop:=∃f:FlH,f.h=h/\f.l=l/\f.ok/\e=.returned (.tuple #[za f.b,.int .i64 0])/\St w w' f.frag
theorem YP.mk{h:Hd}{a:Option Addr}(c:Rw 137 5 v l.length (l.flatMap enV) F)(d:St W V ((b,.cells #[OI h.width,OI h.table,OI h.bits,OI h.lo,OI h.hi,OI h.count,v,.slice a n k,OI 0] 284)::F)):YP h l W (.returned (.tuple #[OQ b,OI 0])) V :=
 ⟨⟨b,h,l,v,F,.slice a n k,0⟩,rfl,rfl,⟨c,_,_,_,rfl⟩,rfl,d⟩
def zD(h:Hd)(v lv:Value):Array Value:=#[.int .i64 h.width,.int .i64 h.table,.int .i64 h.bits,.int .i64 h.lo,.int .i64 h.hi,.int .i64 h.count,v,lv,.int .i64 0]
theorem zaV(h:Hd)(a b v:Value):(zD h a b).setIfInBounds 6 v=zD h v b:=rfl
theorem zaL(h:Hd)(a b v:Value):(zD h a b).setIfInBounds 7 v=zD h a v:=rfl
def VM(h:Hd):Array Value:=#[.int .i64 h.width,.int .i64 h.table,.int .i64 h.bits,.int .i64 h.lo,.int .i64 h.hi,.int .i64 h.count]
theorem vaj{e W:World}{C d:Nat}{N:va}{h:Hd}{a b:Value}(c:St e W ((d,.cells (zD h a b) 284)::(C,.cells (VM h) 212)::N)):
  OV W C 0 (OI h.width)/\OV W C 1 (OI h.table)/\OV W C 2 (OI h.bits)/\OV W C 3 (OI h.lo)/\OV W C 4 (OI h.hi)/\OV W C 5 (OI h.count)/\OV W d 6 a :=
 ⟨c.tail.cellH 0,c.tail.cellH 1,c.tail.cellH 2,c.tail.cellH 3,c.tail.cellH 4,c.tail.cellH 5,c.cellH 6⟩
theorem vaD{d W:World}{C c:Nat}{N:va}{h:Hd}{a b v:Value}(e:St d W ((c,.cells (zD h a b) 284)::(C,.cells (VM h) 212)::N)):
  (W.setCell ⟨c,7,none⟩ v).cell? ⟨C,0,none⟩=some (OI h.width)/\(W.setCell ⟨c,7,none⟩ v).cell? ⟨C,1,none⟩=some (OI h.table)/\(W.setCell ⟨c,7,none⟩ v).cell? ⟨C,2,none⟩=some (OI h.bits)/\(W.setCell ⟨c,7,none⟩ v).cell? ⟨C,3,none⟩=some (OI h.lo)/\(W.setCell ⟨c,7,none⟩ v).cell? ⟨C,4,none⟩=some (OI h.hi)/\(W.setCell ⟨c,7,none⟩ v).cell? ⟨C,5,none⟩=some (OI h.count)/\(W.setCell ⟨c,7,none⟩ v).cell? ⟨c,6,none⟩=some a :=
 vaj (b:=v) (by have:=e.set 7 v;exact this)
theorem qaj:∀(fuel:Nat) (b:Bs) (at':Nat),(qm fuel b at').1.length<=b.length
 |0,b,at'=>by simp[qm]
 |f+1,b,at'=>by
  unfold qm;split
  .simp
  .rename_i k p n a
   obtain⟨c,d,_⟩:=Vao a;have:=qaj f (b.drop n) (at'+n);rw[jQ]at this;simp only[jk];omega
theorem xbm(h:Hd)(l:List En)(m:Vm h l=0)(hc:h.count=l.length)(ht:zg w):
  Calls prog 212 #[qa (Xk h l)] w (YP h l w):=by
 have hO:=QA.of m;obtain⟨i0,hi,z,hz,b3,bd,aw,b7,b8⟩:=yK;obtain⟨b1,aZ,b9,_⟩:=qE hO.head;have b0:=hO.many;have ak:=QZ m;obtain⟨L,Z,hL,M,aa,aG,b6⟩:=QaK m;have u:=qaj ((Xk h l).length+1) (Xk h l) 0;rw[hL]at u;simp only at u;have H:=Hi (Ya5 w (Xk h l) (by omega) ht);rw[hL]at H;have a1:=Hi (λW=>VaK W h hO.head (by omega) (by omega));rw[show h.count.toNat=l.length by omega]at a1;have ag:=Hi (λW lv hr ht=>Zam W h l lv m hr ht);have a5:=Hi (λW lv hr ht=>vaG W h l lv hO.hwrit hr hO.writ hO.many ht);obtain⟨r,ae⟩:=b6;obtain⟨ah,aA,ay,HT,bv⟩:=Hi5 M aa aG ht ae;have a3:∃al R,L=(4,Yk h l.length,al)::R:=by
  rw[ae]at M;rcases L with _|⟨⟨a,b,c⟩,R⟩
  .simp at M
  .simp only[ju,List.cons.injEq,Je]at M;obtain⟨⟨rfl,rfl⟩,_⟩:=M;exact⟨c,R,rfl⟩
 obtain⟨al,R,U⟩:=a3;obtain⟨b,aW⟩:=NE (Xk h l);unfold ZE at a5;rw[aW]at ak u H ag a5|-
 have bq:=zb b;have bn:(b.length:Int)<=1000000000:=by omega
 have ao:0<L.length:=by rw[U];simp
 clear hL M aa aG ae ht aW hO;unfold yaj at H;simp only at H;unfold qa at H;unfold qa;go_enter func212,ntmps212;go_upto_region 2 with(go_at_call 258;refine H.o.mono ?_;rintro e' w1 ⟨v0,F0,rfl,aU,aB⟩;obtain⟨aY,af⟩:=Hi2 aU aB;clear aU aB)
 have hK:=aY.o.rowK0 (λx=>by simp[frV]) af.o;have HK:=Hi hK;obtain⟨g,o,bA,bi,Q⟩:=hK.fld ZaG 0 ao;have a3:L[0]=(4,Yk h l.length,al):=by simp[U]
 rw[a3]at Q;simp only[KT,Jp]at Q;subst bi;have c0:OV w1 g o (OI 4):=Q 0 _ rfl;have c1:OV w1 g (o+1) (qa (Yk h l.length)):=Q 1 _ rfl;clear hK Q a3;have bs:(0:Int)<(L.length:Int):=by omega
 have bu:¬ ((L.length:Int)=0):=by omega
 have bC:¬ (L=[]):=by rw[U];simp
 obtain⟨bw,Hc⟩:=Hi2 U hc;clear U hc;unfold qa at c1 a1;unfold ZP hdV at a1;go_upto_region 5 with(go_at_call 259;refine(a1.o _).mono ?_;rintro e' w2 ⟨rfl,aF⟩;have a4:=Hi (((St.refl w1).callB aF).alloc (.cells (VM h) 212));clear aF)
 obtain⟨C,hC⟩:=EN w2.heap.size;rw[<-hC]at a4|-
 unfold VM at a4;refine a4.o.nameC ?_;clear a4 hC;intro n s;have k0:OV n C 0 (OI h.width):=s.cellH 0;have k1:OV n C 1 (OI h.table):=s.cellH 1;have k2:OV n C 2 (OI h.bits):=s.cellH 2;have k3:OV n C 3 (OI h.lo):=s.cellH 3;have k4:OV n C 4 (OI h.hi):=s.cellH 4;have k5:OV n C 5 (OI h.count):=s.cellH 5;have i:=Hi (s.alloc (.cells (zD h (.slice none 0 0) (.slice none 0 0)) 284));clear s;go_upto_region 8 with(fail)
 obtain⟨N,aS⟩:=EN n.heap.size;rw[<-aS]at i|-
 unfold zD at i;refine i.o.nameC ?_;clear i aS k0 k1 k2 k3 k4 k5 c0 c1;intro w4 aR;have aI:=Hi aR;clear aR;go_wp2_with fail;go_loopw [51] (λiv wr=>∃(k:Nat) (e:List En) (J:Option Addr) (K:Nat) (F:va),k<=L.length/\iv=OI (k:Int)/\e=(Z.take k).flatMap (·.2)/\Rw 137 5 (.slice J e.length K) e.length (e.flatMap enV) F/\St w1 wr ((N,.cells (zD h (.slice J e.length K) (.slice none 0 0)) 284)::(C,.cells (VM h) 212)::F)) (λiv _=>L.length-(intOf iv).toNat)
 case atStart=>exact⟨0,[],none,0,[],jX _,rfl,rfl,Rw.nil _ _,aI.o⟩
 case round =>
  clear aI;obtain⟨k,e,J,K,F,hk,rfl,E,hR,G⟩:=hrel;have HR:=Hi hR;by_cases hlt:k<L.length
  .obtain⟨g',o',bo,bg,hc⟩:=HK.o.fld ZaG k hlt;injection bg with e1 _ e2
   injection e1 with e1
   injection e1 with e1 e3 _
   subst e1;subst e2;subst e3;have ar:k<Z.length:=by have:=jT List.length ah.o;rw[jz,jz]at this;omega
   have aC:(L[k].1,L[k].2.1)=Z[k].1:=by
    have:=jT (λq=>q[k]?) ah.o;simp only[jZ,jt hlt,jt ar,JE,Ug]at this;exact this
   have A:=aA.o _ (Jc ar);have p:(Z.take (k+1)).flatMap (·.2)=e++Z[k].2:=by
    rw[jS ar,jD,E];simp
   have av:e.length+Z[k].2.length<=l.length:=by
    rw[<-ja,<-p,<-ay.o]
    conv=>rhs;rw[<-Ja (k+1) Z,jD,ja]
    omega
   rw[<-aC]at A;obtain⟨d,hd⟩:=NE (Z[k].2);rw[hd]at A p av;obtain⟨x,hx⟩:=NE (L[k]);rw[hx]at hc A;obtain⟨kd,pl,pt⟩:=x;have cc:∀j y,(frV (kd,pl,pt))[j]?=some y->OV wr g (o+k*3+j) y:=λj y hy=>by
    have:=hc j y hy;rw[<-j9]at this;exact G.old this
   have d0:OV wr g (o+k*3) (OI (kd:Int)):=cc 0 _ rfl;have d1:OV wr g (o+k*3+1) (qa pl):=cc 1 _ rfl;have d2:OV wr g (o+k*3+2) (OI (pt:Int)):=cc 2 _ rfl;obtain⟨bt,bz⟩:(0:Int)<=(k:Int)/\(k:Int)<(L.length:Int):=by omega
   have HQ:Hy (k+1<=L.length):=Hi (by omega);have aH:=Hi p;have O:=A.five;have X:=A.other;have aJ:=A.size;simp only at O X aJ;obtain⟨bj,bk⟩:=Hi2 O X;have f:=G.alloc (.cells (frV (kd,pl,pt)).toArray 233);obtain⟨C5,ap⟩:=EN wr.heap.size;rw[<-ap]at f;unfold frV at f;obtain⟨t,aO⟩:=Hi2 f ap;clear hR G hc cc p A O X aC E ap f hx hd;unfold qa at t d1;go_upto_region 11 with(fail)
   rw[<-aO.o];refine t.o.nameC ?_;clear t aO d0 d1 d2;intro w5 f;have d0:OV w5 C5 0 (OI (kd:Int)):=f.cellH 0;by_cases h5:kd=5
   .obtain⟨aq,aV,ba⟩:=bj.o h5;subst h5;have d1:OV w5 C5 1 (OT pl):=f.cellH 1;have hH:=f.tail.tail;have k0:OV w5 C 0 (OI h.width):=hH.cellH 0;have k1:OV w5 C 1 (OI h.table):=hH.cellH 1;have k2:OV w5 C 2 (OI h.bits):=hH.cellH 2;have k3:OV w5 C 3 (OI h.lo):=hH.cellH 3;have k4:OV w5 C 4 (OI h.hi):=hH.cellH 4;have k5:OV w5 C 5 (OI h.count):=hH.cellH 5;have ai:=Hi (λW=>ZaU W h d (h.width.toNat/8) (by omega) (by omega) aV (by rw[<-aq];exact aJ) ba);rw[<-aq]at ai;unfold yaz qa hdV at ai;have t:=Hi f;clear f hH aq aV;go_upto_region 13 with(go_at_call 260;refine(ai.o _).mono ?_;rintro e' w6 ⟨v6,F6,rfl,aN,B⟩;have a2:=Hi aN;have aj:=Hi (t.o.call B);clear aN B)
    have B:=aj.o;obtain⟨aX,a8,rfl,bb,_,an⟩:=a2.o.form;have b2:Hy (qt (.slice aX d.length a8)):=Hi a2.o.vnil;have bh:=Hi (a2.o.rowK0 (λx=>by simp[enV]) B.appL);have q6:OV w6 N 6 (.slice J e.length K):=B.appR.tail.cellH 6;have q5:OV w6 C 5 (OI h.count):=B.appR.tail.tail.cellH 5;have bp:¬ (h.count<(e.length:Int)+(d.length:Int)):=by have:=Hc.o;omega
    obtain⟨bB,aP,br⟩:(0:Int)<=(e.length:Int)/\(0:Int)<=(d.length:Int)/\(e.length:Int)+(d.length:Int)<=2097152:=by omega
    clear B bb an k0 k1 k2 k3 k4 k5 d0 d1;go_quiet (fail);refine(aj.o.drewN nq).nameE (P:=prog) ?_;clear q6 q5;intro w7 a6;have q6:OV w7 N 6 (.slice J e.length K):=a6.appR.tail.cellH 6;have bf:=Hi (a2.o.rowK0 (λx=>by simp[enV]) a6.appL);have ab:St w1 w7 (F++((N,.cells (zD h (.slice J e.length K) (.slice none 0 0)) 284)::(C,.cells (VM h) 212)::(C5,.cells #[OI ((5:Nat):Int),OT pl,OI (pt:Int)] 233)::F6)):=a6.pm CN;have bl:=Hi ab;have a7:(e.length+d.length)*aw<=140737488355328:=jI (Jg (show e.length+d.length<=2097152 by omega) b8) (by decide);have bc:e.length+d.length<=maxLen:=by unfold maxLen;omega
    clear a6 ab aj t bh;go_wp2_with (at_builtin;refine qk (W0:=w1) (by rfl) _ _ 133 (by rfl) Qe (by decide) 137 i0 z aw underlying133 hi hz b3 b7 bd (.slice J e.length K) e.length (e.flatMap enV) F _ (by rfl) HR.o bl.o (.slice aX d.length a8) d (by rfl) bf.o b2.o Vam bc a7 ?_;intro aD ac w8 F8 ax a0;have bm:=Hi ax;have p0:OV w8 N 6 (.slice J e.length K):=a0.mid.cellH 6;have p1:OZ w8 N 6:=a0.mid.freeH 6;have be:=Hi (zaV h _ _ _▸a0.mid.set 6 (.slice aD (e.length+d.length) ac));clear ax a0);refine⟨⟨k+1,e++d,aD,ac,F8,HQ.o,by go_num,aH.o.symm,?_,?_⟩,by simp[intOf];omega⟩
    .rw[ja,jD];exact bm.o
    .rw[ja];exact be.o.pmSub (D:=(C5,.cells #[OI ((5:Nat):Int),OT pl,OI (pt:Int)] 233)::F6) CN
   .have aP:=bk.o h5;have bx:¬ ((kd:Int)=5):=by omega
    have t:=Hi f;clear f;go_wp2_with fail;refine⟨⟨k+1,e,J,K,F,HQ.o,by go_num,?_,HR.o,t.o.tail⟩,by simp[intOf];omega⟩;rw[aH.o,aP,jJ]
  .obtain rfl:k=L.length:=by omega
   have az:L.length=Z.length:=by have:=jT List.length ah.o;rw[jz,jz]at this;exact this
   have b4:e=l:=by rw[E,az,J9];exact ay.o
   subst b4;clear E az;have k0:OV wr C 0 (OI h.width):=G.tail.cellH 0;have k1:OV wr C 1 (OI h.table):=G.tail.cellH 1;have k2:OV wr C 2 (OI h.bits):=G.tail.cellH 2;have k3:OV wr C 3 (OI h.lo):=G.tail.cellH 3;have k4:OV wr C 4 (OI h.hi):=G.tail.cellH 4;have k5:OV wr C 5 (OI h.count):=G.tail.cellH 5;have q6:OV wr N 6 (.slice J e.length K):=G.cellH 6;have au:zg wr:=HT.o.below ((af.o.call G).below) (jm _);have V:qe enV 5 wr (.slice J e.length K) e:=HR.o.rowK0 (λx=>by simp[enV]) G.tail.tail;have S:=Hi (λW (m:Below wr.heap.size wr W)=>ag.o W _ (V.below m (jm _)) (au.below m (jm _)));have T:=Hi (λW (m:Below wr.heap.size wr W)=>a5.o W _ (V.below m (jm _)) (au.below m (jm _)));have f0:=λd I=>jH k0 d I
   have f1:=λd I=>jH k1 d I
   have f2:=λd I=>jH k2 d I
   have f3:=λd I=>jH k3 d I
   have f4:=λd I=>jH k4 d I
   have f5:=λd I=>jH k5 d I
   have f6:=λd I=>jH q6 d I
   have HS:=Hi G;clear G au V ag a5;unfold hdV qa at S T;go_upto_region 17 with(fail)
   refine Jq (by kernel_rfl) (by kernel_rfl) ?_
   repeat(quiet_step ((go_at_call 140;exact Jh (S.o _ (Jo _ _ _)))))
   refine Ub ?_;intro _ b5;obtain⟨⟨dq,aK⟩,aE⟩:=b5;subst aE;have am:=Hi (Jo wr dq aK);obtain⟨n,aT⟩:=NE (grow (redrawn wr dq) aK);rw[aT]at am|-
   have i:=Hi (HS.o.callB am.o);clear aT f0 f1 f2 f3 f4 f5 f6 S k0 k1 k2 k3 k4 k5 q6 b1 aZ b9;go_upto_region 20 with(fail)
   have HI:=Hi (T.o n.drew (am.o.drew));have HQ:=Hi (λ(W:World) (m:Below n.drew.heap.size n.drew W)=>jy ((i.o.drew.callB m).cellH 7) ((i.o.drew.callB m).freeH 7));have HL:=Hi (λ(W:World) (m:Below n.drew.heap.size n.drew W)=>vaj (i.o.drew.callB m));have aM:=Hi (λ(W:World) (v:Value) (m:Below n.drew.heap.size n.drew W)=>vaD (v:=v) (i.o.drew.callB m));have aQ:=Hi (λ(W:World) (v:Value) (m:Below n.drew.heap.size n.drew W)=>(i.o.drew.callB m).set 7 v);unfold zD at HQ;clear T;go_region_held3 (λw'=>w'.cell? ⟨C,0,none⟩=some (.int .i64 h.width)/\w'.cell? ⟨C,1,none⟩=some (.int .i64 h.table)/\w'.cell? ⟨C,2,none⟩=some (.int .i64 h.bits)/\w'.cell? ⟨C,3,none⟩=some (.int .i64 h.lo)/\w'.cell? ⟨C,4,none⟩=some (.int .i64 h.hi)/\w'.cell? ⟨C,5,none⟩=some (.int .i64 h.count)/\w'.cell? ⟨N,6,none⟩=some (.slice J e.length K)) (first|with_reducible exact aM.o _ _ Y|with_reducible exact HL.o _ Y|with_reducible exact HL.o _ (jU _ _)|(go_keep;done)) (first|(go_at_call 206;refine HI.o.mono ?_;rintro e' w4 ⟨aL,n4,a9,rfl,Y⟩;have p0:OV w4 N 7 (.slice none 0 0):=(HQ.o w4 Y).1;have p1:=(HQ.o w4 Y).2));have HF:=Hi (af.o.call ((aQ.o w4 (.slice aL n4 a9) Y).pmSub (M':=(N,.cells (zD h (.slice J e.length K) (.slice aL n4 a9)) 284)::F) (D:=[(C,.cells (VM h) 212)]) λx=>by rw[zaL];simp only[xa,ya,OI,OT,OQ,Ya];omega));clear p0 p1 HL aM aQ HQ HI;go_wp2_with fail;go_ret2;exact YP.mk HR.o HF.o.appL
def Xe{α:Type}(T:TypeId)(k:Nat)(enc:α->List Value)(l:List α)(w:World)(e:Ending)(w':World):Prop:=∃v F,e=.returned v/\Rw T k v l.length (l.flatMap enc) F/\St w w' F
def prV(p:Pr):List Value:=[.int .i64 p.id,qa p.code]
theorem YE(p:Pr):(prV p).length=2:=rfl
theorem XaG(p:Pr):∀u∈prV p,u.oneCell'=true:=by
 intro u a;simp only[prV,qa,jp,JF,UF]at a;rcases a with rfl|rfl<;>rfl
theorem zI(p:RI):∀u∈riV p,u.oneCell'=true:=by
 intro u a;simp only[riV,jp,JF,UF]at a;rcases a with rfl|rfl|rfl|rfl<;>rfl
def pbV(b:Nat):List Value:=[za b]
theorem Vt:(pbV c).length=1:=rfl
theorem YN:∀u∈pbV c,u.oneCell'=true:=by
 intro u a;simp only[pbV,za,jp,JF,UF]at a;rcases a with rfl<;>rfl
theorem Y3:∃i,prog.info? 86=some i/\∃z,i.zero=some z/\i.size=2/\z.cells.size=2/\∃by_,i.bytes=by_/\by_<=128:=by
 have h:(prog.info? 86).map (λi=>(i.zero.map (λz=>z.cells.size),i.size,decide (i.bytes<=128)))=some (some 2,2,true):=by kernel_rfl
 obtain⟨i,e,b⟩:=jL.1 h;simp only[Je,jL,jG]at b;obtain⟨⟨z,f,a⟩,c,d⟩:=b;exact⟨i,e,z,f,c,a,_,rfl,d⟩
theorem X3:∃i,prog.info? 141=some i/\∃z,i.zero=some z/\i.size=4/\z.cells.size=4/\∃by_,i.bytes=by_/\by_<=128:=by
 have h:(prog.info? 141).map (λi=>(i.zero.map (λz=>z.cells.size),i.size,decide (i.bytes<=128)))=some (some 4,4,true):=by kernel_rfl
 obtain⟨i,e,b⟩:=jL.1 h;simp only[Je,jL,jG]at b;obtain⟨⟨z,f,a⟩,c,d⟩:=b;exact⟨i,e,z,f,c,a,_,rfl,d⟩
theorem zar:∃i,prog.info? 106=some i/\∃z,i.zero=some z/\i.size=1/\z.cells.size=1/\∃by_,i.bytes=by_/\by_<=128:=by
 have h:(prog.info? 106).map (λi=>(i.zero.map (λz=>z.cells.size),i.size,decide (i.bytes<=128)))=some (some 1,1,true):=by kernel_rfl
 obtain⟨i,e,b⟩:=jL.1 h;simp only[Je,jL,jG]at b;obtain⟨⟨z,f,a⟩,c,d⟩:=b;exact⟨i,e,z,f,c,a,_,rfl,d⟩
theorem V3(lv:Value)(l:List En)(d:qe enV 5 w lv l)(b:qt lv)(Q:l.length<=1000000000):Calls prog 197 #[lv] w (Xe 137 5 enV l w):=by
 obtain⟨I,M,z,H,v,u,h,s,m⟩:=yK;obtain⟨k,g,y,N,B,_⟩:=id d;have t:=Hi (St.refl w);obtain⟨G,J⟩:=Hi2 d b;subst y;have P:Hy (k=none->l.length=0/\g=0):=Hi (λe=>by subst e;exact b _ _ rfl);have L:∀w:World,(binOp .eql 133 (.slice none 0 0) (.slice none 0 0)).run prog w=.ok (.bool true) w:=λ_=>rfl
 have K:∀(w:World) (a:Addr) n c,(binOp .eql 133 (.slice (some a) n c) (.slice none 0 0)).run prog w=.ok (.bool false) w:=λ_ _ _ _=>rfl
 clear d b;go_enter func197,ntmps197;rcases k with _|k
 .obtain⟨O,F⟩:=P.o rfl;obtain rfl:l=[]:=Uc.1 O;subst F;simp only[jA];go_wp2_with fail;go_ret;exact⟨_,[],rfl,Rw.nil _ _,t.o⟩
 .have f:(0+l.length)*h<=140737488355328:=jI (Jg (show 0+l.length<=1000000000 by omega) m) (by decide);have q:0+l.length<=maxLen:=by unfold maxLen;omega
  have E:=Hi ((St.refl w).alloc (.cells #[] 137));have x:=Hi (G.o.below (((jU w.heap.size w).alloc (jm _) (.cells #[] 137))) (jm _));go_wp2_with (at_builtin;refine qk (W0:=w) (by rfl) _ _ 133 (by rfl) Qe (by decide) 137 I z h underlying133 M H v s u (.slice (some ⟨w.heap.size,0,none⟩) 0 0) 0 [] [(w.heap.size,.cells #[] 137)] [] (by rfl) (Rw.lit 137 5 0 w.heap.size #[] (by simp) (by unfold maxLen;omega)) E.o (.slice (some k) l.length g) l (by rfl) x.o J.o Vam q f ?_;intro C A R D i j;obtain⟨r,p⟩:=Hi2 i j;clear i j);go_ret;exact⟨_,D,rfl,by have:=r.o;rwa [Jp,jK]at this,by have:=p.o;rwa [jJ]at this⟩
theorem qK(lv:Value)(l:List RI)(d:qe riV 4 w lv l)(b:qt lv)(Q:l.length<=1000000000):Calls prog 135 #[lv] w (Xe 141 4 riV l w):=by
 obtain⟨I,M,z,H,v,u,h,s,m⟩:=X3;obtain⟨k,g,y,N,B,_⟩:=id d;have t:=Hi (St.refl w);obtain⟨G,J⟩:=Hi2 d b;subst y;have P:Hy (k=none->l.length=0/\g=0):=Hi (λe=>by subst e;exact b _ _ rfl);have L:∀w:World,(binOp .eql 62 (.slice none 0 0) (.slice none 0 0)).run prog w=.ok (.bool true) w:=λ_=>rfl
 have K:∀(w:World) (a:Addr) n c,(binOp .eql 62 (.slice (some a) n c) (.slice none 0 0)).run prog w=.ok (.bool false) w:=λ_ _ _ _=>rfl
 clear d b;go_enter func135,ntmps135;rcases k with _|k
 .obtain⟨O,F⟩:=P.o rfl;obtain rfl:l=[]:=Uc.1 O;subst F;simp only[jA];go_wp2_with fail;go_ret;exact⟨_,[],rfl,Rw.nil _ _,t.o⟩
 .have f:(0+l.length)*h<=140737488355328:=jI (Jg (show 0+l.length<=1000000000 by omega) m) (by decide);have q:0+l.length<=maxLen:=by unfold maxLen;omega
  have E:=Hi ((St.refl w).alloc (.cells #[] 141));have x:=Hi (G.o.below (((jU w.heap.size w).alloc (jm _) (.cells #[] 141))) (jm _));go_wp2_with (at_builtin;refine qk (W0:=w) (by rfl) _ _ 62 (by rfl) Zo (by decide) 141 I z h underlying62 M H v s u (.slice (some ⟨w.heap.size,0,none⟩) 0 0) 0 [] [(w.heap.size,.cells #[] 141)] [] (by rfl) (Rw.lit 141 4 0 w.heap.size #[] (by simp) (by unfold maxLen;omega)) E.o (.slice (some k) l.length g) l (by rfl) x.o J.o zI q f ?_;intro C A R D i j;obtain⟨r,p⟩:=Hi2 i j;clear i j);go_ret;exact⟨_,D,rfl,by have:=r.o;rwa [Jp,jK]at this,by have:=p.o;rwa [jJ]at this⟩
theorem yaV(lv:Value)(l:List Pr)(d:qe prV 2 w lv l)(b:qt lv)(Q:l.length<=1000000000):Calls prog 100 #[lv] w (Xe 86 2 prV l w):=by
 obtain⟨I,M,z,H,v,u,h,s,m⟩:=Y3;obtain⟨k,g,y,N,B,_⟩:=id d;have t:=Hi (St.refl w);obtain⟨G,J⟩:=Hi2 d b;subst y;have P:Hy (k=none->l.length=0/\g=0):=Hi (λe=>by subst e;exact b _ _ rfl);have L:∀w:World,(binOp .eql 33 (.slice none 0 0) (.slice none 0 0)).run prog w=.ok (.bool true) w:=λ_=>rfl
 have K:∀(w:World) (a:Addr) n c,(binOp .eql 33 (.slice (some a) n c) (.slice none 0 0)).run prog w=.ok (.bool false) w:=λ_ _ _ _=>rfl
 clear d b;go_enter func100,ntmps100;rcases k with _|k
 .obtain⟨O,F⟩:=P.o rfl;obtain rfl:l=[]:=Uc.1 O;subst F;simp only[jA];go_wp2_with fail;go_ret;exact⟨_,[],rfl,Rw.nil _ _,t.o⟩
 .have f:(0+l.length)*h<=140737488355328:=jI (Jg (show 0+l.length<=1000000000 by omega) m) (by decide);have q:0+l.length<=maxLen:=by unfold maxLen;omega
  have E:=Hi ((St.refl w).alloc (.cells #[] 86));have x:=Hi (G.o.below (((jU w.heap.size w).alloc (jm _) (.cells #[] 86))) (jm _));go_wp2_with (at_builtin;refine qk (W0:=w) (by rfl) _ _ 33 (by rfl) YE (by decide) 86 I z h underlying33 M H v s u (.slice (some ⟨w.heap.size,0,none⟩) 0 0) 0 [] [(w.heap.size,.cells #[] 86)] [] (by rfl) (Rw.lit 86 2 0 w.heap.size #[] (by simp) (by unfold maxLen;omega)) E.o (.slice (some k) l.length g) l (by rfl) x.o J.o XaG q f ?_;intro C A R D i j;obtain⟨r,p⟩:=Hi2 i j;clear i j);go_ret;exact⟨_,D,rfl,by have:=r.o;rwa [Jp,jK]at this,by have:=p.o;rwa [jJ]at this⟩
theorem Q3(lv:Value)(l:List Nat)(d:qe pbV 1 w lv l)(b:qt lv)(Q:l.length<=1000000000):Calls prog 50 #[lv] w (Xe 106 1 pbV l w):=by
 obtain⟨I,M,z,H,v,u,h,s,m⟩:=zar;obtain⟨k,g,y,N,B,_⟩:=id d;have t:=Hi (St.refl w);obtain⟨G,J⟩:=Hi2 d b;subst y;have P:Hy (k=none->l.length=0/\g=0):=Hi (λe=>by subst e;exact b _ _ rfl);have L:∀w:World,(binOp .eql 53 (.slice none 0 0) (.slice none 0 0)).run prog w=.ok (.bool true) w:=λ_=>rfl
 have K:∀(w:World) (a:Addr) n c,(binOp .eql 53 (.slice (some a) n c) (.slice none 0 0)).run prog w=.ok (.bool false) w:=λ_ _ _ _=>rfl
 clear d b;go_enter func50,ntmps50;rcases k with _|k
 .obtain⟨O,F⟩:=P.o rfl;obtain rfl:l=[]:=Uc.1 O;subst F;simp only[jA];go_wp2_with fail;go_ret;exact⟨_,[],rfl,Rw.nil _ _,t.o⟩
 .have f:(0+l.length)*h<=140737488355328:=jI (Jg (show 0+l.length<=1000000000 by omega) m) (by decide);have q:0+l.length<=maxLen:=by unfold maxLen;omega
  have E:=Hi ((St.refl w).alloc (.cells #[] 106));have x:=Hi (G.o.below (((jU w.heap.size w).alloc (jm _) (.cells #[] 106))) (jm _));go_wp2_with (at_builtin;refine qk (W0:=w) (by rfl) _ _ 53 (by rfl) Vt (by decide) 106 I z h underlying53 M H v s u (.slice (some ⟨w.heap.size,0,none⟩) 0 0) 0 [] [(w.heap.size,.cells #[] 106)] [] (by rfl) (Rw.lit 106 1 0 w.heap.size #[] (by simp) (by unfold maxLen;omega)) E.o (.slice (some k) l.length g) l (by rfl) x.o J.o YN q f ?_;intro C A R D i j;obtain⟨r,p⟩:=Hi2 i j;clear i j);go_ret;exact⟨_,D,rfl,by have:=r.o;rwa [Jp,jK]at this,by have:=p.o;rwa [jJ]at this⟩
theorem yar(w:World)(a b:Value)(l:List En)(C:qe enV 5 w a l)(A:qe enV 5 w b l)(hl:l.length<=1000000000):Calls prog 148 #[a,b] w (Vd (.bool true) w):=by
 obtain⟨K,I⟩:=Hi2 C A;obtain⟨Z,t,rfl,P,G,_⟩:=C;obtain⟨N,p,rfl,B,E,_⟩:=A;have R:(0:Int)<=(l.length:Int):=by omega
 have H:(l.length:Int)<=(t:Int):=by omega
 have O:(l.length:Int)<=(p:Int):=by omega
 have M:(l.length:Int)<=1000000000:=by omega
 have L:=Hi (jU w.heap.size w);go_enter func148,ntmps148;go_wp2_with fail;go_loopw [13] (λiv wr=>∃(k:Nat),k<=l.length/\iv=OI (k:Int)/\Below w.heap.size w wr) (λiv _=>l.length-(intOf iv).toNat)
 case atStart=>exact⟨0,jX _,rfl,L.o⟩
 case round =>
  obtain⟨k,W,rfl,q⟩:=hrel;have u:=Hi q;have J:(0:Int)<=(k:Int):=by omega
  by_cases hlt:k<l.length
  .obtain⟨g,o,c,Q,z⟩:=K.o.fld Qe k hlt;obtain⟨i,m,V,s,f⟩:=I.o.fld Qe k hlt;injection Q with e1 _ e2
   injection s with e1' _ e2'
   subst e1;subst e2;subst e1';subst e2';obtain⟨e,D⟩:=NE (l[k]);rw[D]at z f;have h:∀j x,(enV e)[j]?=some x->wr.cell? ⟨g,o+k*5+j,none⟩=some x:=λj x y=>by
    have:=z j x y;rw[<-j9]at this;rw[q.cell (jM w _ this)];exact this
   have d:∀j x,(enV e)[j]?=some x->wr.cell? ⟨i,m+k*5+j,none⟩=some x:=λj x y=>by
    have:=f j x y;rw[<-j9]at this;rw[q.cell (jM w _ this)];exact this
   have d0:wr.cell? ⟨g,o+k*5,none⟩=some (OI e.value):=h 0 _ rfl;have Y:wr.cell? ⟨g,o+k*5+1,none⟩=some (qa e.code):=h 1 _ rfl;have S:wr.cell? ⟨g,o+k*5+2,none⟩=some (OI e.id):=h 2 _ rfl;have T:wr.cell? ⟨g,o+k*5+3,none⟩=some (OI e.seq):=h 3 _ rfl;have d4:wr.cell? ⟨g,o+k*5+4,none⟩=some (.bool e.dead):=h 4 _ rfl;have X:wr.cell? ⟨i,m+k*5,none⟩=some (OI e.value):=d 0 _ rfl;have U:wr.cell? ⟨i,m+k*5+1,none⟩=some (qa e.code):=d 1 _ rfl;have b2:wr.cell? ⟨i,m+k*5+2,none⟩=some (OI e.id):=d 2 _ rfl;have b3:wr.cell? ⟨i,m+k*5+3,none⟩=some (OI e.seq):=d 3 _ rfl;have b4:wr.cell? ⟨i,m+k*5+4,none⟩=some (.bool e.dead):=d 4 _ rfl;have F:(k:Int)<(l.length:Int):=by omega
   have r:=Hi (λn=>yj q n);clear q z f h d D;unfold qa at *;go_upto_region 6 with(fail)
   go_quiet (fail);have v:=Hi (r.o nq);go_wp2_with fail;exact⟨⟨k+1,by omega,by go_num,v.o⟩,by simp[intOf];omega⟩
  .obtain rfl:k=l.length:=by omega
   go_wp2_with fail;go_ret;exact⟨rfl,u.o⟩
theorem ybf(x:FlH)(u:World)(M:va)(d:St u w (x.frag++M)):Calls prog 213 #[za x.b] w (Vd (.agg (hdV x.h).toArray) w):=by
 obtain⟨b,⟨i,k,j,e,g,f⟩,l,v,F,lv,rd⟩:=x;unfold FlH.frag at d;have A:∀a,(w.alloc a).cell? ⟨b,0,none⟩=some (OI i):=λa=>(d.alloc a).tail.cellH 0
 have y:∀a,(w.alloc a).cell? ⟨b,1,none⟩=some (OI k):=λa=>(d.alloc a).tail.cellH 1
 have C:∀a,(w.alloc a).cell? ⟨b,2,none⟩=some (OI j):=λa=>(d.alloc a).tail.cellH 2
 have z:∀a,(w.alloc a).cell? ⟨b,3,none⟩=some (OI e):=λa=>(d.alloc a).tail.cellH 3
 have D:∀a,(w.alloc a).cell? ⟨b,4,none⟩=some (OI g):=λa=>(d.alloc a).tail.cellH 4
 have B:∀a,(w.alloc a).cell? ⟨b,5,none⟩=some (OI f):=λa=>(d.alloc a).tail.cellH 5
 have c:=(St.refl w).alloc (.cells (hdV ⟨i,k,j,e,g,f⟩).toArray 212);obtain⟨m,n,t,q,s,r⟩:=c.k6 0 1 2 3 4 5;have p:=Hi c;clear c d;unfold hdV at p m n t q s r|-
 unfold za;go_enter func213,ntmps213;go_wp2_with fail;refine jP (v:=.agg #[OI i,OI k,OI j,OI e,OI g,OI f]) ?_ rfl ⟨rfl,p.o.below⟩;simp[results,results213,go_sem,m,n,t,q,s,r]
theorem xaV(x:FlH)(n:World)(M:va)(m:x.ok)(j:x.l.length<=1000000000)(f:St n w (x.frag++M)):Calls prog 133 #[za x.b] w (Xe 137 5 enV x.l w):=by
 obtain⟨b,h,l,v,F,lv,rd⟩:=x;have d:=m.list;simp only at d j;have a:qe enV 5 w v l:=d.rowK (M:=(b,.cells (hdV h++[v,lv,OI rd]).toArray 284 (0,0))::M) (λx=>by simp[enV]) (f.pm λx=>by simp only[FlH.frag,xa,ya,OI,OT,OQ];omega);have k:=Hi (V3 w v l a d.vnil j);unfold FlH.frag at f;have r:OV w b 6 v:=f.cellH 6;obtain⟨y,p,rfl,_⟩:=d.form;clear f d a m;unfold za;unfold Xe at k;go_enter func133,ntmps133;go_wp2_with (go_at_call 197;refine k.o.mono ?_;rintro u t ⟨s,q,rfl,e,c⟩;obtain⟨i,g⟩:=Hi2 e c;clear e c);go_ret;exact⟨_,q,rfl,i.o,g.o⟩
section
attribute [local go_sem] Oper.semAt_some
def Xh(b:Nat):Value:=.pointer (some ⟨b,0,none⟩)
def zi(bs:List Nat)(W W':World):Prop:=W.heap.size<=W'.heap.size/\∀b∈bs,W'.heap[b]?=W.heap[b]?
theorem zi.refl(bs:List Nat)(W:World):zi bs W W:=⟨jm _,λ_ _=>rfl⟩
theorem zi.trans{bs:List Nat}{A B C:World}(h:zi bs A B)(k:zi bs B C):zi bs A C:=⟨jI h.1 k.1,λb a=>(k.2 b a).trans (h.2 b a)⟩
theorem zi.putObj{bs:List Nat}(e:∀b∈bs,b<W.heap.size)(a:World)(l:Nat)(o d:Obj)(f:W.heap.size<=l)(h:a.heap[l]?=some o)(_:o.isCells=false)(_:o.isWalk=false):zi bs a (a.putObj l d):=by
 refine⟨by simp,λb c=>World.putObj_heap_other ?_⟩;have:=e b c;omega
theorem zi.cell{bs:List Nat}(h:zi bs W V)(a:b∈bs):V.cell? ⟨b,i,none⟩=W.cell? ⟨b,i,none⟩:=by
 simp only[World.cell?,h.2 b a]
theorem zi.below{bs:List Nat}{W W':World}(h:Below n W W')(c:∀b∈bs,b<n):zi bs W W':=⟨h.size,λb a=>h.block b (c b a)⟩
def xl(frm:Nat)(n:Nat):List Nat:=(List.range n).map (frm+·)
theorem vL:xl q (c+1)=xl q c++[q+c]:=by simp[xl,Ue]
theorem xaz:(xl q c).length=c:=by simp[xl]
theorem xbf(F:Fence)(m:Nat)(I:F.fn 261)(B:∀(s:Bs) (i:Nat) (W:World),s.length<=4611686018427387904->i<8*s.length->i<=1000000->CallsIn F (m-1) prog 262 #[qa s,OI (i:Int)] W (Ret (OI (YF s i:Nat)) W))(A:F.fn 262)(h:F.round=none)(U:1<=m)
  (l c b2 b3:Nat) (s:Bs) (a n:Nat) (H:s.length<=4611686018427387904) (K:a+n<=8*s.length) (w:a+n<=1000000) (J r:List Nat->World->Prop)
  (D:∀pre (x:Nat) W,J pre W->pre.length<n->YieldAt F (m-1) prog l #[OI (YF s x:Nat)] W λe b =>
   (e=.returned (.bool true)/\J (pre++[x]) b/\zi [c,b2,b3] W b)\/(e=.returned (.bool false)/\r (pre++[x]) b))
  (W:World) (C:W.cell? ⟨c,0,none⟩=some (OI (a:Int))) (E:W.cell? ⟨b2,0,none⟩=some (OI (n:Int))) (G:W.cell? ⟨b3,0,none⟩=some (qa s)) (z:J [] W) :
  CallsIn F m prog 261 #[.func (.yield l) #[] #[],Xh c,Xh b2,Xh b3] W λe b=>(∃v,e=.returned v) /\
   ((∃ys,ys=xl a n/\J ys b)\/(∃pre,pre <+: xl a n/\r pre b)):=by
 unfold Xh;refine callsIn_of_wp func261 rfl I ?_ h;simp only[ntmps261,J2,jk,jA,Nat.reduceAdd,Nat.reduceSub,UD,UE,UP,UH,jK,jO]
 gi_wp2
 gi_loopw [5] (λi wr=>∃k:Nat,k<=n/\i=OI ((a+k:Nat):Int)/\J (xl a k) wr/\zi [c,b2,b3] W wr) (λi _=>a+n-(intOf i).toNat)
 case atStart=>exact⟨0,jX _,by simp,z,zi.refl _ _⟩
 case round =>
  obtain⟨k,P,rfl,u,g⟩:=hrel;have Q:wr.cell? ⟨c,0,none⟩=some (OI (a:Int)):=(g.cell (by simp)).trans C;have M:wr.cell? ⟨b2,0,none⟩=some (OI (n:Int)):=(g.cell (by simp)).trans E;have N:wr.cell? ⟨b3,0,none⟩=some (qa s):=(g.cell (by simp)).trans G;by_cases hlt:k<n
  .obtain⟨T,t,f,p,S,L⟩:=D _ (a+k) wr u (by rw[xaz];exact hlt);have q:=B s (a+k) wr H (by omega) (by omega);have y:((a+k:Nat):Int)=(a:Int)+(k:Int):=by omega
   rw[y]at q|-
   gi_wp2
   refine q.mono ?_;rintro e O ⟨rfl,rfl⟩
   gi_wp2
   refine L.mono ?_;rintro e R (⟨rfl,j,o⟩|⟨rfl,d⟩)
   .gi_wp2
    go_roundw
    case rel=>exact⟨k+1,by omega,by congr 1,by rw[vL];exact j,g.trans o⟩
    case measure=>simp[intOf];omega
   .gi_wp2
    refine jP (Kt rfl _ _ _) rfl ?_;exact⟨⟨_,rfl⟩,.inr ⟨xl a k++[a+k],⟨(xl a n).drop (k+1),by
     rw[<-vL];have:xl a (k+1)=(xl a n).take (k+1):=by simp[xl,<-Kh,Ku,Uy (show k+1<=n by omega)]
     rw[this,Ja]⟩,d⟩⟩
  .obtain rfl:k=n:=by omega
   gi_wp2
   go_end0;exact⟨⟨_,rfl⟩,.inl ⟨_,rfl,u⟩⟩
theorem vaV(F:Fence)(m:Nat)(q:F.fn 261)(t:∀(s:Bs) (i:Nat) (W:World),s.length<=4611686018427387904->i<8*s.length->i<=1000000->CallsIn F (m-1) prog 262 #[qa s,OI (i:Int)] W (Ret (OI (YF s i:Nat)) W))(f:F.fn 262)(g:F.round=none)(o:1<=m)
  (b b2 b3:Nat) (s:Bs) (a n:Nat) (v:s.length<=4611686018427387904) (d:a+n<=8*s.length) (e:a+n<=1000000) (w:World)
  (k:OV w b 0 (OI (a:Int))) (h:OV w b2 0 (OI (n:Int))) (j:OV w b3 0 (qa s)) :
  SeqStopsK F m prog 261 #[Xh b,Xh b2,Xh b3] (λx:Nat=>#[OI (YF s x:Nat)]) (zi [b,b2,b3]) (λr=>r=xl a n) (λpre=>pre <+: xl a n) n w:=λl J y W c _ _ z u =>
 xbf F m q t f g o l b b2 b3 s a n v d e J y z W ((c.cell (p:=⟨b,0,none⟩) (jM w _ k)).trans k) ((c.cell (p:=⟨b2,0,none⟩) (jM w _ h)).trans h) ((c.cell (p:=⟨b3,0,none⟩) (jM w _ j)).trans j) u
theorem yaL(F:Fence)(m:Nat)(U:F.fn 220)(z:F.round=none)(hm:1<=m)
  (l r b2:Nat) (a c:Nat) (E:a<=1024) (hc:1<=c) (S:c<=128) (J C:List Nat->World->Prop)
  (N:∀pre (x:Nat) W,J pre W->pre.length<c->YieldAt F (m-1) prog l #[OI (x:Int),.agg #[OI (zf a c (min x (c-1)):Nat),OI (ze a c (min x (c-1)):Nat)]] W λe p =>
   (e=.returned (.bool true)/\J (pre++[x]) p/\zi [r,b2] W p)\/(e=.returned (.bool false)/\C (pre++[x]) p))
  (W:World) (M:OV W r 0 (OI (c:Int))) (O:OV W b2 0 (OI (a:Int))) (I:J [] W) :
  CallsIn F m prog 220 #[.func (.yield l) #[] #[],Xh r,Xh b2] W λe p=>(∃v,e=.returned v) /\
   ((∃ys,ys=List.range c/\J ys p)\/(∃pre,pre <+: List.range c/\C pre p)):=by
 unfold Xh;refine callsIn_of_wp func220 rfl U ?_ z;simp only[ntmps220,J2,jk,jA,Nat.reduceAdd,Nat.reduceSub,UD,UE,UP,UH,jK,jO]
 gi_wp2
 gi_loopw [4,8] (λT i wr=>∃k:Nat,k<=c/\i=OI (k:Int)/\T=OI (zf a c k:Nat)/\J (List.range k) wr/\zi [r,b2] W wr) (λ_ i _=>c-(intOf i).toNat)
 case atStart=>exact⟨0,jX _,rfl,rfl,I,zi.refl _ _⟩
 case round =>
  obtain⟨k,Y,rfl,rfl,G,y⟩:=hrel;have Z:OV wr r 0 (OI (c:Int)):=(y.cell (by simp)).trans M;have V:OV wr b2 0 (OI (a:Int)):=(y.cell (by simp)).trans O;by_cases hlt:k<c
  .obtain⟨fn,D,w,B,q,H⟩:=N _ k wr G (by rw[Uh];exact hlt);rw[show min k (c-1)=k by omega]at q;obtain⟨Q,s⟩:∃Q:Nat,a/c=Q:=⟨_,rfl⟩;obtain⟨R,h⟩:∃R:Nat,a%c=R:=⟨_,rfl⟩;have X:(a:Int)/(c:Int)=(Q:Int):=by rw[<-s];simp
   have eR:(a:Int)%(c:Int)=(R:Int):=by rw[<-h];simp
   have L:Q<=1024:=by rw[<-s];exact jI (Nat.div_le_self _ _) E
   obtain⟨A,t⟩:∃A:Nat,zf a c k=A:=⟨_,rfl⟩;have K:A<=1024:=by rw[<-t];exact jI (xT (Kr hlt)) (by rw[qY (by omega)];exact E)
   have d:ze a c k=Q+if k<R then 1 else 0:=by unfold ze;rw[s,h]
   have b:zf a c (k+1)=A+ze a c k:=by rw[<-t];rfl
   rw[t]at q|-
   by_cases hkR:k<R
   .rw[jh hkR]at d;rw[d]at q b;have u:((Q+1:Nat):Int)=(Q:Int)+1:=by omega
    rw[u]at q;have f:=Hi b;clear s h d t b u
    gi_wp2
    refine H.mono ?_;rintro e P (⟨rfl,j,n⟩|⟨rfl,g⟩)
    .gi_wp2
     go_roundw
     case rel=>exact⟨k+1,by omega,by congr 1,by rw[f.o];congr 1,by rw[Ue];exact j,y.trans n⟩
     case measure=>simp[intOf];omega
    .gi_wp2
     refine jP (Kt rfl _ _ _) rfl ?_;exact⟨⟨_,rfl⟩,.inr ⟨List.range (k+1),⟨(List.range c).drop (k+1),by
      have:List.range (k+1)=(List.range c).take (k+1):=by simp[Ku,Uy (show k+1<=c by omega)]
      rw[this,Ja]⟩,by rw[Ue];exact g⟩⟩
   .rw[jd hkR]at d;rw[d]at q b;have u:((Q+0:Nat):Int)=(Q:Int):=by omega
    rw[u]at q;have f:=Hi b;clear s h d t b u
    gi_wp2
    refine H.mono ?_;rintro e P (⟨rfl,j,n⟩|⟨rfl,g⟩)
    .gi_wp2
     go_roundw
     case rel=>exact⟨k+1,by omega,by congr 1,by rw[f.o];congr 1,by rw[Ue];exact j,y.trans n⟩
     case measure=>simp[intOf];omega
    .gi_wp2
     refine jP (Kt rfl _ _ _) rfl ?_;exact⟨⟨_,rfl⟩,.inr ⟨List.range (k+1),⟨(List.range c).drop (k+1),by
      have:List.range (k+1)=(List.range c).take (k+1):=by simp[Ku,Uy (show k+1<=c by omega)]
      rw[this,Ja]⟩,by rw[Ue];exact g⟩⟩
  .obtain rfl:k=c:=by omega
   gi_wp2
   go_end0;exact⟨⟨_,rfl⟩,.inl ⟨_,rfl,G⟩⟩
theorem Z4(F:Fence)(m:Nat)(k:F.fn 220)(e:F.round=none)(j:1<=m)
  (a b2:Nat) (b c:Nat) (i:b<=1024) (q:1<=c) (d:c<=128) (w:World)
  (h:OV w a 0 (OI (c:Int))) (f:OV w b2 0 (OI (b:Int))) :
  SeqStopsK F m prog 220 #[Xh a,Xh b2] (λx:Nat=>#[OI (x:Int),.agg #[OI (zf b c (min x (c-1)):Nat),OI (ze b c (min x (c-1)):Nat)]]) (zi [a,b2]) (λn=>n=List.range c) (λpre=>pre <+: List.range c) c w:=λl J r W g _ _ s o =>
 yaL F m k e j l a b2 b c i q d J r s W ((g.cell (p:=⟨a,0,none⟩) (jM w _ h)).trans h) ((g.cell (p:=⟨b2,0,none⟩) (jM w _ f)).trans f) o
theorem vbp(s:Bs)(f n:Int):Calls prog 221 #[qa s,OI f,OI n] w λe a=>e=.returned (.func (.func 261) #[] #[Xh (w.heap.size+1),Xh (w.heap.size+1+1),Xh w.heap.size])/\a=((w.alloc (.cells #[qa s] 9)).alloc (.cells #[OI f] 3)).alloc (.cells #[OI n] 3):=by
 have b:∀(fn:Fn) (first cap:Array Value) (w:World),(Instr.makeFunc fn first cap).run prog w=.ok (.func fn first cap) w:=λ_ _ _ _=>rfl
 go_enter func221,ntmps221;go_wp2_with fail;go_ret;exact⟨rfl,rfl⟩
theorem vaz(f n:Int):Calls prog 163 #[OI f,OI n] w λe a=>e=.returned (.func (.func 220) #[] #[Xh (w.heap.size+1),Xh w.heap.size])/\a=(w.alloc (.cells #[OI f] 3)).alloc (.cells #[OI n] 3):=by
 have b:∀(fn:Fn) (first cap:Array Value) (w:World),(Instr.makeFunc fn first cap).run prog w=.ok (.func fn first cap) w:=λ_ _ _ _=>rfl
 go_enter func163,ntmps163;go_wp2_with fail;go_ret;exact⟨rfl,rfl⟩
theorem St.steady{row:Option Nat}(a:St V W F)(l:V.heap.size<=n)(j:∀x∈F,x.1<n\/x.2.isCells=true)(g:W.grownBy Z row)(f:∀r,row=some r->n<=r/\∃o:Obj,W.heap[r]?=some o/\o.isCells=false):St V Z F:=by
 refine⟨a.below.grown g a.sz (λk e=>jI l (f k e).1),λx c=>?_,a.nodup⟩;have b:=a.at' x c;refine⟨b.1,(g.block x.1 (a.lt c) (λe=>?_)).trans b.2⟩;obtain⟨m,o,d,i⟩:=f x.1 e.symm;rcases j x c with h|h
 .omega
 .rw[b.2]at d;cases d;rw[h]at i;cases i
end
section
attribute [local go_sem] Oper.semAt_some
def yI(s:Bs)(l:List Nat):Nat:=l.foldl (λv x=>v*2+YF s x) 0
theorem Y4(s:Bs)(l:List Nat)(x:Nat):yI s (l++[x])=yI s l*2+YF s x:=by simp[yI]
theorem qaV(s:Bs)(a n:Nat):yI s (xl a n)=Yt s a n:=by
 induction n with
 |zero=>rfl
 |succ n ih=>rw[vL,Y4,ih];rfl
theorem vbf(s:Bs)(l:List Nat):yI s l<2^l.length:=by
 suffices ∀l:List Nat,yI s l.reverse<2^l.length by have:=this l.reverse;simpa using this
 intro l;induction l with
 |nil=>simp[yI]
 |cons x r ih =>
  rw[List.reverse_cons,Y4,jk,UX];have:=Zal s x;omega
theorem vbm(a:q<9223372036854775808)(b:c<2):bits .or .u64 ((q:Int)*2) (c:Int)=((q*2+c:Nat):Int):=by
 rw[show(q:Int)*2=((q*2^1:Nat):Int) by omega,bits_or_u64_nat _ _ (by omega) (by omega),Ui q,<-kx (by omega)]
theorem Va5(w:World)(s:Bs)(g n:Nat)(A:s.length<=4611686018427387904)(L:g+n<=8*s.length)(F:g+n<=1000000)(hn:n<=64):
  Calls prog 164 #[qa s,OI (g:Int),OI (n:Int)] w (Vd (.int .u64 (Yt s g n:Nat)) w):=by
 refine(JZ (n:=8)).1 ?_;refine kL func164 rfl trivial ?_ rfl;simp only[ntmps164,J2,jk,jA,Nat.reduceAdd,Nat.reduceSub,UD,UE,UP,UH,jK,jO];have Q:=Hi (λW=>vbp W s (g:Int) (n:Int))
 gi_wp2_with (refine⟨trivial,?_⟩;gi_at_call 221;refine(JZ.2 (Q.o _)).mono ?_;rintro e w' ⟨rfl,rfl⟩)
 obtain⟨H,C⟩:=EN w.heap.size;have j:=(((((St.refl w).alloc (.cells #[.int .u64 0] 89)).alloc (.cells #[qa s] 9)).alloc (.cells #[OI (g:Int)] 3)).alloc (.cells #[OI (n:Int)] 3));simp only[jF]at j|-
 rw[<-C]at j|-
 obtain⟨p,t⟩:=EN (((((w.alloc (.cells #[.int .u64 0] 89)).alloc (.cells #[qa s] 9)).alloc (.cells #[OI (g:Int)] 3)).alloc (.cells #[OI (n:Int)] 3)));rw[<-t]at j|-
 have y:p.heap.size=H+4:=by rw[t,C];simp only[jF]
 obtain⟨r,N⟩:=Hi2 y C;clear t y C;have R:p.cell? ⟨H+1+1,0,none⟩=some (OI (g:Int)):=j.rd (i:=0) (jb _ jc) rfl;have S:p.cell? ⟨H+1+1+1,0,none⟩=some (OI (n:Int)):=j.cellH 0;have U:p.cell? ⟨H+1,0,none⟩=some (qa s):=j.rd (i:=0) (jb _ (jb _ jc)) rfl;have I:St w p [(H,.cells #[.int .u64 ((yI s []:Nat):Int)] 89)]:=j.tail.tail.tail;refine wpIn_rangeFunc_ownG rfl (by omega) (gf:=261) (lb:=#[Xh (H+1+1),Xh (H+1+1+1),Xh (H+1)]) rfl trivial (kf func261 (by kernel_rfl) rfl)
  (vaV Fence.wide (8-1) trivial (λs i W a b c=>JZ.2 (xbp W s i a b c)) trivial rfl (by omega) (H+1+1) (H+1+1+1) (H+1) s g n A L F p R S U)
  (λh k=>h.trans k) (λW l o o'=>zi.putObj (by intro b G;simp at G;have:=r.o;omega) W l o o') (jU _ _) (λ_=>rfl)
  (λpre W=>St w W [(H,.cells #[.int .u64 ((yI s pre:Nat):Int)] 89)])
  (λ_ _ _=>False)
  (λpre X Y row A O Z=>A.steady (by rw[r.o,N.o];omega) (by intro x M;simp at M;subst M;exact .inr rfl) O Z)
  (λ_ _ _ _ _ A _ _=>A) I
  (λx=>{tmps:=#[qa s,OI (g:Int),OI (n:Int),undef,undef,undef,.int .u64 0,OQ H,OI (YF s x:Nat),qa s,OI (g:Int),OI (n:Int),.func (.func 261) #[] #[Xh (H+1+1),Xh (H+1+1+1),Xh (H+1)],OI (YF s x:Nat),undef,undef,undef,undef,undef,undef],defers:=[]}) ?assign ?body ?done ?stop
 case assign =>
  intro l x W K B
  gi_wp2
  exact B
 case body =>
  rintro l pre x W m hlt;obtain⟨v,E⟩:=NE (yI s pre);obtain⟨c,u⟩:=NE (YF s x);have q:v<9223372036854775808:=by
   rw[<-E];refine JG (vbf s pre) ?_;exact jI (JS (by decide) (show pre.length<=63 by omega)) (by decide)
  have z:c<2:=by rw[<-u];exact Zal s x
  have V:=Hi (show yI s (pre++[x])=v*2+c by rw[Y4,E,u]);rw[E]at m;rw[u];have a0:=vbm v c q z;have d:W.cell? ⟨H,0,none⟩=some (.int .u64 (v:Int)):=m.cellH 0;have f:W.frozen? ⟨H,0,none⟩=false:=m.freeH 0;have J:=Hi m;have P:(v:Int)<9223372036854775808:=by omega
  have T:(c:Int)<2:=by omega
  clear E u m q z hlt
  gi_wp2
  exact⟨(KeepsOthers.setCell _ _ _).from _,⟨by simp,λb G=>kV _ _ _ _ (λe=>by simp at G e;omega)⟩,by
   show St w _ [(H,.cells #[.int .u64 ((yI s (pre++[x]):Nat):Int)] 89)];rw[V.o];have:=J.o.set 0 (.int .u64 ((v:Int)*2+(c:Int)));simpa using this⟩
 case done =>
  rintro D ys W hD rfl m B;have u:W.cell? ⟨H,0,none⟩=some (.int .u64 ((yI s (xl g n):Nat):Int)):=m.cellH 0;rw[qaV]at u;have J:=Hi m;clear m
  gi_wp2
  refine⟨by simp,.inl ⟨_,_,rfl,Kl B,?_⟩⟩;exact⟨_,results_tmp rfl _ _ _,rfl,J.o.below.trans (belowK_b (w:=w) (jm _) W D _ _ (by have:=r.o;have:=N.o;omega) B rfl rfl)⟩
 case stop =>
  rintro D c pre W _ _ h _;exact h.elim
theorem St.rest{W0 W:World}{M:va}(n:St W0 W M)(B:Nat)(E:W0.heap.size<=B)(v:∀x∈M,x.1<B\/x.2.isCells=true):
  ∃R:va,St W0 W (M++R)/\∀(k:Nat) (o:Obj),B<=k->W.heap[k]?=some o->o.isCells=false->(k,o)∈R:=by
 obtain⟨R,u⟩:∃R:va,R=((List.range W.heap.size).filterMap λk=>if B<=k then(W.heap[k]?).bind (λo=>if o.isCells=false then some (k,o)else none)else none):=⟨_,rfl⟩;have d:∀x:Nat × Obj,x∈R<->(B<=x.1/\W.heap[x.1]?=some x.2/\x.2.isCells=false):=by
  intro x;rw[u,List.mem_filterMap];constructor
  .rintro⟨k,j,h⟩;split at h
   .rename_i p
    cases f:W.heap[k]? with
    |none=>rw[f]at h;cases h
    |some o =>
     rw[f]at h;simp only[Km]at h;split at h
     .rename_i s
      cases h;exact⟨p,f,s⟩
     .cases h
   .cases h
  .rintro⟨q,g,A⟩;refine⟨x.1,Ud.2 (kE.1 g).1,?_⟩;rw[jh q,g,Km,jh A]
 refine⟨R,⟨n.below,λx m=>?_,?_⟩,λk o j f s=>(d (k,o)).2 ⟨j,f,s⟩⟩
 .rcases jo.1 m with h|h
  .exact n.at' x h
  .have:=(d x).1 h;exact⟨jI E this.1,this.2.1⟩
 .rw[jr];refine Jr.2 ⟨n.nodup,?_,λa D b w e=>?_⟩
  .have j:∀l:List Nat,l.Nodup->((l.filterMap λk=>if B<=k then(W.heap[k]?).bind (λo=>if o.isCells=false then some (k,o)else none)else none).map (·.1)).Nodup:=by
    intro l t;have i:((l.filterMap λk=>if B<=k then(W.heap[k]?).bind (λo=>if o.isCells=false then some (k,o)else none)else none).map (·.1)).Sublist l:=by
     clear t;induction l with
     |nil=>exact Jz _
     |cons k r ih =>
      rw[List.filterMap_cons];split
      .exact ih.cons _
      .rename_i y c
       have:y.1=k:=by
        split at c
        .cases f:W.heap[k]? with
         |none=>rw[f]at c;cases c
         |some o =>
          rw[f]at c;simp only[Km]at c;split at c
          .cases c;rfl
          .cases c
        .cases c
       rw[ju,this];exact ih.cons_cons _
    exact t.sublist i
   rw[u];exact j _ List.nodup_range
  .subst e;obtain⟨x,m,C⟩:=jg.1 D;obtain⟨y,c,z⟩:=jg.1 w;have q:=n.at' x m;have g:=(d y).1 c;rw[z,<-C]at g;rcases v x m with h|h
   .omega
   .rw[q.2]at g;have:=Jv g.2.1;rw[this]at h;rw[g.2.2]at h;cases h
theorem St.keepsFrom(h:St V Z (F++G))(c:∀(k:Nat) (o:Obj),n<=k->W.heap[k]?=some o->o.isCells=false->(k,o)∈G)(e:W.heap.size<=Z.heap.size):KeepsFrom n W Z :=
 ⟨e,λk o a b d=>(h.at' (k,o) (je _ (c k o a b d))).2⟩
end
end Go.Proofs.YtekkihmmclencaaGreatDoor
