import Derived.Test.YtekkihmmclencaaGreatDoorShelf
import Derived.Test.YtekkihmmclencaaGreatDoorM09
namespace Go.Proofs.YtekkihmmclencaaGreatDoor
set_option linter.all false
set_option maxRecDepth 100000
set_option maxHeartbeats 40000000
open Tryz
open Go Go.RowKit Go.Sort
variable(U w:World)(c:Nat){W V:World}{n b:Nat}{v r:Value}{F:va}{s:Bs}{T:TypeId}{P:Program}{l:List En}
theorem Qay{B:Bu}{pay:Bs}(g:∀e∈l,e.writ)(d:∀a∈B.lines,a.ok)(i:B.b.length<=1000000000)(f:l.length<=1000000000)(h:B.sum<4294967296):
  (∀a∈(B.block l pay).lines,a.ok)/\(B.block l pay).b.length<=B.b.length+pay.length+14*l.length/\(B.block l pay).lines.length<=B.lines.length+l.length/\(B.block l pay).sum<4294967296:=by
 rcases l with _|⟨e,r⟩
 .exact⟨d,by simp only[Bu.block];omega,by simp only[Bu.block];omega,h⟩
 .refine⟨λa c=>?_,?_,?_,Qad _ _⟩
  .simp only[Bu.block,jo,jC]at c;rcases c with c|rfl
   .exact d a c
   .exact⟨g e jc,f,i⟩
  .simp only[Bu.block,ja,zh,jk];omega
  .simp only[Bu.block,ja,jk,jA];omega
theorem Q2:∀(rest cur:List En) (pay:Bs) (B:Bu),(∀e∈cur,e.writ)->(∀e∈rest,e.writ)->(∀l∈B.lines,l.ok)->pay.length<=4096->B.b.length+pay.length+14*cur.length+180*rest.length<=900000000->B.lines.length+cur.length+rest.length<=5000000->B.sum<4294967296 ->
  (∀l∈(Bu.blocks B cur pay rest).lines,l.ok)/\(Bu.blocks B cur pay rest).b.length<=B.b.length+pay.length+14*cur.length+180*rest.length/\(Bu.blocks B cur pay rest).lines.length<=B.lines.length+cur.length+rest.length/\(Bu.blocks B cur pay rest).sum<4294967296
 |[],cur,pay,B,h1,h2,h3,h4,h5,h6,h7=>by
  have:=Qay (pay:=pay) h1 h3 (by omega) (by omega) h7;unfold Bu.blocks;exact⟨this.1,by simp only[jA];omega,by simp only[jA];omega,this.2.2.2⟩
 |e::r,cur,pay,B,h1,h2,h3,h4,h5,h6,h7=>by
  have g:=ZG e (h2 e jc);have c:∀x∈r,x.writ:=λx a=>h2 x (jb _ a)
  simp only[jk]at h5 h6|-
  rw[Bu.blocks];split
  .obtain⟨f,h,i,d⟩:=Qay (pay:=pay) h1 h3 (by omega) (by omega) h7;have:=Q2 r [e] (qc e) (B.block cur pay) (by intro x a;simp at a;subst a;exact h2 _ jc) c f (by omega) (by simp only[jk,jA];omega) (by simp only[jk,jA];omega) d;simp only[jk,jA]at this;exact⟨this.1,by omega,by omega,this.2.2.2⟩
  .have:=Q2 r (cur++[e]) (pay++qc e) B (by intro x a;rw[jo]at a;rcases a with a|a;exact h1 x a;simp at a;subst a;exact h2 _ jc) c h3 (by rw[ja];omega) (by simp only[ja,jk,jA];omega) (by simp only[ja,jk,jA];omega) h7;simp only[ja,jk,jA]at this;exact⟨this.1,by omega,by omega,this.2.2.2⟩
structure Hd.writ (h:Hd):Prop where
 w0:0<=h.width
 w1:h.width<=1000000
 t0:0<=h.table
 t1:h.table<=1000000
 b0:0<=h.bits
 b1:h.bits<=1000000
 l0:0<=h.lo
 l1:h.lo<=1152921504606846976
 h0:0<=h.hi
 h1:h.hi<=1152921504606846976
theorem yA{a b c d e f:Value}(h:St W V F)(g:(n,Obj.cells #[a,b,c,d,e,f] T)∈F):OV V n 0 a/\OV V n 1 b/\OV V n 2 c/\OV V n 3 d/\OV V n 4 e :=
 ⟨h.rd (i:=0) g rfl,h.rd (i:=1) g rfl,h.rd (i:=2) g rfl,h.rd (i:=3) g rfl,h.rd (i:=4) g rfl⟩
def ZE(h:Hd)(l:List En)(w:World)(e:Ending)(w':World):Prop :=
 ∃ad n cap,e=.returned (.tuple #[qa (Xk h l),.slice ad n cap])/\Below w.heap.size w w'
theorem ZE.mk{h:Hd}{a:Option Addr}(c:v=qa (Xk h l))(d:Below W.heap.size W V):ZE h l W (.returned (.tuple #[v,.slice a n b])) V:=⟨a,n,b,by rw[c],d⟩
theorem vaG(h:Hd)(l:List En)(lv:Value)(hh:h.writ)(G:qe enV 5 w lv l)(hw:∀e∈l,e.writ)(hn:l.length<=2097152)(ht:zg w):
  Calls prog 206 #[.agg (hdV h).toArray,lv] w (ZE h l w):=by
 obtain⟨i,f,c,d,g,m⟩:=h;obtain⟨x1,x2,x3,x4,x5,x6,x7,x8,x9,au⟩:=hh;simp only at x1 x2 x3 x4 x5 x6 x7 x8 x9 au;have u:=((St.refl w).alloc (.cells (hdV ⟨i,f,c,d,g,m⟩).toArray 212)).alloc (.cells #[.pointer none,.slice none 0 0,.slice none 0 0,.int .u32 0] 340);rw[jF]at u;obtain⟨C,hC⟩:=EN w.heap.size;rw[<-hC]at u;obtain⟨L,HC,HR,HW,HT⟩:=Hi5 u hC G hw ht;obtain⟨ad,ay,rfl,_⟩:=G;clear u hC hw ht;unfold hdV at L|-
 go_enter func206,ntmps206;go_upto_region 2 with(fail)
 rw[<-HC.o];refine L.o.nameC ?_;clear L;intro w1 Y;obtain⟨aw,av⟩:(0:Int)<=(l.length:Int)/\(l.length:Int)<=2097152:=by omega
 have y:=Hi (λW=>Xo W i (by omega) (by omega));have m1:=Ym i (by omega);have r:=Hi (λW=>Xo W f (by omega) (by omega));have m2:=Ym f (by omega);have A:=Hi (λW=>Xo W c (by omega) (by omega));have m3:=Ym c (by omega);have s:=Hi (λW=>Xo W d (by omega) (by omega));have m4:=Ym d (by omega);have q:=Hi (λW=>Xo W g (by omega) (by omega));have m5:=Ym g (by omega);have z:=Hi (λW=>Xo W (l.length:Int) (by omega) (by omega));have m6:=Ym (l.length:Int) (by omega);have k:Hy (Yk ⟨i,f,c,d,g,m⟩ l.length=num i++num f++num c++num d++num g++num (l.length:Int)):=Hi (by rw[QH];rfl);obtain⟨N1,aq⟩:=NE (num i);rw[aq]at y m1 k;obtain⟨N2,ae⟩:=NE (num f);rw[ae]at r m2 k;obtain⟨N3,a8⟩:=NE (num c);rw[a8]at A m3 k;obtain⟨N4,ac⟩:=NE (num d);rw[ac]at s m4 k;obtain⟨N5,aa⟩:=NE (num g);rw[aa]at q m5 k;obtain⟨N6,ai⟩:=NE (num (l.length:Int));rw[ai]at z m6 k;have a2:=yh N1 N2;have p2:(N1++N2).length<=20:=by rw[ja];omega
 have g2:¬ 9223372036854775807<N1.length+N2.length:=by omega
 have y2:=zb N1;have z2:=zb N2;obtain⟨P2,ap⟩:=NE (N1++N2);rw[ap]at a2 p2 k;have a3:=yh P2 N3;have p3:(P2++N3).length<=30:=by rw[ja];omega
 have g3:¬ 9223372036854775807<P2.length+N3.length:=by omega
 have y3:=zb P2;have z3:=zb N3;obtain⟨P3,aj⟩:=NE (P2++N3);rw[aj]at a3 p3 k;have a4:=yh P3 N4;have p4:(P3++N4).length<=40:=by rw[ja];omega
 have g4:¬ 9223372036854775807<P3.length+N4.length:=by omega
 have y4:=zb P3;have z4:=zb N4;obtain⟨P4,ag⟩:=NE (P3++N4);rw[ag]at a4 p4 k;have a5:=yh P4 N5;have p5:(P4++N5).length<=50:=by rw[ja];omega
 have g5:¬ 9223372036854775807<P4.length+N5.length:=by omega
 have y5:=zb P4;have z5:=zb N5;obtain⟨P5,ab⟩:=NE (P4++N5);rw[ab]at a5 p5 k;have a6:=yh P5 N6;have p6:(P5++N6).length<=60:=by rw[ja];omega
 have g6:¬ 9223372036854775807<P5.length+N6.length:=by omega
 have y6:=zb P5;have z6:=zb N6;obtain⟨U,ak⟩:=NE (P5++N6);rw[ak]at a6 p6 k;clear aq ae a8 ac aa ai ap aj ag ab ak;unfold qa at y r A s q z;have t:=Hi (λW (h:St w W (yt (C+1) (.pointer none) (.slice none 0 0) (.slice none 0 0) 0::([]++[(C,.cells (hdV ⟨i,f,c,d,g,m⟩).toArray 212 (0,0))])))=>VH w W (C+1) (.pointer none) (.slice none 0 0) (.slice none 0 0) 0 [] U 4 [] _ (.inl rfl) (Rw.nil _ _) h (by decide) (by decide) (by omega) (by simp) HT.o);unfold za qa yt hdV at t;simp only[jK]at t;have a7:=Hi Y;obtain⟨k0,k1,k2,k3,k4⟩:=yA Y (jb _ jc);clear Y;go_region_held3 (λV=>V.cell? ⟨C,0,none⟩=some (.int .i64 i)/\V.cell? ⟨C,1,none⟩=some (.int .i64 f)/\V.cell? ⟨C,2,none⟩=some (.int .i64 c)/\V.cell? ⟨C,3,none⟩=some (.int .i64 d)/\V.cell? ⟨C,4,none⟩=some (.int .i64 g)) (first|exact⟨k0,k1,k2,k3,k4⟩|exact(λ⟨v',F',_,J⟩=>yA J (jb _ (je _ jc))) HB.o|exact yA Z.o (jb _ jc)|exact yA O.o (jb _ jc)|exact yA Q.o (jb _ jc)|exact yA S.o (jb _ jc)|exact yA P.o (jb _ jc)|exact yA N.o (jb _ jc)|(go_keep;done)) (first|(go_at_call_of 253 (Value.int IntKind.i64 i);refine(y.o _).mono ?_;rintro E w2 ⟨rfl,a⟩;have N:=Hi ((a7.o.drew).callB a);clear a)|(go_at_call_of 253 (Value.int IntKind.i64 f);refine(r.o _).mono ?_;rintro E w3 ⟨rfl,a⟩;have P:=Hi ((N.o).callB a);clear a)|(go_at_call_of 253 (Value.int IntKind.i64 c);refine(A.o _).mono ?_;rintro E w4 ⟨rfl,a⟩;have S:=Hi ((P.o).callB a);clear a)|(go_at_call_of 253 (Value.int IntKind.i64 d);refine(s.o _).mono ?_;rintro E w5 ⟨rfl,a⟩;have Q:=Hi ((S.o).callB a);clear a)|(go_at_call_of 253 (Value.int IntKind.i64 g);refine(q.o _).mono ?_;rintro E w6 ⟨rfl,a⟩;have O:=Hi ((Q.o).callB a);clear a)|(go_at_call_of 253 (Value.int IntKind.i64 (l.length:Int));refine(z.o _).mono ?_;rintro E w7 ⟨rfl,a⟩;have Z:=Hi ((O.o).callB a);clear a)|(go_at_call 252;refine(t.o _ Z.o).mono ?_;rintro E w8 hp;obtain⟨rfl,al⟩:=hp.o;have HB:=Hi al;clear hp al));obtain⟨M,hM⟩:∃M:va,M=[(C,.cells (hdV ⟨i,f,c,d,g,m⟩).toArray 212 (0,0))]:=⟨_,rfl⟩;have ah:Hy (YB w (C+1) M ⟨ve 4 U,[],0⟩ w8):=Hi (by
  obtain⟨v',F',hR,J⟩:=HB.o;rw[hM];exact⟨_,v',.slice none 0 0,F',[],.inr rfl,hR,Rw.nil _ _,J⟩)
 have ar:(ve 4 U).length<=200:=by rw[zh];omega
 obtain⟨q1,q2,q3,q4⟩:=Q2 l [] [] ⟨ve 4 U,[],0⟩ (by simp) HW.o (by simp) (by simp) (by simp only[jA];omega) (by simp only[jA];omega) (show 0<4294967296 by decide);simp only[jA]at q2 q3;have K:Hy (XU ⟨i,f,c,d,g,m⟩ l=Bu.blocks ⟨ve 4 U,[],0⟩ [] [] l):=Hi (by unfold XU;rw[k.o]);have D:=Hi (ya5 w w8 (C+1) M ⟨ve 4 U,[],0⟩ l _ ah.o HR.o HW.o (by simp only;omega) (by simp only[jA];omega) (show 0<4294967296 by decide) HT.o);obtain⟨j,a1⟩:=NE (Bu.blocks ⟨ve 4 U,[],0⟩ [] [] l);rw[a1]at q1 q2 q3 q4 K D;have B:=Hi (λW (a:YB w (C+1) M j W)=>qbe w W (C+1) M j a q1 (by omega) q4 HT.o);have ao:Hy (Xk ⟨i,f,c,d,g,m⟩ l=j.b++Vj [] j.lines++xx j):=Hi (by unfold Xk;rw[K.o]);have am:Hy (j.b++Vj [] j.lines++xx j≠[]):=Hi (by
  intro e;have:=jT List.length e;rw[ja]at this;have h2:(xx j).length>=14:=by unfold xx;rw[zh];omega
  simp only[jA]at this;omega)
 obtain⟨bb,a9⟩:=NE (j.b++Vj [] j.lines++xx j);rw[a9]at ao am B;clear hM HB ah ar q1 q2 q3 q4 K a1 a9 y m1 r m2 A m3 s m4 q m5 z m6 a2 p2 g2 y2 z2 a3 p3 g3 y3 z3 a4 p4 g4 y4 z4 a5 p5 g5 y5 z5 a6 p6 g6 y6 z6 k t a7 N P S Q O Z k0 k1 k2 k3 k4;unfold za at D B;go_upto_region 5 with(first
  |(go_at_call 254;refine MR D.o λw9 af=>?_)
  |(go_at_call 255;refine MR (B.o _ af.o) λan H=>?_))
 obtain⟨p,v,ln,Fb,Fl,hp,X,R,J⟩:=H.o;simp only at X R J;obtain⟨T,n,rfl,_⟩:=R.form;have c2:=J.cellH 2;have a0:=Hi (yaU w an.drew (C+1) p v (.slice T j.lines.length n) j.sum bb Fb (Fl++M) am.o X J.drew);unfold za qa at a0;clear H af D B hp X R J HW HT;go_region_held3 (λV=>V.cell? ⟨C+1,2,none⟩=some (.slice T j.lines.length n)) (first|exact c2|exact I.o.cellH 2|(go_keep;done)) (first|(go_at_call 124;refine MR a0.o λax I=>?_))
 all_goals
  go_wp2_with fail;go_ret2;exact ZE.mk (by rw[ao.o];rfl) I.o.below
theorem Vaq{h:Hd}:∀(l:List En) (p:Option En),Qv h p l=0->(∀e r,l=e::r->XJ p e=false)/\∀(i:Nat) (b:i<l.length),vu h l[i]=0/\∀j (f:j+1=i),yb (l[j]'(by omega)) l[i]<0
 |[],p,_=>⟨λe r h=>(by cases h),λi b=>absurd b (by simp)⟩
 |e::r,p,h0=>by
  unfold Qv at h0;split at h0
  .rename_i c;exact absurd h0 c
  .rename_i c
   split at h0
   .cases h0
   .rename_i m
    obtain⟨g,d⟩:=Vaq r (some e) h0;refine⟨λo n k=>(by cases k;simpa using m),λi b=>?_⟩;cases i with
    |zero=>exact⟨by simpa using c,λj f=>by omega⟩
    |succ i =>
     have a:i<r.length:=by simpa using b
     refine⟨(d i a).1,λj f=>?_⟩;obtain rfl:j=i:=by omega
     cases j with
     |zero =>
      cases r with
      |nil=>simp at a
      |cons e2 r2 =>
       have:=g e2 r2 rfl;simp only[XJ,UR,Int.not_le]at this;exact this
     |succ j=>exact(d (j+1) a).2 j rfl
structure QA (h:Hd) (l:List En):Prop where
 head:Zm h=0
 many:l.length<=2097152
 fits:∀(i:Nat) (hi:i<l.length),vu h l[i]=0
 order:∀(i:Nat) (hi:i+1<l.length),yb (l[i]'(by omega)) l[i+1]<0
theorem QA.of{h:Hd}(a:Vm h l=0):QA h l:=by
 unfold Vm at a;split at a
 .rename_i b;exact absurd a b
 .rename_i b
  split at a
  .cases a
  .have:=(Vaq l none a).2;exact⟨by simpa using b,by omega,λi c=>(this i c).1,λi c=>(this (i+1) c).2 i rfl⟩
theorem xaU{h:Hd}{e:En}(d:Zm h=0)(a:vu h e=0):e.writ:=by
 obtain⟨w,p,k,m,l,q,r,v,x,f⟩:=qE d;obtain⟨b,j,u,g,c,s,o⟩:=zaG a;obtain⟨_,_,_,_,i⟩:=Yay b;have t:(2:Int)^h.bits.toNat<=2^32:=by
  have:(2:Nat)^h.bits.toNat<=2^32:=JS (by decide) (by omega)
  exact_mod_cast this
 have n:(2:Int)^32=4294967296:=by decide
 exact⟨j,by omega,g,c,by omega,by omega,i⟩
theorem En.writ.i64{e:En}(h:e.writ):e.i64:=by
 obtain⟨a,b,c,d,e,f,g⟩:=h;exact⟨by omega,by omega,by omega,by omega,by omega,by omega,by omega⟩
theorem QA.writ{h:Hd}(a:QA h l):∀e∈l,e.writ:=by
 intro e b;obtain⟨i,c,rfl⟩:=kH b;exact xaU a.head (a.fits i c)
theorem QA.hwrit{h:Hd}(b:QA h l):h.writ:=by
 obtain⟨g,i,c,e,d,j,m,k,f,a⟩:=qE b.head;exact⟨by omega,by omega,by omega,by omega,by omega,by omega,by omega,by omega,by omega,by omega⟩
theorem Zam(w:World)(h:Hd)(l:List En)(lv:Value)(h0:Vm h l=0)(B:qe enV 5 w lv l)(ht:zg w):
  Calls prog 140 #[.agg (hdV h).toArray,lv] w (Vd (.tuple #[qa (Xk h l),OI 0]) w):=by
 have F:=QA.of h0;have HO:=Hi F;have U:=Hi (λW=>Zay W h F.head);have Q:=Hi (λW (e:En) (h1:vu h e=0)=>qbl W h e F.head h1);have a2:=Hi (λW (a b:En) (ha:a.writ) (s:b.writ)=>YaT W a b ha.i64 s.i64);have E:=Hi (λW (s:Below w.heap.size w W)=>vaG W h l lv F.hwrit (B.below s (jm _)) F.writ F.many (ht.below s (jm _)));have a8:=F.many;have HR:=Hi B;have M:=(St.refl w).alloc (.cells (hdV h).toArray 212);obtain⟨C,hC⟩:=EN w.heap.size;rw[<-hC]at M;obtain⟨J,HC⟩:=Hi2 M hC;obtain⟨ad,ac,rfl,ak,a5,_⟩:=B;have al:(0:Int)<=(l.length:Int):=by omega
 have ag:(l.length:Int)<=2097152:=by omega
 have aq:(l.length:Int)<=(ac:Int):=by omega
 clear M hC ht h0 F;unfold hdV at J U Q E|-
 unfold enV qa at Q a2;unfold ZE at E;unfold qa at E|-
 go_enter func140,ntmps140;go_upto_region 1 with(fail)
 rw[<-HC.o];refine J.o.nameC ?_;clear J;intro S q;have c0:S.cell? ⟨C,0,none⟩=some (OI h.width):=q.cellH 0;have c1:S.cell? ⟨C,1,none⟩=some (OI h.table):=q.cellH 1;have X:S.cell? ⟨C,2,none⟩=some (OI h.bits):=q.cellH 2;have c3:S.cell? ⟨C,3,none⟩=some (OI h.lo):=q.cellH 3;have c4:S.cell? ⟨C,4,none⟩=some (OI h.hi):=q.cellH 4;have c5:S.cell? ⟨C,5,none⟩=some (OI h.count):=q.cellH 5;have V:=Hi q;clear q;go_wp2_with (go_at_call 203;refine(U.o _).mono ?_;rintro r y ⟨rfl,s⟩;have p:=Hi (V.o.callB s);clear s c0 c1 X c3 c4 c5);go_loopw [22] (λiv wr=>∃(k:Nat),k<=l.length/\iv=OI (k:Int)/\St w wr [(C,.cells #[OI h.width,OI h.table,OI h.bits,OI h.lo,OI h.hi,OI h.count] 212)]) (λiv _=>l.length-(intOf iv).toNat)
 case atStart=>exact⟨0,jX _,rfl,p.o⟩
 case round =>
  obtain⟨k,ao,rfl,D⟩:=hrel;clear V p;have c0:wr.cell? ⟨C,0,none⟩=some (OI h.width):=D.cellH 0;have c1:wr.cell? ⟨C,1,none⟩=some (OI h.table):=D.cellH 1;have X:wr.cell? ⟨C,2,none⟩=some (OI h.bits):=D.cellH 2;have c3:wr.cell? ⟨C,3,none⟩=some (OI h.lo):=D.cellH 3;have c4:wr.cell? ⟨C,4,none⟩=some (OI h.hi):=D.cellH 4;have c5:wr.cell? ⟨C,5,none⟩=some (OI h.count):=D.cellH 5;by_cases hlt:k<l.length
  .obtain⟨g,o,ae,a6,R⟩:=HR.o.fld Qe k hlt;have G:=HO.o.fits k hlt;have a4:=Hi (λW=>Q.o W _ G);have I:=HO.o.writ _ (Jc hlt);have P:Hy (∀j,(hj:j+1=k)->∃r,r.writ/\yb r l[k]<0/\∀i x,(enV r)[i]?=some x->w.cell? ⟨g,o+(j*5+i),none⟩=some x):=Hi (λj hj=>by
    subst hj;obtain⟨g',o',ab,H,a9⟩:=HR.o.fld Qe j (by omega);rw[a6]at H;injection H with q1 _ _
    injection q1 with q1
    injection q1 with q1 q2 _
    subst q1;subst q2;exact⟨l[j],HO.o.writ _ (Jc _),HO.o.order j hlt,a9⟩)
   injection a6 with e1 _ e2
   subst e1;subst e2;obtain⟨e,he⟩:=NE (l[k]);rw[he]at R I a4 P;have hu:=D.below;have t:∀j x,(enV e)[j]?=some x->wr.cell? ⟨g,o+k*5+j,none⟩=some x:=λj x hx=>by
    have:=R j x hx;rw[<-j9]at this;rw[hu.cell (jM w _ this)];exact this
   have Y:wr.cell? ⟨g,o+k*5,none⟩=some (OI e.value):=t 0 _ rfl;have d1:wr.cell? ⟨g,o+k*5+1,none⟩=some (qa e.code):=t 1 _ rfl;have T:wr.cell? ⟨g,o+k*5+2,none⟩=some (OI e.id):=t 2 _ rfl;have Z:wr.cell? ⟨g,o+k*5+3,none⟩=some (OI e.seq):=t 3 _ rfl;have d4:wr.cell? ⟨g,o+k*5+4,none⟩=some (.bool e.dead):=t 4 _ rfl;have aj:(0:Int)<=(k:Int):=by omega
   have an:(k:Int)<(l.length:Int):=by omega
   have f:=D.alloc (.cells (enV e).toArray 137);obtain⟨z,L⟩:=EN wr.heap.size;rw[<-L]at f;obtain⟨p,a3,aa⟩:=Hi3 f L I;clear he R t hu D f L I G;unfold enV at p P;unfold qa at *;go_upto_region 9 with(fail)
   rw[<-a3.o];refine p.o.nameC ?_;clear p a3 Y d1 T Z d4 c0 c1 X c3 c4 c5;intro y f;have c0:y.cell? ⟨C,0,none⟩=some (OI h.width):=f.tail.cellH 0;have c1:y.cell? ⟨C,1,none⟩=some (OI h.table):=f.tail.cellH 1;have X:y.cell? ⟨C,2,none⟩=some (OI h.bits):=f.tail.cellH 2;have c3:y.cell? ⟨C,3,none⟩=some (OI h.lo):=f.tail.cellH 3;have c4:y.cell? ⟨C,4,none⟩=some (OI h.hi):=f.tail.cellH 4;have c5:y.cell? ⟨C,5,none⟩=some (OI h.count):=f.tail.cellH 5;have Y:y.cell? ⟨z,0,none⟩=some (OI e.value):=f.cellH 0;have d1:y.cell? ⟨z,1,none⟩=some (OT e.code):=f.cellH 1;have T:y.cell? ⟨z,2,none⟩=some (OI e.id):=f.cellH 2;have Z:y.cell? ⟨z,3,none⟩=some (OI e.seq):=f.cellH 3;have d4:y.cell? ⟨z,4,none⟩=some (.bool e.dead):=f.cellH 4;have p:=Hi f;clear f;go_upto_region 12 with(go_at_call 204;refine(a4.o _).mono ?_;rintro r u ⟨rfl,s⟩;have v:=Hi (p.o.callB s);clear s)
   clear c0 c1 X c3 c4 c5 Y d1 T Z d4;have n:=v.o;have Y:u.cell? ⟨z,0,none⟩=some (OI e.value):=n.cellH 0;have d1:u.cell? ⟨z,1,none⟩=some (OT e.code):=n.cellH 1;have T:u.cell? ⟨z,2,none⟩=some (OI e.id):=n.cellH 2;have Z:u.cell? ⟨z,3,none⟩=some (OI e.seq):=n.cellH 3;have d4:u.cell? ⟨z,4,none⟩=some (.bool e.dead):=n.cellH 4;have f0:=λd m=>jH Y d m
   have f1:=λd m=>jH d1 d m
   have f2:=λd m=>jH T d m
   have f3:=λd m=>jH Z d m
   have f4:=λd m=>jH d4 d m
   rcases k with _|j
   .clear n;refine Jq (by kernel_rfl) (by kernel_rfl) ?_
    repeat(go_big_quiet_step (fail))
    refine Ub ?_;intro _ K;obtain⟨⟨dq,O⟩,A⟩:=K;subst A;have N:=Hi (v.o.callB (Jo u dq O));go_wp2_with fail;exact⟨⟨1,by omega,by go_num,N.o.tail⟩,by simp[intOf];omega⟩
   .obtain⟨r,a0,a5,a7⟩:=P.o j rfl;have hu:=n.below;have t:∀i x,(enV r)[i]?=some x->u.cell? ⟨g,o+j*5+i,none⟩=some x:=λi x hx=>by
     have:=a7 i x hx;rw[<-j9]at this;rw[hu.cell (jM w _ this)];exact this
    have k0:u.cell? ⟨g,o+j*5,none⟩=some (OI r.value):=t 0 _ rfl;have k1:u.cell? ⟨g,o+j*5+1,none⟩=some (OT r.code):=t 1 _ rfl;have k2:u.cell? ⟨g,o+j*5+2,none⟩=some (OI r.id):=t 2 _ rfl;have k3:u.cell? ⟨g,o+j*5+3,none⟩=some (OI r.seq):=t 3 _ rfl;have k4:u.cell? ⟨g,o+j*5+4,none⟩=some (.bool r.dead):=t 4 _ rfl;have b0:=λd m=>jH k0 d m
    have b1:=λd m=>jH k1 d m
    have b2:=λd m=>jH k2 d m
    have b3:=λd m=>jH k3 d m
    have b4:=λd m=>jH k4 d m
    have a1:=Hi (λW=>a2.o W r e a0 aa.o);obtain⟨c,R⟩:=NE (yb r e);rw[R]at a1 a5;have ai:((j+1:Nat):Int)-1=(j:Int):=by omega
    have au:((j:Int)+1)-1=(j:Int):=by omega
    have ah:(0:Int)<=(j:Int):=by omega
    have ar:(j:Int)<(l.length:Int):=by omega
    have ap:(0:Int)<((j+1:Nat):Int):=by omega
    clear n a7 t hu R a0;refine Jq (by kernel_rfl) (by kernel_rfl) ?_
    repeat(go_big_quiet_step ((go_at_call 205;exact Jh (a1.o _))))
    refine Ub ?_;intro _ K;obtain⟨⟨dq,O⟩,A⟩:=K;subst A;have N:=Hi (v.o.callB (Jo u dq O));go_wp2_with fail;exact⟨⟨j+1+1,by omega,by go_num,N.o.tail⟩,by simp[intOf];omega⟩
  .have v:=Hi D;clear D;go_wp2_with (go_at_call 206;refine(E.o _ v.o.below).mono ?_;rintro r y ⟨am,n2,af,rfl,s⟩;have HB:=Hi (v.o.callB s);clear s);go_ret2;exact⟨rfl,HB.o.below⟩
def rdF(rd:Nat)(b:Bs)(p:Nat):Nat × Obj:=(rd,.cells #[qa b,.int .i64 (p:Int),.bool false] 387 (0,0))
def YG(W0:World)(rd:Nat)(b:Bs)(p:Nat)(M:va)(v:Value)(e:Ending)(w':World):Prop:=e=.returned v/\St W0 w' (rdF rd b p::M)
theorem YG.mk(h:r=v)(a:St W V (rdF n s b::F)):YG W n s b F v (.returned r) V:=⟨by rw[h],a⟩
theorem Ret.quiet{f:FuncId}{a:Array Value}(h:Calls P f a (W.drewN n) (Ret v (W.drewN n))):Calls P f a (W.drewN n) λe b=>e=.returned v/\∃m,b=W.drewN m :=
 h.mono λ_ _ ⟨he,hm⟩=>⟨he,n,hm.symm⟩
theorem Z3(b:Bs)(p v:Nat)(a:Int)(r:Bs)(M:va)(x:b.length<=1000000000)(m:p<=b.length)(g:b.drop p=qb v++r)(C:(v:Int)<=a)(B:a<=9223372036854775807)(e:St U w (rdF c b p::M)):
  Calls prog 305 #[za c,OI a] w (YG U c b (p+(qb v).length) M (OI (v:Int))):=by
 have d:=λW=>Yau W b p (by omega) m
 rw[g,yJ v r (by have:(2:Nat)^64=18446744073709551616:=by decide
                 omega)]at d
 have i:=Hi d;have f:p+(qb v).length<=b.length:=by
  have:=jT List.length g;rw[jQ,ja]at this;omega
 clear d g;obtain⟨q,j⟩:=NE (p+(qb v).length);simp only[vam]at i;rw[j]at i f|-
 clear j;unfold rdF at e;obtain⟨D,z,A⟩:=e.k3 0 1 2;have y:=e.freeH 1;have u:=Hi (λn=>(e.drewN n).set 1 (OI (q:Int)));obtain⟨s,k,l⟩:(0:Int)<=(v:Int)/\(v:Int)<=9223372036854775807/\(0:Int)<=a:=by omega
 have t:IntKind.i64.wrap (v:Int)=(v:Int):=J1 _ (by omega);clear e;unfold za qa at *;go_enter func305,ntmps305;go_upto_region 3 with(fail)
 go_quiet ((go_at_call 216;exact Ret.quiet (i.o _)));have h:=Hi (u.o nq);go_wp2_with fail;go_ret;exact YG.mk rfl h.o
theorem Zbe(l:Bs)(p n:Nat):(ByteArray.mk l.toArray).extract p (p+n)=ByteArray.mk ((l.drop p).take n).toArray:=by
 apply Kf;simp[kk,U1]
theorem vaU{w:World}(a:P.underlying T=some .string)(s:ByteArray)(l h:Nat)(f:l<=h)(d:h<=s.size):
  (Instr.slice T (.string s) (some (OI (l:Int))) (some (OI (h:Int))) none).run P w=.ok (.string (s.extract l h)) w:=by
 obtain⟨b,g,c,e⟩:(0:Int)<=(l:Int)/\(0:Int)<=(h:Int)/\(l:Int)<=(h:Int)/\(h:Int)<=(s.size:Int):=by omega
 simp[Instr.slice,UB a,Instr.sliceBounds,run_sliceBound, *]
theorem Yam(b:Bs)(p n:Nat)(M:va)(B:b.length<=1000000000)(y:p+n<=b.length)(d:St U w (rdF c b p::M)):
  Calls prog 307 #[za c,OI (n:Int)] w (YG U c b (p+n) M (qa ((b.drop p).take n))):=by
 unfold rdF at d;obtain⟨r,h,v⟩:=d.k3 0 1 2;have t:=d.freeH 1;have i:=Hi (λm=>(d.drewN m).set 1 (OI ((p:Int)+(n:Int))));have u:=zb b;obtain⟨x,A,z,s⟩:(0:Int)<=(p:Int)/\(0:Int)<=(n:Int)/\(p:Int)+(n:Int)<=(b.length:Int)/\(b.length:Int)<=1000000000:=by omega
 obtain⟨j,C⟩:(p:Int)+(n:Int)-(n:Int)=(p:Int)/\((p:Int)+(n:Int)).toNat=p+n:=by omega
 have l:¬ ((b.length:Int)-(p:Int)<(n:Int)):=by omega
 have k:=Zbe b p n;have e:∀W,(Instr.slice 9 (OT b) (some (OI (p:Int))) (some (OI ((p:Int)+(n:Int)))) none).run prog W=.ok (.string ⟨((b.drop p).take n).toArray⟩) W:=λW=>by
  rw[<-k,<-vaU underlying9 (w:=W) ⟨b.toArray⟩ p (p+n) (by omega) (by rw[u];exact y),Int.natCast_add]
 obtain⟨T,g⟩:=NE ((b.drop p).take n);rw[g]at e|-
 clear d g k;unfold za qa at *;go_enter func307,ntmps307;go_upto_region 1 with(fail)
 go_quiet (fail);go_upto_region 5 with(fail)
 refine(i.o nq).nameC ?_;clear i r h v t;intro q a;obtain⟨r,h⟩:=a.k2 0 1;have f:=Hi (λm=>a.drewN m);clear a;go_quiet (fail);go_wp2_with fail;go_ret;exact YG.mk rfl (by have:=f.o nq;unfold rdF;rw[Int.natCast_add];exact this)
theorem qaG(b:Bs)(p:Nat)(k:b.length<=1000000000)(j:p<=b.length)(l:OV w c 0 (qa b))(n:OV w c 1 (OI (p:Int)))(i:OV w c 2 (.bool false)):
  Calls prog 306 #[za c] w (Vd (.bool (decide (p<b.length))) w):=by
 have q:=zb b;obtain⟨h,f,g⟩:(0:Int)<=(p:Int)/\(b.length:Int)<=1000000000/\(p:Int)<=(b.length:Int):=by omega
 have e:=Hi (λm=>yj (jU w.heap.size w) m);unfold za qa at *;go_enter func306,ntmps306;by_cases hlt:p<b.length
 .have a:(p:Int)<(b.length:Int):=by omega
  have d:Hy (decide (p<b.length)=true):=Hi (by simpa using hlt);go_upto_region 1 with(fail)
  go_quiet (fail);go_wp2_with fail;go_ret;exact Vd.mk (by first|rfl|(rw[d.o];rfl)) (e.o nq)
 .have a:¬ ((p:Int)<(b.length:Int)):=by omega
  have d:Hy (decide (p<b.length)=false):=Hi (by simpa using hlt);go_upto_region 1 with(fail)
  go_quiet (fail);go_wp2_with fail;go_ret;exact Vd.mk (by first|rfl|(rw[d.o];rfl)) (e.o nq)
theorem XG(a:Bool)(h:w.cell? ⟨c,5,none⟩=some (.bool a)):Calls prog 24 #[za c] w (Ret (.bool a) w):=by
 unfold za;go_enter func24,ntmps24;go_wp2_with fail;go_ret;exact Ret.mk rfl
theorem vW(a:Int)(h:w.cell? ⟨c,3,none⟩=some (OI a)):Calls prog 79 #[za c] w (Ret (OI a) w):=by
 unfold za;go_enter func79,ntmps79;go_wp2_with fail;go_ret;exact Ret.mk rfl
def Dk.arm(d:Dk)(n:Int)(done:Bool):Dk:=if d.off then d else {d with armed:=max n 0,done:=done}
def Dk.fresh(c:Int):Dk:=⟨[],c,0,0,0,false,0,false⟩
theorem XM(c:Int)(a:0<=c)(b:c<=1073741824):(Dk.fresh c).Fits:=⟨⟨by simp[Dk.fresh],by simp[Dk.fresh],by simp[Dk.fresh],by simp[Dk.fresh],a,a,b,by simp[Dk.fresh],by simp[Dk.fresh],by simp[Dk.fresh]⟩,by simp[Dk.fresh],by simp[Dk.fresh]⟩
def zB(c:Int)(w:World)(e:Ending)(w':World):Prop :=
 if c<0\/1073741824<c then e=.returned (.pointer none)/\w'=w else ∃bd bm om,e=.returned (za bd)/\xe om [] (Dk.fresh c)/\St w w' (Zb bd bm om [] (Dk.fresh c))
theorem zbd(c:Int)(f:-9223372036854775808<=c)(e:c<=9223372036854775807):Calls prog 6 #[OI c] w (zB c w):=by
 go_enter func6,ntmps6;by_cases q0:c<0
 .have a:Hy (zB c w (.returned (.pointer none)) w):=Hi (by unfold zB;rw[jh (.inl q0)];exact⟨rfl,rfl⟩);go_wp2_with fail;go_ret;exact a.o
 .by_cases q1:1073741824<c
  .have a:Hy (zB c w (.returned (.pointer none)) w):=Hi (by unfold zB;rw[jh (.inr q1)];exact⟨rfl,rfl⟩);go_wp2_with fail;go_ret;exact a.o
  .have d:∀w,(Instr.makeMap 59 none).run prog w=.ok (.map (some w.heap.size)) (w.alloc (.map #[] 0)):=λw=>kF _ w
   have b:=Hi (((St.refl w).alloc (.map #[] 0)).alloc (.cells (VF w.heap.size (Dk.fresh c)) 61));have a:=Hi (show zB c w (.returned (OQ (w.heap.size+1))) ((w.alloc (.map #[] 0)).alloc (.cells (VF w.heap.size (Dk.fresh c)) 61)) by
    unfold zB;rw[jd (by omega)];refine⟨_,w.heap.size,.map #[] 0,rfl,⟨rfl,by simp,Va.empty,by simp⟩,?_⟩;have:=b.o;rw[jF]at this;exact this)
   clear b;go_wp2_with fail;go_ret;exact a.o
theorem qaU:∀a b:Bs,leB a b=decide (a<=b)
 |[],b=>by simp[leB]
 |x::a,[]=>by simp[leB]
 |x::a,y::b=>by
  have g:=qaU a b;have f:(x::a<=y::b)<->(x<y\/x=y/\a<=b):=List.cons_le_cons_iff;have c:x<y<->x.toNat<y.toNat:=Ur;have d:x=y<->x.toNat=y.toNat:=⟨λh=>by rw[h],λh=>kP.1 h⟩;rw[kj,jG,f];unfold leB;by_cases c1:x.toNat<y.toNat
  .rw[jh c1];simp[c.2 c1]
  .rw[jd c1];by_cases c2:y.toNat<x.toNat
   .rw[jh c2];simp only[JD,false_iff];rintro(h|⟨h,_⟩)
    .exact c1 (c.1 h)
    .rw[d]at h;omega
   .rw[jd c2,g,jG];have e:x=y:=d.2 (by omega);subst e;exact⟨λh=>.inr ⟨rfl,h⟩,λh=>by
     rcases h with h|h
     .exact absurd (c.1 h) c1
     .exact h.2⟩
theorem qw(l:List Bs):Xn l=l.mergeSort (λx y=>decide (x<=y)):=by
 unfold Xn
 congr 1
 funext x y
 exact qaU x y
theorem Xam{a b:List Bs}(h:a.Perm b):Xn a=Xn b:=by
 rw[qw,qw];have f:∀x y z:Bs,decide (x<=y)=true->decide (y<=z)=true->decide (x<=z)=true:=λx y z e d=>by
  simp only[jG]at *;exact List.le_trans e d
 have c:∀x y:Bs,(decide (x<=y)||decide (y<=x))=true:=λx y=>by
  simp only[kO,jG];exact List.le_total x y
 have g:=US (le:=λx y:Bs=>decide (x<=y)) f c a;have i:=US (le:=λx y:Bs=>decide (x<=y)) f c b;refine List.Perm.eq_of_pairwise (λx y _ _ e d=>?_) g i ((JX a _).trans (h.trans (JX b _).symm));simp only[jG]at e d;exact List.le_antisymm e d
theorem Ybe(M F:va)(v:Value)(l:List Bs)(p:Rw 9 1 v l.length (l.map qa) F)(h:St U w (F++M))(d:l≠[])(x:l.length<=1000000000):
  Calls prog 188 #[v] w λe j=>e=.returned (.tuple #[])/\∃F',Rw 9 1 v l.length ((Xn l).map qa) F'/\St U j (F'++M):=by
 have r:0<l.length:=JI.2 d;obtain⟨t,o⟩:=p;rcases o with⟨rfl,u,rfl⟩|⟨g,b,a,rfl,rfl,c,q,i,k⟩
 .omega
 .have m:w.heap[g]?=some (.cells a 9):=h.get;rw[JM]at k i;have f:(Xn l).length=l.length:=by rw[qw];exact(JX _ _).length_eq
  refine(slices_Sort_string g 0 b l w (holds_of_block m k) h.hlt (by omega)).mono ?_;rintro e j ⟨rfl,n,s,rfl⟩;rw[<-qw];refine⟨rfl,[(g,.cells (Go.Sort.putCells Go.Proofs.encStr 0 (Xn l).toArray a) 9)],⟨by simp[f],.inr ⟨g,b,_,rfl,rfl,c,q,by simp[Go.Sort.putCells,i],?_⟩⟩,?_⟩
  .rw[JM,<-f];exact take_putCells a (Xn l) (by rw[f,i];omega)
  .exact h.put (grownBy_sorted _) (heap_sorted _ m)
def Qaq(W0:World)(M:va)(l:List Bs)(e:Ending)(w':World):Prop:=∃v F,e=.returned v/\Rw 9 1 v l.length (l.map qa) F/\St W0 w' (F++M)
theorem Xbe:(prog.info? 9).map (λi=>(i.zero,i.size,i.bytes))=some (some (.string ⟨#[]⟩),1,16):=by kernel_rfl
def Vai:Value->Nat
 |.slice _ n _=>n
 |_=>0
theorem Vbe(T w:World)(bd i:Nat)(q:Obj)(v:List FH)(D:Dk)(M:va)(a1:D.Wf)(hD:xe q v D)(hS:St T w (Zb bd i q v D++M)):
  Calls prog 113 #[za bd] w (Qaq T (Zb bd i q v D++M) D.names):=by
 have y0:w.cell? ⟨bd,0,none⟩=some (.map (some i)):=hS.cellH 0;obtain⟨oi,K,s,a4⟩:=Va.range (P:=prog) (k:=9) (e:=119) (t:=59) underlying59 hD.map (hS.swap);have L:v.length<=4096:=by have:=a1.count;rw[hD.files,jz]at this;exact this
 have g:∀x∈v,x.name.length<=32:=λx j=>by
  have:=a1.names (x.name,x.f) (by rw[hD.files];exact jg.2 ⟨x,j,rfl⟩);simp only[Zf,Uf,jG]at this;exact this.2
 have HD:=Hi hD;unfold za;go_enter func113,ntmps113;go_wp2_with fail;obtain⟨r,hr⟩:=EN w.heap.size;rw[<-hr]at s|-
 refine s.nameC ?_;clear hS s K y0 hr;intro w1 s;obtain⟨G,R⟩:∃G:va,G=(bd,Obj.cells (VF i D) 61)::(fhF v++M):=⟨_,rfl⟩;have c:St T w1 ((r,oi)::(i,q)::G):=by rw[R];exact s
 have HM:=Hi R;clear s R;obtain⟨HC,a9⟩:=Hi2 L g;clear L g;obtain⟨i1,a8,ag,af,a7⟩:=Vs Xbe;go_loopw [3] (λlv wr=>∃(V:List Bs) (n:Obj) (F:va),V.Nodup/\(∀x∈V,x∈v.map (·.name))/\V.length<=4096/\Rw 9 1 lv V.length (V.map qa) F/\Qx qa i n q V/\St T wr ((r,n)::(i,q)::(F++G))) (λlv _=>v.length-Vai lv)
 case atStart=>exact⟨[],oi,[],by simp,by simp,by simp,Rw.nil _ _,a4,c⟩
 case round =>
  obtain⟨V,n,F,hV,m,ao,Z,hI,E⟩:=hrel;rcases Va.next (P:=prog) (λx y h=>Yav h) HD.o.map E hI 0 with⟨z,N⟩|⟨p,hp,X,H,W2,N,c,a2,l⟩
  .have HP:Hy (V.Perm (v.map (·.name))):=Hi (by
    refine(Un hV HD.o.nodup).2 λx=>⟨m x,λj=>?_⟩
    obtain⟨y,hy,rfl⟩:=jg.1 j;exact z _ (jg.2 ⟨y,hy,rfl⟩))
   have I:=St.rot (A:=[(r,n),(i,q)]) (B:=F) (C:=G) E;have HE:Hy (D.names=Xn V):=Hi (by
    unfold Dk.names;refine Xam ?_;rw[HD.o.files,j7];exact HP.o.symm)
   have O:=Hi (λ(Y:va) (w':World) (hs:St T w' (Y++([(r,n),(i,q)]++G)))=>(show St T w' (Y++(Zb bd i q v D++M)) by
    rw[HM.o]at hs;exact(hs.sub ((Jz Y).append (ko _ _))).perm (List.Perm.append_left Y (JC _ _ _))))
   have HR:=Hi Z;obtain⟨ad,J,rfl,_⟩:=Z.form;by_cases hv0:V=[]
   .subst hv0;have d:=Hi (λ(W:World)=>slices_Sort_string_none ad J W);have a6:=Hi (O.o F wr I);have a3:=Hi (show D.names=[] by rw[HE.o,qw];simp);clear c hI E z I hV m Z;go_wp2_with (go_at_call 188;refine(d.o _).mono ?_;rintro e w' ⟨rfl,rfl⟩);go_ret;exact⟨_,F,rfl,by rw[a3.o];exact HR.o,a6.o⟩
   .have d:=Hi (Ybe T wr ([(r,n),(i,q)]++G) F (.slice ad V.length J) V HR.o I hv0 (by omega));clear c Z hI E z I hV m hv0;go_wp2_with (go_at_call 188;refine d.o.mono ?_;rintro e w' ⟨rfl,Y,a5,ah⟩);have ac:(Xn V).length=V.length:=by rw[qw];exact(JX _ _).length_eq
    go_ret;exact⟨_,Y,rfl,by rw[HE.o,ac];exact a5,O.o Y w' ah⟩
  .have U:=l;obtain⟨y,hy,rfl⟩:=jg.1 hp;have HR:=Hi Z;have al:V.length<v.length:=by
    have:(y.name::V).length<=(v.map (·.name)).length:=JH (jY.2 ⟨X,hV⟩) (by
     intro x j;rcases jp.1 j with rfl|j
     .exact jg.2 ⟨y,hy,rfl⟩
     .exact m x j)
    rw[jk,jz]at this;exact this
   have ai:=Hi (St.rot (A:=[(r,H),(i,q)]) (B:=F) (C:=G) c);obtain⟨ak,ab⟩:=Hi2 l a2;have S:=l W2 _ c;have HV:=Hi (jy hV (jy m X));have an:=a9.o y hy;have HY:=Hi hy;obtain⟨ad,J,rfl,_⟩:=Z.form;clear Z E hI c a2 l U hV m X hp hy;unfold qa at N S;go_wp2_with (at_builtin;refine xh (by rfl) _ _ 93 (by rfl) 9 i1 (.string ⟨#[]⟩) 1 16 underlying93 a8 ag af a7 (by rfl) (by decide) (.slice ad V.length J) V.length (V.map qa) F ([(r,H),(i,q)]++G) (by rfl) HR.o ai.o 1 W2.heap.size _ (by rfl) (by rfl) (by rfl) (by intro u hu;simp at hu;subst hu;rfl) (by unfold maxLen;omega) (by omega) ?_);intro v3 W3 F3 Q a0;obtain⟨ae,aa⟩:=Hi2 Q a0;obtain⟨am,aj,rfl,_⟩:=Q.form;clear Q a0;go_wp2_with fail;refine⟨⟨V++[y.name],H,F3,?_,?_,?_,?_,ab.o,?_⟩,?_⟩
   .exact Jr.2 ⟨HV.o.1,by simp,λa ha b hb e=>by simp at hb;subst hb;subst e;exact HV.o.2.2 ha⟩
   .intro x j;rcases jo.1 j with j|j
    .exact HV.o.2.1 x j
    .simp at j;subst j;exact jg.2 ⟨y,HY.o,rfl⟩
   .rw[ja];simp;have:=HC.o;omega
   .simpa [qa] using ae.o
   .exact St.rot (A:=F3) (B:=[(r,H),(i,q)]) (C:=G) aa.o
   .simp[Vai];omega
theorem Zs{b x y:Bs}(c:n<=b.length)(h:b.drop n=x++y):b.drop (n+x.length)=y/\(b.drop n).take x.length=x/\n+x.length<=b.length:=by
 have a:=jT List.length h;rw[jQ,ja]at a;refine⟨?_,by rw[h,Uj],by omega⟩;rw[<-U4,h,UV]
theorem Vam(e:En):∀u∈enV e,u.oneCell'=true:=by
 intro u a;simp only[enV,qa,jp,JF,UF]at a;rcases a with rfl|rfl|rfl|rfl|rfl<;>rfl
theorem yK:∃i,prog.info? 137=some i/\∃z,i.zero=some z/\i.size=5/\z.cells.size=5/\∃by_,i.bytes=by_/\by_<=128:=by
 have h:(prog.info? 137).map (λi=>(i.zero.map (λz=>z.cells.size),i.size,decide (i.bytes<=128)))=some (some 5,5,true):=by kernel_rfl
 obtain⟨i,e,b⟩:=jL.1 h;simp only[Je,jL,jG]at b;obtain⟨⟨z,f,a⟩,c,d⟩:=b;exact⟨i,e,z,f,c,a,_,rfl,d⟩
def XaK(e:En)(d:Bool):List Value:=[.int .i64 e.value,qa e.code,.int .i64 e.id,.int .i64 e.seq,.bool d]
theorem zaz(e:En)(d:Bool):∀u∈XaK e d,u.oneCell'=true:=by
 intro u a;simp only[XaK,qa,jp,JF,UF]at a;rcases a with rfl|rfl|rfl|rfl|rfl<;>rfl
theorem Ybl:(binOp .gtr 9 (.string ⟨#[0]⟩) (.string ⟨#[1]⟩)).run prog w=.ok (.bool false) w:=by
 rw[binOp_string_gtr,JR,JR];rfl
theorem Xbl:(binOp .gtr 9 (.string ⟨#[1]⟩) (.string ⟨#[1]⟩)).run prog w=.ok (.bool false) w:=by
 rw[binOp_string_gtr,JR];rfl
theorem Vbl:(binOp .eql 9 (.string ⟨#[0]⟩) (.string ⟨#[1]⟩)).run prog w=.ok (.bool false) w:=by
 rw[KX,JR,JR];rfl
theorem Qbl:(binOp .eql 9 (.string ⟨#[1]⟩) (.string ⟨#[1]⟩)).run prog w=.ok (.bool true) w:=by
 rw[KX,JR];rfl
def yaz(l:List En)(w:World)(e:Ending)(w':World):Prop :=
 ∃v F,e=.returned (.tuple #[v,.bool true])/\Rw 137 5 v l.length (l.flatMap enV) F/\St w w' F
theorem ZaU(h:Hd)(l:List En)(L:Nat)(aq:h.width=8*(L:Int))(hw:L<=128)(hf:∀e∈l,e.fit L)(hb:(l.flatMap qc).length<=65536)(hn:l.length<=65536):
  Calls prog 260 #[.agg (hdV h).toArray,qa (l.flatMap qc)] w (yaz l w):=by
 obtain⟨b,aG⟩:=NE (l.flatMap qc);rw[aG]at hb|-
 obtain⟨aJ,al,ae,ak,an,aC⟩:=h;simp only at aq;subst aq;have U:=((St.refl w).alloc (.cells (hdV ⟨8*(L:Int),al,ae,ak,an,aC⟩).toArray 212)).alloc (.cells #[qa b,OI ((0:Nat):Int),.bool false] 387);rw[jF]at U;obtain⟨C,hC⟩:=EN w.heap.size;rw[<-hC]at U;obtain⟨a2,HC⟩:=Hi2 U hC;obtain⟨i0,hi,z,hz,aj,aw,O,ao,ar⟩:=yK;clear U hC;unfold hdV at a2|-
 unfold qa at *;go_enter func260,ntmps260;go_wp2_with fail;rw[<-HC.o];refine a2.o.nameC ?_;clear a2;intro w1 aD;obtain⟨ho,a3⟩:∃ho:Obj,ho=.cells #[OI (8*(L:Int)),OI al,OI ae,OI ak,OI an,OI aC] 212:=⟨_,rfl⟩;go_loopw [6] (λlv wr=>∃(a rest:List En) (p:Nat) (F:va),l=a++rest/\b.drop p=rest.flatMap qc/\p<=b.length/\Rw 137 5 lv a.length (a.flatMap enV) F/\St w wr (rdF (C+1) b p::(F++[(C,ho)]))) (λlv _=>l.length-Vai lv)
 case atStart=>exact⟨[],l,0,[],rfl,by rw[<-aG];rfl,jX _,Rw.nil _ _,by rw[a3];exact aD⟩
 case round =>
  clear aD;obtain⟨a,rest,p,F,y,hd,hp,hR,hS⟩:=hrel;have ac:=Hi (λW c0 c1 c2=>qaG W (C+1) b p (by omega) hp c0 c1 c2);unfold za qa at ac;have HS:=Hi hS;obtain⟨c0,c1,c2⟩:=hS.k3 0 1 2;have B:=Hi (ac.o wr c0 c1 c2);clear ac c0 c1 c2 hS;rcases rest with _|⟨e,r⟩
  .have aL:p=b.length:=by
    have:=jT List.length hd;rw[jQ]at this;simp only[Jk,jA]at this;omega
   have k:decide (p<b.length)=false:=by simp;omega
   rw[k]at B;rw[jJ]at y;subst y;go_upto_region 11 with(go_at_call 306;refine B.o.mono ?_;rintro e' w2 ⟨rfl,G⟩;have f:=Hi (HS.o.callB G);clear G)
   have c2:=f.o.cellH 2;go_quiet (fail);go_wp2_with fail;go_ret2;exact⟨_,F,rfl,hR,(f.o.drewN nq).tail.appL⟩
  .obtain⟨f1,f2,f3,f4,f5,f6,f7⟩:=hf e (by rw[y];exact je _ jc);obtain⟨D,hD⟩:∃D:Bs,D=[if e.dead then 1 else 0]:=⟨_,rfl⟩;have d0:b.drop p=Vh e.value.toNat 4++(e.code++(qb e.id.toNat++(qb e.seq.toNat++(D++r.flatMap qc)))):=by
    rw[hd,jB,hD];unfold qc Yn num;simp only[jE]
   have a7:D.length=1:=by rw[hD];rfl
   obtain⟨d1,t1,l1⟩:=Zs hp d0;obtain⟨d2,t2,Y⟩:=Zs l1 d1;obtain⟨S,t3,P⟩:=Zs Y d2;obtain⟨X,t4,Q⟩:=Zs P S;obtain⟨I,N,t⟩:=Zs Q X;have ax:=qi e.value.toNat 4;have hV:=xZ e.value.toNat 4 (by omega);obtain⟨A,hA⟩:=NE (Vh e.value.toNat 4);rw[hA]at d0 d1 t1 l1 d2 t2 Y S t3 P X t4 Q I N t ax hV;rw[ax]at d1 t1 l1 d2 t2 Y S t3 P X t4 Q I N t;have k:decide (p<b.length)=true:=by simp;omega
   rw[k]at B;rw[f1]at d2 t2 Y S t3 P X t4 Q I N t;have a0:=Hi (λW M (h:St w W (rdF (C+1) b p::M))=>by have:=Yam w W (C+1) b p 4 M (by omega) l1 h;rw[t1]at this;exact this);have a9:=Hi (λW=>by have:=ZaT W A 0 (by omega) (by omega);rw[Ju,Ji (by omega),hV,JY f2]at this;exact this);obtain⟨p1,ay⟩:=NE (p+4);rw[ay]at d1 l1 d2 t2 Y S t3 P X t4 Q I N t a0;have R:=Hi (λW M (h:St w W (rdF (C+1) b p1::M))=>by have:=Yam w W (C+1) b p1 L M (by omega) Y h;rw[t2]at this;exact this);obtain⟨p2,av⟩:=NE (p1+L);rw[av]at d2 Y S t3 P X t4 Q I N t R;have V:=Hi (λW M (h:St w W (rdF (C+1) b p2::M))=>by have:=Z3 w W (C+1) b p2 e.id.toNat 281474976710656 _ M (by omega) Y d2 (by omega) (by omega) h;rw[JY f4]at this;exact this);obtain⟨p3,af⟩:=NE (p2+(qb e.id.toNat).length);rw[af]at S P X t4 Q I N t V;have T:=Hi (λW M (h:St w W (rdF (C+1) b p3::M))=>by have:=Z3 w W (C+1) b p3 e.seq.toNat 1152921504606846976 _ M (by omega) P S (by omega) (by omega) h;rw[JY f6]at this;exact this);obtain⟨p4,ah⟩:=NE (p3+(qb e.seq.toNat).length);rw[ah]at X Q I N t T;rw[a7]at I N t;have s:=Hi (λW M (h:St w W (rdF (C+1) b p4::M))=>by have:=Yam w W (C+1) b p4 1 M (by omega) t h;rw[N]at this;exact this);obtain⟨p5,aA⟩:=NE (p4+1);rw[aA]at I t s;have aK:Int.tdiv (8*(L:Int)) 8=(L:Int):=by rw[JK (by omega)];omega
   have aM:IntKind.i64.wrap e.value=e.value:=J1 _ (by omega);have HD:=Hi hD;have Z:=Hi (jy I t);obtain⟨HR,j,aI⟩:=Hi3 hR y a3;clear d0 d1 t1 l1 d2 t2 Y S t3 P X t4 Q I N t ay av af ah aA hD hV hA k hd hR y a3;unfold YG za qa at a0 R s;unfold YG za at V T;unfold qa at a9;go_upto_region 5 with(first
    |(go_at_call 306;refine B.o.mono ?_;rintro e' w2 ⟨rfl,G⟩;have f:=Hi (HS.o.callB G);clear G)
    |(go_at_call 307;refine MR (a0.o _ _ f.o) λw3 a5=>?_)
    |(go_at_call 215;refine MQ (a9.o _) ?_))
   have k0:OV w3 C 0 (OI (8*(L:Int))):=(aI.o▸a5.o).rd (i:=0) (jb _ (je _ jc)) rfl;clear a0 a9 B HS f;go_upto_region 6 with(first
    |(go_at_call 307;refine MR (R.o _ _ a5.o) λw4 au=>?_)
    |(go_at_call_of 305 (Value.int IntKind.i64 281474976710656);refine MR (V.o _ _ au.o) λw5 ap=>?_)
    |(go_at_call 305;refine MR (T.o _ _ ap.o) λw6 a4=>?_))
   have q:=a4.o.alloc (.cells (XaK e false).toArray 137);obtain⟨m,am⟩:=EN w6.heap.size;rw[<-am]at q|-
   clear am a5 au ap R V T k0;have K:=q.swap;unfold XaK qa at K;refine K.nameC ?_;clear q K;intro w7 q;have a1:=Hi q;clear q;have H:=HD.o;obtain⟨dd,k⟩:=NE e.dead;rw[k]at H;have aB:=Hi k;clear k;rcases dd with _|_
   .simp only[JV,Jb,JD]at H;subst H;clear HD a7;go_upto_region 7 with(go_at_call 307;refine MR (s.o _ _ a1.o) λwx d=>?_)
    have k2:=d.o.cellH 2;have k4:OV wx m 4 (.bool false):=d.o.tail.cellH 4;have k5:=d.o.tail.freeH 4;clear a1 s a4;have y1:=Ybl;have y2:=Xbl;have y3:=Vbl;have y4:=Qbl;have y5:Op.bytesLess [0] [1]=true:=by rfl
    go_upto_region 10 with(fail)
    refine((d.o.swap).set 4 _).nameC ?_;clear d k2 k4 k5 y1 y2 y3 y4 y5;intro n c;obtain⟨k0,k1,k2,k3,k4⟩:=c.k5 0 1 2 3 4;change OV n m 4 (.bool false)at k4;have g:(a.length+1)*O<=140737488355328:=jI (Jg (show a.length+1<=65537 by have:=jT List.length j.o;rw[ja]at this;omega) ar) (by decide);have a8:a.length+1<=maxLen:=by have:=jT List.length j.o;rw[ja]at this;unfold maxLen;omega
    have ab:=Hi (St.b2 (A:=[_,_]) c);clear c;obtain⟨ad,aa,rfl,_⟩:=HR.o.form;go_wp2_with (at_builtin;refine xh (W0:=w) (by rfl) _ _ 133 (by rfl) 137 i0 z 5 O underlying133 hi hz aj ao aw (by decide) (.slice ad a.length aa) a.length (a.flatMap enV) F _ (by rfl) HR.o ab.o 1 n.heap.size [OI e.value,OT e.code,OI e.id,OI e.seq,.bool false] (by rfl) (by rfl) (by rfl) (zaz e false) a8 g ?_;intro v' W' F' v J;obtain⟨E,f⟩:=Hi2 v J;clear v J);obtain⟨aH,aE,rfl,_⟩:=E.o.form;have a6:enV e=[OI e.value,OT e.code,OI e.id,OI e.seq,.bool false]:=by unfold enV qa;rw[aB.o]
    have x:=jT List.length j.o;rw[ja,jk]at x;refine⟨⟨a++[e],r,p5,_,by rw[j.o,jE];rfl,Z.o.1,Z.o.2,?_,(f.o.sub ((Jz _).append (ko _ _))).mid⟩,by simp only[Vai];omega⟩;rw[ja,<-VQ,a6];exact E.o
   .simp only[JV,Jb,JD]at H;subst H;clear HD a7;go_upto_region 7 with(go_at_call 307;refine MR (s.o _ _ a1.o) λwx d=>?_)
    have k2:=d.o.cellH 2;have k4:OV wx m 4 (.bool false):=d.o.tail.cellH 4;have k5:=d.o.tail.freeH 4;clear a1 s a4;have y1:=Ybl;have y2:=Xbl;have y3:=Vbl;have y4:=Qbl;have y5:Op.bytesLess [0] [1]=true:=by rfl
    go_upto_region 10 with(fail)
    refine((d.o.swap).set 4 _).nameC ?_;clear d k2 k4 k5 y1 y2 y3 y4 y5;intro n c;obtain⟨k0,k1,k2,k3,k4⟩:=c.k5 0 1 2 3 4;change OV n m 4 (.bool true)at k4;have g:(a.length+1)*O<=140737488355328:=jI (Jg (show a.length+1<=65537 by have:=jT List.length j.o;rw[ja]at this;omega) ar) (by decide);have a8:a.length+1<=maxLen:=by have:=jT List.length j.o;rw[ja]at this;unfold maxLen;omega
    have ab:=Hi (St.b2 (A:=[_,_]) c);clear c;obtain⟨ad,aa,rfl,_⟩:=HR.o.form;go_wp2_with (at_builtin;refine xh (W0:=w) (by rfl) _ _ 133 (by rfl) 137 i0 z 5 O underlying133 hi hz aj ao aw (by decide) (.slice ad a.length aa) a.length (a.flatMap enV) F _ (by rfl) HR.o ab.o 1 n.heap.size [OI e.value,OT e.code,OI e.id,OI e.seq,.bool true] (by rfl) (by rfl) (by rfl) (zaz e true) a8 g ?_;intro v' W' F' v J;obtain⟨E,f⟩:=Hi2 v J;clear v J);obtain⟨aH,aE,rfl,_⟩:=E.o.form;have a6:enV e=[OI e.value,OT e.code,OI e.id,OI e.seq,.bool true]:=by unfold enV qa;rw[aB.o]
    have x:=jT List.length j.o;rw[ja,jk]at x;refine⟨⟨a++[e],r,p5,_,by rw[j.o,jE];rfl,Z.o.1,Z.o.2,?_,(f.o.sub ((Jz _).append (ko _ _))).mid⟩,by simp only[Vai];omega⟩;rw[ja,<-VQ,a6];exact E.o
end Go.Proofs.YtekkihmmclencaaGreatDoor
