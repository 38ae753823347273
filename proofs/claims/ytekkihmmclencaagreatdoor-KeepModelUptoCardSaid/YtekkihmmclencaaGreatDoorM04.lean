import Derived.Test.YtekkihmmclencaaGreatDoorM03
namespace Go.Proofs.YtekkihmmclencaaGreatDoor
set_option linter.all false
set_option maxRecDepth 100000
set_option maxHeartbeats 40000000
open Tryz
open Go Go.RowKit
variable(U w:World)(q c:Nat){W V:World}{n k:Nat}{v:Value}{F G:va}{s:Bs}{T:TypeId}{o:Op3}{P:Program}{Q:Exit->Act->World->Prop}{l:List En}{X:List Value}
theorem qZ(b:Bs):Go.Lib.strCells ⟨b.toArray⟩=Vc b:=by
 simp[Go.Lib.strCells,Vc]
theorem XL(t u A e:TypeId)(i:TypeInfo)(B:P.underlying t=some (.slice e))(C:P.underlying u=some .string)(D:P.info? e=some i)(F:i.zero=some (.int .u8 0))
  (a:i.size=1) (p:i.bytes=1) (v:Value) (n:Nat) (r:List Value) (b:w.ownsRow c e 1 v n r) (s:ByteArray)
  (y:n+s.size<=maxLen) (k:n+s.size<=140737488355328) (m:c<=w.heap.size) :
  ∃l x,(Builtin.append_ #[t,u] A #[v,.string s]).run P w=.ok l x/\x.ownsRow c e 1 l (n+s.size) (r++Go.Lib.strCells s)/\w.grownBy x v.ownBlock /\
   (l=.slice none 0 0->v=.slice none 0 0)/\(l.ownBlock=v.ownBlock\/l.ownBlock=some w.heap.size):=by
 obtain⟨l,x,q,K,R,I⟩:=Go.Lib.run_append_own_string (P:=P) w c t u A e i B C D F a p v n r b s y k m;refine⟨l,x,q,K,R,λh=>(I.1 h).1,?_⟩;have Q:n+s.size<=9223372036854775807:=by simp only[maxLen]at y;omega
 rcases b.2 with⟨rfl,rfl⟩|⟨g,f,z,rfl,N,M,O,L,H,G⟩
 .by_cases hm:s.size=0
  .left;rw[I.2 ⟨rfl,hm⟩]
  .right;have d:=run_append_nil_string (P:=P) w t u A e i (.int .u8 0) B C D F s (by omega) (by omega) (by rw[p];omega);rw[d]at q;injection q with e1 _
   rw[<-e1];rfl
 .by_cases hroom:n+s.size<=f
  .left;have J:z.size=f:=by simpa using H
   have d:=Go.Lib.run_append_room_string (P:=P) w t u A e i B C D a g n f z M s hroom (by omega);rw[d]at q;injection q with e1 _
   rw[<-e1];rfl
  .right;have E:r.length=n:=by simpa using b.1
   have o:∀j u,r[j]?=some u->w.cell? ((⟨g,0,none⟩:Addr).add j)=some u:=b.cells (g:=g) rfl;have d:=Go.Lib.run_append_grow_string (P:=P) w t u A e i (.int .u8 0) B C D F ⟨g,0,none⟩ n f r (by rw[a];simpa using E) o s (by omega) (by omega) (by rw[p];exact growslice_fits (by omega) (by omega));rw[d]at q;injection q with e1 _
   rw[<-e1];rfl
theorem St.nameT{f:Func}{R:Ending->World->Prop}{K:Act->World->Prop}{b:Exit}{a:Act}(h:St V W F)(k:∀W',St V W' F->Exit.then K (bodyPost P f R) b a W'):Exit.then K (bodyPost P f R) b a W:=k W h
theorem zah{g:Array Oper}{o:Oper}{a:Act}{K:Act->World->Prop}{E:Prop}(p:o.guard=none)(s x:Operand)(t u:TypeId)
  (J:o.op=.call {callee:=.builtin .append,args:=#[s,x],argTypes:=#[t,u]})
  (e:TypeId) (i:TypeInfo) (C:P.underlying t=some (.slice e)) (N:P.underlying u=some .string) (S:P.info? e=some i) (H:i.zero=some (.int .u8 0))
  (d:i.size=1) (r:i.bytes=1)
  (v:Value) (n:Nat) (l:Bs) (F M:va) (R:a.eval s=v) (B:Rw e 1 v n (Vc l) F) (z:St W V (F++M)) (b:Bs) (T:a.eval x=OT b)
  (q:n+b.length<=140737488355328)
  (h:∀m c j k,Rw e 1 (.slice m (n+b.length) c) (n+b.length) (Vc (l++b)) k->St W j (k++M)->K (a.put o.dst (.slice m (n+b.length) c)) j) :
  if Region.wanted o (yielded g a.tmps)=true then Oper.wp P o a V K Q else E:=by
 have I:Region.wanted o (yielded g a.tmps)=true:=by simp[Region.wanted,p]
 rw[jh I];obtain⟨U,j,L,A,O,D,G⟩:=XL (P:=P) V W.heap.size t u o.type e i C N S H d r v n (Vc l) (B.owns z) ⟨b.toArray⟩ (by rw[zb];unfold maxLen;omega) (by rw[zb];exact q) z.sz;rw[zb,qZ,<-Yag]at A;obtain⟨k,f,y⟩:=St.appended B z A O D G;obtain⟨m,c,rfl,_⟩:=f.form;unfold Oper.wp execOp;simp only[J,resolve,invoke,builtin,KV,KW,kY,Kj,ju,Jt,R,T,L];exact h m c j k f y
theorem XaQ(s b2 b3 h t:Nat)(q:Obj)(A B:List FH)(x:FH)(D:Dk)(M:va)(b:Bs)(a4:0<=D.used)(a2:D.used<=1073741824)(a1:x.f.data.length+b.length<=268435456)(N:xe q (A++x::B) D)(J:St U w (Zb h t q (A++x::B) D++M))
  (p:(s,Obj.cells #[za x.bf] 119)∈M) (m:(b2,Obj.cells #[qa b] 9)∈M) (r:(b3,Obj.cells #[za h] 27)∈M) :
  Calls prog 125 #[za s,za b2,za b3] w (qA U h t M {D.put x.name ⟨x.f.data++b,x.f.sure⟩with used:=D.used+b.length}):=by
 have y:=N.ok x (je _ jc);obtain⟨ad,G,hv,f1,f2,_⟩:=Rw.form y;have k:=J.perm (Vz h t q A B x D M).symm;obtain⟨C,hi,S,W,Z⟩:∃C,prog.info? 5=some C/\C.zero=some (.int .u8 0)/\C.size=1/\C.bytes=1:=by
  have:=ZO;cases hh:prog.info? 5 with
  |none=>rw[hh]at this;cases this
  |some i=>rw[hh]at this;simp at this;exact⟨i,rfl,this.1,this.2.1,this.2.2⟩
 have c1:OV w s 0 (za x.bf):=J.rd (i:=0) (je _ p) rfl;have c2:OV w b2 0 (qa b):=J.rd (i:=0) (je _ m) rfl;have c3:OV w b3 0 (za h):=J.rd (i:=0) (je _ r) rfl;have k0:w.cell? ⟨x.bf,0,none⟩=some (.slice ad x.f.data.length G):=by rw[<-hv];exact k.cellH 0
 obtain⟨T,HD,R⟩:=Hi3 k N y;have e0:(.cells (#[x.v,OI (x.f.sure:Int)].setIfInBounds 0 (Value.slice none 0 0)) 123:Obj)=.cells #[.slice none 0 0,OI (x.f.sure:Int)] 123:=rfl;obtain⟨F,n⟩:=EN (D.put x.name ⟨x.f.data++b,x.f.sure⟩);have HP:=Hi (λ(x':FH) (h1:x'.name=x.name) (h2:x'.bf=x.bf) (h3:x'.ok)=>Qav (x':=x') N h1 h2 h3);have hu:F.used=D.used:=by rw[n];rfl
 have HU:=Hi hu;rw[<-n,<-hu];obtain⟨O,u⟩:∃O:Dk,O={F with used:=F.used+b.length}:=⟨_,rfl⟩;rw[<-u];unfold za at c1 c3|-;unfold qa at c2
 have n1:x.bf≠s:=λe=>k.ne (je _ (je _ p)) e.symm
 have n2:x.bf≠b2:=λe=>k.ne (je _ (je _ m)) e.symm
 have P:=Hi (jy p (jy m r));obtain⟨L,H⟩:=Hi2 n u;clear J k N y p m r n u hu;go_enter func125,ntmps125;go_upto_region 0 with(fail)
 refine wp_region_noPanic ?_;refine wp_region_held_drew (S:=(λw'=>w'.cell? ⟨s,0,none⟩=some (.pointer (some ⟨x.bf,0,none⟩))/\w'.cell? ⟨b2,0,none⟩=some (.string ⟨b.toArray⟩))) (by kernel_rfl) (by (try dsimp only)<;>(first|exact⟨q2,Y⟩|exact⟨q4,q5⟩|(go_keep;done))) λhHq=>?_;refine' TK 0 rfl ?_ ?_;rotate_left;intro wq hwq;go_simp<;>rfl;(try simp only[Act.put,jf,ji,jj]);refine' TK 1 rfl ?_ ?_;rotate_left;intro wq hwq;go_simp<;>rfl;(try simp only[Act.put,jf,ji,jj]);refine' TK 2 rfl ?_ ?_;rotate_left;intro wq hwq;go_simp<;>rfl;(try simp only[Act.put,jf,ji,jj]);refine' TK 3 rfl ?_ ?_;rotate_left;intro wq hwq;go_simp<;>rfl;(try simp only[Act.put,jf,ji,jj]);refine' TK 5 rfl ?_ ?_;rotate_left;intro wq hwq;go_simp<;>rfl;(try simp only[Act.put,jf,ji,jj]);refine BR 4 (by kernel_rfl) rfl λKq hKq=>?_;go_simp;refine hKq.out _ _ (by assumption) λhHq=>?_;clear hKq Kq;(try simp only[Act.put,jf,ji,jj]);refine BR 6 (by kernel_rfl) rfl λKq hKq=>?_;(refine zah (by rfl) _ _ 103 9 (by rfl) 5 C underlying103 underlying9 hi S W Z (.slice ad x.f.data.length G) x.f.data.length x.f.data x.Fd ((x.bf,x.obj)::(Zb h t q (A++B) D++M)) (by rfl) (by rw[<-hv];exact R.o) ((T.o.drew).perm Jd) b (by rfl) (by omega) ?_;intro j a E F2 K g;have X:=Hi K;have q0:OV E x.bf 0 x.v:=g.rd (i:=0) (je _ jc) rfl;have q1:OZ E x.bf 0:=g.free (je _ jc) 0;have q2:OV E s 0 (OQ x.bf):=g.rd (i:=0) (je _ (jb _ (je _ P.o.1))) rfl;have Y:OV E b2 0 (OT b):=g.rd (i:=0) (je _ (jb _ (je _ P.o.2.1))) rfl;have q4:(E.setCell ⟨x.bf,0,none⟩ (Value.slice j (x.f.data.length+b.length) a)).cell? ⟨s,0,none⟩=some (OQ x.bf):=(JN _ _ _ _ n1).trans q2;have q5:(E.setCell ⟨x.bf,0,none⟩ (Value.slice j (x.f.data.length+b.length) a)).cell? ⟨b2,0,none⟩=some (OT b):=(JN _ _ _ _ n2).trans Y;have V:=Hi g;clear K g);refine hKq.out _ _ (by (try dsimp only)<;>(first|exact⟨q2,Y⟩|exact⟨q4,q5⟩|(go_keep;done))) λhHq=>?_;clear hKq Kq;(try simp only[Act.put,jf,ji,jj]);refine' TK 7 rfl ?_ ?_;rotate_left;intro wq hwq;go_simp<;>rfl;(try simp only[Act.put,jf,ji,jj]);refine' TK 8 rfl ?_ ?_;rotate_left;intro wq hwq;go_simp<;>rfl;(try simp only[Act.put,jf,ji,jj]);refine BR 9 (by kernel_rfl) rfl λKq hKq=>?_;go_simp;refine hKq.out _ _ (by (try dsimp only)<;>(first|exact⟨q2,Y⟩|exact⟨q4,q5⟩|(go_keep;done))) λhHq=>?_;clear hKq Kq;(try simp only[Act.put,jf,ji,jj]);refine wpAnyH_done (by kernel_rfl) ?_ _;refine NoPanic.normal ?_;have l:=(V.o.perm List.perm_middle.symm).set 0 (.slice j (x.f.data.length+b.length) a);refine l.nameT ?_;clear l q0 q1 q2 Y q4 q5 n1 n2 c1 c2 c3 k0;intro z l;have hl:x.f.data.length+b.length=(x.f.data++b).length:=by rw[ja]
 obtain⟨x',c⟩:∃x':FH,x'={x with f:=⟨x.f.data++b,x.f.sure⟩,v:=.slice j (x.f.data.length+b.length) a,Fd:=F2}:=⟨_,rfl⟩;have I:xe q (A++x'::B) O:=by
  rw[H.o,L.o];have:=HP.o x' (by rw[c]) (by rw[c]) (by rw[c];unfold FH.ok;simp only;rw[<-hl];exact X.o);rw[c]at this|-
  exact this.other rfl
 have d:St U z (Zb h t q (A++x'::B) D++M):=by rw[c];exact l.perm (Vz h t q A B {x with f:=⟨x.f.data++b,x.f.sure⟩,v:=.slice j (x.f.data.length+b.length) a,Fd:=F2} D M)
 have c2:OV z b2 0 (OT b):=d.rd (i:=0) (je _ P.o.2.1) rfl;have c3:OV z b3 0 (OQ h):=d.rd (i:=0) (je _ P.o.2.2) rfl;have y2:OV z h 2 (OI D.used):=d.cellH 2;have z2:OZ z h 2:=d.freeH 2;have a0:Hy (St U (z.drew.setCell ⟨h,2,none⟩ (OI (D.used+b.length))) (Zb h t q (A++x'::B) O++M)):=Hi (by rw[H.o,L.o];exact(d.drew).set 2 (OI (D.used+b.length)));have Q:=Hi I;clear l d I c;have a3:=zb b;go_upto_region 1 with(fail)
 go_region;go_end0;exact⟨rfl,q,_,Q.o,a0.o⟩
theorem Va3(K:Obj)(O:List FH)(D:Dk)(M:va)(n b:Bs)(g:D.Fits)(hD:xe K O D)(hS:St U w (Zb q c K O D++M))(hn:n.length<=4611686018427387904)(hb:b.length<=4611686018427387904):
  Calls prog 72 #[za q,qa n,qa b] w (Yd U q c M (D.append n b)):=by
 have ab:∀(fn:Fn) (first I:Array Value) (w:World),(Instr.makeFunc fn first I).run prog w=.ok (.func fn first I) w:=λ_ _ _ _=>rfl
 have X:=Hi hD;go_enter func72,ntmps72;go_upto_region 1 with(fail)
 have j:=(hS.alloc (.cells #[za q] 27)).alloc (.cells #[qa b] 9);rw[jF]at j;obtain⟨C,hC⟩:=EN w.heap.size;rw[<-hC]at j|-
 clear hS hC;refine j.nameC ?_;clear j;intro Y t;obtain⟨P,y⟩:∃P:va,P=[(C+1,Obj.cells #[qa b] 9),(C,Obj.cells #[za q] 27)]++M:=⟨_,rfl⟩;have a:St U Y (Zb q c K O D++P):=by rw[y];exact St.rot (A:=[(C+1,Obj.cells #[qa b] 9),(C,Obj.cells #[za q] 27)]) t
 have p:(C,Obj.cells #[za q] 27)∈P:=by rw[y];simp
 have m:(C+1,Obj.cells #[qa b] 9)∈P:=by rw[y];simp
 have c1:OV Y C 0 (OQ q):=a.rd (i:=0) (je _ p) rfl;have c2:OV Y (C+1) 0 (qa b):=a.rd (i:=0) (je _ m) rfl;have HL:=Hi (YO U Y q c K O D P n hD a hn);have HS:=Hi a;have N:=Hi (show M.Sublist P by rw[y];exact J0 _ _);have HX:=Hi (jy p m);obtain⟨E,hE⟩:=NE (D.look n);have V:=Hi hE;clear t a y p m hD hE;by_cases h0:E=0
 .subst h0;go_upto_region 2 with(go_at_call 64;refine HL.o.mono ?_;rintro e L S;obtain⟨rfl,x,T,v,Z,rfl⟩:=S.ok V.o;unfold za)
  rw[<-v]at Z;obtain⟨A,B,a4⟩:=JU T;have aa:x.f.data.length<=268435456:=(g.wf.sizes (x.name,x.f) (by rw[X.o.files];exact jg.2 ⟨x,T,rfl⟩)).1;have a9:0<=D.used:=by rw[g.wf.used];exact Xal _
  have a7:=g.wf.room;have a8:=g.wf.c1;have J:Hy (D.append n b=if 268435456-(x.f.data.length:Int)<b.length then(D,36)else if b≠[]/\D.cap-D.used<b.length then(D,44)else D.accept true (λd=>{d.put x.name ⟨x.f.data++b,x.f.sure⟩with used:=d.used+b.length})):=Hi (by
   unfold Dk.append;rw[<-v,Z];simp only;rw[jd (by rw[v,V.o];decide)])
  obtain⟨ad,I,hv,_⟩:=(X.o.ok x T).form;have j:=HS.o.alloc (.cells #[za x.bf] 119);obtain⟨z,a0⟩:=EN Y.heap.size;unfold za at j;rw[<-a0]at j|-
  clear c1 c2;refine j.nameC ?_;clear j a0;intro L t;obtain⟨r,s⟩:∃r:va,r=[(z,Obj.cells #[za x.bf] 119)]++P:=⟨_,rfl⟩;have a:St U L (Zb q c K O D++r):=by rw[s];exact St.rot (A:=[(z,Obj.cells #[za x.bf] 119)]) t
  have Q:(z,Obj.cells #[za x.bf] 119)∈r:=by rw[s];simp
  have p:(C,Obj.cells #[za q] 27)∈r:=by rw[s];exact je _ HX.o.1
  have m:(C+1,Obj.cells #[qa b] 9)∈r:=by rw[s];exact je _ HX.o.2
  have c1:OV L C 0 (OQ q):=a.rd (i:=0) (je _ p) rfl;have c2:OV L (C+1) 0 (OT b):=a.rd (i:=0) (je _ m) rfl;have c3:OV L z 0 (OQ x.bf):=a.rd (i:=0) (je _ Q) rfl;have k0:L.cell? ⟨x.bf,0,none⟩=some (.slice ad x.f.data.length I):=by rw[<-hv];exact a.rd (i:=0) (jx _ (zV T)) rfl
  have y1:OV L q 1 (OI D.cap):=a.cellH 1;have y2:OV L q 2 (OI D.used):=a.cellH 2;have ac:=zb b;have k:=Hi (show M.Sublist r by rw[s];exact N.o.trans (J0 _ _));have l:=Hi a;have R:=Hi (jy p (jy m Q));obtain⟨af,ag,u,ae⟩:(x.f.data.length:Int)<=268435456/\(0:Int)<=(x.f.data.length:Int)/\(0:Int)<=(b.length:Int)/\(b.length:Int)<=4611686018427387904:=by omega
  have HV:=Hi hv;have HG:=Hi (jy T (jy v (jy Z a4)));have a1:=Hi g;clear t a s p m Q Z a4 T v hn hb g hv HS HX HL;by_cases h1:268435456-(x.f.data.length:Int)<b.length
  .have F:Hy (D.append n b=(D,36)):=Hi (by rw[J.o,jh h1]);go_wp2_with (go_region);go_ret;exact Yd.mk F.o X.o (l.o.drew.sub ((Jz _).append k.o))
  .obtain⟨G,hG⟩:∃G:Dk->Dk,G=(λd=>{d.put x.name ⟨x.f.data++b,x.f.sure⟩with used:=d.used+b.length}):=⟨_,rfl⟩;have a3:∀d,(G d).off=d.off:=λ_=>by rw[hG];rfl
   have a5:Hy (Y8 U q c D r K O 125 #[za z,za (C+1),za C] G):=Hi (by
    intro W D1 e1 a2 H;rw[hG];show Calls _ _ _ _ (qA U q c r {D1.put x.name ⟨x.f.data++b,x.f.sure⟩with used:=D1.used+b.length});rw[HG.o.2.2.2]at a2 H;exact XaQ U W z (C+1) C q c K A B x D1 r b (by rw[e1];exact a9) (by rw[e1];exact U7 a7 a8) (by omega) a2 H R.o.2.2 R.o.2.1 R.o.1)
   have HA:=Hi (λ(W:World) (H:St U W (Zb q c K O D++r))=>QF U W q c K O D r true 125 #[za z,za (C+1),za C] G (kf func125 (by kernel_rfl) rfl) a1.o X.o H a5.o a3);have a6:=Hi hG;clear hG a3 a5;unfold za at HA;by_cases u:b=[]
   .have F:Hy (D.append n b=D.accept true G):=Hi (by rw[J.o,jd h1,jd (λh=>h.1 u),a6.o]);subst u;go_wp2_with (first|go_region|(go_at_call 75;refine(HA.o _ (by first|exact l.o.drew.drew|exact l.o.drew|exact l.o)).mono ?_;rintro e w3 ⟨rfl,S⟩));go_ret;rw[F.o];exact Yd.less (M':=r) ⟨rfl,S⟩ k.o
   .have ah:b.isEmpty=false:=by cases b with|nil=>exact absurd rfl u|cons _ _=>rfl
    by_cases h2:D.cap-D.used<b.length
    .have F:Hy (D.append n b=(D,44)):=Hi (by rw[J.o,jd h1,jh ⟨u,h2⟩]);go_wp2_with (go_region);go_ret;exact Yd.mk F.o X.o (l.o.drew.drew.sub ((Jz _).append k.o))
    .have F:Hy (D.append n b=D.accept true G):=Hi (by rw[J.o,jd h1,jd (λh=>h2 h.2),a6.o]);go_wp2_with (first|go_region|(go_at_call 75;refine(HA.o _ (by first|exact l.o.drew.drew|exact l.o.drew|exact l.o)).mono ?_;rintro e w3 ⟨rfl,S⟩));go_ret;rw[F.o];exact Yd.less (M':=r) ⟨rfl,S⟩ k.o
 .have F:Hy (D.append n b=(D,E)):=Hi (by
   unfold Dk.append;cases Z:D.get n with
   |none=>rw[V.o]
   |some f=>simp only;rw[jh (by rw[V.o];exact h0),V.o])
  go_wp2_with (go_at_call 64;refine HL.o.mono ?_;rintro e L S;obtain⟨rfl,rfl⟩:=S.bad V.o h0);go_ret;exact Yd.mk F.o X.o ((HS.o.sub ((Jz _).append N.o)).alloc _).tail
theorem X8(b o k:Nat):(⟨b,o,none⟩:Addr).add k=⟨b,o+k,none⟩:=by
 unfold Addr.add;split
 .rename_i h;rw[h];rfl
 .rfl
theorem Yv.sub{w:World}{l:Option Addr}{cap:Nat}(h:Yv w (.slice l X.length cap) X)(a c:Nat)(h1:a<=c)(h2:c<=X.length):
  Yv w (sliced l a c cap 1) ((X.drop a).take (c-a)):=by
 obtain⟨m,k,e,r,q,p⟩:=h;injection e with e1 _ e2
 subst e1;subst e2;have d:((X.drop a).take (c-a)).length=c-a:=by rw[jN,jQ];omega
 refine⟨_,cap-a,by unfold sliced;rw[d],by rw[d];omega,by omega,λf=>?_⟩;have s:a<c:=by
  rcases kR a c with h|h
  .exact h
  .exact absurd (kq (by rw[d];omega)) f
 obtain⟨b,o,rfl,n⟩:=p (λh=>by rw[h]at h2;simp at h2;omega);rw[jd (by omega)];refine⟨b,o+a,by rw[JM];simp only[JE,X8],λi x j=>?_⟩;have g:i<c-a:=by rw[<-d];exact(jV.1 j).1
 rw[JT g,kT]at j;rw[j9];exact n _ _ j
theorem qaJ(l:Bs)(a k:Nat):((Vc l).drop a).take k=Vc ((l.drop a).take k):=by simp[Vc,KH,Kh]
theorem Qa3{c:Option Addr}(h:Yv W (.slice c s.length n) (Vc s))(a b:Nat)(f:a<=b)(e:b<=s.length):
  (convert 103 9 (sliced c a b n 1)).run prog W=.ok (qa ((s.drop a).take (b-a))) W:=by
 have d:Yv W (.slice c (Vc s).length n) (Vc s):=by rw[vp];exact h
 have:=d.sub a b f (by rw[vp];exact e);rw[qaJ]at this;exact xU underlying103 underlying5 underlying9 this
theorem Vbk(s:Obj)(C:List FH)(D:Dk)(M:va)(n:Bs)(p k:Int)(W:-9223372036854775808<=p)(Q:p<=9223372036854775807)(S:-9223372036854775808<=k)(R:k<=9223372036854775807)(r:D.Wf)(u:xe s C D)(G:St U w (Zb q c s C D++M))(X:n.length<=4611686018427387904):
  Calls prog 91 #[za q,qa n,OI p,OI k] w (Ret (.tuple #[qa (D.read n p k).1,OI (D.read n p k).2]) w):=by
 have L:=Hi (YO U w q c s C D M n u G X);obtain⟨H,N⟩:=Hi2 u G;obtain⟨E,K⟩:=NE (D.look n);have j:=Hi K;clear u G K;go_enter func91,ntmps91;by_cases h0:E=0
 .subst h0;go_upto_region 2 with(go_at_call 64;refine L.o.mono ?_;rintro e Z v;obtain⟨rfl,x,h,y,t,rfl⟩:=v.ok j.o;unfold za)
  have P:x.f.data.length<=268435456:=(r.sizes (x.name,x.f) (by rw[H.o.files];exact jg.2 ⟨x,h,rfl⟩)).1;obtain⟨J,d,F,f1,f2,_⟩:=(H.o.ok x h).form;have g:Yv w (.slice J x.f.data.length d) (Vc x.f.data):=by
   rw[<-F];obtain⟨A,B,z⟩:=JU h;have:=N.o;rw[z]at this;exact Rw.rowOf (H.o.ok x h) (this.perm (Vz q c s A B x D M).symm).tail
  have k0:w.cell? ⟨x.bf,0,none⟩=some (.slice J x.f.data.length d):=by rw[<-F];exact N.o.rd (i:=0) (jx _ (zV h)) rfl
  have m:Hy (D.read n p k=if p<0\/k<0\/(x.f.data.length:Int)<k\/(x.f.data.length:Int)-k<p then([],13)else((x.f.data.drop p.toNat).take k.toNat,0)):=Hi (by
   unfold Dk.read;rw[t];simp only;rw[jd (by rw[j.o];decide)])
  obtain⟨Y,T⟩:(0:Int)<=(x.f.data.length:Int)/\(x.f.data.length:Int)<=268435456:=by omega
  have l:=Hi g;clear t y h F g;by_cases q1:p<0
  .have a:Hy (D.read n p k=([],13)):=Hi (by rw[m.o,jh (.inl q1)]);go_wp2_with fail;go_ret2;exact Ret.mk (by rw[a.o];rfl)
  .by_cases q2:k<0
   .have a:Hy (D.read n p k=([],13)):=Hi (by rw[m.o,jh (.inr (.inl q2))]);go_wp2_with fail;go_ret2;exact Ret.mk (by rw[a.o];rfl)
   .by_cases q3:(x.f.data.length:Int)<k
    .have a:Hy (D.read n p k=([],13)):=Hi (by rw[m.o,jh (.inr (.inr (.inl q3)))]);go_wp2_with fail;go_ret2;exact Ret.mk (by rw[a.o];rfl)
    .by_cases q4:(x.f.data.length:Int)-k<p
     .have a:Hy (D.read n p k=([],13)):=Hi (by rw[m.o,jh (.inr (.inr (.inr q4)))]);go_wp2_with fail;go_ret2;exact Ret.mk (by rw[a.o];rfl)
     .have a:Hy (D.read n p k=((x.f.data.drop p.toNat).take k.toNat,0)):=Hi (by rw[m.o,jd (by omega)]);obtain⟨V,O,I⟩:p+k<=(x.f.data.length:Int)/\p<=p+k/\(x.f.data.length:Int)<=(d:Int):=by omega
      have b:=Qa3 l.o p.toNat (p+k).toNat (by omega) (by omega);rw[show List.take ((p+k).toNat-p.toNat) (List.drop p.toNat x.f.data)=List.take k.toNat (List.drop p.toNat x.f.data) by rw[show(p+k).toNat-p.toNat=k.toNat by omega]]at b;by_cases hcp:d=p.toNat
      .unfold sliced at b;rw[jh hcp,hcp,Uk]at b;go_wp2_with fail;go_ret2;exact Ret.mk (by rw[a.o];rfl)
      .unfold sliced at b;rw[jd hcp,JM]at b;go_wp2_with fail;go_ret2;exact Ret.mk (by rw[a.o];rfl)
 .have a:Hy (D.read n p k=([],E)):=Hi (by
   unfold Dk.read;cases t:D.get n with
   |none=>rw[j.o]
   |some f=>simp only;rw[jh (by rw[j.o];exact h0),j.o])
  go_wp2_with (go_at_call 64;refine L.o.mono ?_;rintro e Z v;obtain⟨rfl,rfl⟩:=v.bad j.o h0);go_ret2;exact Ret.mk (by rw[a.o];rfl)
section
section
variable {α:Type} {enc:α->List Value} {k:Nat}
theorem zap(a:∀x,(enc x).length=k):∀(l:List α) (n:Nat),(l.drop n).flatMap enc=(l.flatMap enc).drop (n*k)
 |l,0=>by simp
 |[],n+1=>by simp
 |x::r,n+1=>by
  have e:(n+1)*k-k=n*k:=by rw[Ul];omega
  have b:List.drop ((n+1)*k) (enc x)=[]:=Ut (by rw[a,Ul];omega);rw[U9,zap a r n,jB,List.drop_append,a,e,b,jK]
theorem yap(a:∀x,(enc x).length=k):∀(l:List α) (n:Nat),(l.take n).flatMap enc=(l.flatMap enc).take (n*k)
 |l,0=>by simp
 |[],n+1=>by simp
 |x::r,n+1=>by
  have e:(n+1)*k-k=n*k:=by rw[Ul];omega
  rw[UG,jB,yap a r n,jB,List.take_append,a,e,Ji (l:=enc x) (by rw[a,Ul];omega)]
theorem qe.sub{w:World}{p:Option Addr}{cap:Nat}{l:List α}(m:∀x,(enc x).length=k)(h:qe enc k w (.slice p l.length cap) l)(a c:Nat)(h1:a<=c)(h2:c<=l.length):
  qe enc k w (sliced p a c cap k) ((l.drop a).take (c-a)):=by
 obtain⟨q,n,e,u,t,s⟩:=h;injection e with e1 _ e2
 subst e1;subst e2;have g:((l.drop a).take (c-a)).length=c-a:=by rw[jN,jQ];omega
 refine⟨_,cap-a,by unfold sliced;rw[g],by rw[g];omega,by omega,λf=>?_⟩;have v:a<c:=by
  rcases kR a c with h|h
  .exact h
  .exact absurd (kq (by rw[g];omega)) f
 obtain⟨b,o,rfl,r⟩:=s (λh=>by rw[h]at h2;simp at h2;omega);rw[jd (by omega)];refine⟨b,o+a*k,by simp only[JE,X8],λi x d=>?_⟩;rw[yap m,zap m]at d;have j:i<(c-a)*k:=by
  have:=(jV.1 d).1;rw[jN]at this;omega
 rw[JT j,kT]at d;rw[j9];exact r _ _ d
theorem qe.sub_run{P:Program}{w:World}{v:Value}{l:List α}(e:∀x,(enc x).length=k)(h:qe enc k w v l)(t:TypeId)(ht:P.underlying t=some (.slice (P.elem t)))(d:∀W,(sizeOf (P.elem t)).run P W=.ok k W)(b c:Nat)(h1:b<=c)(h2:c<=l.length):
  ∃v',(∀W,(Instr.slice t v (some (OI (b:Int))) (some (OI (c:Int))) none).run P W=.ok v' W)/\qe enc k w v' ((l.drop b).take (c-b)):=by
 have h0:=h;obtain⟨f,cap,rfl,i,g,j⟩:=h;refine⟨_,λW=>?_,h0.sub e b c h1 h2⟩;rw[run_slice_lh (P:=P) (w:=W) (t:=t) (a:=f) (len:=l.length) (cap:=cap) (ht:=ht) (kl:=.i64) (kh:=.i64) (l:=b) (h:=c) (h0:=by omega) (h1:=by omega) (h2:=by omega),d];rfl
theorem qe.from_run{P:Program}{w:World}{v:Value}{l:List α}(e:∀x,(enc x).length=k)(h:qe enc k w v l)(t:TypeId)(ht:P.underlying t=some (.slice (P.elem t)))(c:∀W,(sizeOf (P.elem t)).run P W=.ok k W)(b:Nat)(h1:b<=l.length):
  ∃v',(∀W,(Instr.slice t v (some (OI (b:Int))) none none).run P W=.ok v' W)/\qe enc k w v' (l.drop b):=by
 have h0:=h;obtain⟨f,cap,rfl,i,g,j⟩:=h;have d:=h0.sub e b l.length h1 (jm _);rw[Ji (by rw[jQ];omega)]at d;refine⟨_,λW=>?_,d⟩;rw[run_slice_l (P:=P) (w:=W) (t:=t) (a:=f) (len:=l.length) (cap:=cap) (ht:=ht) (kl:=.i64) (l:=b) (h0:=by omega) (h1:=by omega),c];rfl
end
theorem VaQ:prog.elem 133=137:=by kernel_rfl
theorem QaQ(w:World):(sizeOf (prog.elem 133)).run prog w=.ok 5 w:=by rw[VaQ];kernel_rfl
theorem Xbc:prog.underlying 133=some (.slice (prog.elem 133)):=by rw[VaQ];exact underlying133
end
section
open Classical in
noncomputable instance frDec:DecidableEq (Nat × Obj):=λa b=>Classical.propDecidable (a=b)
noncomputable def cntF (x:Nat × Obj) (l:va):Nat:=l.count x
theorem Ya(x:Nat × Obj):cntF x []=0:=by simp[cntF]
noncomputable def cnt1 (x y:Nat × Obj):Nat:=if y=x then 1 else 0
theorem ya(x y:Nat × Obj)(l:va):cntF x (y::l)=cnt1 x y+cntF x l:=by
 unfold cntF cnt1;rw[List.count_cons];by_cases h:y=x
 .simp[h];omega
 .simp[h]
theorem xa(x:Nat × Obj)(A B:va):cntF x (A++B)=cntF x A+cntF x B:=List.count_append
theorem pmF(h:∀x,cntF x F=cntF x G):F.Perm G:=List.perm_iff_count.2 h
theorem St.pm{W0 W:World}{M M':va}(a:St W0 W M)(h:∀x,cntF x M'=cntF x M):St W0 W M':=a.perm (pmF h)
theorem St.pmSub{W0 W:World}{M M' D:va}(a:St W0 W M)(h:∀x,cntF x M'+cntF x D=cntF x M):St W0 W M':=(a.pm (M':=M'++D) λx=>by rw[xa];exact h x).appL
theorem Rw.rowK0{α:Type}{a:α->List Value}{l:List α}{W0 W:World}(h:Rw T k v l.length (l.flatMap a) F)(b:∀x,a x≠[])(c:St W0 W F):qe a k W v l:=h.rowK (M:=[]) b (by rw[jJ];exact c)
theorem CN{α:Type}{f g:α->Nat}(h:∀x,f x=g x:=by intro y;try simp only[xa,ya,Ya,za,OI,OT,OQ];omega):∀x,f x=g x:=h
end
theorem yR(u:Bu)(c:List En)(a:Bs):(u.block c a).b.length<=u.b.length+a.length+14/\u.b.length<=(u.block c a).b.length:=by
 cases c with
 |nil=>simp only[Bu.block];omega
 |cons e r =>
  show(u.b++ve 5 a).length<=_/\_<=(u.b++ve 5 a).length;rw[ja,zh];omega
theorem xV:∀(a:List En) (u:Bu) (d:List En) (c:Bs),(∀e∈a,e.fit n) ->
  (u.blocks d c a).b.length<=u.b.length+c.length+14+a.length*(n+37)/\u.b.length<=(u.blocks d c a).b.length:=by
 intro a;induction a with
 |nil =>
  intro u d c _;have:=yR u d c;simp only[Bu.blocks,jA];omega
 |cons e r ih =>
  intro u d c f;have k:=Yab (f e jc);have h:∀x∈r,x.fit n:=λx i=>f x (jb _ i)
  have j:(r.length+1)*(n+37)=r.length*(n+37)+(n+37):=Ul _ _;simp only[Bu.blocks,jk];split
  .have l:=yR u d c;have g:=ih (u.block d c) [e] (qc e) h;omega
  .have g:=ih u (d++[e]) (c++qc e) h;rw[ja]at g;omega
theorem Vab(u:Bu)(c:List En)(d:Bs):∀l∈(u.block c d).lines,l∈u.lines\/(l.first∈c/\l.count<=c.length/\l.at'<=u.b.length):=by
 cases c with
 |nil=>intro l a;exact .inl a
 |cons e r =>
  intro l a;have a:l∈u.lines++[⟨e,(e::r).length,u.b.length⟩]:=a;rcases jo.1 a with a|a
  .exact .inl a
  .simp only[jC]at a;subst a;exact .inr ⟨jc,jm _,jm _⟩
theorem ZZ:∀(c:List En) (u:Bu) (a:List En) (d:Bs),(∀e∈c,e.fit n) ->
  ∀l∈(u.blocks a d c).lines,l∈u.lines\/((l.first∈a\/l.first∈c)/\l.count<=a.length+c.length/\l.at'<=(u.blocks a d c).b.length):=by
 intro c;induction c with
 |nil =>
  intro u a d _ l g;have q:=(yR u a d).2;rcases Vab u a d l g with h|⟨f,i,j⟩
  .exact .inl h
  .exact .inr ⟨.inl f,by simpa using i,by simp only[Bu.blocks];omega⟩
 |cons e r ih =>
  intro u a d o l g;have k:∀x∈r,x.fit n:=λx p=>o x (jb _ p)
  simp only[Bu.blocks]at g|-
  split at g
  .rename_i m
   rw[jh m];have s:=(xV r (u.block a d) [e] (qc e) k).2;rcases ih (u.block a d) [e] (qc e) k l g with h|⟨f,i,j⟩
   .rcases Vab u a d l h with h|⟨f,i,j⟩
    .exact .inl h
    .exact .inr ⟨.inl f,by simp only[jk];omega,by have:=(yR u a d).2;omega⟩
   .refine .inr ⟨.inr ?_,by simp only[jk,jA]at i|-;omega,j⟩;rcases f with f|f
    .simp only[jC]at f;rw[f];exact jc
    .exact jb _ f
  .rename_i m
   rw[jd m];rcases ih u (a++[e]) (d++qc e) k l g with h|⟨f,i,j⟩
   .exact .inl h
   .refine .inr ⟨?_,by simp only[ja,jk,jA]at i|-;omega,j⟩;rcases f with f|f
    .rcases jo.1 f with f|f
     .exact .inl f
     .simp only[jC]at f;exact .inr (by rw[f];exact jc)
    .exact .inr (jb _ f)
theorem XO:∀(c:List En) (u:Bu) (a:List En) (b:Bs),(u.blocks a b c).lines.length<=u.lines.length+c.length+1:=by
 have d:∀(u:Bu) (a:List En) (b:Bs),(u.block a b).lines.length<=u.lines.length+1:=by
  intro u a b;cases a with
  |nil=>simp only[Bu.block];omega
  |cons e r=>show(u.lines++[_]).length<=_;simp
 intro c;induction c with
 |nil=>intro u a b;have:=d u a b;simp only[Bu.blocks,jA];omega
 |cons e r ih =>
  intro u a b;simp only[Bu.blocks,jk];split
  .have g:=d u a b;have f:=ih (u.block a b) [e] (qc e);omega
  .have f:=ih u (a++[e]) (b++qc e);omega
theorem ZaJ(l:List (Nat × Bs)):l.length*14<=(Vk l).length:=by
 induction l with
 |nil=>simp
 |cons x r ih=>rw[Xy,ja,zh,jk];omega
theorem yaw(d:n<=128){l:Ln}(a:l.first.fit n)(c:l.count<2^63)(b:l.at'<2^63):(zn l).length<=160:=by
 have f:=Vf l.first.id.toNat (by have:=a.i1;omega);have e:=Vf l.count c;have g:=Vf l.at' b;simp only[zn,Yn,num,ja,qi,a.code];omega
theorem xaw{h:Hd}(f:Vm h l=0):∃(o:List (List En)) (r:List (Nat × Bs)) (foot:Bs),Xk h l=Vk ((4,Yk h l.length)::(Xt o++(r++[(7,foot)]))) /\
  o.flatten=l/\(∀g∈o,∀e∈g,e.fit (h.width.toNat/8))/\(∀x∈r,x.1=6)/\yaJ ((4,Yk h l.length)::(Xt o++(r++[(7,foot)]))):=by
 have s:Zm h=0:=by
  unfold Vm at f;split at f
  .rename_i p;exact absurd f p
  .rename_i p;simpa using p
 have K:l.length<=2097152:=by
  unfold Vm at f;rw[jd (by simpa using s)]at f;split at f
  .cases f
  .omega
 have J:Qv h none l=0:=by
  unfold Vm at f;rw[jd (by simpa using s),jd (by omega)]at f;exact f
 have a:∀e∈l,e.fit (h.width.toNat/8):=λe w=>Xag s (Xab J e w)
 obtain⟨I,Q,b2,b3,b4,R,T,Y⟩:=vO s;obtain⟨P,w2,S⟩:=Xd.1 I;have m:h.width.toNat/8<=128:=by omega
 obtain⟨W,E⟩:=EN (h.width.toNat/8);rw[<-E]at a m|-
 have u:(Yk h l.length).length<=60:=by
  have H:=Vf h.width.toNat (by omega);have O:=Vf h.table.toNat (by omega);have V:=Vf h.bits.toNat (by omega);have Z:=Vf h.lo.toNat (by omega);have X:=Vf h.hi.toNat (by omega);have U:=Vf l.length (by omega);simp only[Yk,num,ja];omega
 obtain⟨o,z,F,C⟩:=qat m l ⟨ve 4 (Yk h l.length),[],0⟩ [] [] [] (ve 4 (Yk h l.length)) a (by simp) rfl (by simp) (by simp[Xt,Vk]) (by simp);have d:=(xV l ⟨ve 4 (Yk h l.length),[],0⟩ [] [] a).1;have k:=ZZ l ⟨ve 4 (Yk h l.length),[],0⟩ [] [] a;have j:=XO l ⟨ve 4 (Yk h l.length),[],0⟩ [] [];rw[zh]at d;obtain⟨B,A⟩:=EN (Bu.blocks ⟨ve 4 (Yk h l.length),[],0⟩ [] [] l);rw[<-A]at z d k j;have n:XU h l=B:=A.symm;have y:l.length*(W+37)<=2097152*165:=Jg K (by omega);have N:B.b.length<2^62:=by simp only[jA]at d;omega
 have i:∀x∈B.lines,(zn x).length<=4096:=by
  intro x c;rcases k x c with p|⟨q,D,h3⟩
  .cases p
  .have v:x.first.fit W:=by
    rcases q with q|q
    .cases q
    .exact a _ q
   simp only[jA]at D;exact jI (yaw m v (by omega) (by omega)) (by decide)
 obtain⟨r,G,L,M⟩:=qav B.lines [] i (by simp);refine⟨o,r,qb B.lines.length++qb B.b.length++Vh B.sum 4,?_,by simpa using F,λg t e w=>(C g t).1 e w,M,?_⟩
 .unfold Xk xx;rw[n,z,G,Xy,VU,VU];simp only[Vk,jB,Jk,jJ,jE]
 .intro x c;rcases jp.1 c with rfl|c
  .exact⟨(by decide:(1:Nat)<=4),(by decide:(4:Nat)<=255),by show(Yk h l.length).length<=65536;omega⟩
  .rcases jo.1 c with c|c
   .obtain⟨g,t,rfl⟩:=jg.1 c;exact⟨(by decide:(1:Nat)<=5),(by decide:(5:Nat)<=255),by have:=(C g t).2;show(g.flatMap qc).length<=65536;omega⟩
   .rcases jo.1 c with c|c
    .exact L x c
    .simp only[jC]at c;subst c;have H:=Vf B.lines.length (by simp only[jA]at j;omega);have O:=Vf B.b.length (by omega);refine⟨(by decide:(1:Nat)<=7),(by decide:(7:Nat)<=255),?_⟩;show(qb B.lines.length++qb B.b.length++Vh B.sum 4).length<=65536;simp only[ja,qi];omega
theorem Qw(a:Bs):Xg a a=0:=by
 induction a with
 |nil=>rfl
 |cons x r ih=>simp only[Xg];rw[jd (by omega),jd (by omega),ih]
theorem ZN{a b:Bs}(h:Xg a b=0):a=b:=by
 induction a generalizing b with
 |nil=>cases b with|nil=>rfl|cons y s=>simp[Xg]at h
 |cons x r ih =>
  cases b with
  |nil=>simp[Xg]at h
  |cons y s =>
   simp only[Xg]at h;split at h
   .cases h
   .split at h
    .cases h
    .rename_i c d
     rw[ih h,kP.1 (by omega:x.toNat=y.toNat)]
theorem YZ(a b:Bs):Xg b a=- Xg a b:=by
 induction a generalizing b with
 |nil=>cases b<;>rfl
 |cons x r ih =>
  cases b with
  |nil=>rfl
  |cons y s =>
   simp only[Xg];rcases kZ x.toNat y.toNat with h|h|h
   .rw[jd (by omega),jh h,jh h];rfl
   .rw[jd (by omega),jd (by omega),jd (by omega),jd (by omega),ih]
   .rw[jh h,jd (by omega),jh h]
theorem vaw(a b:Bs):Xg a b=-1\/Xg a b=0\/Xg a b=1:=by
 induction a generalizing b with
 |nil=>cases b<;>simp[Xg]
 |cons x r ih =>
  cases b with
  |nil=>simp[Xg]
  |cons y s =>
   simp only[Xg];split
   .simp
   .split
    .simp
    .exact ih s
theorem YaJ{a b c:Bs}(e:Xg a b<=0)(d:Xg b c<=0):Xg a c<=0:=by
 induction a generalizing b c with
 |nil=>cases c<;>simp[Xg]
 |cons x r ih =>
  cases b with
  |nil=>simp[Xg]at e
  |cons y s =>
   cases c with
   |nil=>simp[Xg]at d
   |cons z t =>
    simp only[Xg]at e d|-
    rcases kZ x.toNat y.toNat with h|h|h
    .rcases kZ y.toNat z.toNat with k|k|k
     .rw[jh (by omega)];decide
     .rw[jh (by omega)];decide
     .rw[jd (by omega),jh k]at d;exact absurd d (by decide)
    .rw[jd (by omega),jd (by omega)]at e;rcases kZ y.toNat z.toNat with k|k|k
     .rw[jh (by omega)];decide
     .rw[jd (by omega),jd (by omega)]at d;rw[jd (by omega),jd (by omega)];exact ih e d
     .rw[jd (by omega),jh k]at d;exact absurd d (by decide)
    .rw[jd (by omega),jh h]at e;exact absurd e (by decide)
theorem xap(a b:Int):Vi b a=- Vi a b:=by
 unfold Vi;rcases Int.lt_trichotomy a b with h|h|h
 .rw[jd (by omega),jh h,jh h];decide
 .rw[jd (by omega),jd (by omega),jd (by omega),jd (by omega)];decide
 .rw[jh h,jd (by omega),jh h]
theorem zr(a b:En):yb b a=- yb a b:=by
 unfold yb;by_cases h:a.value=b.value
 .rw[jd (show ¬ b.value≠a.value from λe=>e h.symm),jd (show ¬ a.value≠b.value from λe=>e h)];by_cases k:a.code=b.code
  .rw[jd (show ¬ b.code≠a.code from λe=>e k.symm),jd (show ¬ a.code≠b.code from λe=>e k)];exact xap _ _
  .rw[jh (show b.code≠a.code from λe=>k e.symm),jh (show a.code≠b.code from k)];exact YZ _ _
 .rw[jh (show b.value≠a.value from λe=>h e.symm),jh (show a.value≠b.value from h)];exact xap _ _
def En.key(e:En):Int × Bs × Int:=(e.value,e.code,e.id)
theorem Yo{a b:En}:yb a b=0<->a.key=b.key:=by
 unfold yb En.key;constructor
 .intro h;split at h
  .rename_i c
   unfold Vi at h;split at h
   .cases h
   .split at h
    .cases h
    .exact absurd (by omega:a.value=b.value) c
  .rename_i c
   split at h
   .rename_i d;exact absurd (ZN h) d
   .rename_i d
    unfold Vi at h;split at h
    .cases h
    .split at h
     .cases h
     .simp only[JW,kX]at c d;rw[c,d,(by omega:a.id=b.id)]
 .intro h;simp only[Je]at h;rw[jd (by simp[h.1]),jd (by simp[h.2.1]),h.2.2];simp[Vi]
theorem ZA{a b c:En}(e:yb a b<=0)(d:yb b c<=0):yb a c<=0:=by
 unfold yb at *;unfold Vi at *;by_cases v1:a.value=b.value
 .rw[jd (by simp[v1])]at e;by_cases v2:b.value=c.value
  .rw[jd (by simp[v2])]at d;rw[jd (by simp[v1,v2])];by_cases c1:a.code=b.code
   .rw[jd (by simp[c1])]at e;by_cases c2:b.code=c.code
    .rw[jd (by simp[c2])]at d;rw[jd (by simp[c1,c2])];split
     .decide
     .split
      .exfalso;split at e
       .split at d
        .omega
        .split at d
         .omega
         .omega
       .split at e
        .omega
        .split at d
         .omega
         .split at d
          .omega
          .omega
      .decide
    .rw[jh (by rw[c1];exact c2),c1];rw[jh c2]at d;exact d
   .rw[jh c1]at e;by_cases c2:b.code=c.code
    .rw[jh (by rw[<-c2];exact c1),<-c2];exact e
    .rw[jh c2]at d;by_cases c3:a.code=c.code
     .exfalso;have g:=YZ b.code c.code;rw[<-c3]at g d;have i:=YZ a.code b.code;have f:Xg a.code b.code=0:=by omega
      exact c1 (ZN f)
     .rw[jh c3];exact YaJ e d
  .rw[jh v2]at d;rw[jh (by omega)];split
   .decide
   .split
    .split at d
     .omega
     .split at d
      .omega
      .omega
    .decide
 .rw[jh v1]at e;by_cases v2:b.value=c.value
  .rw[jh (by omega)];split
   .decide
   .split
    .split at e
     .omega
     .split at e
      .omega
      .omega
    .decide
  .rw[jh v2]at d;have h:a.value<b.value:=by
    split at e
    .assumption
    .split at e
     .omega
     .omega
   have j:b.value<c.value:=by
    split at d
    .assumption
    .split at d
     .omega
     .omega
   rw[jh (by omega),jh (by omega)];decide
theorem VL{a b c:En}(f:yb a b<0)(e:yb b c<0):yb a c<0:=by
 have g:=ZA (Int.le_of_lt f) (Int.le_of_lt e);rcases Int.lt_or_eq_of_le g with h|h
 .exact h
 .exfalso;have d:=Yo.1 h;have i:yb c b=yb a b:=by
   have:a.value=c.value/\a.code=c.code/\a.id=c.id:=by simpa [En.key] using d
   unfold yb;rw[this.1,this.2.1,this.2.2]
  have:=zr b c;omega
def Ord(l:List En):Prop:=l.Pairwise λa b=>yb a b<0
theorem zaR(h:Ord l):(l.map En.key).Nodup:=by
 unfold List.Nodup;rw[Uu];exact h.imp λhlt e=>by rw[Yo.2 e]at hlt;exact absurd hlt (by decide)
theorem XaJ:∀{l m:List En},Ord l->Ord m->l.Perm m->l=m:=by
 intro l;induction l with
 |nil=>intro m _ _ c;exact(List.nil_perm.1 c).symm
 |cons a r ih =>
  intro m f e c;cases m with
  |nil=>exact absurd c (by simp)
  |cons b s =>
   have d:a=b:=by
    have g:a∈b::s:=c.mem_iff.1 jc;have i:b∈a::r:=c.mem_iff.2 jc;rcases jp.1 g with h|h
    .exact h
    .rcases jp.1 i with k|k
     .exact k.symm
     .have n:=(JA.1 e).1 a h;have j:=(JA.1 f).1 b k;have:=zr a b;omega
   subst d;rw[ih (JA.1 f).2 (JA.1 e).2 (List.Perm.cons_inv c)]
theorem yaR(h:l.Pairwise λa b=>yb a b<=0)(d:(l.map En.key).Nodup):Ord l:=by
 induction l with
 |nil=>exact kr
 |cons a r ih =>
  rw[JA]at h;rw[ju,jY]at d;refine JA.2 ⟨λb e=>?_,ih h.2 d.2⟩;have f:=h.1 b e;rcases Int.lt_or_eq_of_le f with c|c
  .exact c
  .exact absurd (jg.2 ⟨b,e,(Yo.1 c).symm⟩) d.1
theorem Qab{h:Hd}:∀{l:List En} {p:Option En},(∀e∈l,vu h e=0)->Ord l->(∀q,p=some q->∀e∈l,yb q e<0)->Qv h p l=0:=by
 intro l;induction l with
 |nil=>intro p _ _ _;rfl
 |cons x r ih =>
  intro p b c d;unfold Qv;rw[jd (by simpa using b x jc)];have g:XJ p x=false:=by
   cases p with
   |none=>rfl
   |some q=>have:=d q rfl x jc;simp only[XJ,UR];omega
  rw[g];simp only[JD,Jb];exact ih (λe a=>b e (jb _ a)) (JA.1 c).2 (λq f e a=>by cases f;exact(JA.1 c).1 e a)
theorem qaw:∀j,zf q c j=j*(q/c)+min j (q%c):=by
 intro j;induction j with
 |zero=>simp[zf]
 |succ j ih =>
  simp only[zf,ze,ih,Ul];split<;>omega
theorem qY{w m:Nat}(a:0<m):zf w m m=w:=by
 rw[qaw,Nat.min_eq_right (Kr (JQ _ a))];exact Nat.div_add_mod w m
theorem xT{w m i j:Nat}(h:i<=j):zf w m i<=zf w m j:=by
 induction j with
 |zero=>rw[Nat.le_zero.1 h];exact jm _
 |succ j ih =>
  rcases Nat.eq_or_lt_of_le h with rfl|h
  .exact jm _
  .exact jI (ih (by omega)) (by simp only[zf];omega)
theorem za4{w m j:Nat}(a:0<m)(b:j<m):zf w m j+ze w m j<=w:=by
 have:=xT (w:=w) (m:=m) (i:=j+1) (j:=m) (by omega);rw[qY a]at this;exact this
theorem Zaw{w m:Nat}(h:(w+31)/32<=m)(b:0<m)(j:Nat):ze w m j<=32:=by
 have d:w<=32*m:=by omega
 have a:=Nat.div_add_mod w m;have g:=JQ w b;unfold ze;by_cases h4:w/m<=31
 .split<;>omega
 .have f:w/m<=32:=by
   apply Nat.div_le_of_le_mul;rw[Ui];exact d
  have c:w/m=32:=by omega
  have e:w%m=0:=by rw[c]at a;rw[Ui]at a;omega
  rw[jd (by omega)];omega
theorem Zat{w m:Nat}(h:m<=w/8)(b:0<m)(j:Nat):8<=ze w m j:=by
 have a:m*8<=w:=by omega
 have c:8<=w/m:=(Nat.le_div_iff_mul_le b).2 (by rw[Ui];exact a);unfold ze;omega
def Qb(o:Op3):Int :=
 if Xc o.width=false then 10
 else if o.mode≠1/\o.mode≠2 then 81
 else if o.mode=2/\o.chunks≠0 then 12
 else if o.mode=1/\(o.chunks<o.width/32\/o.width/8<o.chunks)then 12 else 0
def RI.bad(m:Mf)(used:List Int)(last:Int)(r:RI):Prop :=
 r.number∈used\/r.number<1\/m.next-1<r.number\/r.count<1\/2097152<r.count\/r.lo<last\/r.hi<=r.lo\/m.seq<r.hi
instance (m:Mf) (used:List Int) (last:Int) (r:RI):Decidable (r.bad m used last):=by unfold RI.bad;infer_instance
def qf(m:Mf):List Int->Int->List RI->Bool
 |_,_,[]=>true
 |used,last,r::rest=>if r.bad m used last then false else qf m (used++[r.number]) r.hi rest
structure Mf.good (m:Mf):Prop where
 o:Qb m.o=0
 s0:0<=m.seq
 s1:m.seq<=1152921504606846976
 n0:2<=m.next
 n1:m.next<=1099511627776
 j0:1<=m.journal
 j1:m.journal<=m.next-1
 len:m.runs.length<=24
 runs:qf m [m.journal] 0 m.runs=true
theorem yf(h:Qb o=0):Xc o.width=true/\((o.mode=2/\o.chunks=0)\/(o.mode=1/\o.width/32<=o.chunks/\o.chunks<=o.width/8)):=by
 unfold Qb at h;split at h
 .cases h
 .rename_i a
  refine⟨by simpa using a,?_⟩;split at h
  .cases h
  .split at h
   .cases h
   .split at h
    .cases h
    .omega
theorem yM(h:Qb o=0):64<=o.width/\o.width<=1024/\o.width%64=0/\0<=o.chunks/\o.chunks<=128/\1<=o.mode/\o.mode<=2:=by
 obtain⟨a,c⟩:=yf h;obtain⟨b,e,d⟩:=Xd.1 a;omega
theorem yl{m:Mf}:∀{l:List RI} {b:List Int} {a:Int},qf m b a l=true->∀r∈l,1<=r.number/\r.number<=m.next-1/\1<=r.count/\r.count<=2097152/\a<=r.lo/\r.lo<r.hi/\r.hi<=m.seq/\r.number∉b:=by
 intro l;induction l with
 |nil=>intro b a _ r c;cases c
 |cons x rest ih =>
  intro b a h r c;unfold qf at h;split at h
  .cases h
  .rename_i d
   unfold RI.bad at d;simp only[Kc]at d;obtain⟨g,b2,b3,b4,s,u,q,t⟩:=d;rcases jp.1 c with rfl|c
   .exact⟨by omega,by omega,by omega,by omega,by omega,by omega,by omega,g⟩
   .obtain⟨p,e,i,o,v,n,k,j⟩:=ih h r c;exact⟨p,e,i,o,by omega,n,k,λf=>j (jx _ f)⟩
theorem yq{m:Mf}:∀{l k:List RI} {a:List Int} {b:Int},qf m a b (l++k)=true<->(qf m a b l=true/\qf m (a++l.map (·.number)) ((l.getLast?.map (·.hi)).getD b) k=true):=by
 intro l;induction l with
 |nil=>intro k a b;simp[qf]
 |cons x r ih =>
  intro k a b;simp only[jO,qf];by_cases hb:x.bad m a b
  .rw[jh hb,jh hb];simp
  .rw[jd hb,jd hb,ih];have d:(a++[x.number])++r.map (·.number)=a++(x::r).map (·.number):=by simp
   have c:((r.getLast?.map (·.hi)).getD x.hi)=(((x::r).getLast?.map (·.hi)).getD b):=by
    cases r with
    |nil=>simp
    |cons y s=>simp[List.getLast?_cons_cons]
               cases hl:(y::s).getLast? with
               |none=>simp at hl
               |some z=>simp
   rw[d,c]
theorem zy{m n:Mf}(t:m.next<=n.next)(q:m.seq<=n.seq):∀{l:List RI} {c used':List Int} {b a:Int},qf m c b l=true->a<=b->(∀r∈l,r.number∈used'->r.number∈c)->qf n used' a l=true:=by
 intro l;induction l with
 |nil=>intro c used' b a _ _ _;rfl
 |cons x r ih =>
  intro c used' b a h p g;unfold qf at h|-
  split at h
  .cases h
  .rename_i f
   have e:¬ x.bad n used' a:=by
    unfold RI.bad at f|-
    simp only[Kc]at f|-
    obtain⟨i,b2,b3,b4,o,u,k,s⟩:=f;exact⟨λd=>i (g x jc d),by omega,by omega,by omega,by omega,by omega,by omega,by omega⟩
   rw[jd e];refine ih h (Jy _) λy j d=>?_
   rcases jo.1 d with d|d
   .exact jx _ (g y (jb _ j) d)
   .exact je _ d
def qj(l:List RI):List Int:=l.flatMap λr=>[r.number,r.lo,r.hi,r.count]
def Qz(m:Mf):List Int:=[m.o.width,m.o.chunks,m.o.mode,m.seq,m.next,m.journal,(m.runs.length:Int)]++qj m.runs
def vj(l:List Int):Bs:=l.flatMap num
def qz(m:Mf):Bs:=vj (Qz m)
def mfB(m:Mf):Bs:=ve 3 (qz m)
theorem VJ(a b:List Int):vj (a++b)=vj a++vj b:=by simp[vj]
theorem VaJ(n:Int)(r:List Int):vj (n::r)=qb n.toNat++vj r:=rfl
theorem vap{l:List Int}(h:∀n∈l,n<=1152921504606846976):(vj l).length<=l.length*9:=by
 induction l with
 |nil=>simp[vj]
 |cons n r ih =>
  have b:=Vf n.toNat (by have:=h n jc;omega);have c:=ih (λx a=>h x (jb _ a));rw[VaJ,ja,jk,Ul];omega
theorem zac(l:List RI):(qj l).length=4*l.length:=by
 induction l with
 |nil=>rfl
 |cons r s ih =>
  have:qj (r::s)=[r.number,r.lo,r.hi,r.count]++qj s:=rfl;rw[this,ja,ih];simp;omega
theorem xE{m:Mf}(h:m.good):∀n∈Qz m,0<=n/\n<=1152921504606846976:=by
 obtain⟨e,z,g,B,c,p,v⟩:=yM h.o;obtain⟨_,j,u,k,x,w,f,q,b⟩:=h;have d:=yl b;intro n a;unfold Qz at a;rcases jo.1 a with a|a
 .simp only[jp,JF,UF]at a;rcases a with rfl|rfl|rfl|rfl|rfl|rfl|rfl<;>omega
 .obtain⟨r,b,a⟩:=JB.1 a;obtain⟨c,l,s,A,t,y,i,_⟩:=d r b;simp only[jp,JF,UF]at a;rcases a with rfl|rfl|rfl|rfl<;>omega
theorem XZ{m:Mf}(h:m.good):(qz m).length<=1000:=by
 have b:=vap (λn a=>(xE h n a).2);have c:(Qz m).length=7+4*m.runs.length:=by unfold Qz;rw[ja,zac];rfl
 have d:=h.len;unfold qz;omega
theorem vT{m:Mf}(h:m.good):(mfB m).length<=1014:=by
 have:=XZ h;unfold mfB;rw[zh];omega
end Go.Proofs.YtekkihmmclencaaGreatDoor
