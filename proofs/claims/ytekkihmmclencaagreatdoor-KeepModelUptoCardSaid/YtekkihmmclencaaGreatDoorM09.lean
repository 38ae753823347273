import Derived.Test.YtekkihmmclencaaGreatDoorM08
namespace Go.Proofs.YtekkihmmclencaaGreatDoor
set_option linter.all false
set_option maxRecDepth 100000
set_option maxHeartbeats 40000000
open Tryz
open Go Go.RowKit Go.Sort
variable(U w:World)(c:Nat){W V:World}{n k:Nat}{v r:Value}{F G:va}{s t:Bs}{x:Int}{P:Program}{Q:Exit->Act->World->Prop}{l:List En}
theorem XY{W0 W:World}{g:Array Oper}{rest:List Oper}{o:Oper}{a:Act}(p:o.guard=none)(s x:Operand)(t u:TypeId)
  (H:o.op=.call {callee:=.builtin .append,args:=#[s,x],argTypes:=#[t,u]})
  (e:TypeId) (i:TypeInfo) (B:P.underlying t=some (.slice e)) (J:P.underlying u=some .string) (O:P.info? e=some i) (G:i.zero=some (.int .u8 0))
  (d:i.size=1) (r:i.bytes=1)
  (v:Value) (n:Nat) (l:Bs) (F M:va) (N:a.eval s=v) (A:Rw e 1 v n (Vc l) F) (y:St W0 W (F++M)) (b:Bs) (R:a.eval x=OT b)
  (q:n+b.length<=140737488355328)
  (h:∀m c j k,Rw e 1 (.slice m (n+b.length) c) (n+b.length) (Vc (l++b)) k->St W0 j (k++M)->wpList P g Q rest (a.put o.dst (.slice m (n+b.length) c)) j):wpList P g Q (o::rest) a W:=by
 refine wpList_plain p λK D=>?_
 obtain⟨S,j,I,z,L,C,E⟩:=XL (P:=P) W W0.heap.size t u o.type e i B J O G d r v n (Vc l) (A.owns y) ⟨b.toArray⟩ (by rw[zb];unfold maxLen;omega) (by rw[zb];exact q) y.sz;rw[zb,qZ,<-Yag]at z;obtain⟨k,f,w⟩:=St.appended A y z L C E;obtain⟨m,c,rfl,_⟩:=f.form;unfold Oper.wp execOp;simp only[H,resolve,invoke,builtin,KV,KW,kY,Kj,ju,Jt,N,R,I];exact D _ _ (h m c j k f w)
def yt(bu:Nat)(p v ln:Value)(sm:Int):Nat × Obj:=(bu,.cells #[p,v,ln,.int .u32 sm] 340 (0,0))
theorem Vay:∃j,prog.info? 191=some j/\j.size=2:=by
 have h:(prog.info? 191).map (·.size)=some 2:=by kernel_rfl
 obtain⟨j,b,a⟩:=jL.1 h;exact⟨j,b,a⟩
theorem Qa4:liesAt prog prog.depth 340 (4/prog.cellsOf 340) 0 191 1=true:=by kernel_rfl
theorem za5(p v k:Value)(l:Int)(M:va)(i:p=.pointer none\/p=za c)(a:St U w (yt c p v k l::M)):
  Calls prog 192 #[za c] w λe m=>e=.returned (.tuple #[])/\St U m (yt c (za c) v k l::M):=by
 obtain⟨j,g,h⟩:=Vay;unfold yt at a;have q:=a.cellH 0;have n:=a.freeH 0;have b:w.shape? c=some (340,4):=by simp[World.shape?,a.get]
 have d:=Hi a;unfold yt za;unfold za at i;clear a;rcases i with rfl|rfl
 .have f:=Hi (d.o.set 0 (OQ c));go_enter func192,ntmps192;go_wp2_with fail;rw[Lib.run_to_unsafe w ⟨c,0,none⟩ underlying189 underlying331 g (by rw[h];decide) b (Nat.zero_lt_succ 3)];simp only[Result.andThen];rw[kg];go_wp2_with fail;rw[kI func244 (by kernel_rfl) (by kernel_rfl) (by kernel_rfl) (e:=Extern.AbiNoEscape.same) (by kernel_rfl)];rw[Lib.run_noEscape];simp only[Result.andThen];rw[kg];go_wp2_with fail;rw[Lib.run_from_unsafe w ⟨c,0,none⟩ underlying331 underlying189 g b Qa4];simp only[Result.andThen];rw[kg];go_wp2_with fail;go_end0;exact⟨rfl,f.o⟩
 .go_enter func192,ntmps192;go_wp2_with fail;rw[Lib.run_neq_ptr_same w _ underlying189 g];go_wp2_with fail;go_end0;exact⟨rfl,d.o⟩
def qP(W0:World)(bu:Nat)(ln:Value)(sm:Int)(M:va)(l:Bs)(r:Value)(e:Ending)(w':World):Prop :=
 e=.returned r/\∃v' F',Rw 5 1 v' l.length (Vc l) F'/\St W0 w' (yt bu (za bu) v' ln sm::(F'++M))
theorem qP.mk{l:Bs}{a:Value}(h:Rw 5 1 r l.length (Vc l) G)(b:St W V (yt n (za n) r v x::(G++F))):qP W n v x F l a (.returned a) V:=⟨rfl,r,G,h,b⟩
theorem Xai:∃i0,prog.info? 5=some i0/\i0.zero=some (.int .u8 0)/\i0.size=1/\i0.bytes=1:=by
 have:=ZO;cases hh:prog.info? 5 with
 |none=>rw[hh]at this;cases this
 |some i=>rw[hh]at this;simp at this;exact⟨i,rfl,this.1,this.2.1,this.2.2⟩
theorem Zbl(W0 w:World)(c:Nat)(p v y:Value)(j:Int)(l s:Bs)(g M:va)(z:p=.pointer none\/p=za c)(A:Rw 5 1 v l.length (Vc l) g)(B:St W0 w (yt c p v y j::(g++M)))
  (P:l.length+s.length<=140737488355328) :
  Calls prog 121 #[za c,qa s] w (qP W0 c y j M (l++s) (.tuple #[OI s.length,.nilIface])):=by
 obtain⟨G,I,i,q,u⟩:=Xai;have t:=Hi (za5 W0 w c p v y j (g++M) z B);have E:=Hi A;have F:=zb s;have h:(l++s).length=l.length+s.length:=ja;clear B z A;unfold yt at t;unfold za qa at *;go_enter func121,ntmps121;go_upto_region 2 with(go_at_call 192;refine t.o.mono ?_;rintro e D ⟨rfl,d⟩)
 have O:=d.cellH 1;have k:=Hi d;clear d t;go_upto_region 3 with(at_builtin;refine XY (W0:=W0) rfl _ _ 103 9 rfl 5 G underlying103 underlying9 I i q u v l.length l g _ rfl E.o (k.o.perm Jd) s rfl (by omega) ?_;intro H n C K f b;have r:=Hi f;have m:=Hi (b.perm List.perm_middle.symm);have L:OV C c 1 v:=(b.perm List.perm_middle.symm).cellH 1;have N:OZ C c 1:=(b.perm List.perm_middle.symm).freeH 1;clear f b)
 have a:=m.o.set 1 (.slice H (l.length+s.length) n);refine a.nameC ?_;clear a;intro J a;have x:=Hi a;clear a;go_wp2_with fail;go_ret2;exact qP.mk (by rw[h];exact r.o) x.o
theorem qP.o{W0 w':World}{M:va}{l:Bs}{e:Ending}(h:qP W0 n v x M l r e w'):e=.returned r/\∃v' F',Rw 5 1 v' l.length (Vc l) F'/\St W0 w' (yt n (za n) v' v x::(F'++M)):=h
theorem VaT(b n a:Nat)(d:Option Addr)(f:OV w b 1 (.slice d n a)):
  Calls prog 303 #[za b] w λe c=>e=.returned (OI n)/\c=w:=by
 unfold za;go_enter func303,ntmps303;go_wp2_with fail;go_ret;exact⟨rfl,rfl⟩
theorem VH(p v m:Value)(i:Int)(l s:Bs)(a:Nat)(g M:va)(d:p=.pointer none\/p=za c)(u:Rw 5 1 v l.length (Vc l) g)(k:St U w (yt c p v m i::(g++M)))
  (z:1<=a) (x:a<=255) (A:s.length<=65536) (E:l.length<=1000000000) (n:zg U) :
  Calls prog 252 #[za c,OI (a:Int),qa s] w (qP U c m i M (l++ve a s) (.tuple #[])):=by
 have r:=Hi (qam w a s z x A (n.below k.below (jm _)));have j:(ve a s).length<=65600:=by rw[zh];omega
 obtain⟨f,t⟩:=NE (ve a s);rw[t]at r j|-
 have B:=Hi (λW (h:Below w.heap.size w W)=>Zbl U W c p v m i l f g M d u (k.callB h) (by omega));clear k d u n t;unfold za qa at *;go_enter func252,ntmps252;go_wp2_with (first
  |(go_at_call 123;refine MR r.o λD y=>?_)
  |(go_at_call 121;refine(B.o _ y.o).mono ?_;rintro e F d;obtain⟨rfl,b⟩:=d.o;have C:=Hi b;clear d b))
 go_end0;exact⟨rfl,C.o⟩
def lnV(l:Ln):List Value:=enV l.first++[.int .i64 l.count,.int .i64 l.at']
theorem yaG(l:Ln):(lnV l).length=7:=rfl
theorem vbe(l:Ln):∀u∈lnV l,u.oneCell'=true:=by
 intro u a;simp only[lnV,enV,qa,jO,jK,jp,JF,UF]at a;rcases a with rfl|rfl|rfl|rfl|rfl|rfl|rfl<;>rfl
theorem QaT:∃i,prog.info? 384=some i/\∃z,i.zero=some z/\i.size=7/\z.cells.size=7/\∃by_,i.bytes=by_/\by_<=128:=by
 have h:(prog.info? 384).map (λi=>(i.zero.map (λz=>z.cells.size),i.size,decide (i.bytes<=128)))=some (some 7,7,true):=by kernel_rfl
 obtain⟨i,e,b⟩:=jL.1 h;simp only[Je,jL,jG]at b;obtain⟨⟨z,f,a⟩,c,d⟩:=b;exact⟨i,e,z,f,c,a,_,rfl,d⟩
def YB(W0:World)(bu:Nat)(M:va)(B:Bu)(w:World):Prop :=
 ∃p v ln Fb Fl,(p=.pointer none\/p=za bu)/\Rw 5 1 v B.b.length (Vc B.b) Fb/\Rw 384 7 ln B.lines.length (B.lines.flatMap lnV) Fl/\St W0 w (yt bu p v ln B.sum::(Fb++(Fl++M)))
def zC(W0:World)(bu:Nat)(M:va)(B:Bu)(e:Ending)(w':World):Prop:=e=.returned (.tuple #[])/\YB W0 bu M B w'
theorem zC.mk{B:Bu}(h:YB W n F B V):zC W n F B (.returned (.tuple #[])) V:=⟨rfl,h⟩
theorem zaU{p v e:Value}(f:St W V (F++(n,Obj.cells #[p,v,e,.int .u32 x] 340)::G))(b:Value):
  (OV V n 1 v/\OV V n 2 e/\OZ V n 2/\∀a u,W.cell? a=some u->V.cell? a=some u) /\
  (V.setCell ⟨n,2,none⟩ b).cell? ⟨n,1,none⟩=some v/\∀a u,W.cell? a=some u->(V.setCell ⟨n,2,none⟩ b).cell? a=some u:=by
 have c:=f.mid;have d:=c.set 2 b;exact⟨⟨c.cellH 1,c.cellH 2,c.freeH 2,λa u h=>c.old h⟩,d.cellH 1,λa u h=>d.old h⟩
theorem xaG(W0 w:World)(bu:Nat)(M:va)(B:Bu)(cur:List En)(lv:Value)(pay:Bs)(hB:YB W0 bu M B w)(hrow:qe enV 5 W0 lv cur)(hp:pay.length<=65536)(hl:B.b.length<=900000000)(hn:B.lines.length<=4294967296)(hs:B.sum<4294967296)(ht:zg W0):
  Calls prog 302 #[za bu,lv,qa pay] w (zC W0 bu M (B.block cur pay)):=by
 rcases cur with _|⟨e,r⟩
 .obtain⟨ad,cap,hlv,_⟩:=hrow;have HB:=Hi hB;clear hB;simp only[jA]at hlv;subst hlv;go_enter func302,ntmps302;go_wp2_with fail;go_end0;exact zC.mk HB.o
 .obtain⟨p,v,ln,Fb,Fl,hpp,hRb,hRl,hS⟩:=hB;obtain⟨g,o,cap,rfl,hc⟩:=hrow.fld Qe 0 (by simp);simp only[List.getElem_cons_zero,KT,Jp]at hc;obtain⟨i0,hi,z,hz,hzs,hzc,by_,hby,hbl⟩:=QaT;obtain⟨ad1,cap1,rfl,_⟩:=hRb.form;obtain⟨ad2,cap2,rfl,_⟩:=hRl.form;have c1:w.cell? ⟨bu,1,none⟩=some (.slice ad1 B.b.length cap1):=hS.cellH 1;have c2:w.cell? ⟨bu,2,none⟩=some (.slice ad2 B.lines.length cap2):=hS.cellH 2;have r0:w.cell? ⟨g,o,none⟩=some (.int .i64 e.value):=hS.old (hc 0 _ rfl);have r1:w.cell? ⟨g,o+1,none⟩=some (qa e.code):=hS.old (hc 1 _ rfl);have r2:w.cell? ⟨g,o+2,none⟩=some (.int .i64 e.id):=hS.old (hc 2 _ rfl);have r3:w.cell? ⟨g,o+3,none⟩=some (.int .i64 e.seq):=hS.old (hc 3 _ rfl);have r4:w.cell? ⟨g,o+4,none⟩=some (.bool e.dead):=hS.old (hc 4 _ rfl);have HO:=Hi (λW (h:Below W0.heap.size W0 W)=>xbl W B.sum pay hs (by omega) (ht.below h (jm _)));have HRl:=Hi hRl;have HRb:=Hi hRb;have HP:=Hi hpp;have HT:=Hi ht;have HL:=Hi (λW c=>VaT W bu B.b.length cap1 ad1 c);have HS:=Hi hS;obtain⟨n,hn'⟩:∃n,(e::r).length=n:=⟨_,rfl⟩;rw[hn'];have HF:Hy (B.block (e::r) pay={b:=B.b++ve 5 pay,lines:=B.lines++[⟨e,n,B.b.length⟩],sum:=qF B.sum pay}):=Hi (by rw[<-hn'];rfl);have hn0:(n:Int)≠0:=by simp at hn';omega
  have hn1:0<n:=by omega
  have hn2:(0:Int)<(n:Int):=by omega
  have n2:bu≠w.heap.size:=Nat.ne_of_lt hS.hlt;have n3:w.heap.size≠bu:=n2.symm;have n5:∀ob,(w.alloc ob).cell? ⟨bu,2,none⟩=some (.slice ad2 B.lines.length cap2):=λob=>(hS.alloc ob).tail.cellH 2
  have n4:g≠w.heap.size:=Nat.ne_of_lt (jM w _ r0);have hbytes:(B.lines.length+1)*by_<=140737488355328:=jI (Jg (show B.lines.length+1<=4294967297 by omega) hbl) (by decide);have hmx:B.lines.length+1<=maxLen:=by unfold maxLen;omega
  clear hn';have n1:g≠bu:=by
   have:=hS.hge;intro h0;have h1:g<W0.heap.size:=jM W0 _ (hc 0 _ rfl);omega
  have HC:=Hi hc;clear hS hRb hRl hpp ht hc;unfold qa at r1;unfold za qa at *;unfold yt at HS;go_enter func302,ntmps302;go_upto_region 1 with(fail)
  refine wp_region_noPanic ?_;refine wp_region_held_drew (S:=(λw'=>w'.cell? ⟨bu,1,none⟩=some (.slice ad1 B.b.length cap1)/\w'.cell? ⟨g,o,none⟩=some (.int .i64 e.value)/\w'.cell? ⟨g,o+1,none⟩=some (.string ⟨e.code.toArray⟩)/\w'.cell? ⟨g,o+2,none⟩=some (.int .i64 e.id)/\w'.cell? ⟨g,o+3,none⟩=some (.int .i64 e.seq)/\w'.cell? ⟨g,o+4,none⟩=some (.bool e.dead))) (by kernel_rfl) (by (try dsimp only)<;>(first|exact⟨u1,u4.o _ _ (HC.o 0 _ rfl),u4.o _ _ (HC.o 1 _ rfl),u4.o _ _ (HC.o 2 _ rfl),u4.o _ _ (HC.o 3 _ rfl),u4.o _ _ (HC.o 4 _ rfl)⟩|exact⟨u5,u6.o _ _ (HC.o 0 _ rfl),u6.o _ _ (HC.o 1 _ rfl),u6.o _ _ (HC.o 2 _ rfl),u6.o _ _ (HC.o 3 _ rfl),u6.o _ _ (HC.o 4 _ rfl)⟩|(go_keep;done))) λhHq=>?_;refine' TK 0 rfl ?_ ?_;rotate_left;intro wq hwq;go_simp<;>rfl;(try simp only[Act.put,jf,ji,jj]);refine' TK 1 rfl ?_ ?_;rotate_left;intro wq hwq;go_simp<;>rfl;(try simp only[Act.put,jf,ji,jj]);refine' TK 2 rfl ?_ ?_;rotate_left;intro wq hwq;go_simp<;>rfl;(try simp only[Act.put,jf,ji,jj]);refine' TK 3 rfl ?_ ?_;rotate_left;intro wq hwq;go_simp<;>rfl;(try simp only[Act.put,jf,ji,jj]);refine' TK 5 rfl ?_ ?_;rotate_left;intro wq hwq;go_simp<;>rfl;(try simp only[Act.put,jf,ji,jj]);refine' TK 6 rfl ?_ ?_;rotate_left;intro wq hwq;go_simp<;>rfl;(try simp only[Act.put,jf,ji,jj]);refine' TK 7 rfl ?_ ?_;rotate_left;intro wq hwq;go_simp<;>rfl;(try simp only[Act.put,jf,ji,jj]);refine' TK 8 rfl ?_ ?_;rotate_left;intro wq hwq;go_simp<;>rfl;(try simp only[Act.put,jf,ji,jj]);refine' TK 9 rfl ?_ ?_;rotate_left;intro wq hwq;go_simp<;>rfl;(try simp only[Act.put,jf,ji,jj]);refine' TK 10 rfl ?_ ?_;rotate_left;intro wq hwq;go_simp<;>rfl;(try simp only[Act.put,jf,ji,jj]);refine' TK 11 rfl ?_ ?_;rotate_left;intro wq hwq;go_simp<;>rfl;(try simp only[Act.put,jf,ji,jj]);refine' TK 12 rfl ?_ ?_;rotate_left;intro wq hwq;go_simp<;>rfl;(try simp only[Act.put,jf,ji,jj]);refine B2 4 13 (by kernel_rfl) rfl rfl (λKq hKq=>?_) (λKq hKq=>?_);go_simp;refine hKq.out _ _ (by assumption) λhHq=>?_;clear hKq Kq;(try simp only[Act.put,jf,ji,jj]);refine BR 13 (by kernel_rfl) rfl λKq hKq=>?_;go_simp;(go_at_call 303;refine(HL.o _ (by assumption)).mono ?_;rintro e' w' ⟨rfl,rfl⟩);refine hKq.out _ _ (by (try dsimp only)<;>(first|exact⟨u1,u4.o _ _ (HC.o 0 _ rfl),u4.o _ _ (HC.o 1 _ rfl),u4.o _ _ (HC.o 2 _ rfl),u4.o _ _ (HC.o 3 _ rfl),u4.o _ _ (HC.o 4 _ rfl)⟩|exact⟨u5,u6.o _ _ (HC.o 0 _ rfl),u6.o _ _ (HC.o 1 _ rfl),u6.o _ _ (HC.o 2 _ rfl),u6.o _ _ (HC.o 3 _ rfl),u6.o _ _ (HC.o 4 _ rfl)⟩|(go_keep;done))) λhHq=>?_;clear hKq Kq;(try simp only[Act.put,jf,ji,jj]);refine' TK 14 rfl ?_ ?_;rotate_left;intro wq hwq;go_simp<;>rfl;(try simp only[Act.put,jf,ji,jj]);refine BR 15 (by kernel_rfl) rfl λKq hKq=>?_;go_simp;refine hKq.out _ _ (by (try dsimp only)<;>(first|exact⟨u1,u4.o _ _ (HC.o 0 _ rfl),u4.o _ _ (HC.o 1 _ rfl),u4.o _ _ (HC.o 2 _ rfl),u4.o _ _ (HC.o 3 _ rfl),u4.o _ _ (HC.o 4 _ rfl)⟩|exact⟨u5,u6.o _ _ (HC.o 0 _ rfl),u6.o _ _ (HC.o 1 _ rfl),u6.o _ _ (HC.o 2 _ rfl),u6.o _ _ (HC.o 3 _ rfl),u6.o _ _ (HC.o 4 _ rfl)⟩|(go_keep;done))) λhHq=>?_;clear hKq Kq;(try simp only[Act.put,jf,ji,jj]);rotate_left;go_simp;(go_at_call 303;refine(HL.o _ (by assumption)).mono ?_;rintro e' w' ⟨rfl,rfl⟩);refine hKq.out _ _ (by (try dsimp only)<;>(first|exact⟨u1,u4.o _ _ (HC.o 0 _ rfl),u4.o _ _ (HC.o 1 _ rfl),u4.o _ _ (HC.o 2 _ rfl),u4.o _ _ (HC.o 3 _ rfl),u4.o _ _ (HC.o 4 _ rfl)⟩|exact⟨u5,u6.o _ _ (HC.o 0 _ rfl),u6.o _ _ (HC.o 1 _ rfl),u6.o _ _ (HC.o 2 _ rfl),u6.o _ _ (HC.o 3 _ rfl),u6.o _ _ (HC.o 4 _ rfl)⟩|(go_keep;done))) λhHq=>?_;clear hKq Kq;(try simp only[Act.put,jf,ji,jj]);refine' TK 14 rfl ?_ ?_;rotate_left;intro wq hwq;go_simp<;>rfl;(try simp only[Act.put,jf,ji,jj]);refine B2 4 15 (by kernel_rfl) rfl rfl (λKq hKq=>?_) (λKq hKq=>?_);go_simp;refine hKq.out _ _ (by assumption) λhHq=>?_;clear hKq Kq;(try simp only[Act.put,jf,ji,jj]);refine BR 15 (by kernel_rfl) rfl λKq hKq=>?_;go_simp;refine hKq.out _ _ (by (try dsimp only)<;>(first|exact⟨u1,u4.o _ _ (HC.o 0 _ rfl),u4.o _ _ (HC.o 1 _ rfl),u4.o _ _ (HC.o 2 _ rfl),u4.o _ _ (HC.o 3 _ rfl),u4.o _ _ (HC.o 4 _ rfl)⟩|exact⟨u5,u6.o _ _ (HC.o 0 _ rfl),u6.o _ _ (HC.o 1 _ rfl),u6.o _ _ (HC.o 2 _ rfl),u6.o _ _ (HC.o 3 _ rfl),u6.o _ _ (HC.o 4 _ rfl)⟩|(go_keep;done))) λhHq=>?_;clear hKq Kq;(try simp only[Act.put,jf,ji,jj]);rotate_left;go_simp;refine hKq.out _ _ (by (try dsimp only)<;>(first|exact⟨u1,u4.o _ _ (HC.o 0 _ rfl),u4.o _ _ (HC.o 1 _ rfl),u4.o _ _ (HC.o 2 _ rfl),u4.o _ _ (HC.o 3 _ rfl),u4.o _ _ (HC.o 4 _ rfl)⟩|exact⟨u5,u6.o _ _ (HC.o 0 _ rfl),u6.o _ _ (HC.o 1 _ rfl),u6.o _ _ (HC.o 2 _ rfl),u6.o _ _ (HC.o 3 _ rfl),u6.o _ _ (HC.o 4 _ rfl)⟩|(go_keep;done))) λhHq=>?_;clear hKq Kq;(try simp only[Act.put,jf,ji,jj]);refine BR 4 (by kernel_rfl) rfl λKq hKq=>?_;go_simp;refine hKq.out _ _ (by assumption) λhHq=>?_;clear hKq Kq;(try simp only[Act.put,jf,ji,jj]);rotate_left;(all_goals (refine BR 16 (by kernel_rfl) rfl λKq hKq=>?_;(refine Zn (by rfl) _ _ 282 (by rfl) 384 i0 z 7 by_ underlying282 hi hz hzs hby hzc (by decide) (.slice ad2 B.lines.length cap2) B.lines.length (B.lines.flatMap lnV) Fl ((bu,.cells #[p,.slice ad1 B.b.length cap1,.slice ad2 B.lines.length cap2,.int .u32 B.sum] 340 (0,0))::(Fb++M)) (by rfl) HRl.o 1 w.heap.size (lnV ⟨e,n,B.b.length⟩) ((St.b3 (A:=[_]) (HS.o.drew)).alloc _) (by rfl) (by rfl) (vbe _) (by decide) hmx hbytes ?_;intro g2 cap3 w2 F2 hR2 hS2;have HR2:=Hi hR2;have HS2:=Hi hS2;obtain⟨⟨u1,u2,u3,u4'⟩,u5,u6'⟩:=zaU hS2 (.slice (some ⟨g2,0,none⟩) (B.lines.length+1) cap3);have u4:=Hi u4';have u6:=Hi u6';clear hR2 hS2 u4' u6');refine hKq.out _ _ (by (try dsimp only)<;>(first|exact⟨u1,u4.o _ _ (HC.o 0 _ rfl),u4.o _ _ (HC.o 1 _ rfl),u4.o _ _ (HC.o 2 _ rfl),u4.o _ _ (HC.o 3 _ rfl),u4.o _ _ (HC.o 4 _ rfl)⟩|exact⟨u5,u6.o _ _ (HC.o 0 _ rfl),u6.o _ _ (HC.o 1 _ rfl),u6.o _ _ (HC.o 2 _ rfl),u6.o _ _ (HC.o 3 _ rfl),u6.o _ _ (HC.o 4 _ rfl)⟩|(go_keep;done))) λhHq=>?_;clear hKq Kq;(try simp only[Act.put,jf,ji,jj]);refine' TK 17 rfl ?_ ?_;rotate_left;intro wq hwq;go_simp<;>rfl;(try simp only[Act.put,jf,ji,jj]);refine' TK 18 rfl ?_ ?_;rotate_left;intro wq hwq;go_simp<;>rfl;(try simp only[Act.put,jf,ji,jj]);refine BR 19 (by kernel_rfl) rfl λKq hKq=>?_;go_simp;refine hKq.out _ _ (by (try dsimp only)<;>(first|exact⟨u1,u4.o _ _ (HC.o 0 _ rfl),u4.o _ _ (HC.o 1 _ rfl),u4.o _ _ (HC.o 2 _ rfl),u4.o _ _ (HC.o 3 _ rfl),u4.o _ _ (HC.o 4 _ rfl)⟩|exact⟨u5,u6.o _ _ (HC.o 0 _ rfl),u6.o _ _ (HC.o 1 _ rfl),u6.o _ _ (HC.o 2 _ rfl),u6.o _ _ (HC.o 3 _ rfl),u6.o _ _ (HC.o 4 _ rfl)⟩|(go_keep;done))) λhHq=>?_;clear hKq Kq;(try simp only[Act.put,jf,ji,jj]);refine wpAnyH_done (by kernel_rfl) ?_ _;refine NoPanic.normal ?_))
  all_goals
   have hS4:=(HS2.o.mid).set 2 (.slice (some ⟨g2,0,none⟩) (B.lines.length+1) cap3);refine hS4.nameT ?_;clear hS4 u1 u2 u3 u4 u5 u6 c1 c2 r0 r1 r2 r3 r4 n5 HS2;intro w3 hS4;have c3:w3.cell? ⟨bu,3,none⟩=some (.int .u32 B.sum):=hS4.cellH 3;have c4:w3.frozen? ⟨bu,3,none⟩=false:=hS4.freeH 3;have HO3:=Hi (HO.o w3 hS4.below);have HS4:=Hi (hS4.set 3 (.int .u32 (qF B.sum pay:Nat)));clear hS4 HO;go_upto_region 3 with(go_at_call 294;refine HO3.o.mono ?_;rintro e' w' ⟨rfl,rfl⟩)
   refine HS4.o.nameC ?_;clear HS4 c3 c4 HO3;intro w4 hS5;have HB:=Hi (VH W0 w4 bu p (.slice ad1 B.b.length cap1) (.slice (some ⟨g2,0,none⟩) (B.lines.length+1) cap3) (qF B.sum pay:Nat) B.b pay 5 Fb (F2++M) HP.o HRb.o (hS5.perm (Jm _ (Jj Fb F2 M))) (by decide) (by decide) hp (by omega) HT.o);clear hS5;unfold za qa at HB;go_wp2_with (go_at_call 252;refine HB.o.mono ?_;rintro e' w' hpo;obtain⟨rfl,hpo2⟩:=hpo.o;have HPO:=Hi hpo2;clear hpo hpo2);go_end0;obtain⟨v',F',hR',hS'⟩:=HPO.o;refine zC.mk ?_;rw[HF.o];refine⟨_,v',_,F',F2,.inr rfl,hR',?_,hS'⟩;rw[ja,<-VQ];exact HR2.o
theorem ZG(e:En)(h:e.writ):(qc e).length<=156:=by
 have a:(Yn e).length<=142:=by
  unfold Yn;rw[ja,ja,qi];have:=Ym e.id (by have:=h.i1;omega);have:=h.c;omega
 unfold qc;rw[ja,ja];have:=Ym e.seq (by have:=h.s1;omega);simp only[jk,jA];omega
theorem YB.alloc{W0 w:World}{M:va}{B:Bu}(h:YB W0 n M B w)(o:Obj):YB W0 n M B (w.alloc o):=by
 obtain⟨p,v,c,f,g,d,a,e,b⟩:=h;exact⟨p,v,c,f,g,d,a,e,(b.alloc o).tail⟩
theorem YB.below{W0 w w':World}{M:va}{B:Bu}(h:YB W0 n M B w)(f:Below w.heap.size w w'):YB W0 n M B w':=by
 obtain⟨p,v,c,g,i,d,a,e,b⟩:=h;exact⟨p,v,c,g,i,d,a,e,b.callB f⟩
theorem YB.under{B:Bu}(h:YB W n F B V):Below W.heap.size W V:=by
 obtain⟨p,v,c,f,g,d,b,e,a⟩:=h;exact a.below
structure QC (l:List En) (B0 B:Bu) (f k:Nat) (pay:Bs):Prop where
 fk:f<=k
 kl:k<=l.length
 same:Bu.blocks B0 [] [] l=Bu.blocks B ((l.drop f).take (k-f)) pay (l.drop k)
 payl:pay.length<=4096
 bytes:B.b.length+pay.length+14*(k-f)+180*(l.length-k)<=900000000
 lines:B.lines.length+(k-f)+(l.length-k)<=4294967296
 sum:B.sum<4294967296
theorem QC.start{B:Bu}(c:B.b.length+180*l.length<=900000000)(d:B.lines.length+l.length<=4294967296)(a:B.sum<4294967296):QC l B B 0 0 [] :=
 ⟨jm _,jX _,by simp,by simp,by simp;omega,by omega,a⟩
theorem Xaq{α:Type}{l:List α}(h:n<=k)(a:k<l.length):(l.drop n).take (k+1-n)=(l.drop n).take (k-n)++[l[k]]:=by
 rw[show k+1-n=(k-n)+1 by omega,jS (by rw[jQ];omega),List.getElem_drop]
 congr 2
 congr 1
 omega
theorem QC.more{a B:Bu}(h:QC l a B n k s)(b:k<l.length)(i:(qc l[k]).length<=156)(d:s.length+(qc l[k]).length<=4096):QC l a B n (k+1) (s++qc l[k]):=by
 obtain⟨c,m,g,j,o,p,e⟩:=h;refine⟨by omega,by omega,?_,by rw[ja];omega,by rw[ja];omega,by omega,e⟩;rw[g,jR b,Bu.blocks,jd (by omega),Xaq c b]
theorem QC.next{d B:Bu}(h:QC l d B n k s)(g:k<l.length)(j:(qc l[k]).length<=156)(c:4096<s.length+(qc l[k]).length):QC l d (B.block ((l.drop n).take (k-n)) s) k (k+1) (qc l[k]):=by
 obtain⟨o,p,i,m,t,u,q⟩:=h;have a:((l.drop n).take (k-n)).length=k-n:=by rw[jN,jQ];omega
 have b:(l.drop k).take (k+1-k)=[l[k]]:=by rw[Xaq (jm _) g,Uk,J4];rfl
 refine⟨by omega,by omega,?_,by omega,?_,?_,?_⟩
 .rw[i,b,jR g,Bu.blocks,jh c]
 all_goals
  revert a;rcases(l.drop n).take (k-n)with _|⟨e,r⟩
  .intro a;simp only[jA]at a;simp only[Bu.block];omega
  .intro a;simp only[Bu.block,ja,zh,jk,jA]at a|-
   first|omega|exact Qad _ _
theorem ya5(W0 w:World)(bu:Nat)(M:va)(B:Bu)(l:List En)(lv:Value)(hB:YB W0 bu M B w)(hrow:qe enV 5 W0 lv l)(hw:∀e∈l,e.writ)(h1:B.b.length+180*l.length<=900000000)(h2:B.lines.length+l.length<=4294967296)(h3:B.sum<4294967296)(ht:zg W0):
  Calls prog 254 #[za bu,lv] w (zC W0 bu M (Bu.blocks B [] [] l)):=by
 have HA:=Hi (QC.start h1 h2 h3);have HB:=Hi hB;have HT:=Hi ht;have HW:=Hi hw;have HR:=Hi hrow;obtain⟨ad,cap,hlv,hlc,hcm,_⟩:=hrow;have hll:l.length<=5000000:=by omega
 have hli:(l.length:Int)<=5000000:=by omega
 have hl0:(0:Int)<=(l.length:Int):=by omega
 have hlc':(l.length:Int)<=(cap:Int):=by omega
 subst hlv;clear hB ht hw h1 h2 h3;unfold za;go_enter func254,ntmps254;go_wp2_with fail;go_loopw [4,5,11] (λfv pv iv wr=>∃(f k:Nat) (pay:Bs) (B1:Bu),QC l B B1 f k pay/\fv=.int .i64 (f:Int)/\pv=qa pay/\iv=.int .i64 (k:Int)/\YB W0 bu M B1 wr) (λ_ _ iv _=>l.length-(intOf iv).toNat)
 case atStart=>exact⟨0,0,[],B,HA.o,rfl,rfl,rfl,HB.o⟩
 case round =>
  obtain⟨f,k,pay,B1,hA,rfl,rfl,rfl,hB1⟩:=hrel;have HA1:=Hi hA;have HB1:=Hi hB1;have hkl:=hA.kl;have hfk:=hA.fk;have hpl:=hA.payl;have hz:=zb pay;unfold qa;clear hA hB1;by_cases hlt:k<l.length
  .obtain⟨g,o,cap',hv',hc⟩:=HR.o.fld Qe k hlt;injection hv' with e1 _ e2
   subst e1;subst e2;have HWK:=Hi (HW.o l[k] (Jc hlt));have HM:=Hi (λ(B1:Bu) (pay:Bs) (h:QC l B B1 f k pay)=>h.more hlt (ZG _ HWK.o));have HN:=Hi (λ(B1:Bu) (pay:Bs) (h:QC l B B1 f k pay)=>h.next hlt (ZG _ HWK.o));have hwl:(qc l[k]).length<=156:=ZG _ HWK.o;obtain⟨e,he⟩:∃e,l[k]=e:=⟨_,rfl⟩;rw[he]at hc HWK HM HN hwl;have hu:=HB1.o.under;have cc:∀j x,(enV e)[j]?=some x->wr.cell? ⟨g,o+k*5+j,none⟩=some x:=λj x hx=>by
    have:=hc j x hx;rw[<-j9]at this;rw[hu.cell (jM W0 _ this)];exact this
   have c0:wr.cell? ⟨g,o+k*5,none⟩=some (.int .i64 e.value):=cc 0 _ rfl;have c1:wr.cell? ⟨g,o+k*5+1,none⟩=some (qa e.code):=cc 1 _ rfl;have c2:wr.cell? ⟨g,o+k*5+2,none⟩=some (.int .i64 e.id):=cc 2 _ rfl;have c3:wr.cell? ⟨g,o+k*5+3,none⟩=some (.int .i64 e.seq):=cc 3 _ rfl;have c4:wr.cell? ⟨g,o+k*5+4,none⟩=some (.bool e.dead):=cc 4 _ rfl;have HWR:=Hi (λW=>XaT W e HWK.o);have hze:=zb (qc e);have hk0:(0:Int)<=(k:Int):=by omega
   have hk1:(k:Int)<(l.length:Int):=by omega
   obtain⟨s,hs⟩:∃s,qc e=s:=⟨_,rfl⟩;rw[hs]at hwl HWR hze HM HN;clear he hs hc cc hu;unfold enV qa at *;go_upto_region 4 with(fail)
   go_upto_region 5 with(go_at_call 301;refine(HWR.o _).mono ?_;rintro e' w1 hp;obtain⟨rfl,hb⟩:=hp;have HB2:=Hi ((HB1.o.alloc _).below hb);clear hb)
   clear c0 c1 c2 c3 c4 HWR HB1;have hp0:(pay.length:Int)<=4096:=by omega
   have hs0:(s.length:Int)<=156:=by omega
   by_cases hgt:4096<(pay.length:Int)+(s.length:Int)
   .obtain⟨lv',hrun,hrow'⟩:=HR.o.sub_run Qe 133 Xbc QaQ f k hfk hkl;have hA2:=HA1.o;have HBL:=Hi (xaG W0 w1 bu M B1 _ lv' pay HB2.o hrow' (by omega) (by have:=hA2.bytes;omega) (by have:=hA2.lines;omega) hA2.sum HT.o);have HN2:=Hi (HN.o _ _ hA2 (by omega));clear hrow' hA2 HN HM;unfold za qa at HBL;have ha:=yh [] s;go_wp2_with (go_at_call 302;refine HBL.o.mono ?_;rintro e' w2 hp;obtain⟨rfl,hp2⟩:=hp;have HB3:=Hi hp2;clear hp2);exact⟨⟨k,k+1,s,_,HN2.o,rfl,rfl,by go_num,HB3.o⟩,by simp[intOf];omega⟩
   .have HM2:=Hi (HM.o _ _ HA1.o (by omega));clear HM HN;have ha:=yh pay s;go_wp2_with fail;exact⟨⟨f,k+1,pay++s,_,HM2.o,rfl,rfl,by go_num,HB2.o⟩,by simp[intOf];omega⟩
  .have hke:k=l.length:=by omega
   obtain⟨lv',hrun,hrow'⟩:=HR.o.from_run Qe 133 Xbc QaQ f (by omega);have hA2:=HA1.o;have HBL:=Hi (xaG W0 wr bu M B1 _ lv' pay HB1.o hrow' (by omega) (by have:=hA2.bytes;omega) (by have:=hA2.lines;omega) hA2.sum HT.o);have HF:Hy (Bu.blocks B [] [] l=B1.block (l.drop f) pay):=Hi (by
    rw[hA2.same,hke,Uz,Bu.blocks,Ji (by rw[jQ];omega)])
   clear hrow' hA2;unfold za qa at HBL;go_wp2_with (go_at_call 302;refine HBL.o.mono ?_;rintro e' w2 hp;obtain⟨rfl,hp2⟩:=hp;have HB3:=Hi hp2;clear hp2);go_end0;rw[HF.o];exact zC.mk HB3.o
theorem St.nameE{P:Program}{K:Act->World->Prop}{M:va}{W0 W:World}{b:Exit}{a:Act}(h:St W0 W M)(k:∀W',St W0 W' M->Exit.then K Q b a W'):Exit.then K Q b a W:=k W h
structure Ln.ok (l:Ln):Prop where
 first:l.first.writ
 count:l.count<=1000000000
 at':l.at'<=1000000000
theorem QH:num (c:Int)=qb c:=by simp[num]
theorem vac(e:En)(h:e.writ):(Yn e).length<=142:=by
 unfold Yn;rw[ja,ja,qi];have:=Ym e.id (by have:=h.i1;omega);have:=h.c;omega
theorem V2(l:Ln)(h:l.ok):(zn l).length<=162:=by
 unfold zn;rw[ja,ja,<-QH,<-QH];have:=vac l.first h.first;have:=Ym (l.count:Int) (by have:=h.count;omega);have:=Ym (l.at':Int) (by have:=h.at';omega);omega
structure Zz (ls:List Ln) (b0 b1:Bs) (k:Nat) (pay:Bs):Prop where
 kl:k<=ls.length
 same:b0++Vj [] ls=b1++Vj pay (ls.drop k)
 payl:pay.length<=4096
 bytes:b1.length+pay.length+180*(ls.length-k)<=900000000
theorem Zz.start{a:List Ln}(h:s.length+180*a.length<=900000000):Zz a s s 0 []:=⟨jX _,by simp,by simp,by simp;omega⟩
theorem Zz.more{b:List Ln}{a:Bs}(h:Zz b s t k a)(c:k<b.length)(g:(zn b[k]).length<=162)(e:a.length+(zn b[k]).length<=4096):Zz b s t (k+1) (a++zn b[k]):=by
 obtain⟨i,d,j,f⟩:=h;refine⟨by omega,?_,by rw[ja];omega,by rw[ja];omega⟩;rw[d,jR c,Vj,jd (by omega)]
theorem Zz.next{b:List Ln}{a:Bs}(h:Zz b s t k a)(d:k<b.length)(g:(zn b[k]).length<=162)(c:4096<a.length+(zn b[k]).length):Zz b s (t++ve 6 a) (k+1) (zn b[k]):=by
 obtain⟨i,e,j,f⟩:=h;refine⟨by omega,?_,by omega,by rw[ja,zh];omega⟩;rw[e,jR d,Vj,jh c,jE]
theorem Zz.done{b:List Ln}{a:Bs}(h:Zz b s t k a)(c:k=b.length):s++Vj [] b=t++(if a=[]then[]else ve 6 a):=by
 rw[h.same,c,Uz,Vj]
theorem qbe(W0 w:World)(bu:Nat)(M:va)(B:Bu)(hB:YB W0 bu M B w)(hok:∀l∈B.lines,l.ok)(h1:B.b.length+180*B.lines.length<=900000000)(h3:B.sum<4294967296)(ht:zg W0):
  Calls prog 255 #[za bu] w (zC W0 bu M {B with b:=B.b++Vj [] B.lines++xx B}):=by
 obtain⟨b0,ls,sm⟩:=B;simp only at h1 h3 hok;obtain⟨p,v,ln,Fb,Fl,hp,hRb,hRl,hS⟩:=hB;simp only at hRb hRl hS;have HA:=Hi (Zz.start h1);obtain⟨ad1,cap1,rfl,_⟩:=hRb.form;obtain⟨ad2,cap2,rfl,hlc,hcm,_⟩:=hRl.form;have c1:w.cell? ⟨bu,1,none⟩=some (.slice ad1 b0.length cap1):=hS.cellH 1;have c2:w.cell? ⟨bu,2,none⟩=some (.slice ad2 ls.length cap2):=hS.cellH 2;have HL:=Hi (VaT w bu b0.length cap1 ad1 c1);have HS:=Hi hS;have HRl:=Hi hRl;have HRb:=Hi hRb;have HP:=Hi hp;have HT:=Hi ht;have HOK:=Hi hok;have hll:ls.length<=5000000:=by omega
 have hli:(ls.length:Int)<=5000000:=by omega
 have hl0:(0:Int)<=(ls.length:Int):=by omega
 have hlc':(ls.length:Int)<=(cap2:Int):=by omega
 have HB0:=Hi (show b0.length<=900000000 by omega);clear hS hRl hRb hp ht hok h1;unfold za at *;go_enter func255,ntmps255;go_wp2_with (go_at_call 303;refine HL.o.mono ?_;rintro e' w' ⟨rfl,rfl⟩);go_loopw [3,18] (λpv iv wr=>∃(k:Nat) (pay b1:Bs) (p v:Value) (Fb:va),Zz ls b0 b1 k pay/\pv=qa pay/\iv=.int .i64 (k:Int)/\(p=.pointer none\/p=za bu)/\Rw 5 1 v b1.length (Vc b1) Fb/\St W0 wr (yt bu p v (.slice ad2 ls.length cap2) sm::(Fb++(Fl++M)))) (λ_ iv _=>ls.length-(intOf iv).toNat)
 case atStart=>exact⟨0,[],b0,p,_,Fb,HA.o,rfl,rfl,HP.o,HRb.o,HS.o⟩
 case round =>
  clear HL c1 c2 HS HRb HP HA;obtain⟨k,pay,b1,p1,v1,Fb1,hA,rfl,rfl,hp,hRb,hS⟩:=hrel;have HA1:=Hi hA;have HS1:=Hi hS;have HP1:=Hi hp;have HRb1:=Hi hRb;have hkl:=hA.kl;have hpl:=hA.payl;have hz:=zb pay;unfold qa;clear hA hp hRb;by_cases hlt:k<ls.length
  .have hrow:qe lnV 7 wr (.slice ad2 ls.length cap2) ls:=HRl.o.rowK (λx h=>by have:=jT List.length h;rw[yaG]at this;simp at this) (St.b3 (A:=[_]) hS);obtain⟨g,o,cap',hv',hc⟩:=hrow.fld yaG k hlt;injection hv' with e1 _ e2
   subst e1;subst e2;have HWK:=Hi (HOK.o ls[k] (Jc hlt));have HM:=Hi (λ(b1:Bs) (pay:Bs) (h:Zz ls b0 b1 k pay)=>h.more hlt (V2 _ HWK.o));have HN:=Hi (λ(b1:Bs) (pay:Bs) (h:Zz ls b0 b1 k pay)=>h.next hlt (V2 _ HWK.o));have hwl:(zn ls[k]).length<=162:=V2 _ HWK.o;obtain⟨l,hl⟩:∃l,ls[k]=l:=⟨_,rfl⟩;rw[hl]at hc HWK HM HN hwl;obtain⟨e,n,q⟩:=l;have cc:∀j x,(lnV ⟨e,n,q⟩)[j]?=some x->wr.cell? ⟨g,o+k*7+j,none⟩=some x:=λj x hx=>by rw[j9];exact hc j x hx
   have c0:wr.cell? ⟨g,o+k*7,none⟩=some (.int .i64 e.value):=cc 0 _ rfl;have c1:wr.cell? ⟨g,o+k*7+1,none⟩=some (qa e.code):=cc 1 _ rfl;have c2:wr.cell? ⟨g,o+k*7+2,none⟩=some (.int .i64 e.id):=cc 2 _ rfl;have c3:wr.cell? ⟨g,o+k*7+3,none⟩=some (.int .i64 e.seq):=cc 3 _ rfl;have c4:wr.cell? ⟨g,o+k*7+4,none⟩=some (.bool e.dead):=cc 4 _ rfl;have c5:wr.cell? ⟨g,o+k*7+5,none⟩=some (.int .i64 (n:Int)):=cc 5 _ rfl;have c6:wr.cell? ⟨g,o+k*7+6,none⟩=some (.int .i64 (q:Int)):=cc 6 _ rfl;have hk0:(0:Int)<=(k:Int):=by omega
   have hk1:(k:Int)<(ls.length:Int):=by omega
   have hS2:=hS.alloc (.cells (lnV ⟨e,n,q⟩).toArray 384);obtain⟨C,hC⟩:∃C,C=wr.heap.size:=⟨_,rfl⟩;rw[<-hC]at hS2;have HS2:=Hi hS2;have HC:=Hi hC;clear hl hc cc hrow hS hS2 hC;unfold lnV enV qa at HS2;unfold qa at *;simp only[jO,jK]at HS2;go_upto_region 5 with(fail)
   rw[<-HC.o];refine HS2.o.nameC ?_;clear c0 c1 c2 c3 c4 c5 c6 HC HS1;intro w1 hS3;have d0:w1.cell? ⟨C,0,none⟩=some (.int .i64 e.value):=hS3.cellH 0;have d1:w1.cell? ⟨C,1,none⟩=some (.string ⟨e.code.toArray⟩):=hS3.cellH 1;have d2:w1.cell? ⟨C,2,none⟩=some (.int .i64 e.id):=hS3.cellH 2;have d3:w1.cell? ⟨C,3,none⟩=some (.int .i64 e.seq):=hS3.cellH 3;have d4:w1.cell? ⟨C,4,none⟩=some (.bool e.dead):=hS3.cellH 4;have d5:w1.cell? ⟨C,5,none⟩=some (.int .i64 (n:Int)):=hS3.cellH 5;have d6:w1.cell? ⟨C,6,none⟩=some (.int .i64 (q:Int)):=hS3.cellH 6;have e0:=λd os=>jH d0 d os
   have e1:=λd os=>jH d1 d os
   have e2:=λd os=>jH d2 d os
   have e3:=λd os=>jH d3 d os
   have e4:=λd os=>jH d4 d os
   have e5:=λd os=>jH d5 d os
   have e6:=λd os=>jH d6 d os
   have HS3:=Hi hS3.tail;obtain⟨k1,k2,k3⟩:=HWK.o;simp only at k1 k2 k3;have HPL:=Hi (λW=>Xay W e k1);have HN1:=Hi (λW=>Xo W (n:Int) (by omega) (by omega));have HN2:=Hi (λW=>Xo W (q:Int) (by omega) (by omega));have hpl2:=vac e k1;have hn1:=Ym (n:Int) (by omega);have hn2:=Ym (q:Int) (by omega);have HF:Hy (zn ⟨e,n,q⟩=Yn e++(num (n:Int)++num (q:Int))):=Hi (by rw[QH,QH];unfold zn;rw[jE]);obtain⟨P,hP⟩:∃P,Yn e=P:=⟨_,rfl⟩;obtain⟨N1,hN1⟩:∃N1,num (n:Int)=N1:=⟨_,rfl⟩;obtain⟨N2,hN2⟩:∃N2,num (q:Int)=N2:=⟨_,rfl⟩;rw[hP]at HPL hpl2 HF;rw[hN1]at HN1 hn1 HF;rw[hN2]at HN2 hn2 HF;have a1:=yh P N1;have a2:=yh (P++N1) N2;have z1:=zb P;have z2:=zb N1;have z3:=zb N2;have z4:=zb (P++N1);have g1:¬ 9223372036854775807<P.length+N1.length:=by omega
   have g2:¬ 9223372036854775807<P.length+N1.length+N2.length:=by omega
   clear hS3 hP hN1 hN2 k1 k2 k3 HS2 HWK;unfold enV qa at HPL;unfold qa at HN1 HN2;refine Jq (by kernel_rfl) (by kernel_rfl) ?_
   repeat(quiet_step ((first|(go_at_call_of 253 (Value.int IntKind.i64 (n:Int));exact Jh (HN1.o _))|(go_at_call 253;exact Jh (HN2.o _))|(go_at_call 304;exact Jh (HPL.o _)))))
   refine Ub ?_;intro _ hw';obtain⟨⟨dq,osq⟩,hw''⟩:=hw';subst hw'';have hS4:=HS3.o.callB (Jo w1 dq osq);clear d0 d1 d2 d3 d4 d5 d6 e0 e1 e2 e3 e4 e5 e6 HPL HN1 HN2 a1 a2 z1 z2 z3 z4 g1 g2;refine St.nameE (P:=prog) hS4 ?_;clear hS4 HS3;intro w2 hS4;obtain⟨L,hL⟩:∃L,P++(N1++N2)=L:=⟨_,rfl⟩;rw[hL]at HF|-
   have hLl:=HF.o;rw[hLl]at HM HN hwl;clear hLl hL hpl2 hn1 hn2 HF;have zL:=zb L;have zp:=zb pay;have HS4:=Hi hS4;clear hS4;have hp0:(pay.length:Int)<=4096:=by omega
   have hs0:(L.length:Int)<=162:=by omega
   by_cases hgt:4096<(pay.length:Int)+(L.length:Int)
   .have hA2:=HA1.o;have HBL:=Hi (VH W0 w2 bu p1 v1 (.slice (some ⟨g,o,none⟩) ls.length cap2) sm b1 pay 6 Fb1 (Fl++M) HP1.o HRb1.o HS4.o (by decide) (by decide) (by omega) (by have:=hA2.bytes;omega) HT.o);have HN2:=Hi (HN.o _ _ hA2 (by omega));clear hA2 HN HM;unfold za qa at HBL;have ha:=yh [] L;go_wp2_with (go_at_call 252;refine HBL.o.mono ?_;rintro e' w3 hp;obtain⟨rfl,hp2⟩:=hp.o;have HB3:=Hi hp2;clear hp hp2);obtain⟨v',F',hR',hS'⟩:=HB3.o;exact⟨⟨k+1,L,_,za bu,v',F',HN2.o,rfl,by go_num,.inr rfl,hR',hS'⟩,by simp[intOf];omega⟩
   .have HM2:=Hi (HM.o _ _ HA1.o (by omega));clear HM HN;have ha:=yh pay L;go_wp2_with fail;exact⟨⟨k+1,pay++L,b1,p1,v1,Fb1,HM2.o,rfl,by go_num,HP1.o,HRb1.o,HS4.o⟩,by simp[intOf];omega⟩
  .have hke:k=ls.length:=by omega
   have hD:=HA1.o.done hke;have c3:wr.cell? ⟨bu,3,none⟩=some (.int .u32 sm):=hS.cellH 3;have c2:wr.cell? ⟨bu,2,none⟩=some (.slice ad2 ls.length cap2):=hS.cellH 2;clear hS;have HPF:=Hi (λW=>Y2 W sm h3);have HN1:=Hi (λW=>Xo W (ls.length:Int) hl0 (by omega));have HN2:=Hi (λW=>Xo W (b0.length:Int) (by omega) (by have:=HB0.o;omega));have hn1:=Ym (ls.length:Int) (by omega);have hn2:=Ym (b0.length:Int) (by have:=HB0.o;omega);have hf4:=qi sm 4;have HF:Hy (xx ⟨b0,ls,sm⟩=ve 7 (num (ls.length:Int)++num (b0.length:Int)++Vh sm 4)):=Hi (by unfold xx;rw[QH,QH]);obtain⟨F4,hF4⟩:∃F4,Vh sm 4=F4:=⟨_,rfl⟩;obtain⟨N1,hN1⟩:∃N1,num (ls.length:Int)=N1:=⟨_,rfl⟩;obtain⟨N2,hN2⟩:∃N2,num (b0.length:Int)=N2:=⟨_,rfl⟩;rw[hF4]at HPF hf4 HF;rw[hN1]at HN1 hn1 HF;rw[hN2]at HN2 hn2 HF;have a1:=yh N1 N2;have hl12:(N1++N2).length<=20:=by rw[ja];omega
   obtain⟨N12,h12⟩:∃x,N1++N2=x:=⟨_,rfl⟩;rw[h12]at a1 hl12 HF;have a2:=yh N12 F4;have hl7:(N12++F4).length<=24:=by rw[ja];omega
   obtain⟨P7,h7⟩:∃x,N12++F4=x:=⟨_,rfl⟩;rw[h7]at a2 hl7 HF;have z1:=zb N1;have z2:=zb N2;have z3:=zb F4;have z4:=zb N12;have g1:¬ 9223372036854775807<N1.length+N2.length:=by omega
   have g2:¬ 9223372036854775807<N12.length+F4.length:=by omega
   clear hF4 hN1 hN2 h12 h7;unfold qa at HPF HN1 HN2;have hbt:=HA1.o.bytes;by_cases hpe:pay=[]
   .have HX:Hy (∃p v Fb b2,b0++Vj [] ls=b2/\b2.length<=900005000/\(p=.pointer none\/p=za bu)/\Rw 5 1 v b2.length (Vc b2) Fb/\St W0 wr (yt bu p v (.slice ad2 ls.length cap2) sm::(Fb++(Fl++M)))):=Hi (by
     rw[jh hpe,jJ]at hD;exact⟨p1,v1,Fb1,b1,hD,by omega,HP1.o,HRb1.o,HS1.o⟩)
    subst hpe;clear hD HA1 HS1 HP1 HRb1 HOK;go_upto_region 13 with(fail)
    obtain⟨p2,v2,Fb2,b2,he,hl2,hp2,hR2,hS2⟩:=HX.o;have k2:wr.cell? ⟨bu,2,none⟩=some (.slice ad2 ls.length cap2):=hS2.cellH 2;have k3:wr.cell? ⟨bu,3,none⟩=some (.int .u32 sm):=hS2.cellH 3;have HS2:=Hi hS2;have HR2:=Hi hR2;have HP2:=Hi hp2;have HE:=Hi he;have HL2:=Hi hl2;have HFR:=Hi (λW (h:St W0 W (yt bu p2 v2 (.slice ad2 ls.length cap2) sm::(Fb2++(Fl++M))))=>VH W0 W bu p2 v2 (.slice ad2 ls.length cap2) sm b2 P7 7 Fb2 (Fl++M) hp2 hR2 h (by decide) (by decide) (by omega) (by omega) HT.o);unfold za qa at HFR;clear HX he hl2 hp2 hR2 hS2;have hsm:(sm:Int)<4294967296:=by omega
    have hsm0:(0:Int)<=(sm:Int):=by omega
    go_upto_region 14 with(go_at_call 193;refine(HPF.o _).mono ?_;rintro e' w4 ⟨rfl,hb⟩;have hS3:=HS2.o.callB hb;have k2:w4.cell? ⟨bu,2,none⟩=some (.slice ad2 ls.length cap2):=hS3.cellH 2;have HS3:=Hi hS3;clear hb hS3 k3)
    go_wp2_with (first
     |(go_at_call_of 253 (Value.int IntKind.i64 (ls.length:Int));refine(HN1.o _).mono ?_;rintro e' w5 ⟨rfl,hb⟩;have HS4:=Hi (HS3.o.callB hb);clear hb)
     |(go_at_call 253;refine(HN2.o _).mono ?_;rintro e' w6 ⟨rfl,hb⟩;have HS5:=Hi (HS4.o.callB hb);clear hb)
     |(go_at_call 252;refine(HFR.o _ HS5.o).mono ?_;rintro e' w7 hp;obtain⟨rfl,hp2⟩:=hp.o;have HB7:=Hi hp2;clear hp hp2))
    go_end0;obtain⟨v',F',hR',hS'⟩:=HB7.o;refine zC.mk ⟨za bu,v',.slice ad2 ls.length cap2,F',Fl,.inr rfl,?_,HRl.o,hS'⟩;show Rw 5 1 v' (b0++Vj [] ls++xx ⟨b0,ls,sm⟩).length (Vc (b0++Vj [] ls++xx ⟨b0,ls,sm⟩)) F';rw[HE.o,HF.o];exact hR'
   .have hpe':pay.isEmpty=false:=by cases pay with|nil=>exact absurd rfl hpe|cons _ _=>rfl
    have HBL:=Hi (VH W0 wr bu p1 v1 (.slice ad2 ls.length cap2) sm b1 pay 6 Fb1 (Fl++M) HP1.o HRb1.o HS1.o (by decide) (by decide) (by omega) (by omega) HT.o);rw[jd hpe]at hD;have HD:=Hi hD;have HBT:=Hi (show(b1++ve 6 pay).length<=900005000 by rw[ja,zh];omega);clear hD HA1 HS1 HP1 HRb1 HOK hbt c2 c3;unfold za qa at HBL;go_upto_region 13 with(go_at_call 252;refine HBL.o.mono ?_;rintro e' w3 hp;obtain⟨rfl,hp2⟩:=hp.o;have HB3:=Hi hp2;clear hp hp2)
    have HX:Hy (∃p v Fb b2,b0++Vj [] ls=b2/\b2.length<=900005000/\(p=.pointer none\/p=za bu)/\Rw 5 1 v b2.length (Vc b2) Fb/\St W0 w3 (yt bu p v (.slice ad2 ls.length cap2) sm::(Fb++(Fl++M)))):=Hi (by
     obtain⟨v',F',hR',hS'⟩:=HB3.o;exact⟨za bu,v',F',_,HD.o,HBT.o,.inr rfl,hR',hS'⟩)
    obtain⟨p2,v2,Fb2,b2,he,hl2,hp2,hR2,hS2⟩:=HX.o;have k2:w3.cell? ⟨bu,2,none⟩=some (.slice ad2 ls.length cap2):=hS2.cellH 2;have k3:w3.cell? ⟨bu,3,none⟩=some (.int .u32 sm):=hS2.cellH 3;have HS2:=Hi hS2;have HR2:=Hi hR2;have HP2:=Hi hp2;have HE:=Hi he;have HL2:=Hi hl2;have HFR:=Hi (λW (h:St W0 W (yt bu p2 v2 (.slice ad2 ls.length cap2) sm::(Fb2++(Fl++M))))=>VH W0 W bu p2 v2 (.slice ad2 ls.length cap2) sm b2 P7 7 Fb2 (Fl++M) hp2 hR2 h (by decide) (by decide) (by omega) (by omega) HT.o);unfold za qa at HFR;clear HX he hl2 hp2 hR2 hS2;have hsm:(sm:Int)<4294967296:=by omega
    have hsm0:(0:Int)<=(sm:Int):=by omega
    go_upto_region 14 with(go_at_call 193;refine(HPF.o _).mono ?_;rintro e' w4 ⟨rfl,hb⟩;have hS3:=HS2.o.callB hb;have k2:w4.cell? ⟨bu,2,none⟩=some (.slice ad2 ls.length cap2):=hS3.cellH 2;have HS3:=Hi hS3;clear hb hS3 k3)
    go_wp2_with (first
     |(go_at_call_of 253 (Value.int IntKind.i64 (ls.length:Int));refine(HN1.o _).mono ?_;rintro e' w5 ⟨rfl,hb⟩;have HS4:=Hi (HS3.o.callB hb);clear hb)
     |(go_at_call 253;refine(HN2.o _).mono ?_;rintro e' w6 ⟨rfl,hb⟩;have HS5:=Hi (HS4.o.callB hb);clear hb)
     |(go_at_call 252;refine(HFR.o _ HS5.o).mono ?_;rintro e' w7 hp;obtain⟨rfl,hp2⟩:=hp.o;have HB7:=Hi hp2;clear hp hp2))
    go_end0;obtain⟨v',F',hR',hS'⟩:=HB7.o;refine zC.mk ⟨za bu,v',.slice ad2 ls.length cap2,F',Fl,.inr rfl,?_,HRl.o,hS'⟩;show Rw 5 1 v' (b0++Vj [] ls++xx ⟨b0,ls,sm⟩).length (Vc (b0++Vj [] ls++xx ⟨b0,ls,sm⟩)) F';rw[HE.o,HF.o];exact hR'
theorem St.freeze{o:Obj}(h:St V W ((n,o)::F))(a:Nat):St V (W.freeze ⟨n,0,none⟩ a) F:=by
 refine⟨Lib.below_freeze h.below h.hge a,λx b=>⟨(h.at' x (jb _ b)).1,?_⟩,h.tail.nodup⟩;have c:=(h.at' x (jb _ b)).2;unfold World.freeze;split
 .exact c
 .simp only[U0];rw[jd (λe=>h.ne b e.symm)];exact c
theorem yaU(p v q:Value)(m:Int)(l:Bs)(z M:va)(y:l≠[])(B:Rw 5 1 v l.length (Vc l) z)(n:St U w (yt c p v q m::(z++M))):
  Calls prog 124 #[za c] w λe r=>e=.returned (qa l)/\St U r (yt c p v q m::M):=by
 have f:l.length≠0:=by simpa using y
 have i:=λs=>B.cells (M:=yt c p v q m::M) (n.perm Jd) s
 obtain⟨A,D⟩:=B;rcases D with⟨_,I,_⟩|⟨g,a,h,rfl,rfl,J,t,k,b⟩
 .exact absurd I f
 rw[JM]at k b A;have d:St U w ((g,.cells h 5)::(yt c p (.slice (some ⟨g,0,none⟩) l.length a) q m::M)):=n.perm (JC _ _ _);have G:=n.drew.cellH 1;have H:(Builtin.unsafeSliceData_ #[103] 277 #[.slice (some ⟨g,0,none⟩) l.length a]).run prog w.drew=.ok (OQ g) w.drew :=
  Lib.run_unsafeSliceData_row _ _ _ _ _ _ (by omega)
 have C:(Builtin.unsafeString_ #[277,3] 9 #[OQ g,OI l.length]).run prog w.drew=.ok (OT l) (w.drew.freeze ⟨g,0,none⟩ l.length):=by
  have E:w.drew.heap[g]?=some (.cells h 5):=d.drew.get;refine Lib.run_unsafeString_row w.drew 277 3 9 5 underlying277 (by kernel_rfl) g h.size (by simp[World.shape?,E]) l y (by omega) (by unfold maxLen at t;omega) ?_;intro j x L;obtain⟨O,u,e,N⟩:=i (by intro e;rw[<-vp l,e]at f;exact f rfl);injection e with e1 _ _
  injection e1 with e1
  injection e1 with e1 _ _
  subst e1;rw[X8,Jp];exact N j _ (by simp[Vc,L])
 have F:(w.drew.freeze ⟨g,0,none⟩ l.length).cell? ⟨c,1,none⟩=some (.slice (some ⟨g,0,none⟩) l.length a):=(d.drew.freeze l.length).cellH 1;have K:=Hi (d.drew.freeze l.length);clear n d i b A;unfold za qa;go_enter func124,ntmps124;go_wp2_with fail;go_region_held3 (λr=>r.cell? ⟨c,1,none⟩=some (.slice (some ⟨g,0,none⟩) l.length a)) (first|exact G|exact F|(go_keep;done)) (fail)
 all_goals
  go_wp2_with fail;go_ret;exact⟨rfl,K.o⟩
end Go.Proofs.YtekkihmmclencaaGreatDoor
