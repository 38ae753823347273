import Derived.Test.YtekkihmmclencaaGreatDoorM25
namespace Go.Proofs.YtekkihmmclencaaGreatDoor
set_option linter.all false
set_option maxRecDepth 100000
set_option maxHeartbeats 40000000
open Tryz
open Go Go.RowKit Go.Sort
variable(U w:World)(q c:Nat){W V:World}{n b k:Nat}{v r:Value}{F G:va}{s t:Bs}{T:TypeId}
def sbF(bu:Nat)(p v:Value):Nat × Obj:=(bu,.cells #[p,v] 191 (0,0))
theorem Qbh:liesAt prog prog.depth 191 (2/prog.cellsOf 191) 0 191 1=true:=by kernel_rfl
theorem Xa9(p v:Value)(M:va)(i:p=.pointer none\/p=za c)(a:St U w (sbF c p v::M)):
  Calls prog 192 #[za c] w λe k=>e=.returned (.tuple #[])/\St U k (sbF c (za c) v::M):=by
 obtain⟨j,g,h⟩:=Vay;unfold sbF at a;have m:=a.cellH 0;have l:=a.freeH 0;have b:w.shape? c=some (191,2):=by simp[World.shape?,a.get]
 have d:=Hi a;unfold sbF za;unfold za at i;clear a;rcases i with rfl|rfl
 .have f:=Hi (d.o.set 0 (OQ c));go_enter func192,ntmps192;go_wp2_with fail;rw[Lib.run_to_unsafe w ⟨c,0,none⟩ underlying189 underlying331 g (by rw[h];decide) b (Nat.zero_lt_succ 1)];simp only[Result.andThen];rw[kg];go_wp2_with fail;rw[kI func244 (by kernel_rfl) (by kernel_rfl) (by kernel_rfl) (e:=Extern.AbiNoEscape.same) (by kernel_rfl)];rw[Lib.run_noEscape];simp only[Result.andThen];rw[kg];go_wp2_with fail;rw[Lib.run_from_unsafe w ⟨c,0,none⟩ underlying331 underlying189 g b Qbh];simp only[Result.andThen];rw[kg];go_wp2_with fail;go_end0;exact⟨rfl,f.o⟩
 .go_enter func192,ntmps192;go_wp2_with fail;rw[Lib.run_neq_ptr_same w _ underlying189 g];go_wp2_with fail;go_end0;exact⟨rfl,d.o⟩
def xQ(W0:World)(bu:Nat)(M:va)(l:Bs)(r:Value)(e:Ending)(w':World):Prop :=
 e=.returned r/\∃v' F',Rw 5 1 v' l.length (Vc l) F'/\St W0 w' (sbF bu (za bu) v'::(F'++M))
theorem xQ.mk{l:Bs}(h:Rw 5 1 v l.length (Vc l) G)(a:St W V (sbF n (za n) v::(G++F))):xQ W n F l r (.returned r) V:=⟨rfl,v,G,h,a⟩
theorem zbi(W0 w:World)(c:Nat)(p v:Value)(l s:Bs)(g M:va)(x:p=.pointer none\/p=za c)(y:Rw 5 1 v l.length (Vc l) g)(z:St W0 w (sbF c p v::(g++M)))
  (N:l.length+s.length<=140737488355328) :
  Calls prog 121 #[za c,qa s] w (xQ W0 c M (l++s) (.tuple #[OI s.length,.nilIface])):=by
 obtain⟨E,G,i,n,t⟩:=Xai;have r:=Hi (Xa9 W0 w c p v (g++M) x z);have C:=Hi y;have D:=zb s;have h:(l++s).length=l.length+s.length:=ja;clear z x y;unfold sbF at r;unfold za qa at *;go_enter func121,ntmps121;go_upto_region 2 with(go_at_call 192;refine r.o.mono ?_;rintro e B ⟨rfl,d⟩)
 have L:=d.cellH 1;have j:=Hi d;clear d r;go_upto_region 3 with(at_builtin;refine XY (W0:=W0) rfl _ _ 103 9 rfl 5 E underlying103 underlying9 G i n t v l.length l g _ rfl C.o (j.o.perm Jd) s rfl (by omega) ?_;intro F m A I f b;have q:=Hi f;have k:=Hi (b.perm List.perm_middle.symm);have J:OV A c 1 v:=(b.perm List.perm_middle.symm).cellH 1;have K:OZ A c 1:=(b.perm List.perm_middle.symm).freeH 1;clear f b)
 have a:=k.o.set 1 (.slice F (l.length+s.length) m);refine a.nameC ?_;clear a;intro H a;have u:=Hi a;clear a;go_wp2_with fail;go_ret2;exact xQ.mk (by rw[h];exact q.o) u.o
theorem xQ.o{W0 w':World}{M:va}{l:Bs}{e:Ending}(h:xQ W0 n M l r e w'):e=.returned r/\∃v' F',Rw 5 1 v' l.length (Vc l) F'/\St W0 w' (sbF n (za n) v'::(F'++M)):=h
theorem ZaZ(p v:Value)(l:Bs)(u M:va)(t:l≠[])(z:Rw 5 1 v l.length (Vc l) u)(m:St U w (sbF c p v::(u++M))):
  Calls prog 124 #[za c] w λe n=>e=.returned (qa l)/\St U n (sbF c p v::M):=by
 have f:l.length≠0:=by simpa using t
 have i:=λq=>z.cells (M:=sbF c p v::M) (m.perm Jd) q
 obtain⟨y,B⟩:=z;rcases B with⟨_,G,_⟩|⟨g,a,h,rfl,rfl,H,r,k,b⟩
 .exact absurd G f
 rw[JM]at k b y;have d:St U w ((g,.cells h 5)::(sbF c p (.slice (some ⟨g,0,none⟩) l.length a)::M)):=m.perm (JC _ _ _);have E:=m.drew.cellH 1;have F:(Builtin.unsafeSliceData_ #[103] 277 #[.slice (some ⟨g,0,none⟩) l.length a]).run prog w.drew=.ok (OQ g) w.drew :=
  Lib.run_unsafeSliceData_row _ _ _ _ _ _ (by omega)
 have A:(Builtin.unsafeString_ #[277,3] 9 #[OQ g,OI l.length]).run prog w.drew=.ok (OT l) (w.drew.freeze ⟨g,0,none⟩ l.length):=by
  have C:w.drew.heap[g]?=some (.cells h 5):=d.drew.get;refine Lib.run_unsafeString_row w.drew 277 3 9 5 underlying277 (by kernel_rfl) g h.size (by simp[World.shape?,C]) l t (by omega) (by unfold maxLen at r;omega) ?_;intro j x J;obtain⟨L,s,e,K⟩:=i (by intro e;rw[<-vp l,e]at f;exact f rfl);injection e with e1 _ _
  injection e1 with e1
  injection e1 with e1 _ _
  subst e1;rw[X8,Jp];exact K j _ (by simp[Vc,J])
 have D:(w.drew.freeze ⟨g,0,none⟩ l.length).cell? ⟨c,1,none⟩=some (.slice (some ⟨g,0,none⟩) l.length a):=(d.drew.freeze l.length).cellH 1;have I:=Hi (d.drew.freeze l.length);clear m d i b y;unfold za qa;go_enter func124,ntmps124;go_wp2_with fail;go_region_held3 (λn=>n.cell? ⟨c,1,none⟩=some (.slice (some ⟨g,0,none⟩) l.length a)) (first|exact E|exact D|(go_keep;done)) (fail)
 all_goals
  go_wp2_with fail;go_ret;exact⟨rfl,I.o⟩
theorem zaO{a:List Int}(h:k<a.length):vj (a.take (k+1))=vj (a.take k)++num a[k]:=by
 rw[jS h,VJ];simp[vj]
theorem QS:∀{ns:List Int},(∀n∈ns,n<=1152921504606846976)->(vj ns).length<=ns.length*9:=vap
theorem YaZ(p v:Value)(l:Bs)(a:List Int)(N M:va)(X:p=.pointer none\/p=za q)(i:Rw 5 1 v l.length (Vc l) N)(j:St U w (sbF q p v::(N++((c,.cells (xg a).toArray 3 (0,0))::M))))
  (D:∀n∈a,0<=n/\n<=1152921504606846976) (I:0<a.length) (hl:a.length<=1000) (a0:l.length<=1000000) :
  Calls prog 120 #[.slice (some ⟨c,0,none⟩) a.length a.length,za q] w (xQ U q ((c,.cells (xg a).toArray 3 (0,0))::M) (l++vj a) (.tuple #[])):=by
 obtain⟨G,H,V,B⟩:=Hi4 i j X D;obtain⟨a6,a2⟩:(0:Int)<=(a.length:Int)/\(a.length:Int)<=1000:=by omega
 clear i j X D;unfold za;go_enter func120,ntmps120;go_wp2_with fail;go_loopw [7] (λiv wr=>∃(k:Nat) (y A:Value) (C:va),k<=a.length/\iv=OI (k:Int)/\(0<k->y=za q)/\(y=.pointer none\/y=za q)/\Rw 5 1 A (l++vj (a.take k)).length (Vc (l++vj (a.take k))) C/\St U wr (sbF q y A::(C++((c,.cells (xg a).toArray 3 (0,0))::M)))) (λiv _=>a.length-(intOf iv).toNat)
 case atStart=>exact⟨0,p,v,N,jX _,rfl,by omega,V.o,by simpa [vj] using G.o,H.o⟩
 case round =>
  clear G H V;obtain⟨k,y,A,C,hk,rfl,r,b,i,j⟩:=hrel;have a3:(0:Int)<=(k:Int):=by omega
  by_cases hlt:k<a.length
  .have L:=j.tail.appR.cellH k;rw[show(xg a).toArray[k]?=(xg a)[k]? by simp,zav a k hlt]at L;have u:=B.o a[k] (Jc hlt);have z:a.getD k 0=a[k]:=by simp[List.getD,hlt]
   rw[z]at L;have f:=Hi (zaO hlt);have K:(vj (a.take k)).length<=9000:=jI (QS (λn hn=>(B.o n (UC hn)).2)) (by rw[jN];omega);obtain⟨x,Z⟩:∃x:Nat,a[k]=(x:Int):=⟨a[k].toNat,by omega⟩;rw[Z]at L u f;have m:num (x:Int)=qb x:=by simp[num]
   rw[m]at f
   have d:x<2^64:=by have:(2:Nat)^64=18446744073709551616:=by decide
                     omega
   have t:=Hi (λW=>xW W x d);have J:=zu x d;have R:=Hi (λW (h:Below wr.heap.size wr W)=>zbi U W q y A (l++vj (a.take k)) (qb x) C ((c,.cells (xg a).toArray 3 (0,0))::M) b i (j.callB h) (by rw[ja];omega));have T:IntKind.u64.wrap (x:Int)=(x:Int):=by rw[Kn];omega
   have a5:(0:Int)<=(x:Int):=by omega
   have a4:(x:Int)<=1152921504606846976:=u.2;have a1:(k:Int)<(a.length:Int):=by omega
   obtain⟨s,Y⟩:=NE (qb x);rw[Y]at t R f;clear j i r b Z z m d Y J u K;unfold za qa at R;unfold qa at t;go_wp2_with (first
    |(go_at_call 122;refine MR (t.o _) λw1 HB=>?_)
    |(go_at_call 121;refine(R.o _ HB.o).mono ?_;rintro e w2 F;obtain⟨rfl,b⟩:=F.o;have Q:=Hi b;clear F b))
   obtain⟨v2,F2,S,P⟩:=Q.o;refine⟨⟨k+1,za q,v2,F2,by omega,by go_num,λ_=>rfl,.inr rfl,?_,P⟩,by simp[intOf];omega⟩;rw[f.o,<-jE];exact S
  .obtain rfl:k=a.length:=by omega
   have O:=r I;subst O;rw[J9]at i;obtain⟨G,H⟩:=Hi2 i j;clear i j r b;go_wp2_with fail;go_end0;exact⟨rfl,A,C,G.o,H.o⟩
theorem Va9(m:Mf)(rv:Value)(hm:m.good)(f:qe riV 4 w rv m.runs)(ht:zg w):Calls prog 71 #[.agg (mfV m rv).toArray] w (Vd (.tuple #[qa (mfB m),OI 0]) w):=by
 obtain⟨J,a,ag,ar,au,_⟩:=id f;subst ag;have G:=(St.refl w).alloc (.cells (mfV m (.slice J m.runs.length a)).toArray 64);obtain⟨C,hC⟩:=EN w.heap.size;rw[<-hC]at G;obtain⟨S,HC,U,HR,HT⟩:=Hi5 G hC hm f ht;have am:=hm.len;have K:=Hi (λW hb=>Qaf W m (.slice J m.runs.length a) hm (f.below (B:=w.heap.size) (w':=W) hb (jm _)));have ax:∀(fn:Fn) (first a:Array Value) (w:World),(Instr.makeFunc fn first a).run prog w=.ok (.func fn first a) w:=λ_ _ _ _=>rfl
 clear G hC hm f ht;unfold mfV at S K|-
 go_enter func71,ntmps71;go_upto_region 1 with(fail)
 rw[<-HC.o];refine S.o.nameC ?_;clear S HC;intro w1 G;obtain⟨k0,k1,k2,k3,k4,k5,k6⟩:=VD.of (m:=m) (rv:=.slice J m.runs.length a) G jc;have S:=Hi G;have E:=Hi (K.o w1 G.below);clear G K;go_upto_region 4 with(go_at_call 23;refine E.o.mono ?_;rintro e' w2 ⟨rfl,a3⟩;have a4:=Hi (S.o.callB a3);clear a3)
 clear k0 k1 k2 k3 k4 k5 k6 E S;have d:=a4.o.alloc (.cells #[.pointer none,.slice none 0 0] 191);obtain⟨i,P⟩:=EN w2.heap.size;rw[<-P]at d;obtain⟨a6,a0⟩:=Hi2 d P;clear d P;go_upto_region 6 with(fail)
 rw[<-a0.o];refine a6.o.nameC ?_;clear a4 a6 a0;intro w3 d;obtain⟨k0,k1,k2,k3,k4,k5,k6⟩:=VD.of (m:=m) (rv:=.slice J m.runs.length a) d (jb _ jc);have Y:=xE U.o;have a8:=d.alloc (.cells (xg [m.o.width,m.o.chunks,m.o.mode,m.seq,m.next,m.journal,(m.runs.length:Int)]).toArray 3);have H:=Hi (YaZ w _ i w3.heap.size (.pointer none) (.slice none 0 0) [] [m.o.width,m.o.chunks,m.o.mode,m.seq,m.next,m.journal,(m.runs.length:Int)] [] [(C,.cells (mfV m (.slice J m.runs.length a)).toArray 64 (0,0))] (.inl rfl) (Rw.nil _ _) (a8.swap) (λn s=>Y n (by unfold Qz;exact jx _ s)) (by simp) (by simp) (by simp));unfold za xg at H;simp only[ju,Jt,jk,jA]at H;clear d a8 Y;go_upto_region 7 with(go_at_call 120;refine H.o.mono ?_;rintro e w4 p;obtain⟨rfl,q⟩:=p.o;have u:=Hi q;clear p q)
 clear H k0 k1 k2 k3 k4 k5 k6;obtain⟨v4,F4,R,a9⟩:=u.o;obtain⟨y,t⟩:=EN (vj [m.o.width,m.o.chunks,m.o.mode,m.seq,m.next,m.journal,(m.runs.length:Int)]);rw[jK,<-t]at R;have l:St w w4 (sbF i (za i) v4::(F4++[(C,.cells (mfV m (.slice J m.runs.length a)).toArray 64 (0,0))])):=a9.pmSub (D:=[(w3.heap.size,.cells #[OI m.o.width,OI m.o.chunks,OI m.o.mode,OI m.seq,OI m.next,OI m.journal,OI (m.runs.length:Int)] 3)]) CN;have k6:OV w4 C 6 (.slice J m.runs.length a):=l.tail.appR.cellH 6;obtain⟨Z,a5⟩:=Hi2 R l;obtain⟨ao,ap⟩:(m.runs.length:Int)<=(a:Int)/\(0:Int)<=(m.runs.length:Int):=by omega
 have an:y.length<=63:=by
  rw[t];exact QS (ns:=[m.o.width,m.o.chunks,m.o.mode,m.seq,m.next,m.journal,(m.runs.length:Int)]) (λn s=>(xE U.o n (by unfold Qz;exact jx _ s)).2)
 have X:=Hi t;clear R a9 l u t;go_upto_region 8 with(fail)
 go_loopw [39] (λiv wr=>∃(k:Nat) (v:Value) (F:va),k<=m.runs.length/\iv=OI (k:Int)/\Rw 5 1 v (y++vj (qj (m.runs.take k))).length (Vc (y++vj (qj (m.runs.take k)))) F/\St w wr (sbF i (za i) v::(F++[(C,.cells (mfV m (.slice J m.runs.length a)).toArray 64 (0,0))]))) (λiv _=>m.runs.length-(intOf iv).toNat)
 case atStart=>exact⟨0,v4,F4,jX _,rfl,by simpa [qj,vj] using Z.o,a5.o⟩
 case round =>
  clear k6 Z a5;obtain⟨k,v,F,hk,rfl,h,hS⟩:=hrel;have aq:(0:Int)<=(k:Int):=by omega
  have ab:(vj (qj (m.runs.take k))).length<=1000:=by
   refine jI (QS λn s=>?_) (by rw[zac,jN];omega);refine(xE U.o n ?_).2;unfold Qz;refine je _ ?_;unfold qj at s|-
   obtain⟨r,hr,s⟩:=JB.1 s;exact JB.2 ⟨r,UC hr,s⟩
  by_cases hlt:k<m.runs.length
  .obtain⟨g,o,c,hv,N⟩:=HR.o.fld Zo k hlt;injection hv with e1 e2 e3
   subst e1;subst e3;clear e2;have Q:∀n∈[m.runs[k].number,m.runs[k].lo,m.runs[k].hi,m.runs[k].count],0<=n/\n<=1152921504606846976:=λn s=>xE U.o n (by
    unfold Qz qj;exact je _ (JB.2 ⟨m.runs[k],Jc hlt,s⟩))
   have V:Hy (vj (qj (m.runs.take (k+1)))=vj (qj (m.runs.take k))++vj [m.runs[k].number,m.runs[k].lo,m.runs[k].hi,m.runs[k].count]):=Hi (by
    rw[jS hlt];unfold qj;rw[jD,VJ];simp)
   obtain⟨r,hr⟩:=NE (m.runs[k]);rw[hr]at N Q V;have cc:∀j x,(riV r)[j]?=some x->OV wr g (o+k*4+j) x:=λj x hx=>by
    have:=N j x hx;rw[<-j9]at this;exact hS.old this
   have d0:OV wr g (o+k*4) (OI r.number):=cc 0 _ rfl;have d1:OV wr g (o+k*4+1) (OI r.lo):=cc 1 _ rfl;have d2:OV wr g (o+k*4+2) (OI r.hi):=cc 2 _ rfl;have d3:OV wr g (o+k*4+3) (OI r.count):=cc 3 _ rfl;have aw:(k:Int)<(m.runs.length:Int):=by omega
   have b:=hS.alloc (.cells (riV r).toArray 141);obtain⟨z,O⟩:=EN wr.heap.size;rw[<-O]at b;obtain⟨M,a7,ah,ak⟩:=Hi4 b O h Q;clear cc N hS b O hr h Q;unfold riV at M;go_upto_region 10 with(fail)
   rw[<-a7.o];refine M.o.nameC ?_;clear M a7 d0 d1 d2 d3;intro T b;have d0:OV T z 0 (OI r.number):=b.cellH 0;have d1:OV T z 1 (OI r.lo):=b.cellH 1;have d2:OV T z 2 (OI r.hi):=b.cellH 2;have d3:OV T z 3 (OI r.count):=b.cellH 3;have a2:=b.alloc (.cells (xg [r.number,r.lo,r.hi,r.count]).toArray 3);have H:=Hi (YaZ w _ i T.heap.size (za i) v (y++vj (qj (m.runs.take k))) [r.number,r.lo,r.hi,r.count] F ((z,.cells #[OI r.number,OI r.lo,OI r.hi,OI r.count] 141)::[(C,.cells (mfV m (.slice (some ⟨g,o,none⟩) m.runs.length a)).toArray 64 (0,0))]) (.inr rfl) ah.o (a2.pm CN) ak.o (by simp) (by simp) (by rw[ja];omega));unfold za xg at H;simp only[ju,Jt,jk,jA]at H;clear a2 b;go_wp2_with (go_at_call 120;refine H.o.mono ?_;rintro e w6 p;obtain⟨rfl,q⟩:=p.o;have u:=Hi q;clear p q);obtain⟨v6,F6,aj,al⟩:=u.o;refine⟨⟨k+1,v6,F6,by omega,by go_num,?_,al.pmSub (D:=(T.heap.size,.cells #[OI r.number,OI r.lo,OI r.hi,OI r.count] 3)::[(z,.cells #[OI r.number,OI r.lo,OI r.hi,OI r.count] 141)]) λx=>by simp only[xa,ya,OI,OT,OQ,Ya];unfold za;omega⟩,by simp[intOf];omega⟩;rw[V.o,<-jE];exact aj
  .obtain rfl:k=m.runs.length:=by omega
   rw[J9]at h ab;have A:Hy (y++vj (qj m.runs)=qz m):=Hi (by rw[X.o,<-VJ];rfl);rw[A.o]at h;have av:=XZ U.o;have I:qz m≠[]:=by
    intro e;have h1:=A.o;rw[e]at h1;have h2:y=[]:=(Ka.1 h1).1;rw[X.o]at h2;simp only[vj,jB]at h2;exact VaP _ (Ka.1 h2).1
   have ae:=Hi (ZaZ w wr i (za i) v (qz m) F _ I h hS);have L:=Hi (λW (hb:Below w.heap.size w W)=>qam W 3 (qz m) (by decide) (by decide) (by omega) (HT.o.below hb (jm _)));have af:Hy (ve 3 (qz m)=mfB m):=Hi rfl;rw[af.o]at L;unfold za qa at ae;unfold qa at L|-
   clear h hS I;go_wp2_with (first
    |(go_at_call 124;refine MR ae.o λw7 ac=>?_)
    |(go_at_call 123;refine(L.o _ ac.o.below).mono ?_;rintro e' w8 ⟨rfl,a1⟩;have ai:=Hi (ac.o.callB a1).below;clear a1))
   go_ret2;exact⟨rfl,ai.o⟩
theorem yab(W0 w:World)(bd bm:Nat)(D:Dk)(M:va)(m:Mf)(rv:Value)(hm:m.good)(hD:Xa W0 bd bm D M w)(hf:D.Fits)(T:qe riV 4 w rv m.runs)(hc:zg W0):
  Calls prog 28 #[za bd,.agg (mfV m rv).toArray] w (qh W0 bd bm M (OI (D.store m).2) (D.store m).1):=by
 obtain⟨ad,H,ag,ah,ai,a4⟩:=id T;clear a4;subst ag;obtain⟨R,j⟩:=NE (D.store m);rw[j];unfold Dk.store at j;have t:Xb.length<=1000000:=by decide
 have aa:Yc.length<=1000000:=by decide
 have a3:(mfB m).length<=4611686018427387904:=by have:=vT hm;omega
 have hA:=hD.alloc (.cells (mfV m (.slice ad m.runs.length H)).toArray 64);obtain⟨C,hC⟩:=EN w.heap.size;rw[<-hC]at hA;obtain⟨HA,a8⟩:=Hi2 hA hC;have J:=Hi (λW hb=>Va9 W m (.slice ad m.runs.length H) hm (T.below (B:=w.heap.size) (w':=W) hb (jm _)) (hc.below ((hD.below).trans (Below.mono (w:=w) (w':=W) hb hD.sz)) (jm _)));clear hA hC hm T hD;obtain⟨L,ac⟩:=NE (mfB m);rw[ac]at a3 J j;clear ac;unfold mfV at HA J|-
 unfold za;go_enter func28,ntmps28;go_upto_region 1 with(fail)
 rw[<-a8.o];have ae:=Hi ((jU w.heap.size w).alloc (jm _) (.cells #[OI m.o.width,OI m.o.chunks,OI m.o.mode,OI m.seq,OI m.next,OI m.journal,.slice ad m.runs.length H] 64));have V:=Hi (J.o _ ae.o);obtain⟨w1,a1⟩:=NE (w.alloc (.cells #[OI m.o.width,OI m.o.chunks,OI m.o.mode,OI m.seq,OI m.next,OI m.journal,.slice ad m.runs.length H] 64));have a0:Xa W0 bd bm D ((C,.cells #[OI m.o.width,OI m.o.chunks,OI m.o.mode,OI m.seq,OI m.next,OI m.journal,.slice ad m.runs.length H] 64)::M) w1:=by rw[<-a1];exact HA.o
 rw[a1]at V|-
 clear HA a8 ae J a1;obtain⟨k0,k1,k2,k3,k4,k5,k6⟩:=VD.of (m:=m) (rv:=.slice ad m.runs.length H) a0.rest jc;have N:=Hi (XG w1 bd D.off a0.off);have a5:=Hi (a0.pmSub (M':=M) (X:=[(C,.cells #[OI m.o.width,OI m.o.chunks,OI m.o.mode,OI m.seq,OI m.next,OI m.journal,.slice ad m.runs.length H] 64)]) CN);unfold za Ret at N;clear a0;have Z:=V;unfold Vd at Z;clear V;cases hoff:D.off with
 |true =>
  rw[hoff]at N j;simp only[JV]at j;have u:=Hi j;clear j Z;go_wp2_with (go_at_call 24;refine MQ N.o ?_);go_ret;rw[<-u.o];exact⟨rfl,a5.o⟩
 |false =>
  rw[hoff]at N j;simp only[JD,Jb]at j;have S:=Hi (show Calls _ _ _ _ _ from Z.o);unfold qa at S;go_upto_region 6 with(first
   |(go_at_call 24;refine MQ N.o ?_)
   |(go_at_call 71;refine S.o.mono ?_;rintro d w9 ⟨rfl,a9⟩;have G:=Hi (a5.o.callB a9);clear a9))
  clear N S k0 k1 k2 k3 k4 k5 k6 a5;have s:=Hi (XN G.o Xb t);have U:=ZI G.o hf Xb t;have P:=Ys hf Xb;have K:(D.size Xb).2=D.look Xb:=by
   unfold Dk.size;cases hg:D.get Xb with
   |none=>rfl
   |some f=>simp only;split<;>rename_i h<;>simp_all
  obtain⟨⟨sz,se⟩,a7⟩:=NE (D.size Xb);rw[a7]at s K;simp only at s K;rw[<-K]at j;unfold Ret za qa at s;simp only[show Xb=[109,97,110,105,102,101,115,116,46,110,101,119]from rfl]at s;clear a7 K;by_cases hse:se=0
  .subst hse;simp only[JV]at j;obtain⟨⟨dd,xd⟩,ab⟩:=NE (D.delete Xb);rw[ab]at j U P;simp only at j U P;have F:=Hi U;unfold qh za qa at F;simp only[show Xb=[109,97,110,105,102,101,115,116,46,110,101,119]from rfl]at F;clear U ab;by_cases hxd:xd=0
   .subst hxd;simp only[JW,jW,Jb]at j;have E:=Hi (λW h=>VW (W0:=W0) (bd:=bd) (bm:=bm) (M:=M) (w:=W) (D:=dd) h P Xb t);have I:=Qu P Xb;have e:=Hi (λW h=>QW (W0:=W0) (bd:=bd) (bm:=bm) (M:=M) (w:=W) (D:=(dd.create Xb).1) h I Xb L t a3);have A:=zv I Xb L;have i:=Hi (λW h=>Vaj (W0:=W0) (bd:=bd) (bm:=bm) (M:=M) (w:=W) (D:=((dd.create Xb).1.append Xb L).1) h A Xb t);have k:=Hi (λW h=>ZI (W0:=W0) (bd:=bd) (bm:=bm) (M:=M) (w:=W) (D:=((dd.create Xb).1.append Xb L).1) h A Xb t);have Q:=QE A Xb;have b:=Hi (λW h=>Yaz (W0:=W0) (bd:=bd) (bm:=bm) (M:=M) (w:=W) (D:=(((dd.create Xb).1.append Xb L).1.sync Xb).1) h Q Xb Yc t aa);obtain⟨⟨d1,x1⟩,h1⟩:=NE (dd.create Xb);rw[h1]at E e i k b j;simp only at E e i k b j;obtain⟨⟨d2,Y⟩,h2⟩:=NE (d1.append Xb L);rw[h2]at e i k b j;simp only at e i k b j;obtain⟨⟨d3,x3⟩,h3⟩:=NE (d2.sync Xb);rw[h3]at i b j;simp only at i b j;obtain⟨⟨d4,x4⟩,h4⟩:=NE (d3.rename Xb Yc);rw[h4]at b j;simp only at b j;obtain⟨⟨d5,x5⟩,h5⟩:=NE (d2.delete Xb);rw[h5]at k j;simp only at k j;unfold qh za qa at E e i k b;simp only[show Xb=[109,97,110,105,102,101,115,116,46,110,101,119]from rfl]at E e i k b;unfold Yc at b;have y:=Hi j;clear h1 h2 h3 h4 h5 I A Q j;by_cases e1:x1=0
    .subst e1;by_cases e2:Y=0
     .subst e2;by_cases e3:x3=0
      .subst e3;have g:=y.o;simp only[JW,jW,Jb]at g;have u:=Hi g;clear g;go_wp2_with (first
        |(go_at_call 25;refine MQ s.o ?_)|(go_at_call 29;refine MR F.o λw6 z=>?_)
        |(go_at_call 69;refine MR (E.o _ z.o) λw2 l=>?_)
        |(go_at_call 72;refine MR (e.o _ l.o) λw3 q=>?_)
        |(go_at_call 73;refine MR (i.o _ q.o) λw4 v=>?_)
        |(go_at_call 74;refine MR (b.o _ v.o) λw5 a2=>?_))
       go_ret;rw[<-u.o];exact⟨rfl,a2.o⟩
      .have g:=y.o;simp only[JW,jW,Jb,e3,J6,JV]at g;have u:=Hi g;clear g;go_wp2_with (first
        |(go_at_call 25;refine MQ s.o ?_)|(go_at_call 29;refine MR F.o λw6 z=>?_)
        |(go_at_call 69;refine MR (E.o _ z.o) λw2 l=>?_)
        |(go_at_call 72;refine MR (e.o _ l.o) λw3 q=>?_)
        |(go_at_call 73;refine MR (i.o _ q.o) λw4 v=>?_))
       go_ret;rw[<-u.o];exact⟨rfl,v.o⟩
     .by_cases e45:Y=45
      .subst e45;have g:=y.o;simp only[JW,jW,Jb,e2,J6,JV]at g;have u:=Hi g;clear g;go_wp2_with (first
        |(go_at_call 25;refine MQ s.o ?_)|(go_at_call 29;refine MR F.o λw6 z=>?_)
        |(go_at_call 69;refine MR (E.o _ z.o) λw2 l=>?_)
        |(go_at_call 72;refine MR (e.o _ l.o) λw3 q=>?_))
       go_ret;rw[<-u.o];exact⟨rfl,q.o⟩
      .have g:=y.o;simp only[JW,jW,Jb,e2,e45,J6,JV]at g;have u:=Hi g;have af:(Y != 0)=true:=by simpa using e2
       have a6:(Y != 45)=true:=by simpa using e45
       clear g;go_wp2_with (first
        |(go_at_call 25;refine MQ s.o ?_)|(go_at_call 29;refine MR F.o λw6 z=>?_)
        |(go_at_call 69;refine MR (E.o _ z.o) λw2 l=>?_)
        |(go_at_call 72;refine MR (e.o _ l.o) λw3 q=>?_)
        |(go_at_call 29;refine MR (k.o _ q.o) λw4 v=>?_))
       go_ret;rw[<-u.o];exact⟨rfl,v.o⟩
    .have g:=y.o;simp only[JW,e1,J6,JV]at g;have u:=Hi g;clear g;go_wp2_with (first
        |(go_at_call 25;refine MQ s.o ?_)|(go_at_call 29;refine MR F.o λw6 z=>?_)
        |(go_at_call 69;refine MR (E.o _ z.o) λw2 l=>?_))
     go_ret;rw[<-u.o];exact⟨rfl,l.o⟩
   .have g:=j;simp only[JW,hxd,J6,JV]at g;have u:=Hi g;clear g j Z;go_wp2_with (first
     |(go_at_call 25;refine MQ s.o ?_)
     |(go_at_call 29;refine MR F.o λw6 z=>?_))
    go_ret;rw[<-u.o];exact⟨rfl,z.o⟩
  .simp only[hse,Jb,JW,jW]at j;clear U P;have E:=Hi (λW h=>VW (W0:=W0) (bd:=bd) (bm:=bm) (M:=M) (w:=W) (D:=D) h hf Xb t);have I:=Qu hf Xb;have e:=Hi (λW h=>QW (W0:=W0) (bd:=bd) (bm:=bm) (M:=M) (w:=W) (D:=(D.create Xb).1) h I Xb L t a3);have A:=zv I Xb L;have i:=Hi (λW h=>Vaj (W0:=W0) (bd:=bd) (bm:=bm) (M:=M) (w:=W) (D:=((D.create Xb).1.append Xb L).1) h A Xb t);have k:=Hi (λW h=>ZI (W0:=W0) (bd:=bd) (bm:=bm) (M:=M) (w:=W) (D:=((D.create Xb).1.append Xb L).1) h A Xb t);have Q:=QE A Xb;have b:=Hi (λW h=>Yaz (W0:=W0) (bd:=bd) (bm:=bm) (M:=M) (w:=W) (D:=(((D.create Xb).1.append Xb L).1.sync Xb).1) h Q Xb Yc t aa);obtain⟨⟨d1,x1⟩,h1⟩:=NE (D.create Xb);rw[h1]at E e i k b j;simp only at E e i k b j;obtain⟨⟨d2,Y⟩,h2⟩:=NE (d1.append Xb L);rw[h2]at e i k b j;simp only at e i k b j;obtain⟨⟨d3,x3⟩,h3⟩:=NE (d2.sync Xb);rw[h3]at i b j;simp only at i b j;obtain⟨⟨d4,x4⟩,h4⟩:=NE (d3.rename Xb Yc);rw[h4]at b j;simp only at b j;obtain⟨⟨d5,x5⟩,h5⟩:=NE (d2.delete Xb);rw[h5]at k j;simp only at k j;unfold qh za qa at E e i k b;simp only[show Xb=[109,97,110,105,102,101,115,116,46,110,101,119]from rfl]at E e i k b;unfold Yc at b;have y:=Hi j;clear h1 h2 h3 h4 h5 I A Q j;by_cases e1:x1=0
   .subst e1;by_cases e2:Y=0
    .subst e2;by_cases e3:x3=0
     .subst e3;have g:=y.o;simp only[JW,jW,Jb]at g;have u:=Hi g;clear g;go_wp2_with (first
       |(go_at_call 25;refine MQ s.o ?_)
       |(go_at_call 69;refine MR (E.o _ G.o) λw2 l=>?_)
       |(go_at_call 72;refine MR (e.o _ l.o) λw3 q=>?_)
       |(go_at_call 73;refine MR (i.o _ q.o) λw4 v=>?_)
       |(go_at_call 74;refine MR (b.o _ v.o) λw5 a2=>?_))
      go_ret;rw[<-u.o];exact⟨rfl,a2.o⟩
     .have g:=y.o;simp only[JW,jW,Jb,e3,J6,JV]at g;have u:=Hi g;clear g;go_wp2_with (first
       |(go_at_call 25;refine MQ s.o ?_)
       |(go_at_call 69;refine MR (E.o _ G.o) λw2 l=>?_)
       |(go_at_call 72;refine MR (e.o _ l.o) λw3 q=>?_)
       |(go_at_call 73;refine MR (i.o _ q.o) λw4 v=>?_))
      go_ret;rw[<-u.o];exact⟨rfl,v.o⟩
    .by_cases e45:Y=45
     .subst e45;have g:=y.o;simp only[JW,jW,Jb,e2,J6,JV]at g;have u:=Hi g;clear g;go_wp2_with (first
       |(go_at_call 25;refine MQ s.o ?_)
       |(go_at_call 69;refine MR (E.o _ G.o) λw2 l=>?_)
       |(go_at_call 72;refine MR (e.o _ l.o) λw3 q=>?_))
      go_ret;rw[<-u.o];exact⟨rfl,q.o⟩
     .have g:=y.o;simp only[JW,jW,Jb,e2,e45,J6,JV]at g;have u:=Hi g;have af:(Y != 0)=true:=by simpa using e2
      have a6:(Y != 45)=true:=by simpa using e45
      clear g;go_wp2_with (first
       |(go_at_call 25;refine MQ s.o ?_)
       |(go_at_call 69;refine MR (E.o _ G.o) λw2 l=>?_)
       |(go_at_call 72;refine MR (e.o _ l.o) λw3 q=>?_)
       |(go_at_call 29;refine MR (k.o _ q.o) λw4 v=>?_))
      go_ret;rw[<-u.o];exact⟨rfl,v.o⟩
   .have g:=y.o;simp only[JW,e1,J6,JV]at g;have u:=Hi g;clear g;go_wp2_with (first
       |(go_at_call 25;refine MQ s.o ?_)
       |(go_at_call 69;refine MR (E.o _ G.o) λw2 l=>?_))
    go_ret;rw[<-u.o];exact⟨rfl,l.o⟩
def mrF(rd:Nat)(b:Bs)(p:Nat):Nat × Obj:=(rd,.cells #[qa b,.int .i64 (p:Int),.int .i64 0] 224 (0,0))
def qo(cs:Array Value):List Nat->List Nat->Array Value
 |o::os,n::ns=>qo (cs.setIfInBounds o (.int .i64 (n:Int))) os ns
 |_,_=>cs
theorem qad:∀(os ns:List Nat) (cs:Array Value),(qo cs os ns).size=cs.size
 |o::os,n::ns,cs=>by rw[qo,qad os ns];simp
 |[],_,cs=>by simp[qo]
 |_::_,[],cs=>by simp[qo]
theorem Zad:∀(os ns:List Nat) (k:Nat) (cs:Array Value) (h1:k<os.length) (h2:k<ns.length),(qo cs (os.take k) (ns.take k)).setIfInBounds os[k] (OI ((ns[k]:Nat):Int))=qo cs (os.take (k+1)) (ns.take (k+1))
 |o::os,n::ns,0,cs,_,_=>by simp[qo]
 |o::os,n::ns,k+1,cs,h1,h2=>by
  simp only[UG,qo,List.getElem_cons_succ];exact Zad os ns k _ (by simpa using h1) (by simpa using h2)
 |[],_,_,_,h1,_=>by simp at h1
 |_::_,[],_,_,_,h2=>by simp at h2
theorem set7{u v w q s r t:Value}(h:St V W ((b,.cells #[u,v,w,q,s,r,t] T)::F))(g d e a f i c:Value):
  St V (((((((W.setCell ⟨b,0,none⟩ g).setCell ⟨b,1,none⟩ d).setCell ⟨b,2,none⟩ e).setCell ⟨b,3,none⟩ a).setCell ⟨b,4,none⟩ f).setCell ⟨b,5,none⟩ i).setCell ⟨b,6,none⟩ c) ((b,.cells #[g,d,e,a,f,i,c] T)::F):=by
 have k:=h.set 0 g;simp only[jf,ji,jj]at k;have m:=k.set 1 d;simp only[jf,ji,jj]at m;have j:=m.set 2 e;simp only[jf,ji,jj]at j;have o:=j.set 3 a;simp only[jf,ji,jj]at o;have l:=o.set 4 f;simp only[jf,ji,jj]at l;have n:=l.set 5 i;simp only[jf,ji,jj]at n;have p:=n.set 6 c;simp only[jf,ji,jj]at p;exact p
def Xx(C:Nat)(os:List Nat):List Value:=os.map λo=>.pointer (some ⟨C,o,none⟩)
def QX(W0:World)(rd C g:Nat)(b:Bs)(p:Nat)(cs:Array Value)(T:TypeId)(os:List Nat)(M:va)(e:Ending)(w':World):Prop :=
 e=.returned (.tuple #[])/\St W0 w' (mrF rd b p::(C,.cells cs T (0,0))::(g,.cells (Xx C os).toArray 226 (0,0))::M)
theorem zaB(rd C g:Nat)(b r:Bs)(p d:Nat)(z:Array Value)(T:TypeId)(a e:List Nat)(M:va)(hb:b.length<=1000000000)(hp:p<=b.length)(X:b.drop p=e.flatMap qb++r)(hl:a.length=e.length)(E:∀n∈e,n<=d)(hm:d<=1152921504606846976)(G:∀o∈a,o<z.size)(a7:a.length<=1000)
  (j:St U w (mrF rd b p::(C,.cells z T)::(g,.cells (Xx C a).toArray 226 (0,0))::M)) :
  Calls prog 150 #[za rd,.int .u64 (d:Int),.slice (some ⟨g,0,none⟩) a.length a.length] w (QX U rd C g b (p+(e.flatMap qb).length) (qo z a e) T a M):=by
 obtain⟨K,N,L,HD⟩:=Hi4 j E G X;obtain⟨ac,a8,aa,ab⟩:(0:Int)<=(a.length:Int)/\(a.length:Int)<=1000/\(0:Int)<=(d:Int)/\(d:Int)<=1152921504606846976:=by omega
 clear j E G X;unfold za;go_enter func150,ntmps150;go_wp2_with fail;go_loopw [13] (λiv wr=>∃(k q:Nat),k<=a.length/\iv=OI (k:Int)/\q<=b.length/\q=p+((e.take k).flatMap qb).length/\b.drop q=(e.drop k).flatMap qb++r/\St U wr (mrF rd b q::(C,.cells (qo z (a.take k) (e.take k)) T)::(g,.cells (Xx C a).toArray 226 (0,0))::M)) (λiv _=>a.length-(intOf iv).toNat)
 case atStart=>exact⟨0,p,jX _,rfl,hp,by simp,by rw[Ju];exact HD.o,by simpa [qo] using K.o⟩
 case round =>
  clear K HD;obtain⟨k,q,hk,rfl,Z,s,l,j⟩:=hrel;have a9:(0:Int)<=(k:Int):=by omega
  by_cases hlt:k<a.length
  .have i:k<e.length:=by omega
   have y:=j.tail.tail.cellH k;have ho:(Xx C a).toArray[k]?=some (.pointer (some ⟨C,a[k],none⟩)):=by simp[Xx,hlt]
   rw[ho]at y;have F:=L.o a[k] (Jc hlt);have R:=N.o e[k] (Jc i);rw[jR i,jB,jE]at l;have h:=Zad a e k z hlt i;have v:(e.take (k+1)).flatMap qb=(e.take k).flatMap qb++qb e[k]:=by
    rw[jS i,jD];simp
   obtain⟨n,hn⟩:=NE (e[k]);rw[hn]at R l h v;obtain⟨o,H⟩:=NE (a[k]);rw[H]at y F h;obtain⟨O,_,S⟩:=Zs Z l;have f:=λW=>Yau W b q (by omega) Z
   rw[l,yJ n _ (by have:(2:Nat)^64=18446744073709551616:=by decide
                   omega)]at f
   simp only[vam]at f;have V:=Hi f;obtain⟨J,I⟩:=NE (q+(qb n).length);rw[I]at V O S;have t:J=p+((e.take (k+1)).flatMap qb).length:=by rw[v,ja];omega
   have u:=Hi (jy t (jy O S));obtain⟨x,hx⟩:∃x,(qo z (a.take k) (e.take k))[o]?=some x:=⟨_,U3 (by rw[qad];exact F)⟩;obtain⟨HX,D⟩:=Hi2 hx h;unfold mrF at j;obtain⟨a0,a1,a2⟩:=j.k3 0 1 2;have a6:(k:Int)<(a.length:Int):=by omega
   have a4:IntKind.i64.wrap (n:Int)=(n:Int):=J1 _ (by omega);have a5:¬ ((d:Int)<(n:Int)):=by omega
   have a3:(0:Int)<=(n:Int):=by omega
   have B:=Hi (λm=>j.drewN m);clear j h v l hn H f I t O S hx ho s;unfold qa at *;go_upto_region 4 with(fail)
   go_quiet ((go_at_call 216;exact Ret.quiet (V.o _)));have c:=B.o nq;refine c.nameE (P:=prog) ?_;clear a0 a1 a2 V B y c;intro A c;have c1:OV A C o x:=(c.tail.cellH o).trans HX.o;have f1:=c.tail.freeH o;have c2:=c.cellH 1;have f2:=c.freeH 1;have c3:=c.cellH 2;have f3:=c.freeH 2;have n1:rd≠C:=(c.ne (x:=(C,_)) jc).symm;have n2:C≠rd:=n1.symm;have Q:=Hi (((c.swap.set o (OI (n:Int))).swap.set 1 (OI (J:Int))).set 2 (OI 0));clear c;go_wp2_with fail;refine⟨⟨k+1,J,by omega,by go_num,u.o.2.2,u.o.1,u.o.2.1,?_⟩,by simp[intOf];omega⟩;rw[<-D.o];exact Q.o
  .obtain rfl:k=a.length:=by omega
   have h1:a.take a.length=a:=J9;have Y:e.take a.length=e:=by rw[hl];exact J9
   rw[h1,Y]at j;rw[Y]at s;obtain⟨K,HQ⟩:=Hi2 j s;clear j l s;go_wp2_with fail;go_end0;rw[<-HQ.o];exact⟨rfl,K.o⟩
def Zak(W0:World)(bd bm:Nat)(D:Dk)(M:va)(l:List Bs)(e:Ending)(w':World):Prop:=∃v F,e=.returned v/\Rw 9 1 v l.length (l.map qa) F/\Xa W0 bd bm D (F++M) w'
theorem Qa9(D:Dk)(M:va)(e:D.Wf)(a:D.off=false)(m:Xa U q c D M w):
  Calls prog 65 #[za q] w (Zak U q c D M D.names):=by
 have p:=m.off;rw[a]at p;obtain⟨j,l,f,i⟩:=m;have k:=Hi (Vbe U w q c j l D M e f i);have n:=Hi f;unfold Qaq at k;clear i f e a;unfold za at *;go_enter func65,ntmps65;go_wp2_with (go_at_call 113;refine k.o.mono ?_;rintro u t ⟨s,r,rfl,d,b⟩;obtain⟨h,g⟩:=Hi2 d b;clear d b);go_ret;exact⟨_,r,rfl,h.o,j,l,n.o,g.o.pm CN⟩
def stC(s:Bs):List Value:=[.string ⟨s.toArray⟩]
theorem VaH(s:Bs):(stC s).length=1:=rfl
theorem ybi(t:TypeId)(a b:Bs)(W:World):(binOp .eql t (OT a) (OT b)).run prog W=.ok (.bool (decide (a=b))) W:=by
 rw[KX];have:((ByteArray.mk a.toArray).toList==(ByteArray.mk b.toArray).toList)=decide (a=b):=by
  rw[JR,JR];rw[kj];simp
 first
  |rw[this];rfl
  |(simp[JR]at *;rfl)
def QaH(l:List Bs)(s:Bs)(w:World)(e:Ending)(w':World):Prop:=∃r:Int,e=.returned (.int .i64 r)/\w=w'/\(0<=r<->s∈l)
theorem zba(v:Value)(l:List Bs)(s:Bs)(d:qe stC 1 w v l):Calls prog 117 #[v,OT s] w (QaH l s w):=by
 have I:=Hi d;obtain⟨M,n,rfl,L,y,_⟩:=d;have C:(l.length:Int)<=(n:Int):=by omega
 have H:(l.length:Int)<=9223372036854775807:=by unfold maxLen at y;omega
 clear y;have m:=Hi (λ(b:Bs) W=>ybi 9 s b W);go_enter func117,ntmps117;go_upto_region 2 with fail
 go_loopw [8] (λiv wr=>∃(k:Nat),k<=l.length/\iv=OI (k:Int)/\(∀j,j<k->∀h:j<l.length,l[j]≠s)/\wr=w) (λiv _=>l.length-(intOf iv).toNat)
 case atStart=>exact⟨0,jX _,rfl,λj h=>by omega,rfl⟩
 case round =>
  obtain⟨k,K,rfl,z,rfl⟩:=hrel;have B:=Hi z;clear z;have G:(0:Int)<=(k:Int):=by omega
  by_cases hlt:k<l.length
  .have E:(k:Int)<(l.length:Int):=by omega
   obtain⟨g,o,c,J,f⟩:=I.o.fld VaH k hlt;injection J with e1 e2 e3
   subst e1;subst e3;clear e2;have a:l[k]∈l:=Jc hlt;have F:=Hi a;obtain⟨p,q⟩:=NE (l[k]);rw[q]at f;have N:wr.cell? ⟨g,o+k,none⟩=some (OT p):=by have:=f 0 _ rfl;simpa using this
   have D:=Hi q;have A:=m.o p;clear f q a;by_cases e:s=p
   .have x:(s==p)=true:=by simp[e]
    have t:((ByteArray.mk s.toArray).toList==(ByteArray.mk p.toArray).toList)=true:=by rw[JR,JR];simpa using e
    rw[U6 e]at A;have u:=Hi e;clear e;go_wp2_with fail;go_ret;refine⟨(k:Int),rfl,rfl,?_⟩;have i:=F.o;rw[D.o,<-u.o]at i;exact⟨λ_=>i,λ_=>by omega⟩
   .have x:(s==p)=false:=by simp[e]
    have t:((ByteArray.mk s.toArray).toList==(ByteArray.mk p.toArray).toList)=false:=by rw[JR,JR];simpa using e
    rw[J8 e]at A;have u:=Hi e;clear e;go_wp2_with fail;refine⟨⟨k+1,by omega,by go_num,λj r h=>?_,by trivial⟩,by simp[intOf];omega⟩;by_cases ej:j=k
    .subst ej;rw[D.o];exact λh=>u.o h.symm
    .exact B.o j (by omega) h
  .obtain rfl:k=l.length:=by omega
   go_wp2_with fail;go_ret;refine⟨-1,rfl,rfl,?_⟩;constructor
   .intro h;omega
   .intro i;obtain⟨j,r,e⟩:=kH i;exact absurd e (B.o j r r)
theorem YaE(v:Value)(l:List Bs)(s:Bs)(a:qe stC 1 w v l):Calls prog 67 #[v,OT s] w (Ret (.bool (decide (s∈l))) w):=by
 have g:=Hi (zba w v l s a);unfold QaH at g;have j:=Hi (show decide (s∈l)=decide (s∈l)from rfl);obtain⟨R,d⟩:=NE (decide (s∈l));rw[d];have k:=Hi d;obtain⟨p,i,rfl,_⟩:=a;clear d j;go_enter func67,ntmps67;go_wp2_with (go_at_call 117;refine g.o.mono ?_;rintro n m ⟨r,rfl,rfl,e⟩;have c:=Hi e;clear e);go_ret;refine⟨?_,rfl⟩;have f:=c.o;have b:=k.o;by_cases q:0<=r
 .rw[U6 (f.1 q)]at b;subst b;simp[q]
 .rw[J8 (λh=>q (f.2 h))]at b;subst b;simp[q]
def QI(w:World):Prop:=∃m,w.cell? ⟨0,0,none⟩=some (.int .i64 m)
theorem QI.below{w w':World}(h:QI w){B:Nat}(c:Below B w w')(b:w.heap.size<=B):QI w':=by
 obtain⟨m,a⟩:=h;exact⟨m,(c.cell (JG (jM w _ a) b)).trans a⟩
theorem XaZ(h:∀c∈s,c≠46):Lib.index (s++46::t) [46]=(s.length:Int):=by
 induction s with
 |nil=>simp[Lib.index]
 |cons c r ih =>
  have d:=ih (λx g=>h x (jb _ g));have f:=h c jc;simp only[jO];unfold Lib.index;rw[d];have:([46]:Bs).isPrefixOf (c::(r++46::t))=false:=by
   simp only[List.isPrefixOf,Bool.and_true];simpa using λe=>f e.symm
  rw[this];simp
theorem xbi{a b:Bs}(h:∀c∈a,c≠46):Lib.cut (a++46::b) [46]=(a,b,true):=by
 unfold Lib.cut;rw[XaZ h,jh (by omega)];simp
theorem Y6(n:Nat)(k i:Int)(l:k<=n)(p:(n:Int)<=i)(a:n<=1099511627776)(m:vi w):Calls prog 115 #[.string ⟨(Lib.itoa (n:Int)).toArray⟩,OI k,OI i] w (Vd (OI (n:Int)) w):=by
 have v:=Zq (n:=n) a;have c:=zb (Lib.itoa (n:Int));have g:=Hi (strconv_Atoi_ok ⟨(Lib.itoa (n:Int)).toArray⟩ (by rw[c];omega) (n:Int) (by simpa using Vbc n a) w);have e:=Hi (λ(W:World) (hb:Below w.heap.size w W)=>Q9 W n a (m.below hb (jm _)));have j:=Hi (λW=>qI W (n:Int) k i l p);have s:∀W,(binOp .neq 193 .nilIface .nilIface).run prog W=.ok (.bool false) W:=λ_=>rfl
 obtain⟨S,u⟩:=NE (Lib.itoa (n:Int));rw[u]at g e|-
 obtain⟨z,r⟩:=NE ((n:Int));rw[r]at g e j|-
 unfold Ret at j;unfold Vd qa at e;have h:=Hi (λt=>Lib.bytesWorld_below w 5 t);clear v c u r l p a m;go_enter func115,ntmps115;go_upto_region 2 with(go_at_call 190;refine g.o.mono ?_;rintro q x ⟨rfl,a⟩;have b:Hy (Below w.heap.size w x):=Hi (by rcases a with rfl|⟨t,rfl⟩<;>first|exact jU _ _|exact h.o t);clear a)
 go_wp2_with (first
  |(go_at_call 78;refine(e.o _ b.o).mono ?_;rintro q A ⟨rfl,d⟩;have f:=Hi (b.o.trans (d.mono b.o.size));clear d)
  |(go_at_call 58;refine MQ (j.o _) ?_))
 go_ret;exact⟨rfl,f.o⟩
def Vau(s:Bs):Prop:=s=Yc\/s=Xb\/(∃n,1<=n/\n<=1099511627776/\s=Qa n)\/∃n j,1<=n/\n<=1099511627776/\j<128/\s=Ve n j
def yaB(k:Int × Int × Int)(w:World)(e:Ending)(w':World):Prop:=e=.returned (.tuple #[.int .i64 k.1,.int .i64 k.2.1,.int .i64 k.2.2])/\Below w.heap.size w w'
theorem ybo(s:Bs)(Z:Vau s)(u:vi w)(l:QI w):Calls prog 66 #[OT s] w (yaB (ZC s) w):=by
 rcases Z with rfl|rfl|⟨n,G,t,rfl⟩|⟨n,j,G,t,V,rfl⟩
 .rw[qaR];clear u l;unfold Yc;go_enter func66,ntmps66;go_wp2_with fail;refine jP (v:=.tuple #[OI 1,OI 0,OI 0]) (by simp[results,results66,go_sem]) rfl ⟨rfl,jU _ _⟩
 .rw[ZaR];clear u l;rw[show Xb=[109,97,110,105,102,101,115,116,46,110,101,119]from rfl];go_enter func66,ntmps66;go_wp2_with fail;refine jP (v:=.tuple #[OI 2,OI 0,OI 0]) (by simp[results,results66,go_sem]) rfl ⟨rfl,jU _ _⟩
 .rw[YaR G t];have p:=Hi (Y6 w n 1 1099511627776 (by omega) (by omega) t u);have q:=Hi ((strings_CutPrefix ⟨(Qa n).toArray⟩ ⟨#[106]⟩ w).mono λe D h=>jy h.1 h.2.symm);unfold Qa at *;obtain⟨S,J⟩:=NE (Lib.itoa (n:Int));rw[J]at p q|-
  have F:Lib.trimPrefix ((106:UInt8)::S) [106]=S:=by simp[Lib.trimPrefix,Lib.hasPrefix]
  have A:Lib.hasPrefix ((106:UInt8)::S) [106]=true:=by simp[Lib.hasPrefix]
  simp only[show(#[106]:Array UInt8).toList=[106]from rfl,Kw,F,A]at q;obtain⟨z,H⟩:=NE ((n:Int));rw[H]at p|-
  have K:1<=z:=by omega
  unfold Vd at p;clear J H G t u l F A;go_enter func66,ntmps66;go_wp2_with (first
   |(go_at_call 114;refine MQ q.o ?_)
   |(go_at_call 115;refine MR p.o λY c=>?_))
  refine jP (v:=.tuple #[OI 3,OI z,OI 0]) (by simp[results,results66,go_sem]) rfl ⟨rfl,c.o⟩
 .rw[XaR G t V];have p:=Hi (λ(W:World) (hb:Below w.heap.size w W)=>Y6 W n 1 1099511627776 (by omega) (by omega) t (u.below hb (jm _)));have k:=Hi (λ(W:World) (hb:Below w.heap.size w W)=>Y6 W j 0 127 (by omega) (by omega) (by omega) (u.below hb (jm _)));have q:=Hi ((strings_CutPrefix ⟨(Ve n j).toArray⟩ ⟨#[106]⟩ w).mono λe D h=>jy h.1 h.2.symm);have f:=Hi ((strings_CutPrefix ⟨(Ve n j).toArray⟩ ⟨#[114]⟩ w).mono λe D h=>jy h.1 h.2.symm);obtain⟨m,U⟩:=l;have L:=Zq (n:=n) t;have N:=Zq (n:=j) (by omega);have d:=Hi (strings_Cut ⟨(Lib.itoa (n:Int)++46::Lib.itoa (j:Int)).toArray⟩ ⟨#[46]⟩ m w (by rw[zb];simp;omega) U);have g:=xbi (a:=Lib.itoa (n:Int)) (b:=Lib.itoa (j:Int)) (xR n);unfold Ve at *;have C:(Lib.itoa (n:Int))≠[]:=by rw[zG];exact Val n
  obtain⟨S,J⟩:=NE (Lib.itoa (n:Int));rw[J]at p q f d g C|-
  obtain⟨T,P⟩:=NE (Lib.itoa (j:Int));rw[P]at k q f d g|-
  obtain⟨r,E⟩:=NE (S++46::T);rw[E]at q f d g|-
  have A:Lib.hasPrefix ((114:UInt8)::r) [106]=false:=by simp[Lib.hasPrefix,List.isPrefixOf]
  have F:Lib.trimPrefix ((114:UInt8)::r) [106]=114::r:=by unfold Lib.trimPrefix;rw[A];rfl
  have R:Lib.hasPrefix ((114:UInt8)::r) [114]=true:=by simp[Lib.hasPrefix]
  have O:Lib.trimPrefix ((114:UInt8)::r) [114]=r:=by simp[Lib.trimPrefix,Lib.hasPrefix]
  simp only[show(#[106]:Array UInt8).toList=[106]from rfl,show(#[46]:Array UInt8).toList=[46]from rfl,show(#[114]:Array UInt8).toList=[114]from rfl,Kw,F,A,R,O,g]at q f d;obtain⟨z,H⟩:=NE ((n:Int));rw[H]at p|-
  obtain⟨y,Q⟩:=NE ((j:Int));rw[Q]at k|-
  obtain⟨K,a0⟩:1<=z/\0<=y:=by omega
  unfold Vd at p k;clear J P E H Q G t u U F A R O g L N C V;go_enter func66,ntmps66;go_wp2_with (first
   |(go_at_call_of 114 (Value.string {data:=#[106]});refine MQ q.o ?_)
   |(go_at_call_of 114 (Value.string {data:=#[114]});refine MQ f.o ?_)
   |(go_at_call 116;refine d.o.mono ?_;rintro B w2 ⟨rfl,X,rfl⟩;have x:=Hi (show Below w.heap.size w (w.drewN X)from yj (jU _ _) X))
   |(go_at_call_of 115 (Value.int IntKind.i64 1099511627776);refine(p.o _ x.o).mono ?_;rintro B Y ⟨rfl,i⟩;have c:=Hi (x.o.trans (i.mono x.o.size));clear i)
   |(go_at_call_of 115 (Value.int IntKind.i64 127);refine(k.o _ c.o).mono ?_;rintro B w4 ⟨rfl,I⟩;have M:=Hi (c.o.trans (I.mono c.o.size));clear I))
  refine jP (v:=.tuple #[OI 4,OI z,OI y]) (by simp[results,results66,go_sem]) rfl ⟨rfl,M.o⟩
end Go.Proofs.YtekkihmmclencaaGreatDoor
