import Derived.Test.YtekkihmmclencaaGreatDoorM35
namespace Go.Proofs.YtekkihmmclencaaGreatDoor
set_option linter.all false
set_option maxRecDepth 100000
set_option maxHeartbeats 40000000
open Tryz
open Go Go.RowKit Go.Sort Go.Shelf
variable(U w:World)(q c:Nat)(J:Kp)(h:KpH)(M:va){W V:World}{n k:Nat}{s:Bs}{x:Int}{T:TypeId}{P:Program}
def xal(K:Kp)(kind:Int):Kp × Int:=if kind=8 then K.sync else if kind=10 then K.number else(K,0)
theorem qaI(x:OpH)(M:va)(p:KOk J)(L:0<=J.m.next)(s:Za U q c J h M w)(h9:x.kind≠9)(T:x.kind≠11):
  Calls prog 12 #[za h.b,za q,.agg x.cells.toArray] w (zd U q c h.b M (xal J x.kind)):=by
 have j:=Hi (λ(N:va) W (hW:Za U q c J h N W)=>Ybg U W q c J h N p hW);have i:=Hi (λ(N:va) W (hW:Za U q c J h N W)=>VaX U W q c J h N p L hW);have D:=s.alloc (.cells x.cells.toArray 40);obtain⟨C,u⟩:=EN w.heap.size;rw[<-u]at D;have r:=Hi (show xal J x.kind=if x.kind=8 then J.sync else if x.kind=10 then J.number else(J,0)from rfl);obtain⟨R,P⟩:=NE (xal J x.kind);rw[P]at r|-
 obtain⟨a,n,m,e,⟨G,z,H⟩,A,B,E⟩:=x;obtain⟨I,O⟩:=Hi2 D u;clear D u s p L P;unfold OpH.cells at *;unfold zd zao at *;unfold za at *;simp only at *;go_enter func12,ntmps12;go_upto_region 1 with fail
 rw[<-O.o];refine I.o.nameC ?_;clear I O;intro Q s;have Z:=s.limbs.tail.cellH 0;have F:=Hi s;clear s;by_cases k8:a=8
 .subst k8;have f:=r.o;rw[jh rfl]at f;have g:=Hi (j.o _ _ F.o);rw[<-f]at g;clear f j i r;go_wp2_with (go_at_call 34;refine g.o.mono ?_;rintro S Y ⟨rfl,v,t,d⟩;obtain⟨l,k⟩:=Hi2 t d;clear t d);go_ret;exact⟨rfl,v,l.o,k.o.pmSub (X:=[(C,.cells #[OI 8,OI n,OI m,OT e,OI G,OI z,OI H,A,B,.bool E] 40)]) CN⟩
 .by_cases k10:a=10
  .subst k10;have f:=r.o;rw[jd (by decide),jh rfl]at f;have g:=Hi (i.o _ _ F.o);rw[<-f]at g;clear f j i r;go_wp2_with (go_at_call 36;refine g.o.mono ?_;rintro S Y ⟨rfl,v,t,d⟩;obtain⟨l,k⟩:=Hi2 t d;clear t d)
   all_goals(
    go_ret;exact⟨rfl,v,l.o,k.o.pmSub (X:=[(C,.cells #[OI 10,OI n,OI m,OT e,OI G,OI z,OI H,A,B,.bool E] 40)]) CN⟩)
  .have f:=r.o;rw[jd k8,jd k10]at f;have V:=Hi f;clear f j i r;go_wp2_with fail;go_ret;rw[V.o];exact⟨rfl,h,rfl,F.o.pmSub (X:=[(C,.cells #[OI a,OI n,OI m,OT e,OI G,OI z,OI H,A,B,.bool E] 40)]) CN⟩
theorem XaB(K K':Kp)(er:Int)(h:KpH)(x:OpH)(M:va)(k:Za U q c K h M w)(h9:x.kind=11)(Q:K.runs.length<=1000000)
  (Z:∀W N,Za U q c K h N W->Calls prog 35 #[za h.b,za q,OI (x.n%18446744073709551616%((K.runs.length:Int)+1))] W (zd U q c h.b N (K',er))) :
  Calls prog 12 #[za h.b,za q,.agg x.cells.toArray] w (zd U q c h.b M (K',er)):=by
 have p:h.rs.length=K.runs.length:=by have:=jT List.length k.1.runs;simpa using this
 have r:=Hi Z;have J:=k.alloc (.cells x.cells.toArray 40);obtain⟨C,D⟩:=EN w.heap.size;rw[<-D]at J;obtain⟨a3,n,m,j,⟨ow,oc,om⟩,ps,cu,dn⟩:=x;simp only at h9;subst h9;obtain⟨l,hl⟩:=NE K.runs.length;rw[hl]at r Q p;have E:=Hi (λ(N:va) (W:World) (hW:Za U q c K h N W)=>show Calls prog 20 #[OQ h.b] W (λe Y=>∃a d F,e=.returned (.slice a l d)/\Za U q c K h (F++N) Y)from by
  refine(XT U W q c K h N hW (by omega)).mono ?_;rintro e Y ⟨v,F,rfl,hR,hS⟩;rw[jz,p]at hR;obtain⟨a,d,rfl,_⟩:=hR.form;exact⟨a,d,F,rfl,hW.call hS⟩)
 obtain⟨HA,HC⟩:=Hi2 J D;clear J D k Z p hl;unfold OpH.cells at *;unfold zd at *;unfold za at *;simp only at *;go_enter func12,ntmps12;go_upto_region 1 with fail
 rw[<-HC.o];refine HA.o.nameC ?_;clear HA HC;intro T k;obtain⟨a0,a1⟩:=k.limbs.tail.k2 0 1;have G:=Hi k.drew;have O:=Hi (λ(F:va) (W:World) (hW:Za U q c K h (F++((C,.cells #[OI 11,OI n,OI m,OT j,OI ow,OI oc,OI om,ps,cu,.bool dn] 40)::M)) W)=>show OV W C 1 (OI n)from hW.limbs.tail.appR.cellH 1);obtain⟨a7,ae⟩:(0:Int)<=(l:Int)/\(l:Int)<=1000000:=by omega
 obtain⟨i,R⟩:=NE (IntKind.u64.wrap n);have g:i=n%18446744073709551616:=by rw[<-R,Kn]
 obtain⟨t,a2⟩:0<=i/\i<=18446744073709551615:=by omega
 obtain⟨f,hq⟩:∃f:Int,(l:Int)+1=f:=⟨_,rfl⟩;obtain⟨a6,I,af⟩:1<=f/\0<f/\f<=1000001:=by omega
 have H:¬ (f=0):=by omega
 have ah:(f==0)=false:=by simp;omega
 have ad:wrap64 f=f:=Uv _ (by omega);have a4:IntKind.u64.wrap f=f:=IntWalk.u64_in _ (by omega);have aa:0<=i%f:=Int.emod_nonneg _ H;have ac:i%f<f:=Int.emod_lt_of_pos _ I;have a5:wrap64 (i%f)=i%f:=Uv _ (by omega);have ag:i.tmod f=i%f:=Jw t;rw[<-g,hq]at r;have ab:IntKind.i64.wrap f=f:=J1 _ (by omega);have ai:IntKind.i64.wrap (i%f)=i%f:=J1 _ (by omega);have a9:f%18446744073709551616=f:=by omega
 have V:n%18446744073709551616=i:=g.symm;have z:¬ (i=n%18446744073709551616->False):=λh=>h g
 have a8:=Hi g;clear g z;clear k;go_upto_region 8 with fail
 go_region_held3 (λW=>W.cell? ⟨C,1,none⟩=some (.int .i64 n)) (first
  |with_reducible exact P.o
  |with_reducible exact O.o _ _ B.o
  |(go_keep;done)) (first
  |(go_at_call 20;(with_reducible refine(E.o _ _ G.o).mono ?_);rintro e' w2 ⟨a,d,F,rfl,A⟩;have B:=Hi A;clear A)
  |(go_at_call 35;(with_reducible refine(r.o _ _ B.o).mono ?_);rintro e' w3 ⟨rfl,h3,e3,s⟩;have L:=Hi e3;have P:=Hi (show OV w3 C 1 (OI n)from s.limbs.tail.appR.cellH 1);have S:=Hi s;clear e3 s))
 go_wp2_with fail;go_ret;exact⟨rfl,h3,L.o,S.o.pmSub (X:=F++[(C,.cells #[OI 11,OI n,OI m,OT j,OI ow,OI oc,OI om,ps,cu,.bool dn] 40)]) CN⟩
theorem xag(K D:Kp)(r:Int)(h:KpH)(x:OpH)(M:va)(a:Za U q c K h M w)(A:x.kind=9)
  (z:∀W N,Za U q c K h N W->Calls prog 19 #[za h.b] W λe w'=>∃t,e=.returned (.tuple #[.bool t,OI r])/\∃h',h'.b=h.b/\Za U q c D h' N w') :
  Calls prog 12 #[za h.b,za q,.agg x.cells.toArray] w (zd U q c h.b M (D,r)):=by
 have g:=Hi z;have k:=a.alloc (.cells x.cells.toArray 40);obtain⟨C,i⟩:=EN w.heap.size;rw[<-i]at k;obtain⟨B,n,m,f,⟨L,G,O⟩,H,I,J⟩:=x;simp only at A;subst A;obtain⟨s,v⟩:=Hi2 k i;clear k i a z;unfold OpH.cells at *;unfold zd at *;unfold za at *;simp only at *;go_enter func12,ntmps12;go_upto_region 1 with fail
 rw[<-v.o];refine s.o.nameC ?_;clear s v;intro E a;have Q:=a.limbs.tail.cellH 0;have j:=Hi (g.o _ _ a);clear a g;go_wp2_with (go_at_call 19;refine j.o.mono ?_;rintro P R ⟨t,rfl,F,u,d⟩;obtain⟨p,l⟩:=Hi2 u d;clear u d);go_ret;exact⟨rfl,F,p.o,l.o.pmSub (X:=[(C,.cells #[OI 9,OI n,OI m,OT f,OI L,OI G,OI O,H,I,.bool J] 40)]) CN⟩
theorem Ybb(j k l g:Nat)(K B:Kp)(h:KpH)(M:va)(c:K.past≠[])(m:K.past.length<=1000000)
  (d:∀W N,Za U j k K h N W->Calls prog 49 #[za h.b] W (zd U j k h.b N (B,0)))
  (e:Za U j k K h ((g,.cells #[.bool false] 4)::(l,.cells #[za h.b] 29)::M) w) :
  Calls prog 48 #[za l,za g] w (zd U j k h.b ((g,.cells #[.bool true] 4)::M) (B,0)):=by
 have z:=e.1.prow;obtain⟨O,L,f,s,q,_⟩:=z.form;have E:OV w l 0 (za h.b):=e.limbs.tail.tail.cellH 0;have u:OV w h.b 12 h.pv:=e.limbs.cellH 12;rw[f]at u;obtain⟨n,t⟩:=NE K.past.length;have G:0<n:=by rw[<-t];exact JI.2 c
 rw[t]at u m;have D:(0:Int)<(n:Int):=by omega
 have F:((n:Int)==0)=false:=by simp;omega
 have i:=Hi (d w _ e);unfold zd at i;unfold zd;obtain⟨b,v⟩:=NE h.b;rw[v]at E u i|-
 clear t c d e z f s q v;unfold za at *;simp only at i;go_enter func48,ntmps48;go_wp2_with (go_at_call 49;refine i.o.mono ?_;rintro I A ⟨rfl,C,x,a⟩;have J:=a.limbs.tail.cellH 0;have H:=a.limbs.tail.freeH 0;have r:=Hi x;have p:=Hi (a.set 0 (.bool true));clear x a);go_ret;exact⟨rfl,C,r.o,p.o.pmSub (X:=[(l,.cells #[OQ b] 29)]) λy=>by simp only[jf,ji,ya,OI,OT,OQ,Ya];omega⟩
def V7(W0:World)(bd bm b:Nat)(M:va)(K':Kp)(e:Ending)(w':World):Prop:=e=.returned (.tuple #[.bool true,.int .i64 0])/\∃h,h.b=b/\Za W0 bd bm K' h M w'
theorem Xbb(K i:Kp)(h:KpH)(M:va)(a:KOk K)(j:K.past≠[])(r:i.gone=false)
  (k:∀W N,Za U q c K h N W->Calls prog 49 #[za h.b] W (zd U q c h.b N (i,0)))
  (t:Za U q c K h M w) :
  Calls prog 19 #[za h.b] w (V7 U q c h.b M i):=by
 have z:∀(fn:Fn) (first cap:Array Value) (w:World),(Instr.makeFunc fn first cap).run prog w=.ok (.func fn first cap) w:=λ_ _ _ _=>rfl
 have e:=(t.alloc (.cells #[za h.b] 29)).alloc (.cells #[.bool false] 4);simp only[jF]at e;obtain⟨b2,f⟩:=EN w.heap.size;rw[<-f]at e;have l:=Hi (λW (hW:Za U q c K h ((b2+1,.cells #[.bool false] 4)::(b2,.cells #[za h.b] 29)::M) W)=>zF U W q c K i h 0 _ ((b2+1,.cells #[.bool true] 4)::M) 48 #[za b2,za (b2+1)] (λ_ _=>rfl) hW a.gone a.off a.age λD A=>Ybb U D q c b2 (b2+1) K i h M j (by have:=a.past;omega) k A);have d:({i with gone:=decide ((0:Int)=45)}:Kp)=i:=by
  rw[show decide ((0:Int)=45)=false from by decide,<-r]
 rw[d]at l;unfold V7;obtain⟨u,s⟩:=Hi2 e f;clear e f t a j r d k;unfold zd at l;simp only at l;unfold za at *;go_enter func19,ntmps19;go_upto_region 2 with(fail)
 rw[<-s.o];refine u.o.nameC ?_;clear u s;intro p e;have F:=e.limbs.tail.tail.cellH 0;have n:=Hi (l.o p e);clear e l;go_wp2_with (go_at_call 47;refine n.o.mono ?_;rintro E C ⟨rfl,x,v,g⟩;have B:=Hi v;have G:=g.limbs.tail.cellH 0;have m:=Hi g;clear v g);go_ret2;exact⟨rfl,x,B.o,m.o.pmSub (X:=[(b2+1,.cells #[.bool true] 4)]) CN⟩
theorem Vbb(k l e i:Nat)(K:Kp)(h:KpH)(M:va)(a:K.past=[])
  (c:Za U k l K h ((i,.cells #[.bool false] 4)::(e,.cells #[za h.b] 29)::M) w) :
  Calls prog 48 #[za e,za i] w (zd U k l h.b ((i,.cells #[.bool false] 4)::M) (K,0)):=by
 have j:=c.1.prow;obtain⟨r,q,d,g,f,_⟩:=j.form;have p:=c.limbs.tail.tail.cellH 0;have m:OV w h.b 12 h.pv:=c.limbs.cellH 12;rw[d,a,jA]at m;have n:=Hi c;clear a c j d g f;unfold zd;unfold za at *;go_enter func48,ntmps48;go_wp2_with fail;go_ret;exact⟨rfl,h,rfl,n.o.pmSub (X:=[(e,.cells #[OQ h.b] 29)]) CN⟩
theorem ya1(a:KOk J)(j:J.past=[])
  (s:Za U q c J h M w) :
  Calls prog 19 #[za h.b] w (λe v=>e=.returned (.tuple #[.bool false,OI 0])/\∃l,l.b=h.b/\Za U q c J l M v):=by
 have z:∀(fn:Fn) (first cap:Array Value) (w:World),(Instr.makeFunc fn first cap).run prog w=.ok (.func fn first cap) w:=λ_ _ _ _=>rfl
 have f:=(s.alloc (.cells #[za h.b] 29)).alloc (.cells #[.bool false] 4);simp only[jF]at f;obtain⟨b2,g⟩:=EN w.heap.size;rw[<-g]at f;have k:=Hi (λW (hW:Za U q c J h ((b2+1,.cells #[.bool false] 4)::(b2,.cells #[za h.b] 29)::M) W)=>zF U W q c J J h 0 _ ((b2+1,.cells #[.bool false] 4)::M) 48 #[za b2,za (b2+1)] (λ_ _=>rfl) hW a.gone a.off a.age λA l=>Vbb U A q c b2 (b2+1) J h M j l);have d:({J with gone:=decide ((0:Int)=45)}:Kp)=J:=by
  rw[show decide ((0:Int)=45)=false from by decide,<-a.gone]
 rw[d]at k;obtain⟨t,r⟩:=Hi2 f g;clear f g s a j d;unfold zd at k;simp only at k;unfold za at *;go_enter func19,ntmps19;go_upto_region 2 with(fail)
 rw[<-r.o];refine t.o.nameC ?_;clear t r;intro p f;have E:=f.limbs.tail.tail.cellH 0;have n:=Hi (k.o p f);clear f k;go_wp2_with (go_at_call 47;refine n.o.mono ?_;rintro D C ⟨rfl,x,u,i⟩;have B:=Hi u;have F:=i.limbs.tail.cellH 0;have m:=Hi i;clear u i);go_ret2;exact⟨rfl,x,B.o,m.o.pmSub (X:=[(b2+1,.cells #[.bool false] 4)]) CN⟩
theorem VaB(n:Inv J)(l:Xp J)(E:J.d.Fits)(e:J.past≠[])(k:J.runs.length<24)(B:Za U q c J h M w)(x:vi U)(O:zg U):
  ∃a,J.flush=(a,0)/\Inv a/\a.d.Fits/\a.P=J.P/\a.past=[]/\a.m.o=J.m.o/\a.m.seq=J.seq/\a.m.next=J.m.next+2/\a.all.length+a.past.length<=J.held/\a.d.cap=J.d.cap/\a.d.age=J.d.age/\a.runs.length=J.runs.length+1 /\
   Calls prog 19 #[za h.b] w (V7 U q c h.b M a):=by
 obtain⟨a,s,p,u,G,H,z,I,A,v,F,g⟩:=Z1 n l e k;obtain⟨C,i,t,r,j,L,D⟩:=Zao.of U n l E e k;have f:a=Q6 J i r:=by
  have:=s.symm.trans D;exact(UI this).1
 refine⟨a,s,p,by rw[f];exact L,u,G,H,z,I,A,v,F,g,?_⟩;refine Xbb U w q c J a h M j.hok e p.gone (λW N y=>?_) B;rw[f];exact ya0 U W q c J h N C i t r j y x O
theorem xaF(l:24<=J.runs.length)(e:Za U q c J h M w):
  Calls prog 49 #[za h.b] w (zd U q c h.b M (J,152)):=by
 have a:h.rs.length=J.runs.length:=by have:=jT List.length e.1.runs;simpa using this
 obtain⟨p,r,d,g,i,_⟩:=e.1.rrow.form;have f:OV w h.b 10 h.rsv:=e.limbs.cellH 10;rw[d,a]at f;obtain⟨n,j⟩:=NE J.runs.length;rw[j]at f l;have k:(24:Int)<=(n:Int):=by omega
 have m:=Hi e;clear e d g i j a;unfold zd;unfold za at *;go_enter func49,ntmps49;go_wp2_with fail;go_ret;exact⟨rfl,h,rfl,m.o⟩
theorem xa1(j k l g:Nat)(K:Kp)(h:KpH)(M:va)(c:K.past≠[])(m:K.past.length<=1000000)
  (d:∀W N,Za U j k K h N W->Calls prog 49 #[za h.b] W (zd U j k h.b N (K,152)))
  (e:Za U j k K h ((g,.cells #[.bool false] 4)::(l,.cells #[za h.b] 29)::M) w) :
  Calls prog 48 #[za l,za g] w (zd U j k h.b ((g,.cells #[.bool false] 4)::M) (K,152)):=by
 have z:=e.1.prow;obtain⟨L,J,f,s,q,_⟩:=z.form;have D:OV w l 0 (za h.b):=e.limbs.tail.tail.cellH 0;have u:OV w h.b 12 h.pv:=e.limbs.cellH 12;rw[f]at u;obtain⟨n,t⟩:=NE K.past.length;have F:0<n:=by rw[<-t];exact JI.2 c
 rw[t]at u m;have C:(0:Int)<(n:Int):=by omega
 have E:((n:Int)==0)=false:=by simp;omega
 have i:=Hi (d w _ e);unfold zd at i;unfold zd;obtain⟨b,v⟩:=NE h.b;rw[v]at D u i|-
 clear t c d e z f s q v;unfold za at *;simp only at i;go_enter func48,ntmps48;go_wp2_with (go_at_call 49;refine i.o.mono ?_;rintro H A ⟨rfl,B,x,a⟩;have I:=a.limbs.tail.cellH 0;have G:=a.limbs.tail.freeH 0;have r:=Hi x;have p:=Hi (a.set 0 (.bool false));clear x a);go_ret;exact⟨rfl,B,r.o,p.o.pmSub (X:=[(l,.cells #[OQ b] 29)]) λy=>by simp only[jf,ji,ya,OI,OT,OQ,Ya];omega⟩
theorem xaP(a:KOk J)(j:J.past≠[])(v:24<=J.runs.length)
  (t:Za U q c J h M w) :
  Calls prog 19 #[za h.b] w (λe z=>e=.returned (.tuple #[.bool false,OI 152])/\∃l,l.b=h.b/\Za U q c J l M z):=by
 have B:∀(fn:Fn) (first cap:Array Value) (w:World),(Instr.makeFunc fn first cap).run prog w=.ok (.func fn first cap) w:=λ_ _ _ _=>rfl
 have f:=(t.alloc (.cells #[za h.b] 29)).alloc (.cells #[.bool false] 4);simp only[jF]at f;obtain⟨b2,g⟩:=EN w.heap.size;rw[<-g]at f;have k:=Hi (λW (m:Za U q c J h ((b2+1,.cells #[.bool false] 4)::(b2,.cells #[za h.b] 29)::M) W)=>zF U W q c J J h 152 _ ((b2+1,.cells #[.bool false] 4)::M) 48 #[za b2,za (b2+1)] (λ_ _=>rfl) m a.gone a.off a.age λC l=>xa1 U C q c b2 (b2+1) J h M j (by have:=a.past;omega) (λW N m=>xaF U W q c J h N v m) l);have d:({J with gone:=decide ((152:Int)=45)}:Kp)=J:=by
  rw[show decide ((152:Int)=45)=false from by decide,<-a.gone]
 rw[d]at k;obtain⟨u,s⟩:=Hi2 f g;clear f g t a j v d;unfold zd at k;simp only at k;unfold za at *;go_enter func19,ntmps19;go_upto_region 2 with(fail)
 rw[<-s.o];refine u.o.nameC ?_;clear u s;intro r f;have G:=f.limbs.tail.tail.cellH 0;have p:=Hi (k.o r f);clear f k;go_wp2_with (go_at_call 47;refine p.o.mono ?_;rintro F E ⟨rfl,A,x,i⟩;have D:=Hi x;have H:=i.limbs.tail.cellH 0;have n:=Hi i;clear x i);go_ret2;exact⟨rfl,A,D.o,n.o.pmSub (X:=[(b2+1,.cells #[.bool false] 4)]) CN⟩
theorem Qbb(x:OpH)(M:va)(l:List Pr)(i:Nat)(n:Qg J l i)(O:i<=3000)(t:J.d.Fits)(y:Za U q c J h M w)(A:x.kind=9)(G:vi U)(R:zg U):
  ∃k e,(e=0\/e=152)/\Qg k l (i+1)/\k.d.Fits/\k.m.o=J.m.o/\k.seq=J.seq /\
   Calls prog 12 #[za h.b,za q,.agg x.cells.toArray] w (zd U q c h.b M (k,e)):=by
 obtain⟨k,e,B,I,C,D,v⟩:=Qax n O;have z:=n.small (by omega);have u:=KOk.of n.inv z t;by_cases hp:J.past=[]
 .have p:J.flush=(J,0):=by
   unfold Kp.flush;exact QJ n.inv (by decide) (by rw[jh hp])
  obtain⟨a,f⟩:=UI (B.symm.trans p);subst a;subst f;refine⟨_,0,.inl rfl,C,t,D,v,xag U w q c _ _ 0 h x M y A λW N r=>?_⟩;refine(ya1 U W q c _ h N u hp r).mono ?_;rintro e E ⟨rfl,s,g,j⟩;exact⟨false,rfl,s,g,j⟩
 .by_cases hr:24<=J.runs.length
  .have p:J.flush=(J,152):=by
    unfold Kp.flush;exact QJ n.inv (by decide) (by rw[jd hp];unfold Kp.flushed;rw[jh hr])
   obtain⟨a,f⟩:=UI (B.symm.trans p);subst a;subst f;refine⟨_,152,.inr rfl,C,t,D,v,xag U w q c _ _ 152 h x M y A λW N r=>?_⟩;refine(xaP U W q c _ h N u hp hr r).mono ?_;rintro e E ⟨rfl,s,g,j⟩;exact⟨false,rfl,s,g,j⟩
  .obtain⟨S,Y,V,X,_,Q,F⟩:=Zao.of U n.inv z t hp (by omega);obtain⟨a,f⟩:=UI (B.symm.trans F);refine⟨k,e,I,C,by rw[a];exact Q,D,v,?_⟩;rw[f];refine xag U w q c J k 0 h x M y A λW N r=>?_
   obtain⟨T,P,_,_,_,_,_,_,_,_,_,_,_,L⟩:=VaB U W q c J h N n.inv z t hp (by omega) r G R;have H:=(UI (P.symm.trans F)).1;rw[a,<-H];refine L.mono ?_;rintro e E ⟨rfl,s,g,j⟩;exact⟨true,rfl,s,g,j⟩
theorem ybj(u:Up)(M:va)(l:List Pr)(i:Nat)(g:Qg J l i)(z:i<=3000)(j:J.d.Fits)(k:u.kind=1\/u.kind=2)(f:u.code.length<=4611686018427387904)(e:u.kind=2->u.code=[])(v:Za U q c J h M w)(y:zg U):
  ∃a,a.m=J.m/\a.d.Fits/\(Ql l u J.m.o.width≠0->a=J)/\(Ql l u J.m.o.width=0->Qg a (qG l u) (i+1)/\a.seq=J.seq+1) /\
   Calls prog 10 #[za h.b,.agg (upV u).toArray] w (zd U q c h.b M (a,Ql l u J.m.o.width)):=by
 obtain⟨a,r,x,s,t⟩:=Vat g z k e;have p:=qbg U w q c J h u M y (KOk.of g.inv (g.small (by omega)) j) k f e v;have n:=Y7 j u;rw[r]at p n;exact⟨a,x,n,s,t,p⟩
theorem zbc(x:OpH)(M:va)(l:List Pr)(i:Nat)(f:Qg J l i)(A:i<=3000)(g:J.d.Fits)(z:Za U q c J h M w)(y:x.kind≠9)(r:x.kind≠11):
  ∃e,Qg e l (i+1)/\e.d.Fits/\e.m.o=J.m.o/\e.seq=J.seq /\
   Calls prog 12 #[za h.b,za q,.agg x.cells.toArray] w (zd U q c h.b M (e,0)):=by
 have B:=f.inv.good.n0;have a:=qaI U w q c J h x M (KOk.of f.inv (f.small (by omega)) g) (by omega) z y r;unfold xal at a;by_cases h8:x.kind=8
 .rw[jh h8]at a;obtain⟨e,j,p,k,n⟩:=yaD f;have s:=QaO g;rw[j]at a s;exact⟨e,p,s,k,n,a⟩
 .rw[jd h8]at a;by_cases h10:x.kind=10
  .rw[jh h10]at a;obtain⟨e,j,p,k,n⟩:=Qat f A;obtain⟨C,t,_,_,_,_,_,v⟩:=ZM f.inv (f.small (by omega));have u:=(UI (j.symm.trans t)).1;rw[j]at a;exact⟨e,p,by rw[u,v];exact g,k,n,a⟩
  .rw[jd h10]at a;exact⟨J,f.mono (by omega),g,rfl,rfl,a⟩
theorem va1(x:OpH)(M:va)(l:List Pr)(i:Nat)(k:Qg J l i)(D:i<=3000)(s:J.d.Fits)(p:Za U q c J h M w)(e:x.kind=11)
  (g:∀W N,Za U q c J h N W->Calls prog 35 #[za h.b,za q,OI 0] W (zd U q c h.b N (J,0)))
  (j:∀(n:Nat) (a:Kp),1<=n->n<=J.runs.length->J.merge n=(a,0)->a.d.Fits/\∀W N,Za U q c J h N W->Calls prog 35 #[za h.b,za q,OI (n:Int)] W (zd U q c h.b N (a,0))) :
  ∃a,Qg a l (i+1)/\a.d.Fits/\a.m.o=J.m.o/\a.seq=J.seq /\
   Calls prog 12 #[za h.b,za q,.agg x.cells.toArray] w (zd U q c h.b M (a,0)):=by
 have A:=k.inv.runsLen;obtain⟨n,r⟩:∃n:Nat,x.n%18446744073709551616%((J.runs.length:Int)+1)=(n:Int):=by
  have B:=Int.emod_nonneg (x.n%18446744073709551616) (show((J.runs.length:Int)+1)≠0 by omega);exact⟨(x.n%18446744073709551616%((J.runs.length:Int)+1)).toNat,by omega⟩
 have hlt:n<=J.runs.length:=by
  have B:=Int.emod_lt_of_pos (x.n%18446744073709551616) (show 0<(J.runs.length:Int)+1 by omega);omega
 by_cases h0:n=0
 .subst h0;exact⟨J,k.mono (by omega),s,rfl,rfl,XaB U w q c J J 0 h x M p e (by omega) λW N f=>by rw[r];exact g W N f⟩
 .obtain⟨a,v,C,y,z⟩:=zay k D (n:=n) (by omega) hlt;obtain⟨u,t⟩:=j n a (by omega) hlt v;exact⟨a,C,u,y,z,XaB U w q c J a 0 h x M p e (by omega) λW N f=>by rw[r];exact t W N f⟩
theorem qa1(m:J.runs.length<=24)(g:Za U q c J h M w):
  Calls prog 35 #[za h.b,za q,OI 0] w (zd U q c h.b M (J,0)):=by
 have i:h.rs.length=J.runs.length:=by have:=jT List.length g.1.runs;simpa using this
 have j:=Hi (show Calls prog 20 #[OQ h.b] w (λe l=>∃a L d F,e=.returned (.slice a L d)/\Za U q c J h (F++M) l)from by
  refine(XT U w q c J h M g (by omega)).mono ?_;rintro e l ⟨v,F,rfl,n,p⟩;obtain⟨a,d,rfl,_⟩:=n.form;exact⟨a,_,d,F,rfl,g.call p⟩)
 clear g i m;unfold zd;unfold za at *;go_enter func35,ntmps35;go_wp2_with (go_at_call 20;refine j.o.mono ?_;rintro t s ⟨a,L,d,r,rfl,f⟩;have k:=Hi f;clear f);go_ret;exact⟨rfl,h,rfl,k.o.pmSub (X:=r) CN⟩
theorem Za1(x:OpH)(M:va)(l:List Pr)(i:Nat)(e:Qg J l i)(z:i<=3000)(k:J.d.Fits)(t:Za U q c J h M w)(j:x.kind=11)(u:vi U)(y:zg U):
  ∃a,Qg a l (i+1)/\a.d.Fits/\a.m.o=J.m.o/\a.seq=J.seq /\
   Calls prog 12 #[za h.b,za q,.agg x.cells.toArray] w (zd U q c h.b M (a,0)):=by
 refine va1 U w q c J h x M l i e z k t j (λW N f=>qa1 U W q c J h N e.inv.runsLen f) λn a A g p=>?_
 have s:=e.next;obtain⟨v,r⟩:=zaP.of e.inv (e.small (by omega)) (by omega) k A g p;exact⟨r,λW N f=>Zbb U W q c J a h n N v u y f⟩
section
attribute [local go_sem] Oper.semAt_some
def Xl(l:List Up)(k:Nat):Up:=l.getD k ⟨0,0,0,[]⟩
def atK(l:List Up)(k:Nat):Nat:=(vf (l.take k)).length
def vag(l:List Up)(k:Nat):List Value:=[.int .i64 (Xl l k).kind,qa (Zt (Xl l k)),.int .i64 (atK l k:Int)]
def vaP(l:List Up)(k:Nat):Array Value:=#[.agg (vag l k).toArray,.int .i64 (atK l (k+1):Int)]
theorem QaB(l:List Up):atK l 0=0:=by simp[atK,vf]
theorem zaC(a b:List Up):vf (a++b)=vf a++vf b:=by simp[vf]
theorem Ya1(l:List Up)(k:Nat):atK l k<=(vf l).length:=by
 have h:vf l=vf (l.take k)++vf (l.drop k):=by rw[<-zaC,Ja]
 unfold atK;rw[h,ja];omega
theorem yaC(l:List Up)(k:Nat)(tail:Bs):(vf l++tail).drop (atK l k)=vf (l.drop k)++tail:=by
 have h:vf l=vf (l.take k)++vf (l.drop k):=by rw[<-zaC,Ja]
 unfold atK;rw[h,jE,UV]
theorem ybc{l:List Up}(h:k<l.length):atK l (k+1)=atK l k+((Zt (Xl l k)).length+14):=by
 have e:Xl l k=l[k]:=by unfold Xl;rw[JJ,jt h];rfl
 unfold atK;rw[jS h,zaq,ja,e];show _+(ve _ _).length=_;rw[zh]
theorem ZaI(l:List Up)(h:l.length<=k):atK l k=(vf l).length:=by unfold atK;rw[Ji h]
theorem xbc{l:List Up}(h:k<l.length)(a:∀u∈l,u.fit n)(b:n<=128)(tail:Bs):yg ((vf l++tail).drop (atK l k))=.ok (Xl l k).kind.toNat (Zt (Xl l k)) ((Zt (Xl l k)).length+14):=by
 have e:Xl l k=l[k]:=by unfold Xl;rw[JJ,jt h];rfl
 have c:=a _ (Jc h);have f:=Qaw c b;have g:=c.k;rw[yaC,jR h,e];have d:vf (l[k]::l.drop (k+1))++tail=upB l[k]++(vf (l.drop (k+1))++tail):=by
  show(upB l[k]++vf _)++tail=_;rw[jE]
 rw[d];exact vS _ _ _ (by omega) (by omega) (by omega)
theorem xaC{l:List Up}(h:k<l.length)(a:∀u∈l,u.fit n):(Xl l k).fit n:=by
 have e:Xl l k=l[k]:=by unfold Xl;rw[JJ,jt h];rfl
 rw[e];exact a _ (Jc h)
theorem Xa1{l:List Up}(h:yg s=.bad x):yg ((vf l++s).drop (atK l l.length))=.bad x:=by
 rw[yaC,Uz];exact h
theorem Q7{β:Type}{J:β->World->Prop}(h:AbidesFrom n J){s:β}(b:J s W)(a:Below W.heap.size W V):J s V :=
 h s W V none b ⟨a.os,a.tape,a.output,a.size,λk c _=>a.block k c⟩ (λr e=>by cases e)
theorem qaP(m:Nat)(hm:1<=m)(l K:Nat)(a:List Up)(tail:Bs)(w8:Nat)(q:∀u∈a,u.fit w8)(a8:w8<=128)(a9:(vf a++tail).length<=1000000000)(ad:∃e,yg tail=.bad e/\e≠0)(J Jx:List Nat->World->Prop)
  (hY:∀pre (x:Nat) W,J pre W->pre.length<a.length->YieldAt Fence.wide (m-1) prog l (vaP a (min x (a.length-1))) W λe M =>
   (e=.returned (.bool true)/\J (pre++[x]) M/\zi [K,4] W M)\/(e=.returned (.bool false)/\Jx (pre++[x]) M))
  (W:World) (V:AbidesFrom W.heap.size J) (c1:W.cell? ⟨K,0,none⟩=some (qa (vf a++tail))) (ht:zg W) (h0:J [] W) :
  CallsIn Fence.wide m prog 217 #[.func (.yield l) #[] #[],Xh K] W λe M=>(∃v,e=.returned v) /\
   ((∃ys,ys=List.range a.length/\J ys M)\/(∃pre,pre <+: List.range a.length/\Jx pre M)):=by
 obtain⟨b,H⟩:=NE (vf a++tail);have r:=Hi (λk=>show atK a k<=b.length from by rw[<-H,ja];have:=Ya1 a k;omega);have t:=Hi (λk (h:k<a.length)=>show yg (b.drop (atK a k))=.ok (Xl a k).kind.toNat (Zt (Xl a k)) ((Zt (Xl a k)).length+14)from by rw[<-H];exact xbc h q a8 tail);have s:=Hi (λk (h:k<a.length)=>xaC h q);obtain⟨x,hx,a6⟩:=ad;have U:=Hi (show yg (b.drop (atK a a.length))=.bad x from by rw[<-H];exact Xa1 hx);rw[H]at a9 c1;have ak:=zb b;obtain⟨n,hn⟩:=NE a.length;rw[hn]at t s U hY|-
 have C:=Hi (λk (h:k<n)=>show atK a (k+1)=atK a k+((Zt (Xl a k)).length+14)from ybc (by rw[hn];exact h));have ab:tail.length=b.length-atK a n:=by rw[<-H,<-hn,ZaI a (jm _),ja];omega
 have Q:∀b∈[K,4],b<W.heap.size:=by
  intro y B;simp only[jp,JF,UF]at B;rcases B with rfl|rfl
  .exact jM W _ c1
  .exact jM W _ (ht 0 (by decide))
 obtain⟨ae,HT,P,HY⟩:=Hi4 Q ht V hY;clear H hn hx Q ht V hY q ab;unfold Xh;unfold qa at c1;refine callsIn_of_wp func217 rfl trivial ?_ rfl;simp only[ntmps217,J2,jk,jA,Nat.reduceAdd,Nat.reduceSub,UD,UE,UP,UH,jK,jO]
 gi_wp2
 gi_loopw [3] (λav wr=>∃k:Nat,k<=n/\av=.int .i64 (atK a k:Int)/\J (List.range k) wr/\zi [K,4] W wr) (λav _=>b.length-(intOf av).toNat)
 case atStart=>exact⟨0,jX _,by rw[QaB];rfl,h0,zi.refl _ _⟩
 case round =>
  obtain⟨k,hk,rfl,I,Y⟩:=hrel;have d1:wr.cell? ⟨K,0,none⟩=some (.string ⟨b.toArray⟩):=(Y.cell (by simp)).trans c1;have w:zg wr:=λi hi=>(Y.cell (b:=4) (by simp)).trans (HT.o i hi)
  obtain⟨A,L⟩:=NE (atK a k);have a7:A<=b.length:=by rw[<-L];exact r.o k
  have g:=Hi (Qam wr b A (by omega) a7 w);have al:(0:Int)<=(A:Int):=by omega
  have aj:(b.length:Int)<=1000000000:=by omega
  rw[L];by_cases hlt:k<n
  .have G:=t.o k hlt;have j:=C.o k hlt;have a2:=s.o k hlt;have O:=r.o (k+1);have d:=HY.o (List.range k) k;rw[show min k (n-1)=k by omega]at d;unfold vaP vag at d;rw[L]at G j d;unfold Yu at g;rw[G]at g;have N:((Xl a k).kind.toNat:Int)=(Xl a k).kind:=by have:=a2.k;omega
   unfold ZT at g;simp only at g;rw[N]at g;obtain⟨A2,p⟩:=NE (atK a (k+1));rw[p]at j O d;rw[<-j]at g;obtain⟨pp,X⟩:=NE (Zt (Xl a k));obtain⟨kd,S⟩:=NE ((Xl a k).kind);rw[X]at g d j;rw[S]at g d;have R:=Hi (λ(W2:World) (c:Below wr.heap.size wr W2)=>d W2 (Q7 P.o I c) (by rw[Uh];exact hlt));obtain⟨HK,HJ,HC⟩:=Hi3 Y I w;have ai:A<b.length:=by rw[j]at O;omega
   have a4:(A:Int)<(b.length:Int):=by omega
   have a1:b.length-(A2:Int).toNat<b.length-(A:Int).toNat:=by rw[j];omega
   obtain⟨ac,a5⟩:=Hi2 a1 p;unfold qa at g R;clear a1 p Y I w a2 G d N X S j t s C r L
   gi_wp2_with (first|(refine⟨trivial,?_⟩;gi_at_call 149;refine(JZ.2 g.o).mono ?_;rintro e w2 ⟨rfl,c⟩;obtain⟨fn,ah,a3,ag,B,hR⟩:=R.o w2 c;obtain⟨D,HR⟩:=Hi2 c hR;clear c hR))
   refine HR.o.mono ?_;rintro e W3 (⟨rfl,a0,T⟩|⟨rfl,z⟩)
   .have F:=Hi a0;have aa:=Hi ((HK.o.trans (zi.below D.o (λy B=>JG (ae.o y B) HK.o.1))).trans T);clear a0 T B HR
    gi_wp2
    go_roundw
    case rel=>exact⟨k+1,by omega,by rw[a5.o],by rw[Ue];exact F.o,aa.o⟩
    case measure=>simp[intOf];have:=ac.o;simpa using this
   .have F:=Hi z;clear z B HR
    gi_wp2
    refine jP (Kt rfl _ _ _) rfl ?_;exact⟨⟨_,rfl⟩,.inr ⟨List.range (k+1),⟨(List.range n).drop (k+1),by
      have:List.range (k+1)=(List.range n).take (k+1):=by simp[Ku,Uy (show k+1<=n by omega)]
      rw[this,Ja]⟩,by rw[Ue];exact F.o⟩⟩
  .obtain rfl:k=n:=by omega
   unfold Yu at g;have E:=U.o;rw[L]at E;rw[E]at g;have am:(x != 0)=true:=by simpa using a6
   have HJ:=Hi I;have Z:=Hi (λ(W2:World) (c:Below wr.heap.size wr W2)=>Q7 P.o I c);unfold ZT at g;simp only at g;unfold qa at g;clear I Y w E t s C r HY L;by_cases hq:A<b.length
   .have af:(A:Int)<(b.length:Int):=by omega
    gi_wp2_with (first|(refine⟨trivial,?_⟩;gi_at_call 149;refine(JZ.2 g.o).mono ?_;rintro e w2 ⟨rfl,c⟩;have D:=Hi c;clear c))
    refine⟨λf hf=>(by cases hf),?_⟩
    gi_wp2
    refine jP (Kt rfl _ _ _) rfl ?_;exact⟨⟨_,rfl⟩,.inl ⟨_,rfl,Z.o _ D.o⟩⟩
   .have af:¬ (A:Int)<(b.length:Int):=by omega
    gi_wp2
    go_end0;exact⟨⟨_,rfl⟩,.inl HJ.o⟩
theorem vaC(o:1<=c)(d:Nat)(a:List Up)(tail:Bs)(f:Nat)(b:∀u∈a,u.fit f)(j:f<=128)(g:(vf a++tail).length<=1000000000)(i:∃e,yg tail=.bad e/\e≠0)(w:World)
  (n:OV w d 0 (qa (vf a++tail))) (s:zg w) :
  SeqStopsK Fence.wide c prog 217 #[Xh d] (λx=>vaP a (min x (a.length-1))) (zi [d,4]) (λq=>q=List.range a.length) (λpre=>pre <+: List.range a.length) a.length w:=λl J t W k h _ v r =>
 qaP c o l d a tail f b j g i J t v W h ((k.cell (p:=⟨d,0,none⟩) (jM w _ n)).trans n) (s.below k (jm _)) r
theorem vbc(s:Bs):Calls prog 153 #[qa s] w λe a=>e=.returned (.func (.func 217) #[] #[Xh w.heap.size])/\a=w.alloc (.cells #[qa s] 9):=by
 have b:∀(fn:Fn) (first cap:Array Value) (w:World),(Instr.makeFunc fn first cap).run prog w=.ok (.func fn first cap) w:=λ_ _ _ _=>rfl
 go_enter func153,ntmps153;go_wp2_with fail;go_ret;exact⟨rfl,rfl⟩
end
theorem ZaP{w:World}(c:P.underlying T=some .string)(s:ByteArray)(l:Nat)(d:l<=s.size):
  (Instr.slice T (.string s) (some (OI (l:Int))) none none).run P w=.ok (.string (s.extract l s.size)) w:=by
 have a:¬ ((l:Int)<0):=by omega
 have b:¬ ((s.size:Int)<(l:Int)):=by omega
 simp[Instr.slice,UB c,Instr.sliceBounds,run_sliceBound, *]
theorem qbc(b:Bs)(n:Nat):(ByteArray.mk b.toArray).extract n (ByteArray.mk b.toArray).size=⟨(b.drop n).toArray⟩:=by
 apply Kf;simp[kk,U1,ByteArray.size];exact Ji (by simp)
theorem Va1(u:Up)(f:Nat)(hu:u.fit f)(h0:0<f)(h1:f<=128):Calls prog 154 #[OI u.kind,qa (Zt u),OI ((8*f:Nat):Int)] w (Vd (.tuple #[.agg (upV u).toArray,OI 0]) w):=by
 obtain⟨s1,s2,e,i0,i1,H,I⟩:=hu;have O:=(St.refl w).alloc (.cells #[OI 0,OI 0,OI 0,.string ⟨#[]⟩] 35);obtain⟨C,L⟩:=EN w.heap.size;rw[<-L]at O;obtain⟨HA,Y⟩:=Hi2 O L;obtain⟨Z,k,ui,b⟩:=u;simp only at s1 s2 e i0 i1 H I;obtain⟨s,rfl⟩:∃s:Nat,Z=(s:Int):=⟨Z.toNat,by omega⟩;obtain⟨i,rfl⟩:∃i:Nat,ui=(i:Int):=⟨ui.toNat,by omega⟩;have a3:b.length<=128:=by
  rcases e with h|h
  .rw[H h];exact h1
  .rw[I h];simp
 have a4:(2:Nat)^64=18446744073709551616:=by decide
 have J:vz (Zt ⟨(s:Int),k,(i:Int),b⟩) 0 0=.ok s (qb s).length:=by unfold Zt;simp only[JL];exact yJ _ _ (by omega)
 have t:(Zt ⟨(s:Int),k,(i:Int),b⟩).drop (qb s).length=qb i++b:=by unfold Zt;simp only[JL];rw[UV]
 have R:vz (qb i++b) 0 0=.ok i (qb i).length:=yJ _ _ (by omega);have F:(Zt ⟨(s:Int),k,(i:Int),b⟩).drop ((qb s).length+(qb i).length)=b:=by rw[<-U4,t,UV]
 have G:(Zt ⟨(s:Int),k,(i:Int),b⟩).length=(qb s).length+(qb i).length+b.length:=by unfold Zt;simp only[JL,ja];omega
 have l1:=zu s (by omega);have l2:=zu i (by omega);obtain⟨K,m⟩:=NE ((qb s).length);obtain⟨S,D⟩:=NE ((qb i).length);obtain⟨P,hP⟩:=NE (Zt ⟨(s:Int),k,(i:Int),b⟩);rw[hP]at J t F G|-
 rw[m]at J t F G l1;rw[D]at R F G l2;have d:=Hi (λW=>Yau W P 0 (by omega) (by omega));have c:=Hi (λW=>Yau W P K (by omega) (by omega));rw[Ju,J]at d;rw[t,R]at c;simp only[vam,Jp,show(((0:Nat):Int))=0 from rfl]at d c;have hz:=zb P;have j:∀W,(Instr.slice 9 (OT P) (some (OI ((K+S:Nat):Int))) none none).run prog W=.ok (OT b) W:=λW=>by
  rw[ZaP underlying9 (w:=W) ⟨P.toArray⟩ (K+S) (by rw[hz];omega),qbc,F]
 have g:Int.tdiv ((8*f:Nat):Int) 8=(f:Int):=by rw[JK (by omega)];omega
 have a1:=zb b;have x:((b.length:Nat):Int)<=128:=by omega
 have y:¬ ((s:Int)<1):=by omega
 have A:¬ (1152921504606846976<(s:Int)):=by omega
 have l:¬ (281474976710656<(i:Int)):=by omega
 have a0:IntKind.i64.wrap (s:Int)=(s:Int):=J1 _ (by omega);have a2:IntKind.i64.wrap (i:Int)=(i:Int):=J1 _ (by omega);obtain⟨q,V⟩:=NE (K+S);obtain⟨X,U⟩:=NE (((8*f:Nat):Int));rw[V]at c j;have z:=Hi g;rw[U]at z|-
 clear g U V F;obtain⟨HK,M,Q⟩:=Hi3 e H I;clear O L e H I J t R hP m D G;unfold upV;simp only;unfold qa at *;go_enter func154,ntmps154;go_upto_region 1 with(fail)
 rcases HK.o with e|e
 .obtain rfl:f=b.length:=(M.o e).symm;subst e;have g:=z.o;go_upto_region 8 with(go_at_call 216;refine MQ (d.o _) ?_)
  clear d;go_upto_region 14 with(go_at_call 216;refine MQ (c.o _) ?_)
  clear c j y A l;go_wp2_with fail;have a:=(St.refl w).alloc (.cells #[OI (s:Int),OI 1,OI (i:Int),OT b] 35);rw[<-Y.o]at a|-
  refine a.nameB ?_;clear a;intro w9 a;obtain⟨E,r,p,B⟩:=a.k4 0 1 2 3;refine jP (v:=.tuple #[.agg #[OI (s:Int),OI 1,OI (i:Int),OT b],OI 0]) ?_ rfl ⟨rfl,a.below⟩;simp at E r p B;simp[results,results154,go_sem,E,r,p,B]
 .have x:=Q.o e;subst x;subst e;go_upto_region 8 with(go_at_call 216;refine MQ (d.o _) ?_)
  clear d;go_upto_region 14 with(go_at_call 216;refine MQ (c.o _) ?_)
  clear c j y A l;go_wp2_with fail;have a:=(St.refl w).alloc (.cells #[OI (s:Int),OI 2,OI (i:Int),.string ⟨([]:Bs).toArray⟩] 35);rw[<-Y.o]at a|-
  refine a.nameB ?_;clear a;intro w9 a;obtain⟨E,r,p,B⟩:=a.k4 0 1 2 3;refine jP (v:=.tuple #[.agg #[OI (s:Int),OI 2,OI (i:Int),.string ⟨([]:Bs).toArray⟩],OI 0]) ?_ rfl ⟨rfl,a.below⟩;simp at E r p B;simp[results,results154,go_sem,E,r,p,B]
theorem Zbc(D:Dk)(M:va)(n:Bs)(f:zc)(s:Xa U q c D M w)(r:D.Wf)(l:D.off=false)(p:Zf n=true)(k:D.get n=some f)(m:f.data.length<=1000000000):
  Calls prog 152 #[za q,qa n] w (Ret (.tuple #[qa f.data,OI 0]) w):=by
 have g:n.length<=1000000:=by
  unfold Zf at p;simp only[Uf,jG]at p;omega
 have e:D.look n=0:=by unfold Dk.look;rw[l,p,k];rfl
 have j:D.size n=((f.data.length:Int),0):=by unfold Dk.size;rw[k];simp only;rw[jd (by rw[e];decide)]
 have h:D.read n 0 (f.data.length:Nat)=(f.data,0):=by
  unfold Dk.read;rw[k];simp only;rw[jd (by rw[e];decide),jd (by omega)];simp
 have a:=Hi (XN s n g);have d:=Hi (xan s r n f.data.length (by omega) g);rw[j]at a;rw[h]at d;obtain⟨b,i⟩:=NE f.data;rw[i]at a d|-
 clear s j h e m i k;unfold Ret at a d;unfold za qa at *;go_enter func152,ntmps152;go_wp2_with (first
  |(go_at_call 25;refine MQ a.o ?_)
  |(go_at_call 91;refine MQ d.o ?_))
 go_ret2;exact⟨rfl,rfl⟩
end Go.Proofs.YtekkihmmclencaaGreatDoor
