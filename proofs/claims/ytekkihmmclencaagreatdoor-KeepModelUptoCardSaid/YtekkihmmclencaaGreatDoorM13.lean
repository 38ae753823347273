import Derived.Test.YtekkihmmclencaaGreatDoorShelf
import Derived.Test.YtekkihmmclencaaGreatDoorM12
namespace Go.Proofs.YtekkihmmclencaaGreatDoor
set_option linter.all false
set_option maxRecDepth 100000
set_option maxHeartbeats 40000000
open Tryz
open Go Go.RowKit Go.Shelf
variable(w:World)(q c:Nat){W V Z:World}{n b k:Nat}{v:Value}{F G:va}{x y:Int}{T:TypeId}{P:Program}{Q:Exit->Act->World->Prop}{X:List Value}
section
attribute [local go_sem] Oper.semAt_some
theorem Rw.isCells(h:Rw T b v n X F):∀x∈F,x.2.isCells=true:=by
 rcases h.2 with⟨_,_,rfl⟩|⟨g,d,c,_,rfl,_⟩
 .simp
 .intro x a;simp at a;subst a;rfl
theorem Rw.keys{e:TypeId}(h:Rw e b v n X F)(a:k∈F.map (·.1)):v.ownBlock=some k:=by
 rcases h.2 with⟨_,_,rfl⟩|⟨g,d,c,rfl,rfl,_⟩
 .simp at a
 .simp at a;subst a;rfl
theorem qac{R:Fence}{w:Array Oper}{rest:List Oper}{o:Oper}{a:Act}(A:o.guard=none)(s x:Operand)(t:TypeId)
  (ho:o.op=.call {callee:=.builtin .append,args:=#[s,x],argTypes:=#[t,t]})
  (e:TypeId) (i:TypeInfo) (z:Value) (size f:Nat) (X:P.underlying t=some (.slice e)) (hi:P.info? e=some i) (hz:i.zero=some z)
  (p:i.size=size) (D:i.bytes=f) (H:z.cells.size=size) (C:0<size)
  (v:Value) (c:Nat) (G:List Value) (F M:va) (hs:a.eval s=v) (I:Rw e size v c G F) (T:St V W (F++M))
  (m g:Nat) (d:List Value) (hx:a.eval x=.slice (some ⟨g,0,none⟩) m m) (Z:g=W.heap.size) (hl:d.length=m*size) (h1:∀u∈d,u.oneCell'=true)
  (B:c+m<=maxLen) (l:(c+m)*f<=140737488355328) (hm:0<m)
  (h:∀y k W' r,Rw e size (.slice y (c+m) k) (c+m) (G++d) r->St V W' (r++M)->W.heap.size<=W'.heap.size->(∀b,b∈r.map (·.1)->b∈F.map (·.1)\/W.heap.size<=b)->wpListIn R n P w Q rest (a.put o.dst (.slice y (c+m) k)) W') :
  wpListIn R n P w Q (o::rest) a (W.alloc (.cells d.toArray e)):=by
 subst Z;have O:=(T.alloc (.cells d.toArray e)).tail;refine wpListIn_append_own_at _ A s x t ho V.heap.size e i z size f X hi hz p D H C v c G hs (I.owns O) ⟨W.heap.size,0,none⟩ m m d hx hl (Z8 (U5 W _)) h1 B l (by rw[jF];have:=T.sz;omega) ?_;intro v' J U S h4 j;obtain⟨r,q,E⟩:=St.appended I O U S (λe=>(h4.1 e).1) j;obtain⟨y,k,rfl,_⟩:=q.form;have hge:W.heap.size<=J.heap.size:=by have:=S.size;rw[jF]at this;omega
 refine h y k J r q E hge λb Y=>?_
 have L:=q.keys Y;rcases j with j|j
 .left;rw[L]at j;rcases I.2 with⟨rfl,_,rfl⟩|⟨g,K,a0,rfl,rfl,_⟩
  .cases j
  .simp[Value.ownBlock]at j;simp[j]
 .right;rw[L,jF]at j;have:=Jv j;omega
theorem St.join2{o:Obj}(c:St V W F)(f:V.heap.size<=b)(e:W.heap[b]?=some o)(a:b∉F.map (·.1)):St V W ((b,o)::F) :=
 ⟨c.below,λx d=>by rcases jp.1 d with rfl|d;exact⟨f,e⟩;exact c.at' x d,jY.2 ⟨a,c.nodup⟩⟩
theorem ZaV:(prog.info? 243).map (λi=>(i.zero,i.size,i.bytes))=some (some (.agg #[OI 0,OI 0]),2,16):=by kernel_rfl
def xt(wd c:Nat)(x:Nat):List Value:=[.int .i64 (zf wd c (min x (c-1)):Nat),.int .i64 (ze wd c (min x (c-1)):Nat)]
theorem xaL(l:List Nat):(l.flatMap (xt q c)).length=l.length*2:=by
 induction l with
 |nil=>rfl
 |cons x r ih=>rw[jB,ja,ih,jk];simp[xt];omega
def Yl(Z:Nat)(w:World)(B:Nat)(T e:TypeId)(size:Nat)(enc:Nat->List Value)(Mi:va)(pre:List Nat)(W:World):Prop :=
 Z<=W.heap.size/\∃ad cap F,Rw e size (.slice ad pre.length cap) pre.length (pre.flatMap enc) F/\St w W ((B,.cells #[.slice ad pre.length cap] T (0,0))::(F++Mi))
theorem Yl.own{w:World}{B:Nat}{T e:TypeId}{size:Nat}{enc:Nat->List Value}{Mi:va}{Z:Nat}(j:w.heap.size<=Z)(b:∀x∈Mi,x.2.isCells=true):OwnFrom Z (Yl Z w B T e size enc Mi):=by
 rintro pre X Y row ⟨h,k,c,F,d,g⟩ f i;refine⟨jI h f.size,k,c,F,d,g.steady j (λx a=>.inr ?_) f i⟩;rcases jp.1 a with rfl|a
 .rfl
 .rcases jo.1 a with a|a
  .exact d.isCells x a
  .exact b x a
def Yw(Z B:Nat)(T:TypeId)(tv:TypeId)(enc:Nat->List Value)(act:Nat->Nat->Act)(x:Nat)(a':Act)(W:World):Prop :=
 ∃Bx,Z<=Bx/\W.heap[Bx]?=some (.cells (enc x).toArray tv (0,0))/\Bx≠B/\B<Z/\(∃v,W.heap[B]?=some (.cells #[v] T (0,0))/\v.ownBlock≠some Bx)/\a'=act x Bx
theorem Yw.own{Z B:Nat}{T j:TypeId}{enc:Nat->List Value}{d:Nat->Nat->Act}(l:Act):OwnFrom Z (λ(_:Unit) W=>Yw Z B T j enc d c l W):=by
 rintro _ X Y row ⟨a,n,b,q,m,⟨v,h,k⟩,p⟩ i g;refine⟨a,n,?_,q,m,⟨v,?_,k⟩,p⟩
 .refine(i.block a (lt_of_block b) (λe=>?_)).trans b;obtain⟨_,o,f,r⟩:=g a e.symm;rw[b]at f;cases f;cases r
 .refine(i.block B (lt_of_block h) (λe=>?_)).trans h;have:=(g B e.symm).1;omega
theorem Yw.join{w W:World}{Z B:Nat}{T e j:TypeId}{size:Nat}{m b:Nat->List Value}{n:Nat->Nat->Act}{g:va}{x:Nat}{s:Act}{pre:List Nat}(u:w.heap.size<=Z)(l:∀y∈g,y.1<Z/\y.2.isCells=true)(E:Yl Z w B T e size m g pre W)(K:Yw Z B T j b n x s W):
  ∃f d a F R,s=n x f/\Rw e size (.slice d pre.length a) pre.length (pre.flatMap m) F/\(∀(k:Nat) (o:Obj),Z<=k->W.heap[k]?=some o->o.isCells=false->(k,o)∈R) /\
   St w W (F++((f,.cells (b x).toArray j (0,0))::(B,.cells #[.slice d pre.length a] T)::(g++R))):=by
 obtain⟨_,d,a,F,r,z⟩:=E;obtain⟨f,C,A,H,L,⟨v,t,I⟩,D⟩:=K;have J:v=.slice d pre.length a:=by
  rw[z.get]at t;have:=Jv t;injection this with e1
  simpa using e1.symm
 have p:f∉(((B,Obj.cells #[.slice d pre.length a] T)::(F++g)).map (·.1)):=by
  rw[ju,jr,jp,jo];rintro(h|h|h)
  .exact H h
  .exact I (by rw[J];exact r.keys h)
  .obtain⟨y,c,e⟩:=jg.1 h;have:=(l y c).1;omega
 have G:=z.join2 (jI u C) A p;obtain⟨R,q,i⟩:=G.rest Z u (λy c=>.inr (by
  rcases jp.1 c with rfl|c
  .rfl
  .rcases jp.1 c with rfl|c
   .rfl
   .rcases jo.1 c with c|c
    .exact r.isCells y c
    .exact(l y c).2))
 refine⟨f,d,a,F,R,D,r,i,q.perm ?_⟩;have:((f,Obj.cells (b x).toArray j (0,0))::(B,Obj.cells #[.slice d pre.length a] T)::(F++g))++R=[(f,Obj.cells (b x).toArray j (0,0)),(B,Obj.cells #[.slice d pre.length a] T)]++(F++(g++R)):=by simp[jE]
 rw[this];exact(Jj F [(f,Obj.cells (b x).toArray j (0,0)),(B,Obj.cells #[.slice d pre.length a] T)] (g++R))
theorem Qa5{bs:List Nat}(h:St V W F)(c:St V Z G)(f:∀b∈bs,∃o,(b,o)∈F/\(b,o)∈G)(g:W.heap.size<=Z.heap.size):zi bs W Z :=
 ⟨g,λb a=>by obtain⟨o,e,d⟩:=f b a;exact((c.at' _ d).2).trans ((h.at' _ e).2).symm⟩
theorem Yl.step{w W d:World}{Z B m:Nat}{T e:TypeId}{size:Nat}{enc:Nat->List Value}{g R F f:va}{n:Obj}{t:Value}{x:Nat}{pre:List Nat}{bs:List Nat}{c:Option Addr}{a:Nat}(E:Z<=W.heap.size)(l:W.heap.size<=d.heap.size)
  (j:∀(k:Nat) (o:Obj),Z<=k->W.heap[k]?=some o->o.isCells=false->(k,o)∈R) (p:∀b∈bs,∃o,(b,o)∈g) (D:St w W (F++((m,n)::(B,.cells #[t] T)::(g++R))))
  (u:Rw e size (.slice c (pre.length+1) a) (pre.length+1) (pre.flatMap enc++enc x) f) (r:St w d (f++((m,n)::(B,.cells #[t] T)::(g++R)))) :
  KeepsFrom Z W (d.setCell ⟨B,0,none⟩ (.slice c (pre.length+1) a))/\zi bs W (d.setCell ⟨B,0,none⟩ (.slice c (pre.length+1) a))/\Yl Z w B T e size enc g (pre++[x]) (d.setCell ⟨B,0,none⟩ (.slice c (pre.length+1) a)):=by
 have s:St w d ((f++[(m,n)])++(B,.cells #[t] T)::(g++R)):=by rw[jE];exact r
 have q:=s.setAt 0 (.slice c (pre.length+1) a);have i:St w (d.setCell ⟨B,0,none⟩ (.slice c (pre.length+1) a)) ((f++[(m,n)]++(B,.cells #[.slice c (pre.length+1) a] T)::g)++R):=by
  have h:=q;simp only[jf,ji,jE,jO]at h|-
  exact h
 refine⟨i.keepsFrom j (by simpa using l),Qa5 D i (λb z=>?_) (by simpa using l),?_⟩
 .obtain⟨o,v⟩:=p b z;exact⟨o,je _ (jb _ (jb _ (jx _ v))),jx _ (je _ (jb _ v))⟩
 .refine⟨by simp;omega,c,a,f,by simpa using u,?_⟩;have C:(pre++[x]).length=pre.length+1:=by simp
  rw[C];have y:=i.appL;rw[jE]at y;have A:St w (d.setCell ⟨B,0,none⟩ (.slice c (pre.length+1) a)) (f++(B,.cells #[.slice c (pre.length+1) a] T)::g):=y.sub ((Jz f).append (ko _ _));exact A.mid
theorem St.taken{D:Nat}{o o':Obj}(b:St V W F)(g:∀x∈F,x.2.isCells=true)(f:V.heap.size<=D)(c:W.heap[D]?=some o)(a:o.isCells=false):St V (W.putObj D o') F :=
 b.steady (jm _) (λx d=>.inr (g x d)) (grownBy_putObj' W D o') (λr e=>by cases e;exact⟨f,o,c,a⟩)
def Vr(x m:Int)(w:World)(e:Ending)(w':World):Prop :=
 if Ye x m≠0 then e=.returned (.tuple #[.slice none 0 0,.int .i64 (Ye x m)])/\w=w'
 else ∃v F,e=.returned (.tuple #[v,.int .i64 0])/\Rw 243 2 v m.toNat ((List.range m.toNat).flatMap (xt x.toNat m.toNat)) F/\St w w' F
theorem qW(h:Ye x y=0):64<=x/\x<=1024/\x%64=0/\(x+31)/32<=y/\y<=x/8:=by
 unfold Ye at h;split at h
 .cases h
 .rename_i a
  have:=zK (x:=x) (by simpa using a);split at h
  .cases h
  .omega
theorem yaf(w:World)(x m:Int)(h0:-9223372036854775808<=x)(h1:x<=9223372036854775807)(m0:-9223372036854775808<=m)(m1:m<=9223372036854775807):
  Calls prog 196 #[OI x,OI m] w (Vr x m w):=by
 have HC:=Hi (λW=>Yaq W x m h0 h1 m0 m1);by_cases hq:Ye x m=0
 rotate_left
 .have HF:=Hi (show Vr x m w (.returned (.tuple #[.slice none 0 0,OI (Ye x m)])) w by unfold Vr;rw[jh hq];exact⟨rfl,rfl⟩);obtain⟨E,hE⟩:=NE (Ye x m);rw[hE]at HC HF hq;clear hE;go_enter func196,ntmps196;go_wp2_with (go_at_call 162;refine(HC.o _).mono ?_;rintro e w' ⟨rfl,rfl⟩);exact jP (v:=.tuple #[.slice none 0 0,OI E]) (by simp[results,results196,go_sem]) rfl HF.o
 .rw[hq]at HC;obtain⟨q1,q2,q3,q4,q5⟩:=qW hq;obtain⟨X,hX⟩:∃X:Nat,x.toNat=X:=⟨_,rfl⟩;obtain⟨C,a2⟩:∃C:Nat,m.toNat=C:=⟨_,rfl⟩;have ac:x=(X:Int):=by omega
  have a9:m=(C:Int):=by omega
  have aw:1<=C:=by omega
  have ao:C<=128:=by omega
  have ai:X<=1024:=by omega
  have HF:=Hi (λ(v:Value) (F:va) (w':World) (hr:Rw 243 2 v C ((List.range C).flatMap (xt X C)) F) (hs:St w w' F)=>(show Vr x m w (.returned (.tuple #[v,OI 0])) w' by
   unfold Vr;rw[jd (by rw[hq];decide),hX,a2];exact⟨v,F,rfl,hr,hs⟩))
  obtain⟨PP,a8⟩:=EN (Vr x m w);rw[<-a8]at HF|-
  rw[ac,a9]at HC|-
  clear hq q1 q2 q3 q4 q5 hX a2 ac a9 h0 h1 m0 m1 a8;obtain⟨i1,a3,z,t,a1⟩:=Vs ZaV;obtain⟨wm,ap,L,ag⟩:=run_make_own (P:=prog) w w.heap.size 279 243 i1 _ 2 underlying279 a3 z t .i64 .i64 C (by rw[a1];omega) (by unfold maxLen;omega) (jm _);obtain⟨F0,af,a5⟩:=St.ofOwn L ((jU w.heap.size w).grown ag (jm _) (λk hk=>by cases hk));obtain⟨Y,a0⟩:=Hi2 af a5;obtain⟨U,a4⟩:=EN w.heap.size;rw[<-a4]at ap Y;clear L ag af a5 a4;have ak:=Hi (λW=>vaz W (X:Int) (C:Int));refine(JZ (n:=8)).1 ?_;refine kL func196 rfl trivial ?_ rfl;simp only[ntmps196,J2,jk,jA,Nat.reduceAdd,Nat.reduceSub,UD,UE,UP,UH,jK,jO]
  gi_wp2_with (first|(refine⟨trivial,?_⟩;gi_at_call 162;refine(JZ.2 (HC.o _)).mono ?_;rintro e w' ⟨rfl,rfl⟩)|(refine⟨trivial,?_⟩;gi_at_call 163;refine(JZ.2 (ak.o _)).mono ?_;rintro e w' ⟨rfl,rfl⟩))
  obtain⟨B,hB⟩:=EN wm.heap.size;have f:=((a0.o.alloc (.cells #[.slice (some ⟨U,0,none⟩) 0 C] 279)).alloc (.cells #[OI (X:Int)] 3)).alloc (.cells #[OI (C:Int)] 3);simp only[jF]at f|-
  rw[<-hB]at f|-
  obtain⟨j,N⟩:=EN (((wm.alloc (.cells #[.slice (some ⟨U,0,none⟩) 0 C] 279)).alloc (.cells #[OI (X:Int)] 3)).alloc (.cells #[OI (C:Int)] 3));have z:j.heap.size=B+3/\w.heap.size<=B:=⟨by rw[N,hB];simp only[jF],by rw[hB];exact a0.o.sz⟩;rw[<-N]at f|-
  have J:=Hi z;clear N hB z;obtain⟨Mi,A⟩:∃Mi:va,Mi=[(B+1+1,.cells #[OI (C:Int)] 3),(B+1,.cells #[OI (X:Int)] 3)]:=⟨_,rfl⟩;have p:∀y∈Mi,y.1<j.heap.size/\y.2.isCells=true:=by rw[A];intro y V;have:=J.o.1;simp at V;rcases V with rfl|rfl<;>exact⟨by simp;omega,rfl⟩
  have c1:j.cell? ⟨B+1+1,0,none⟩=some (OI (C:Int)):=f.cellH 0;have c2:j.cell? ⟨B+1,0,none⟩=some (OI (X:Int)):=f.rd (i:=0) (jb _ jc) rfl;have a6:Yl j.heap.size w B 279 243 2 (xt X C) Mi [] j:=⟨jm _,_,C,F0,Y.o,by
   rw[A];refine f.perm ?_;show((B,Obj.cells #[.slice (some ⟨U,0,none⟩) 0 C] 279)::(F0++[(B+1+1,Obj.cells #[OI (C:Int)] 3),(B+1,Obj.cells #[OI (X:Int)] 3)])).Perm _;refine(Jm _ JO).trans ?_;exact((JC _ _ _).trans (Jm _ (JC _ _ _)))⟩
  have av:=Hi A;clear f A;refine wpIn_rangeFunc_ownH rfl (by omega) (gf:=220) (lb:=#[Xh (B+1+1),Xh (B+1)]) rfl trivial (kf func220 (by kernel_rfl) rfl)
   (Z4 Fence.wide (8-1) trivial rfl (by omega) (B+1+1) (B+1) X C ai aw ao j c1 c2)
   (λh k=>h.trans k) (λW l o o'=>zi.putObj (by intro b S;have:=J.o.1;simp at S;omega) W l o o') (jU _ _) (λ_=>rfl)
   (Yl j.heap.size w B 279 243 2 (xt X C) Mi) (λ_ _ _=>False)
   (Yl.own (by have:=J.o;omega) (λy V=>(p y V).2)) (λ_ _ _ _ _ hs _ _=>hs) a6
   (Yw j.heap.size B 279 243 (xt X C) (λx Bx=>{tmps:=#[OI (X:Int),OI (C:Int),undef,undef,.slice none 0 0,OI 0,OI 0,OQ B,undef,OQ Bx,OI (X:Int),OI (C:Int),OI 0,OI 0,.bool false,undef,OI (C:Int),.slice (some ⟨U,0,none⟩) 0 C,OI (X:Int),OI (C:Int),.func (.func 220) #[] #[Xh (B+1+1),Xh (B+1)],OI (x:Int),.agg #[OI (zf X C (min x (C-1)):Nat),OI (ze X C (min x (C-1)):Nat)],undef,undef,undef,undef,undef],defers:=[]}))
   (λx a'=>Yw.own x a') ?assign ?body ?done ?stop
  case assign =>
   rintro l pre x W K Q hK;obtain⟨hz,G,a,F,I,d⟩:=Q;have ab:=Yl.own (Z:=j.heap.size) (w:=w) (B:=B) (T:=279) (e:=243) (size:=2) (enc:=xt X C) (Mi:=Mi) (by have:=J.o;omega) (λy V=>(p y V).2);have ar:=Hi (λo=>ab.alloc (s:=pre) (W:=W) o ⟨hz,G,a,F,I,d⟩);have aq:=Hi (λ(o:Obj)=>(show zi [B+1+1,B+1] W (W.alloc o)from⟨by simp,λb S=>UW W _ b (by have:=J.o.1;simp at S;omega)⟩));have au:=Hi (λ(o:Obj)=>(show ∃v,(W.alloc o).heap[B]?=some (.cells #[v] 279)/\v.ownBlock≠some W.heap.size from⟨_,(UW W _ B d.hlt).trans d.get,λe=>by
    rcases I.2 with⟨h,_⟩|⟨g,c',aj,h,hF,_⟩
    .rw[h]at e;cases e
    .rw[h]at e;have hlt:=d.lt (x:=(g,.cells aj 243)) (jb _ (jx _ (by rw[hF];exact jc)));have:g=W.heap.size:=by simpa [Value.ownBlock] using e
     omega⟩))
   have ae:=Hi (show B<j.heap.size/\B≠W.heap.size by have:=J.o.1;have:=d.hlt;omega);have O:=Hi hz;clear ab I d hz
   gi_wp2
   exact hK _ _ ((KK _ _).from _) (aq.o _) (ar.o _) ⟨W.heap.size,O.o,U5 W _,ae.o.2.symm,ae.o.1,au.o _,rfl⟩
  case body =>
   rintro l pre x a' W hl ⟨r,hr⟩ Q hV hlt;have aa:=Q.1;obtain⟨Bx,G,a,F,R,rfl,I,q,d⟩:=Yw.join (by have:=J.o;omega) p Q hV;have e1:(xt X C x).toArray=#[OI (zf X C (min x (C-1)):Nat),OI (ze X C (min x (C-1)):Nat)]:=rfl;rw[e1]at d;have d1:W.cell? ⟨Bx,0,none⟩=some (OI (zf X C (min x (C-1)):Nat)):=d.rd (i:=0) (je _ jc) rfl;have d2:W.cell? ⟨Bx,1,none⟩=some (OI (ze X C (min x (C-1)):Nat)):=d.rd (i:=1) (je _ jc) rfl;have d3:W.cell? ⟨B,0,none⟩=some (.slice G pre.length a):=d.rd (i:=0) (je _ (jb _ jc)) rfl;obtain⟨ah,HS,HR⟩:=Hi3 q d I;have ay:pre.length<=128:=by omega
   clear I d q Q hV hr hl
   gi_wp2_with (gi_at_builtin;refine qac (by rfl) _ _ 279 (by rfl) 243 i1 _ 2 16 underlying279 a3 z t a1 (by rfl) (by decide) (.slice G pre.length a) pre.length (pre.flatMap (xt X C)) F ((Bx,.cells #[OI (zf X C (min x (C-1)):Nat),OI (ze X C (min x (C-1)):Nat)] 243)::(B,.cells #[.slice G pre.length a] 279)::(Mi++R)) (by rfl) HR.o HS.o 1 W.heap.size _ (by rfl) (by rfl) (by rfl) (by intro u hu;simp at hu;rcases hu with rfl|rfl<;>rfl) (by unfold maxLen;omega) (by omega) (by decide) ?_)
   intro az ax W2 F2 a7 H t M;have f3:W2.frozen? ⟨B,0,none⟩=false:=H.free (je _ (jb _ jc)) 0;have g3:W2.cell? ⟨B,0,none⟩=some (.slice G pre.length a):=H.rd (i:=0) (je _ (jb _ jc)) rfl;obtain⟨al,an,am⟩:=Hi3 H a7 t;clear a7 H t M;obtain⟨aA,O⟩:=Hi2 a6.1 aa;clear aa
   gi_wp2
   exact Yl.step O.o am.o ah.o (by rw[av.o];intro b S;simp at S;rcases S with rfl|rfl<;>exact⟨_,by simp;rfl⟩) HS.o an.o al.o
  case done =>
   rintro D ys W hD rfl Q hK;obtain⟨hz,G,a,F,I,d⟩:=Q;have d3:W.cell? ⟨B,0,none⟩=some (.slice G (List.range C).length a):=d.cellH 0;obtain⟨HR,HS⟩:=Hi2 I d;clear I d hz
   gi_wp2
   refine⟨by simp,.inl ⟨_,_,rfl,Kl hK,?_⟩⟩;refine⟨_,by simp[results,results196,go_sem],HF.o (.slice G C a) F _ (by have:=HR.o;rw[Uh]at this;exact this) ?_⟩;exact(HS.o.tail.appL).taken (λx hx=>HR.o.isCells x hx) (by have:=J.o;omega) hK rfl
  case stop =>
   rintro D c pre W _ _ h _;exact h.elim
end
section
theorem Oper.wpIn_round{P:Program}{o:Oper}{a:Act}{w:World}{K:Act->World->Prop}{Q:Exit->Act->World->Prop}(l n:Nat)(d:∀c,o.op≠.defer c)(h:o.wp P a w K Q):o.wpIn (Fence.wide.inRound l) n P a w K Q:=by
 refine⟨λ_ _=>trivial,?_⟩;rw[Oper.semAt_eq _ _ _ d];unfold Oper.wp at h;generalize (execOp a.eval o).run P w=r at h|-
 cases r with
 |ok x w' =>
  cases x with
  |enter f args=>exact⟨λh=>(by cases h),CallsIn.inRound l ((JZ (n:=n-1)).2 h)⟩
  |row row args=>exact⟨λh=>(by cases h),λc e _=>by obtain⟨v,b,r,s⟩:=h c e;exact⟨v,b,r,stepsIn_wide.2 s⟩⟩
  |round _ _ _ _ _=>exact False.elim h
  |_=>exact h
 |halt x w'=>cases x<;>exact h
section
variable {P:Program} {md:Region.Mode} {ops:Array Oper} {Q:Exit->Act->World->Prop} {S:World->Prop}
theorem yB(l n:Nat)(e:∀(i:Nat) o,ops[i]?=some o->∀c,o.op≠.defer c)(d:¬ LetsOut Q):∀(fuel:Nat) (listed:Array Bool) (a:Act) (w:World),wpAny P md ops Q fuel listed a w->wpAnyIn (Fence.wide.inRound l) n P md ops Q fuel listed a w
 |0,_,_,_,h=>h
 |fuel+1,listed,a,w,h=>⟨h.1,λi g=>by
  have b:=h.2 i g;unfold wpOp at b;unfold wpOpIn;cases ho:ops[i]? with
  |none=>rw[ho]at b;exact yB l n e d fuel _ _ _ b
  |some o =>
   rw[ho]at b;simp only at b|-
   split
   .rename_i f
    rw[jh f]at b;rcases b with b|⟨_,b⟩
    .exact Oper.wpIn_mono (λa w=>yB l n e d fuel _ a w) (Oper.wpIn_round l n (e i o ho) b)
    .exact absurd b d
   .rename_i f
    rw[jd f]at b;exact⟨λ_ _=>trivial,yB l n e d fuel _ _ _ b⟩⟩
theorem vab{id l n:Nat}{a:Act}{w:World}(e:P.follows .mixedOrders=true)(d:∀(i:Nat) o,ops[i]?=some o->∀c,o.op≠.defer c)(b:¬ LetsOut Q)
  (h:wpAnyH P .any ops Q S ops.size (Array.replicate ops.size false) a w.drew):(Code.region id ops true).wpIn (Fence.wide.inRound l) n P Q a w :=
 wpIn_region_any e (yB l n d b _ _ _ _ (wpAny_of_held _ _ _ _ h))
end
theorem xI{P:Program}{y w:World}{ops:Array Oper}{o:Oper}{a:Act}{K:Act->World->Prop}{Q:Exit->Act->World->Prop}{E:Prop}(A:o.guard=none)(s x:Operand)(t:TypeId)
  (V:o.op=.call {callee:=.builtin .append,args:=#[s,x],argTypes:=#[t,t]})
  (e:TypeId) (i:TypeInfo) (z:Value) (size c:Nat) (R:P.underlying t=some (.slice e)) (Y:P.info? e=some i) (U:i.zero=some z)
  (j:i.size=size) (G:i.bytes=c) (J:z.cells.size=size) (D:0<size)
  (v:Value) (n:Nat) (I:List Value) (F M:va) (X:a.eval s=v) (N:Rw e size v n I F)
  (m g:Nat) (b:List Value) (r:St y w ((g,.cells b.toArray e)::(F++M))) (Z:a.eval x=.slice (some ⟨g,0,none⟩) m m) (W:b.length=m*size) (T:∀u∈b,u.oneCell'=true)
  (hm:0<m) (C:n+m<=maxLen) (f:(n+m)*c<=140737488355328)
  (h:∀q d k p,Rw e size (.slice (some ⟨q,0,none⟩) (n+m) d) (n+m) (I++b) p->St y k (p++M)->w.heap.size<=k.heap.size->K (a.put o.dst (.slice (some ⟨q,0,none⟩) (n+m) d)) k) :
  if Region.wanted o (yielded ops a.tmps)=true then Oper.wp P o a w K Q else E:=by
 refine step_append_lies _ A s x t V y.heap.size e i z size c R Y U j G J D v n I X (N.owns r.tail) ⟨g,0,none⟩ m m b Z W (Z8 r.get) T hm C f r.sz w.heap.size rfl ?_;intro q d k O L l _;obtain⟨p,B,H⟩:=St.appended N r.tail O L (λe=>by cases e) (by
  rcases l with l|l
  .exact .inl l.symm
  .exact .inr (by rw[l];rfl))
 exact h q d k p B H L.size
end
section
attribute [local go_sem] Oper.semAt_some
def Qt(x m:Int)(code:Bs):Int:=if Ye x m≠0 then Ye x m else if(code.length:Int)≠x/8 then 11 else 0
def ZD(wd c:Nat)(code:Bs)(x:Nat):List Value:=[.int .i64 (Yt code (zf wd c (min x (c-1))) (ze wd c (min x (c-1))):Nat)]
theorem za6(b:Bs):(List.range c).flatMap (ZD q c b)=xg (yu q c b):=by
 unfold yu xg;rw[j7];have:∀l:List Nat,(∀x∈l,x<c)->l.flatMap (ZD q c b)=l.map (Value.int IntKind.i64 ∘ λj=>(Yt b (zf q c j) (ze q c j):Int)):=by
  intro l;induction l with
  |nil=>intro _;rfl
  |cons a r ih =>
   intro h;have e:=h a jc;rw[jB,ih (λx d=>h x (jb _ d)),ju];unfold ZD;rw[show min a (c-1)=a by omega];rfl
 exact this _ (λx d=>Ud.1 d)
theorem XP{wd c:Nat}(h:wd<=32*c)(a:1<=c)(x:Nat):ze wd c x<=33:=by
 unfold ze;have:wd/c<=32:=by rw[Nat.div_le_iff_le_mul_add_pred (by omega)];rw[Ui];omega
 split<;>omega
def Vo(x m:Int)(code:Bs)(w:World)(e:Ending)(w':World):Prop :=
 if Qt x m code≠0 then e=.returned (.tuple #[.slice none 0 0,.int .i64 (Qt x m code)])/\Below w.heap.size w w'
 else ∃v F,e=.returned (.tuple #[v,.int .i64 0])/\Rw 3 1 v m.toNat (xg (yu x.toNat m.toNat code)) F/\St w w' F
theorem V9(w:World)(x m:Int)(code:Bs)(hcl:code.length<=4611686018427387904)(h0:-9223372036854775808<=x)(h1:x<=9223372036854775807)(m0:-9223372036854775808<=m)(m1:m<=9223372036854775807):
  Calls prog 101 #[.int .i64 x,.int .i64 m,qa code] w (Vo x m code w):=by
 have HC:=hid (λW=>Yaq W x m h0 h1 m0 m1);have hsz:=zb code;by_cases hq:Ye x m=0
 rotate_left
 .have HF:=hid (λ(w':World) (hb:Below w.heap.size w w')=>(show Vo x m code w (.returned (.tuple #[.slice none 0 0,.int .i64 (Ye x m)])) w' by
   have e:Qt x m code=Ye x m:=by unfold Qt;rw[if_pos hq]
   unfold Vo;rw[e,if_pos hq];exact⟨rfl,hb⟩))
  obtain⟨E,hE⟩:∃E,Ye x m=E:=⟨_,rfl⟩;rw[hE]at HC HF hq;have HB:=hid ((Below.refl w.heap.size w).alloc (Nat.le_refl _) (.cells #[qa code] 9));clear hE;go_enter func101,ntmps101;go_wp2_with (go_at_call 162;refine(HC.out _).mono ?_;rintro e w' ⟨rfl,rfl⟩);exact bodyPost_ret (v:=.tuple #[.slice none 0 0,.int .i64 E]) (by simp[results,results101,go_sem]) rfl (HF.out _ HB.out)
 by_cases hq2:(code.length:Int)=x/8
 rotate_left
 .have HF:=hid (λ(w':World) (hb:Below w.heap.size w w')=>(show Vo x m code w (.returned (.tuple #[.slice none 0 0,.int .i64 11])) w' by
   have e:Qt x m code=11:=by unfold Qt;rw[if_neg (by rw[hq];decide),if_pos hq2]
   unfold Vo;rw[e,if_pos (by decide)];exact⟨rfl,hb⟩))
  rw[hq]at HC;obtain⟨q1,q2,q3,q4,q5⟩:=qW hq;have e8:Int.tdiv x 8=x/8:=Int.tdiv_eq_ediv_of_nonneg (by omega);obtain⟨y,hy⟩:∃y,x/8=y:=⟨_,rfl⟩;rw[hy]at e8 hq2;have hy0:0<=y:=by omega
  have hy9:y<=200:=by omega
  have hcl':(code.length:Int)<=4611686018427387904:=by omega
  have HB:=hid ((Below.refl w.heap.size w).alloc (Nat.le_refl _) (.cells #[qa code] 9));clear hy hq q4 q5;unfold qa at HB|-
  go_enter func101,ntmps101;go_wp2_with (go_at_call 162;refine(HC.out _).mono ?_;rintro e w' ⟨rfl,rfl⟩);exact bodyPost_ret (v:=.tuple #[.slice none 0 0,.int .i64 11]) (by simp[results,results101,go_sem]) rfl (HF.out _ HB.out)
 .rw[hq]at HC;obtain⟨q1,q2,q3,q4,q5⟩:=qW hq;obtain⟨X,hX⟩:∃X:Nat,x.toNat=X:=⟨_,rfl⟩;obtain⟨C,hCm⟩:∃C:Nat,m.toNat=C:=⟨_,rfl⟩;have hxX:x=(X:Int):=by omega
  have hmC:m=(C:Int):=by omega
  have hC1:1<=C:=by omega
  have hC9:C<=128:=by omega
  have hX9:X<=1024:=by omega
  have hX32:X<=32*C:=by omega
  have HF:=hid (λ(v:Value) (F:va) (w':World) (hr:Rw 3 1 v C ((List.range C).flatMap (ZD X C code)) F) (hs:St w w' F)=>(show Vo x m code w (.returned (.tuple #[v,.int .i64 0])) w' by
   have e:Qt x m code=0:=by unfold Qt;rw[if_neg (by rw[hq];decide),if_neg (by simpa using hq2)]
   rw[za6]at hr;unfold Vo;rw[e,if_neg (by decide),hX,hCm];exact⟨v,F,rfl,hr,hs⟩))
  obtain⟨PP,hPP⟩:∃PP,PP=Vo x m code w:=⟨_,rfl⟩;rw[<-hPP]at HF|-
  rw[hxX,hmC]at HC|-
  have e8:Int.tdiv (X:Int) 8=(code.length:Int):=by rw[Int.tdiv_eq_ediv_of_nonneg (by omega)];omega
  have hcl8:8*code.length=X:=by omega
  have hcl':(code.length:Int)<=200:=by omega
  have HC8:=hid hcl8;clear hq hq2 q1 q2 q3 q4 q5 hX hCm hxX hmC h0 h1 m0 m1 hPP hcl8 hcl;obtain⟨wo,hwo⟩:∃wo,wo=w.alloc (.cells #[qa code] 9):=⟨_,rfl⟩;have hSo:St w wo [(w.heap.size,.cells #[qa code] 9 (0,0))]:=by rw[hwo];exact(St.refl w).alloc _
  obtain⟨Cb,hCb⟩:∃Cb,Cb=w.heap.size:=⟨_,rfl⟩;rw[<-hCb]at hSo;obtain⟨i1,hi1,hz1,hz2,hz3⟩:=Vs Yal;obtain⟨wm,hmk,hown,hgr⟩:=run_make_own (P:=prog) wo wo.heap.size 100 3 i1 _ 1 underlying100 hi1 hz1 hz2 .i64 .i64 C (by rw[hz3];omega) (by unfold maxLen;omega) (Nat.le_refl _);obtain⟨F0,hR0,hS0⟩:=St.ofOwn hown ((Below.refl wo.heap.size wo).grown hgr (Nat.le_refl _) (λk hk=>by cases hk));have HR0:=hid hR0;have HS0:=hid (hSo.call hS0);obtain⟨S0,hSl⟩:∃S0,S0=wo.heap.size:=⟨_,rfl⟩;rw[<-hSl]at hmk HR0;clear hown hgr hR0 hS0 hSl;have HCH:=hid (λW=>vaz W (X:Int) (C:Int));have c0m':wm.cell? ⟨w.heap.size,0,none⟩=some (qa code):=by rw[<-hCb];exact HS0.out.rd (i:=0) (List.mem_append_right _ List.mem_cons_self) rfl
  rw[hwo]at hmk;have c0m:wm.cell? ⟨Cb,0,none⟩=some (qa code):=HS0.out.rd (i:=0) (List.mem_append_right _ List.mem_cons_self) rfl;unfold qa at c0m c0m' hmk;have HWO:=hid hwo;have HCB:=hid hCb;unfold qa;clear hSo hwo hCb;refine(callsIn_wide (n:=8)).1 ?_;refine callsIn_of_wp_marks func101 rfl trivial ?_ rfl;simp only[ntmps101,List.size_toArray,List.length_cons,List.length_nil,Nat.reduceAdd,Nat.reduceSub,Array.replicate_succ,Array.replicate_zero,List.push_toArray,List.append_toArray,List.nil_append,List.cons_append]
  gi_wp2_with (first|(refine⟨trivial,?_⟩;gi_at_call 162;refine(callsIn_wide.2 (HC.out _)).mono ?_;rintro e w' ⟨rfl,rfl⟩)|(refine⟨trivial,?_⟩;gi_at_call 163;refine(callsIn_wide.2 (HCH.out _)).mono ?_;rintro e w' ⟨rfl,rfl⟩))
  obtain⟨B,hB⟩:∃B,B=wm.heap.size:=⟨_,rfl⟩;have hS1:=((HS0.out.alloc (.cells #[.slice (some ⟨S0,0,none⟩) 0 C] 100)).alloc (.cells #[.int .i64 (X:Int)] 3)).alloc (.cells #[.int .i64 (C:Int)] 3);simp only[World.size_alloc]at hS1|-
  rw[<-hB]at hS1|-
  obtain⟨w1,hw1⟩:∃w1,w1=((wm.alloc (.cells #[.slice (some ⟨S0,0,none⟩) 0 C] 100)).alloc (.cells #[.int .i64 (X:Int)] 3)).alloc (.cells #[.int .i64 (C:Int)] 3):=⟨_,rfl⟩;have hz1:w1.heap.size=B+3/\w.heap.size<=B/\Cb<B:=⟨by rw[hw1,hB];simp only[World.size_alloc],by rw[hB];exact HS0.out.sz,by rw[hB];exact HS0.out.lt (x:=(Cb,.cells #[qa code] 9 (0,0))) (List.mem_append_right _ List.mem_cons_self)⟩;rw[<-hw1]at hS1|-
  have HZ:=hid hz1;clear hw1 hB hz1;obtain⟨Mi,hMi⟩:∃Mi:va,Mi=[(Cb,.cells #[qa code] 9 (0,0)),(B+1+1,.cells #[.int .i64 (C:Int)] 3 (0,0)),(B+1,.cells #[.int .i64 (X:Int)] 3 (0,0))]:=⟨_,rfl⟩;have hMi1:∀y∈Mi,y.1<w1.heap.size/\y.2.isCells=true:=by rw[hMi];intro y hy;have:=HZ.out;simp at hy;rcases hy with rfl|rfl|rfl<;>exact⟨by simp;omega,rfl⟩
  have c1:w1.cell? ⟨B+1+1,0,none⟩=some (.int .i64 (C:Int)):=hS1.cellH 0;have c2:w1.cell? ⟨B+1,0,none⟩=some (.int .i64 (X:Int)):=hS1.rd (i:=0) (List.mem_cons_of_mem _ List.mem_cons_self) rfl;rw[<-HCB.out];have hI0:Yl w1.heap.size w B 100 3 1 (ZD X C code) Mi [] w1:=⟨Nat.le_refl _,_,C,F0,HR0.out,by
   rw[hMi];refine hS1.perm ?_;have e:(B,Obj.cells #[.slice (some ⟨S0,0,none⟩) 0 C] 100 (0,0))::(F0++[(Cb,Obj.cells #[qa code] 9 (0,0)),(B+1+1,Obj.cells #[.int .i64 (C:Int)] 3 (0,0)),(B+1,Obj.cells #[.int .i64 (X:Int)] 3 (0,0))])=((B,Obj.cells #[.slice (some ⟨S0,0,none⟩) 0 C] 100 (0,0))::(F0++[(Cb,Obj.cells #[qa code] 9 (0,0))]))++[(B+1+1,Obj.cells #[.int .i64 (C:Int)] 3 (0,0)),(B+1,Obj.cells #[.int .i64 (X:Int)] 3 (0,0))]:=by simp
   show((B,Obj.cells #[.slice (some ⟨S0,0,none⟩) 0 C] 100 (0,0))::(F0++[(Cb,Obj.cells #[qa code] 9 (0,0)),(B+1+1,Obj.cells #[.int .i64 (C:Int)] 3 (0,0)),(B+1,Obj.cells #[.int .i64 (X:Int)] 3 (0,0))])).Perm _;rw[e];refine List.perm_append_comm.trans ?_;exact List.Perm.refl _⟩
  have HMi:=hid hMi;clear hS1 hMi;refine wpIn_rangeFunc_ownH rfl (by omega) (gf:=220) (lb:=#[Xh (B+1+1),Xh (B+1)]) rfl trivial (enters_of func220 (by kernel_rfl) rfl)
   (Z4 Fence.wide (8-1) trivial rfl (by omega) (B+1+1) (B+1) X C hX9 hC1 hC9 w1 c1 c2)
   (λh k=>h.trans k) (λW l o o'=>zi.putObj (by intro b hb;have:=HZ.out.1;simp at hb;omega) W l o o') (Below.refl _ _) (λ_=>rfl)
   (Yl w1.heap.size w B 100 3 1 (ZD X C code) Mi) (λ_ _ _=>False)
   (Yl.own (by have:=HZ.out;omega) (λy hy=>(hMi1 y hy).2)) (λ_ _ _ _ _ hs _ _=>hs) hI0
   (Yw w1.heap.size B 100 243 (xt X C) (λx Bx=>{tmps:=#[.int .i64 (X:Int),.int .i64 (C:Int),.string ⟨code.toArray⟩,undef,undef,.pointer (some ⟨Cb,0,none⟩),.slice none 0 0,.int .i64 0,.int .i64 0,.pointer (some ⟨B,0,none⟩),undef,.pointer (some ⟨Bx,0,none⟩),.int .i64 (X:Int),.int .i64 (C:Int),.int .i64 0,.int .i64 0,.bool false,undef,.string ⟨code.toArray⟩,.int .i64 (code.length:Int),.int .i64 (X:Int),.int .i64 (code.length:Int),.bool false,.int .i64 (C:Int),.slice (some ⟨S0,0,none⟩) 0 C,.int .i64 (X:Int),.int .i64 (C:Int),.func (.func 220) #[] #[Xh (B+1+1),Xh (B+1)],.int .i64 (x:Int),.agg #[.int .i64 (zf X C (min x (C-1)):Nat),.int .i64 (ze X C (min x (C-1)):Nat)],undef,undef,undef,undef,undef,undef,undef,undef,undef,undef,undef],defers:=[]}))
   (λx a'=>Yw.own x a') ?assign ?body ?done ?stop
  case assign =>
   rintro l pre x W K hI hK;obtain⟨hz,ad,cap,F,hR,hS⟩:=hI;have hI':=Yl.own (Z:=w1.heap.size) (w:=w) (B:=B) (T:=100) (e:=3) (size:=1) (enc:=ZD X C code) (Mi:=Mi) (by have:=HZ.out;omega) (λy hy=>(hMi1 y hy).2);have HI2:=hid (λo=>hI'.alloc (s:=pre) (W:=W) o ⟨hz,ad,cap,F,hR,hS⟩);have HKB:=hid (λ(o:Obj)=>(show zi [B+1+1,B+1] W (W.alloc o)from⟨by simp,λb hb=>Below.heap_alloc W _ b (by have:=HZ.out.1;simp at hb;omega)⟩));have HVB:=hid (λ(o:Obj)=>(show ∃v,(W.alloc o).heap[B]?=some (.cells #[v] 100 (0,0))/\v.ownBlock≠some W.heap.size from⟨_,(Below.heap_alloc W _ B hS.hlt).trans hS.get,λe=>by
    rcases hR.2 with⟨h,_⟩|⟨g,c',cur,h,hF,_⟩
    .rw[h]at e;cases e
    .rw[h]at e;have hlt:=hS.lt (x:=(g,.cells cur 3 (0,0))) (List.mem_cons_of_mem _ (List.mem_append_left _ (by rw[hF];exact List.mem_cons_self)));have:g=W.heap.size:=by simpa [Value.ownBlock] using e
     omega⟩))
   have HBZ:=hid (show B<w1.heap.size/\B≠W.heap.size by have:=HZ.out.1;have:=hS.hlt;omega);have HZW:=hid hz;clear hI' hR hS hz
   gi_wp2
   exact hK _ _ ((KeepsOthers.alloc _ _).from _) (HKB.out _) (HI2.out _) ⟨W.heap.size,HZW.out,heap_alloc_new W _,HBZ.out.2.symm,HBZ.out.1,HVB.out _,rfl⟩
  case body =>
   rintro l pre x a' W hl ⟨r,hr⟩ hI hV hlt;have hzW:=hI.1;obtain⟨Bx,ad,cap,F,R,rfl,hR,hRest,hS⟩:=Yw.join (by have:=HZ.out;omega) hMi1 hI hV;have e1:(xt X C x).toArray=#[.int .i64 (zf X C (min x (C-1)):Nat),.int .i64 (ze X C (min x (C-1)):Nat)]:=rfl;rw[e1]at hS;have d1:W.cell? ⟨Bx,0,none⟩=some (.int .i64 (zf X C (min x (C-1)):Nat)):=hS.rd (i:=0) (List.mem_append_right _ List.mem_cons_self) rfl;have d2:W.cell? ⟨Bx,1,none⟩=some (.int .i64 (ze X C (min x (C-1)):Nat)):=hS.rd (i:=1) (List.mem_append_right _ List.mem_cons_self) rfl;have d3:W.cell? ⟨B,0,none⟩=some (.slice ad pre.length cap):=hS.rd (i:=0) (List.mem_append_right _ (List.mem_cons_of_mem _ List.mem_cons_self)) rfl;have d4S:W.cell? ⟨Cb,0,none⟩=some (qa code):=hS.rd (i:=0) (List.mem_append_right _ (List.mem_cons_of_mem _ (List.mem_cons_of_mem _ (List.mem_append_left _ (show(Cb,Obj.cells #[qa code] 9 (0,0))∈Mi by rw[HMi.out];exact List.mem_cons_self))))) rfl;have d4:W.cell? ⟨Cb,0,none⟩=some (.string ⟨code.toArray⟩):=d4S;obtain⟨fr,hfr⟩:∃fr,zf X C (min x (C-1))=fr:=⟨_,rfl⟩;obtain⟨bt,hbt⟩:∃bt,ze X C (min x (C-1))=bt:=⟨_,rfl⟩;have hb9:bt<=33:=by rw[<-hbt];exact XP hX32 hC1 _
   have hin:fr+bt<=X:=by rw[<-hfr,<-hbt];exact za4 (by omega) (by omega)
   have HNUM:=hid (λW=>Va5 W code fr bt (by omega) (by have:=HC8.out;omega) (by omega) (by omega));obtain⟨nv,hnv⟩:∃nv,Yt code fr bt=nv:=⟨_,rfl⟩;rw[hnv]at HNUM;have HVV:=hid (show ZD X C code x=[.int .i64 (nv:Int)] by unfold ZD;rw[hfr,hbt,hnv]);have hnv9:(nv:Int)<17179869184:=by
    have:nv<2^bt:=by rw[<-hnv];exact zM code fr bt
    have h2:(2:Nat)^bt<=2^34:=Nat.pow_le_pow_right (by decide) (by omega);have h3:(2:Nat)^34=17179869184:=by decide
    omega
   have hnv0:(0:Int)<=(nv:Int):=by omega
   rw[hfr]at d1 hS|-
   rw[hbt]at d2 hS|-
   have HRST:=hid hRest;have HS:=hid hS;have HR:=hid hR;have hp9:pre.length<=128:=by omega
   unfold qa at HNUM;have HZW:=hid hzW;have HNE:=hid (show B≠Cb/\B≠Bx from⟨by have:=HZ.out.2.2;omega,λe=>by
    have hS9:St w W ((B,Obj.cells #[.slice ad pre.length cap] 100 (0,0))::((F++[(Bx,Obj.cells #[.int .i64 (fr:Int),.int .i64 (bt:Int)] 243 (0,0))])++(Mi++R))):=St.mid (by rw[List.append_assoc];exact hS);exact hS9.ne (x:=(Bx,Obj.cells #[.int .i64 (fr:Int),.int .i64 (bt:Int)] 243 (0,0))) (List.mem_append_left _ (List.mem_append_right _ List.mem_cons_self)) e.symm⟩)
   clear hzW;clear hR hS hRest hI hV hr hl d4S hfr hbt hnv e1
   gi_wp2
   have hmx:prog.follows .mixedOrders=true:=by kernel_rfl
   refine vab (S:=(λw':World=>w'.cell? ⟨Cb,0,none⟩=some (.string ⟨code.toArray⟩)/\w'.cell? ⟨Bx,0,none⟩=some (.int .i64 (fr:Int))/\w'.cell? ⟨Bx,1,none⟩=some (.int .i64 (bt:Int)))) hmx (by
    intro i o ho c e;have hl:i<11:=by
     have:=(Array.getElem?_eq_some_iff.1 ho).1;simpa using this
    rcases(show i=0\/i=1\/i=2\/i=3\/i=4\/i=5\/i=6\/i=7\/i=8\/i=9\/i=10 by omega)with rfl|rfl|rfl|rfl|rfl|rfl|rfl|rfl|rfl|rfl|rfl<;>(simp at ho;subst ho;cases e)) (by rintro⟨a,w,h⟩;exact h) ?_
   have hSd:(λw':World=>w'.cell? ⟨Cb,0,none⟩=some (.string ⟨code.toArray⟩)/\w'.cell? ⟨Bx,0,none⟩=some (.int .i64 (fr:Int))/\w'.cell? ⟨Bx,1,none⟩=some (.int .i64 (bt:Int))) W.drew:=⟨d4,d1,d2⟩;have HCM:=hid (show(Cb,Obj.cells #[qa code] 9 (0,0))∈Mi by rw[HMi.out];exact List.mem_cons_self);have hS0:=HS.out.drew;have bc0:W.drew.cell? ⟨B,0,none⟩=some (.slice ad pre.length cap):=d3;refine wpAnyH_take (i:=1) (v:=.string ⟨code.toArray⟩) rfl (by kernel_rfl) (by kernel_rfl) (by kernel_rfl) (λ_ _ _ h=>h) (Or.inl ⟨by rfl,λw hSw=>?_⟩) hSd ?_
   .obtain⟨s1,s2,s3⟩:=hSw;go_simp
   simp only[Act.put,List.setIfInBounds_toArray,List.set_cons_zero,List.set_cons_succ];refine wpAnyH_take (i:=2) (v:=.pointer (some ⟨Bx,0,none⟩)) rfl (by kernel_rfl) (by kernel_rfl) (by kernel_rfl) (λ_ _ _ h=>h) (Or.inl ⟨by rfl,λw hSw=>?_⟩) hSd ?_
   .obtain⟨s1,s2,s3⟩:=hSw;go_simp
   simp only[Act.put,List.setIfInBounds_toArray,List.set_cons_zero,List.set_cons_succ];refine wpAnyH_take (i:=3) (v:=.int .i64 (fr:Int)) rfl (by kernel_rfl) (by kernel_rfl) (by kernel_rfl) (λ_ _ _ h=>h) (Or.inl ⟨by rfl,λw hSw=>?_⟩) hSd ?_
   .obtain⟨s1,s2,s3⟩:=hSw;go_simp
   simp only[Act.put,List.setIfInBounds_toArray,List.set_cons_zero,List.set_cons_succ];refine wpAnyH_take (i:=4) (v:=.pointer (some ⟨Bx,1,none⟩)) rfl (by kernel_rfl) (by kernel_rfl) (by kernel_rfl) (λ_ _ _ h=>h) (Or.inl ⟨by rfl,λw hSw=>?_⟩) hSd ?_
   .obtain⟨s1,s2,s3⟩:=hSw;go_simp
   simp only[Act.put,List.setIfInBounds_toArray,List.set_cons_zero,List.set_cons_succ];refine wpAnyH_take (i:=5) (v:=.int .i64 (bt:Int)) rfl (by kernel_rfl) (by kernel_rfl) (by kernel_rfl) (λ_ _ _ h=>h) (Or.inl ⟨by rfl,λw hSw=>?_⟩) hSd ?_
   .obtain⟨s1,s2,s3⟩:=hSw;go_simp
   simp only[Act.put,List.setIfInBounds_toArray,List.set_cons_zero,List.set_cons_succ];refine wpAnyH_ready (rs:=[0,6]) (by kernel_rfl) (by simp) ?_;refine AllReadyH.cons rfl (λK hK=>?_) (AllReadyH.cons rfl (λK hK=>?_) AllReadyH.nil)
   .go_simp;refine hK.out _ _ hSd (λhSe=>?_);clear hK K
    try simp only[Act.put,List.setIfInBounds_toArray,List.set_cons_zero,List.set_cons_succ]
    refine wpAnyH_ready (rs:=[6]) (by kernel_rfl) (by simp) ?_;refine AllReadyH.cons rfl (λK hK=>?_) AllReadyH.nil;go_simp;refine(HNUM.out _).mono ?_;rintro e w2 ⟨rfl,hb⟩;have hS2:=hS0.callB hb;have HZ2a:=hid (show W.heap.size<=w2.heap.size from hb.size);have bc2:_=some (Value.slice ad pre.length cap):=hS2.rd (b:=B) (i:=0) (List.mem_append_right _ (List.mem_cons_of_mem _ List.mem_cons_self)) rfl;refine hK.out _ _ ⟨show _=some (qa code)from hS2.rd (i:=0) (List.mem_append_right _ (List.mem_cons_of_mem _ (List.mem_cons_of_mem _ (List.mem_append_left _ HCM.out)))) rfl,hS2.rd (i:=0) (List.mem_append_right _ List.mem_cons_self) rfl,hS2.rd (i:=1) (List.mem_append_right _ List.mem_cons_self) rfl⟩ (λhSf=>?_);clear hK K hb;refine wpAnyH_take (i:=7) (v:=.int .i64 (nv:Int)) rfl (by kernel_rfl) (by kernel_rfl) (by kernel_rfl) (λ_ _ _ h=>h) (Or.inl ⟨by rfl,λw hSw=>?_⟩) hSf ?_
    .obtain⟨s1,s2,s3⟩:=hSw;go_simp;exact IntWalk.i64_in _ (by omega)
    simp only[Act.put,List.setIfInBounds_toArray,List.set_cons_zero,List.set_cons_succ];refine wpAnyH_ready (rs:=[8]) (by kernel_rfl) (by simp) ?_;refine AllReadyH.cons rfl (λK hK=>?_) AllReadyH.nil;go_simp;have hS3:=hS2.alloc (.cells #[.int .i64 (nv:Int)] 3);have hS3':=hS3.tail;have bc3:_=some (Value.slice ad pre.length cap):=hS3'.rd (b:=B) (i:=0) (List.mem_append_right _ (List.mem_cons_of_mem _ List.mem_cons_self)) rfl;refine hK.out _ _ ⟨show _=some (qa code)from hS3'.rd (i:=0) (List.mem_append_right _ (List.mem_cons_of_mem _ (List.mem_cons_of_mem _ (List.mem_append_left _ HCM.out)))) rfl,hS3'.rd (i:=0) (List.mem_append_right _ List.mem_cons_self) rfl,hS3'.rd (i:=1) (List.mem_append_right _ List.mem_cons_self) rfl⟩ (λhSg=>?_);clear hK K;refine wpAnyH_ready (rs:=[9]) (by kernel_rfl) (by simp) ?_;refine AllReadyH.cons rfl (λK hK=>?_) AllReadyH.nil;refine xI (by rfl) _ _ 100 (by rfl) 3 i1 _ 1 8 underlying100 hi1 hz1 hz2 hz3 (by rfl) (by decide) (.slice ad pre.length cap) pre.length (pre.flatMap (ZD X C code)) F ((Bx,.cells #[.int .i64 (fr:Int),.int .i64 (bt:Int)] 243 (0,0))::(B,.cells #[.slice ad pre.length cap] 100 (0,0))::(Mi++R)) (by rfl) HR.out 1 w2.heap.size [.int .i64 (nv:Int)] hS3 (by rfl) (by rfl) (by intro u hu;simp at hu;subst hu;rfl) (by decide) (by unfold maxLen;omega) (by omega) ?_;intro g4 cap4 w4 F4 hR4 hS4 hz4;refine hK.out _ _ ⟨show _=some (qa code)from hS4.rd (i:=0) (List.mem_append_right _ (List.mem_cons_of_mem _ (List.mem_cons_of_mem _ (List.mem_append_left _ HCM.out)))) rfl,hS4.rd (i:=0) (List.mem_append_right _ List.mem_cons_self) rfl,hS4.rd (i:=1) (List.mem_append_right _ List.mem_cons_self) rfl⟩ (λhSd4=>?_);clear hK K;simp only[Act.put,List.setIfInBounds_toArray,List.set_cons_zero,List.set_cons_succ];have f4:w4.frozen? ⟨B,0,none⟩=false:=hS4.free (List.mem_append_right _ (List.mem_cons_of_mem _ List.mem_cons_self)) 0;have bc4:_=some (Value.slice ad pre.length cap):=hS4.rd (b:=B) (i:=0) (List.mem_append_right _ (List.mem_cons_of_mem _ List.mem_cons_self)) rfl;have HZ4:=hid (show W.heap.size<=w4.heap.size from Nat.le_trans HZ2a.out (Nat.le_trans (by simp) hz4));have HS4:=hid hS4;have HR4:=hid hR4;clear hS4 hR4 hz4;refine wpAnyH_ready (rs:=[10]) (by kernel_rfl) (by simp) ?_;refine AllReadyH.cons rfl (λK hK=>?_) AllReadyH.nil;go_simp;obtain⟨k1,k2,k3⟩:=Yl.step HZW.out HZ4.out HRST.out (bs:=[B+1+1,B+1]) (by rw[HMi.out];intro b hb;simp at hb;rcases hb with rfl|rfl;exact⟨_,List.mem_cons_of_mem _ List.mem_cons_self⟩;exact⟨_,List.mem_cons_of_mem _ (List.mem_cons_of_mem _ List.mem_cons_self)⟩) HS.out (enc:=ZD X C code) (x:=x) (by rw[HVV.out];exact HR4.out) HS4.out;refine hK.out _ _ ⟨(World.cell?_setCell_far _ _ _ _ HNE.out.1).trans hSd4.1,(World.cell?_setCell_far _ _ _ _ HNE.out.2).trans hSd4.2.1,(World.cell?_setCell_far _ _ _ _ HNE.out.2).trans hSd4.2.2⟩ (λ_=>?_);refine wpAnyH_done (by kernel_rfl) ?_ _
    gi_wp2
    exact⟨k1,k2,k3⟩
   .go_simp;refine(HNUM.out _).mono ?_;rintro e w2 ⟨rfl,hb⟩;have hS2:=hS0.callB hb;have HZ2a:=hid (show W.heap.size<=w2.heap.size from hb.size);have bc2:_=some (Value.slice ad pre.length cap):=hS2.rd (b:=B) (i:=0) (List.mem_append_right _ (List.mem_cons_of_mem _ List.mem_cons_self)) rfl;refine hK.out _ _ ⟨show _=some (qa code)from hS2.rd (i:=0) (List.mem_append_right _ (List.mem_cons_of_mem _ (List.mem_cons_of_mem _ (List.mem_append_left _ HCM.out)))) rfl,hS2.rd (i:=0) (List.mem_append_right _ List.mem_cons_self) rfl,hS2.rd (i:=1) (List.mem_append_right _ List.mem_cons_self) rfl⟩ (λhSf=>?_);clear hK K hb;refine wpAnyH_take (i:=7) (v:=.int .i64 (nv:Int)) rfl (by kernel_rfl) (by kernel_rfl) (by kernel_rfl) (λ_ _ _ h=>h) (Or.inl ⟨by rfl,λw hSw=>?_⟩) hSf ?_
    .obtain⟨s1,s2,s3⟩:=hSw;go_simp;exact IntWalk.i64_in _ (by omega)
    simp only[Act.put,List.setIfInBounds_toArray,List.set_cons_zero,List.set_cons_succ];refine wpAnyH_ready (rs:=[0,8]) (by kernel_rfl) (by simp) ?_;refine AllReadyH.cons rfl (λK hK=>?_) (AllReadyH.cons rfl (λK hK=>?_) AllReadyH.nil)
    .go_simp;refine hK.out _ _ hSf (λhSe=>?_);clear hK K
     try simp only[Act.put,List.setIfInBounds_toArray,List.set_cons_zero,List.set_cons_succ]
     refine wpAnyH_ready (rs:=[8]) (by kernel_rfl) (by simp) ?_;refine AllReadyH.cons rfl (λK hK=>?_) AllReadyH.nil;go_simp;have hS3:=hS2.alloc (.cells #[.int .i64 (nv:Int)] 3);have hS3':=hS3.tail;have bc3:_=some (Value.slice ad pre.length cap):=hS3'.rd (b:=B) (i:=0) (List.mem_append_right _ (List.mem_cons_of_mem _ List.mem_cons_self)) rfl;refine hK.out _ _ ⟨show _=some (qa code)from hS3'.rd (i:=0) (List.mem_append_right _ (List.mem_cons_of_mem _ (List.mem_cons_of_mem _ (List.mem_append_left _ HCM.out)))) rfl,hS3'.rd (i:=0) (List.mem_append_right _ List.mem_cons_self) rfl,hS3'.rd (i:=1) (List.mem_append_right _ List.mem_cons_self) rfl⟩ (λhSg=>?_);clear hK K;refine wpAnyH_ready (rs:=[9]) (by kernel_rfl) (by simp) ?_;refine AllReadyH.cons rfl (λK hK=>?_) AllReadyH.nil;refine xI (by rfl) _ _ 100 (by rfl) 3 i1 _ 1 8 underlying100 hi1 hz1 hz2 hz3 (by rfl) (by decide) (.slice ad pre.length cap) pre.length (pre.flatMap (ZD X C code)) F ((Bx,.cells #[.int .i64 (fr:Int),.int .i64 (bt:Int)] 243 (0,0))::(B,.cells #[.slice ad pre.length cap] 100 (0,0))::(Mi++R)) (by rfl) HR.out 1 w2.heap.size [.int .i64 (nv:Int)] hS3 (by rfl) (by rfl) (by intro u hu;simp at hu;subst hu;rfl) (by decide) (by unfold maxLen;omega) (by omega) ?_;intro g4 cap4 w4 F4 hR4 hS4 hz4;refine hK.out _ _ ⟨show _=some (qa code)from hS4.rd (i:=0) (List.mem_append_right _ (List.mem_cons_of_mem _ (List.mem_cons_of_mem _ (List.mem_append_left _ HCM.out)))) rfl,hS4.rd (i:=0) (List.mem_append_right _ List.mem_cons_self) rfl,hS4.rd (i:=1) (List.mem_append_right _ List.mem_cons_self) rfl⟩ (λhSd4=>?_);clear hK K;simp only[Act.put,List.setIfInBounds_toArray,List.set_cons_zero,List.set_cons_succ];have f4:w4.frozen? ⟨B,0,none⟩=false:=hS4.free (List.mem_append_right _ (List.mem_cons_of_mem _ List.mem_cons_self)) 0;have bc4:_=some (Value.slice ad pre.length cap):=hS4.rd (b:=B) (i:=0) (List.mem_append_right _ (List.mem_cons_of_mem _ List.mem_cons_self)) rfl;have HZ4:=hid (show W.heap.size<=w4.heap.size from Nat.le_trans HZ2a.out (Nat.le_trans (by simp) hz4));have HS4:=hid hS4;have HR4:=hid hR4;clear hS4 hR4 hz4;refine wpAnyH_ready (rs:=[10]) (by kernel_rfl) (by simp) ?_;refine AllReadyH.cons rfl (λK hK=>?_) AllReadyH.nil;go_simp;obtain⟨k1,k2,k3⟩:=Yl.step HZW.out HZ4.out HRST.out (bs:=[B+1+1,B+1]) (by rw[HMi.out];intro b hb;simp at hb;rcases hb with rfl|rfl;exact⟨_,List.mem_cons_of_mem _ List.mem_cons_self⟩;exact⟨_,List.mem_cons_of_mem _ (List.mem_cons_of_mem _ List.mem_cons_self)⟩) HS.out (enc:=ZD X C code) (x:=x) (by rw[HVV.out];exact HR4.out) HS4.out;refine hK.out _ _ ⟨(World.cell?_setCell_far _ _ _ _ HNE.out.1).trans hSd4.1,(World.cell?_setCell_far _ _ _ _ HNE.out.2).trans hSd4.2.1,(World.cell?_setCell_far _ _ _ _ HNE.out.2).trans hSd4.2.2⟩ (λ_=>?_);refine wpAnyH_done (by kernel_rfl) ?_ _
     gi_wp2
     exact⟨k1,k2,k3⟩
    .go_simp;have hS3:=hS2.alloc (.cells #[.int .i64 (nv:Int)] 3);have hS3':=hS3.tail;have bc3:_=some (Value.slice ad pre.length cap):=hS3'.rd (b:=B) (i:=0) (List.mem_append_right _ (List.mem_cons_of_mem _ List.mem_cons_self)) rfl;refine hK.out _ _ ⟨show _=some (qa code)from hS3'.rd (i:=0) (List.mem_append_right _ (List.mem_cons_of_mem _ (List.mem_cons_of_mem _ (List.mem_append_left _ HCM.out)))) rfl,hS3'.rd (i:=0) (List.mem_append_right _ List.mem_cons_self) rfl,hS3'.rd (i:=1) (List.mem_append_right _ List.mem_cons_self) rfl⟩ (λhSg=>?_);clear hK K;refine wpAnyH_ready (rs:=[0]) (by kernel_rfl) (by simp) ?_;refine AllReadyH.cons rfl (λK hK=>?_) AllReadyH.nil;go_simp;refine hK.out _ _ hSg (λhSe=>?_);clear hK K
     try simp only[Act.put,List.setIfInBounds_toArray,List.set_cons_zero,List.set_cons_succ]
     refine wpAnyH_ready (rs:=[9]) (by kernel_rfl) (by simp) ?_;refine AllReadyH.cons rfl (λK hK=>?_) AllReadyH.nil;refine xI (by rfl) _ _ 100 (by rfl) 3 i1 _ 1 8 underlying100 hi1 hz1 hz2 hz3 (by rfl) (by decide) (.slice ad pre.length cap) pre.length (pre.flatMap (ZD X C code)) F ((Bx,.cells #[.int .i64 (fr:Int),.int .i64 (bt:Int)] 243 (0,0))::(B,.cells #[.slice ad pre.length cap] 100 (0,0))::(Mi++R)) (by rfl) HR.out 1 w2.heap.size [.int .i64 (nv:Int)] hS3 (by rfl) (by rfl) (by intro u hu;simp at hu;subst hu;rfl) (by decide) (by unfold maxLen;omega) (by omega) ?_;intro g4 cap4 w4 F4 hR4 hS4 hz4;refine hK.out _ _ ⟨show _=some (qa code)from hS4.rd (i:=0) (List.mem_append_right _ (List.mem_cons_of_mem _ (List.mem_cons_of_mem _ (List.mem_append_left _ HCM.out)))) rfl,hS4.rd (i:=0) (List.mem_append_right _ List.mem_cons_self) rfl,hS4.rd (i:=1) (List.mem_append_right _ List.mem_cons_self) rfl⟩ (λhSd4=>?_);clear hK K;simp only[Act.put,List.setIfInBounds_toArray,List.set_cons_zero,List.set_cons_succ];have f4:w4.frozen? ⟨B,0,none⟩=false:=hS4.free (List.mem_append_right _ (List.mem_cons_of_mem _ List.mem_cons_self)) 0;have bc4:_=some (Value.slice ad pre.length cap):=hS4.rd (b:=B) (i:=0) (List.mem_append_right _ (List.mem_cons_of_mem _ List.mem_cons_self)) rfl;have HZ4:=hid (show W.heap.size<=w4.heap.size from Nat.le_trans HZ2a.out (Nat.le_trans (by simp) hz4));have HS4:=hid hS4;have HR4:=hid hR4;clear hS4 hR4 hz4;refine wpAnyH_ready (rs:=[10]) (by kernel_rfl) (by simp) ?_;refine AllReadyH.cons rfl (λK hK=>?_) AllReadyH.nil;go_simp;obtain⟨k1,k2,k3⟩:=Yl.step HZW.out HZ4.out HRST.out (bs:=[B+1+1,B+1]) (by rw[HMi.out];intro b hb;simp at hb;rcases hb with rfl|rfl;exact⟨_,List.mem_cons_of_mem _ List.mem_cons_self⟩;exact⟨_,List.mem_cons_of_mem _ (List.mem_cons_of_mem _ List.mem_cons_self)⟩) HS.out (enc:=ZD X C code) (x:=x) (by rw[HVV.out];exact HR4.out) HS4.out;refine hK.out _ _ ⟨(World.cell?_setCell_far _ _ _ _ HNE.out.1).trans hSd4.1,(World.cell?_setCell_far _ _ _ _ HNE.out.2).trans hSd4.2.1,(World.cell?_setCell_far _ _ _ _ HNE.out.2).trans hSd4.2.2⟩ (λ_=>?_);refine wpAnyH_done (by kernel_rfl) ?_ _
     gi_wp2
     exact⟨k1,k2,k3⟩
  case done =>
   rintro D ys W hD rfl hI hK;obtain⟨hz,ad,cap,F,hR,hS⟩:=hI;have d3:W.cell? ⟨B,0,none⟩=some (.slice ad (List.range C).length cap):=hS.cellH 0;have HR:=hid hR;have HS:=hid hS;clear hR hS hz
   gi_wp2
   refine⟨by simp,.inl ⟨_,_,rfl,run_takeDeferred hK,?_⟩⟩;refine⟨_,by simp[results,results101,go_sem],HF.out (.slice ad C cap) F _ (by have:=HR.out;rw[List.length_range]at this;exact this) ?_⟩;exact(HS.out.tail.appL).taken (λx hx=>HR.out.isCells x hx) (by have:=HZ.out;omega) hK rfl
  case stop =>
   rintro D c pre W _ _ h _;exact h.elim
end
def vi(w:World):Prop:=Lib.TabIs prog w "internal/strconv.uint64pow10" .u64 Lib.pow10Tab
theorem ybd:prog.globalNamed "internal/strconv.uint64pow10" = some 1:=by kernel_rfl
theorem vi.lt(h:vi W):1<W.heap.size:=by
 unfold vi Lib.TabIs World.var? at h;rw[ybd]at h;simp only[Km]at h;rcases kR 1 W.heap.size with a|a
 .exact a
 .rw[Array.getElem?_eq_none a]at h;simp at h
theorem vi.below{w w':World}(h:vi w){B:Nat}(b:Below B w w')(a:w.heap.size<=B):vi w' :=
 var?_below b ybd (JG h.lt a) h
theorem qaD(a:Array Obj):Below w.heap.size w (Sort.grow (w.drewN c) a) :=
 ⟨rfl,rfl,rfl,by simp[Sort.grow],λk b=>by
  show(w.heap++a)[k]?=_;rw[Array.getElem?_append_left b]⟩
theorem Q9(n:Nat)(b:n<=1099511627776)(a:vi w):Calls prog 78 #[OI (n:Int)] w (Vd (qa (Lib.itoa (n:Int))) w) :=
 (strconv_Itoa (n:Int) (by omega) (by omega) w a).mono λe w' ⟨he,k,os,hw⟩=>⟨he,hw▸qaD w k os⟩
def jnM(n:Int):Bs:=if n<1\/1099511627776<n then[]else Qa n.toNat
theorem Zq(a:n<=1099511627776):(Lib.itoa (n:Int)).length<=13:=by
 rw[zG]
 exact ZV 12 n (by have:(10:Nat)^13=10000000000000:=by decide
                   omega)
theorem vI(n:Int)(r:-9223372036854775808<=n)(q:n<=9223372036854775807)(f:vi w):Calls prog 30 #[OI n] w (Vd (qa (jnM n)) w):=by
 have i:=Hi f;clear f;unfold qa;go_enter func30,ntmps30;by_cases c1:n<1
 .have b:Hy (jnM n=[]):=Hi (by unfold jnM;rw[jh (KE c1)]);go_wp2_with fail;go_ret;exact Vd.mk (by rw[b.o];try rfl) (jU _ _)
 .by_cases c2:1099511627776<n
  .have b:Hy (jnM n=[]):=Hi (by unfold jnM;rw[jh (Or.inr c2)]);go_wp2_with fail;go_ret;exact Vd.mk (by rw[b.o];try rfl) (jU _ _)
  .have b:Hy (jnM n=106::Lib.itoa ((n.toNat:Nat):Int)):=Hi (by unfold jnM;rw[jd (by omega)];rfl);have c:=Q9 w n.toNat (by omega) i.o;have a:=Zq (n:=n.toNat) (by omega);obtain⟨I,d⟩:=NE (Lib.itoa ((n.toNat:Nat):Int));rw[d]at b c a;rw[JY (by omega)]at c;have h:=Hi c;have p:=zb I;have m:¬ 9223372036854775807<1+I.length:=by omega
   have k:(I.length:Int)<=13:=by omega
   unfold qa at h;clear d c a;go_wp2_with (go_at_call 78;refine MR h.o λl j=>?_);go_ret;exact Vd.mk (by rw[b.o];exact(jT Value.string (yh [106] I)).symm) j.o
end Go.Proofs.YtekkihmmclencaaGreatDoor
