import Derived.Shelf.SlSortCmp.WholeK
import Derived.Shelf.SlSortCmp.NoneTotal
import Derived.Test.YtekkihmmclencaaGreatDoorSf
import Derived.Test.YtekkihmmclencaaGreatDoorM15
namespace Go.Proofs.YtekkihmmclencaaGreatDoor
set_option linter.all false
set_option maxRecDepth 100000
set_option maxHeartbeats 40000000
open Tryz
open Go Go.RowKit Go.Sort Go.Shelf
variable(U w:World)(c:Nat){W V:World}{n b k i j:Nat}{v:Value}{F:va}{d:Dk}{T:TypeId}{o:Op3}{P:Program}{l:List En}{X:List Value}
theorem zaW(e f a:Nat)(D:Dk)(j:Jn)(u:Up)(g:Nat)(M:va)(F:JAt U e f a D j M w)(A:j.gone=false)(r:D.off=false)(q:D.age=j.age)
  (B:u.fit g) (H:0<g) (K:g<=128) (L:g%8=0) (y:Xc j.w=true) (l:j.w/8=(g:Int)) (C:u.seq=j.last+1) (z:D.Fits) (E:j.name.length<=1000000) (v:zg U) :
  Calls prog 104 #[za a,.agg (upV u).toArray] w (xH U e f a M ({ (YD j D u).1 with gone:=decide ((YD j D u).2.2=45)},(YD j D u).2)):=by
 have I:∀(fn:Fn) (first cap:Array Value) (w:World),(Instr.makeFunc fn first cap).run prog w=.ok (.func fn first cap) w:=λ_ _ _ _=>rfl
 have b:=(F.alloc (.cells #[za a] 69)).alloc (.cells (upV u).toArray 35);rw[jF]at b;obtain⟨b2,c⟩:=EN w.heap.size;rw[<-c]at b;have i:JAt U e f a D j ((b2+1,.cells (upV u).toArray 35 (0,0))::(b2,.cells #[za a] 69)::M) ((w.alloc (.cells #[za a] 69)).alloc (.cells (upV u).toArray 35)):=Xa.pm b CN;have d:=Hi (λW (h:JAt U e f a D j ((b2+1,.cells (upV u).toArray 35 (0,0))::(b2,.cells #[za a] 69)::M) W)=>yaH U W e f a D (YD j D u).2.1 j (YD j D u).1 (YD j D u).2.2 _ 166 #[za (b2+1),za b2] (λ_ _=>rfl) h A r q λN J=>xaM U N e f a b2 (b2+1) D j u g M J B H K L y l C z E v);obtain⟨⟨O,P,T⟩,G⟩:=NE (YD j D u);rw[G]at d|-
 simp only at d|-
 obtain⟨t,s⟩:=Hi2 i c;clear b i c F A r q B C z E v G y l;unfold xH at d;simp only at d;unfold upV at *;unfold za qa at *;go_enter func104,ntmps104;go_upto_region 1 with(fail)
 rw[<-s.o];refine t.o.nameC ?_;clear t s;intro p b;have S:=b.rest.tail.tail.cellH 0;have n:=Hi (d.o p b);clear b d;go_wp2_with (go_at_call 130;refine MR n.o λV m=>?_);go_ret;exact⟨rfl,Xa.pmSub (X:=[(b2+1,.cells #[OI u.seq,OI u.kind,OI u.id,OT u.code] 35),(b2,.cells #[OQ a] 69)]) m.o CN⟩
def XD(j:Jn)(D:Dk):Jn × Dk × Int:=if(D.sync j.name).2≠0 then(j,(D.sync j.name).1,(D.sync j.name).2)else({j with synced:=j.last},(D.sync j.name).1,0)
theorem Qr{j:Jn}(h:JAt V n b k d j ((i,.cells #[za k] 69)::F) W):
  OV W i 0 (OQ k)/\OV W k 0 (OQ n)/\OV W k 3 (OT j.name)/\OV W k 5 (OI j.last) :=
 ⟨h.rest.tail.cellH 0,h.rest.cellH 0,h.rest.cellH 3,h.rest.cellH 5⟩
theorem Ya6(d e a c:Nat)(D:Dk)(j:Jn)(M:va)(C:JAt U d e a D j ((c,.cells #[za a] 69)::M) w)(A:D.Fits)(F:j.name.length<=1000000):
  Calls prog 131 #[za c] w (xH U d e a ((c,.cells #[za a] 69)::M) (XD j D)):=by
 have i:=Hi (λW (h:JAt U d e a D j ((c,.cells #[za a] 69)::M) W)=>Vaj h A j.name F);obtain⟨R,k⟩:=NE (XD j D);rw[k];unfold XD at k;obtain⟨⟨z,E⟩,p⟩:=NE (D.sync j.name);rw[p]at i k;simp only at i k;obtain⟨y,x⟩:=Hi2 C k;clear p A k C;unfold qh at i;unfold qa za at i;unfold za;go_enter func131,ntmps131;have B:Hy (∀W,JAt U d e a D j ((c,.cells #[za a] 69)::M) W->OV W c 0 (OQ a)/\OV W a 0 (OQ d)/\OV W a 3 (OT j.name)):=Hi λW h=>⟨(Qr h).1,(Qr h).2.1,(Qr h).2.2.1⟩
 have n:Hy (∀W,JAt U d e a z j ((c,.cells #[za a] 69)::M) W->OV W c 0 (OQ a)/\OV W a 0 (OQ d)/\OV W a 3 (OT j.name)):=Hi λW h=>⟨(Qr h).1,(Qr h).2.1,(Qr h).2.2.1⟩
 have f:Hy (JAt U d e a D j ((c,.cells #[za a] 69)::M) w.drew):=Hi y.o.drew;have m:=Hi (i.o _ f.o);go_upto_region 1 with(fail)
 go_region_held3 (λW=>W.cell? ⟨c,0,none⟩=some (.pointer (some ⟨a,0,none⟩))/\W.cell? ⟨a,0,none⟩=some (.pointer (some ⟨d,0,none⟩))/\W.cell? ⟨a,3,none⟩=some (.string ⟨j.name.toArray⟩)) (first|with_reducible exact n.o _ b.o|with_reducible exact B.o _ f.o|(go_keep;done)) (first|(go_at_call 73;refine m.o.mono ?_;rintro L l ⟨rfl,s⟩;have b:Hy (JAt U d e a z j ((c,.cells #[za a] 69)::M) l):=Hi s;clear s));have t:=x.o;clear B n y f m i;by_cases q:E=0
 .subst q;rw[jd (by simp)]at t;subst t;obtain⟨K,H,I,N⟩:=Qr b.o;have O:=b.o.rest.freeH 6;have G:=b.o.rest.cellH 6;have g:=Hi (Xa.set b.o 6 (OI j.last)).drew;go_upto_region 4 with(fail)
  have v:Hy (∀W,W=l.drew->OV W c 0 (OQ a)/\OV W a 5 (OI j.last)):=Hi λW h=>by subst h;exact⟨(Qr b.o.drew).1,(Qr b.o.drew).2.2.2⟩
  have u:Hy ((l.setCell ⟨a,6,none⟩ (OI j.last)).drew.cell? ⟨c,0,none⟩=some (OQ a)/\(l.setCell ⟨a,6,none⟩ (OI j.last)).drew.cell? ⟨a,5,none⟩=some (OI j.last)):=Hi ⟨g.o.rest.tail.cellH 0,g.o.rest.cellH 5⟩;go_region_held3 (λW=>W.cell? ⟨c,0,none⟩=some (.pointer (some ⟨a,0,none⟩))/\W.cell? ⟨a,5,none⟩=some (.int .i64 j.last)) (first|with_reducible exact u.o|with_reducible exact v.o _ rfl|(go_keep;done)) (fail);go_wp2_with (fail);go_ret;exact⟨rfl,g.o⟩
 .rw[jh q]at t;subst t;have J:(E != 0)=true:=by simpa using q
  go_wp2_with (fail);go_ret;exact⟨rfl,b.o⟩
theorem Vbf(e f a:Nat)(D:Dk)(j:Jn)(M:va)(u:JAt U e f a D j M w)(s:j.gone=false)(n:D.off=false)(y:D.age=j.age)(r:D.Fits)(t:j.name.length<=1000000):
  Calls prog 82 #[za a] w (xH U e f a M ({ (XD j D).1 with gone:=decide ((XD j D).2.2=45)},(XD j D).2)):=by
 have z:∀(fn:Fn) (first cap:Array Value) (w:World),(Instr.makeFunc fn first cap).run prog w=.ok (.func fn first cap) w:=λ_ _ _ _=>rfl
 have b:=u.alloc (.cells #[za a] 69);obtain⟨b2,c⟩:=EN w.heap.size;rw[<-c]at b;have g:JAt U e f a D j ((b2,.cells #[za a] 69)::M) (w.alloc (.cells #[za a] 69)):=Xa.pm b CN;have d:=Hi (λW (h:JAt U e f a D j ((b2,.cells #[za a] 69)::M) W)=>yaH U W e f a D (XD j D).2.1 j (XD j D).1 (XD j D).2.2 _ 131 #[za b2] (λ_ _=>rfl) h s n y λB A=>Ya6 U B e f a b2 D j M A r t);obtain⟨⟨C,E,H⟩,v⟩:=NE (XD j D);rw[v]at d|-
 simp only at d|-
 obtain⟨q,p⟩:=Hi2 g c;clear b g c u s n y r t v;unfold xH at d;simp only at d;unfold za at *;go_enter func82,ntmps82;go_upto_region 1 with(fail)
 rw[<-p.o];refine q.o.nameC ?_;clear q p;intro m b;have G:=b.rest.tail.cellH 0;have l:=Hi (d.o m b);clear b d;go_wp2_with (go_at_call 130;refine MR l.o λI k=>?_);go_ret;exact⟨rfl,Xa.pmSub (X:=[(b2,.cells #[OQ a] 69)]) k.o CN⟩
theorem Qaj{α:Type}[Inhabited α]{a:α->List Value}(c:∀x,(a x).length=k)(b:0<k)(l:List α):flatK a k l.toArray=(l.flatMap a).toArray:=by
 apply Array.ext
 .simp[flatK,vg c]
 .intro t m i;have e:t<l.length*k:=by simpa [flatK] using m
  have f:t/k<l.length:=(ku b).2 e;have d:=JQ t b;have h:=Zj c l (t/k) (t%k) f d;rw[Nat.div_add_mod']at h;have j:(a l[t/k])[t%k]?=some (a l[t/k])[t%k]!:=by
   rw[jt (by rw[c];exact d)];simp[c,d]
  have g:(l.flatMap a)[t]?=some ((l.flatMap a)[t]'(by simpa using i)):=jt _;rw[h,j]at g;simp only[flatK,Array.getElem_map,Array.getElem_range,List.getElem_toArray];rw[getElem!_pos l.toArray (t/k) (by simpa using f)];simp only[List.getElem_toArray];exact Jv g
theorem yaW{a:Array Value}(d:W.heap[n]?=some (.cells a T))(h:a.toList.take X.length=X):Holds id W n 0 X.toArray:=by
 intro j f;have b:j<X.length:=by simpa using f
 refine⟨?_,by simp[World.frozen?,d]⟩;have c:(a.toList.take X.length)[j]?=X[j]?:=by rw[h]
 rw[JT b]at c;simp only[World.cell?,d,Jp];simp only[Option.isSome_none,JD,Jb];rw[<-J3,c];simp[b]
theorem Xa6{h:Array Obj}{a:Array Value}{f:Nat × Nat}(d:Array Value)(c:W.heap[b]?=some (.cells a T f)):
  (grow (putRow id (Sort.ahead W n) b 0 d) h).heap[b]?=some (.cells (putCells id 0 d a) T f):=by
 have i:b<W.heap.size:=(kE.1 c).1;rw[heap_grow_old _ _ (by simpa using i)];simp[putRow,mapBlock,Sort.ahead,U0,c,onCells]
theorem xaW{c:Array Obj}(d:Array Value):W.grownBy (grow (putRow id (Sort.ahead W n) b 0 d) c) (some b):=by
 refine⟨rfl,rfl,rfl,by simp,λk f a=>?_⟩;rw[heap_grow_old _ _ (by simpa using f)];have:b≠k:=λe=>a (by rw[e])
 simp[putRow,mapBlock,Sort.ahead,U0,this]
theorem Va6(a:Array Value)(b:List Value)(h:b.length<=a.size):(putCells id 0 b.toArray a).toList.take b.length=b:=by
 apply KJ;intro j;by_cases hj:j<b.length
 .rw[JT hj,J3];simp[putCells,hj,show j<a.size by omega]
 .rw[List.getElem?_take_eq_none (by omega),List.getElem?_eq_none (by omega)]
def Vp{α:Type}(W0:World)(M:va)(e:TypeId)(k:Nat)(enc:α->List Value)(v:Value)(S:List α)(x:Ending)(w':World):Prop :=
 x=.returned (.tuple #[])/\∃F',Rw e k v S.length (S.flatMap enc) F'/\St W0 w' (F'++M)
theorem Zar{ρ:Ren}(L:SlLaysF0.n6 P ρ){α:Type}(k:Nat)(I:0<k)(e:TypeId)
  (aE:∀w,(isAgg (ρ.t 24)).run P w=.ok true w) (zE:∀w,(Go.sizeOf (ρ.t 24)).run P w=.ok k w)
  (d:α->List Value) (X:∀x,(d x).length=k) (h1:∀x,∀v∈d x,v.oneCell'=true) (h:α->α->Int) (g:Nat) (R:Array Value) (eg:∀args w,(callFunc g args).run P w=.ok (.enter g args) w)
  (W0 w:World) (M F:va) (v:Value) (D:List α)
  (a:∀x∈D,∀y∈D,(h y x<0<->0<h x y)) (O:∀x∈D,∀y∈D,∀z∈D,h x y<=0->h y z<=0->h x z<=0) (G:∀x∈D,∀y∈D,h x y=0->x=y)
  (Q:∀x∈D,∀y∈D,∀W,Calls P g (#[.agg (d x).toArray,.agg (d y).toArray]++R) W λe V=>e=.returned (OI (h x y))/\∃q os',V=grow (W.drewN q) os')
  (hR:Rw e k v D.length (D.flatMap d) F) (U:St W0 w (F++M)) (hn:D.length<=1000000000) :
  Calls P (ρ.f 6) #[v,.func (.func g) #[] R] w (Vp W0 M e k d v (D.mergeSort λx y=>decide (h x y<=0))):=by
 rcases kS D.length with h0|hp
 .have Y:D=[]:=Uc.1 h0;subst Y;obtain⟨ad,j,rfl,_⟩:=hR.form;refine(AnyF.slices_SortFunc_none L ad j (.func (.func g) #[] R) w).mono ?_;rintro e V ⟨rfl,rfl⟩;exact⟨rfl,F,by simpa using hR,U⟩
 .obtain⟨hl,h2⟩:=hR;rcases h2 with⟨_,h0,_⟩|⟨b,j,K,rfl,rfl,h3,h4,h5,h6⟩
  .omega
  .have hb:=U.get;have B:D[0]'hp∈D:=Jc _
   haveI:Inhabited {x:α // x∈D}:=⟨⟨D[0]'hp,B⟩⟩
   have N:D.attach.toArray.size=D.length:=by simp
   have A:∀x:{x:α // x∈D},(d x.1).length=k:=λx=>X x.1
   have H:∀l:List {x:α // x∈D},l.flatMap (λx=>d x.1)=(l.map Subtype.val).flatMap d:=λl=>by rw[kD]
   have p:D.attach.map Subtype.val=D:=List.attach_map_subtype_val D;have C:flatK (λx:{x:α // x∈D}=>d x.1) k D.attach.toArray=(D.flatMap d).toArray:=by
    rw[Qaj A I,H,p]
   have Z:=vg X D;have hH:HoldsK (λx:{x:α // x∈D}=>d x.1) k w b 0 D.attach.toArray:=by
    unfold HoldsK;rw[C];exact yaW hb (by rw[Z];exact h6)
   have hO:SWO (ltOf λx y:{x:α // x∈D}=>h x.1 y.1):=by
    refine⟨λx=>?_,λx y z a1 T=>?_,λx y z a1 T=>?_⟩<;>simp only[ltOf,jG,UR]at *
    .have:=a x.1 x.2 x.1 x.2;omega
    .have t:=O x.1 x.2 y.1 y.2 z.1 z.2 (by omega) (by omega);by_cases c:h x.1 z.1=0
     .have:=G _ x.2 _ z.2 c;have t2:=a x.1 x.2 y.1 y.2;rw[<-this]at T;omega
     .omega
    .have t1:=a x.1 x.2 y.1 y.2;have t2:=a y.1 y.2 z.1 z.2;have t3:=a x.1 x.2 z.1 z.2;have t4:=a y.1 y.2 x.1 x.2;have t5:=a z.1 z.2 y.1 y.2;have t6:=a z.1 z.2 x.1 x.2;have t:=O z.1 z.2 y.1 y.2 x.1 x.2 (by omega) (by omega);omega
   have hT:∀x y:{x:α // x∈D},(ltOf λx y:{x:α // x∈D}=>h x.1 y.1) x y=false->(ltOf λx y:{x:α // x∈D}=>h x.1 y.1) y x=false->x=y:=by
    intro x y a1 T;simp only[ltOf,UR]at a1 T;have:=a x.1 x.2 y.1 y.2;exact Subtype.ext (G _ x.2 _ y.2 (by omega))
   have r:=AnyQ.slices_SortFunc_total L k aE zE (λx:{x:α // x∈D}=>d x.1) A (λx=>h1 x.1) (λx y=>h x.1 y.1) hO g R b 0 j D.attach.toArray w eg (λm os dk _ x y=>Q x.1 x.2 y.1 y.2 _) hH U.hlt (by rw[N];omega) hT;rw[N]at r;refine r.mono ?_;rintro e' V ⟨rfl,n,os,rfl⟩;have E:(D.attach.mergeSort λx y=>!(ltOf λx y:{x:α // x∈D}=>h x.1 y.1) y x).map Subtype.val=D.mergeSort λx y=>decide (h x y<=0):=by
    rw[List.map_mergeSort (s:=λx y=>decide (h x y<=0)),p];intro x hx y hy;have:=a x.1 x.2 y.1 y.2;simp only[ltOf];rw[kj];simp only[Bool.not_eq_true',UR,jG];omega
   obtain⟨S,J⟩:=NE ((D.mergeSort λx y=>decide (h x y<=0)));have u:S.length=D.length:=by rw[<-J];exact(JX _ _).length_eq
   rw[J]at E|-
   have o:flatK (λx:{x:α // x∈D}=>d x.1) k (D.attach.toArray.toList.mergeSort λx y=>!(ltOf λx y:{x:α // x∈D}=>h x.1 y.1) y x).toArray=(S.flatMap d).toArray:=by
    rw[Qaj A I,H,Kw,E]
   have i:=vg X S;refine⟨rfl,[(b,.cells (putCells id 0 (S.flatMap d).toArray K) e)],⟨i,.inr ⟨b,j,_,by rw[u],rfl,by rw[u];exact h3,h4,by simp[putCells,h5],?_⟩⟩,?_⟩
   .rw[<-i];refine Va6 K _ ?_;rw[i,u,h5];exact UO _ h3
   .unfold sortWorldK putRowK;rw[o];exact U.put (xaW _) (Xa6 _ hb)
theorem ZK{α β:Type}{f:α->β}:∀{l:List α},(l.map f).Nodup->∀x∈l,∀y∈l,f x=f y->x=y
 |[],_,x,hx,_,_,_=>by cases hx
 |a::r,h,x,hx,y,hy,e=>by
  rw[ju,jY]at h;rcases jp.1 hx with rfl|c
  .rcases jp.1 hy with rfl|b
   .rfl
   .exact absurd (jg.2 ⟨y,b,e.symm⟩) h.1
  .rcases jp.1 hy with rfl|b
   .exact absurd (jg.2 ⟨x,c,e⟩) h.1
   .exact ZK h.2 x c y b e
theorem zak{α:Type}{r s:α->α->Bool}{l:List α}(h:∀a∈l,∀b∈l,r a b=s a b):l.mergeSort r=l.mergeSort s:=by
 have:=List.map_mergeSort (f:=id) (l:=l) (r:=r) (s:=s) h;simpa using this
theorem Qa6(x:En):∀u∈enV x,u.oneCell'=true:=by
 intro u a;simp only[enV,qa,jp,JF,UF]at a;rcases a with rfl|rfl|rfl|rfl|rfl<;>rfl
structure Qaz (g:Nat) (cf:En->En->Int) (D:List En):Prop where
 enters:∀(args:Array Value) (w:World),(callFunc g args).run prog w=.ok (.enter g args) w
 sgn:∀x∈D,∀y∈D,(cf x y<0<->yb x y<0)/\(0<cf x y<->0<yb x y)
 cmp:∀x∈D,∀y∈D,∀W,Calls prog g #[.agg (enV x).toArray,.agg (enV y).toArray] W λe w'=>e=.returned (.int .i64 (cf x y))/\∃q os',w'=grow (W.drewN q) os'
theorem van(M F:va)(v:Value)(D:List En)(g:Nat)(k:En->En->Int)(f:Qaz g k D)(j:(D.map En.key).Nodup)
  (o:Rw 137 5 v D.length (D.flatMap enV) F) (p:St U w (F++M)) (s:D.length<=1000000000) :
  Calls prog 172 #[v,.func (.func g) #[] #[]] w (Vp U M 137 5 enV v (Qo D)):=by
 have i:=zr;have:=Zar laysSE 5 (by decide) 137 isAgg137 sizeOf137 enV Qe Qa6 k g #[] f.enters U w M F v D
  (λx e y d=>by
   have l:=f.sgn x e y d;have n:=f.sgn y d x e;have q:=i x y;omega)
  (λx e y d z m u A=>by
   have l:=f.sgn x e y d;have n:=f.sgn y d z m;have q:=f.sgn x e z m;have:=ZA (a:=x) (b:=y) (c:=z) (by omega) (by omega);omega)
  (λx e y d a=>by
   have l:=f.sgn x e y d;exact ZK j x e y d (Yo.1 (by omega)))
  (λx e y d W=>f.cmp x e y d W) o p s
 refine this.mono ?_;rintro B t h;have r:Qo D=D.mergeSort λx y=>decide (k x y<=0):=zak λx e y d=>by
  have l:=f.sgn x e y d;unfold leE;rw[kj,jG,jG];omega
 rw[r];exact h
theorem xaH(M F:va)(v:Value)(D:List Pr)(g:Nat)(a:Pr->Pr->Int)(j:∀(args:Array Value) (w:World),(callFunc g args).run prog w=.ok (.enter g args) w)
  (b:∀x∈D,∀y∈D,(a y x<0<->0<a x y)) (d:∀x∈D,∀y∈D,∀z∈D,a x y<=0->a y z<=0->a x z<=0) (f:∀x∈D,∀y∈D,a x y=0->x=y)
  (c:∀x∈D,∀y∈D,∀W,Calls prog g #[.agg (prV x).toArray,.agg (prV y).toArray] W λe w'=>e=.returned (OI (a x y))/\∃q os',w'=grow (W.drewN q) os')
  (i:Rw 86 2 v D.length (D.flatMap prV) F) (h:St U w (F++M)) (k:D.length<=1000000000) :
  Calls prog 53 #[v,.func (.func g) #[] #[]] w (Vp U M 86 2 prV v (D.mergeSort λx y=>decide (a x y<=0))) :=
 Zar laysSP 2 (by decide) 86 isAgg86 sizeOf86 prV YE XaG a g #[] j U w M F v D b d f c i h k
def xB(l:List Nat):List Int:=l.map Int.ofNat
theorem zau(h:o.mode=2):xB (Xs o)=[1]:=by
 unfold xB Xs Qd Zr;simp[h,Ue]
theorem vaW:madeCells (OI 0).cells c=(xg (List.replicate c 0)).toArray:=by
 apply Array.ext
 .simp[madeCells,xg]
 .intro i a b;simp[madeCells,xg,Value.cells,Nat.mod_one]
theorem qaW(g:c<=100000)(W:World):(Instr.makeSlice 100 (OI (c:Int)) (OI (c:Int))).run prog W=.ok (.slice (some ⟨W.heap.size,0,none⟩) c c) (W.alloc (.cells (xg (List.replicate c 0)).toArray 3)):=by
 obtain⟨f,b,d,a,e⟩:=Vs Yal;have:=Ki (P:=prog) W 100 3 f _ underlying100 b d .i64 .i64 (c:Int) (c:Int) (by omega) (by omega) (by rw[a];simp only[JL];omega) (by rw[e];omega) (by omega);simp only[JL,a,JM]at this;rw[vaW]at this;exact this
theorem Rw.putK{F M:va}(h:Rw T k v n X F)(f:St V W (F++M))(j:Nat)(m:j<X.length):
  ∃g a,v=.slice (some ⟨g,0,none⟩) n a/\W.cell? ⟨g,j,none⟩=X[j]?/\W.frozen? ⟨g,j,none⟩=false/\∀c x,∃F',Rw T k v n (X.set j x) F'/\St V ((W.drewN c).setCell ⟨g,j,none⟩ x) (F'++M):=by
 obtain⟨d,o⟩:=h;rcases o with⟨rfl,rfl,rfl⟩|⟨g,a,b,rfl,rfl,r,p,q,i⟩
 .simp at d;simp[d]at m
 .refine⟨g,a,rfl,?_,f.freeH j,λc x=>⟨[(g,.cells (b.setIfInBounds j x) T)],⟨by simpa using d,.inr ⟨g,a,_,rfl,rfl,r,p,by simpa using q,?_⟩⟩,?_⟩⟩
  .rw[f.cellH,<-i,JT (by omega),J3]
  .rw[J5,List.take_set,i]
  .exact(f.drewN c).set j x
def VR(o:Op3)(k:Nat):List Int:=(xB (Xs o)).take k++List.replicate (Qd o-k) 0
theorem qv(o:Op3):(xB (Xs o)).length=Qd o:=by unfold xB Xs;simp
theorem ZaW(o:Op3)(k:Nat)(h:k<=Qd o):(VR o k).length=Qd o:=by
 unfold VR;rw[ja,jN,qv,List.length_replicate];omega
theorem YaW(o:Op3)(k:Nat)(h:k<Qd o):(VR o k).set k ((Zr o k:Nat):Int)=VR o (k+1):=by
 have b:((xB (Xs o)).take k).length=k:=by rw[jN,qv];omega
 have c:k<(xB (Xs o)).length:=by rw[qv];exact h
 have a:(xB (Xs o))[k]=((Zr o k:Nat):Int):=by simp[xB,Xs]
 unfold VR;rw[UZ,jd (by omega),b,Uk,jS c,a,jE]
 congr 1
 rw[show Qd o-k=(Qd o-(k+1))+1 by omega,kJ,ji];rfl
theorem vaM(h:o.mode=1)(k:Nat)(a:k<Qd o):ze o.width.toNat o.chunks.toNat (min k (o.chunks.toNat-1))=Zr o k:=by
 rw[Xw h]at a;unfold Zr;rw[jd (by omega),Uy (by omega)]
theorem yak(a c k:Nat)(h:k<c)(j:Nat)(b:j<2):((List.range c).flatMap (xt a c))[k*2+j]?=(xt a c k)[j]?:=by
 have:=Zj (enc:=xt a c) (k:=2) (λx=>rfl) (List.range c) k j (by simpa using h) b;rw[this];simp
theorem QR(o:Op3)(h:Qb o=0):Calls prog 143 #[.agg (xf o).toArray] w (vl (xB (Xs o)) w):=by
 obtain⟨g1,g2⟩:=yf h;obtain⟨w0,w1,w2⟩:=Xd.1 g1;have a1:=Hi (λg=>zo h g);have q:=Hi (λX=>zau (o:=o) X);have i:=Hi (λg=>Xw (o:=o) g);have d:=Hi (λg=>vaM (o:=o) g);obtain⟨Z,hZ⟩:=EN o;rw[<-hZ]at q i d|-
 obtain⟨b,j,r⟩:=o;simp only at *;have I:=(St.refl w).alloc (.cells (xf ⟨b,j,r⟩).toArray 23);obtain⟨k0,k1,k2⟩:=I.k3 0 1 2;have HA:=Hi I;have a0:Z.mode=r/\Z.width=b/\Z.chunks=j/\xf Z=xf ⟨b,j,r⟩:=by rw[hZ];exact⟨rfl,rfl,rfl,rfl⟩
 obtain⟨z1,z2,z3,z4⟩:=a0;rw[z4];clear I h g1 hZ z4;rw[z1]at q i d;rw[z3]at i d;rw[z2]at d;clear z1 z2 z3;unfold xf at *;rcases g2 with⟨X,c0⟩|⟨g,c1,c2⟩
 .have HV:=Hi (q.o X);subst X;subst c0;have hX:=(HA.o.alloc (.cells #[OI 1] 3)).appL (M1:=[_]);rw[jF]at hX;have HX:=Hi hX;clear hX;go_enter func143,ntmps143;go_wp2_with fail;go_ret;rw[HV.o];exact⟨_,_,rfl,Rw.lit 3 1 1 _ #[OI 1] (by rfl) (by unfold maxLen;omega),HX.o⟩
 .obtain⟨q1,q2,q3⟩:=a1.o g;have m:=Hi (i.o g);have HB:=Hi (d.o g);subst g;obtain⟨c,rfl⟩:∃c:Nat,j=(c:Int):=⟨j.toNat,by omega⟩;have HC:=Hi (λW=>yaf W b (c:Int) (by omega) (by omega) (by omega) (by omega));unfold Vr at HC;simp only[q1,JW,jW,Jb,JL]at HC;simp only[JL]at m HB;obtain⟨ag,ab⟩:c<=128/\(0:Int)<=(c:Int):=by omega
  clear q1;go_enter func143,ntmps143;go_upto_region 4 with(go_at_call 196;refine(HC.o _).mono ?_;rintro e' w2 ⟨v2,F2,rfl,L,P⟩;have G:=Hi L;have F:=Hi (HA.o.call P);clear L P)
  obtain⟨ad,a8,rfl,af,ac,_⟩:=G.o.form;have J:=qaW c (by omega);have S:=J w2;have f:=Hi (F.o.alloc (.cells (xg (List.replicate c 0)).toArray 3));obtain⟨K,v⟩:=EN w2.heap.size;rw[<-v]at f;have H:=Hi v;clear J v;go_upto_region 5 with(fail)
  rw[<-H.o];refine f.o.nameC ?_;clear f S F H;intro w3 a;have f:=Hi a;clear a k0 k1 k2;go_wp2_with fail;go_loopw [25] (λiv wr=>∃(k:Nat) (U:va),k<=c/\iv=OI (k:Int)/\Rw 3 1 (.slice (some ⟨K,0,none⟩) c c) c (xg (VR Z k)) U/\St w wr (U++(F2++[(w.heap.size,.cells #[OI b,OI (c:Int),OI 1] 23)]))) (λiv _=>c-(intOf iv).toNat)
  case atStart =>
   refine⟨0,[(K,.cells (xg (List.replicate c 0)).toArray 3 (0,0))],jX _,rfl,?_,f.o⟩;have:=Rw.lit 3 1 c K (xg (List.replicate c 0)).toArray (by simp[xg]) (by unfold maxLen;omega);unfold VR;rw[m.o,J4,jK,Nat.sub_zero];exact this
  case round =>
   obtain⟨k,U,hk,rfl,l,a⟩:=hrel;have aa:(0:Int)<=(k:Int):=by omega
   by_cases hlt:k<c
   .have z:=ZaW Z k (by rw[m.o];exact hk);have R:=Hi (YaW Z k (by rw[m.o];exact hlt));have Q:=Hi (HB.o k (by rw[m.o];exact hlt));have E:=G.o;obtain⟨g5,a7,a4,u⟩:=E.cells (a.b2) (by intro e;have:=jT List.length e;rw[xaL]at this;simp at this;omega);injection a4 with e1 _ e2
    subst e1;subst e2;have d0:OV wr g5 (k*2) (OI (zf b.toNat c (min k (c-1)):Nat)):=u _ _ (by have:=yak b.toNat c k hlt 0 (by decide);rw[UY]at this;rw[this];rfl);have T:OV wr g5 (k*2+1) (OI (ze b.toNat c (min k (c-1)):Nat)):=u _ _ (by rw[yak b.toNat c k hlt 1 (by decide)];rfl);rw[Q.o]at T;obtain⟨Y,hY⟩:=NE (zf b.toNat c (min k (c-1)));rw[hY]at d0;obtain⟨V,hV⟩:=NE (Zr Z k);rw[hV]at T R;have n:=Hi (a.alloc (.cells #[OI (Y:Int),OI (V:Int)] 243));obtain⟨A,y⟩:=EN wr.heap.size;rw[<-y]at n;obtain⟨C,p⟩:=Hi2 y l;have N:Hy (Qd Z=c):=Hi m.o;obtain⟨ae,a9⟩:(k:Int)<(c:Int)/\(c:Int)<=128:=by omega
    clear a l y u E hY hV Q;go_upto_region 8 with(fail)
    rw[<-C.o];refine n.o.nameC ?_;clear n C d0 T;intro w4 t;have T:OV w4 A 1 (OI (V:Int)):=t.cellH 1;obtain⟨g4,a6,a2,q4,f4,HU⟩:=p.o.putK (M:=(A,.cells #[OI (Y:Int),OI (V:Int)] 243)::(F2++[(w.heap.size,.cells #[OI b,OI (c:Int),OI 1] 23)])) (t.pm CN) k (by rw[xO,z,N.o];exact hlt);injection a2 with e1 e2 e3
    injection e1 with e1
    injection e1 with e1 e4 e5
    subst e1;subst e3;clear e2 e4 e5;rw[zav _ _ (by rw[z,N.o];exact hlt)]at q4;obtain⟨F5,s,B⟩:=HU 0 (OI (V:Int));rw[za3,R.o]at s;have a5:=Hi s;have a3:=Hi (B.pmSub (M':=F5++(F2++[(w.heap.size,.cells #[OI b,OI (c:Int),OI 1] 23)])) (D:=[(A,.cells #[OI (Y:Int),OI (V:Int)] 243)]) (CN));clear HU s B t;go_wp2_with fail;exact⟨⟨k+1,F5,by omega,by go_num,a5.o,a3.o⟩,by simp[intOf];omega⟩
   .obtain rfl:k=c:=by omega
    obtain⟨p,O⟩:=Hi2 l a;clear a l;go_wp2_with fail;go_ret;refine⟨_,U,rfl,?_,O.o.appL⟩;have h1:=qv Z;rw[m.o]at h1;rw[h1];have h2:=p.o;unfold VR at h2;rw[m.o,Uk,kK,jJ,Ji (by omega)]at h2;exact h2
def vt(n:Nat)(o:Op3):List Bs:=(List.range (Qd o)).map (Ve n)
theorem ZL:∀a b:Bs,Op.bytesLess a b=decide (Xg a b<0)
 |[],[]=>by simp[Op.bytesLess,Xg]
 |[],_::_=>by simp[Op.bytesLess,Xg]
 |_::_,[]=>by simp[Op.bytesLess,Xg]
 |a::r,b::s=>by
  have e:=ZL r s;unfold Op.bytesLess Xg;have c:(a<b)<->a.toNat<b.toNat:=Ur;have d:(a==b)=decide (a.toNat=b.toNat):=by
   rw[kj];simp[kP]
  by_cases h:a.toNat<b.toNat
  .simp[h,c]
  .by_cases h':b.toNat<a.toNat
   .have:¬ a.toNat=b.toNat:=by omega
    simp[h,h',c,d,this]
   .have:a.toNat=b.toNat:=by omega
    simp[h,h',c,d,this,e]
theorem zaA(a:Bs)(w:World):Calls prog 257 #[qa a] w (Ret (.bool false) w):=by
 have h:∀W,(binOp .neq 9 (OT a) (OT a)).run prog W=.ok (.bool false) W:=λW=>by rw[binOp_string_neq];simp
 unfold qa;go_enter func257,ntmps257;go_wp2_with fail;go_ret;exact⟨rfl,rfl⟩
theorem za7(a b:Bs)(w:World):Calls prog 211 #[qa a,qa b] w (Ret (.int .i64 (Xg a b)) w):=by
 have i:=Hi (zaA a);have j:=Hi (zaA b);have d:=vaw a b;have c:=ZL a b;unfold qa at *;rcases d with d|d|d
 .rw[d]at c|-
  simp only[Int.reduceLT,decide_true,Int.reduceNeg]at c;have f:¬ (a=b):=λe=>by rw[e,Qw]at d;omega
  clear d;go_enter func211,ntmps211;go_wp2_with (first
   |(go_at_call_of 257 (Value.string ⟨a.toArray⟩);refine(i.o _).mono ?_;rintro h g ⟨rfl,rfl⟩)
   |(go_at_call_of 257 (Value.string ⟨b.toArray⟩);refine(j.o _).mono ?_;rintro h g ⟨rfl,rfl⟩))
  go_ret;exact⟨rfl,rfl⟩
 .have l:=ZN d;subst l;rw[d]at c|-
  simp only[Int.lt_irrefl,decide_false]at c;clear d;go_enter func211,ntmps211;go_wp2_with (first
   |(go_at_call_of 257 (Value.string ⟨a.toArray⟩);refine(i.o _).mono ?_;rintro h g ⟨rfl,rfl⟩))
  go_ret;exact⟨rfl,rfl⟩
 .rw[d]at c|-
  simp only[Int.reduceLT,decide_false]at c;have f:¬ (a=b):=λe=>by rw[e,Qw]at d;omega
  have k:(a==b)=false:=by simp[f]
  clear d;go_enter func211,ntmps211;go_wp2_with (first
   |(go_at_call_of 257 (Value.string ⟨a.toArray⟩);refine(i.o _).mono ?_;rintro h g ⟨rfl,rfl⟩)
   |(go_at_call_of 257 (Value.string ⟨b.toArray⟩);refine(j.o _).mono ?_;rintro h g ⟨rfl,rfl⟩))
  go_ret;exact⟨rfl,rfl⟩
def or3(a b c:Int):Int:=if a≠0 then a else if b≠0 then b else c
def Zbq(w:World)(a b c:Int)(k:Nat)(wr:World):Prop:=wr=w/\(0<k->a=0)/\(1<k->b=0)/\(2<k->c=0)
theorem Qbf(a b d:Int)(x:OV w c 0 (OI a))(v:OV w c 1 (OI b))(u:OV w c 2 (OI d)):
  Calls prog 209 #[.slice (some ⟨c,0,none⟩) 3 3] w (Ret (OI (or3 a b d)) w):=by
 obtain⟨r,l⟩:=NE (or3 a b d);rw[l];have i:=Hi l;clear l;go_enter func209,ntmps209;go_wp2_with fail;go_loopw [8] (λiv wr=>∃(k:Nat),k<=3/\iv=OI (k:Int)/\Zbq w a b d k wr) (λiv _=>3-(intOf iv).toNat)
 case atStart=>exact⟨0,by omega,rfl,rfl,by omega,by omega,by omega⟩
 case round =>
  obtain⟨k,t,rfl,s⟩:=hrel;obtain⟨rfl,n,p,q⟩:=s;have h:=Hi (jy n (jy p q));clear n p q;rcases k with _|_|_|k
  .by_cases f:a=0
   .subst f;go_wp2_with fail;exact⟨⟨1,by omega,by go_num,rfl,by omega,by omega,by omega⟩,by simp[intOf]⟩
   .go_wp2_with fail;go_ret;exact⟨by have:=i.o;unfold or3 at this;rw[jh f]at this;rw[<-this];rfl,rfl⟩
  .have f:a=0:=h.o.1 (by omega);by_cases hb:b=0
   .have e:=Hi f;subst hb;clear f;go_wp2_with fail;exact⟨⟨2,by omega,by go_num,rfl,λ_=>e.o,by omega,by omega⟩,by simp[intOf]⟩
   .have e:=Hi f;clear f;go_wp2_with fail;go_ret;exact⟨by have:=i.o;unfold or3 at this;rw[jd (by rw[e.o];simp),jh hb]at this;rw[<-this];rfl,rfl⟩
  .have e:=Hi (h.o.1 (by omega));have j:=Hi (h.o.2.1 (by omega));have m:Hy (r=d):=Hi (by have:=i.o;unfold or3 at this;rw[jd (by rw[e.o];simp),jd (by rw[j.o];simp)]at this;exact this.symm);by_cases hc:d=0
   .subst hc;go_wp2_with fail;exact⟨⟨3,by omega,by go_num,rfl,λ_=>e.o,λ_=>j.o,λ_=>rfl⟩,by simp[intOf]⟩
   .go_wp2_with fail;go_ret;exact⟨by rw[m.o];rfl,rfl⟩
  .obtain rfl:k=0:=by omega
   have e:=Hi (h.o.1 (by omega));have j:=Hi (h.o.2.1 (by omega));have m:Hy (r=0):=Hi (by have:=i.o;unfold or3 at this;rw[jd (by rw[e.o];simp),jd (by rw[j.o];simp)]at this;rw[<-this];exact h.o.2.2 (by omega));go_wp2_with fail;go_ret;exact⟨by rw[m.o];rfl,rfl⟩
theorem QaD(x y:En):or3 (Vi x.value y.value) (Xg x.code y.code) (Vi x.id y.id)=yb x y:=by
 by_cases h1:x.value=y.value
 .have a:Vi x.value y.value=0:=by unfold Vi;rw[h1];simp
  have d:yb x y=if x.code≠y.code then Xg x.code y.code else Vi x.id y.id:=by unfold yb;rw[jd (λh=>h h1)]
  have e:∀b c,or3 0 b c=if b≠0 then b else c:=λb c=>by unfold or3;rw[jd (λh=>h rfl)]
  rw[a,d,e];by_cases h2:x.code=y.code
  .have f:Xg x.code y.code=0:=by rw[h2];exact Qw _
   rw[jd (λh=>h f),jd (λh=>h h2)]
  .rw[jh (λh=>h2 (ZN h)),jh h2]
 .have a:Vi x.value y.value≠0:=by unfold Vi;split<;>(try split)<;>omega
  have d:yb x y=Vi x.value y.value:=by unfold yb;rw[jh h1]
  rw[d];unfold or3;rw[jh a]
theorem qaM(a b:Int):Lib.compareInt a b=Vi a b:=by unfold Lib.compareInt Vi;split<;>(try split)<;>(try split)<;>omega
theorem qbp(a b c:Obj):((w.alloc a).alloc b).drew.alloc c=grow (w.drewN 1) #[a,b,c]:=by
 have h:w.heap++#[a,b,c]=((w.heap.push a).push b).push c:=by apply ky.1;simp
 unfold grow World.drewN;simp only[h];rfl
def YT(c:Int)(w:World)(e:Ending)(w':World):Prop:=e=.returned (.int .i64 c)/\∃q os',w'=grow (w.drewN q) os'
theorem ya7(w:World)(x y:En):Calls prog 208 #[.agg (enV x).toArray,.agg (enV y).toArray] w (YT (yb x y) w):=by
 have k:=((St.refl w).alloc (.cells (enV x).toArray 137)).alloc (.cells (enV y).toArray 137);rw[jF]at k;obtain⟨C,l⟩:=EN w.heap.size;rw[<-l]at k;obtain⟨E,t⟩:=Hi2 l k;have q:=Hi (λ(a b:Int) W=>cmp_Compare_int a b W);simp only[qaM]at q;have j:=Hi (za7 x.code y.code);have p:=Hi (λW g c z B v=>Qbf W g (Vi x.value y.value) (Xg x.code y.code) c z B v);have I:=Hi (QaD x y);clear l k;unfold Ret at j p;unfold enV qa at *;go_enter func208,ntmps208;go_upto_region 1 with(fail)
 rw[<-E.o];have d:=t.o;have s:=Hi (qbp w (.cells #[.int .i64 x.value,.string ⟨x.code.toArray⟩,.int .i64 x.id,.int .i64 x.seq,.bool x.dead] 137) (.cells #[.int .i64 y.value,.string ⟨y.code.toArray⟩,.int .i64 y.id,.int .i64 y.seq,.bool y.dead] 137) (.cells #[.int .i64 (Vi x.value y.value),.int .i64 (Xg x.code y.code),.int .i64 (Vi x.id y.id)] 3));clear t;obtain⟨f,i⟩:=NE ((w.alloc (.cells #[.int .i64 x.value,.string ⟨x.code.toArray⟩,.int .i64 x.id,.int .i64 x.seq,.bool x.dead] 137)).alloc (.cells #[.int .i64 y.value,.string ⟨y.code.toArray⟩,.int .i64 y.id,.int .i64 y.seq,.bool y.dead] 137));simp only[List.toArray]at d;rw[i]at d s|-
 clear i;have F:f.cell? ⟨C,0,none⟩=some (.int .i64 x.value):=d.tail.cellH 0;have G:f.cell? ⟨C,1,none⟩=some (.string ⟨x.code.toArray⟩):=d.tail.cellH 1;have H:f.cell? ⟨C,2,none⟩=some (.int .i64 x.id):=d.tail.cellH 2;have A:f.cell? ⟨C+1,0,none⟩=some (.int .i64 y.value):=d.cellH 0;have u:f.cell? ⟨C+1,1,none⟩=some (.string ⟨y.code.toArray⟩):=d.cellH 1;have b2:f.cell? ⟨C+1,2,none⟩=some (.int .i64 y.id):=d.cellH 2;have r:=Hi (λD=>let h:=d.drew.alloc D;jy (h.tail.tail.cellH 0) (jy (h.tail.tail.cellH 1) (jy (h.tail.tail.cellH 2) (jy (h.tail.cellH 0) (jy (h.tail.cellH 1) (h.tail.cellH 2))))));have m:=Hi (p.o _ _ (Vi x.id y.id) ((d.drew.alloc (.cells #[.int .i64 (Vi x.value y.value),.int .i64 (Xg x.code y.code),.int .i64 (Vi x.id y.id)] 3)).cellH 0) ((d.drew.alloc (.cells #[.int .i64 (Vi x.value y.value),.int .i64 (Xg x.code y.code),.int .i64 (Vi x.id y.id)] 3)).cellH 1) ((d.drew.alloc (.cells #[.int .i64 (Vi x.value y.value),.int .i64 (Xg x.code y.code),.int .i64 (Vi x.id y.id)] 3)).cellH 2));have J:=Hi ((d.drew.alloc (.cells #[.int .i64 (Vi x.value y.value),.int .i64 (Xg x.code y.code),.int .i64 (Vi x.id y.id)] 3)).below);clear d p;go_region_held3 (λe=>e.cell? ⟨C,0,none⟩=some (.int .i64 x.value)/\e.cell? ⟨C,1,none⟩=some (.string ⟨x.code.toArray⟩)/\e.cell? ⟨C,2,none⟩=some (.int .i64 x.id)/\e.cell? ⟨C+1,0,none⟩=some (.int .i64 y.value)/\e.cell? ⟨C+1,1,none⟩=some (.string ⟨y.code.toArray⟩)/\e.cell? ⟨C+1,2,none⟩=some (.int .i64 y.id)) (first|exact⟨F,G,H,A,u,b2⟩|with_reducible exact r.o _|(go_keep;done)) (first
  |(go_at_call_of 210 (Value.int IntKind.i64 x.value);refine(q.o _ _ _).mono ?_;rintro n e ⟨rfl,rfl⟩)
  |(go_at_call_of 210 (Value.int IntKind.i64 x.id);refine(q.o _ _ _).mono ?_;rintro n e ⟨rfl,rfl⟩)
  |(go_at_call 211;refine(j.o _).mono ?_;rintro n e ⟨rfl,rfl⟩)
  |(go_at_call 209;refine m.o.mono ?_;rintro n e ⟨rfl,rfl⟩))
 all_goals
  go_wp2_with fail;go_ret;refine⟨?_,1,_,s.o⟩;rw[<-I.o];rfl
theorem V4:∃i,prog.info? 9=some i/\∃z,i.zero=some z/\i.size=1/\z.cells.size=1/\∃by_,i.bytes=by_/\by_<=128:=by
 have h:(prog.info? 9).map (λi=>(i.zero.map (λz=>z.cells.size),i.size,decide (i.bytes<=128)))=some (some 1,1,true):=by kernel_rfl
 obtain⟨i,e,b⟩:=jL.1 h;simp only[Je,jL,jG]at b;obtain⟨⟨z,f,a⟩,c,d⟩:=b;exact⟨i,e,z,f,c,a,_,rfl,d⟩
def stV(b:Bs):List Value:=[qa b]
theorem zbg(b:Bs):(stV b).length=1:=rfl
theorem qan(b:Bs):∀u∈stV b,u.oneCell'=true:=by
 intro u a;simp only[stV,qa,jp,JF,UF]at a;rcases a with rfl;rfl
theorem QM(o:Op3):(vt c o).length=Qd o:=by unfold vt;simp
theorem Qac(h:k<Qd o):(vt n o).take (k+1)=(vt n o).take k++[Ve n k]:=by
 have a:k<(vt n o).length:=by rw[QM];exact h
 rw[jS a];simp[vt]
theorem va7(n:Nat)(o:Op3)(h:Qb o=0)(n0:1<=n)(n1:n<=1099511627776)(D:vi w):
  Calls prog 97 #[OI (n:Int),.agg (xf o).toArray] w (Xe 9 1 stV (vt n o) w):=by
 have q:=(St.refl w).alloc (.cells (xf o).toArray 23);obtain⟨k0,k1,k2⟩:=q.k3 0 1 2;have HG:=Hi (λW=>zaa W (n:Int) o h (by omega) (by omega));have B:=Hi (λW=>QR W o h);have a2:=Hi D;have HN:=Hi (λW (j:Nat) (hj:j<=1000) (hb:Below w.heap.size w W)=>yaa W n j n1 hj (D.below hb (jm _)));obtain⟨t0,t1⟩:=Yj h;have i:(xB (Xs o)).length=Qd o:=qv o;have S:=Hi q;obtain⟨i0,hi,z,hz,O,L,p,J,C⟩:=V4;clear q D;unfold vl at B;rw[i]at B;unfold xf at *;obtain⟨T,E⟩:=NE (Qd o);rw[E]at B t0 t1;have e:=Hi E;clear E i;go_enter func97,ntmps97;go_upto_region 4 with(go_at_call 139;refine(HG.o _).mono ?_;rintro U P ⟨rfl,u⟩;have m:=Hi (S.o.callB u);clear u)
 have a:=m.o;obtain⟨q0,q1,q2⟩:=a.k3 0 1 2;clear a k0 k1 k2 S;go_upto_region 5 with(go_at_call 143;refine(B.o _).mono ?_;rintro U w3 ⟨v3,F3,rfl,l,t⟩;obtain⟨a1,X,rfl,_⟩:=l.form;have K:=Hi ((m.o.call t).toSt0);clear l t)
 go_loopw [14,5] (λiv lv wr=>∃(k:Nat) (y:Option Addr) (A:Nat) (F:va),k<=T/\iv=OI (k:Int)/\lv=.slice y k A/\Rw 9 1 (.slice y k A) k (((vt n o).take k).flatMap stV) F/\St w wr F) (λiv _ _=>T-(intOf iv).toNat)
 case atStart=>exact⟨0,none,0,[],jX _,rfl,rfl,Rw.nil _ _,K.o⟩
 case round =>
  obtain⟨k,y,A,F,hk,rfl,rfl,Z,hS⟩:=hrel;obtain⟨V,N⟩:=Hi2 Z hS;have a3:(0:Int)<=(k:Int):=by omega
  clear Z hS;by_cases hlt:k<T
  .have f:=Hi (HN.o wr k (by omega) N.o.below);have c:=Hi (Qac (n:=n) (o:=o) (k:=k) (by rw[e.o];exact hlt));obtain⟨x,v⟩:=NE (Ve n k);rw[v]at f c;have a0:(k:Int)<(T:Int):=by omega
   have b:(k+1)*p<=140737488355328:=jI (Jg (show k+1<=200 by omega) C) (by decide);have G:k+1<=maxLen:=by unfold maxLen;omega
   clear v;unfold qa at f;go_wp2_with (first
    |(go_at_call 146;refine f.o.mono ?_;rintro U w5 ⟨rfl,r⟩;have M:=Hi (N.o.callB r);clear r)
    |(at_builtin;refine xh (W0:=w) (by rfl) _ _ 93 (by rfl) 9 i0 z 1 p underlying93 hi hz O J L (by decide) (.slice y k A) k _ F [] (by rfl) V.o (by rw[jJ];exact M.o) 1 w5.heap.size [OT x] (by rfl) (by rfl) (by rfl) (qan x) G b ?_;intro v' W' F' d s;obtain⟨Q,g,rfl,_⟩:=d.form;obtain⟨H,I⟩:=Hi2 d s;clear d s))
   refine⟨⟨k+1,Q,g,F',by omega,by go_num,rfl,?_,by have:=I.o;rwa [jJ]at this⟩,by simp[intOf];omega⟩;rw[c.o,jD];exact H.o
  .obtain rfl:k=T:=by omega
   have Y:Hy ((vt n o).take k=vt n o/\(vt n o).length=k):=Hi ⟨Ji (by rw[QM,e.o];omega),by rw[QM,e.o]⟩;go_wp2_with fail;go_ret;have R:=V.o;rw[Y.o.1]at R;exact⟨_,F,rfl,by rw[Y.o.2];exact R,N.o⟩
theorem yaA{α:Type}{b:α->List Value}(c:∀x,(b x).length=k):∀(l:List α) (i j:Nat) (v:Value) (x':α) (hi:i<l.length),b x'=(b l[i]).set j v->j<k->(l.flatMap b).set (i*k+j) v=(l.set i x').flatMap b
 |[],i,_,_,_,hi,_,_=>by simp at hi
 |a::r,0,j,v,x',_,he,hj=>by
  simp only[jB,ji,KT,Jp,List.getElem_cons_zero]at *;rw[UZ,jh (by rw[c];exact hj),he]
 |a::r,i+1,j,v,x',hi,he,hj=>by
  simp only[jB,jj,List.getElem_cons_succ]at *;have:=yaA c r i j v x' (by simpa using hi) he hj;rw[UZ,jd (by rw[c,Ul];omega),c,show(i+1)*k+j-k=i*k+j by rw[Ul];omega,this]
theorem vaf{f:En->En}(a:k<l.length)(v:Value)(h:enV (f l[k])=(enV l[k]).set 0 v):((upd f k l).flatMap enV).set (k*5) v=(upd f (k+1) l).flatMap enV:=by
 have b:k<(upd f k l).length:=by rw[Vv];exact a
 have c:(upd f k l)[k]=l[k]:=by
  have:=qaF f k l a;rw[jt b,jt a]at this;exact Jv this
 have:=yaA Qe (upd f k l) k 0 v (f l[k]) b (by rw[c];exact h) (by decide);rw[UY]at this;rw[this,Xbd f k l a]
theorem Xbm(lv:Value)(l:List En)(a:qe enV 5 w lv l)(d:qt lv)(P:l.length<=1000000000):Calls prog 141 #[lv] w (Xe 137 5 enV (l.map En.zero) w):=by
 have B:=Hi (V3 w lv l a d P);obtain⟨X,L,v,R,G,_⟩:=id a;subst v;unfold Xe at B;clear a d;go_enter func141,ntmps141;go_upto_region 2 with(go_at_call 197;refine B.o.mono ?_;rintro W Z ⟨Y,I,rfl,h,j⟩;obtain⟨q,b,rfl,y,A,_⟩:=h.form;obtain⟨s,r⟩:=Hi2 h j;clear h j)
 obtain⟨T,H,O⟩:(0:Int)<=(l.length:Int)/\(l.length:Int)<=(b:Int)/\(l.length:Int)<=1000000000:=by omega
 go_wp2_with fail;go_loopw [9] (λiv wr=>∃(k:Nat) (F:va),k<=l.length/\iv=OI (k:Int)/\Rw 137 5 (.slice q l.length b) l.length ((upd En.zero k l).flatMap enV) F/\St w wr F) (λiv _=>l.length-(intOf iv).toNat)
 case atStart=>exact⟨0,I,jX _,rfl,by rw[zae];exact s.o,r.o⟩
 case round =>
  obtain⟨k,F,V,rfl,n,p⟩:=hrel;have K:(0:Int)<=(k:Int):=by omega
  by_cases hlt:k<l.length
  .obtain⟨g,c,S,x,U,C⟩:=n.putK (M:=[]) (by rw[jJ];exact p) (k*5) (by rw[vg Qe,Vv];omega);injection S with e1 e2 e3
   subst e1;subst e3;clear e2;have f:=Zj Qe (upd En.zero k l) k 0 (by rw[Vv];exact hlt) (by decide);rw[UY]at f;rw[f]at x;obtain⟨D,i⟩:∃D,(enV ((upd En.zero k l)[k]'(by rw[Vv];exact hlt)))[0]?=some D:=⟨_,rfl⟩;rw[i]at x;obtain⟨J,e,m⟩:=C 0 (OI 0);rw[vaf hlt (OI 0) rfl]at e;obtain⟨t,u⟩:=Hi2 e m;have E:(k:Int)<(l.length:Int):=by omega
   clear C n p e m f i;go_wp2_with fail;exact⟨⟨k+1,J,by omega,by go_num,t.o,by have:=u.o;rwa [jJ]at this⟩,by simp[intOf];omega⟩
  .obtain rfl:k=l.length:=by omega
   obtain⟨N,Q⟩:=Hi2 n p;clear n p;go_wp2_with fail;go_ret;have z:=N.o;rw[yae]at z;exact⟨_,F,rfl,by rw[jz];exact z,Q.o⟩
theorem qa7{code:Bs}(h:j<Qd o):(xg (vm o code))[j]?=some (OI (Yf o j code)):=by
 simp[xg,vm,h]
theorem xaA(o:Op3)(a:Bs):(vm o a).length=Qd o:=by simp[vm]
theorem Yar(h:St V W F)(a:(n,Obj.cells (xf o).toArray 23 (0,0))∈F):OV W n 0 (OI o.width)/\OV W n 1 (OI o.chunks)/\OV W n 2 (OI o.mode) :=
 ⟨h.rd a rfl,h.rd a rfl,h.rd a rfl⟩
theorem ZaM(l:List En):Qaz 208 yb l where
 enters:=kf func208 (by kernel_rfl) rfl
 sgn:=λ_ _ _ _=>⟨Iff.rfl,Iff.rfl⟩
 cmp:=λx _ y _ W=>ya7 W x y
theorem Zan(o:Op3)(j:Nat)(lv:Value)(l:List En)(h:Qb o=0)(hj:j<Qd o)(r:∀e∈l,(e.code.length:Int)=o.width/8)(d:(l.map En.pair).Nodup)(s:qe enV 5 w lv l)(u:qt lv)(hl:l.length<=2097152):
  Calls prog 144 #[.agg (xf o).toArray,OI (j:Int),lv] w (Xe 137 5 enV (Qc o j l) w):=by
 have hA:=(St.refl w).alloc (.cells (xf o).toArray 23);obtain⟨C,hC⟩:=EN w.heap.size;rw[<-hC]at hA;have N:=Hi hC;obtain⟨ad,aw,ag,aq,au,_⟩:=id s;subst ag;have HC:=Hi (λW z=>V3 W _ l (s.below (B:=w.heap.size) z (jm _)) u (by omega));have J:=Hi (λW code hc=>YaV W o code h hc);obtain⟨HJ,ab,HP,HA⟩:=Hi4 hj r d hA;unfold Xe at HC;unfold vl at J;simp only[xaA]at J;obtain⟨a3,al⟩:(j:Int)<(Qd o:Int)/\(0:Int)<=(j:Int):=by omega
 obtain⟨T,hT⟩:=NE (Qd o);rw[hT]at J a3;have ap:=Hi hT;clear s u hj r d hA hC hT;unfold xf at J|-
 unfold qa at J;go_enter func144,ntmps144;go_upto_region 1 with(fail)
 rw[<-N.o];have n:=Hi (show St w (w.alloc (.cells (xf o).toArray 23)) _ from HA.o);unfold xf at n;refine n.o.nameC ?_;clear HA n N;intro w1 P;have n:=Hi P;clear P;go_upto_region 2 with(go_at_call 197;refine(HC.o _ n.o.below).mono ?_;rintro e' w2 ⟨v2,F2,rfl,b,S⟩;obtain⟨Q,m,rfl,ah,ai,_⟩:=b.form;have a6:=Hi b;have a4:=Hi (n.o.call S);clear b S)
 obtain⟨ar,ak,ao⟩:(0:Int)<=(l.length:Int)/\(l.length:Int)<=(m:Int)/\(l.length:Int)<=2097152:=by omega
 go_wp2_with fail;go_loopw [13] (λiv wr=>∃(k:Nat) (F:va),k<=l.length/\iv=OI (k:Int)/\Rw 137 5 (.slice Q l.length m) l.length ((upd (En.inT o j) k l).flatMap enV) F/\St w wr (F++[(C,.cells (xf o).toArray 23 (0,0))])) (λiv _=>l.length-(intOf iv).toNat)
 case atStart=>exact⟨0,F2,jX _,rfl,by rw[zae];exact a6.o,a4.o⟩
 case round =>
  obtain⟨k,F,hk,rfl,hR,I⟩:=hrel;have an:(0:Int)<=(k:Int):=by omega
  by_cases hlt:k<l.length
  .obtain⟨g,c,hv,O⟩:=hR.cells I (by intro e;have:=jT List.length e;rw[vg Qe,Vv]at this;simp at this;omega);injection hv with e1 e2 e3
   subst e1;subst e3;clear e2;have E:k<(upd (En.inT o j) k l).length:=by rw[Vv];exact hlt
   have Z:(upd (En.inT o j) k l)[k]=l[k]:=by
    have:=qaF (En.inT o j) k l hlt;rw[jt E,jt hlt]at this;exact Jv this
   have a:∀i x,i<5->(enV l[k])[i]?=some x->OV wr g (k*5+i) x:=λi x hi hx=>O _ _ (by rw[Zj Qe _ k i E hi,Z];exact hx)
   obtain⟨e,he⟩:=NE (l[k]);have y:=Hi (ab.o _ (Jc hlt));rw[he]at a y;have d1:OV wr g (k*5+1) (qa e.code):=a 1 _ (by decide) rfl;have av:(k:Int)<(l.length:Int):=by omega
   have a1:=Hi (J.o wr.drew e.code y.o);have L:=hR;have Y:=Hi (vaf (f:=En.inT o j) hlt (OI (Yf o j l[k].code)) rfl);rw[he]at Y;have ac:=Hi (qa7 (o:=o) (code:=e.code) HJ.o);have HU:Hy (∀(W:World),Below wr.drew.heap.size wr.drew W->(∃v,OV W g (k*5) v)/\OZ W g (k*5)/\∃V,Rw 137 5 (.slice (some ⟨g,0,none⟩) l.length m) l.length ((upd (En.inT o j) (k+1) l).flatMap enV) V/\St w (W.setCell ⟨g,k*5,none⟩ (OI (Yf o j e.code))) (V++[(C,.cells (xf o).toArray 23 (0,0))])):=Hi (by
    intro W z;obtain⟨g',c',ae,q0,f0,a5⟩:=L.putK (I.drew.callB z) (k*5) (by rw[vg Qe,Vv];omega);injection ae with e1 e2 e3
    injection e1 with e1
    injection e1 with e1 e4 e5
    subst e1;have hq:∃v,OV W g (k*5) v:=⟨_,q0.trans (jt (by rw[vg Qe,Vv];omega))⟩;obtain⟨V,A,H⟩:=a5 0 (OI (Yf o j e.code));rw[Y.o]at A;exact⟨hq,f0,V,A,H⟩)
   have HL:=Hi (λ(W:World) (z:Below wr.drew.heap.size wr.drew W)=>Yar (I.drew.callB z) (je _ jc));have a9:Hy (∀(W:World),Below wr.drew.heap.size wr.drew W->(W.setCell ⟨g,k*5,none⟩ (OI (Yf o j e.code))).cell? ⟨C,0,none⟩=some (OI o.width)/\(W.setCell ⟨g,k*5,none⟩ (OI (Yf o j e.code))).cell? ⟨C,1,none⟩=some (OI o.chunks)/\(W.setCell ⟨g,k*5,none⟩ (OI (Yf o j e.code))).cell? ⟨C,2,none⟩=some (OI o.mode)):=Hi (by
    intro W z;obtain⟨_,_,V,A,H⟩:=HU.o W z;exact Yar H (je _ jc))
   have K:xg (vm o e.code)≠[]:=by intro hh;have:=jT List.length hh;rw[xO,xaA]at this;simp at this;have:=HJ.o;omega
   have aa:=Hi K;clear O a he hR L Z E I K;unfold qa at *;go_upto_region 5 with(fail)
   refine wp_region_noPanic ?_;refine wp_region_held_drew (S:=(λw'=>w'.cell? ⟨C,0,none⟩=some (.int .i64 o.width)/\w'.cell? ⟨C,1,none⟩=some (.int .i64 o.chunks)/\w'.cell? ⟨C,2,none⟩=some (.int .i64 o.mode))) (by kernel_rfl) (by (try dsimp only)<;>(first|with_reducible exact a9.o _ G|with_reducible exact HL.o _ G|with_reducible exact HL.o _ (jU _ _)|(go_keep;done))) λhHq=>?_;refine' TK 0 rfl ?_ ?_;rotate_left;intro wq hwq;go_simp<;>rfl;(try simp only[Act.put,jf,ji,jj]);refine' TK 1 rfl ?_ ?_;rotate_left;intro wq hwq;go_simp<;>rfl;(try simp only[Act.put,jf,ji,jj]);refine' TK 2 rfl ?_ ?_;rotate_left;intro wq hwq;go_simp<;>rfl;(try simp only[Act.put,jf,ji,jj]);refine' TK 3 rfl ?_ ?_;rotate_left;intro wq hwq;go_simp<;>rfl;(try simp only[Act.put,jf,ji,jj]);refine' TK 4 rfl ?_ ?_;rotate_left;intro wq hwq;go_simp<;>rfl;(try simp only[Act.put,jf,ji,jj]);refine' TK 5 rfl ?_ ?_;rotate_left;intro wq hwq;go_simp<;>rfl;(try simp only[Act.put,jf,ji,jj]);refine' TK 6 rfl ?_ ?_;rotate_left;intro wq hwq;go_simp<;>rfl;(try simp only[Act.put,jf,ji,jj]);refine' TK 9 rfl ?_ ?_;rotate_left;intro wq hwq;go_simp<;>rfl;(try simp only[Act.put,jf,ji,jj]);refine BR 7 (by kernel_rfl) rfl λKq hKq=>?_;go_simp;refine hKq.out _ _ (by assumption) λhHq=>?_;clear hKq Kq;(try simp only[Act.put,jf,ji,jj]);refine BR 8 (by kernel_rfl) rfl λKq hKq=>?_;go_simp;(go_at_call 207;refine a1.o.mono ?_;rintro e' w5 ⟨v5,F5,rfl,t,p⟩;have G:=p.below;obtain⟨g5,aj,rfl,U⟩:=t.cells (M:=[]) (by rw[jJ];exact p) aa.o;have p0:=U _ _ ac.o;obtain⟨⟨v0,q0⟩,f0,F6,R,X⟩:=HU.o _ G;obtain⟨a2,a7⟩:=Hi2 R X;clear t p U R X);refine hKq.out _ _ (by (try dsimp only)<;>(first|with_reducible exact a9.o _ G|with_reducible exact HL.o _ G|with_reducible exact HL.o _ (jU _ _)|(go_keep;done))) λhHq=>?_;clear hKq Kq;(try simp only[Act.put,jf,ji,jj]);refine' TK 10 rfl ?_ ?_;rotate_left;intro wq hwq;go_simp<;>rfl;(try simp only[Act.put,jf,ji,jj]);refine BR 11 (by kernel_rfl) rfl λKq hKq=>?_;go_simp;refine hKq.out _ _ (by assumption) λhHq=>?_;clear hKq Kq;(try simp only[Act.put,jf,ji,jj]);refine' TK 12 rfl ?_ ?_;rotate_left;intro wq hwq;go_simp<;>rfl;(try simp only[Act.put,jf,ji,jj]);refine' TK 13 rfl ?_ ?_;rotate_left;intro wq hwq;go_simp<;>rfl;(try simp only[Act.put,jf,ji,jj]);refine BR 14 (by kernel_rfl) rfl λKq hKq=>?_;go_simp;refine hKq.out _ _ (by (try dsimp only)<;>(first|with_reducible exact a9.o _ G|with_reducible exact HL.o _ G|with_reducible exact HL.o _ (jU _ _)|(go_keep;done))) λhHq=>?_;clear hKq Kq;(try simp only[Act.put,jf,ji,jj]);refine wpAnyH_done (by kernel_rfl) ?_ _;refine NoPanic.normal ?_
   all_goals
    go_wp2_with fail;exact⟨⟨k+1,F6,by omega,by go_num,a2.o,a7.o⟩,by simp[intOf];omega⟩
  .obtain rfl:k=l.length:=by omega
   have b:=hR;rw[yae]at b;have D:(l.map (En.inT o j)).length=l.length:=jz _;have q:((l.map (En.inT o j)).map En.key).Nodup:=qy (by rw[Q8];exact HP.o);have a0:=Hi (van w wr _ F (.slice Q l.length m) (l.map (En.inT o j)) 208 yb (ZaM _) q (by rw[D];exact b) I (by rw[D];omega));have am:Hy ((Qc o j l).length=l.length/\Qc o j l=Qo (l.map (En.inT o j))):=Hi ⟨Zh o j l,rfl⟩;unfold Vp at a0;clear hR b I q D;go_wp2_with (go_at_call 172;refine a0.o.mono ?_;rintro e' w5 ⟨rfl,F5,t,p⟩;obtain⟨af,a8⟩:=Hi2 t p;clear t p);go_ret;exact⟨_,F5,rfl,af.o,a8.o.appL⟩
end Go.Proofs.YtekkihmmclencaaGreatDoor
