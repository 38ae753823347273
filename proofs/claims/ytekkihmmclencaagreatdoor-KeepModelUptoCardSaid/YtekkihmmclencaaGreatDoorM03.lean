import Derived.Test.YtekkihmmclencaaGreatDoorM02
namespace Go.Proofs.YtekkihmmclencaaGreatDoor
set_option linter.all false
set_option maxRecDepth 100000
set_option maxHeartbeats 40000000
open Tryz
open Go Go.RowKit
variable(U w:World)(q c:Nat){W V:World}{n b:Nat}{F:va}{s t:Bs}{x:Int}{d:Dk}
structure FH where
 name:Bs
 bf:Nat
 f:zc
 v:Value
 Fd:va
def FH.frag(x:FH):va:=(x.bf,.cells #[x.v,.int .i64 (x.f.sure:Int)] 123 (0,0))::x.Fd
def FH.ok(x:FH):Prop:=Rw 5 1 x.v x.f.data.length (Vc x.f.data) x.Fd
def fhF(l:List FH):va:=l.flatMap FH.frag
theorem qN(a b:List FH):fhF (a++b)=fhF a++fhF b:=by simp[fhF]
theorem Zav(x:FH)(b:List FH):fhF (x::b)=x.frag++fhF b:=rfl
def za(b:Nat):Value:=.pointer (some ⟨b,0,none⟩)
def VF(bm:Nat)(D:Dk):Array Value:=#[.map (some bm),.int .i64 D.cap,.int .i64 D.used,.int .i64 D.age,.int .i64 D.writes,.bool D.off,.int .i64 D.armed,.bool D.done]
def Zb(bd bm:Nat)(om:Obj)(fl:List FH)(D:Dk):va:=(bd,.cells (VF bm D) 61 (0,0))::(bm,om)::fhF fl
structure xe (om:Obj) (fl:List FH) (D:Dk):Prop where
 files:D.files=fl.map λx=>(x.name,x.f)
 ok:∀x∈fl,x.ok
 map:Va qa za om (fl.map λx=>(x.name,x.bf))
 short:∀x∈fl,x.name.length<=maxLen
theorem Yav(h:qa s=qa t):s=t:=by
 unfold qa at h;injection h with h
 injection h with h
 exact ky.2 h |> λe=>by simpa using e
theorem encStr:Enc prog 9 qa (λs=>s.length<=maxLen):=⟨Go.Maps.string_keyed underlying9,λ_ _=>Yav,λx a=>⟨.string x,by rw[keyOf_string underlying9];unfold qa;simp[mapKey];exact a⟩⟩
theorem xe.nodup{b:Obj}{a:List FH}(h:xe b a d):(a.map (·.name)).Nodup:=by
 have:=h.map.nodup;rw[j7]at this;exact this
theorem xe.get{e:Obj}{a:List FH}(h:xe e a d){x:FH}(c:x∈a):d.get x.name=some x.f/\Zd (a.map λx=>(x.name,x.bf)) x.name=some x.bf:=by
 have b:=h.nodup;refine⟨?_,?_⟩
 .unfold Dk.get;rw[h.files];exact qg (by rw[j7];exact b) (jg.2 ⟨x,c,rfl⟩)
 .exact qg (by rw[j7];exact b) (jg.2 ⟨x,c,rfl⟩)
theorem xe.got{c:Obj}{a:List FH}(h:xe c a d)(n:Bs):(d.get n=none/\n∉a.map (·.name)/\Zd (a.map λx=>(x.name,x.bf)) n=none)\/∃x∈a,x.name=n/\d.get n=some x.f/\Zd (a.map λx=>(x.name,x.bf)) n=some x.bf:=by
 by_cases hm:n∈a.map (·.name)
 .obtain⟨x,b,rfl⟩:=jg.1 hm;exact .inr ⟨x,b,rfl,h.get b⟩
 .refine .inl ⟨?_,hm,Yg.2 (by rw[j7];exact hm)⟩;unfold Dk.get;rw[h.files];exact Yg.2 (by rw[j7];exact hm)
theorem zV{e:Obj}{a:List FH}{x:FH}(c:x∈a):(x.bf,Obj.cells #[x.v,OI (x.f.sure:Int)] 123)∈Zb n b e a d :=
 jb _ (jb _ (JB.2 ⟨x,c,jc⟩))
def okC(c:UInt8):Bool:=c==46||(decide (97<=c.toNat)&&decide (c.toNat<=122))||(decide (48<=c.toNat)&&decide (c.toNat<=57))
theorem ZaF(c:UInt8):okC c=true<->(c.toNat=46\/(97<=c.toNat/\c.toNat<=122)\/(48<=c.toNat/\c.toNat<=57)):=by
 unfold okC;simp only[kO,beq_iff_eq,Uf,jG];rw[<-kP];constructor
 .rintro((h|h)|h)
  .exact .inl h
  .exact .inr (.inl h)
  .exact .inr (.inr h)
 .rintro(h|h|h)
  .exact .inl (.inl h)
  .exact .inl (.inr h)
  .exact .inr h
theorem xJ(s:Bs):Zf s=(s.all okC&&decide (1<=s.length)&&decide (s.length<=32)):=rfl
theorem Xav(s:Bs)(G:s.length<=4611686018427387904):Calls prog 112 #[qa s] w (Ret (.bool (Zf s)) w):=by
 have t:(ByteArray.mk s.toArray).size=s.length:=zb s;unfold qa;go_enter func112,ntmps112;go_wp2_with fail;go_loopw [3] (λiv wr=>wr=w/\∃k:Nat,k<=s.length/\iv=OI (k:Int)/\s.all okC=(s.drop k).all okC) (λiv _=>s.length-(intOf iv).toNat)
 case atStart=>exact⟨rfl,0,jX _,rfl,by simp⟩
 case round =>
  obtain⟨rfl,k,C,rfl,e⟩:=hrel;have r:=Hi e;clear e;by_cases hlt:k<s.length
  .obtain⟨c,p⟩:=NE (s[k]);have F:(ByteArray.mk s.toArray)[k]'(by rw[t];exact hlt)=c:=p;have u:s.drop k=c::s.drop (k+1):=by rw[jR hlt,p]
   have i:(c.toNat:Int)<256:=by have:=c.toNat_lt;omega
   obtain⟨y,a⟩:=Hi2 u hlt;clear u;by_cases hok:okC c=true
   .have d:Hy (s.all okC=(s.drop (k+1)).all okC):=Hi (by rw[r.o,y.o,Kg,hok,Bool.true_and]);have b:=(ZaF c).1 hok;clear hok p;rcases b with j|⟨j,v⟩|⟨j,v⟩
    .have m:(c.toNat:Int)=46:=by omega
     rw[m]at i;go_wp2_with fail
     all_goals first
      |exact⟨⟨trivial,k+1,a.o,by go_num,d.o⟩,by have:=a.o;simp[intOf];omega⟩
      |(exfalso;omega)
    .have m:¬ (c.toNat:Int)=46:=by omega
     have l:¬ (c.toNat:Int)<97:=by omega
     have n:¬ 122<(c.toNat:Int):=by omega
     go_wp2_with fail
     all_goals first
      |exact⟨⟨trivial,k+1,a.o,by go_num,d.o⟩,by have:=a.o;simp[intOf];omega⟩
      |(exfalso;simp only[U8,KO]at *;omega)
    .have m:¬ (c.toNat:Int)=46:=by omega
     have l:(c.toNat:Int)<97:=by omega
     have n:¬ (c.toNat:Int)<48:=by omega
     have z:¬ 57<(c.toNat:Int):=by omega
     go_wp2_with fail
     all_goals first
      |exact⟨⟨trivial,k+1,a.o,by go_num,d.o⟩,by have:=a.o;simp[intOf];omega⟩
      |(exfalso;simp only[U8,KO]at *;omega)
   .have g:s.all okC=false:=by rw[r.o,y.o,Kg];simp[hok]
    have d:=Hi g;have b:¬ (c.toNat=46\/(97<=c.toNat/\c.toNat<=122)\/(48<=c.toNat/\c.toNat<=57)):=λh=>hok ((ZaF c).2 h)
    have m:¬ (c.toNat:Int)=46:=by omega
    clear hok g p;rcases(show c.toNat<48\/(57<c.toNat/\c.toNat<97)\/122<c.toNat by omega)with j|⟨j,v⟩|j
    .obtain⟨l,n⟩:(c.toNat:Int)<97/\(c.toNat:Int)<48:=by omega
     clear b;go_wp2_with fail
     all_goals first
      |(go_ret;exact Ret.mk (by rw[xJ,d.o];rfl))
      |(exfalso;simp only[U8,KO]at *;omega)
    .have l:(c.toNat:Int)<97:=by omega
     have n:¬ (c.toNat:Int)<48:=by omega
     have z:57<(c.toNat:Int):=by omega
     clear b;go_wp2_with fail
     all_goals first
      |(go_ret;exact Ret.mk (by rw[xJ,d.o];rfl))
      |(exfalso;simp only[U8,KO]at *;omega)
    .have l:¬ (c.toNat:Int)<97:=by omega
     have n:122<(c.toNat:Int):=by omega
     have z:¬ (c.toNat:Int)<48:=by omega
     have E:57<(c.toNat:Int):=by omega
     clear b;go_wp2_with fail
     all_goals first
      |(go_ret;exact Ret.mk (by rw[xJ,d.o];rfl))
      |(exfalso;simp only[U8,KO]at *;omega)
  .have q:k=s.length:=by omega
   have d:Hy (s.all okC=true):=Hi (by rw[r.o,q,Uz];rfl);have B:¬ ((k:Int)<(s.length:Int)):=by omega
   have A:Zf s=(decide (1<=s.length)&&decide (s.length<=32)):=by rw[xJ,d.o,Bool.true_and]
   have f:=Hi A;clear A hlt C;by_cases q1:1<=s.length
   .by_cases q2:s.length<=32
    .obtain⟨x,D⟩:(s.length:Int)>=1/\(s.length:Int)<=32:=by omega
     go_wp2_with fail;go_ret;exact Ret.mk (by rw[f.o];simp[q1,q2])
    .have x:(s.length:Int)>=1:=by omega
     have D:¬ (s.length:Int)<=32:=by omega
     go_wp2_with fail;go_ret;exact Ret.mk (by rw[f.o];simp[q1,q2])
   .have x:¬ (s.length:Int)>=1:=by omega
    go_wp2_with fail;go_ret;exact Ret.mk (by rw[f.o];simp[q1])
def Xu(fl:List FH)(D:Dk)(n:Bs)(w:World)(e:Ending)(w':World):Prop :=
 w=w'/\((D.look n=0/\∃x∈fl,x.name=n/\D.get n=some x.f/\e=.returned (.tuple #[za x.bf,.int .i64 0]))\/(D.look n≠0/\e=.returned (.tuple #[.pointer none,.int .i64 (D.look n)])))
theorem Xu.no{a:List FH}(h:d.look s=x)(b:x≠0):Xu a d s W (.returned (.tuple #[.pointer none,OI x])) W:=⟨rfl,.inr ⟨by rw[h];exact b,by rw[h]⟩⟩
theorem YO(z:Obj)(u:List FH)(D:Dk)(M:va)(n:Bs)(m:xe z u D)(s:St U w (Zb q c z u D++M))(F:n.length<=4611686018427387904):
  Calls prog 64 #[za q,qa n] w (Xu u D n w):=by
 have I:OV w q 0 (.map (some c)):=s.cellH 0;have B:OV w q 5 (.bool D.off):=s.cellH 5;have G:w.heap[c]?=some z:=s.tail.get;have H:=Hi m;have j:=Hi (λW=>Xav W n F);have a:=Va.look (P:=prog) (k:=9) (e:=119) (t:=59) encStr underlying59 m.map (λp E=>by obtain⟨x,r,rfl⟩:=jg.1 E;exact m.short x r) G (x:=n) (by unfold maxLen;omega) true;have C:(zeroValue 119).run prog w=.ok (.pointer none) w:=by kernel_rfl
 clear m s;unfold za;go_enter func64,ntmps64;by_cases hoff:D.off=true
 .have b:Hy (D.look n=45):=Hi (by unfold Dk.look;rw[jh hoff]);rw[hoff]at B;clear a;go_wp2_with fail;exact jP (v:=.tuple #[.pointer none,OI 45]) (by simp[results,results64,go_sem]) rfl (Xu.no b.o (by decide))
 .have d:D.off=false:=by simpa using hoff
  rw[d]at B;by_cases hnm:Zf n=true
  .rw[hnm]at j;rcases H.o.got n with⟨h,f,l⟩|⟨x,r,h,f,l⟩
   .have b:Hy (D.look n=42):=Hi (by unfold Dk.look;rw[jd hoff,jd (by rw[hnm];decide),h];rfl);have g:=a.2 l _ C;clear a h f l;go_wp2_with (go_at_call 112;refine MQ (j.o _) ?_);exact jP (v:=.tuple #[.pointer none,OI 42]) (by simp[results,results64,go_sem]) rfl (Xu.no b.o (by decide))
   .have b:Hy (D.look n=0):=Hi (by unfold Dk.look;rw[jd hoff,jd (by rw[hnm];decide),f];rfl);have g:=a.1 _ l;unfold za at g;have y:=Hi (jy r (jy h f));clear a h f l r;go_wp2_with (go_at_call 112;refine MQ (j.o _) ?_);exact jP (v:=.tuple #[OQ x.bf,OI 0]) (by simp[results,results64,go_sem]) rfl ⟨rfl,.inl ⟨b.o,x,y.o.1,y.o.2.1,y.o.2.2,rfl⟩⟩
  .have b:Hy (D.look n=40):=Hi (by unfold Dk.look;rw[jd hoff,jh (by simpa using hnm)]);have i:Zf n=false:=by simpa using hnm
   rw[i]at j;clear a;go_wp2_with (go_at_call 112;refine MQ (j.o _) ?_);exact jP (v:=.tuple #[.pointer none,OI 40]) (by simp[results,results64,go_sem]) rfl (Xu.no b.o (by decide))
theorem Ybk(k:Obj)(h:List FH)(D:Dk)(M:va)(n:Bs)(g:xe k h D)(j:St U w (Zb q c k h D++M))(y:n.length<=4611686018427387904):
  Calls prog 25 #[za q,qa n] w (Ret (.tuple #[OI (D.size n).1,OI (D.size n).2]) w):=by
 have t:=Hi (YO U w q c k h D M n g j y);obtain⟨A,u⟩:=Hi2 g j;clear g j;go_enter func25,ntmps25;go_wp2_with fail;refine t.o.mono ?_;rintro e B ⟨rfl,⟨a,x,m,s,d,rfl⟩|⟨a,rfl⟩⟩
 .have b:=Hi (show D.size n=((x.f.data.length:Int),0) by unfold Dk.size;rw[d];simp only;rw[jd (by simpa using a)]);obtain⟨C,r,p,_⟩:=(A.o.ok x m).form;have z:OV w x.bf 0 x.v:=u.o.rd (i:=0) (jx _ (zV m)) rfl;rw[p]at z;unfold za;clear d p;go_wp2_with fail;go_ret2;exact Ret.mk (by rw[b.o];rfl)
 .have b:=Hi (show D.size n=(0,D.look n) by
   unfold Dk.size;cases d:D.get n with
   |none=>rfl
   |some f=>simp only;rw[jh a])
  obtain⟨E,l⟩:=EN (D.look n);rw[<-l]at a b|-
  clear l;go_wp2_with fail;go_ret2;exact Ret.mk (by rw[b.o];rfl)
structure Dk.Fits (D:Dk):Prop where
 wf:D.Wf
 w0:-9223372036854775808<=D.writes
 w1:D.writes<=9223372036854775807
def Y8(W0:World)(bd bm:Nat)(D:Dk)(M:va)(om:Obj)(fl:List FH)(g:Nat)(lb:Array Value)(f:Dk->Dk):Prop :=
 ∀(W:World) (D1:Dk),D1={D with writes:=D1.writes,armed:=D1.armed}->xe om fl D1->St W0 W (Zb bd bm om fl D1++M) ->
  Calls prog g lb W λe w'=>e=.returned (.tuple #[])/\∃om' fl',xe om' fl' (f D1)/\St W0 w' (Zb bd bm om' fl' (f D1)++M)
def Yd(W0:World)(bd bm:Nat)(M:va)(r:Dk × Int)(e:Ending)(w':World):Prop :=
 e=.returned (.int .i64 r.2)/\∃om' fl',xe om' fl' r.1/\St W0 w' (Zb bd bm om' fl' r.1++M)
theorem Yd.mk{r:Dk × Int}{c:Obj}{a:List FH}(h:r=(d,x))(e:xe c a d)(f:St W V (Zb n b c a d++F)):Yd W n b F r (.returned (OI x)) V:=by
 subst h;exact⟨rfl,c,a,e,f⟩
theorem xe.other{b:Obj}{a:List FH}{D D1:Dk}(h:xe b a D)(c:D1.files=D.files):xe b a D1:=⟨c.trans h.files,h.ok,h.map,h.short⟩
theorem wrap_i64(x:Int):IntKind.i64.wrap x=wrap64 x:=by simp[wrap64,IntKind.wrap_i64]
theorem QF(z:Obj)(y:List FH)(D:Dk)(M:va)(b:Bool)(g:Nat)(K:Array Value)(f:Dk->Dk)(J:Enters prog g)(G:D.Fits)
  (H:xe z y D) (k:St U w (Zb q c z y D++M)) (B:Y8 U q c D M z y g K f) (l:∀d,(f d).off=d.off) :
  Calls prog 75 #[za q,.bool b,.func (.func g) #[] K] w (Yd U q c M (D.accept b f)):=by
 obtain⟨p,T,Q⟩:=G;have P:=p.a0;have N:=p.a1;clear p;have y4:OV w q 4 (OI D.writes):=k.cellH 4;have O:OV w q 6 (OI D.armed):=k.cellH 6;have X:OV w q 5 (.bool D.off):=k.cellH 5;have W:OZ w q 4:=k.freeH 4;have V:OZ w q 5:=k.freeH 5;have Z:OZ w q 6:=k.freeH 6;have he:∀(args:Array Value) (w:World),(callFunc g args).run prog w=.ok (.enter g args) w:=J;clear J;obtain⟨Y,t,L⟩:=Hi3 l B H;obtain⟨D1,a⟩:∃D1:Dk,D1={D with writes:=IntKind.i64.wrap (D.writes+1)}:=⟨_,rfl⟩;have C:Hy (St U (w.setCell ⟨q,4,none⟩ (OI (wrap64 (D.writes+1)))) (Zb q c z y D1++M)):=Hi (by rw[a,wrap_i64];exact k.set 4 _);have E:=L.o.other (D1:=D1) (by rw[a]);clear k B H l;unfold za;go_enter func75,ntmps75;by_cases h0:D.armed=0
 .have r:Hy (D.accept b f=(f D1,0)):=Hi (by unfold Dk.accept;rw[jh h0,a]);rw[h0]at O;go_wp2_with (go_at_fn g;refine(t.o _ D1 (by rw[a]) E C.o).mono ?_;rintro e A ⟨rfl,n,x,F,v⟩);go_wp2_with fail;go_ret;exact Yd.mk r.o F v
 .obtain⟨i,h⟩:∃i:Dk,i={D1 with armed:=D.armed-1}:=⟨_,rfl⟩;have s:Hy (St U ((w.setCell ⟨q,4,none⟩ (OI (wrap64 (D.writes+1)))).setCell ⟨q,6,none⟩ (OI (D.armed-1))) (Zb q c z y i++M)):=Hi (by
   have:=C.o.set 6 (OI (D.armed-1));rw[h];exact this)
  have j:=L.o.other (D1:=i) (by rw[h,a]);have I:¬ ((D.armed:Int)=0):=h0;by_cases h1:0<D.armed-1
  .have r:Hy (D.accept b f=(f i,0)):=Hi (by unfold Dk.accept;rw[jd h0];simp only;rw[jh h1,h,a]);go_wp2_with (go_at_fn g;refine(t.o _ i (by rw[h,a]) j s.o).mono ?_;rintro e A ⟨rfl,n,x,F,v⟩);go_wp2_with fail;go_ret;exact Yd.mk r.o F v
  .cases b with
   |true =>
    have r:Hy (D.accept true f=({f i with off:=true},45)):=Hi (by unfold Dk.accept;rw[jd h0];simp only[jd h1,JV,h,a]);go_wp2_with (go_at_fn g;refine(t.o _ i (by rw[h,a]) j s.o).mono ?_;rintro e A ⟨rfl,n,x,F,v⟩;have R:OZ A q 5:=v.freeH 5;have S:OV A q 5 (.bool (f i).off):=v.cellH 5);have u:Hy (St U (A.setCell ⟨q,5,none⟩ (.bool true)) (Zb q c n x {f i with off:=true}++M)):=Hi (v.set 5 _);have m:=Hi (F.other (D1:={f i with off:=true}) rfl);go_ret;exact Yd.mk r.o m.o u.o
   |false =>
    have r:Hy (D.accept false f=({i with off:=true},45)):=Hi (by unfold Dk.accept;rw[jd h0];simp only[jd h1,JD,Jb,h,a]);have u:Hy (St U (((w.setCell ⟨q,4,none⟩ (OI (wrap64 (D.writes+1)))).setCell ⟨q,6,none⟩ (OI (D.armed-1))).setCell ⟨q,5,none⟩ (.bool true)) (Zb q c z y {i with off:=true}++M)):=Hi (s.o.set 5 _);have m:=Hi (j.other (D1:={i with off:=true}) rfl);go_wp2_with fail;go_ret;exact Yd.mk r.o m.o u.o
theorem Vbd{k c:Obj}{f:List FH}(e:xe k f d)(g:d.get s=none)(l:s.length<=maxLen)(h:Va qa za c (ye (f.map λx=>(x.name,x.bf)) s b)):
  xe c (f++[⟨s,b,⟨[],0⟩,.slice none 0 0,[]⟩]) (d.put s ⟨[],0⟩):=by
 have i:s∉d.files.map (·.1):=Yg.1 g;have j:s∉(f.map λx=>(x.name,x.bf)).map (·.1):=by
  rw[e.files,j7]at i;rw[j7];exact i
 refine⟨?_,λx a=>?_,?_,λx a=>?_⟩
 .show ye d.files s ⟨[],0⟩=_;unfold ye;rw[jd i,e.files,jr];rfl
 .rcases jo.1 a with a|a
  .exact e.ok x a
  .rw[jC]at a;subst a;exact Rw.nil _ _
 .unfold ye at h;rw[jd j]at h;rw[jr];exact h
 .rcases jo.1 a with a|a
  .exact e.short x a
  .rw[jC]at a;subst a;exact l
theorem qaQ(m b2 b c:Nat)(u:Obj)(l:List FH)(D:Dk)(M:va)(n:Bs)(j:xe u l D)(s:St U w (Zb b c u l D++M))(y:n.length<=maxLen)(d:D.get n=none)(r:OV w m 0 (za b))(v:OV w b2 0 (qa n)):
  Calls prog 119 #[za m,za b2] w λe B=>e=.returned (.tuple #[])/\∃a fl',xe a fl' (D.put n ⟨[],0⟩)/\St U B (Zb b c a fl' (D.put n ⟨[],0⟩)++M):=by
 have z:OV w b 0 (.map (some c)):=s.cellH 0;have g:=(s.alloc (.cells #[.slice none 0 0,OI 0] 123)).drew;have h:St U (w.alloc (.cells #[.slice none 0 0,OI 0] 123)).drew ((c,u)::(w.heap.size,.cells #[.slice none 0 0,OI 0] 123)::(b,.cells (VF c D) 61)::(fhF l++M)):=g.perm (by
  refine(JC _ _ _).trans (Jm _ ?_);exact JC _ _ _)
 obtain⟨a,J,q,i,f⟩:=Va.put (P:=prog) (k:=9) (e:=119) (t:=59) encStr underlying59 j.map (λp C=>by obtain⟨x,G,rfl⟩:=jg.1 C;exact j.short x G) h (x:=n) y w.heap.size;have E:=Hi (Vbd j d y f);have A:(w.alloc (.cells #[.slice none 0 0,OI 0] 123)).cell? ⟨m,0,none⟩=some (za b):=by rw[Kb _ _ _ (jM w _ r)];exact r
 have I:(w.alloc (.cells #[.slice none 0 0,OI 0] 123)).cell? ⟨b2,0,none⟩=some (qa n):=by rw[Kb _ _ _ (jM w _ v)];exact v
 have H:(w.alloc (.cells #[.slice none 0 0,OI 0] 123)).cell? ⟨b,0,none⟩=some (.map (some c)):=by rw[Kb _ _ _ (jM w _ z)];exact z
 have F:=Hi i;unfold za at r A q|-
 clear s g h i f j d;go_enter func119,ntmps119;go_region;go_end0;refine⟨rfl,a,_,E.o,F.o.perm ?_⟩;show((b,Obj.cells (VF c D) 61)::(c,a)::(fhF (l++[⟨n,w.heap.size,⟨[],0⟩,.slice none 0 0,[]⟩])++M)).Perm _;rw[qN];refine(JC _ _ _).trans (Jm _ ?_);refine List.Perm.trans ?_ (JC _ _ _);refine Jm _ ?_;rw[jE];exact Jd
theorem Xu.ok{a:List FH}{n:Bs}{w w':World}{e:Ending}(h:Xu a d n w e w')(h0:d.look n=0):w=w'/\∃x∈a,x.name=n/\d.get n=some x.f/\e=.returned (.tuple #[za x.bf,OI 0]):=by
 obtain⟨b,⟨_,x,h2⟩|⟨h2,_⟩⟩:=h
 .exact⟨b,x,h2⟩
 .exact absurd h0 h2
theorem Xu.bad{f:List FH}{e:Ending}(h:Xu f d s W e V)(b:d.look s=x)(g:x≠0):W=V/\e=.returned (.tuple #[.pointer none,OI x]):=by
 obtain⟨c,⟨a,_⟩|⟨_,a⟩⟩:=h
 .exact absurd (b.symm.trans a) g
 .rw[b]at a;exact⟨c,a⟩
theorem Yd.less{M M':va}{r:Dk × Int}{e:Ending}(h:Yd W n b M' r e V)(i:M.Sublist M'):Yd W n b M r e V:=by
 obtain⟨f,c,a,d,g⟩:=h;exact⟨f,c,a,d,g.sub ((Jz _).append i)⟩
theorem Yd.no{r:Dk × Int}{c:Obj}{a:List FH}(h:r=(d,x))(e:xe c a d)(f:St W V (Zb n b c a d++F)):Yd W n b F r (.returned (OI x)) V:=Yd.mk h e f
theorem qa3(v:Obj)(u:List FH)(D:Dk)(M:va)(n:Bs)(N:D.Fits)(K:xe v u D)(hS:St U w (Zb q c v u D++M))(hn:n.length<=4611686018427387904):
  Calls prog 69 #[za q,qa n] w (Yd U q c M (D.create n)):=by
 have a0:∀(fn:Fn) (first cap:Array Value) (w:World),(Instr.makeFunc fn first cap).run prog w=.ok (.func fn first cap) w:=λ_ _ _ _=>rfl
 have R:=Hi K;go_enter func69,ntmps69;go_upto_region 1 with(fail)
 have p:=(hS.alloc (.cells #[za q] 27)).alloc (.cells #[qa n] 9);rw[jF]at p;obtain⟨B,hB⟩:=EN w.heap.size;rw[<-hB]at p|-
 clear hS hB;refine p.nameC ?_;clear p;intro C r;obtain⟨j,h⟩:∃j:va,j=[(B+1,Obj.cells #[qa n] 9),(B,Obj.cells #[za q] 27)]++M:=⟨_,rfl⟩;have f:St U C (Zb q c v u D++j):=by rw[h];exact St.rot (A:=[(B+1,Obj.cells #[qa n] 9),(B,Obj.cells #[za q] 27)]) r
 have z:M.Sublist j:=by rw[h];exact J0 _ _
 have c1:OV C B 0 (OQ q):=r.rd (i:=0) (jb _ jc) rfl;have c2:OV C (B+1) 0 (qa n):=r.cellH 0;have y0:OV C q 0 (.map (some c)):=f.cellH 0;have y7:OV C q 7 (.bool D.done):=f.cellH 7;have hm:C.heap[c]?=some v:=f.tail.get;have S:=Hi (YO U C q c v u D j n K f hn);obtain⟨Q,b⟩:=Hi2 f z;have a:=Va.len (P:=prog) (k:=9) (e:=119) (t:=59) underlying59 K.map hm;have O:((u.map λx=>(x.name,x.bf)).length:Int)=(D.files.length:Int):=by rw[K.files,jz,jz]
 rw[O]at a;have y:=Hi a;have X:j.length=2+M.length:=by rw[h];simp;omega
 have L:(B,Obj.cells #[za q] 27)∈j:=by rw[h];simp
 have I:(B+1,Obj.cells #[qa n] 9)∈j:=by rw[h];simp
 obtain⟨E,hE⟩:=NE (D.look n);have l:=Hi hE;clear r f h z O a K hE X;by_cases h0:E=0
 .subst h0;have F:Hy (D.create n=(D,41)):=Hi (by unfold Dk.create;rw[jh l.o]);go_wp2_with (go_at_call 64;refine S.o.mono ?_;rintro e Z s;obtain⟨rfl,x,hx,a1,hg,rfl⟩:=s.ok l.o;unfold za);go_ret;exact Yd.mk F.o R.o (Q.o.sub ((Jz _).append b.o))
 .by_cases h42:E=42
  .subst h42;have H:D.get n=none:=by
    rcases R.o.got n with⟨g,_⟩|⟨x,_,_,g,_⟩
    .exact g
    .exfalso;have G:=l.o;unfold Dk.look at G;split at G
     .cases G
     .split at G
      .cases G
      .rw[g]at G;cases G
   have J:Y8 U q c D j v u 119 #[za B,za (B+1)] (λd=>d.put n ⟨[],0⟩):=by
    intro W D1 X V m;refine qaQ U W B (B+1) q c v u D1 j n V m (by unfold maxLen;omega) (by rw[X];exact H) ?_ ?_
    .exact m.rd (i:=0) (je _ L) rfl
    .exact m.rd (i:=0) (je _ I) rfl
   have Y:=Hi J;clear J H L I;by_cases hc:4096<=D.files.length
   .have F:Hy (D.create n=(D,43)):=Hi (by unfold Dk.create;rw[jd (by rw[l.o];decide),jd (by rw[l.o];decide),jh hc]);have T:(D.files.length:Int)>=4096:=by omega
    have a:=y.o;go_wp2_with (go_at_call 64;refine S.o.mono ?_;rintro e Z s;obtain⟨rfl,rfl⟩:=s.bad l.o (by decide));go_ret;exact Yd.mk F.o R.o (Q.o.sub ((Jz _).append b.o))
   .have F:Hy (D.create n=D.accept D.done (λd=>d.put n ⟨[],0⟩)):=Hi (by unfold Dk.create;rw[jd (by rw[l.o];decide),jd (by rw[l.o];decide),jd hc]);have T:¬ (D.files.length:Int)>=4096:=by omega
    have a:=y.o;go_upto_region 8 with(go_at_call 64;refine S.o.mono ?_;rintro e Z s;obtain⟨rfl,rfl⟩:=s.bad l.o (by decide))
    have HA:=Hi (λ(W:World) (m:St U W (Zb q c v u D++j))=>QF U W q c v u D j D.done 119 #[za B,za (B+1)] (λd=>d.put n ⟨[],0⟩) (kf func119 (by kernel_rfl) rfl) N R.o m Y.o (λ_=>rfl));go_region_with (go_at_call 75;refine(HA.o _ (by first|exact Q.o.drew|exact Q.o)).mono ?_;rintro e w3 ⟨rfl,s⟩)
    all_goals
     go_wp2_with fail;go_ret;rw[F.o];exact Yd.less (M':=j) ⟨rfl,s⟩ b.o
  .have F:Hy (D.create n=(D,E)):=Hi (by unfold Dk.create;rw[jd (by rw[l.o];exact h0),jh (by rw[l.o];exact h42),l.o]);go_wp2_with (go_at_call 64;refine S.o.mono ?_;rintro e Z s;obtain⟨rfl,rfl⟩:=s.bad l.o h0);go_ret;exact Yd.mk F.o R.o (Q.o.sub ((Jz _).append b.o))
section
section mid
variable {κ ν:Type} [DecidableEq κ]
theorem Vav{A B:List (κ × ν)}{x:κ}{y:ν}(a:((A++(x,y)::B).map (·.1)).Nodup):x∉A.map (·.1)/\x∉B.map (·.1):=by
 rw[jr,ju,Jr,jY]at a;exact⟨λh=>a.2.2 x h x jc rfl,a.2.1.1⟩
theorem Za3{A B:List (κ × ν)}{x:κ}{a:ν}(i:((A++(x,a)::B).map (·.1)).Nodup)(y:ν):ye (A++(x,a)::B) x y=A++(x,y)::B:=by
 obtain⟨g,f⟩:=Vav i;have b:∀l:List (κ × ν),x∉l.map (·.1)->l.map (λe=>if e.1=x then(x,y)else e)=l:=by
  intro l h
  conv=>rhs;rw[<-Ky l]
  refine Uw λe d=>?_
  rw[jd (λc=>h (jg.2 ⟨e,d,c⟩))];rfl
 unfold ye;rw[jh (by simp),jr,ju,b A g,b B f,jh rfl]
theorem yV{A B:List (κ × ν)}{x:κ}{a:ν}(i:((A++(x,a)::B).map (·.1)).Nodup):Zi (A++(x,a)::B) x=A++B:=by
 obtain⟨g,f⟩:=Vav i;have b:∀l:List (κ × ν),x∉l.map (·.1)->l.filter (λe=>decide (e.1≠x))=l:=λl h=>UT.2 λe d=>by simpa using λc=>h (jg.2 ⟨e,d,c⟩)
 unfold Zi;rw[ke,ka (by simp),b A g,b B f]
end mid
theorem xe.fnodup{b:Obj}{a:List FH}{D:Dk}(h:xe b a D):((a.map λx=>(x.name,x.f)).map (·.1)).Nodup:=by rw[j7];exact h.nodup
theorem Qav{d:Obj}{A B:List FH}{x x':FH}{D:Dk}(b:xe d (A++x::B) D)(c:x'.name=x.name)(g:x'.bf=x.bf)(h:x'.ok):xe d (A++x'::B) (D.put x.name x'.f):=by
 refine⟨?_,λy a=>?_,?_,λy a=>?_⟩
 .have e:=b.fnodup;rw[jr,ju]at e;show ye D.files x.name x'.f=_;rw[b.files,jr,ju,Za3 e,jr,ju,c]
 .rcases jo.1 a with a|a
  .exact b.ok y (jx _ a)
  .rcases jp.1 a with rfl|a
   .exact h
   .exact b.ok y (je _ (jb _ a))
 .have:=b.map;rw[jr,ju]at this|-
  rw[c,g];exact this
 .rcases jo.1 a with a|a
  .exact b.short y (jx _ a)
  .rcases jp.1 a with rfl|a
   .rw[c];exact b.short x (je _ jc)
   .exact b.short y (je _ (jb _ a))
def FH.obj(x:FH):Obj:=.cells #[x.v,.int .i64 (x.f.sure:Int)] 123 (0,0)
theorem Vz(b a:Nat)(c:Obj)(A B:List FH)(x:FH)(D:Dk)(M:va):(Zb b a c (A++x::B) D++M).Perm ((x.bf,x.obj)::(x.Fd++(Zb b a c (A++B) D++M))):=by
 have d:Zb b a c (A++x::B) D++M=[(b,Obj.cells (VF a D) 61),(a,c)]++(fhF A++(x.frag++(fhF B++M))):=by
  unfold Zb;rw[qN,Zav];simp only[jO,jK,jE]
 have e:(x.bf,x.obj)::(x.Fd++(Zb b a c (A++B) D++M))=x.frag++([(b,Obj.cells (VF a D) 61),(a,c)]++(fhF A++(fhF B++M))):=by
  unfold Zb;rw[qN];simp only[jO,jK,jE];rfl
 rw[d,e];exact((Jj (fhF A) x.frag (fhF B++M)).append_left _).trans (Jj _ x.frag _)
theorem Qbd(j w:World)(k d g:Nat)(c:Obj)(A B:List FH)(x:FH)(D:Dk)(M:va)(h:xe c (A++x::B) D)(m:St j w (Zb d g c (A++x::B) D++M))(p:OV w k 0 (za x.bf)):
  Calls prog 126 #[za k] w λe n=>e=.returned (.tuple #[])/\∃om' fl',xe om' fl' (D.put x.name ⟨x.f.data,x.f.data.length⟩)/\St j n (Zb d g om' fl' (D.put x.name ⟨x.f.data,x.f.data.length⟩)++M):=by
 have b:=h.ok x (je _ jc);obtain⟨q,i,l,u,z,_⟩:=Rw.form b;have a:=m.perm (Vz d g c A B x D M).symm;have y:w.cell? ⟨x.bf,0,none⟩=some (.slice q x.f.data.length i):=by rw[<-l];exact a.cellH 0
 have t:=a.cellH 1;have v:=a.freeH 1;have s:=Hi (Qav (x':={x with f:=⟨x.f.data,x.f.data.length⟩}) h rfl rfl b);have r:=Hi ((a.drew).set 1 (OI (x.f.data.length:Int)));unfold za at p|-
 clear m a h b l;go_enter func126,ntmps126;go_region;go_end0;exact⟨rfl,c,_,s.o,r.o.perm (Vz d g c A B {x with f:=⟨x.f.data,x.f.data.length⟩} _ M)⟩
theorem Xbk(j w:World)(h l:Nat)(m:Obj)(p:List FH)(D:Dk)(M:va)(n:Bs)(z:D.Fits)(I:xe m p D)(K:St j w (Zb h l m p D++M))(X:n.length<=4611686018427387904):
  Calls prog 73 #[za h,qa n] w (Yd j h l M (D.sync n)):=by
 have V:∀(fn:Fn) (first cap:Array Value) (w:World),(Instr.makeFunc fn first cap).run prog w=.ok (.func fn first cap) w:=λ_ _ _ _=>rfl
 have T:=Hi I;have Q:=Hi (YO j w h l m p D M n I K X);have R:=Hi K;obtain⟨E,P⟩:=NE (D.look n);have q:=Hi P;clear K I P;go_enter func73,ntmps73;by_cases h0:E=0
 .subst h0;go_upto_region 2 with(go_at_call 64;refine Q.o.mono ?_;rintro e Y y;obtain⟨rfl,x,S,b,H,rfl⟩:=y.ok q.o;unfold za)
  rw[<-b]at H;obtain⟨A,B,G⟩:=JU S;have J:Hy (D.sync n=D.accept false (λd=>d.put x.name ⟨x.f.data,x.f.data.length⟩)):=Hi (by
   unfold Dk.sync;rw[<-b,H];simp only;rw[jd (by rw[b,q.o];decide)])
  have a:=R.o.alloc (.cells #[za x.bf] 119);obtain⟨C,N⟩:=EN w.heap.size;unfold za at a;rw[<-N]at a|-
  refine a.nameC ?_;clear a N;intro L v;obtain⟨g,c⟩:∃g:va,g=[(C,Obj.cells #[za x.bf] 119)]++M:=⟨_,rfl⟩;have F:St j L (Zb h l m p D++g):=by rw[c];exact St.rot (A:=[(C,Obj.cells #[za x.bf] 119)]) v
  have u:(C,Obj.cells #[za x.bf] 119)∈g:=by rw[c];simp
  have s:=Hi (show M.Sublist g by rw[c];exact J0 _ _);have r:Y8 j h l D g m p 126 #[za C] (λd=>d.put x.name ⟨x.f.data,x.f.data.length⟩):=by
   intro W U e1 t k;rw[G]at t k;exact Qbd j W C h l m A B x U g t k (k.rd (i:=0) (je _ u) rfl)
  have O:=Hi (QF j L h l m p D g false 126 #[za C] (λd=>d.put x.name ⟨x.f.data,x.f.data.length⟩) (kf func126 (by kernel_rfl) rfl) z T.o F r (λ_=>rfl));clear v F c u r S b H G;unfold za at O;go_wp2_with (go_at_call 75;refine O.o.mono ?_;rintro e Z ⟨rfl,y⟩);go_ret;rw[J.o];exact Yd.less (M':=g) ⟨rfl,y⟩ s.o
 .have J:Hy (D.sync n=(D,E)):=Hi (by
   unfold Dk.sync;cases H:D.get n with
   |none=>rw[q.o]
   |some f=>simp only;rw[jh (by rw[q.o];exact h0),q.o])
  go_wp2_with (go_at_call 64;refine Q.o.mono ?_;rintro e Y y;obtain⟨rfl,rfl⟩:=y.bad q.o h0);go_ret;exact Yd.mk J.o T.o (R.o.alloc _).tail
end
theorem ZaQ{k e:Obj}{A B:List FH}{x:FH}(b:xe k (A++x::B) d)(i:Va qa za e (Zi ((A++x::B).map λx=>(x.name,x.bf)) x.name)):xe e (A++B) (d.drop x.name)/\d.drop x.name={d with used:=d.used-x.f.data.length,files:=Zi d.files x.name}:=by
 have m:=(b.get (je A (jc (a:=x) (l:=B)))).1;have c:d.drop x.name={d with used:=d.used-x.f.data.length,files:=Zi d.files x.name}:=by unfold Dk.drop;rw[m]
 refine⟨⟨?_,λy j=>?_,?_,λy j=>?_⟩,c⟩
 .have g:=b.fnodup;rw[jr,ju]at g;rw[c];show Zi d.files x.name=_;rw[b.files,jr,ju,yV g,jr]
 .exact b.ok y (by rcases jo.1 j with h|h;exact jx _ h;exact je _ (jb _ h))
 .have g:=b.map.nodup;rw[jr,ju]at g i;rw[yV g]at i;rw[jr];exact i
 .exact b.short y (by rcases jo.1 j with h|h;exact jx _ h;exact je _ (jb _ h))
def qA(W0:World)(bd bm:Nat)(M:va)(D':Dk)(e:Ending)(w':World):Prop:=e=.returned (.tuple #[])/\∃om' fl',xe om' fl' D'/\St W0 w' (Zb bd bm om' fl' D'++M)
def vaJ(W0:World)(bd bm:Nat)(M:va)(fl:List FH)(n:Bs)(D':Dk)(e:Ending)(w':World):Prop:=e=.returned (.tuple #[])/\∃om' fl',(∀x∈fl,x.name≠n->x∈fl')/\xe om' fl' D'/\St W0 w' (Zb bd bm om' fl' D'++M)
theorem Xal(l:List (Bs × zc)):0<=(l.map (λx=>(x.2.data.length:Int))).sum:=by
 induction l with
 |nil=>simp
 |cons x r ih=>rw[ju,List.sum_cons];omega
theorem zaw(j:Obj)(I:List FH)(D:Dk)(M:va)(n:Bs)(a2:0<=D.used)(a1:D.used<=1073741824)(b:∀x∈D.files,x.2.data.length<=268435456)(a:xe j I D)(i:St U w (Zb q c j I D++M))(hn:n.length<=4611686018427387904):
  Calls prog 77 #[za q,qa n] w (vaJ U q c M I n (D.drop n)):=by
 have y0:OV w q 0 (.map (some c)):=i.cellH 0;have y2:OV w q 2 (OI D.used):=i.cellH 2;have z2:OZ w q 2:=i.freeH 2;have X:w.heap[c]?=some j:=i.tail.get;have g:=Va.look (P:=prog) (k:=9) (e:=119) (t:=59) encStr underlying59 a.map (λp N=>by obtain⟨x,T,rfl⟩:=jg.1 N;exact a.short x T) X (x:=n) (by unfold maxLen;omega) true;have W:(zeroValue 119).run prog w=.ok (.pointer none) w:=by kernel_rfl
 rcases a.got n with⟨H,K,G⟩|⟨x,T,H,K,G⟩
 .have s:=g.2 G _ W;have HF:Hy (D.drop n=D):=Hi (by unfold Dk.drop;rw[H]);obtain⟨O,S⟩:=Hi2 a i;clear g H K G a i b;unfold za;go_enter func77,ntmps77;go_wp2_with fail;go_end0;rw[HF.o];exact⟨rfl,j,I,λ_ h _=>h,O.o,S.o⟩
 .have s:=g.1 _ G;subst H;obtain⟨A,B,R⟩:=JU T;subst R;have F:=a.ok x (je _ jc);obtain⟨ad,L,Y,f1,f2,_⟩:=Rw.form F;have a0:x.f.data.length<=268435456:=b (x.name,x.f) (by rw[a.files];exact jg.2 ⟨x,je _ jc,rfl⟩);have u:=i.perm (Vz q c j A B x D M).symm;have k0:w.cell? ⟨x.bf,0,none⟩=some (.slice ad x.f.data.length L):=by rw[<-Y];exact u.cellH 0
  have z:=(i.set 2 (OI (D.used-x.f.data.length))).drew;have C:St U (w.setCell ⟨q,2,none⟩ (OI (D.used-x.f.data.length))).drew ((c,j)::(q,.cells ((VF c D).setIfInBounds 2 (OI (D.used-x.f.data.length))) 61)::(fhF (A++x::B)++M)):=z.swap;obtain⟨d,Z,V,m,r⟩:=Va.del (P:=prog) (k:=9) (e:=119) (t:=59) encStr underlying59 a.map (λp N=>by obtain⟨y,Q,rfl⟩:=jg.1 N;exact a.short y Q) C (x:=x.name) (by unfold maxLen;omega) 0;obtain⟨v,l⟩:=ZaQ a r;have E:St U Z (Zb q c d (A++B) (D.drop x.name)++M):=by
   have h6:=m.swap;have h7:St U Z (Zb q c d (A++x::B) (D.drop x.name)++M):=by rw[l];exact h6
   exact((h7.perm (Vz q c d A B x (D.drop x.name) M).symm).tail).appR
  obtain⟨O,S⟩:=Hi2 v E;clear g K G a i b F u X W Y z C m r v l E;unfold za at s|-
  go_enter func77,ntmps77;go_upto_region 2 with(fail)
  go_region;go_wp2_with fail;go_end0;exact⟨rfl,d,_,λy Q J=>by
   rcases jo.1 Q with h|h
   .exact jx _ h
   .rcases jp.1 h with rfl|h
    .exact absurd rfl J
    .exact je _ h,O.o,S.o⟩
theorem Ya3(f:Obj)(g:List FH)(D:Dk)(M:va)(n:Bs)(j:0<=D.used)(d:D.used<=1073741824)(a:∀x∈D.files,x.2.data.length<=268435456)(m:xe f g D)(l:St U w (Zb q c f g D++M))(p:n.length<=4611686018427387904):
  Calls prog 77 #[za q,qa n] w (qA U q c M (D.drop n)) :=
 (zaw U w q c f g D M n j d a m l p).mono (by rintro e r ⟨h,i,b,_,k,o⟩;exact⟨h,i,b,k,o⟩)
theorem YaQ(i b2 b c:Nat)(f:Obj)(g:List FH)(D:Dk)(M:va)(n:Bs)(h:0<=D.used)(d:D.used<=1073741824)(a:∀x∈D.files,x.2.data.length<=268435456)(k:xe f g D)(j:St U w (Zb b c f g D++M))(q:n.length<=4611686018427387904)(p:OV w i 0 (za b))(r:OV w b2 0 (qa n)):
  Calls prog 76 #[za i,za b2] w (qA U b c M (D.drop n)):=by
 have l:=Hi (Ya3 U w b c f g D M n h d a k j q);clear k j a;unfold za at p l|-
 go_enter func76,ntmps76;go_wp2_with (go_at_call 77;refine l.o.mono ?_;rintro e s ⟨rfl,m⟩);go_end0;exact⟨rfl,m⟩
theorem Xa3(r:Obj)(m:List FH)(D:Dk)(M:va)(n:Bs)(l:D.Fits)(F:xe r m D)(Q:St U w (Zb q c r m D++M))(P:n.length<=4611686018427387904):
  Calls prog 29 #[za q,qa n] w (Yd U q c M (D.delete n)):=by
 have V:∀(fn:Fn) (first cap:Array Value) (w:World),(Instr.makeFunc fn first cap).run prog w=.ok (.func fn first cap) w:=λ_ _ _ _=>rfl
 have S:=Hi F;go_enter func29,ntmps29;go_upto_region 1 with(fail)
 have g:=(Q.alloc (.cells #[za q] 27)).alloc (.cells #[qa n] 9);rw[jF]at g;obtain⟨B,R⟩:=EN w.heap.size;rw[<-R]at g|-
 clear Q R;refine g.nameC ?_;clear g;intro s h;obtain⟨a,f⟩:∃a:va,a=[(B+1,Obj.cells #[qa n] 9),(B,Obj.cells #[za q] 27)]++M:=⟨_,rfl⟩;have j:St U s (Zb q c r m D++a):=by rw[f];exact St.rot (A:=[(B+1,Obj.cells #[qa n] 9),(B,Obj.cells #[za q] 27)]) h
 have p:M.Sublist a:=by rw[f];exact J0 _ _
 have c1:OV s B 0 (OQ q):=h.rd (i:=0) (jb _ jc) rfl;have c2:OV s (B+1) 0 (qa n):=h.cellH 0;have y7:OV s q 7 (.bool D.done):=j.cellH 7;have N:=Hi (YO U s q c r m D a n F j P);obtain⟨I,k⟩:=Hi2 j p;have v:(B,Obj.cells #[za q] 27)∈a:=by rw[f];simp
 have t:(B+1,Obj.cells #[qa n] 9)∈a:=by rw[f];simp
 obtain⟨E,L⟩:=NE (D.look n);have z:=Hi L;clear h j f p F L;by_cases h0:E=0
 .subst h0;have G:Hy (D.delete n=D.accept D.done (λd=>d.drop n)):=Hi (by unfold Dk.delete;rw[jd (by rw[z.o];decide)]);have u:Y8 U q c D a r m 76 #[za B,za (B+1)] (λd=>d.drop n):=by
   intro W T K H b;have C:=l.wf;have J:0<=D.used:=by rw[C.used];exact Xal _
   exact YaQ U W B (B+1) q c r m T a n (by rw[K];exact J) (by rw[K];exact U7 C.room C.c1) (by rw[K];exact λx O=>(C.sizes x O).1) H b P (b.rd (i:=0) (je _ v) rfl) (b.rd (i:=0) (je _ t) rfl)
  have X:=Hi (λ(W:World) (b:St U W (Zb q c r m D++a))=>QF U W q c r m D a D.done 76 #[za B,za (B+1)] (λd=>d.drop n) (kf func76 (by kernel_rfl) rfl) l S.o b u (λd=>by unfold Dk.drop;cases d.get n<;>rfl));clear u v t;go_upto_region 4 with(go_at_call 64;refine N.o.mono ?_;rintro e Z y;obtain⟨rfl,x,O,Y,hg,rfl⟩:=y.ok z.o;unfold za)
  go_region_with (go_at_call 75;refine(X.o _ (by first|exact I.o.drew|exact I.o)).mono ?_;rintro e w3 ⟨rfl,y⟩)
  all_goals
   go_wp2_with fail;go_ret;rw[G.o];exact Yd.less (M':=a) ⟨rfl,y⟩ k.o
 .have G:Hy (D.delete n=(D,E)):=Hi (by unfold Dk.delete;rw[jh (by rw[z.o];exact h0),z.o]);go_wp2_with (go_at_call 64;refine N.o.mono ?_;rintro e Z y;obtain⟨rfl,rfl⟩:=y.bad z.o h0);go_ret;exact Yd.mk G.o S.o (I.o.sub ((Jz _).append k.o))
end Go.Proofs.YtekkihmmclencaaGreatDoor
