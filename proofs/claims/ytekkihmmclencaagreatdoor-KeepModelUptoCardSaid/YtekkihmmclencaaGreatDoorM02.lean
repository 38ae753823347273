import Derived.Test.YtekkihmmclencaaGreatDoorM01
namespace Go.Proofs.YtekkihmmclencaaGreatDoor
set_option linter.all false
set_option maxRecDepth 100000
set_option maxHeartbeats 40000000
open Tryz
open Go Go.RowKit Go.ChangeMaps
open Go.Maps (Keyed)
variable(c:Nat){W V:World}{n:Nat}{v r:Value}{x:Int}
section
section plain
variable {κ ν:Type} [DecidableEq κ]
def Zd(l:List (κ × ν))(x:κ):Option ν:=(l.find? (λe=>decide (e.1=x))).map (·.2)
def ye(l:List (κ × ν))(x:κ)(y:ν):List (κ × ν):=if x∈l.map (·.1)then l.map (λe=>if e.1=x then(x,y)else e)else l++[(x,y)]
def Zi(l:List (κ × ν))(x:κ):List (κ × ν):=l.filter (λe=>decide (e.1≠x))
theorem Yg{l:List (κ × ν)}{x:κ}:Zd l x=none<->x∉l.map (·.1):=by
 simp only[Zd,Option.map_eq_none_iff,List.find?_eq_none,jG,jg,not_exists,not_and]
theorem Qq{l:List (κ × ν)}{x:κ}{y:ν}(h:Zd l x=some y):(x,y)∈l:=by
 unfold Zd at h;cases hf:l.find? (λe=>decide (e.1=x))with
 |none=>rw[hf]at h;cases h
 |some e =>
  rw[hf]at h;have a:=List.find?_some hf;have c:=List.mem_of_find?_eq_some hf;simp only[jG]at a;simp only[JE,Ug]at h;rw[<-a,<-h];exact c
theorem qg{l:List (κ × ν)}(d:(l.map (·.1)).Nodup){x:κ}{y:ν}(h:(x,y)∈l):Zd l x=some y:=by
 cases hg:Zd l x with
 |none=>exact absurd (jg.2 ⟨_,h,rfl⟩) (Yg.1 hg)
 |some z =>
  have f:=Qq hg
  congr 1
  by_cases e:y=z
  .exact e.symm
  .exfalso;induction l with
   |nil=>cases h
   |cons p r ih =>
    simp only[ju,jY]at d;rcases jp.1 h with c|c
    .rcases jp.1 f with a|a
     .rw[<-c]at a;cases a;exact e rfl
     .exact d.1 (jg.2 ⟨_,a,by rw[<-c]⟩)
    .rcases jp.1 f with a|a
     .exact d.1 (jg.2 ⟨_,c,by rw[<-a]⟩)
     .refine ih d.2 c ?_ a;by_cases hp:p.1=x
      .exact absurd (jg.2 ⟨_,c,hp.symm⟩) d.1
      .simpa [Zd,hp] using hg
theorem vD{l:List (κ × ν)}(a:(l.map (·.1)).Nodup){x:κ}{y:ν}:Zd l x=some y<->(x,y)∈l:=⟨Qq,qg a⟩
theorem vY{l:List (κ × ν)}(c:(l.map (·.1)).Nodup):l.Nodup:=(Uu.1 c).imp (λa e=>a (by rw[e]))
theorem vZ(l:List (κ × ν))(x:κ)(y:ν):(ye l x y).map (·.1)=if x∈l.map (·.1)then l.map (·.1)else l.map (·.1)++[x]:=by
 unfold ye;split
 .rw[j7];refine Uw λe _=>?_
  simp only[Kv];split<;>simp_all
 .simp
theorem yo{l:List (κ × ν)}(c:(l.map (·.1)).Nodup)(x:κ)(y:ν):((ye l x y).map (·.1)).Nodup:=by
 rw[vZ];split
 .exact c
 .rename_i h
  rw[Jr];exact⟨c,by simp,λa f b d e=>by simp at d;subst d;subst e;exact h f⟩
theorem vU{l:List (κ × ν)}(a:(l.map (·.1)).Nodup)(x:κ):((Zi l x).map (·.1)).Nodup:=a.sublist ((Ua (l:=l)).map _)
theorem Yi{l:List (κ × ν)}{x:κ}{y:ν}{p:κ × ν}:p∈ye l x y<->p=(x,y)\/(p∈l/\p.1≠x):=by
 unfold ye;split
 .rename_i a
  simp only[jg];constructor
  .rintro⟨e,c,rfl⟩;split
   .exact .inl rfl
   .rename_i h;exact .inr ⟨c,h⟩
  .rintro(rfl|⟨f,d⟩)
   .obtain⟨e,c,g⟩:=jg.1 a;exact⟨e,c,by rw[jh g]⟩
   .exact⟨p,f,by rw[jd d]⟩
 .rename_i a
  simp only[jo,jC];constructor
  .rintro(h|h)
   .exact .inr ⟨h,λe=>a (jg.2 ⟨p,h,e⟩)⟩
   .exact .inl h
  .rintro(h|⟨h,_⟩)
   .exact .inr h
   .exact .inl h
theorem YH{l:List (κ × ν)}{x:κ}{p:κ × ν}:p∈Zi l x<->p∈l/\p.1≠x:=by simp[Zi]
theorem qU{l:List (κ × ν)}(c:(l.map (·.1)).Nodup)(x:κ)(y:ν)(z:κ):Zd (ye l x y) z=if z=x then some y else Zd l z:=by
 by_cases h:z=x
 .subst h;rw[jh rfl];exact qg (yo c _ _) (Yi.2 (.inl rfl))
 .rw[jd h];cases hg:Zd l z with
  |none =>
   refine Yg.2 λa=>?_
   rw[vZ]at a;split at a
   .exact Yg.1 hg a
   .rcases jo.1 a with a|a
    .exact Yg.1 hg a
    .simp at a;exact h a
  |some v=>exact qg (yo c _ _) (Yi.2 (.inr ⟨Qq hg,h⟩))
theorem Yy(l:List (κ × ν))(x:κ)(y:ν):(ye l x y).length=l.length+(if x∈l.map (·.1)then 0 else 1):=by
 unfold ye;split<;>simp
end plain
structure Va {κ ν:Type} (ek:κ->Value) (ev:ν->Value) (o:Obj) (l:List (κ × ν)):Prop where
 ex:∃es clock,o=.map es clock/\es.toList.map (λe=>(e.key,e.val))=l.map (λx=>(ek x.1,ev x.2))/\(es.toList.map (·.born)).Nodup/\∀e∈es.toList,e.born<clock
 nodup:(l.map (·.1)).Nodup
structure Enc {κ:Type} (P:Program) (k:TypeId) (ek:κ->Value) (ok:κ->Prop):Prop where
 keyed:Keyed P k
 inj:∀x y,ek x=ek y->x=y
 lit:∀x,ok x->∃lit,keyOf P k (ek x)=some lit
section laws
variable {κ ν:Type} [DecidableEq κ] {ek:κ->Value} {ev:ν->Value} {ok:κ->Prop} {P:Program} {k e t:TypeId} {o:Obj} {l:List (κ × ν)} {W0 W:World} {M:va} {b:Nat}
theorem Va.empty:Va ek ev (.map #[] 0) ([]:List (κ × ν)):=⟨⟨#[],0,rfl,rfl,by simp,by simp⟩,by simp⟩
theorem Va.get{c:Array MapEntry}(h:c.toList.map (λe=>(e.key,e.val))=l.map (λx=>(ek x.1,ev x.2))){j:Nat}{x:MapEntry}(d:c.toList[j]?=some x):∃p,l[j]?=some p/\x.key=ek p.1/\x.val=ev p.2:=by
 have a:(c.toList.map (λe=>(e.key,e.val)))[j]?=some (x.key,x.val):=by rw[jZ,d];rfl
 rw[h,jZ]at a;cases hl:l[j]? with
 |none=>rw[hl]at a;cases a
 |some p =>
  rw[hl]at a;simp only[JE,Ug,Je]at a;exact⟨p,rfl,a.1.symm,a.2.symm⟩
theorem Va.back{d:Array MapEntry}(h:d.toList.map (λe=>(e.key,e.val))=l.map (λx=>(ek x.1,ev x.2))){p:κ × ν}(f:p∈l):∃x∈d.toList,x.key=ek p.1/\x.val=ev p.2:=by
 have c:(ek p.1,ev p.2)∈l.map (λx=>(ek x.1,ev x.2)):=jg.2 ⟨p,f,rfl⟩;rw[<-h]at c;obtain⟨x,g,a⟩:=jg.1 c;simp only[Je]at a;exact⟨x,g,a.1,a.2⟩
theorem Va.keys(E:Enc P k ek ok){c:Array MapEntry}(h:c.toList.map (λe=>(e.key,e.val))=l.map (λx=>(ek x.1,ev x.2)))(a:∀p∈l,ok p.1):∀x∈c.toList,∃lit,keyOf P k x.key=some lit:=by
 intro x i;obtain⟨j,f⟩:=JP.1 i;obtain⟨p,d,g,_⟩:=Va.get h f;rw[g];exact E.lit _ (a p (Js d))
theorem Va.size{o:Obj}(g:Va ek ev o l){d:Array MapEntry}{a:Nat}(c:o=.map d a):d.size=l.length:=by
 obtain⟨i,j,f,h,_⟩:=g.ex;rw[f]at c;injection c with h2 h3
 subst h2;have:=jT List.length h;simpa using this
theorem Va.look(E:Enc P k ek ok)(C:P.underlying t=some (.map k e))(B:Va ek ev o l)(w:∀p∈l,ok p.1)(D:W.heap[b]?=some o){x:κ}(H:ok x)(c:Bool):
  (∀y,Zd l x=some y->(Instr.lookup t (.map (some b)) (ek x) c).run P W=.ok (if c then .tuple #[ev y,.bool true]else ev y) W) /\
  (Zd l x=none->∀z,(zeroValue e).run P W=.ok z W->(Instr.lookup t (.map (some b)) (ek x) c).run P W=.ok (if c then .tuple #[z,.bool false]else z) W):=by
 obtain⟨G,v,rfl,n,L,N⟩:=B.ex;obtain⟨lit,u⟩:=E.lit x H;rcases E.keyed.find W u G.toList (Va.keys E n w)with⟨s,m⟩|⟨j,A,s,m,K⟩
 .have d:Zd l x=none:=by
   refine Yg.2 λI=>?_
   obtain⟨p,q,A⟩:=jg.1 I;obtain⟨y,f,i,_⟩:=Va.back n q;exact m y f (by rw[i,A])
  refine⟨λy f=>(by rw[d]at f;cases f),λ_ z F=>?_⟩;simp[Instr.lookup,UB C,Us D,E.keyed.check W _ u,s,F,Result.andThen]
 .obtain⟨p,q,i,J⟩:=Va.get n m;have g:p.1=x:=E.inj _ _ (by rw[<-i,K]);have a:Zd l x=some p.2:=qg B.nodup (by rw[<-g];exact Js q);refine⟨λy f=>?_,λh=>(by rw[a]at h;cases h)⟩;rw[a]at f;cases f;simp[Instr.lookup,UB C,Us D,E.keyed.check W _ u,s,J,Result.andThen]
theorem St.putMap{g d:Array MapEntry}{c a:Nat}(f:St W0 W ((b,.map g c)::M)):St W0 (setBlock W b (.map d a)) ((b,.map d a)::M) :=
 f.put ⟨rfl,rfl,rfl,by simp[setBlock],λi _ h=>heap_setBlock_other f.get _ (λe=>h (by rw[e]))⟩ (heap_setBlock_same f.get _)
theorem ZU{l:List (κ × ν)}(d:(l.map (·.1)).Nodup){j:Nat}{p:κ × ν}(c:l[j]?=some p)(y:ν):ye l p.1 y=l.set j (p.1,y):=by
 have f:p.1∈l.map (·.1):=jg.2 ⟨p,Js c,rfl⟩;unfold ye;rw[jh f];clear f;induction l generalizing j with
 |nil=>simp at c
 |cons a r ih =>
  simp only[ju,jY]at d;cases j with
  |zero =>
   simp at c;subst c;simp only[ju,JV,ji,List.cons.injEq,KU]
   conv=>rhs;rw[<-Ky r]
   refine Uw λz g=>?_
   rw[jd (λe=>d.1 (jg.2 ⟨z,g,e⟩))];rfl
  |succ j =>
   simp only[UQ]at c;simp only[ju,jj];rw[jd (λe=>d.1 (jg.2 ⟨p,Js c,e.symm⟩)),ih d.2 c]
theorem Va.put(E:Enc P k ek ok)(N:P.underlying t=some (.map k e))(v:Va ek ev o l)(I:∀p∈l,ok p.1)(J:St W0 W ((b,o)::M)){x:κ}(S:ok x)(y:ν):
  ∃o' W',(Instr.mapUpdate t (.map (some b)) (ek x) (ev y)).run P W=.ok () W'/\St W0 W' ((b,o')::M)/\Va ek ev o' (ye l x y):=by
 obtain⟨h,d,rfl,u,L,B⟩:=v.ex;obtain⟨lit,A⟩:=E.lit x S;have w:=J.get;rcases E.keyed.find W A h.toList (Va.keys E u I)with⟨H,m⟩|⟨j,n,H,m,Q⟩
 .have K:x∉l.map (·.1):=λT=>by
   obtain⟨p,G,n⟩:=jg.1 T;obtain⟨y,R,D,_⟩:=Va.back u G;exact m y R (by rw[D,n])
  refine⟨.map (h.push ⟨ek x,ev y,d⟩) (d+1),_,by simp[Instr.mapUpdate,UB N,Us w,E.keyed.check W false A,H,km _ w,Result.andThen];rfl,J.putMap,⟨⟨_,_,rfl,?_,?_,?_⟩,yo v.nodup _ _⟩⟩
  .rw[KI,jr,u];unfold ye;rw[jd K];simp
  .rw[KI,jr,Jr];refine⟨L,by simp,λa U c O e=>?_⟩;simp at O;subst O;obtain⟨z,f,X⟩:=jg.1 U;have:=B z f;omega
  .intro z f;rw[KI]at f;rcases jo.1 f with f|f
   .have:=B z f;omega
   .simp at f;subst f;simp
 .obtain⟨p,G,D,Y⟩:=Va.get u m;have C:p.1=x:=E.inj _ _ (by rw[<-D,Q]);have s:j<h.size:=by have:=(jV.1 m).1;simpa using this
  have q:h[j]?=some n:=by rw[<-J3];exact m
  have F:(Instr.keyThatStays n.key (ek x)).run P W=.ok (ek x) W:=by rw[Q];exact E.keyed.stays W A
  have g:(h.modify j λe=>{e with key:=ek x,val:=ev y}).toList=h.toList.set j ⟨ek x,ev y,n.born⟩:=by
   apply KJ;intro i;simp only[J3,U0,List.getElem?_set,Ux];by_cases hi:j=i
   .subst hi;rw[jh rfl,jh rfl,jh s,q];rfl
   .rw[jd hi,jd hi]
  refine⟨.map (h.modify j λe=>{e with key:=ek x,val:=ev y}) d,_,by simp[Instr.mapUpdate,UB N,Us w,E.keyed.check W false A,H,q,F,km _ w,Result.andThen];rfl,J.putMap,⟨⟨_,_,rfl,?_,?_,?_⟩,yo v.nodup _ _⟩⟩
  .rw[g,KS,u,<-C,ZU v.nodup G,KS]
  .rw[g,KS];have:(h.toList.map (·.born)).set j n.born=h.toList.map (·.born):=by
    apply KJ;intro i;rw[List.getElem?_set];by_cases hi:j=i
    .subst hi;simp[m,s];have:=(jV.1 m).2;simpa using this.symm▸rfl
    .rw[jd hi]
   rw[this];exact L
  .intro z f;rw[g]at f;rcases List.mem_or_eq_of_mem_set f with f|rfl
   .exact B z f
   .exact B n (Js m)
theorem YU{l:List (κ × ν)}(d:(l.map (·.1)).Nodup){j:Nat}{p:κ × ν}(c:l[j]?=some p):Zi l p.1=l.eraseIdx j:=by
 induction l generalizing j with
 |nil=>simp at c
 |cons a r ih =>
  simp only[ju,jY]at d;cases j with
  |zero =>
   simp at c;subst c;simp only[Zi,List.eraseIdx_cons_zero];rw[ka (by simp)];exact UT.2 λz f=>by simpa using λe=>d.1 (jg.2 ⟨z,f,e⟩)
  |succ j =>
   simp only[UQ]at c;simp only[Zi,List.eraseIdx_cons_succ];rw[List.filter_cons_of_pos (by simpa using λe=>d.1 (jg.2 ⟨p,Js c,e.symm⟩))];rw[<-ih d.2 c];rfl
theorem Va.del(E:Enc P k ek ok)(F:P.underlying t=some (.map k e))(f:Va ek ev o l)(A:∀p∈l,ok p.1)(B:St W0 W ((b,o)::M)){x:κ}(L:ok x)(K:TypeId):
  ∃o' W',(Builtin.delete_ #[t,k] K #[.map (some b),ek x]).run P W=.ok (.tuple #[]) W'/\St W0 W' ((b,o')::M)/\Va ek ev o' (Zi l x):=by
 obtain⟨d,a,rfl,i,H,J⟩:=f.ex;obtain⟨lit,w⟩:=E.lit x L;have g:=B.get;rcases E.keyed.find W w d.toList (Va.keys E i A)with⟨v,h⟩|⟨j,D,v,h,O⟩
 .have C:x∉l.map (·.1):=λN=>by
   obtain⟨p,u,D⟩:=jg.1 N;obtain⟨y,I,q,_⟩:=Va.back i u;exact h y I (by rw[q,D])
  have G:Zi l x=l:=UT.2 λz m=>by simpa using λe=>C (jg.2 ⟨z,m,e⟩)
  exact⟨.map d a,_,by simp[Builtin.delete_,UB F,Us g,E.keyed.check W _ w,v,km _ g,Result.andThen];rfl,B.putMap,by rw[G];exact f⟩
 .obtain⟨p,u,q,Q⟩:=Va.get i h;have n:p.1=x:=E.inj _ _ (by rw[<-q,O]);have s:j<d.size:=by have:=(jV.1 h).1;simpa using this
  have c:(d.eraseIdxIfInBounds j).toList=d.toList.eraseIdx j:=by
   unfold Array.eraseIdxIfInBounds;rw[dif_pos s];simp
  refine⟨.map (d.eraseIdxIfInBounds j) a,_,by simp[Builtin.delete_,UB F,Us g,E.keyed.check W _ w,v,km _ g,Result.andThen];rfl,B.putMap,⟨⟨_,_,rfl,?_,?_,?_⟩,vU f.nodup _⟩⟩
  .rw[c,map_eraseIdx,i,<-map_eraseIdx,<-n,YU f.nodup u]
  .rw[c];exact H.sublist ((List.eraseIdx_sublist _ _).map _)
  .intro z m;rw[c]at m;exact J z ((List.eraseIdx_sublist _ _).subset m)
theorem Va.len(ht:P.underlying t=some (.map k e))(c:Va ek ev o l)(d:W.heap[b]?=some o)(f:TypeId):(Builtin.len_ #[t] f #[.map (some b)]).run P W=.ok (OI (l.length:Int)) W:=by
 obtain⟨h,a,rfl,h1,h2,i⟩:=c.ex;have g:=c.size rfl;simp[Builtin.len_,UB ht,Us d,goInt,g,Result.andThen]
end laws
def Qx{κ:Type}(ek:κ->Value)(b:Nat)(oi om:Obj)(V:List κ):Prop :=
 ∃es clock since seen c0,om=.map es clock/\oi=.mapIter (some b) since seen c0/\(∀x∈es.toList,x.born<since)/\since<=c0/\since<=clock/\∀x∈es.toList,(seen.contains x.born=true<->∃y∈V,x.key=ek y)
section loop
variable {κ ν:Type} [DecidableEq κ] {ek:κ->Value} {ev:ν->Value} {P:Program} {k e t:TypeId} {oi om:Obj} {l:List (κ × ν)} {V:List κ} {W0 W:World} {M:va} {b r:Nat}
theorem Va.range(g:P.underlying t=some (.map k e))(f:Va ek ev om l)(c:St W0 W ((b,om)::M)):
  ∃oi,(Instr.range t (.map (some b))).run P W=.ok (OQ W.heap.size) (W.alloc oi)/\St W0 (W.alloc oi) ((W.heap.size,oi)::(b,om)::M)/\Qx ek b oi om []:=by
 obtain⟨d,a,rfl,j,i,h⟩:=f.ex;exact⟨_,run_range_map W t k e b d a g c.get,c.alloc _,d,a,a,#[],a,rfl,rfl,h,jm _,jm _,by simp⟩
theorem Va.next(n:∀x y,ek x=ek y->x=y)(hM:Va ek ev om l)(K:St W0 W ((r,oi)::(b,om)::M))(hI:Qx ek b oi om V)(U:TypeId):
  ((∀p∈l,p.1∈V)/\(Instr.next (OQ r) false U).run P W=.ok (.tuple #[.bool false]) W) \/
  ∃p∈l,p.1∉V/\∃oi' W',(Instr.next (OQ r) false U).run P W=.ok (.tuple #[.bool true,ek p.1,ev p.2]) W'/\St W0 W' ((r,oi')::(b,om)::M)/\Qx ek b oi' om (V++[p.1]) /\
   ∀g M',St W0 g ((r,oi')::(b,om)::M')->(Instr.entry (OQ r)).run P g=.ok (.tuple #[ek p.1,ev p.2]) g:=by
 obtain⟨w,a,rfl,R,Z,h3⟩:=hM.ex;obtain⟨a0,H,d,c,c0,e0,rfl,i1,i2,i3,I⟩:=hI;injection e0 with e1 e2
 subst e1 e2;have hr:=K.get;have hb:=K.tail.get;rcases run_next_at (P:=P) W U r b d c0 c w a hr hb i1 i2 with⟨h0,f⟩|⟨x,J,Y,X,f⟩
 .refine .inl ⟨λp G=>?_,f⟩;obtain⟨x,J,s,_⟩:=Va.back R G;have hs:c.contains x.born=true:=all_seen w c h0 x J;obtain⟨y,h,B⟩:=(I x J).1 hs;rw[s]at B;rw[n _ _ B];exact h
 .obtain⟨m,Q⟩:=mem_left J;obtain⟨j,hj⟩:=JP.1 m;obtain⟨p,G,s,hv⟩:=Va.get R hj;have L:=Js G;have E:St W0 Y ((r,.mapIter (some b) d c c0)::(b,.map w a)::M):=by
   rcases X with rfl|rfl
   .exact K
   .exact K.drew
  have A:=MapKept.heap_set (o':=Obj.mapIter (some b) d (c.push x.born) a) E.get;have S:St W0 (setBlock Y r (.mapIter (some b) d (c.push x.born) a)) ((r,.mapIter (some b) d (c.push x.born) a)::(b,.map w a)::M) :=
   E.put ⟨rfl,rfl,rfl,by simp[setBlock],λi _ F=>A.2 i (λe=>F (by rw[e]))⟩ A.1
  have C:∀z∈w.toList,z.born=x.born->z=x:=λz v e=>_root_.Go.born_inj Z v m e
  have D:∀z∈w.toList,z.key=x.key->z.born=x.born:=by
   intro z v T;obtain⟨i,F⟩:=JP.1 v;obtain⟨q,hq,N,_⟩:=Va.get R F;have:q.1=p.1:=n _ _ (by rw[<-N,T,s]);have O:i=j:=by
    have n1:(l.map (·.1))[i]?=some q.1:=by rw[jZ,hq];rfl
    have n2:(l.map (·.1))[j]?=some p.1:=by rw[jZ,G];rfl
    obtain⟨a1,b1⟩:=jV.1 n1;obtain⟨a2,b2⟩:=jV.1 n2;exact(kz hM.nodup).1 (by rw[b1,b2,this])
   subst O;rw[hj]at F;cases F;rfl
  refine .inr ⟨p,L,λhm=>?_,_,_,by rw[f,s,hv],S,⟨w,a,d,c.push x.born,a,rfl,rfl,i1,i3,i3,λz v=>?_⟩,λg M' u=>?_⟩
  .have:=(I x m).2 ⟨p.1,hm,s⟩;rw[Q]at this;cases this
  .rw[contains_push];constructor
   .intro hc;by_cases hz':z.born=x.born
    .exact⟨p.1,by simp,by rw[C z v hz',s]⟩
    .have:c.contains z.born=true:=by simpa [hz'] using hc
     obtain⟨y,h,B⟩:=(I z v).1 this;exact⟨y,jx _ h,B⟩
   .rintro⟨y,h,B⟩;rcases jo.1 h with h|h
    .rw[(I z v).2 ⟨y,h,B⟩];rfl
    .simp at h;subst h;have:=D z v (by rw[B,s]);simp[this]
  .rw[run_entry_at g r b d c w a x u.get u.tail.get m Z,s,hv]
theorem zaQ{V:List (κ × ν)}(d:(l.map (·.1)).Nodup)(m:(V.map (·.1)).Nodup)(a:∀p∈V,p∈l)(c:∀p∈l,p.1∈V.map (·.1)):V.Perm l:=by
 refine(Un ?_ ?_).2 λp=>⟨a p,λf=>?_⟩
 .exact vY m
 .exact vY d
 .obtain⟨q,h,g⟩:=jg.1 (c p f);have i:=qg d (x:=q.1) (y:=q.2) (a q h);have j:=qg d (x:=p.1) (y:=p.2) f;rw[g,j]at i;have:p=q:=Prod.ext g.symm (Jv i);rw[this];exact h
end loop
end
structure Pr where
 id:Int
 code:Bs
 deriving DecidableEq
structure En where
 value:Int
 code:Bs
 id:Int
 seq:Int
 dead:Bool
 deriving DecidableEq
structure Up where
 seq:Int
 kind:Int
 id:Int
 code:Bs
 deriving DecidableEq
structure Op3 where
 width:Int
 chunks:Int
 mode:Int
 deriving DecidableEq
structure RI where
 number:Int
 lo:Int
 hi:Int
 count:Int
 deriving DecidableEq
structure Mf where
 o:Op3
 seq:Int
 next:Int
 journal:Int
 runs:List RI
 deriving DecidableEq
structure Hd where
 width:Int
 table:Int
 bits:Int
 lo:Int
 hi:Int
 count:Int
 deriving DecidableEq
instance:Inhabited En:=⟨⟨0,[],0,0,false⟩⟩
instance:Inhabited Pr:=⟨⟨0,[]⟩⟩
instance:Inhabited Up:=⟨⟨0,0,0,[]⟩⟩
instance:Inhabited RI:=⟨⟨0,0,0,0⟩⟩
def Xc(w:Int):Bool:=decide (64<=w)&&decide (w<=1024)&&decide (w%64=0)
def Qh(w:Int)(code:Bs):Int:=if Xc w=false then 10 else if(code.length:Int)≠w/8 then 11 else 0
def Ye(w m:Int):Int:=if Xc w=false then 10 else if m<(w+31)/32\/w/8<m then 12 else 0
def ze(w m j:Nat):Nat:=w/m+if j<w%m then 1 else 0
def zf(w m:Nat):Nat->Nat
 |0=>0
 |j+1=>zf w m j+ze w m j
def YF(s:Bs)(i:Nat):Nat:=(s.getD (i/8) 0).toNat/2^(7-i%8)%2
def Yt(s:Bs)(frm:Nat):Nat->Nat
 |0=>0
 |n+1=>Yt s frm n*2+YF s (frm+n)
theorem Zal(s:Bs)(i:Nat):YF s i<2:=JQ _ (by decide)
theorem zM(s:Bs)(a n:Nat):Yt s a n<2^n:=by
 induction n with
 |zero=>simp[Yt]
 |succ n ih=>have:=Zal s (a+n);simp only[Yt,UX];omega
def yu(w m:Nat)(code:Bs):List Int:=(List.range m).map λj=>(Yt code (zf w m j) (ze w m j):Int)
def yp(w m:Int)(code:Bs):List Int:=if m=0 then[0]else yu w.toNat m.toNat code
def Xg:Bs->Bs->Int
 |[],[]=>0
 |[],_::_=>-1
 |_::_,[]=>1
 |a::r,b::s=>if a.toNat<b.toNat then -1 else if b.toNat<a.toNat then 1 else Xg r s
def Vi(a b:Int):Int:=if a<b then -1 else if b<a then 1 else 0
def yb(a b:En):Int:=if a.value≠b.value then Vi a.value b.value else if a.code≠b.code then Xg a.code b.code else Vi a.id b.id
def Zm(h:Hd):Int :=
 if Xc h.width=false then 10
 else if h.table<0\/128<=h.table\/h.bits<1\/32<h.bits\/h.lo<0\/h.hi<h.lo\/1152921504606846976<h.hi then 13 else 0
def vu(h:Hd)(e:En):Int :=
 if Qh h.width e.code≠0 then 11
 else if e.value<0\/(2:Int)^h.bits.toNat<=e.value then 13
 else if e.id<0\/281474976710656<e.id then 60
 else if e.seq<=h.lo\/h.hi<e.seq then 51 else 0
def num(n:Int):Bs:=qb n.toNat
def Yn(e:En):Bs:=Vh e.value.toNat 4++e.code++num e.id
def qc(e:En):Bs:=Yn e++num e.seq++[if e.dead then 1 else 0]
structure Ln where
 first:En
 count:Nat
 at':Nat
structure Bu where
 b:Bs
 lines:List Ln
 sum:Nat
def Bu.block(w:Bu)(cur:List En)(p:Bs):Bu :=
 match cur with
 |[]=>w
 |e::r=>{b:=w.b++ve 5 p,lines:=w.lines++[⟨e,(e::r).length,w.b.length⟩],sum:=qF w.sum p}
def Bu.blocks(w:Bu)(cur:List En)(pay:Bs):List En->Bu
 |[]=>w.block cur pay
 |e::r=>if 4096<pay.length+(qc e).length then Bu.blocks (w.block cur pay) [e] (qc e) r else Bu.blocks w (cur++[e]) (pay++qc e) r
def zn(l:Ln):Bs:=Yn l.first++qb l.count++qb l.at'
def Vj(pay:Bs):List Ln->Bs
 |[]=>if pay=[]then[]else ve 6 pay
 |l::r=>if 4096<pay.length+(zn l).length then ve 6 pay++Vj (zn l) r else Vj (pay++zn l) r
def Yk(h:Hd)(n:Nat):Bs:=num h.width++num h.table++num h.bits++num h.lo++num h.hi++qb n
def XU(h:Hd)(list:List En):Bu:=Bu.blocks ⟨ve 4 (Yk h list.length),[],0⟩ [] [] list
def xx(w:Bu):Bs:=ve 7 (qb w.lines.length++qb w.b.length++Vh w.sum 4)
def Xk(h:Hd)(list:List En):Bs:=(XU h list).b++Vj [] (XU h list).lines++xx (XU h list)
def XJ(p:Option En)(e:En):Bool:=match p with|none=>false|some q=>decide (0<=yb q e)
def Qv(h:Hd):Option En->List En->Int
 |_,[]=>0
 |p,e::r =>
  if vu h e≠0 then vu h e
  else if XJ p e=true then 50 else Qv h (some e) r
def Vm(h:Hd)(list:List En):Int:=if Zm h≠0 then Zm h else if 2097152<list.length then 43 else Qv h none list
structure En.fit (e:En) (w:Nat):Prop where
 code:e.code.length=w
 v0:0<=e.value
 v1:e.value<4294967296
 i0:0<=e.id
 i1:e.id<=281474976710656
 s0:0<=e.seq
 s1:e.seq<=1152921504606846976
theorem vav(e:En):0<(qc e).length:=by simp[qc];omega
theorem vO{h:Hd}(e:Zm h=0):Xc h.width=true/\0<=h.table/\h.table<128/\1<=h.bits/\h.bits<=32/\0<=h.lo/\h.lo<=h.hi/\h.hi<=1152921504606846976:=by
 unfold Zm at e;split at e
 .cases e
 .rename_i a
  split at e
  .cases e
  .rename_i b
   simp only[Bool.not_eq_false]at a;exact⟨a,by omega,by omega,by omega,by omega,by omega,by omega,by omega⟩
theorem Xd:Xc x=true<->64<=x/\x<=1024/\x%64=0:=by simp[Xc,and_assoc]
def Vk(l:List (Nat × Bs)):Bs:=l.flatMap λx=>ve x.1 x.2
def yaJ(l:List (Nat × Bs)):Prop:=∀x∈l,1<=x.1/\x.1<=255/\x.2.length<=65536
theorem Xy(x:Nat × Bs)(l:List (Nat × Bs)):Vk (x::l)=ve x.1 x.2++Vk l:=rfl
theorem VU(a b:List (Nat × Bs)):Vk (a++b)=Vk a++Vk b:=by simp[Vk]
theorem vat:∀(l:List (Nat × Bs)) (a b:Nat),yaJ l->l.length<a->((qm a (Vk l) b).1.map (λx=>(x.1,x.2.1))=l/\(qm a (Vk l) b).2=b+(Vk l).length):=by
 intro l;induction l with
 |nil =>
  intro a b _ h;cases a with
  |zero=>simp at h
  |succ a=>simp[Vk,qm,yg]
 |cons x r ih =>
  intro a b c h;cases a with
  |zero=>simp at h
  |succ a =>
   obtain⟨j,g,m⟩:=c x jc;have e:(Vk (x::r)).drop (x.2.length+14)=Vk r:=by
    rw[Xy,<-zh x.1 x.2,UV]
   have d:=vS x.1 x.2 (Vk r) j g m;rw[<-Xy]at d;obtain⟨f,k⟩:=ih a (b+(x.2.length+14)) (λy i=>c y (jb _ i)) (by simpa using h);simp only[qm,d,e,ju,f,k];refine⟨trivial,?_⟩;rw[Xy,ja,zh];omega
def Xt(gs:List (List En)):List (Nat × Bs):=gs.map λg=>(5,g.flatMap qc)
theorem Vf(h:c<2^63):(qb c).length<=9:=xY 9 c (JG h (by decide)) (by decide)
theorem Yab{e:En}(h:e.fit n):(qc e).length<=n+23:=by
 have a:=Vf e.id.toNat (by have:=h.i1;omega);have b:=Vf e.seq.toNat (by have:=h.s1;omega);simp only[qc,Yn,num,ja,qi,h.code,j8];omega
theorem qat(G:n<=128):∀(h:List En) (u:Bu) (a:List En) (c:Bs) (f:List (List En)) (pre:Bs),
  (∀e∈h,e.fit n)->(∀e∈a,e.fit n)->c=a.flatMap qc->c.length<=4096->u.b=pre++Vk (Xt f)->(∀g∈f,(∀e∈g,e.fit n)/\(g.flatMap qc).length<=4096) ->
  ∃d,(u.blocks a c h).b=pre++Vk (Xt d)/\d.flatten=f.flatten++a++h/\(∀g∈d,(∀e∈g,e.fit n)/\(g.flatMap qc).length<=4096):=by
 intro h;have i:∀(u:Bu) (a:List En) (c:Bs) (f:List (List En)) (pre:Bs),(∀e∈a,e.fit n)->c=a.flatMap qc->c.length<=4096->u.b=pre++Vk (Xt f)->(∀g∈f,(∀e∈g,e.fit n)/\(g.flatMap qc).length<=4096) ->
   ∃d,(u.block a c).b=pre++Vk (Xt d)/\d.flatten=f.flatten++a/\(∀g∈d,(∀e∈g,e.fit n)/\(g.flatMap qc).length<=4096):=by
  intro u a c f pre p m q k l;cases a with
  |nil=>exact⟨f,k,by simp,l⟩
  |cons e r =>
   refine⟨f++[e::r],?_,by simp,λg o=>?_⟩
   .show u.b++ve 5 c=_;rw[k,show Xt (f++[e::r])=Xt f++[(5,(e::r).flatMap qc)]from by simp[Xt],VU,<-jE,m];simp[Vk]
   .rcases jo.1 o with o|o
    .exact l g o
    .simp at o;subst o;exact⟨p,by rw[<-m];exact q⟩
 induction h with
 |nil =>
  intro u a c f pre _ p m q k l;obtain⟨d,y,t,A⟩:=i u a c f pre p m q k l;exact⟨d,y,by rw[t];simp,A⟩
 |cons e r ih =>
  intro u a c f pre E p m q k l;have C:=E e jc;have F:∀x∈r,x.fit n:=λx j=>E x (jb _ j)
  have D:=Yab C;simp only[Bu.blocks];split
  .obtain⟨s,y,t,A⟩:=i u a c f pre p m q k l;obtain⟨d,v,z,B⟩:=ih (u.block a c) [e] (qc e) s pre F (by intro x j;simp at j;subst j;exact C) (by simp) (by omega) y A;exact⟨d,v,by rw[z,t];simp[jE],B⟩
  .obtain⟨d,v,z,B⟩:=ih u (a++[e]) (c++qc e) f pre F (by
    intro x j;rcases jo.1 j with j|j
    .exact p x j
    .simp at j;subst j;exact C) (by simp[m]) (by simp only[ja];omega) k l
   exact⟨d,v,by rw[z];simp[jE],B⟩
theorem qav:∀(d:List Ln) (a:Bs),(∀l∈d,(zn l).length<=4096)->a.length<=4096->∃c:List (Nat × Bs),Vj a d=Vk c/\yaJ c/\∀x∈c,x.1=6:=by
 intro d;induction d with
 |nil =>
  intro a _ e;unfold Vj;split
  .exact⟨[],rfl,by simp[yaJ],by simp⟩
  .exact⟨[(6,a)],by simp[Vk],by intro x b;simp at b;subst b;exact⟨(by decide:(1:Nat)<=6),(by decide:(6:Nat)<=255),jI e (by decide)⟩,by simp⟩
 |cons l r ih =>
  intro a f e;have j:=f l jc;have g:∀x∈r,(zn x).length<=4096:=λx b=>f x (jb _ b)
  unfold Vj;split
  .obtain⟨c,h,k,i⟩:=ih (zn l) g j;refine⟨(6,a)::c,by rw[Xy,h],?_,?_⟩
   .intro x b;rcases jp.1 b with rfl|b
    .exact⟨(by decide:(1:Nat)<=6),(by decide:(6:Nat)<=255),jI e (by decide)⟩
    .exact k x b
   .intro x b;rcases jp.1 b with rfl|b
    .rfl
    .exact i x b
  .exact ih _ g (by simp only[ja];omega)
theorem Xag{h:Hd}{e:En}(d:Zm h=0)(a:vu h e=0):e.fit (h.width.toNat/8):=by
 obtain⟨c,k,g,p,j,m,s,l⟩:=vO d;obtain⟨f,u,i⟩:=Xd.1 c;unfold vu at a;split at a
 .cases a
 .rename_i b
  split at a
  .cases a
  .rename_i t
   split at a
   .cases a
   .rename_i r
    split at a
    .cases a
    .rename_i q
     simp only[JW,kX]at b;unfold Qh at b;rw[c]at b;simp only[kU,Jb]at b;split at b
     .cases b
     .rename_i o
      have n:(2:Int)^h.bits.toNat<=4294967296:=by
       have:(2:Nat)^h.bits.toNat<=2^32:=JS (by decide) (by omega)
       calc (2:Int)^h.bits.toNat=((2^h.bits.toNat:Nat):Int):=by push_cast;rfl
        _<=((2^32:Nat):Int):=by exact_mod_cast this
        _=4294967296:=by decide
      exact⟨by omega,by omega,by omega,by omega,by omega,by omega,by omega⟩
theorem Xab{h:Hd}:∀{l:List En} {p:Option En},Qv h p l=0->∀e∈l,vu h e=0:=by
 intro l;induction l with
 |nil=>intro p _ e b;cases b
 |cons x r ih =>
  intro p a e b;unfold Qv at a;split at a
  .rename_i c;exact absurd a c
  .rename_i c
   split at a
   .cases a
   .rcases jp.1 b with rfl|b
    .simpa using c
    .exact ih a e b
structure zc where
 data:Bs
 sure:Nat
structure Dk where
 files:List (Bs × zc)
 cap:Int
 used:Int
 age:Int
 writes:Int
 off:Bool
 armed:Int
 done:Bool
def Zf(s:Bs):Bool:=s.all (λc=>c==46||(decide (97<=c.toNat)&&decide (c.toNat<=122))||(decide (48<=c.toNat)&&decide (c.toNat<=57)))&&decide (1<=s.length)&&decide (s.length<=32)
def Dk.get(d:Dk)(n:Bs):Option zc:=Zd d.files n
def Dk.look(d:Dk)(n:Bs):Int:=if d.off then 45 else if Zf n=false then 40 else if(d.get n).isNone then 42 else 0
def Dk.accept(d:Dk)(last:Bool)(f:Dk->Dk):Dk × Int :=
 let d1:={d with writes:=IntKind.i64.wrap (d.writes+1)}
 if d.armed=0 then(f d1,0)
 else
  let d2:={d1 with armed:=d.armed-1}
  if 0<d.armed-1 then(f d2,0)
  else({ (if last then f d2 else d2)with off:=true},45)
def Dk.put(d:Dk)(n:Bs)(f:zc):Dk:={d with files:=ye d.files n f}
def Dk.drop(d:Dk)(n:Bs):Dk:=match d.get n with|none=>d|some f=>{d with used:=d.used-f.data.length,files:=Zi d.files n}
def Dk.create(d:Dk)(n:Bs):Dk × Int :=
 if d.look n=0 then(d,41)else if d.look n≠42 then(d,d.look n)else if 4096<=d.files.length then(d,43)else d.accept d.done λd=>d.put n ⟨[],0⟩
def Dk.append(d:Dk)(n:Bs)(b:Bs):Dk × Int :=
 match d.get n with
 |none=>(d,d.look n)
 |some f =>
  if d.look n≠0 then(d,d.look n)
  else if 268435456-(f.data.length:Int)<b.length then(d,36)
  else if b≠[]/\d.cap-d.used<b.length then(d,44)
  else d.accept true λd=>{d.put n ⟨f.data++b,f.sure⟩with used:=d.used+b.length}
def Dk.sync(d:Dk)(n:Bs):Dk × Int :=
 match d.get n with
 |none=>(d,d.look n)
 |some f=>if d.look n≠0 then(d,d.look n)else d.accept false λd=>d.put n ⟨f.data,f.data.length⟩
def Dk.cut(d:Dk)(n:Bs)(k:Int):Dk × Int :=
 match d.get n with
 |none=>(d,d.look n)
 |some f =>
  if d.look n≠0 then(d,d.look n)
  else if k<0\/(f.data.length:Int)<k then(d,13)
  else d.accept d.done λd=>{d.put n ⟨f.data.take k.toNat,min f.sure k.toNat⟩with used:=d.used-((f.data.length:Int)-k)}
def Dk.delete(d:Dk)(n:Bs):Dk × Int:=if d.look n≠0 then(d,d.look n)else d.accept d.done λd=>d.drop n
def Dk.rename(d:Dk)(a b:Bs):Dk × Int :=
 match d.get a with
 |none=>if d.look a=45 then(d,45)else if d.look a=40\/Zf b=false then(d,40)else(d,d.look a)
 |some f =>
  if d.look a=45 then(d,45)
  else if d.look a=40\/Zf b=false then(d,40)
  else d.accept d.done λd=>if a=b then d else let d1:=d.drop b;{d1 with files:=ye (Zi d1.files a) b f}
def leB:Bs->Bs->Bool
 |[],_=>true
 |_::_,[]=>false
 |a::r,b::s=>if a.toNat<b.toNat then true else if b.toNat<a.toNat then false else leB r s
def Xn(l:List Bs):List Bs:=l.mergeSort leB
def Dk.names(d:Dk):List Bs:=Xn (d.files.map (·.1))
def Dk.size(d:Dk)(n:Bs):Int × Int:=match d.get n with|none=>(0,d.look n)|some f=>if d.look n≠0 then(0,d.look n)else(f.data.length,0)
def Dk.read(d:Dk)(n:Bs)(at' k:Int):Bs × Int :=
 match d.get n with
 |none=>([],d.look n)
 |some f=>if d.look n≠0 then([],d.look n)else if at'<0\/k<0\/(f.data.length:Int)<k\/(f.data.length:Int)-k<at' then([],13)else((f.data.drop at'.toNat).take k.toNat,0)
structure Dk.Wf (d:Dk):Prop where
 nodup:(d.files.map (·.1)).Nodup
 names:∀x∈d.files,Zf x.1=true
 sizes:∀x∈d.files,x.2.data.length<=268435456/\x.2.sure<=x.2.data.length
 used:d.used=(d.files.map (λx=>(x.2.data.length:Int))).sum
 room:d.used<=d.cap
 c0:0<=d.cap
 c1:d.cap<=1073741824
 count:d.files.length<=4096
 a0:0<=d.armed
 a1:d.armed<=9223372036854775807
def En.pair(e:En):Int × Bs:=(e.id,e.code)
def Ze(L:List En)(p:Int × Bs):Option En:=(L.filter (λe=>decide (e.pair=p))).getLast?
def qu(L:List En)(p:Int × Bs):Option En:=(Ze L p).filter (λe=>!e.dead)
theorem Qao(p:Int × Bs):Ze [] p=none:=rfl
theorem yE(A B:List En)(p:Int × Bs):Ze (A++B) p=(Ze B p).or (Ze A p):=by
 simp only[Ze,ke,List.getLast?_append]
theorem QQ(e:En)(p:Int × Bs):Ze [e] p=if e.pair=p then some e else none:=by
 by_cases h:e.pair=p<;>simp[Ze,h]
theorem Vag(A:List En)(e:En)(p:Int × Bs):Ze (A++[e]) p=if e.pair=p then some e else Ze A p:=by
 rw[yE,QQ];split<;>simp
theorem zl{L:List En}{p:Int × Bs}{e:En}(h:Ze L p=some e):e∈L/\e.pair=p:=by
 have:=U2 h;simp only[Jf,jG]at this;exact this
theorem qp{L:List En}{p:Int × Bs}:Ze L p=none<->∀e∈L,e.pair≠p:=by
 simp only[Ze,kN,List.filter_eq_nil_iff,jG]
theorem XF(A B:List En)(p:Int × Bs):qu (A++B) p=match Ze B p with|some e=>(some e).filter (λe=>!e.dead)|none=>qu A p:=by
 unfold qu;rw[yE];cases Ze B p<;>rfl
theorem qS{L:List En}{p:Int × Bs}{e:En}:qu L p=some e<->Ze L p=some e/\e.dead=false:=by
 unfold qu;cases h:Ze L p with
 |none=>simp
 |some x=>cases hx:x.dead<;>simp[Option.filter,hx]<;>(intro a;subst a;simp[hx])
abbrev Qi:=Int->Option Bs
def Qi.apply(M:Qi)(u:Up):Qi:=λi=>if i=u.id then(if u.kind=1 then some u.code else none)else M i
def Qm(M:Qi)(u:Up):En:=⟨0,if u.kind=1 then u.code else(M u.id).getD [],u.id,u.seq,decide (u.kind≠1)⟩
def Qi.goes(M:Qi)(u:Up):Prop:=(u.kind=1/\M u.id=none)\/(u.kind=2/\M u.id≠none)
def qr(M:Qi):List Up->Qi
 |[]=>M
 |u::r=>qr (M.apply u) r
def zq(M:Qi):List Up->List En
 |[]=>[]
 |u::r=>Qm M u::zq (M.apply u) r
def qC(M:Qi):List Up->Prop
 |[]=>True
 |u::r=>M.goes u/\qC (M.apply u) r
theorem zR(M:Qi)(A B:List Up):qr M (A++B)=qr (qr M A) B:=by
 induction A generalizing M with
 |nil=>rfl
 |cons u r ih=>exact ih _
theorem Qag(M:Qi)(A B:List Up):zq M (A++B)=zq M A++zq (qr M A) B:=by
 induction A generalizing M with
 |nil=>rfl
 |cons u r ih=>simp only[jO,zq,qr,ih]
theorem yaQ(M:Qi)(A B:List Up):qC M (A++B)<->qC M A/\qC (qr M A) B:=by
 induction A generalizing M with
 |nil=>simp[qC,qr]
 |cons u r ih=>simp only[jO,qC,qr,ih,and_assoc]
def qO(M:Qi)(L:List En):Prop:=∀i c,M i=some c<->∃e,qu L (i,c)=some e
theorem va3:qO (λ_=>none) []:=λi c=>by simp[qu,Ze]
theorem xaQ{M:Qi}{L:List En}(h:qO M L){u:Up}(m:M.goes u):qO (M.apply u) (L++[Qm M u]):=by
 intro i c;have g:(Qm M u).pair=(u.id,if u.kind=1 then u.code else(M u.id).getD []):=rfl;have k:(Qm M u).dead=decide (u.kind≠1):=rfl;have key:qu (L++[Qm M u]) (i,c)=if(Qm M u).pair=(i,c)then(some (Qm M u)).filter (λe=>!e.dead)else qu L (i,c):=by
  rw[XF,QQ];by_cases h0:(Qm M u).pair=(i,c)
  .rw[jh h0,jh h0]
  .rw[jd h0,jd h0]
 rw[key];unfold Qi.apply;by_cases hi:i=u.id
 .subst hi;rw[jh rfl];rcases m with⟨f,j⟩|⟨f,j⟩
  .rw[jh f,g,jh f];by_cases hc:u.code=c
   .subst hc;rw[jh rfl];simp[Option.filter,k,f]
   .rw[jd (by simp[hc])];constructor
    .intro e;exact absurd (Jv e) hc
    .intro a;have:=(h u.id c).2 a;rw[j]at this;cases this
  .have b:u.kind≠1:=by omega
   rw[jd b,g,jd b];obtain⟨l,d⟩:=UJ.1 j;rw[d];simp only[kB];constructor
   .intro e;cases e
   .intro a;exfalso;by_cases hc:l=c
    .subst hc;rw[jh rfl]at a;obtain⟨e,a⟩:=a;simp[Option.filter,k,b]at a
    .rw[jd (by simp[hc])]at a;have:=(h u.id c).2 a;rw[d]at this;exact hc (Jv this)
 .rw[jd hi,g,jd (by simp;intro e;exact absurd e.symm hi)];exact h i c
theorem xaJ{M:Qi}{L:List En}(h:qO M L):∀{A:List Up},qC M A->qO (qr M A) (L++zq M A):=by
 intro A;induction A generalizing M L with
 |nil=>intro _;simpa [zq,qr] using h
 |cons u r ih =>
  intro a;have:=ih (xaQ h a.1) a.2;simpa [zq,qr,jE] using this
def qx(L K:List En):Prop:=∀p,qu L p=qu K p
theorem qx.refl(L:List En):qx L L:=λ_=>rfl
theorem qx.trans{A B C:List En}(h:qx A B)(k:qx B C):qx A C:=λp=>(h p).trans (k p)
theorem qx.says{M:Qi}{L K:List En}(h:qO M L)(a:qx L K):qO M K:=λi c=>by rw[<-a (i,c)];exact h i c
theorem qx.app{A B C:List En}(h:qx A B):qx (A++C) (B++C):=λp=>by rw[XF,XF];cases Ze C p<;>simp[h p]
def Zau(L K:List En):Prop:=∀p,Ze K p=Ze L p
theorem Zau.same{A L K:List En}(h:Zau L K):qx (A++L) (A++K):=λp=>by rw[XF,XF,h p]
theorem vaQ{L K:List En}(h:∀p,Ze K p=qu L p):qx L K:=λp=>by
 have:=h p;unfold qu at *;rw[this];cases hl:Ze L p with
 |none=>simp
 |some e=>cases hd:e.dead<;>simp[Option.filter,hd]
theorem QU{L K:List En}(t:(L.map En.pair).Nodup)(c:L.Perm K)(p:Int × Bs):Ze L p=Ze K p:=by
 have k:(K.map En.pair).Nodup:=(c.map _).nodup_iff.1 t;have d:∀(A:List En),(A.map En.pair).Nodup->∀e,Ze A p=some e<->e∈A/\e.pair=p:=by
  intro A s e;refine⟨zl,λ⟨b,a⟩=>?_⟩;cases hl:Ze A p with
  |none=>exact absurd a (qp.1 hl e b)
  |some x =>
   obtain⟨q,n⟩:=zl hl;obtain⟨i,h⟩:=JP.1 b;obtain⟨j,f⟩:=JP.1 q;have m:(A.map En.pair)[i]?=some p:=by rw[jZ,h];simp[a]
   have r:(A.map En.pair)[j]?=some p:=by rw[jZ,f];simp[n]
   obtain⟨u,l⟩:=jV.1 m;obtain⟨v,b2⟩:=jV.1 r;have g:i=j:=(kz s).1 (by rw[l,b2]);subst g;rw[h]at f;exact f.symm
 cases hl:Ze L p with
 |none =>
  symm
  rw[qp]at hl|-
  exact λe o=>hl e (c.mem_iff.2 o)
 |some e =>
  obtain⟨b,a⟩:=zl hl;exact((d K k e).2 ⟨c.mem_iff.1 b,a⟩).symm
theorem ZO:(prog.info? 5).map (λi=>(i.zero,i.size,i.bytes))=some (some (.int .u8 0),1,1):=by kernel_rfl
theorem Yal:(prog.info? 3).map (λi=>(i.zero,i.size,i.bytes))=some (some (OI 0),1,8):=by kernel_rfl
def Ret(v:Value)(w:World)(e:Ending)(w':World):Prop:=e=.returned v/\w=w'
theorem Ret.mk(h:v=r):Ret v W (.returned r) W:=⟨by rw[h],rfl⟩
def Vd(v:Value)(w:World)(e:Ending)(w':World):Prop:=e=.returned v/\Below w.heap.size w w'
theorem Vd.mk(h:v=r)(a:Below W.heap.size W V):Vd v W (.returned r) V:=⟨by rw[h],a⟩
theorem Ret.toB{e:Ending}(h:Ret v W e V):Vd v W e V:=⟨h.1,by rw[<-h.2];exact jU _ _⟩
end Go.Proofs.YtekkihmmclencaaGreatDoor
