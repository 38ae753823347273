import Derived.Test.YtekkihmmclencaaGreatDoorM14
namespace Go.Proofs.YtekkihmmclencaaGreatDoor
set_option linter.all false
set_option maxRecDepth 100000
set_option maxHeartbeats 40000000
open Tryz
open Go Go.RowKit Go.Sort
variable(U w:World)(q c:Nat){W V:World}{n b k i j:Nat}{F:va}{s t:Bs}{d e:Dk}
structure ZW (d:Dk):Prop where
 on:d.off=false
 wf:d.Wf
structure YW (d d':Dk):Prop where
 cap:d'.cap=d.cap
 age:d'.age=d.age
 wf:d'.Wf
 arm:d'.armed<=d.armed
theorem YW.refl(h:d.Wf):YW d d:=⟨rfl,rfl,h,Jy _⟩
theorem YW.trans{a b c:Dk}(h:YW a b)(k:YW b c):YW a c:=⟨k.cap.trans h.cap,k.age.trans h.age,k.wf,U7 k.arm h.arm⟩
def Did(d:Dk)(r:Dk × Int)(ok part:List (Bs × zc)->Prop):Prop :=
 YW d r.1/\((r.2=0/\r.1.off=false/\ok r.1.files)\/(r.2=45/\r.1.off=true/\0<d.armed/\part r.1.files))
theorem Did.mono{r:Dk × Int}{ok i j g:List (Bs × zc)->Prop}(h:Did d r ok i)(l:∀f,ok f->j f)(k:∀f,i f->g f):Did d r j g :=
 ⟨h.1,h.2.elim (λ⟨a,b,c⟩=>.inl ⟨a,b,l _ c⟩) (λ⟨a,b,c,e⟩=>.inr ⟨a,b,c,k _ e⟩)⟩
theorem var(h:ZW d)(a:Zf s=true):d.look s=if(d.get s).isNone then 42 else 0:=by
 unfold Dk.look;rw[jd (by rw[h.on];decide),jd (by rw[a];decide)]
theorem XR(h:ZW d){f:zc}(a:d.get s=some f):d.look s=0:=by
 rw[var h (h.wf.names _ (Qq a)),a];rfl
theorem QaV(h:ZW d)(b:Zf s=true)(a:d.get s=none):d.look s=42:=by rw[var h b,a];rfl
theorem zH(h:ZW d)(b:Bool)(f:Dk->Dk)(ok a:List (Bs × zc)->Prop)
  (n:∀d1:Dk,d1={d with writes:=d1.writes,armed:=d1.armed}->0<=d1.armed->d1.armed<=d.armed->(f d1).cap=d.cap/\(f d1).age=d.age/\(f d1).Wf/\(f d1).armed=d1.armed/\(f d1).off=false/\ok (f d1).files)
  (l:∀g,ok g->a g) (k:b=false->a d.files):Did d (d.accept b f) ok a:=by
 have p:=h.wf.a0;unfold Dk.accept;simp only;split
 .rename_i o
  obtain⟨a1,e,i,c,m,j⟩:=n {d with writes:=IntKind.i64.wrap (d.writes+1)} rfl p (Jy _);exact⟨⟨a1,e,i,by rw[c];exact Jy _⟩,.inl ⟨rfl,m,j⟩⟩
 .rename_i o
  obtain⟨a1,e,i,c,m,j⟩:=n {d with writes:=IntKind.i64.wrap (d.writes+1),armed:=d.armed-1} rfl (by show 0<=d.armed-1;omega) (by show d.armed-1<=d.armed;omega);split
  .exact⟨⟨a1,e,i,by rw[c];show d.armed-1<=d.armed;omega⟩,.inl ⟨rfl,m,j⟩⟩
  .cases b with
   |true =>
    simp only[JV];exact⟨⟨a1,e,{i with},by show(f _).armed<=_;rw[c];show d.armed-1<=d.armed;omega⟩,.inr ⟨rfl,rfl,by omega,l _ j⟩⟩
   |false =>
    simp only[JD,Jb];exact⟨⟨rfl,rfl,{h.wf with a0:=by show 0<=d.armed-1;omega,a1:=by have:=h.wf.a1;show d.armed-1<=_;omega},by show d.armed-1<=d.armed;omega⟩,.inr ⟨rfl,rfl,by omega,k rfl⟩⟩
theorem Yaj{L:List (Bs × zc)}(a:d.files.Perm L)(l:(L.map (·.1)).Nodup)(b:∀x∈L,zc.ok x)(e:d.used=Xf L)(g:Xf L<=d.cap)(i:0<=d.cap)(h:d.cap<=1073741824)(k:L.length<=4096)(f:0<=d.armed)(j:d.armed<=9223372036854775807):d.Wf where
 nodup:=(a.map _).nodup_iff.2 l
 names:=λx c=>(b x (a.mem_iff.1 c)).1
 sizes:=λx c=>(b x (a.mem_iff.1 c)).2
 used:=by rw[e,<-yk a];rfl
 room:=by rw[e];exact g
 c0:=i
 c1:=h
 count:=by rw[a.length_eq];exact k
 a0:=f
 a1:=j
theorem QaL(h:ZW d){L:List (Bs × zc)}(b:d.files.Perm L)(l:Zf s=true)(c:s∉L.map (·.1))(u:L.length<4096):
  Did d (d.create s) (λf=>f.Perm ((s,⟨[],0⟩)::L)) (λf=>f.Perm ((s,⟨[],0⟩)::L)\/f.Perm L):=by
 have a:s∉d.files.map (·.1):=λo=>c ((b.map (·.1)).mem_iff.1 o)
 have i:d.get s=none:=Yg.2 a;have k:=QaV h l i;have e:(ye d.files s ⟨[],0⟩).Perm ((s,⟨[],0⟩)::L):=(zP a _).trans (b.cons _);unfold Dk.create;rw[jd (by rw[k];decide),jd (by rw[k];decide),jd (by rw[b.length_eq];omega)];refine zH h _ _ _ _ (λq p r t=>?_) (λg i=>.inl i) (λ_=>.inr b);have m:=h.wf.a1;rw[p];refine⟨rfl,rfl,Yaj e (by
   rw[ju,jY];exact⟨c,h.wf.nodup' b⟩) (λx j=>?_) ?_ ?_ h.wf.c0 h.wf.c1 (by rw[jk];omega) r (by show q.armed<=_;omega),rfl,h.on,e⟩
 .rcases jp.1 j with rfl|j
  .exact⟨l,by simp,by simp⟩
  .exact h.wf.ok x (b.mem_iff.2 j)
 .show d.used=_;rw[Zc,h.wf.used' b];simp
 .have:=h.wf.room;rw[Zc];rw[h.wf.used' b]at this;show(([]:Bs).length:Int)+Xf L<=d.cap;simpa using this
theorem zaM(h:ZW d){n b:Bs}{f:zc}{R:List (Bs × zc)}(a:d.files.Perm ((n,f)::R))(r:f.data.length+b.length<=268435456):
  Did d (d.append n b) (λg=>g.Perm ((n,⟨f.data++b,f.sure⟩)::R)) (λg=>g.Perm ((n,⟨f.data++b,f.sure⟩)::R))\/(d.append n b=(d,44)/\d.cap<Xf ((n,f)::R)+b.length):=by
 have j:d.get n=some f:=Vn h.wf.nodup a;have m:=XR h j;have t:=h.wf.used' a;have v:=h.wf.room;have k:=Xr h.wf.nodup a;have c:zc.ok (n,f):=h.wf.ok _ (a.mem_iff.2 jc);have i:(ye d.files n ⟨f.data++b,f.sure⟩).Perm ((n,⟨f.data++b,f.sure⟩)::R):=XV h.wf.nodup a _;by_cases h2:Xf ((n,f)::R)+b.length<=d.cap
 .left;unfold Dk.append;rw[j];simp only;rw[jd (by rw[m];decide),jd (by omega),jd (by rintro⟨_,w⟩;omega)];refine zH h _ _ _ _ (λs q p u=>?_) (λg j=>j) (λe=>by cases e);have o:=h.wf.a1;rw[q];refine⟨rfl,rfl,Yaj i (by
    rw[ju,jY];exact k) (λx l=>?_) ?_ ?_ h.wf.c0 h.wf.c1 (by have:=h.wf.count;rw[a.length_eq]at this;simpa using this) p (by show s.armed<=_;omega),rfl,h.on,i⟩
  .rcases jp.1 l with rfl|l
   .exact⟨c.1,by simp only[ja];exact r,by have:=c.2.2;simp only[ja]at this|-;omega⟩
   .exact h.wf.ok x (a.mem_iff.2 (jb _ l))
  .show d.used+b.length=_;rw[t,Zc,Zc];simp only[ja];push_cast;omega
  .show _<=d.cap;rw[Zc]at h2|-;simp only at h2;simp only[ja];push_cast;omega
 .right;refine⟨?_,by omega⟩;unfold Dk.append;rw[j];simp only;rw[jd (by rw[m];decide),jd (by omega),jh];refine⟨λe=>?_,by omega⟩;rw[e]at h2;simp only[jA]at h2;omega
theorem va6(h:ZW d){f:zc}{R:List (Bs × zc)}(a:d.files.Perm ((s,f)::R)):
  Did d (d.sync s) (λg=>g.Perm ((s,Xi f.data)::R)) (λg=>g.Perm ((s,Xi f.data)::R)\/g.Perm ((s,f)::R)):=by
 have e:d.get s=some f:=Vn h.wf.nodup a;have p:=XR h e;have k:=h.wf.used' a;have i:=Xr h.wf.nodup a;have b:zc.ok (s,f):=h.wf.ok _ (a.mem_iff.2 jc);have c:(ye d.files s ⟨f.data,f.data.length⟩).Perm ((s,Xi f.data)::R):=XV h.wf.nodup a _;unfold Dk.sync;rw[e];simp only;rw[jd (by rw[p];decide)];refine zH h _ _ _ _ (λq o m r=>?_) (λg e=>.inl e) (λ_=>.inr a);have l:=h.wf.a1;rw[o];refine⟨rfl,rfl,Yaj c (by
   rw[ju,jY];exact i) (λx j=>?_) ?_ ?_ h.wf.c0 h.wf.c1 (by have:=h.wf.count;rw[a.length_eq]at this;simpa using this) m (by show q.armed<=_;omega),rfl,h.on,c⟩
 .rcases jp.1 j with rfl|j
  .exact⟨b.1,b.2.1,jm _⟩
  .exact h.wf.ok x (a.mem_iff.2 (jb _ j))
 .show d.used=_;rw[k,Zc,Zc];rfl
 .show _<=d.cap;have:=h.wf.room;rw[k]at this;rw[Zc]at this|-;exact this
theorem QaG(h:d.Wf){f:zc}{R:List (Bs × zc)}(a:d.files.Perm ((s,f)::R)):(d.drop s).Wf/\(d.drop s).files.Perm R/\(d.drop s).cap=d.cap/\(d.drop s).age=d.age/\(d.drop s).off=d.off/\(d.drop s).armed=d.armed/\(d.drop s).used=Xf R:=by
 have k:d.get s=some f:=Vn h.nodup a;have b:(Zi d.files s).Perm R:=yP h.nodup a;have j:=h.used' a;have g:=Xr h.nodup a;have i:=h.room;rw[j,Zc]at i;have e:d.drop s={d with used:=d.used-f.data.length,files:=Zi d.files s}:=by unfold Dk.drop;rw[k]
 rw[e];have c:d.used-(f.data.length:Int)=Xf R:=by rw[j,Zc];simp only;omega
 simp only at i;refine⟨Yaj b g.2 (λx l=>h.ok x (a.mem_iff.2 (jb _ l))) c (by show Xf R<=d.cap;omega) h.c0 h.c1 (by have:=h.count;rw[a.length_eq,jk]at this;omega) h.a0 h.a1,b,rfl,rfl,rfl,rfl,c⟩
theorem yaM(h:ZW d){f:zc}{R:List (Bs × zc)}(b:d.files.Perm ((s,f)::R)):
  Did d (d.delete s) (λg=>g.Perm R) (λg=>g.Perm R\/g.Perm ((s,f)::R)):=by
 have j:d.get s=some f:=Vn h.wf.nodup b;have p:=XR h j;unfold Dk.delete;rw[jd (by rw[p];decide)];refine zH h _ _ _ _ (λe a l v=>?_) (λg j=>.inl j) (λ_=>.inr b);have k:=h.wf.a1;have i:e.Wf:=by
  rw[a];exact {h.wf with a0:=l,a1:=by show e.armed<=_;omega}
 have c:e.files.Perm ((s,f)::R):=by rw[a];exact b
 obtain⟨q,t,r,m,u,o,w⟩:=QaG i c;exact⟨by rw[r,a],by rw[m,a],q,o,by rw[u,a];exact h.on,t⟩
theorem Xaj(h:ZW d){f:zc}{R:List (Bs × zc)}(old:List zc)(W:old.length<=1)(z:d.files.Perm ((s,f)::(old.map (λg=>(t,g))++R)))(P:Zf t=true)(w:s≠t)(m:t∉R.map (·.1)):
  Did d (d.rename s t) (λg=>g.Perm ((t,f)::R)) (λg=>g.Perm ((t,f)::R)\/g.Perm ((s,f)::(old.map (λg=>(t,g))++R))):=by
 have A:d.get s=some f:=Vn h.wf.nodup z;have B:=XR h A;have D:=h.wf.ok (s,f) (z.mem_iff.2 (by simp));have u:=h.wf.nodup' z;rw[ju,jY]at u;have S:s∉R.map (·.1):=λv=>u.1 (by rw[jr];exact je _ v)
 have I:(R.map (·.1)).Nodup:=by
  have:=u.2;rw[jr,Jr]at this;exact this.2.1
 unfold Dk.rename;rw[A];simp only;rw[jd (by rw[B];decide),jd (by rw[B,P];decide)];refine zH h _ _ _ _ (λk E T X=>?_) (λg U=>.inl U) (λ_=>.inr z);have Q:=h.wf.a1;rw[jd w];have r:k.Wf:=by
  rw[E];exact {h.wf with a0:=T,a1:=by show k.armed<=_;omega}
 have o:k.files.Perm ((s,f)::(old.map (λg=>(t,g))++R)):=by rw[E];exact z
 have C:∃c,k.drop t=c/\c.Wf/\c.files.Perm ((s,f)::R)/\c.cap=k.cap/\c.age=k.age/\c.off=k.off/\c.armed=k.armed/\c.used=Xf ((s,f)::R):=by
  match old,W with
  |[],_ =>
   have O:k.get t=none:=Yg.2 λv=>by
    have:=(o.map (·.1)).mem_iff.1 v;simp only[Jt,jK,ju,jp]at this;rcases this with e|v
    .exact w e.symm
    .exact m v
   refine⟨k,by unfold Dk.drop;rw[O],r,by simpa using o,rfl,rfl,rfl,rfl,?_⟩;exact r.used' (by simpa using o)
  |[g],_ =>
   have K:k.files.Perm ((t,g)::(s,f)::R):=o.trans (JC _ _ _);obtain⟨n,F,J,M,L,H,G⟩:=QaG r K;exact⟨_,rfl,n,F,J,M,L,H,G⟩
 obtain⟨c,V,n,F,J,M,L,H,G⟩:=C;rw[V];have p:=yP n.nodup F;have q:=(zP (l:=Zi c.files s) (x:=t) (λv=>m ((p.map (·.1)).mem_iff.1 v)) f).trans (p.cons _);have y:Xf ((t,f)::R)=Xf ((s,f)::R):=by rw[Zc,Zc]
 have j:=n.room;have i:=n.count;rw[G]at j;rw[F.length_eq,jk]at i;refine⟨by show c.cap=d.cap;rw[J,E],by show c.age=d.age;rw[M,E],Yaj q (by
   rw[ju,jY];exact⟨m,I⟩) (λx N=>?_) (by show c.used=_;rw[G,y]) (by show _<=c.cap;rw[y];exact j) n.c0 n.c1 (by rw[jk];exact i) n.a0 n.a1,H,by show c.off=false;rw[L,E];exact h.on,q⟩
 rcases jp.1 N with rfl|N
 .exact⟨P,D.2⟩
 .exact n.ok x (F.mem_iff.2 (jb _ N))
theorem VE(d:Dk)(a:Bool)(f:Dk->Dk)(b:∀d,(f d).writes=d.writes):-9223372036854775808<=(d.accept a f).1.writes/\(d.accept a f).1.writes<=9223372036854775807:=by
 have h:(d.accept a f).1.writes=IntKind.i64.wrap (d.writes+1):=by
  unfold Dk.accept;split
  .simp[b]
  .simp only;split
   .simp[b]
   .split<;>simp[b]
 rw[h,wrap_i64];unfold wrap64;omega
theorem XW{f:zc}(a:d.get s=some f):∃R,d.files.Perm ((s,f)::R):=by
 obtain⟨A,B,h⟩:=JU (Qq a);exact⟨A++B,by rw[h];exact Jd⟩
theorem yH(d:Dk)(n:Bs):(d.off=true/\d.look n=45)\/(d.off=false/\Zf n=false/\d.look n=40)\/(d.off=false/\Zf n=true/\d.get n=none/\d.look n=42)\/(d.off=false/\Zf n=true/\(∃f,d.get n=some f)/\d.look n=0):=by
 unfold Dk.look;cases h:d.off
 .cases h2:Zf n
  .simp
  .cases h3:d.get n<;>simp
 .simp
theorem Dk.Fits.ofSame(h:d.Fits)(a:e=d):e.Fits:=by rw[a];exact h
theorem Did.wf{r:Dk × Int}{ok a:List (Bs × zc)->Prop}(h:Did d r ok a):r.1.Wf:=h.1.wf
theorem Qu(h:d.Fits)(n:Bs):(d.create n).1.Fits:=by
 rcases yH d n with⟨_,a⟩|⟨_,_,a⟩|⟨e,i,g,a⟩|⟨_,_,_,a⟩
 .exact h.ofSame (by unfold Dk.create;rw[a];simp)
 .exact h.ofSame (by unfold Dk.create;rw[a];simp)
 .by_cases hc:d.files.length<4096
  .have c:=QaL ⟨e,h.wf⟩ (UL d.files) i (Yg.1 g) hc;have f:d.create n=d.accept d.done λd=>d.put n ⟨[],0⟩:=by
    unfold Dk.create;rw[a,jd (by decide),jd (by decide),jd (by omega)]
   have b:=VE d d.done (λd=>d.put n ⟨[],0⟩) (λ_=>rfl);rw[<-f]at b;exact⟨c.wf,b.1,b.2⟩
  .exact h.ofSame (by unfold Dk.create;rw[a,jd (by decide),jd (by decide),jh (by omega)])
 .exact h.ofSame (by unfold Dk.create;rw[a];simp)
theorem zv(h:d.Fits)(n b:Bs):(d.append n b).1.Fits:=by
 cases hg:d.get n with
 |none=>exact h.ofSame (by unfold Dk.append;rw[hg])
 |some f =>
  by_cases h0:d.look n=0
  .by_cases h1:f.data.length+b.length<=268435456
   .obtain⟨R,i⟩:=XW hg;have a:d.off=false:=by rcases yH d n with⟨_,e⟩|⟨_,_,e⟩|⟨_,_,_,e⟩|⟨a,_⟩<;>first|omega|exact a
    rcases zaM ⟨a,h.wf⟩ (b:=b) i h1 with g|⟨j,_⟩
    .have c:-9223372036854775808<=(d.append n b).1.writes/\(d.append n b).1.writes<=9223372036854775807:=by
      by_cases h2:b≠[]/\d.cap-d.used<b.length
      .have:d.append n b=(d,44):=by unfold Dk.append;rw[hg];simp only;rw[jd (by rw[h0];decide),jd (by omega),jh h2]
       rw[this];exact⟨h.w0,h.w1⟩
      .have:d.append n b=d.accept true λd=>{d.put n ⟨f.data++b,f.sure⟩with used:=d.used+b.length}:=by
        unfold Dk.append;rw[hg];simp only;rw[jd (by rw[h0];decide),jd (by omega),jd h2]
       rw[this];exact VE d true (λd=>{d.put n ⟨f.data++b,f.sure⟩with used:=d.used+b.length}) (λ_=>rfl)
     exact⟨g.wf,c.1,c.2⟩
    .exact h.ofSame (by rw[j])
   .exact h.ofSame (by unfold Dk.append;rw[hg];simp only;rw[jd (by rw[h0];decide),jh (by omega)])
  .exact h.ofSame (by unfold Dk.append;rw[hg];simp only;rw[jh h0])
theorem yan(h:d.look s=0):d.off=false:=by
 rcases yH d s with⟨_,a⟩|⟨_,_,a⟩|⟨_,_,_,a⟩|⟨b,_⟩<;>first|omega|exact b
theorem QE(h:d.Fits)(n:Bs):(d.sync n).1.Fits:=by
 cases hg:d.get n with
 |none=>exact h.ofSame (by unfold Dk.sync;rw[hg])
 |some f =>
  by_cases h0:d.look n=0
  .obtain⟨R,e⟩:=XW hg;have b:=va6 ⟨yan h0,h.wf⟩ e;have c:d.sync n=d.accept false λd=>d.put n ⟨f.data,f.data.length⟩:=by unfold Dk.sync;rw[hg];simp only;rw[jd (by rw[h0];decide)]
   have a:=VE d false (λd=>d.put n ⟨f.data,f.data.length⟩) (λ_=>rfl);rw[<-c]at a;exact⟨b.wf,a.1,a.2⟩
  .exact h.ofSame (by unfold Dk.sync;rw[hg];simp only;rw[jh h0])
theorem Vac(d:Dk)(n:Bs):(d.drop n).writes=d.writes:=by unfold Dk.drop;split<;>rfl
theorem Ys(h:d.Fits)(n:Bs):(d.delete n).1.Fits:=by
 by_cases h0:d.look n=0
 .rcases yH d n with⟨_,b⟩|⟨_,_,b⟩|⟨_,_,_,b⟩|⟨g,_,⟨f,j⟩,_⟩
  .omega
  .omega
  .omega
  .obtain⟨R,e⟩:=XW j;have c:=yaM ⟨g,h.wf⟩ e;have i:d.delete n=d.accept d.done λd=>d.drop n:=by unfold Dk.delete;rw[jd (by rw[h0];decide)]
   have a:=VE d d.done (λd=>d.drop n) (λd=>Vac d n);rw[<-i]at a;exact⟨c.wf,a.1,a.2⟩
 .exact h.ofSame (by unfold Dk.delete;rw[jh h0])
theorem XaD(h:d.Fits)(a:Bool):(d.accept a λd=>d).1.Fits:=by
 have b:=VE d a (λd=>d) (λ_=>rfl);refine⟨?_,b.1,b.2⟩;have k:=h.wf;have c:=k.a0;have e:=k.a1;unfold Dk.accept;split
 .exact⟨k.nodup,k.names,k.sizes,k.used,k.room,k.c0,k.c1,k.count,k.a0,k.a1⟩
 .rename_i f
  simp only;split
  .exact⟨k.nodup,k.names,k.sizes,k.used,k.room,k.c0,k.c1,k.count,by simp only;omega,by simp only;omega⟩
  .split
   .exact⟨k.nodup,k.names,k.sizes,k.used,k.room,k.c0,k.c1,k.count,by simp only;omega,by simp only;omega⟩
   .exact⟨k.nodup,k.names,k.sizes,k.used,k.room,k.c0,k.c1,k.count,by simp only;omega,by simp only;omega⟩
theorem VaD(h:d.Fits)(a b:Bs):(d.rename a b).1.Fits:=by
 cases hg:d.get a with
 |none=>exact h.ofSame (by unfold Dk.rename;rw[hg];simp only;split<;>(try split)<;>rfl)
 |some f =>
  by_cases h1:d.look a=45
  .exact h.ofSame (by unfold Dk.rename;rw[hg];simp only;rw[jh h1])
  by_cases h2:d.look a=40\/Zf b=false
  .exact h.ofSame (by unfold Dk.rename;rw[hg];simp only;rw[jd h1,jh h2])
  have r:Zf b=true:=by cases hx:Zf b<;>simp[hx]at h2|-
  have q:d.look a=0:=by
   rcases yH d a with⟨_,i⟩|⟨_,_,i⟩|⟨_,_,u,i⟩|⟨_,_,_,i⟩
   .exact absurd i h1
   .exact absurd (KE i) h2
   .rw[u]at hg;cases hg
   .exact i
  have p:d.rename a b=d.accept d.done λd=>if a=b then d else let d1:=d.drop b;{d1 with files:=ye (Zi d1.files a) b f}:=by
   unfold Dk.rename;rw[hg];simp only;rw[jd h1,jd h2]
  by_cases hab:a=b
  .rw[p];simp only[jh hab];exact XaD h _
  .have o:=VE d d.done (λd=>if a=b then d else let d1:=d.drop b;{d1 with files:=ye (Zi d1.files a) b f}) (λd=>by simp only[jd hab];exact Vac d b);rw[<-p]at o;obtain⟨R,j⟩:=XW hg;have t:=h.wf.nodup' j;have n:∃ok c,Did d (d.rename a b) ok c:=by
    cases hgb:d.get b with
    |none=>exact⟨_,_,Xaj ⟨yan q,h.wf⟩ (R:=R) [] (by simp) (by simpa using j) r hab (λk=>by
      have:=Yg.1 hgb;exact this ((j.map (·.1)).mem_iff.2 (jb _ k)))⟩
    |some g =>
     have k:(b,g)∈R:=by
      have:=j.mem_iff.1 (Qq hgb);rcases jp.1 this with e|k
      .exact absurd (jT Prod.fst e).symm hab
      .exact k
     obtain⟨A,B,s⟩:=JU k;have l:d.files.Perm ((a,f)::([g].map (λg=>(b,g))++(A++B))):=j.trans (Jm _ (by rw[s];exact Jd));have m:=h.wf.nodup' l;refine⟨_,_,Xaj ⟨yan q,h.wf⟩ (R:=A++B) [g] (by simp) l r hab ?_⟩;simp only[ju,Jt,jO,jK,jY]at m;exact m.2.1
   obtain⟨ok,c,n⟩:=n;exact⟨n.wf,o.1,o.2⟩
section
def Xa(W0:World)(bd bm:Nat)(D:Dk)(M:va)(W:World):Prop:=∃om fl,xe om fl D/\St W0 W (Zb bd bm om fl D++M)
def qh(W0:World)(bd bm:Nat)(M:va)(v:Value)(D:Dk)(e:Ending)(w':World):Prop:=e=.returned v/\Xa W0 bd bm D M w'
namespace Xa
variable {W0 W W':World} {bd bm:Nat} {D:Dk} {M M':va}
theorem below(h:Xa W0 bd bm D M W):Below W0.heap.size W0 W:=by obtain⟨_,_,_,h⟩:=h;exact h.below
theorem sz(h:Xa W0 bd bm D M W):W0.heap.size<=W.heap.size:=by obtain⟨_,_,_,h⟩:=h;exact h.sz
theorem drewN(h:Xa W0 bd bm D M W)(n:Nat):Xa W0 bd bm D M (W.drewN n):=by obtain⟨c,b,a,h⟩:=h;exact⟨c,b,a,h.drewN n⟩
theorem drew(h:Xa W0 bd bm D M W):Xa W0 bd bm D M W.drew:=by obtain⟨c,b,a,h⟩:=h;exact⟨c,b,a,h.drew⟩
theorem callB(h:Xa W0 bd bm D M W)(c:Below W.heap.size W W'):Xa W0 bd bm D M W':=by obtain⟨d,b,a,h⟩:=h;exact⟨d,b,a,h.callB c⟩
theorem call(h:Xa W0 bd bm D M W)(k:St W W' M'):Xa W0 bd bm D (M'++M) W':=by
 obtain⟨c,b,a,h⟩:=h;exact⟨c,b,a,(h.call k).pm CN⟩
theorem alloc(h:Xa W0 bd bm D M W)(o:Obj):Xa W0 bd bm D ((W.heap.size,o)::M) (W.alloc o):=by
 obtain⟨c,b,a,h⟩:=h;exact⟨c,b,a,(h.alloc o).pm CN⟩
theorem pm(h:Xa W0 bd bm D M W)(b:∀x,cntF x M'=cntF x M):Xa W0 bd bm D M' W:=by
 obtain⟨d,c,a,h⟩:=h;exact⟨d,c,a,h.pm λx=>by simp only[xa];have:=b x;omega⟩
theorem pmSub{X:va}(h:Xa W0 bd bm D M W)(b:∀x,cntF x M'+cntF x X=cntF x M):Xa W0 bd bm D M' W:=by
 obtain⟨d,c,a,h⟩:=h;exact⟨d,c,a,h.pmSub (D:=X) λx=>by simp only[xa];have:=b x;omega⟩
theorem rest(h:Xa W0 bd bm D M W):St W0 W M:=by obtain⟨c,b,a,h⟩:=h;exact h.appR
theorem base{a:World}(h:Xa W0 bd bm D M W)(d:Below a.heap.size a W)(b:∀x∈M,a.heap.size<=x.1)(c:a.heap.size<=bd):True:=trivial
theorem off(h:Xa W0 bd bm D M W):OV W bd 5 (.bool D.off):=by obtain⟨c,b,a,h⟩:=h;exact h.cellH 5
theorem age(h:Xa W0 bd bm D M W):OV W bd 3 (OI D.age):=by obtain⟨c,b,a,h⟩:=h;exact h.cellH 3
theorem set{b:Nat}{cs:Array Value}{T:TypeId}(h:Xa W0 bd bm D ((b,.cells cs T)::M) W)(i:Nat)(v:Value):Xa W0 bd bm D ((b,.cells (cs.setIfInBounds i v) T)::M) (W.setCell ⟨b,i,none⟩ v):=by
 obtain⟨d,c,a,h⟩:=h;exact⟨d,c,a,h.setAt i v⟩
theorem nameC{P:Program}{c:Code}{Q:Exit->Act->World->Prop}{a:Act}(h:Xa W0 bd bm D M W)(k:∀W',Xa W0 bd bm D M W'->c.wp P Q a W'):c.wp P Q a W:=k W h
theorem nameB{P:Program}{f:Func}{R:Ending->World->Prop}{b:Exit}{a:Act}(h:Xa W0 bd bm D M W)(k:∀W',Xa W0 bd bm D M W'->bodyPost P f R b a W'):bodyPost P f R b a W:=k W h
theorem nameE{P:Program}{Q:Exit->Act->World->Prop}{K:Act->World->Prop}{b:Exit}{a:Act}(h:Xa W0 bd bm D M W)(k:∀W',Xa W0 bd bm D M W'->Exit.then K Q b a W'):Exit.then K Q b a W:=k W h
end Xa
variable {W0 w:World} {bd bm:Nat} {D:Dk} {M:va}
theorem Yd.toDk{r:Dk × Int}{e:Ending}{a:World}(h:Yd W0 bd bm M r e a):qh W0 bd bm M (OI r.2) r.1 e a:=h
theorem VW(h:Xa W0 bd bm D M w)(a:D.Fits)(n:Bs)(f:n.length<=1000000):Calls prog 69 #[za bd,qa n] w (qh W0 bd bm M (OI (D.create n).2) (D.create n).1):=by
 obtain⟨c,d,e,b⟩:=h;exact qa3 W0 w bd bm c d D M n a e b (by omega)
theorem QW(h:Xa W0 bd bm D M w)(a:D.Fits)(n b:Bs)(i:n.length<=1000000)(f:b.length<=4611686018427387904):Calls prog 72 #[za bd,qa n,qa b] w (qh W0 bd bm M (OI (D.append n b).2) (D.append n b).1):=by
 obtain⟨d,e,g,c⟩:=h;exact Va3 W0 w bd bm d e D M n b a g c (by omega) f
theorem Vaj(h:Xa W0 bd bm D M w)(a:D.Fits)(n:Bs)(f:n.length<=1000000):Calls prog 73 #[za bd,qa n] w (qh W0 bd bm M (OI (D.sync n).2) (D.sync n).1):=by
 obtain⟨c,d,e,b⟩:=h;exact Xbk W0 w bd bm c d D M n a e b (by omega)
theorem ZI(h:Xa W0 bd bm D M w)(a:D.Fits)(n:Bs)(f:n.length<=1000000):Calls prog 29 #[za bd,qa n] w (qh W0 bd bm M (OI (D.delete n).2) (D.delete n).1):=by
 obtain⟨c,d,e,b⟩:=h;exact Xa3 W0 w bd bm c d D M n a e b (by omega)
theorem Yaz(h:Xa W0 bd bm D M w)(c:D.Fits)(a b:Bs)(i:a.length<=1000000)(j:b.length<=1000000):Calls prog 74 #[za bd,qa a,qa b] w (qh W0 bd bm M (OI (D.rename a b).2) (D.rename a b).1):=by
 obtain⟨e,f,g,d⟩:=h;exact xa6 W0 w bd bm e f D M a b c g d (by omega) (by omega)
theorem XN(h:Xa W0 bd bm D M w)(n:Bs)(e:n.length<=1000000):Calls prog 25 #[za bd,qa n] w (Ret (.tuple #[OI (D.size n).1,OI (D.size n).2]) w):=by
 obtain⟨b,d,c,a⟩:=h;exact Ybk W0 w bd bm b d D M n c a (by omega)
theorem xan(h:Xa W0 bd bm D M w)(a:D.Wf)(n:Bs)(k:Nat)(f:k<=1000000000)(g:n.length<=1000000):Calls prog 91 #[za bd,qa n,OI 0,OI (k:Int)] w (Ret (.tuple #[qa (D.read n 0 k).1,OI (D.read n 0 k).2]) w):=by
 obtain⟨c,d,e,b⟩:=h;exact Vbk W0 w bd bm c d D M n 0 k (by omega) (by omega) (by omega) (by omega) a e b (by omega)
def xbd(r:Dk × Bool × Int):Value:=.tuple #[.bool r.2.1,.int .i64 r.2.2]
theorem Ybm(h:Xa W0 bd bm D M w)(v:D.Fits)(n b:Bs)(x:n.length<=1000000)(F:b.length<=4611686018427387904):Calls prog 145 #[za bd,qa n,qa b] w (qh W0 bd bm M (xbd (D.fileM n b)) (D.fileM n b).1):=by
 have p:=Hi (VW h v n x);have l:=Qu v n;have k:=Hi (λW m=>QW (W0:=W0) (bd:=bd) (bm:=bm) (M:=M) (w:=W) (D:=(D.create n).1) m l n b x F);have s:=zv l n b;have i:=Hi (λW m=>Vaj (W0:=W0) (bd:=bd) (bm:=bm) (M:=M) (w:=W) (D:=((D.create n).1.append n b).1) m s n x);obtain⟨R,g⟩:=NE (D.fileM n b);rw[g];unfold Dk.fileM at g;obtain⟨⟨G,I⟩,m⟩:=NE (D.create n);rw[m]at p k i g;simp only at p k i g;obtain⟨⟨C,H⟩,z⟩:=NE (G.append n b);rw[z]at k i g;simp only at k i g;obtain⟨⟨K,L⟩,A⟩:=NE (C.sync n);rw[A]at i g;simp only at i g;have u:=Hi g;clear m z A g v l s h;unfold qh at p k i;unfold za qa at *;go_enter func145,ntmps145;by_cases e1:I=0
 .subst e1;by_cases e2:H=0
  .subst e2;have a:=u.o;simp only[JW,jW,Jb]at a;have f:=Hi a;clear a;go_wp2_with (first
    |(go_at_call 69;refine MR p.o λB d=>?_)
    |(go_at_call 72;refine MR (k.o _ d.o) λE j=>?_)
    |(go_at_call 73;refine MR (i.o _ j.o) λJ y=>?_))
   go_ret2;rw[<-f.o];exact⟨rfl,y.o⟩
  .have a:=u.o;simp only[JW,jW,Jb,e2,J6,JV]at a;have f:=Hi a;clear a;go_wp2_with (first
    |(go_at_call 69;refine MR p.o λB d=>?_)
    |(go_at_call 72;refine MR (k.o _ d.o) λE j=>?_))
   go_ret2;rw[<-f.o];exact⟨rfl,j.o⟩
 .have a:=u.o;simp only[JW,e1,J6,JV]at a;have f:=Hi a;clear a;go_wp2_with (first
   |(go_at_call 69;refine MR p.o λB d=>?_))
  go_ret2;rw[<-f.o];exact⟨rfl,d.o⟩
end
theorem Xbf(x:Int)(h:Xc x=true):Calls prog 118 #[OI x] w (Ret (.bool true) w):=by
 obtain⟨c,d,a⟩:=Xd.1 h;have b:Int.tmod x 64=0:=by rw[Jw (by omega)];exact a
 go_enter func118,ntmps118;go_wp2_with fail;go_ret;exact⟨rfl,rfl⟩
theorem YI(b:1<=n)(a:n<=1099511627776):jnM (n:Int)=Qa n:=by
 unfold jnM;rw[jd (by omega)];simp
theorem qa6(n:Nat):Qa n≠[]:=by simp[Qa]
theorem YJ(a:n<=1099511627776):(Qa n).length<=14:=by
 have:=Zq (n:=n) a;simp only[Qa,jk];omega
theorem zaH(s x:Int)(p:1<=c)(l:c<=1099511627776)(k:Xc x=true)(r:0<=s)(t:s<=1152921504606846976)(h:vi w):Calls prog 68 #[OI (c:Int),OI s,OI x] w (Vd (OI 0) w):=by
 have e:=Hi (vI w (c:Int) (by omega) (by omega) h);rw[YI p l]at e;have j:=Hi (λW=>Xbf W x k);have a:=qa6 c;obtain⟨f,b⟩:=NE (Qa c);rw[b]at e a;clear b h;have i:(f==[])=false:=by simp[a]
 unfold qa at e;unfold Ret at j;go_enter func68,ntmps68;go_wp2_with (first
  |(go_at_call 30;refine MR e.o λu g=>?_)
  |(go_at_call 118;refine MQ (j.o _) ?_))
 go_ret;exact⟨rfl,g.o⟩
def Xaz(j:Jn)(bd:Nat)(w:World)(e:Ending)(w':World):Prop:=∃b,e=.returned (za b)/\St w w' [jnF b bd j]
theorem Vaz(s x l age:Int)(p:1<=c)(k:c<=1099511627776)(h:vi w)(g:OV w q 3 (OI age)):
  Calls prog 70 #[za q,OI (c:Int),OI s,OI x,OI l] w (Xaz ⟨age,false,Qa c,x,l,s⟩ q w):=by
 have i:=Hi (vW w q age g);have d:=Hi (vI w (c:Int) (by omega) (by omega) h);rw[YI p k]at d;obtain⟨e,a⟩:=NE (Qa c);rw[a]at d|-
 have j:=Hi (λ(W:World) (hb:Below w.heap.size w W)=>((St.refl w).callB hb).alloc (.cells (jnC q ⟨age,false,e,x,l,s⟩) 188));clear a h g;unfold Ret za at i;unfold qa at d;unfold jnC za qa at j;unfold za;go_enter func70,ntmps70;go_wp2_with (first
  |(go_at_call 79;refine MQ i.o ?_)
  |(go_at_call 30;refine MR d.o λt f=>?_))
 go_ret;exact⟨_,rfl,j.o _ f.o⟩
def xaa(W0:World)(bd bm:Nat)(M:va)(D:Dk)(n:Nat)(x s:Int)(e:Ending)(w':World):Prop :=
 if(D.create (Qa n)).2≠0 then e=.returned (.tuple #[.pointer none,.int .i64 (D.create (Qa n)).2])/\Xa W0 bd bm (D.create (Qa n)).1 M w'
 else ∃b,e=.returned (.tuple #[za b,.int .i64 0])/\Xa W0 bd bm (D.create (Qa n)).1 (jnF b bd ⟨(D.create (Qa n)).1.age,false,Qa n,x,s,s⟩::M) w'
theorem qar(D:Dk)(M:va)(n:Nat)(s x:Int)(A:1<=n)(y:n<=1099511627776)(J:Xc x=true)(I:0<=s)(K:s<=1152921504606846976)(u:Xa U q c D M w)(F:D.Fits)(t:vi U):
  Calls prog 27 #[za q,OI (n:Int),OI s,OI x] w (xaa U q c M D n x s):=by
 have C:=Hi (zaH w n s x A y J I K (t.below u.below (jm _)));have v:=Hi (λW (hb:Below w.heap.size w W)=>vI W (n:Int) (by omega) (by omega) (t.below (u.callB hb).below (jm _)));rw[YI A y]at v;have k:=Hi (λW (hb:Below w.heap.size w W)=>VW (u.callB (W':=W) hb) F (Qa n) (by have:=YJ y;omega));have l:=Hi (λW (h:Xa U q c (D.create (Qa n)).1 M W)=>Vaz W q n s x s (D.create (Qa n)).1.age A y (t.below h.below (jm _)) h.age);unfold xaa;obtain⟨z,p⟩:=NE (Qa n);rw[p]at v k l|-
 obtain⟨⟨O,L⟩,E⟩:=NE (D.create z);rw[E]at k l|-
 simp only at k l|-
 clear p E u F t;unfold qh at k;unfold Xaz at l;unfold za qa at *;go_enter func27,ntmps27;by_cases e1:L=0
 .subst e1;simp only[JW,jW,Jb];go_wp2_with (first
   |(go_at_call 68;refine MR C.o λN a=>?_)
   |(go_at_call 30;refine(v.o _ a.o).mono ?_;rintro j H ⟨rfl,f⟩;have i:=Hi (a.o.trans (f.mono a.o.size));clear f)
   |(go_at_call 69;refine MR (k.o _ i.o) λG g=>?_)
   |(go_at_call 70;refine(l.o _ g.o).mono ?_;rintro j P ⟨b,rfl,m⟩;have B:=Hi (g.o.call m);clear m))
  go_ret2;exact⟨b,rfl,B.o⟩
 .simp only[JW,e1,J6,JV];go_wp2_with (first
   |(go_at_call 68;refine MR C.o λN a=>?_)
   |(go_at_call 30;refine(v.o _ a.o).mono ?_;rintro j H ⟨rfl,f⟩;have i:=Hi (a.o.trans (f.mono a.o.size));clear f)
   |(go_at_call 69;refine MR (k.o _ i.o) λG g=>?_))
  go_ret2;exact⟨rfl,g.o⟩
theorem zX{u:Up}(h:St V W ((n,Obj.cells (upV u).toArray 35 (0,0))::F)):OV W n 0 (OI u.seq)/\OV W n 1 (OI u.kind)/\OV W n 2 (OI u.id)/\OV W n 3 (qa u.code) :=
 ⟨h.cellH 0,h.cellH 1,h.cellH 2,h.cellH 3⟩
theorem Za6(u:Up)(K:Nat)(hu:u.fit K)(h0:0<K)(h1:K<=128)(h8:K%8=0)(V:zg w):Calls prog 167 #[.agg (upV u).toArray] w (Vd (.tuple #[qa (upB u),OI 0]) w):=by
 obtain⟨s1,s2,y,Z,i1,I,J⟩:=hu;have c:=(St.refl w).alloc (.cells (upV u).toArray 35);obtain⟨C,L⟩:=EN w.heap.size;rw[<-L]at c;obtain⟨v,Y⟩:=Hi2 c L;obtain⟨f,U,g,b⟩:=u;simp only at s1 s2 y Z i1 I J;obtain⟨k,rfl⟩:∃k:Nat,U=(k:Int):=⟨U.toNat,by omega⟩;have a8:b.length<=128:=by
  rcases y with h|h
  .rw[I h];exact h1
  .rw[J h];simp
 have D:upB ⟨f,(k:Int),g,b⟩=ve k ((qb f.toNat++qb g.toNat)++b):=by
  unfold upB Zt;simp[jE]
 have a9:(2:Nat)^64=18446744073709551616:=by decide
 have j:=Hi (λW=>xW W f.toNat (by omega));have m:=Hi (λW=>xW W g.toNat (by omega));rw[JY (by omega)]at j;rw[JY Z]at m;have l1:=zu f.toNat (by omega);have l2:=zu g.toNat (by omega);have a:=Hi (λW (hb:Below w.heap.size w W)=>qam W k ((qb f.toNat++qb g.toNat)++b) (by omega) (by omega) (by simp only[ja];omega) (V.below hb (jm _)));rw[<-D]at a;clear D;obtain⟨R,hR⟩:=NE (upB ⟨f,(k:Int),g,b⟩);rw[hR]at a|-
 obtain⟨A,z⟩:=NE (qb f.toNat);obtain⟨B,G⟩:=NE (qb g.toNat);rw[z]at j l1 a;rw[G]at m l2 a;have a1:=yh A B;have z1:=zb A;have z2:=zb B;have p1:(A++B).length<=20:=by rw[ja];omega
 obtain⟨P,F⟩:=NE (A++B);rw[F]at a1 p1 a;have a2:=yh P b;have z3:=zb P;have z4:=zb b;obtain⟨Q,E⟩:=NE (P++b);rw[E]at a2 a;have g1:¬ 9223372036854775807<A.length+B.length:=by omega
 have g2:¬ 9223372036854775807<P.length+b.length:=by omega
 have g3:¬ 9223372036854775807<P.length:=by omega
 have a4:IntKind.u64.wrap f=f:=by rw[Kn];omega
 have a5:IntKind.u64.wrap g=g:=by rw[Kn];omega
 have H:Int.tmod (b.length:Int) 8=((b.length%8:Nat):Int):=by rw[Jw (by omega)];omega
 obtain⟨X,a0⟩:((b.length:Nat):Int)<=128/\(0:Int)<=((b.length:Nat):Int):=by omega
 obtain⟨HK,M,O,S⟩:=Hi4 y I J H;clear c L V hR z G F E y I J H;unfold qa at j m a;unfold upV at v|-
 simp only at v|-
 unfold qa at *;go_enter func167,ntmps167;go_upto_region 1 with(fail)
 rw[<-Y.o];refine v.o.nameC ?_;clear v Y;intro q c;obtain⟨k0,k1,k2,k3⟩:=c.k4 0 1 2 3;have f0:=λd n=>jH k0 d n
 have f1:=λd n=>jH k1 d n
 have f2:=λd n=>jH k2 d n
 have f3:=λd n=>jH k3 d n
 have v:=Hi c;have p:=Hi (λ(d:Nat) (n:Array Obj)=>a.o _ (c.below.trans ((Jo q d n).mono c.sz)));clear c a;rcases HK.o with y|y
 .obtain rfl:k=1:=by omega
  have i:=M.o (by simp);have a3:¬ ((b.length:Int)=0):=by omega
  have a6:((b.length:Int)==0)=false:=by simp;intro e;rw[e]at i;simp at i;omega
  have x:¬ (b=[]):=by intro e;rw[e]at i;simp at i;omega
  have a7:Int.tmod (b.length:Int) 8=0:=by rw[S.o];omega
  clear i;go_upto_region 11 with(fail)
  refine Jq (by kernel_rfl) (by kernel_rfl) ?_
  repeat(quiet_step ((first
   |(go_at_call_of 122 (Value.int IntKind.u64 f);exact Jh (j.o _))
   |(go_at_call_of 122 (Value.int IntKind.u64 g);exact Jh (m.o _))
   |(go_at_call 123;exact Jh (p.o _ _)))))
  refine Ub ?_;intro _ r;obtain⟨⟨T,s⟩,l⟩:=r;subst l;have t:=Hi (v.o.callB (Jo q T s)).below;go_wp2_with fail;go_ret2;exact⟨rfl,t.o⟩
 .obtain rfl:k=2:=by omega
  have x:=O.o (by simp);have N:=Hi x;subst x;clear N;go_upto_region 11 with(fail)
  refine Jq (by kernel_rfl) (by kernel_rfl) ?_
  repeat(quiet_step ((first
   |(go_at_call_of 122 (Value.int IntKind.u64 f);exact Jh (j.o _))
   |(go_at_call_of 122 (Value.int IntKind.u64 g);exact Jh (m.o _))
   |(go_at_call 123;exact Jh (p.o _ _)))))
  refine Ub ?_;intro _ r;obtain⟨⟨T,s⟩,l⟩:=r;subst l;have t:=Hi (v.o.callB (Jo q T s)).below;go_wp2_with fail;go_ret2;exact⟨rfl,t.o⟩
def JAt(W0:World)(bd bm bj:Nat)(D:Dk)(j:Jn)(M:va)(W:World):Prop:=Xa W0 bd bm D (jnF bj bd j::M) W
def xH(W0:World)(bd bm bj:Nat)(M:va)(r:Jn × Dk × Int)(e:Ending)(w':World):Prop:=e=.returned (.int .i64 r.2.2)/\JAt W0 bd bm bj r.2.1 r.1 M w'
theorem yaH(m w:World)(c s a:Nat)(D N:Dk)(j y:Jn)(x:Int)(M:va)(g:Nat)(O:Array Value)(K:Enters prog g)(u:JAt m c s a D j M w)(J:j.gone=false)(G:D.off=false)(L:D.age=j.age)
  (n:∀W,JAt m c s a D j M W->Calls prog g O W (xH m c s a M (y,N,x))) :
  Calls prog 130 #[za a,.func (.func g) #[] O] w (xH m c s a M ({y with gone:=decide (x=45)},N,x)):=by
 have v:=u.rest;have I:w.cell? ⟨a,0,none⟩=some (za c):=v.cellH 0;have E:w.cell? ⟨a,1,none⟩=some (.int .i64 j.age):=v.cellH 1;have B:w.cell? ⟨a,2,none⟩=some (.bool j.gone):=v.cellH 2;rw[J]at B;have l:=Hi (λW (hb:Below w.heap.size w W)=>(XG W c D.off (u.callB hb).off).mono λe Q h=>Ret.toB h);have i:=Hi (λW (hb:Below w.heap.size w W)=>(vW W c D.age (u.callB hb).age).mono λe Q h=>Ret.toB h);rw[G]at l;rw[L]at i;have X:∀(args:Array Value) (w:World),(callFunc g args).run prog w=.ok (.enter g args) w:=K;obtain⟨k,F⟩:=Hi2 n u;have R:=λd q=>jH I d q
 have S:=λd q=>jH E d q
 have T:=λd q=>jH B d q
 clear v u n K J G L;unfold xH at k;simp only at k;unfold za at *;go_enter func130,ntmps130;go_upto_region 1 with(fail)
 refine Jq (by kernel_rfl) (by kernel_rfl) ?_
 repeat(go_big_quiet_step ((first|(go_at_call 24;exact Jh (l.o _ (Jo _ _ _)))|(go_at_call 79;exact Jh (i.o _ (Jo _ _ _))))))
 refine Ub ?_;intro _ z;obtain⟨⟨C,f⟩,t⟩:=z;subst t;have r:Hy (JAt m c s a D j M (grow (redrawn w C) f)):=Hi (F.o.callB (Jo w C f));obtain⟨P,p⟩:=NE (grow (redrawn w C) f);rw[p]at r|-
 clear p R S T I E B l i F;go_wp2_with (go_at_fn g;refine(k.o _ r.o).mono ?_;rintro e H ⟨rfl,b⟩;have V:H.cell? ⟨a,2,none⟩=some (.bool y.gone):=b.rest.cellH 2;have U:H.frozen? ⟨a,2,none⟩=false:=b.rest.freeH 2;have A:=Hi (Xa.set b 2 (.bool (decide (x=45))));clear b);go_ret;exact⟨rfl,A.o⟩
def YD(j:Jn)(D:Dk)(u:Up):Jn × Dk × Int:=if(D.append j.name (upB u)).2≠0 then(j,(D.append j.name (upB u)).1,(D.append j.name (upB u)).2)else({j with last:=u.seq},(D.append j.name (upB u)).1,0)
theorem vH{a:Jn}{u:Up}(h:JAt V n b k d a ((j,.cells (upV u).toArray 35 (0,0))::(i,.cells #[za k] 69)::F) W):
  OV W i 0 (OQ k)/\OV W k 0 (OQ n)/\OV W k 3 (OT a.name) :=
 ⟨h.rest.tail.tail.cellH 0,h.rest.cellH 0,h.rest.cellH 3⟩
theorem xaM(p w:World)(g t a b2 b3:Nat)(D:Dk)(j:Jn)(u:Up)(J:Nat)(M:va)(hj:JAt p g t a D j ((b3,.cells (upV u).toArray 35 (0,0))::(b2,.cells #[za a] 69)::M) w)
  (v:u.fit J) (h0:0<J) (K:J<=128) (h8:J%8=0) (hw:Xc j.w=true) (X:j.w/8=(J:Int)) (hs:u.seq=j.last+1) (hf:D.Fits) (hn:j.name.length<=1000000) (hc:zg p) :
  Calls prog 166 #[za b3,za b2] w (xH p g t a ((b3,.cells (upV u).toArray 35 (0,0))::(b2,.cells #[za a] 69)::M) (YD j D u)):=by
 have hr:=hj.rest;obtain⟨u0,u1,u2,u3⟩:=zX hr.tail;have aa:u.code.length<=128:=by
  rcases v.k with h|h
  .rw[v.c1 h];exact K
  .rw[v.c2 h];simp
 have c:=Hi (Za6 w u J v h0 K h8 (hc.below hj.below (jm _)));have a8:=Xd.1 hw;have S:=Hi (λW=>X9 W j.w u.code (by omega) (by omega) (by omega));have Q:u.kind=1->Qh j.w u.code=0:=λh=>by
  unfold Qh;rw[hw,jd (by simp),jd (by rw[v.c1 h,X];simp)]
 have a5:(upB u).length<=160:=yam v K;have i:=Hi (λW (h:JAt p g t a D j ((b3,.cells (upV u).toArray 35 (0,0))::(b2,.cells #[za a] 69)::M) W)=>QW h hf j.name (upB u) hn (by omega));obtain⟨R,H⟩:=NE (YD j D u);rw[H];unfold YD at H;obtain⟨bb,O⟩:=NE (upB u);rw[O]at c i H;obtain⟨⟨d1,x1⟩,a0⟩:=NE (D.append j.name bb);rw[a0]at i H;simp only at i H;obtain⟨HJ,HK,a2,a7,y⟩:=Hi5 hj v.k Q H hs;have a6:=v.s1;have a3:=v.s2;have a9:j.last+1<=1152921504606846976:=by omega
 have ab:1<=j.last+1:=by omega
 rw[hs]at u0;clear hr hj v Q O a0 H hs a5 hf hc X hw a6 a3;unfold qh at i;unfold upV at c;unfold qa za at i;unfold qa at c S u3;rw[y.o]at c;unfold za;go_enter func166,ntmps166;go_upto_region 4 with(go_at_call 167;refine c.o.mono ?_;rintro e' L ⟨rfl,U⟩;have x:Hy (JAt p g t a D j ((b3,.cells (upV u).toArray 35 (0,0))::(b2,.cells #[za a] 69)::M) L):=Hi (HJ.o.callB U);clear U)
 clear u0 u1 u2 u3 HJ c;have B:=x.o.rest;obtain⟨v0,I,v2,v3⟩:=zX B.tail;have v4:L.cell? ⟨b2,0,none⟩=some (.pointer (some ⟨a,0,none⟩)):=(vH x.o).1;have v5:L.cell? ⟨a,4,none⟩=some (.int .i64 j.w):=B.cellH 4;unfold qa at v3;have f1:=Hi (λd f=>jH I d f);have f3:=λd f=>jH v3 d f
 have f4:=λd f=>jH v4 d f
 have f5:=λd f=>jH v5 d f
 have V1:=Hi I;clear B v0 I v2;have T:=Hi (λ(h:u.kind=1) (W:World)=>by
  have K:=(S.o W).mono λe w' h=>Ret.toB h
  rw[a2.o h]at K;exact K)
 rcases HK.o with hk|hk
 all_goals(
  have I:=V1.o;have f1:=f1.o;rw[hk]at I f1;refine Jq (by kernel_rfl) (by kernel_rfl) ?_
  repeat(go_big_quiet_step ((go_at_call 155;exact Jh (T.o hk _))))
  refine Ub ?_;intro _ E;obtain⟨⟨dq,G⟩,m⟩:=E;subst m;have l:Hy (JAt p g t a D j ((b3,.cells (upV u).toArray 35 (0,0))::(b2,.cells #[za a] 69)::M) (grow (redrawn L dq) G)):=Hi (x.o.callB (Jo L dq G));obtain⟨F,Y⟩:=NE (grow (redrawn L dq) G);rw[Y]at l|-
  clear Y f1 f3 f4 f5 I v3 v4 v5 x;obtain⟨g0,g1,g2,g3⟩:=zX l.o.rest.tail;rw[y.o]at g0;have g4:F.cell? ⟨b2,0,none⟩=some (.pointer (some ⟨a,0,none⟩)):=(vH l.o).1;have g5:F.cell? ⟨a,5,none⟩=some (.int .i64 j.last):=l.o.rest.cellH 5;have q0:=λd f=>jH g0 d f
  have q4:=λd f=>jH g4 d f
  have q5:=λd f=>jH g5 d f
  have V:IntKind.i64.wrap (j.last+1)=j.last+1:=J1 _ (by omega);have a1:((j.last+1) != IntKind.i64.wrap (j.last+1))=false:=by rw[V];simp
  clear V;clear g1 g2 g3 g0 g4 g5;go_upto_region 6 with(fail)
  refine Jq (by kernel_rfl) (by kernel_rfl) ?_
  repeat(quiet_step (fail))
  refine Ub ?_;intro _ E;obtain⟨⟨A,n⟩,m⟩:=E;subst m;have C:Hy (JAt p g t a D j ((b3,.cells (upV u).toArray 35 (0,0))::(b2,.cells #[za a] 69)::M) (grow (redrawn F A) n)):=Hi (l.o.callB (Jo F A n));obtain⟨w4,N⟩:=NE (grow (redrawn F A) n);rw[N]at C|-
  clear N q0 q4 q5 l;have HL:Hy (∀W,JAt p g t a D j ((b3,.cells (upV u).toArray 35 (0,0))::(b2,.cells #[za a] 69)::M) W->W.cell? ⟨b2,0,none⟩=some (.pointer (some ⟨a,0,none⟩))/\W.cell? ⟨a,0,none⟩=some (.pointer (some ⟨g,0,none⟩))/\W.cell? ⟨a,3,none⟩=some (.string ⟨j.name.toArray⟩)):=Hi λW h=>vH h
  have Z:Hy (∀W,JAt p g t a d1 j ((b3,.cells (upV u).toArray 35 (0,0))::(b2,.cells #[za a] 69)::M) W->W.cell? ⟨b2,0,none⟩=some (.pointer (some ⟨a,0,none⟩))/\W.cell? ⟨a,0,none⟩=some (.pointer (some ⟨g,0,none⟩))/\W.cell? ⟨a,3,none⟩=some (.string ⟨j.name.toArray⟩)):=Hi λW h=>vH h
  have s:Hy (JAt p g t a D j ((b3,.cells (upV u).toArray 35 (0,0))::(b2,.cells #[za a] 69)::M) w4.drew):=Hi (C.o.drew);have z:=Hi (i.o _ s.o);go_upto_region 8 with(fail)
  go_region_held3 (λW=>W.cell? ⟨b2,0,none⟩=some (.pointer (some ⟨a,0,none⟩))/\W.cell? ⟨a,0,none⟩=some (.pointer (some ⟨g,0,none⟩))/\W.cell? ⟨a,3,none⟩=some (.string ⟨j.name.toArray⟩)) (first|with_reducible exact Z.o _ b.o|with_reducible exact HL.o _ s.o|(go_keep;done)) (first|(go_at_call 72;refine z.o.mono ?_;rintro e' w5 ⟨rfl,P⟩;have b:Hy (JAt p g t a d1 j ((b3,.cells (upV u).toArray 35 (0,0))::(b2,.cells #[za a] 69)::M) w5):=Hi P;clear P));have hx:=a7.o;clear HL Z C s z T a1 V1;by_cases q:x1=0
  .subst q;rw[jd (by simp)]at hx;subst hx;have r0:=(vH b.o).1;have r1:=(zX b.o.rest.tail).1;rw[y.o]at r1;have r2:w5.frozen? ⟨a,5,none⟩=false:=b.o.rest.freeH 5;have a4:=Hi (Xa.set b.o 5 (.int .i64 (j.last+1)));have r3:w5.cell? ⟨a,5,none⟩=some (.int .i64 j.last):=b.o.rest.cellH 5;go_wp2_with (fail);go_ret;exact⟨rfl,by rw[y.o];exact a4.o⟩
  .rw[jh q]at hx;subst hx;have q1:(x1 != 0)=true:=by simpa using q
   go_wp2_with (fail);go_ret;exact⟨rfl,b.o⟩)
end Go.Proofs.YtekkihmmclencaaGreatDoor
