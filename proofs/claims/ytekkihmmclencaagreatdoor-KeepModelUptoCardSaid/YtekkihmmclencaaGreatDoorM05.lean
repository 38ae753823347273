import Derived.Test.YtekkihmmclencaaGreatDoorM04
namespace Go.Proofs.YtekkihmmclencaaGreatDoor
set_option linter.all false
set_option maxRecDepth 100000
set_option maxHeartbeats 40000000
open Tryz
open Go
variable(q c:Nat){n b k i j:Nat}{s t:Bs}{x y:Int}{d:Dk}{o:Op3}{l:List En}
def vV(c:UInt8):Nat:=c.toNat-48
def ZS(a:Nat)(l:Bs):Nat:=l.foldl (λa c=>a*10+vV c) a
def V8(l:Bs):Prop:=∀c∈l,48<=c.toNat/\c.toNat<=57
theorem xaR(l:Bs)(b:UInt8):ZS c (l++[b])=ZS c l*10+vV b:=by simp[ZS]
theorem qap(l:Bs)(b:UInt8):ZS c (b::l)=ZS (c*10+vV b) l:=by unfold ZS;rw[List.foldl_cons]
theorem yah(h:c<10):(UInt8.ofNat (48+c)).toNat=48+c:=zj (by omega)
theorem XH:V8 (Lib.decDigits c):=by
 induction c using Nat.strongRecOn with
 |ind c ih =>
  rw[Lib.decDigits];split
  .rename_i h
   intro a b;rw[jC]at b;subst b;rw[yah c h];omega
  .rename_i h
   intro a b;rcases jo.1 b with b|b
   .exact ih (c/10) (by omega) a b
   .rw[jC]at b;subst b;rw[yah (c%10) (by omega)];omega
theorem qV:ZS 0 (Lib.decDigits c)=c:=by
 induction c using Nat.strongRecOn with
 |ind c ih =>
  rw[Lib.decDigits];split
  .rename_i h
   show 0*10+vV _=c;unfold vV;rw[yah c h];omega
  .rename_i h
   rw[xaR,ih (c/10) (by omega)];unfold vV;rw[yah (c%10) (by omega)];omega
theorem Val:Lib.decDigits c≠[]:=by rw[Lib.decDigits];split<;>simp
theorem ZV:∀(k u:Nat),u<10^(k+1)->(Lib.decDigits u).length<=k+1:=by
 intro k;induction k with
 |zero=>intro u h;rw[Lib.decDigits,dif_pos (by simpa using h)];simp
 |succ k ih =>
  intro u h;rw[Lib.decDigits];split
  .simp
  .have:=ih (u/10) (by rw[ku (by decide)];rwa [UX]at h);simp only[ja,j8];omega
theorem YaF:∀(l:Bs) (a:Nat),a<=ZS a l
 |[],a=>jm _
 |c::r,a=>by rw[qap];have:=YaF r (a*10+vV c);omega
theorem vaR:∀(l:Bs) (a:Nat),V8 l->ZS a l<18446744073709551616->Lib.parseUint10 a l=.ok (ZS a l)
 |[],a,_,_=>rfl
 |c::r,a,h,hv=>by
  have e:=h c jc;rw[qap]at hv|-
  have d:=YaF r (a*10+vV c);have b:vV c=c.toNat-48:=rfl;rw[b]at hv d|-
  rw[Lib.parseUint10,jh e,jd (by omega),jd (by omega)];exact vaR r _ (λx f=>h x (jb _ f)) hv
theorem vbq(h:c<18446744073709551616):Lib.parseMag (Lib.decDigits c)=.ok c:=by
 unfold Lib.parseMag;rw[jd (Val c),vaR _ 0 (XH c) (by rw[qV];exact h),qV]
theorem Vbc(n:Nat)(h:n<=1099511627776):Lib.atoiAll (Lib.itoa (n:Int))=.ok (n:Int):=by
 unfold Lib.itoa;rw[jd (by omega),JL];cases hd:Lib.decDigits n with
 |nil=>exact absurd hd (Val _)
 |cons c r =>
  have a:=XH n c (by rw[hd];exact jc);unfold Lib.atoiAll;simp only;rw[jd (by omega),<-hd,vbq _ (by omega)];simp only;rw[jd (by omega),jd (by omega),jd (by omega)]
theorem zG:Lib.itoa (c:Int)=Lib.decDigits c:=by unfold Lib.itoa;rw[jd (by omega),JL]
theorem VZ(h:Lib.itoa (n:Int)=Lib.itoa (b:Int)):n=b:=by
 rw[zG,zG]at h;rw[<-qV n,<-qV b,h]
def Yc:Bs:=[109,97,110,105,102,101,115,116]
def Xb:Bs:=Yc++[46,110,101,119]
def Qa(n:Nat):Bs:=106::Lib.itoa (n:Int)
def Ve(n j:Nat):Bs:=114::(Lib.itoa (n:Int)++46::Lib.itoa (j:Int))
def Qs(s:Bs)(lo hi:Int):Int:=match Lib.atoiAll s with
 |.ok n=>if Lib.itoa n=s/\lo<=n/\n<=hi then n else -1
 |_=>-1
def xy:Bs->Bs × Bs
 |[]=>([],[])
 |c::r=>if c=46 then([],r)else(c::(xy r).1,(xy r).2)
def ZC(s:Bs):Int × Int × Int :=
 if s=Yc then(1,0,0)
 else if s=Xb then(2,0,0)
 else if s.head?=some 106/\0<Qs s.tail 1 1099511627776 then(3,Qs s.tail 1 1099511627776,0)
 else if s.head?=some 114/\0<Qs (xy s.tail).1 1 1099511627776/\0<=Qs (xy s.tail).2 0 127 then(4,Qs (xy s.tail).1 1 1099511627776,Qs (xy s.tail).2 0 127)
 else(0,0,0)
theorem VO(c:x<=n)(a:(n:Int)<=y)(b:n<=1099511627776):Qs (Lib.itoa (n:Int)) x y=n:=by
 unfold Qs;rw[Vbc n b];simp only;rw[jh ⟨trivial,c,a⟩]
theorem YV(h:∀c∈s,c≠46):xy (s++46::t)=(s,t):=by
 induction s with
 |nil=>simp[xy]
 |cons c r ih =>
  simp only[jO,xy];rw[jd (h c jc),ih (λx d=>h x (jb _ d))]
theorem xR:∀a∈Lib.itoa (c:Int),a≠46:=by
 intro a b e;rw[zG]at b;have:=XH c a b;subst e;simp at this
theorem qaR:ZC Yc=(1,0,0):=by unfold ZC;rw[jh rfl]
theorem ZaR:ZC Xb=(2,0,0):=by unfold ZC;rw[jd (by decide),jh rfl]
theorem YaR(c:1<=n)(a:n<=1099511627776):ZC (Qa n)=(3,(n:Int),0):=by
 unfold ZC;have b:Qs (Qa n).tail 1 1099511627776=n:=VO (by omega) (by omega) a;rw[jd (by intro e;have:=jT List.head? e;simp[Qa,Yc]at this),jd (by intro e;have:=jT List.head? e;simp[Qa,Xb,Yc]at this),b,jh ⟨rfl,by omega⟩]
theorem XaR(g:1<=n)(c:n<=1099511627776)(f:j<128):ZC (Ve n j)=(4,(n:Int),(j:Int)):=by
 unfold ZC;have d:xy (Ve n j).tail=(Lib.itoa (n:Int),Lib.itoa (j:Int)):=YV (xR n);rw[d];have b:Qs (Lib.itoa (n:Int)) 1 1099511627776=n:=VO (by omega) (by omega) c;have a:Qs (Lib.itoa (j:Int)) 0 127=j:=VO (by omega) (by omega) (by omega);rw[jd (by intro e;have:=jT List.head? e;simp[Ve,Yc]at this),jd (by intro e;have:=jT List.head? e;simp[Ve,Xb,Yc]at this),jd (by simp[Ve])];simp only[b,a];rw[jh ⟨rfl,by omega,by omega⟩]
theorem VaR(h:Qa n=Qa b):n=b:=VZ (Uo h).2
theorem Zap(h:Ve n i=Ve b j):n=b/\i=j:=by
 have c:xy (Ve n i).tail=(Lib.itoa (n:Int),Lib.itoa (i:Int)):=YV (xR n);have d:xy (Ve b j).tail=(Lib.itoa (b:Int),Lib.itoa (j:Int)):=YV (xR b);rw[h,d,Je]at c;exact⟨VZ c.1.symm,VZ c.2.symm⟩
theorem xah(a b j:Nat):Qa a≠Ve b j:=by intro e;have:=jT List.head? e;simp[Qa,Ve]at this
theorem QaR:Qa c≠Yc:=by intro e;have:=jT List.head? e;simp[Qa,Yc]at this
theorem vah:Qa c≠Xb:=by intro e;have:=jT List.head? e;simp[Qa,Xb,Yc]at this
theorem Qbk:Ve q c≠Yc:=by intro e;have:=jT List.head? e;simp[Ve,Yc]at this
theorem qah:Ve q c≠Xb:=by intro e;have:=jT List.head? e;simp[Ve,Xb,Yc]at this
theorem Zah:Yc≠Xb:=by decide
theorem YS(h:V8 s):s.all (λc=>c==46||(decide (97<=c.toNat)&&decide (c.toNat<=122))||(decide (48<=c.toNat)&&decide (c.toNat<=57)))=true:=by
 rw[List.all_eq_true];intro c b;obtain⟨a,d⟩:=h c b;simp[a,d]
theorem Yaw:Zf Yc=true:=by decide
theorem Xaw:Zf Xb=true:=by decide
theorem QO(b:n<=1099511627776):Zf (Qa n)=true:=by
 have c:(Lib.itoa (n:Int)).length<=13:=by rw[zG];exact ZV 12 n (by omega)
 have a:V8 (Lib.itoa (n:Int)):=by rw[zG];exact XH n
 unfold Zf Qa;rw[Kg,YS a];simp only[jk,Uf,jG];refine⟨⟨by decide,by omega⟩,by omega⟩
theorem xae(f:n<=1099511627776)(d:j<128):Zf (Ve n j)=true:=by
 have e:(Lib.itoa (n:Int)).length<=13:=by rw[zG];exact ZV 12 n (by omega)
 have b:V8 (Lib.itoa (n:Int)):=by rw[zG];exact XH n
 have c:(Lib.itoa (j:Int)).length<=3:=by rw[zG];exact ZV 2 j (by omega)
 have a:V8 (Lib.itoa (j:Int)):=by rw[zG];exact XH j
 unfold Zf Ve;rw[Kg,List.all_append,Kg,YS b,YS a];simp only[jk,ja,Uf,jG];refine⟨⟨by decide,by omega⟩,by omega⟩
def Qd(o:Op3):Nat:=if o.mode=2 then 1 else o.chunks.toNat
def Zr(o:Op3)(j:Nat):Nat:=if o.mode=2 then 1 else ze o.width.toNat o.chunks.toNat j
def Xs(o:Op3):List Nat:=(List.range (Qd o)).map (Zr o)
def Yf(o:Op3)(j:Nat)(code:Bs):Int:=if o.mode=2 then 0 else(Yt code (zf o.width.toNat o.chunks.toNat j) (ze o.width.toNat o.chunks.toNat j):Nat)
def En.inT(o:Op3)(j:Nat)(e:En):En:={e with value:=Yf o j e.code}
def En.zero(e:En):En:={e with value:=0}
def leE(a b:En):Bool:=decide (yb a b<=0)
def Qo(l:List En):List En:=l.mergeSort leE
def Qc(o:Op3)(j:Nat)(l:List En):List En:=Qo (l.map (En.inT o j))
def xM(o:Op3)(i:RI)(j:Nat):Hd:=⟨o.width,(j:Int),(Zr o j:Int),i.lo,i.hi,i.count⟩
def Zp(o:Op3)(i:RI)(l:List En)(j:Nat):Bs:=Xk (xM o i j) (Qc o j l)
structure ym (o:Op3) (i:RI) (l:List En):Prop where
 opt:Qb o=0
 lo:0<=i.lo
 lh:i.lo<i.hi
 hi:i.hi<=1152921504606846976
 n0:1<=i.number
 n1:i.number<=1099511627776
 count:i.count=(l.length:Int)
 len:l.length<=2097152
 ord:Ord l
 zero:∀e∈l,e.value=0
 code:∀e∈l,e.code.length=o.width.toNat/8
 id:∀e∈l,0<=e.id/\e.id<=281474976710656
 seq:∀e∈l,i.lo<e.seq/\e.seq<=i.hi
theorem Yr(l:List En):(Qo l).Perm l:=JX l leE
theorem zaS(a b:En):yb a b<=0\/yb b a<=0:=by
 have:=zr a b;omega
theorem ya4(l:List En):(Qo l).Pairwise λa b=>yb a b<=0:=by
 have:=US (le:=leE) (λa b c d e=>by
  simp only[leE,jG]at *;exact ZA d e) (λa b=>by
  simp only[leE,kO,jG];exact zaS a b) l
 exact this.imp λh=>by simpa [leE] using h
theorem vR(h:(l.map En.key).Nodup):Ord (Qo l):=yaR (ya4 l) ((((Yr l).map En.key).nodup_iff).2 h)
theorem xa4{l m:List En}(h:(l.map En.key).Nodup)(b:Ord m)(a:l.Perm m):Qo l=m:=XaJ (vR h) b ((Yr l).trans a)
theorem yac{l m:List En}(h:(l.map En.key).Nodup)(a:l.Perm m):Qo l=Qo m:=xa4 h (vR ((a.map _).nodup_iff.1 h)) (a.trans (Yr m).symm)
theorem qy(h:(l.map En.pair).Nodup):(l.map En.key).Nodup:=by
 unfold List.Nodup at *;rw[Uu]at *;exact h.imp λa e=>a (by
  simp only[En.key,Je]at e;simp only[En.pair,Je];exact⟨e.2.2,e.2.1⟩)
theorem vn(h:Ord l)(d:∀e∈l,e.value=0):(l.map En.pair).Nodup:=by
 have c:=zaR h;clear h;induction l with
 |nil=>simp
 |cons a r ih =>
  rw[ju,jY]at c|-
  refine⟨λg=>c.1 ?_,ih (λe i=>d e (jb _ i)) c.2⟩;obtain⟨b,f,e⟩:=jg.1 g;refine jg.2 ⟨b,f,?_⟩;simp only[En.pair,Je]at e;simp only[En.key,Je];exact⟨by rw[d b (jb _ f),d a jc],e.2,e.1⟩
theorem Q8(o:Op3)(j:Nat)(l:List En):(l.map (En.inT o j)).map En.pair=l.map En.pair:=by rw[j7];rfl
theorem Yap(l:List En):(l.map En.zero).map En.pair=l.map En.pair:=by rw[j7];rfl
theorem zbe(o:Op3)(j:Nat)(e:En):(e.inT o j).zero=e.zero:=rfl
theorem Yp(o:Op3)(j:Nat)(l:List En):(Qc o j l).Perm (l.map (En.inT o j)):=Yr _
theorem QaJ(h:(l.map En.pair).Nodup):Ord (Qc o j l):=vR (qy (by rw[Q8];exact h))
theorem zA(h:(l.map En.pair).Nodup):((Qc o j l).map En.pair).Nodup:=by
 rw[((Yp o j l).map En.pair).nodup_iff,Q8];exact h
theorem xac(h:(l.map En.pair).Nodup):Qc o k (Qc o j l)=Qc o k l:=by
 refine yac (qy (by rw[Q8];exact zA h)) ?_;have:=(Yp o j l).map (En.inT o k);rw[j7]at this;exact this
theorem YC(h:∀e∈l,e.value=0):l.map En.zero=l:=by
 conv=>rhs;rw[<-Ky l]
 refine Uw λe g=>?_
 have:=h e g;obtain⟨a,b,c,d,f⟩:=e;simp only at this;subst this;rfl
theorem Zh(o:Op3)(j:Nat)(l:List En):(Qc o j l).length=l.length:=by rw[(Yp o j l).length_eq,jz]
theorem yG{e:En}:e∈Qc o j l<->∃x∈l,x.inT o j=e:=by rw[(Yp o j l).mem_iff,jg]
theorem Yj(h:Qb o=0):0<Qd o/\Qd o<=128:=by
 obtain⟨a,c⟩:=yf h;obtain⟨b,e,d⟩:=Xd.1 a;unfold Qd;split<;>omega
theorem va4(h:Qb o=0)(j:Nat):1<=Zr o j/\Zr o j<=32:=by
 obtain⟨b,e⟩:=yf h;obtain⟨c,g,f⟩:=Xd.1 b;unfold Zr;split
 .omega
 .have a:0<o.chunks.toNat:=by omega
  have d:=Zaw (w:=o.width.toNat) (m:=o.chunks.toNat) (by omega) a j;have i:=Zat (w:=o.width.toNat) (m:=o.chunks.toNat) (by omega) a j;omega
theorem yaS(o:Op3)(j:Nat)(a:Bs):0<=Yf o j a/\Yf o j a<(2:Int)^Zr o j:=by
 unfold Yf Zr;split
 .exact⟨by decide,by decide⟩
 .refine⟨KD _,?_⟩;have:=zM a (zf o.width.toNat o.chunks.toNat j) (ze o.width.toNat o.chunks.toNat j)
  calc ((Yt a (zf o.width.toNat o.chunks.toNat j) (ze o.width.toNat o.chunks.toNat j):Nat):Int)<((2^ze o.width.toNat o.chunks.toNat j:Nat):Int):=by exact_mod_cast this
   _=(2:Int)^ze o.width.toNat o.chunks.toNat j:=by push_cast;rfl
theorem Vaw{i:RI}(h:ym o i l)(c:j<Qd o):Zm (xM o i j)=0:=by
 obtain⟨a,d⟩:=yf h.opt;have k:=va4 h.opt j;have e:=Yj h.opt;have g:=h.lo;have b:=h.lh;have f:=h.hi;unfold Zm xM;simp only;rw[jd (by rw[a];decide),jd (by omega)]
theorem vae{i:RI}(h:ym o i l)(k:j<Qd o):Vm (xM o i j) (Qc o j l)=0:=by
 have f:=vn h.ord h.zero;obtain⟨c,r⟩:=yf h.opt;obtain⟨n,t,s⟩:=Xd.1 c;have d:=h.len;unfold Vm;rw[jd (by rw[Vaw h k];decide),jd (by rw[Zh];omega)];refine Qab (λe m=>?_) (QaJ f) (λq g=>by cases g);obtain⟨x,b,rfl⟩:=yG.1 m;have u:=h.code x b;have w:=h.id x b;have v:=h.seq x b;have p:=yaS o j x.code;have a:Qh o.width x.code=0:=by
  unfold Qh;rw[jd (by rw[c];decide),jd (by omega)]
 unfold vu xM En.inT;simp only[JL];rw[jd (by rw[a];decide),jd (by omega),jd (by omega),jd (by omega)]
theorem zaK{i:RI}(h:ym o i l):Vm ⟨o.width,0,32,i.lo,i.hi,0⟩ (l.map En.zero)=0:=by
 obtain⟨b,m⟩:=yf h.opt;obtain⟨j,s,n⟩:=Xd.1 b;have d:=h.len;have r:=h.lo;have k:=h.lh;have p:=h.hi;rw[YC h.zero];unfold Vm;have f:Zm ⟨o.width,0,32,i.lo,i.hi,0⟩=0:=by
  unfold Zm;simp only;rw[jd (by rw[b];decide),jd (by omega)]
 rw[jd (by rw[f];decide),jd (by omega)];refine Qab (λx a=>?_) h.ord (λq e=>by cases e);have t:=h.code x a;have v:=h.id x a;have u:=h.seq x a;have g:=h.zero x a;have c:Qh o.width x.code=0:=by
  unfold Qh;rw[jd (by rw[b];decide),jd (by omega)]
 unfold vu;simp only;rw[jd (by rw[c];decide),jd (by rw[g];decide),jd (by omega),jd (by omega)]
theorem xaS:∀(b:List Ln) (a:Bs),(∀l∈b,(zn l).length<=160)->(Vj a b).length<=a.length+14+b.length*174:=by
 intro b;induction b with
 |nil =>
  intro a _;unfold Vj;split
  .simp
  .rw[zh];simp
 |cons l r ih =>
  intro a c;have f:=c l jc;have d:∀x∈r,(zn x).length<=160:=λx e=>c x (jb _ e)
  unfold Vj;rw[jk,Ul];split
  .have:=ih (zn l) d;rw[ja,zh];omega
  .have:=ih (a++zn l) d;rw[ja]at this;omega
theorem QZ{h:Hd}(d:Vm h l=0):(Xk h l).length<=400*(l.length+1):=by
 have o:Zm h=0:=by
  unfold Vm at d;split at d
  .rename_i k;exact absurd d k
  .rename_i k;simpa using k
 have Q:l.length<=2097152:=by
  unfold Vm at d;rw[jd (by simpa using o)]at d;split at d
  .cases d
  .omega
 have A:Qv h none l=0:=by
  unfold Vm at d;rw[jd (by simpa using o),jd (by omega)]at d;exact d
 have a:∀e∈l,e.fit (h.width.toNat/8):=λe D=>Xag o (Xab A e D)
 obtain⟨z,G,b2,b3,b4,H,J,N⟩:=vO o;obtain⟨F,R,I⟩:=Xd.1 z;have n:h.width.toNat/8<=128:=by omega
 obtain⟨W,v⟩:=EN (h.width.toNat/8);rw[<-v]at a n;have q:(Yk h l.length).length<=54:=by
  have w:=Vf h.width.toNat (by omega);have E:=Vf h.table.toNat (by omega);have L:=Vf h.bits.toNat (by omega);have O:=Vf h.lo.toNat (by omega);have M:=Vf h.hi.toNat (by omega);have K:=Vf l.length (by omega);simp only[Yk,num,ja];omega
 have c:=(xV l ⟨ve 4 (Yk h l.length),[],0⟩ [] [] a).1;have i:=ZZ l ⟨ve 4 (Yk h l.length),[],0⟩ [] [] a;have g:=XO l ⟨ve 4 (Yk h l.length),[],0⟩ [] [];rw[zh]at c;obtain⟨B,t⟩:=EN (Bu.blocks ⟨ve 4 (Yk h l.length),[],0⟩ [] [] l);rw[<-t]at c i g;have j:XU h l=B:=t.symm;have s:l.length*(W+37)<=l.length*165:=UU _ (by omega);simp only[jA]at c g;have f:∀x∈B.lines,(zn x).length<=160:=by
  intro x C;rcases i x C with k|⟨m,u,P⟩
  .cases k
  .have r:x.first.fit W:=by
    rcases m with m|m
    .cases m
    .exact a _ m
   simp only[jA]at u;exact yaw n r (by omega) (by omega)
 have p:=xaS B.lines [] f;have w:=Vf B.lines.length (by omega);have E:=Vf B.b.length (by omega);have y:B.lines.length*174<=(l.length+1)*174:=UO _ (by omega);unfold Xk xx;rw[j,ja,ja,zh];simp only[ja,qi,jA]at p|-
 omega
theorem Z0{i:RI}(h:ym o i l)(a:j<Qd o):(Zp o i l j).length<=400*(l.length+1):=by
 have:=QZ (vae h a);rw[Zh]at this;exact this
section
section perm
variable {κ ν:Type} [DecidableEq κ]
theorem zP{l:List (κ × ν)}{x:κ}(h:x∉l.map (·.1))(y:ν):(ye l x y).Perm ((x,y)::l):=by
 unfold ye;rw[jd h];exact JO
theorem Xr{l R:List (κ × ν)}{x:κ}{y:ν}(b:(l.map (·.1)).Nodup)(a:l.Perm ((x,y)::R)):x∉R.map (·.1)/\(R.map (·.1)).Nodup:=by
 have:=(a.map (·.1)).nodup_iff.1 b;exact jY.1 this
theorem XV{l R:List (κ × ν)}{x:κ}{b:ν}(g:(l.map (·.1)).Nodup)(a:l.Perm ((x,b)::R))(y:ν):(ye l x y).Perm ((x,y)::R):=by
 have f:x∈l.map (·.1):=(a.map (·.1)).mem_iff.2 jc;unfold ye;rw[jh f];refine(a.map _).trans ?_;rw[ju,jh rfl];refine Jm _ (List.Perm.of_eq ?_)
 conv=>rhs;rw[<-Ky R]
 refine Uw λe d=>?_
 rw[jd (λc=>(Xr g a).1 (jg.2 ⟨e,d,c⟩))];rfl
theorem yP{l R:List (κ × ν)}{x:κ}{b:ν}(f:(l.map (·.1)).Nodup)(a:l.Perm ((x,b)::R)):(Zi l x).Perm R:=by
 unfold Zi;refine(a.filter _).trans (List.Perm.of_eq ?_);rw[ka (by simp)];exact UT.2 λe d=>by simpa using λc=>(Xr f a).1 (jg.2 ⟨e,d,c⟩)
theorem Vn{l R:List (κ × ν)}{x:κ}{y:ν}(b:(l.map (·.1)).Nodup)(a:l.Perm ((x,y)::R)):Zd l x=some y:=(vD b).2 (a.mem_iff.2 jc)
end perm
theorem vaS{l m:List Int}(h:l.Perm m):l.sum=m.sum:=by
 induction h with
 |nil=>rfl
 |cons x _ ih=>simp only[List.sum_cons,ih]
 |swap x y l=>simp only[List.sum_cons];omega
 |trans _ _ h1 h2=>exact h1.trans h2
def Xf(l:List (Bs × zc)):Int:=(l.map (λx=>(x.2.data.length:Int))).sum
theorem yk{l m:List (Bs × zc)}(h:l.Perm m):Xf l=Xf m:=vaS (h.map _)
theorem Zc(x:Bs × zc)(l:List (Bs × zc)):Xf (x::l)=(x.2.data.length:Int)+Xf l:=by simp[Xf]
theorem vM(a b:List (Bs × zc)):Xf (a++b)=Xf a+Xf b:=by simp[Xf]
structure vq (d:Dk):Prop where
 on:d.off=false
 arm:d.armed=0
 wf:d.Wf
structure Yh (d d':Dk):Prop where
 cap:d'.cap=d.cap
 age:d'.age=d.age
 calm:vq d'
theorem Yh.refl{d:Dk}(h:vq d):Yh d d:=⟨rfl,rfl,h⟩
theorem Yh.trans{a b c:Dk}(h:Yh a b)(k:Yh b c):Yh a c:=⟨k.cap.trans h.cap,k.age.trans h.age,k.calm⟩
def zc.ok(x:Bs × zc):Prop:=Zf x.1=true/\x.2.data.length<=268435456/\x.2.sure<=x.2.data.length
theorem z9{d:Dk}{L:List (Bs × zc)}(a:d.files.Perm L)(j:(L.map (·.1)).Nodup)(b:∀x∈L,zc.ok x)(e:d.used=Xf L)(f:Xf L<=d.cap)(h:0<=d.cap)(g:d.cap<=1073741824)(i:L.length<=4096)(k:d.armed=0):d.Wf where
 nodup:=(a.map _).nodup_iff.2 j
 names:=λx c=>(b x (a.mem_iff.1 c)).1
 sizes:=λx c=>(b x (a.mem_iff.1 c)).2
 used:=by rw[e,<-yk a];rfl
 room:=by rw[e];exact f
 c0:=h
 c1:=g
 count:=by rw[a.length_eq];exact i
 a0:=by omega
 a1:=by omega
theorem Dk.Wf.ok{d:Dk}(h:d.Wf):∀x∈d.files,zc.ok x:=λx a=>⟨h.names x a,h.sizes x a⟩
theorem Dk.Wf.used'{d:Dk}(h:d.Wf){L:List (Bs × zc)}(a:d.files.Perm L):d.used=Xf L:=by rw[h.used];exact yk a
theorem Dk.Wf.nodup'{d:Dk}(h:d.Wf){L:List (Bs × zc)}(a:d.files.Perm L):(L.map (·.1)).Nodup:=(a.map _).nodup_iff.1 h.nodup
theorem Vy{d:Dk}(h:vq d)(a:Bool)(f:Dk->Dk):d.accept a f=(f {d with writes:=IntKind.i64.wrap (d.writes+1)},0):=by
 unfold Dk.accept;simp only;rw[jh h.arm]
theorem Xap{d:Dk}(h:vq d){n:Bs}(a:Zf n=true):d.look n=if(d.get n).isNone then 42 else 0:=by
 unfold Dk.look;rw[jd (by rw[h.on];decide),jd (by rw[a];decide)]
theorem vE{d:Dk}(h:vq d){n:Bs}{f:zc}(a:d.get n=some f):d.look n=0:=by
 have b:=h.wf.names _ (Qq a);rw[Xap h b,a];rfl
theorem Vap{d:Dk}(h:vq d){n:Bs}(b:Zf n=true)(a:d.get n=none):d.look n=42:=by rw[Xap h b,a];rfl
theorem XB{d:Dk}(h:vq d){n:Bs}{L:List (Bs × zc)}(c:d.files.Perm L)(i:Zf n=true)(b:n∉L.map (·.1))(l:L.length<4096):
  ∃d',d.create n=(d',0)/\Yh d d'/\d'.files.Perm ((n,⟨[],0⟩)::L):=by
 have a:n∉d.files.map (·.1):=λj=>b ((c.map (·.1)).mem_iff.1 j)
 have k:d.get n=none:=Yg.2 a;have g:=Vap h i k;have e:(ye d.files n ⟨[],0⟩).Perm ((n,⟨[],0⟩)::L):=(zP a _).trans (c.cons _);refine⟨({d with writes:=IntKind.i64.wrap (d.writes+1)}:Dk).put n ⟨[],0⟩,?_,⟨rfl,rfl,?_⟩,?_⟩
 .unfold Dk.create;rw[jd (by rw[g];decide),jd (by rw[g];decide),jd (by rw[c.length_eq];omega),Vy h]
 .exact⟨h.on,h.arm,z9 e (by
   rw[ju,jY];exact⟨b,h.wf.nodup' c⟩) (by
   intro x f;rcases jp.1 f with rfl|f
   .exact⟨i,by simp,by simp⟩
   .exact h.wf.ok x (c.mem_iff.2 f)) (by
   show d.used=_;rw[Zc,h.wf.used' c];simp) (by
   have:=h.wf.room;rw[Zc];rw[h.wf.used' c]at this;show(([]:Bs).length:Int)+Xf L<=d.cap;simpa using this) h.wf.c0 h.wf.c1 (by rw[jk];omega) h.arm⟩
 .exact e
theorem vJ{d:Dk}(h:vq d){n b:Bs}{f:zc}{R:List (Bs × zc)}(a:d.files.Perm ((n,f)::R))(m:f.data.length+b.length<=268435456)(j:Xf ((n,f)::R)+b.length<=d.cap):
  ∃d',d.append n b=(d',0)/\Yh d d'/\d'.files.Perm ((n,⟨f.data++b,f.sure⟩)::R):=by
 have k:d.get n=some f:=Vn h.wf.nodup a;have l:=vE h k;have o:=h.wf.used' a;have g:=Xr h.wf.nodup a;have c:zc.ok (n,f):=h.wf.ok _ (a.mem_iff.2 jc);have e:(ye d.files n ⟨f.data++b,f.sure⟩).Perm ((n,⟨f.data++b,f.sure⟩)::R):=XV h.wf.nodup a _;refine⟨{ ({d with writes:=IntKind.i64.wrap (d.writes+1)}:Dk).put n ⟨f.data++b,f.sure⟩with used:=d.used+b.length},?_,⟨rfl,rfl,?_⟩,?_⟩
 .unfold Dk.append;rw[k];simp only;rw[jd (by rw[l];decide),jd (by omega),jd (by rintro⟨_,p⟩;omega),Vy h]
 .refine⟨h.on,h.arm,z9 e (by
   rw[ju,jY];exact g) (by
   intro x i;rcases jp.1 i with rfl|i
   .exact⟨c.1,by simp only[ja];exact m,by have:=c.2.2;simp only[ja]at this|-;omega⟩
   .exact h.wf.ok x (a.mem_iff.2 (jb _ i))) ?_ ?_ h.wf.c0 h.wf.c1 (by have:=h.wf.count;rw[a.length_eq]at this;simpa using this) h.arm⟩
  .show d.used+b.length=_;rw[o,Zc,Zc];simp only[ja];push_cast;omega
  .show _<=d.cap;rw[Zc]at j|-;simp only at j;simp only[ja];push_cast;omega
 .exact e
theorem Y0{d:Dk}(h:vq d){n:Bs}{f:zc}{R:List (Bs × zc)}(a:d.files.Perm ((n,f)::R)):
  ∃d',d.sync n=(d',0)/\Yh d d'/\d'.files.Perm ((n,⟨f.data,f.data.length⟩)::R):=by
 have j:d.get n=some f:=Vn h.wf.nodup a;have k:=vE h j;have i:=h.wf.used' a;have e:=Xr h.wf.nodup a;have b:zc.ok (n,f):=h.wf.ok _ (a.mem_iff.2 jc);have c:(ye d.files n ⟨f.data,f.data.length⟩).Perm ((n,⟨f.data,f.data.length⟩)::R):=XV h.wf.nodup a _;refine⟨({d with writes:=IntKind.i64.wrap (d.writes+1)}:Dk).put n ⟨f.data,f.data.length⟩,?_,⟨rfl,rfl,?_⟩,?_⟩
 .unfold Dk.sync;rw[j];simp only;rw[jd (by rw[k];decide),Vy h]
 .refine⟨h.on,h.arm,z9 c (by
   rw[ju,jY];exact e) (by
   intro x g;rcases jp.1 g with rfl|g
   .exact⟨b.1,b.2.1,jm _⟩
   .exact h.wf.ok x (a.mem_iff.2 (jb _ g))) ?_ ?_ h.wf.c0 h.wf.c1 (by have:=h.wf.count;rw[a.length_eq]at this;simpa using this) h.arm⟩
  .show d.used=_;rw[i,Zc,Zc]
  .show _<=d.cap;have:=h.wf.room;rw[i]at this;rw[Zc]at this|-;exact this
 .exact c
theorem ybe{d:Dk}(h:vq d){n:Bs}{f:zc}{R:List (Bs × zc)}(b:d.files.Perm ((n,f)::R)){a:Dk}(j:a.files.Perm R)(c:a.used=d.used-f.data.length)(i:a.cap=d.cap)(k:a.armed=0):a.Wf:=by
 have e:=h.wf.used' b;have g:=Xr h.wf.nodup b;rw[Zc]at e;refine z9 j g.2 (λx l=>h.wf.ok x (b.mem_iff.2 (jb _ l))) (by rw[c,e];simp only;omega) ?_ (by rw[i];exact h.wf.c0) (by rw[i];exact h.wf.c1) (by have:=h.wf.count;rw[b.length_eq,jk]at this;omega) k;have:=h.wf.room;rw[i];simp only at e;omega
theorem Qap{d:Dk}(h:vq d){n:Bs}{f:zc}{R:List (Bs × zc)}(b:d.files.Perm ((n,f)::R)):Yh d (d.drop n)/\(d.drop n).files.Perm R:=by
 have c:d.get n=some f:=Vn h.wf.nodup b;have a:(Zi d.files n).Perm R:=yP h.wf.nodup b;have e:d.drop n={d with used:=d.used-f.data.length,files:=Zi d.files n}:=by unfold Dk.drop;rw[c]
 rw[e];exact⟨⟨rfl,rfl,⟨h.on,h.arm,ybe h b a rfl rfl h.arm⟩⟩,a⟩
theorem X0{d:Dk}(h:vq d):Yh d {d with writes:=IntKind.i64.wrap (d.writes+1)}:=⟨rfl,rfl,⟨h.on,h.arm,{h.wf with}⟩⟩
theorem XS{d:Dk}(h:vq d){n:Bs}{f:zc}{R:List (Bs × zc)}(b:d.files.Perm ((n,f)::R)):
  ∃d',d.delete n=(d',0)/\Yh d d'/\d'.files.Perm R:=by
 have g:d.get n=some f:=Vn h.wf.nodup b;have e:=vE h g;have c:=X0 h;have a:=Qap c.calm b;refine⟨({d with writes:=IntKind.i64.wrap (d.writes+1)}:Dk).drop n,?_,c.trans a.1,a.2⟩;unfold Dk.delete;rw[jd (by rw[e];decide),Vy h]
theorem XaC{d:Dk}(h:vq d){a b:Bs}{f g:zc}{R:List (Bs × zc)}(k:d.files.Perm ((a,f)::(b,g)::R))(s:a≠b):
  ∃d',d.rename a b=(d',0)/\Yh d d'/\d'.files.Perm ((b,f)::R):=by
 have p:d.get a=some f:=Vn h.wf.nodup k;have q:=vE h p;have n:=h.wf.ok (b,g) (k.mem_iff.2 (by simp));have o:=h.wf.ok (a,f) (k.mem_iff.2 (by simp));have e:=h.wf.nodup' k;simp only[ju,jY,jp,Kc]at e;have y:=X0 h;have u:({d with writes:=IntKind.i64.wrap (d.writes+1)}:Dk).files.Perm ((b,g)::(a,f)::R):=k.trans (JC _ _ _);obtain⟨c,m⟩:=Qap y.calm u;have i:=yP c.calm.wf.nodup m;have j:=(zP (l:=Zi (Dk.drop {d with writes:=IntKind.i64.wrap (d.writes+1)} b).files a) (x:=b) (λw=>e.2.1 ((i.map (·.1)).mem_iff.1 w)) f).trans (i.cons _);refine⟨{ ({d with writes:=IntKind.i64.wrap (d.writes+1)}:Dk).drop b with files:=ye (Zi (({d with writes:=IntKind.i64.wrap (d.writes+1)}:Dk).drop b).files a) b f},?_,?_,?_⟩
 .unfold Dk.rename;rw[p];simp only;rw[jd (by rw[q];decide),jd (by rw[q,n.1];decide),Vy h]
  try simp only
  rw[jd s]
 .have v:=c.calm.wf.used' m;have r:=c.calm.wf.room;rw[v]at r;refine⟨c.cap,c.age,⟨c.calm.on,c.calm.arm,z9 j (by
   rw[ju,jY];exact⟨e.2.1,e.2.2⟩) (by
   intro x t;rcases jp.1 t with rfl|t
   .exact⟨n.1,o.2⟩
   .exact h.wf.ok x (k.mem_iff.2 (by simp[t]))) (v.trans (by rw[Zc,Zc])) (by rw[Zc]at r|-;exact r) c.calm.wf.c0 c.calm.wf.c1 (by have:=h.wf.count;rw[k.length_eq,jk,jk]at this;rw[jk];omega) c.calm.arm⟩⟩
 .exact j
theorem yaK{d:Dk}(h:vq d){a b:Bs}{f:zc}{R:List (Bs × zc)}(g:d.files.Perm ((a,f)::R))(w:Zf b=true)(o:a≠b)(c:b∉R.map (·.1)):
  ∃d',d.rename a b=(d',0)/\Yh d d'/\d'.files.Perm ((b,f)::R):=by
 have n:d.get a=some f:=Vn h.wf.nodup g;have p:=vE h n;have m:=h.wf.ok (a,f) (g.mem_iff.2 (by simp));have t:=Xr h.wf.nodup g;have r:Zd d.files b=none:=Yg.2 λk=>by
  have:=(g.map (·.1)).mem_iff.1 k;rcases jp.1 this with e|k
  .exact o e.symm
  .exact c k
 have y:=X0 h;have q:Dk.drop {d with writes:=IntKind.i64.wrap (d.writes+1)} b={d with writes:=IntKind.i64.wrap (d.writes+1)}:=by
  unfold Dk.drop Dk.get;rw[r]
 have i:=yP h.wf.nodup g;have j:=(zP (l:=Zi d.files a) (x:=b) (λk=>c ((i.map (·.1)).mem_iff.1 k)) f).trans (i.cons _);refine⟨{ ({d with writes:=IntKind.i64.wrap (d.writes+1)}:Dk)with files:=ye (Zi d.files a) b f},?_,?_,?_⟩
 .unfold Dk.rename;rw[n];simp only;rw[jd (by rw[p];decide),jd (by rw[p,w];decide),Vy h]
  try simp only
  rw[jd o,q]
 .have v:=h.wf.used' g;have s:=h.wf.room;rw[v]at s;refine⟨rfl,rfl,⟨h.on,h.arm,z9 j (by
   rw[ju,jY];exact⟨c,t.2⟩) (by
   intro x u;rcases jp.1 u with rfl|u
   .exact⟨w,m.2⟩
   .exact h.wf.ok x (g.mem_iff.2 (by simp[u]))) (by show d.used=_;rw[v,Zc,Zc]) (by show _<=d.cap;rw[Zc]at s|-;exact s) h.wf.c0 h.wf.c1 (by have:=h.wf.count;rw[g.length_eq,jk]at this;rw[jk];omega) h.arm⟩⟩
 .exact j
def Dk.fileM(d:Dk)(n b:Bs):Dk × Bool × Int :=
 if(d.create n).2≠0 then((d.create n).1,false,(d.create n).2)
 else if((d.create n).1.append n b).2≠0 then(((d.create n).1.append n b).1,true,((d.create n).1.append n b).2)
 else((((d.create n).1.append n b).1.sync n).1,true,(((d.create n).1.append n b).1.sync n).2)
theorem qaS{d:Dk}(h:vq d){n b:Bs}{L:List (Bs × zc)}(f:d.files.Perm L)(t:Zf n=true)(a:n∉L.map (·.1))(r:L.length<4096)(p:b.length<=268435456)(m:Xf L+b.length<=d.cap):
  ∃d',d.fileM n b=(d',true,0)/\Yh d d'/\d'.files.Perm ((n,⟨b,b.length⟩)::L):=by
 obtain⟨v,k,c,i⟩:=XB h f t a r;obtain⟨u,s,e,o⟩:=vJ (b:=b) c.calm i (by simpa using p) (by rw[Zc,c.cap];simpa using m);obtain⟨j,l,q,g⟩:=Y0 e.calm o;refine⟨j,?_,(c.trans e).trans q,by simpa using g⟩;unfold Dk.fileM;rw[k];simp only;rw[s];simp only;rw[l];simp
end
def Dk.dropAll:Dk->List Bs->Dk
 |d,[]=>d
 |d,n::r=>(d.delete n).1.dropAll r
def Dk.writeTabs(o:Op3)(i:RI)(l:List En):List Nat->Dk->List Bs->Dk × List Bs × Int
 |[],d,made=>(d,made,0)
 |j::r,d,made =>
  let x:=d.fileM (Ve i.number.toNat j) (Zp o i l j)
  let made':=if x.2.1 then made++[Ve i.number.toNat j]else made
  if x.2.2≠0 then(x.1,made',x.2.2)else Dk.writeTabs o i l r x.1 made'
def Dk.writeRun(d:Dk)(o:Op3)(i:RI)(l:List En):Dk × Int :=
 if d.off then(d,45)
 else
  let x:=Dk.writeTabs o i l (List.range (Qd o)) d []
  if x.2.2=0\/x.2.2=45 then(x.1,x.2.2)else(x.1.dropAll x.2.1,x.2.2)
def Dk.deleteTabs(number:Nat):List Nat->Dk->Dk × Int
 |[],d=>(d,0)
 |j::r,d=>let x:=d.delete (Ve number j);if x.2≠0/\x.2≠42 then x else Dk.deleteTabs number r x.1
def Dk.deleteRun(d:Dk)(o:Op3)(number:Int):Dk × Int:=Dk.deleteTabs number.toNat (List.range (Qd o)) d
def Dk.store(d:Dk)(m:Mf):Dk × Int :=
 if d.off then(d,45)
 else
  let d0:Dk × Int:=if d.look Xb=0 then d.delete Xb else(d,0)
  if d0.2≠0 then d0
  else
   let d1:=d0.1.create Xb
   if d1.2≠0 then d1
   else
    let d2:=d1.1.append Xb (mfB m)
    if d2.2≠0 then(if d2.2=45 then d2 else((d2.1.delete Xb).1,d2.2))
    else
     let d3:=d2.1.sync Xb
     if d3.2≠0 then d3 else d3.1.rename Xb Yc
def Xi(b:Bs):zc:=⟨b,b.length⟩
def YA(o:Op3)(i:RI)(l:List En)(j:Nat):Bs × zc:=(Ve i.number.toNat j,Xi (Zp o i l j))
def Vb(o:Op3)(i:RI)(l:List En):List (Bs × zc):=(List.range (Qd o)).map (YA o i l)
theorem Qal{i:RI}(c:ym o i l)(y:400*(l.length+1)<=268435456):∀(f:List Nat) (d:Dk) (made:List Bs) (L:List (Bs × zc)),vq d->d.files.Perm L->(∀j∈f,j<Qd o/\Ve i.number.toNat j∉L.map (·.1))->f.Nodup->L.length+f.length<=4096->Xf L+f.length*(400*(l.length+1))<=d.cap ->
  ∃d',Dk.writeTabs o i l f d made=(d',made++f.map (Ve i.number.toNat),0)/\Yh d d'/\d'.files.Perm (f.map (YA o i l)++L):=by
 intro f;induction f with
 |nil=>intro d made L h s _ _ _ _;exact⟨d,by simp[Dk.writeTabs],Yh.refl h,s⟩
 |cons j r ih =>
  intro d made L h s v g m a;obtain⟨B,M⟩:=v j jc;rw[jY]at g;have G:=Z0 c B;have z:=(Yj c.opt).2;have K:=c.n0;have D:=c.n1;simp only[jk]at m a;have p:((r.length+1:Nat):Int)*(400*((l.length:Int)+1))=(r.length:Int)*(400*((l.length:Int)+1))+400*((l.length:Int)+1):=by push_cast;rw[Int.add_mul,Int.one_mul]
  have J:0<=(r.length:Int)*(400*((l.length:Int)+1)):=Int.mul_nonneg (KD _) (by omega);rw[p]at a;obtain⟨x,H,w,F⟩:=qaS (b:=Zp o i l j) h s (xae (n:=i.number.toNat) (j:=j) (by omega) (by omega)) M (by omega) (by omega) (by omega);have t:x.files.Perm (YA o i l j::L):=F;obtain⟨A,E,I,C⟩:=ih x (made++[Ve i.number.toNat j]) (YA o i l j::L) w.calm t (λk q=>⟨(v k (jb _ q)).1,λu=>by
    rcases jp.1 u with e|u
    .have:=(Zap e).2;subst this;exact g.1 q
    .exact(v k (jb _ q)).2 u⟩) g.2 (by simp only[jk];omega) (by
   rw[w.cap,Zc];have:((YA o i l j).2.data.length:Int)=((Zp o i l j).length:Int):=rfl;omega)
  refine⟨A,?_,w.trans I,C.trans ?_⟩
  .simp only[Dk.writeTabs,H,JV,JW,jW,Jb,E];simp
  .rw[ju,jO];exact Jd
theorem XC{i:RI}(f:ym o i l)(c:400*(l.length+1)<=268435456){L:List (Bs × zc)}(h:vq d)(k:d.files.Perm L)(p:∀j,j<Qd o->Ve i.number.toNat j∉L.map (·.1))(e:L.length+Qd o<=4096)(a:Xf L+Qd o*(400*(l.length+1))<=d.cap):
  ∃b,d.writeRun o i l=(b,0)/\Yh d b/\b.files.Perm (Vb o i l++L):=by
 obtain⟨b,n,q,m⟩:=Qal f c (List.range (Qd o)) d [] L h k (λj g=>⟨Ud.1 g,p j (Ud.1 g)⟩) List.nodup_range (by simpa using e) (by simpa using a);refine⟨b,?_,q,m⟩;unfold Dk.writeRun;rw[jd (by rw[h.on];decide)];simp[n]
theorem Yah{i:RI}:∀(a:List Nat) (d:Dk) (L:List (Bs × zc)),vq d->d.files.Perm (a.map (YA o i l)++L) ->
  ∃d',Dk.deleteTabs i.number.toNat a d=(d',0)/\Yh d d'/\d'.files.Perm L:=by
 intro a;induction a with
 |nil=>intro d L h b;exact⟨d,rfl,Yh.refl h,b⟩
 |cons j r ih =>
  intro d L h b;obtain⟨p,g,c,f⟩:=XS (n:=Ve i.number.toNat j) h b;obtain⟨e,q,k,m⟩:=ih p L c.calm f;refine⟨e,?_,c.trans k,m⟩;simp only[Dk.deleteTabs,g];rw[jd (by simp),q]
theorem zam{i:RI}{L:List (Bs × zc)}(h:vq d)(a:d.files.Perm (Vb o i l++L)):
  ∃d',d.deleteRun o i.number=(d',0)/\Yh d d'/\d'.files.Perm L:=Yah (List.range (Qd o)) d L h a
theorem qM{m:Mf}(E:m.good)(h:vq d){R:List (Bs × zc)}(old:List zc)(C:old.length<=1)(t:d.files.Perm (old.map (λf=>(Yc,f))++R))(y:Yc∉R.map (·.1))(J:Xb∉R.map (·.1))(s:R.length+1<4096)(o:Xf (old.map (λf=>(Yc,f))++R)+1014<=d.cap):
  ∃d',d.store m=(d',0)/\Yh d d'/\d'.files.Perm ((Yc,Xi (mfB m))::R):=by
 have N:=vT E;have a:Xb∉(old.map (λf=>(Yc,f))++R).map (·.1):=by
  rw[jr,jo];rintro(l|l)
  .rw[j7]at l;obtain⟨f,_,e⟩:=jg.1 l;exact Zah e
  .exact J l
 have i:d.get Xb=none:=Yg.2 λD=>a ((t.map (·.1)).mem_iff.1 D)
 have c:d.look Xb=42:=Vap h Xaw i;obtain⟨M,G,q,B⟩:=XB h t Xaw a (by rw[ja,jz];omega);obtain⟨K,z,u,x⟩:=vJ (b:=mfB m) q.calm B (by simp;omega) (by rw[Zc,q.cap];simp;omega);obtain⟨n,H,p,v⟩:=Y0 u.calm x;have k:n.files.Perm ((Xb,Xi (mfB m))::(old.map (λf=>(Yc,f))++R)):=by simpa [Xi] using v
 have j:∃d',n.rename Xb Yc=(d',0)/\Yh n d'/\d'.files.Perm ((Yc,Xi (mfB m))::R):=by
  rcases old with _|⟨g,_|⟨L,r⟩⟩
  .exact yaK p.calm k Yaw (λe=>Zah e.symm) y
  .exact XaC p.calm k (λe=>Zah e.symm)
  .simp at C
 obtain⟨F,I,A,w⟩:=j;refine⟨F,?_,((q.trans u).trans p).trans A,w⟩;unfold Dk.store;rw[jd (by rw[h.on];decide)];simp[c,G,z,H,I]
def Zt(u:Up):Bs:=qb u.seq.toNat++(qb u.id.toNat++u.code)
def upB(u:Up):Bs:=ve u.kind.toNat (Zt u)
def vf(l:List Up):Bs:=l.flatMap upB
def Xah(u:Up):Int :=
 if u.seq<1\/1152921504606846976<u.seq then 51
 else if u.kind≠1/\u.kind≠2 then 35
 else if u.id<0\/281474976710656<u.id then 60
 else if u.kind=2/\u.code≠[]then 11
 else if u.kind=1/\(u.code.length=0\/128<u.code.length\/u.code.length%8≠0)then 11 else 0
structure Up.fit (u:Up) (w:Nat):Prop where
 s1:1<=u.seq
 s2:u.seq<=1152921504606846976
 k:u.kind=1\/u.kind=2
 i0:0<=u.id
 i1:u.id<=281474976710656
 c1:u.kind=1->u.code.length=w
 c2:u.kind=2->u.code=[]
theorem Qaw{u:Up}(h:u.fit n)(a:n<=128):(Zt u).length<=146:=by
 have b:=Vf u.seq.toNat (by have:=h.s2;omega);have c:=Vf u.id.toNat (by have:=h.i1;omega);have d:u.code.length<=128:=by
  rcases h.k with k|k
  .rw[h.c1 k];exact a
  .rw[h.c2 k];simp
 unfold Zt;simp only[ja];omega
theorem yam{u:Up}(h:u.fit n)(a:n<=128):(upB u).length<=160:=by
 have:=Qaw h a;unfold upB;rw[zh];omega
theorem qae{l:List Up}(h:∀u∈l,u.fit n)(a:n<=128):(vf l).length<=l.length*160:=by
 induction l with
 |nil=>simp[vf]
 |cons u r ih =>
  have e:=yam (h u jc) a;have d:=ih (λx c=>h x (jb _ c));have b:vf (u::r)=upB u++vf r:=rfl;rw[b,ja,jk,Ul];omega
theorem zaq(l:List Up)(u:Up):vf (l++[u])=vf l++upB u:=by simp[vf]
theorem yaq{u:Up}(h:u.fit n)(l:0<n)(f:n<=128)(i:n%8=0):Xah u=0:=by
 obtain⟨m,j,k,e,g,d,c⟩:=h;unfold Xah;rw[jd (by omega),jd (by omega),jd (by omega),jd (λ⟨a,b⟩=>b (c a)),jd];rintro⟨a,b⟩;have:=d a;omega
def zm(s:Int):List Up->Prop
 |[]=>True
 |u::r=>u.seq=s+1/\zm (s+1) r
theorem zax{a b:List Up}:zm x (a++b)<->zm x a/\zm (x+a.length) b:=by
 induction a generalizing x with
 |nil=>simp[zm]
 |cons u r ih =>
  simp only[jO,zm,ih,jk,and_assoc];rw[show x+1+(r.length:Int)=x+((r.length+1:Nat):Int) by push_cast;omega]
theorem V0{s:Int}{l:List Up}(h:zm s l):∀u∈l,s<u.seq/\u.seq<=s+l.length:=by
 induction l generalizing s with
 |nil=>intro u a;cases a
 |cons x r ih =>
  intro u a;simp only[jk];rcases jp.1 a with rfl|a
  .have:=h.1;push_cast;omega
  .have:=ih h.2 u a
   push_cast;omega
structure Qj where
 info:RI
 list:List En
structure Jn where
 age:Int
 gone:Bool
 name:Bs
 w:Int
 last:Int
 synced:Int
structure Kp where
 d:Dk
 age:Int
 gone:Bool
 m:Mf
 runs:List Qj
 j:Jn
 past:List Up
 synced:Int
 words:List ((Int × Bs) × (Int × Bool))
 wlast:Int
 P:List Pr
def Kp.seq(K:Kp):Int:=K.m.seq+K.past.length
def qd(P:List Pr):Qi:=λi=>(P.find? (λp=>decide (p.id=i))).map (·.code)
def Jn.shut(j:Jn)(d:Dk):Bool:=j.gone||d.off||decide (d.age≠j.age)
def Jn.append(j:Jn)(d:Dk)(u:Up):Jn × Dk × Int :=
 if j.shut d then({j with gone:=true},d,45)
 else if Xah u≠0 then({j with gone:=false},d,Xah u)
 else if u.kind=1/\Qh j.w u.code≠0 then({j with gone:=false},d,11)
 else if u.seq≠j.last+1 then({j with gone:=false},d,51)
 else if(d.append j.name (upB u)).2≠0 then({j with gone:=decide ((d.append j.name (upB u)).2=45)},(d.append j.name (upB u)).1,(d.append j.name (upB u)).2)
 else({j with gone:=false,last:=u.seq},(d.append j.name (upB u)).1,0)
def Jn.sync(j:Jn)(d:Dk):Jn × Dk × Int :=
 if j.shut d then({j with gone:=true},d,45)
 else if(d.sync j.name).2≠0 then({j with gone:=decide ((d.sync j.name).2=45)},(d.sync j.name).1,(d.sync j.name).2)
 else({j with gone:=false,synced:=j.last},(d.sync j.name).1,0)
def Kp.shut(K:Kp):Bool:=K.gone||K.d.off||decide (K.d.age≠K.age)
def Kp.gate(K:Kp)(f:Kp->Kp × Int):Kp × Int:=if K.shut then({K with gone:=true},45)else({ (f K).1 with gone:=decide ((f K).2=45)},(f K).2)
def Kp.goes(K:Kp)(u:Up):Pr × Int :=
 if u.id<0\/281474976710656<u.id then(⟨0,[]⟩,60)
 else
  let next (p:Pr):Pr × Int:=if(Zd K.words (p.id,p.code)).isNone/\65536<=K.words.length then(⟨0,[]⟩,152)else(p,0)
  if u.kind=2 then(match qd K.P u.id with|none=>(⟨0,[]⟩,131)|some c=>next ⟨u.id,c⟩)
  else if Qh K.m.o.width u.code≠0 then(⟨0,[]⟩,11)
  else if(qd K.P u.id).isSome then(⟨0,[]⟩,130)
  else if 1048576<=K.P.length then(⟨0,[]⟩,43)
  else next ⟨u.id,u.code⟩
def Kp.made(K:Kp)(u:Up)(p:Pr):Kp :=
 {K with
  words:=ye K.words (p.id,p.code) (u.seq,decide (u.kind=2))
  wlast:=u.seq
  P:=if u.kind=2 then K.P.filter (λx=>decide (x.id≠p.id))else K.P++[p]
  past:=K.past++[u]}
def Kp.update(K:Kp)(u:Up):Kp × Int:=K.gate λK =>
 if(K.goes u).2≠0 then(K,(K.goes u).2)
 else if 1152921504606846976<=K.seq then(K,151)
 else
  let r:=K.j.append K.d {u with seq:=K.seq+1}
  if r.2.2≠0 then({K with j:=r.1,d:=r.2.1},r.2.2)
  else(({K with j:=r.1,d:=r.2.1}:Kp).made {u with seq:=K.seq+1} (K.goes u).1,0)
def Kp.sync(K:Kp):Kp × Int:=K.gate λK =>
 let r:=K.j.sync K.d
 if r.2.2≠0 then({K with j:=r.1,d:=r.2.1},r.2.2)else({K with j:=r.1,d:=r.2.1,synced:=K.seq},0)
structure WrM where
 d:Dk
 e:Int
 m:Mf
 runs:List Qj
 j:Jn
def Kp.written(K:Kp)(seq lo:Int)(words:List En):WrM :=
 let info:RI:=⟨K.m.next,lo,seq,(words.length:Int)⟩
 let m2:Mf:={K.m with runs:=if words=[]then K.m.runs else K.m.runs++[info],seq:=seq,journal:=K.m.next+1,next:=K.m.next+2}
 let j2:Jn:=⟨K.d.age,false,Qa (K.m.next+1).toNat,K.m.o.width,seq,seq⟩
 let back (d:Dk):Dk:=if words=[]then d else(d.deleteRun K.m.o info.number).1
 let r0:Dk × Int:=if words=[]then(K.d,0)else K.d.writeRun K.m.o info words
 if r0.2≠0 then⟨r0.1,r0.2,K.m,K.runs,j2⟩
 else
  let r1:=r0.1.create (Qa (K.m.next+1).toNat)
  if r1.2≠0 then⟨if r1.2=45 then r1.1 else back r1.1,r1.2,K.m,K.runs,j2⟩
  else
   let r2:=r1.1.store m2
   if r2.2≠0 then⟨if r2.2=45 then r2.1 else back (r2.1.delete (Qa (K.m.next+1).toNat)).1,r2.2,K.m,K.runs,j2⟩
   else⟨r2.1,0,m2,if words=[]then K.runs else K.runs++[⟨info,words⟩],j2⟩
def Zu(W:List ((Int × Bs) × (Int × Bool))):List En:=W.map λx=>⟨0,x.1.2,x.1.1,x.2.1,x.2.2⟩
def Kp.waiting(K:Kp):List En:=Qo (Zu K.words)
def Kp.flushed(K:Kp):Kp × Int :=
 if 24<=K.runs.length then(K,152)
 else if 1099511627776<K.m.next+2 then(K,151)
 else
  let r:=K.written K.seq K.m.seq K.waiting
  if r.e≠0 then({K with d:=r.d},r.e)
  else
   let x:=r.d.delete (Qa K.m.journal.toNat)
   if x.2≠0 then({K with d:=x.1},x.2)
   else({K with d:=x.1,m:=r.m,runs:=r.runs,j:=r.j,past:=[],synced:=r.m.seq,words:=[]},0)
def Kp.flush(K:Kp):Kp × Int:=K.gate λK=>if K.past=[]then(K,0)else K.flushed
def Kp.number(K:Kp):Kp × Int:=K.gate λK=>if 1099511627776<=K.m.next then(K,151)else({K with m:={K.m with next:=K.m.next+1}},0)
def Dk.gonePast(o:Op3):List RI->Dk->Dk × Int
 |[],d=>(d,0)
 |i::r,d=>let x:=d.deleteRun o i.number;if x.2≠0 then x else Dk.gonePast o r x.1
def Kp.swap(K:Kp)(n:Nat)(r:Option Qj):Kp × Int:=K.gate λK =>
 if n=0 then(K,0)
 else
  let m:Mf:={K.m with runs:=(r.toList.map (·.info))++K.m.runs.drop n}
  let x:=K.d.store m
  if x.2≠0 then({K with d:=x.1},x.2)
  else
   let y:=Dk.gonePast K.m.o (K.m.runs.take n) x.1
   if y.2≠0 then({K with d:=y.1},y.2)
   else({K with d:=y.1,m:=m,runs:=r.toList++K.runs.drop n},0)
def Kp.all(K:Kp):List En:=K.runs.flatMap (·.list)
def Kp.filesAt(K:Kp)(m0:Mf)(s:Nat):List (Bs × zc) :=
 (Yc,Xi (mfB m0))::(Qa K.m.journal.toNat,⟨vf K.past,s⟩)::K.runs.flatMap λr=>Vb K.m.o r.info r.list
def qD(W:List ((Int × Bs) × (Int × Bool)))(A:List En):Prop:=(W.map (·.1)).Nodup/\∀p,Zd W p=(Ze A p).map λe=>(e.seq,e.dead)
structure Inv (K:Kp):Prop where
 calm:vq K.d
 age:K.age=K.d.age
 gone:K.gone=false
 good:K.m.good
 disk:∃m0 s,m0={K.m with next:=m0.next}/\m0.next<=K.m.next/\m0.good/\K.d.files.Perm (K.filesAt m0 s)
 info:K.runs.map (·.info)=K.m.runs
 ok:∀r∈K.runs,ym K.m.o r.info r.list
 seqs:(K.all.map (·.seq)).Nodup
 j:K.j.age=K.age/\K.j.gone=false/\K.j.name=Qa K.m.journal.toNat/\K.j.w=K.m.o.width/\K.j.last=K.seq
 num:zm K.m.seq K.past
 fit:∀u∈K.past,u.fit (K.m.o.width.toNat/8)
 base:∃M0,qO M0 K.all/\qC M0 K.past/\qr M0 K.past=qd K.P/\qD K.words (zq M0 K.past)
 wlast:K.wlast<=K.seq
 wlen:K.words.length<=K.past.length
 ids:(K.P.map (·.id)).Nodup
 prs:∀p∈K.P,0<=p.id/\p.id<=281474976710656/\p.code.length=K.m.o.width.toNat/8
def Kp.held(K:Kp):Nat:=K.all.length+K.past.length
end Go.Proofs.YtekkihmmclencaaGreatDoor
