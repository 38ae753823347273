import Derived.Test.YtekkihmmclencaaGreatDoorM13
namespace Go.Proofs.YtekkihmmclencaaGreatDoor
set_option linter.all false
set_option maxRecDepth 100000
set_option maxHeartbeats 40000000
open Tryz
open Go Go.RowKit Go.Sort
variable(U w:World)(q c:Nat){W:World}{n:Nat}{v:Value}{F:va}{s:Bs}{x:Int}{d:Dk}{T:TypeId}{o:Op3}{X:List Value}
theorem zo(h:Qb o=0)(c:o.mode=1):Ye o.width o.chunks=0/\0<o.chunks/\o.chunks<=128:=by
 obtain⟨b,a⟩:=yf h;have f:=Xd.1 b;rcases a with⟨a,_⟩|⟨_,d,e⟩
 .omega
 .refine⟨?_,by omega,by omega⟩;unfold Ye;rw[b];rw[jd (by simp),jd (by omega)]
theorem ZaD(o:Op3)(h:Qb o=0):Calls prog 202 #[.agg (xf o).toArray] w (Vd (OI 0) w):=by
 obtain⟨n,r⟩:=yf h;obtain⟨E,v,p⟩:=Xd.1 n;have s:Int.tmod o.width 64=0:=by rw[Jw (by omega)];exact p
 have g:=Hi (λf=>zo h f);obtain⟨b,a,e⟩:=o;simp only at *;have c:=(St.refl w).alloc (.cells (xf ⟨b,a,e⟩).toArray 23);obtain⟨y,u,F⟩:=c.k3 0 1 2;have m:=Hi c;clear c h n;unfold xf at *;rcases r with⟨q,t⟩|⟨f,B,C⟩
 .subst q;subst t;go_enter func202,ntmps202;go_wp2_with fail;go_ret;exact⟨rfl,m.o.below⟩
 .obtain⟨l,G,A⟩:=g.o f;subst f;have j:=Hi (λW=>yaf W b a (by omega) (by omega) (by omega) (by omega));unfold Vr at j;simp only[l,JW,jW,Jb]at j;clear l;go_enter func202,ntmps202;go_wp2_with (go_at_call 196;refine(j.o _).mono ?_;rintro z p ⟨D,x,rfl,k,d⟩;have i:=Hi (m.o.call d);clear k d);go_ret;exact⟨rfl,i.o.below⟩
theorem zaa(n:Int)(o:Op3)(h:Qb o=0)(m:1<=n)(i:n<=1099511627776):Calls prog 139 #[OI n,.agg (xf o).toArray] w (Vd (OI 0) w):=by
 have b:=(St.refl w).alloc (.cells (xf o).toArray 23);obtain⟨j,f,g⟩:=b.k3 0 1 2;have d:=Hi (λW=>ZaD W o h);have e:=Hi b;clear b;unfold xf at *;go_enter func139,ntmps139;go_wp2_with (go_at_call 202;refine(d.o _).mono ?_;rintro l k ⟨rfl,a⟩;have c:=Hi (e.o.callB a);clear a);go_ret;exact⟨rfl,c.o.below⟩
def vm(o:Op3)(code:Bs):List Int:=(List.range (Qd o)).map λj=>Yf o j code
theorem Zac(h:o.mode=2)(a:Bs):vm o a=[0]:=by
 unfold vm Qd Yf;simp[h,Ue]
theorem qL(h:o.mode=1)(a:Bs):vm o a=yu o.width.toNat o.chunks.toNat a:=by
 unfold vm Qd yu;rw[jd (by omega)];apply Uw;intro j _;unfold Yf;rw[jd (by omega)]
theorem Xw(h:o.mode=1):Qd o=o.chunks.toNat:=by unfold Qd;rw[jd (by omega)]
def vl(l:List Int)(w:World)(e:Ending)(w':World):Prop:=∃v F,e=.returned v/\Rw 3 1 v l.length (xg l) F/\St w w' F
theorem vl.lit:vl [x] W (.returned (.slice (some ⟨W.heap.size,0,none⟩) 1 1)) (W.alloc (.cells #[OI x] 3)) :=
 ⟨_,[(W.heap.size,.cells #[OI x] 3)],rfl,Rw.lit 3 1 1 W.heap.size #[OI x] (by rfl) (by unfold maxLen;omega),(St.refl W).alloc _⟩
theorem YaV(o:Op3)(a:Bs)(h:Qb o=0)(A:(a.length:Int)=o.width/8):Calls prog 207 #[.agg (xf o).toArray,qa a] w (vl (vm o a) w):=by
 obtain⟨x,z⟩:=yf h;obtain⟨N,G,C⟩:=Xd.1 x;have k:=Hi (λb=>zo h b);have r:=Hi (λj=>Zac (o:=o) j a);have l:=Hi (λb=>qL (o:=o) b a);have p:=Hi (λb=>show(vm o a).length=o.chunks.toNat by unfold vm;rw[jz,Uh,Xw b]);obtain⟨d,c,g⟩:=o;simp only at *;have e:=(St.refl w).alloc (.cells (xf ⟨d,c,g⟩).toArray 23);obtain⟨H,F,O⟩:=e.k3 0 1 2;have v:=Hi e;clear e h x;unfold xf at *;rcases z with⟨j,D⟩|⟨b,K,L⟩
 .have t:=Hi (r.o j);subst j;subst D;have m:=(v.o.alloc (.cells #[OI 0] 3)).appL (M1:=[_]);rw[jF]at m;have E:=Hi m;clear m;go_enter func207,ntmps207;go_wp2_with fail;go_ret;rw[t.o];exact⟨_,_,rfl,Rw.lit 3 1 1 _ #[OI 0] (by rfl) (by unfold maxLen;omega),E.o⟩
 .obtain⟨u,P,I⟩:=k.o b;have t:=Hi (l.o b);have B:=Hi (p.o b);subst b;have s:=Hi (λW=>V9 W d c a (by omega) (by omega) (by omega) (by omega) (by omega));unfold Vo Qt at s;simp only[u,A,JW,jW,Jb]at s;clear u;unfold qa at *;go_enter func207,ntmps207;go_wp2_with (go_at_call 101;refine(s.o _).mono ?_;rintro J C ⟨M,y,rfl,i,f⟩;have q:=Hi i;have n:=Hi (v.o.call f);clear i f);go_ret;refine⟨_,y,rfl,?_,n.o.appL⟩;rw[B.o,t.o];exact q.o
theorem xaf(n j:Nat):Ve n j=([114]++Lib.itoa (n:Int)++[46])++Lib.itoa (j:Int):=by simp[Ve,jE]
theorem yaa(w:World)(n j:Nat)(h1:n<=1099511627776)(hj:j<=1000)(ht:vi w):Calls prog 146 #[.int .i64 (n:Int),.int .i64 (j:Int)] w (Vd (qa (Ve n j)) w):=by
 have HI:=Hi (λW hb=>Q9 W n h1 (ht.below (B:=w.heap.size) hb (jm _)));have HJ:=Hi (λW hb=>Q9 W j (by omega) (ht.below (B:=w.heap.size) hb (jm _)));have hl1:=Zq (n:=n) h1;have hl2:=Zq (n:=j) (by omega);have HN:=Hi (xaf n j);have HR:=Hi (jU w.heap.size w);obtain⟨a,ha⟩:∃a,Lib.itoa (n:Int)=a:=⟨_,rfl⟩;obtain⟨b,hb⟩:∃b,Lib.itoa (j:Int)=b:=⟨_,rfl⟩;rw[ha]at HI HN hl1;rw[hb]at HJ HN hl2;have a1:=yh [114] a;have y1:=zb a;have y0:=zb [114];have z1:([114]++a).length<=14:=by simp;omega
 obtain⟨c,hc⟩:∃c,[114]++a=c:=⟨_,rfl⟩;rw[hc]at a1 z1 HN;have a2:=yh c [46];have y2:=zb c;have z2:(c++[46]).length<=15:=by simp;omega
 obtain⟨d,hd⟩:∃d,c++[46]=d:=⟨_,rfl⟩;rw[hd]at a2 z2 HN;have a3:=yh d b;have y3:=zb d;have y4:=zb b;obtain⟨e,he⟩:∃e,d++b=e:=⟨_,rfl⟩;rw[he]at a3 HN;have g1:¬ 9223372036854775807<1+a.length:=by omega
 have g2:¬ 9223372036854775807<c.length+1:=by omega
 have g3:¬ 9223372036854775807<d.length+b.length:=by omega
 clear ha hb hc hd he;rw[HN.o];unfold qa at *;go_enter func146,ntmps146;go_wp2_with (first
  |(go_at_call_of 78 (Value.int IntKind.i64 (n:Int));refine(HI.o _ HR.o).mono ?_;rintro e' w2 ⟨rfl,hb2⟩;have HB2:=Hi (HR.o.trans hb2);clear hb2)
  |(go_at_call_of 78 (Value.int IntKind.i64 (j:Int));refine(HJ.o _ HB2.o).mono ?_;rintro e' w3 ⟨rfl,hb3⟩;have HB3:=Hi (HB2.o.trans (hb3.mono HB2.o.size));clear hb3))
 go_ret;exact⟨rfl,HB3.o⟩
def Zg(i:Int):Value:=.int .i64 i
theorem Qn:Enc prog 3 Zg (λi=>-9223372036854775808<=i/\i<=9223372036854775807):=⟨Go.Maps.int_keyed underlying3,λa b h=>by unfold Zg at h;injection h,λx hx=>⟨.int .i64 x,Go.Maps.keyOf_int_mk underlying3 (by have:=wrap64_wf x;rw[Uv x hx]at this;exact this)⟩⟩
def mfV(m:Mf)(rv:Value):List Value:=[.int .i64 m.o.width,.int .i64 m.o.chunks,.int .i64 m.o.mode,.int .i64 m.seq,.int .i64 m.next,.int .i64 m.journal,rv]
theorem YaD(o:Op3)(h:Qb o=0):Calls prog 56 #[.agg (xf o).toArray] w (Vd (OI 0) w):=by
 obtain⟨f,j⟩:=yf h;obtain⟨y,s,p⟩:=Xd.1 f;have n:Int.tmod o.width 64=0:=by rw[Jw (by omega)];exact p
 have l:Int.tdiv o.width 32=o.width/32:=JK (by omega);have x:Int.tdiv o.width 8=o.width/8:=JK (by omega);obtain⟨b,a,d⟩:=o;simp only at *;have c:=(St.refl w).alloc (.cells (xf ⟨b,a,d⟩).toArray 23);obtain⟨t,r,z⟩:=c.k3 0 1 2;have e:=Hi c;clear c h f;unfold xf at *;rcases j with⟨g,q⟩|⟨m,u,v⟩
 .subst g;subst q;go_enter func56,ntmps56;go_wp2_with fail;go_ret;exact⟨rfl,e.o.below⟩
 .subst m;have i:¬ (a<b/32):=by omega
  have k:¬ (b/8<a):=by omega
  go_enter func56,ntmps56;go_wp2_with fail;go_ret;exact⟨rfl,e.o.below⟩
theorem qI(n a b:Int)(d:a<=n)(c:n<=b):Calls prog 58 #[OI n,OI a,OI b] w (Ret (.bool true) w):=by
 go_enter func58,ntmps58;go_wp2_with fail;go_ret;exact⟨rfl,rfl⟩
def unV(_:Unit):Value:=.agg #[]
def vaL(om:Obj)(l:List Int):Prop:=Va Zg unV om (l.map λi=>(i,()))
theorem qbf{l:List Int}:Zd (l.map λi=>(i,())) x=if x∈l then some ()else none:=by
 by_cases h:x∈l
 .rw[jh h];cases hg:Zd (l.map λi=>(i,())) x with
  |some u=>rfl
  |none =>
   have:=Yg.1 hg;simp at this;exact absurd h this
 .rw[jd h];refine Yg.2 ?_;simpa using h
theorem VaG{l:List Int}(h:x∉l):ye (l.map λi=>(i,())) x ()=(l++[x]).map λi=>(i,()):=by
 unfold ye;rw[jd (by simpa using h)];simp
theorem Zbf:∀W,(zeroValue 175).run prog W=.ok (.agg #[]) W:=λW=>by
 have h:(prog.info? 175).map (λi=>i.zero)=some (some (.agg #[])):=by kernel_rfl
 obtain⟨i,b,a⟩:=jL.1 h;simp[zeroValue,typeInfo,b,a]
theorem qaL(m:Mf)(rv:Value)(s:m.good)(n:qe riV 4 w rv m.runs):Calls prog 63 #[.agg (mfV m rv).toArray] w (Vd (.bool true) w):=by
 obtain⟨ad,z,a3,ai,ak,_⟩:=id n;subst a3;have ag:=s.s0;have al:=s.s1;have aj:=s.n0;have ac:=s.n1;have ae:=s.j0;have af:=s.j1;have hl:=s.len;obtain⟨a7,HM,HR⟩:=Hi3 s.runs s n;have D:=(St.refl w).alloc (.cells (mfV m (.slice ad m.runs.length z)).toArray 64);obtain⟨C,hC⟩:=EN w.heap.size;rw[<-hC]at D;obtain⟨HA,HC⟩:=Hi2 D hC;have a4:∀w,(Instr.makeMap 176 none).run prog w=.ok (.map (some w.heap.size)) (w.alloc (.map #[] 0)):=λw=>kF _ w
 clear n s D hC;unfold mfV at HA|-
 go_enter func63,ntmps63;go_upto_region 1 with(fail)
 rw[<-HC.o];refine HA.o.nameC ?_;clear HA HC;intro w1 D;have k5:=D.cellH 5;have R:=D.alloc (.map #[] 0);have a2:∀ob,(w1.alloc ob).cell? ⟨C,5,none⟩=some (OI m.journal):=λob=>(D.alloc ob).tail.cellH 5
 obtain⟨B,hB⟩:=EN w1.heap.size;obtain⟨a0,W1,y,q,O⟩:=Va.put (P:=prog) (k:=3) (e:=175) (t:=176) Qn underlying176 (Va.empty (ek:=Zg) (ev:=unV)) (by simp) R (x:=m.journal) (by omega) ();have u:=Hi q;have a1:Hy (vaL a0 [m.journal]):=Hi O;unfold Zg unV at y;clear q O D R;go_upto_region 2 with(fail)
 rw[<-hB]at u;rw[<-hB];clear y k5 a2 a4 hB;have q:=u.o;have k6:=q.tail.cellH 6;obtain⟨aa,ab⟩:(m.runs.length:Int)<=(z:Int)/\(0:Int)<=(m.runs.length:Int):=by omega
 clear q;go_upto_region 4 with(fail)
 go_loopw [17,4] (λiv lv wr=>∃(k:Nat) (om:Obj) (a:List Int) (b:Int),k<=m.runs.length/\iv=OI (k:Int)/\lv=OI b/\vaL om a/\(∀x∈a,0<=x/\x<=1099511627776)/\(0<=b/\b<=1152921504606846976)/\qf m a b (m.runs.drop k)=true/\St w wr ((B,om)::[(C,.cells #[OI m.o.width,OI m.o.chunks,OI m.o.mode,OI m.seq,OI m.next,OI m.journal,.slice ad m.runs.length z] 64)])) (λiv _ _=>m.runs.length-(intOf iv).toNat)
 case atStart=>exact⟨0,a0,[m.journal],0,jX _,rfl,rfl,a1.o,by intro x v;simp at v;omega,⟨by omega,by omega⟩,by rw[Ju];exact a7.o,u.o⟩
 case round =>
  clear k6 u a1;obtain⟨k,om,a,b,hk,rfl,rfl,l,M,⟨a8,a9⟩,d,hS⟩:=hrel;have ah:(0:Int)<=(k:Int):=by omega
  by_cases hlt:k<m.runs.length
  .obtain⟨g,o,c,hv,H⟩:=HR.o.fld Zo k hlt;injection hv with e1 e2 e3
   subst e1;subst e3;clear e2;rw[jR hlt]at d;obtain⟨r,hr⟩:=NE (m.runs[k]);rw[hr]at d H;simp only[qf]at d;by_cases hbad:r.bad m a b
   .rw[jh hbad]at d;cases d
   .rw[jd hbad]at d;unfold RI.bad at hbad;simp only[Kc]at hbad;obtain⟨q1,q2,q3,q4,q5,q6,q7,q8⟩:=hbad;have U:∀j x,(riV r)[j]?=some x->OV wr g (o+k*4+j) x:=λj x v=>by
     have:=H j x v;rw[<-j9]at this;exact hS.old this
    have d0:OV wr g (o+k*4) (OI r.number):=U 0 _ rfl;have d1:OV wr g (o+k*4+1) (OI r.lo):=U 1 _ rfl;have d2:OV wr g (o+k*4+2) (OI r.hi):=U 2 _ rfl;have d3:OV wr g (o+k*4+3) (OI r.count):=U 3 _ rfl;have am:(k:Int)<(m.runs.length:Int):=by omega
    have f:=hS.alloc (.cells (riV r).toArray 141);obtain⟨A,K⟩:=EN wr.heap.size;rw[<-K]at f;obtain⟨G,X,Z,E,J⟩:=Hi5 f K d l M;have S:=Hi q1;have Y:=Hi (λW=>qI W r.number 1 (m.next-1) (by omega) (by omega));have Q:=Hi (λW=>qI W r.count 1 2097152 (by omega) (by omega));unfold Ret at Y Q;clear U H hS f K d l M q1 hr;unfold riV at G;go_upto_region 6 with(fail)
    rw[<-X.o];refine G.o.nameC ?_;clear G X d0 d1 d2 d3;intro w5 f;have d0:=f.cellH 0;have F:=(Va.look (P:=prog) (k:=3) (e:=175) (t:=176) Qn underlying176 E.o (by intro p hp;obtain⟨x,v,rfl⟩:=jg.1 hp;have:=J.o x v;omega) (f.tail.get) (x:=r.number) (by omega) true).2 (by rw[qbf,jd S.o]) _ (Zbf w5);simp only[JV]at F;unfold Zg at F;have V:=Hi ((f.alloc (.cells #[] 175)).tail);clear f;go_upto_region 7 with(fail)
    refine V.o.nameC ?_;clear V F d0;intro N i;obtain⟨d0,d1,d2,d3⟩:=i.k4 0 1 2 3;obtain⟨d4,d5⟩:=i.tail.tail.k2 3 4;obtain⟨T,W7,y,L,I⟩:=Va.put (P:=prog) (k:=3) (e:=175) (t:=176) Qn underlying176 E.o (by intro p hp;obtain⟨x,v,rfl⟩:=jg.1 hp;have:=J.o x v;omega) i.swap (x:=r.number) (by omega) ();rw[VaG S.o]at I;have a5:Hy (vaL T (a++[r.number])):=Hi I;have d8:=L.tail.cellH 2;have a6:=Hi L.swap.tail;unfold Zg unV at y;clear i L I;go_wp2_with (first
     |(go_at_call_of 58 (Value.int IntKind.i64 2097152);refine MQ (Q.o _) ?_)
     |(go_at_call 58;refine MQ (Y.o _) ?_))
    exact⟨⟨k+1,T,a++[r.number],r.hi,by omega,by go_num,rfl,a5.o,by intro x v;rcases jo.1 v with h|h;exact J.o x h;rw[jC.1 h];omega,⟨by omega,by omega⟩,Z.o,a6.o⟩,by simp[intOf];omega⟩
  .obtain rfl:k=m.runs.length:=by omega
   have HS:=Hi hS;clear hS l d M;go_wp2_with fail;go_ret;exact⟨rfl,HS.o.below⟩
def vo(x:Int × Bs):Value:=.agg #[.int .i64 x.1,qa x.2]
theorem ZaL:Go.Maps.Keyed prog 259:=Go.Maps.Keyed.of_law (deep_law (m:=3) (by omega) (by kernel_rfl) (by kernel_rfl) (by kernel_rfl))
theorem Zaj:prog.cellsOf 259=2:=by kernel_rfl
theorem Yac:prog.cellsOf 3=1:=by kernel_rfl
theorem Xac:prog.cellsOf 9=1:=by kernel_rfl
theorem ya6:prog.keyType 259=true:=by kernel_rfl
theorem XaV(d:Nat)(a:Int)(s:Bs)(h0:-9223372036854775808<=a)(h1:a<=9223372036854775807)(h2:s.length<=1000000):prog.keyLits (d+2) 259 [.int .i64 a,.string ⟨s.toArray⟩]=some [.int .i64 a,.string s]:=by
 have e0:prog.keyLits (d+1) 3 [.int .i64 a]=some [.int .i64 a]:=by
  unfold Program.keyLits;rw[underlying3];simp only[KU];rw[jh];have m0:IntKind.i64.min=-9223372036854775808:=by decide
  have m1:IntKind.i64.max=9223372036854775807:=by decide
  simp only[Lit.wf,m0,m1,Uf,jG];exact⟨h0,h1⟩
 have e1:prog.keyLits (d+1) 9 [.string ⟨s.toArray⟩]=some [.string s]:=by
  unfold Program.keyLits;rw[underlying9];simp only;rw[jh];have:=zb s;simp only[maxLen];omega
 unfold Program.keyLits;rw[underlying259];simp only[Zaj];rw[jh (by simp)];simp[Yac,Xac,e0,e1]
theorem XE:Enc prog 259 vo (λx=>(-9223372036854775808<=x.1/\x.1<=9223372036854775807)/\x.2.length<=1000000):=⟨ZaL,λa b h=>by
  unfold vo qa at h;injection h with h
  have h0:=jT (λa=>a[0]?) h;have h1:=jT (λa=>a[1]?) h;simp at h0 h1;exact Prod.ext h0 h1,λx hx=>by
  obtain⟨⟨h0,h1⟩,h2⟩:=hx;unfold keyOf vo qa;rw[underlying259];simp only;rw[jh (by simp[ya6,Value.formed,underlying259,Zaj])];have e:prog.types.size+1=(prog.types.size-1)+2:=by kernel_rfl
  rw[e];have hl:=XaV (prog.types.size-1) x.1 x.2 h0 h1 h2;exact⟨_,by rw[show(Value.agg #[.int .i64 x.1,.string ⟨x.2.toArray⟩]).cells.toList=[.int .i64 x.1,.string ⟨x.2.toArray⟩]from rfl,hl];rfl⟩⟩
def YR(x:Int × Bool):Value:=.agg #[.int .i64 x.1,.bool x.2]
def QG(x:Int × Bs):List Value:=[.int .i64 x.1,qa x.2]
structure TbR where
 key:Int
 v:Value
 l:List (Int × Bs)
 F:va
structure TbH where
 b:Nat
 om:Obj
 rs:List TbR
def TbH.frag(t:TbH):va:=(t.b,t.om)::t.rs.flatMap (·.F)
structure TbH.ok (t:TbH):Prop where
 map:Va Zg id t.om (t.rs.map λr=>(r.key,r.v))
 keys:∀r∈t.rs,-9223372036854775808<=r.key/\r.key<=9223372036854775807
 rows:∀r∈t.rs,Rw 259 2 r.v r.l.length (r.l.flatMap QG) r.F
structure DlH where
 b:Nat
 bw:Nat
 om:Obj
 w:Int
 m:Int
 last:Int
 words:List ((Int × Bs) × (Int × Bool))
 tv:Value
 FR:va
 ts:List TbH
def DlH.frag(d:DlH):va:=(d.b,.cells #[.int .i64 d.w,.int .i64 d.m,.int .i64 d.last,.map (some d.bw),d.tv] 256 (0,0))::(d.bw,d.om)::(d.FR++d.ts.flatMap TbH.frag)
structure DlH.ok (d:DlH):Prop where
 map:Va vo YR d.om d.words
 keys:∀p∈d.words,(-9223372036854775808<=p.1.1/\p.1.1<=9223372036854775807)/\p.1.2.length<=1000000
 row:Rw 262 1 d.tv d.ts.length (d.ts.map λt=>.map (some t.b)) d.FR
 tabs:∀t∈d.ts,t.ok
 many:d.words.length<=1000000
 rlen:∀t∈d.ts,∀r∈t.rs,r.l.length<=d.words.length
theorem zan:∀W,(zeroValue 306).run prog W=.ok (.agg #[OI 0,.bool false]) W:=λW=>by
 have h:(prog.info? 306).map (λi=>i.zero)=some (some (.agg #[OI 0,.bool false])):=by kernel_rfl
 obtain⟨i,b,a⟩:=jL.1 h;simp[zeroValue,typeInfo,b,a]
theorem qbm(d:DlH)(M:va)(e:d.ok)(f:St U w (d.frag++M)):Calls prog 157 #[za d.b] w (Ret (OI (d.words.length:Int)) w):=by
 unfold DlH.frag at f;have n:=f.cellH 3;have l:=f.tail.get;obtain⟨o,k,a,g,_⟩:=e.map.ex;have c:=Va.size e.map a;rw[a]at l;have j:(d.words.length:Int)<=1000000:=by have:=e.many;omega
 have i:(0:Int)<=(d.words.length:Int):=by omega
 have m:(Builtin.len_ #[253] 3 #[.map (some d.bw)]).run prog w=.ok (OI (d.words.length:Int)) w:=by
  rw[run_len_map (h:=(by kernel_rfl:prog.underlying 253=_)) (hb:=l),c];rfl
 clear f e a g l c j i;unfold za;go_enter func157,ntmps157;go_wp2_with fail;go_ret;exact⟨rfl,rfl⟩
def xA(W:List ((Int × Bs) × (Int × Bool)))(id:Int)(c:Bs):En × Bool:=match Zd W (id,c)with|none=>(⟨0,[],0,0,false⟩,false)|some x=>(⟨0,c,id,x.1,x.2⟩,true)
theorem Ybf(d:DlH)(M:va)(id:Int)(c:Bs)(n:d.ok)(o:St U w (d.frag++M))(q:-9223372036854775808<=id)(r:id<=9223372036854775807)(y:c.length<=1000000):
  Calls prog 156 #[za d.b,OI id,qa c] w (Vd (.tuple #[.agg (enV (xA d.words id c).1).toArray,.bool (xA d.words id c).2]) w):=by
 unfold DlH.frag at o;have g:=o.alloc (.cells #[OI 0,.string ⟨#[]⟩,OI 0,OI 0,.bool false] 137);have D:=g.tail.cellH 3;have f:=Va.look (P:=prog) (k:=259) (e:=306) (t:=253) XE underlying253 n.map n.keys g.tail.tail.get (x:=(id,c)) ⟨⟨q,r⟩,y⟩ true;simp only[JV]at f;obtain⟨A,z⟩:=EN (w.alloc (.cells #[OI 0,.string ⟨#[]⟩,OI 0,OI 0,.bool false] 137));unfold vo at f;simp only at f;have B:Hy (xA d.words id c=xA d.words id c):=Hi rfl;unfold xA;unfold za qa at *;cases hm:Zd d.words (id,c)with
 |none =>
  have s:=f.2 hm _ (zan _);clear f o g z n hm q r y B;unfold enV qa;simp only;go_enter func156,ntmps156;go_wp2_with fail;have a:=((St.refl w).alloc (.cells #[OI 0,.string ⟨#[]⟩,OI 0,OI 0,.bool false] 137)).alloc (.cells #[OI 0,.bool false] 306);refine a.nameB ?_;clear a;intro C a;obtain⟨m,j,h,l,i⟩:=a.tail.k5 0 1 2 3 4;simp at m j h l i;refine jP (v:=.tuple #[.agg #[OI 0,.string ⟨#[]⟩,OI 0,OI 0,.bool false],.bool false]) ?_ rfl ⟨rfl,a.below⟩;simp[results,results156,go_sem,m,j,h,l,i]
 |some x =>
  have s:=f.1 x hm;obtain⟨u,p⟩:=x;unfold YR at s;simp only at s;clear f o g z n hm q r y B;unfold enV qa;simp only;go_enter func156,ntmps156;go_wp2_with fail;have a:=((St.refl w).alloc (.cells #[OI 0,OT c,OI id,OI u,.bool p] 137)).alloc (.cells #[OI u,.bool p] 306);refine a.nameB ?_;clear a;intro C a;obtain⟨m,j,h,l,i⟩:=a.tail.k5 0 1 2 3 4;simp at m j h l i;refine jP (v:=.tuple #[.agg #[OI 0,OT c,OI id,OI u,.bool p],.bool true]) ?_ rfl ⟨rfl,a.below⟩;simp[results,results156,go_sem,m,j,h,l,i]
theorem xar(d:DlH)(M:va)(a:Bs)(i:St U w (d.frag++M))(v:Xc d.w=true)(G:d.m=0\/(Ye d.w d.m=0/\0<d.m/\d.m<=128))(x:(a.length:Int)=d.w/8):
  Calls prog 176 #[za d.b,qa a] w (vl (yp d.w d.m a) w):=by
 obtain⟨T,O,K⟩:=Xd.1 v;unfold DlH.frag at i;obtain⟨h,I,D,e,c,P,J,B,H,N⟩:=d;simp only at *;obtain⟨C,y⟩:=i.k2 0 1;have q:Hy (∀W,Below w.drew.heap.size w.drew W->OV W h 0 (OI e)/\OV W h 1 (OI c)):=Hi (λW s=>⟨(i.drew.callB s).cellH 0,(i.drew.callB s).cellH 1⟩);clear i;rcases G with E|⟨t,V,R⟩
 .subst E;have j:yp e 0 a=[0]:=by unfold yp;rw[jh rfl]
  rw[j];clear j q;unfold za qa;go_enter func176,ntmps176;go_wp2_with fail;go_ret;exact vl.lit
 .have j:yp e c a=yu e.toNat c.toNat a:=by unfold yp;rw[jd (by omega)]
  rw[j];have f:(yu e.toNat c.toNat a).length=c.toNat:=by unfold yu;simp
  have l:=Hi (V9 w.drew e c a (by omega) (by omega) (by omega) (by omega) (by omega));unfold Vo Qt at l;simp only[t,x,JW,jW,Jb]at l;have z:¬ (c=0):=by omega
  obtain⟨L,u⟩:=NE (yu e.toNat c.toNat a);rw[u]at l f|-
  have F:=Hi f;clear t j f u x v;unfold za qa at *;go_enter func176,ntmps176;go_upto_region 3 with fail
  clear C y;go_region_held3 (λW=>W.cell? ⟨h,0,none⟩=some (.int .i64 e)/\W.cell? ⟨h,1,none⟩=some (.int .i64 c)) (first|with_reducible exact q.o _ r.o|with_reducible exact q.o _ (jU _ _)|(go_keep;done)) (first
   |(go_at_call 101;refine l.o.mono ?_;rintro Q K ⟨S,A,rfl,k,g⟩;obtain⟨p,n,r⟩:=Hi3 k g g.below;clear k g))
  go_wp2_with fail;go_ret;exact⟨_,A,rfl,by rw[F.o];exact p.o,by have:=(St.refl w).drew.call n.o;simpa using this⟩
def qaz(x m:Int)(w:World)(e:Ending)(w':World):Prop:=∃d:DlH,e=.returned (za d.b)/\d.w=x/\d.m=m/\d.last=0/\d.words=[]/\d.ok/\d.ts.length=max 1 m.toNat/\St w w' d.frag
theorem YaL:∃i,prog.info? 262=some i/\∃z,i.zero=some z/\i.size=1/\z.cells.size=1/\∃by_,i.bytes=by_/\by_<=128:=by
 have h:(prog.info? 262).map (λi=>(i.zero.map (λz=>z.cells.size),i.size,decide (i.bytes<=128)))=some (some 1,1,true):=by kernel_rfl
 obtain⟨i,e,b⟩:=jL.1 h;simp only[Je,jL,jG]at b;obtain⟨⟨z,f,a⟩,c,d⟩:=b;exact⟨i,e,z,f,c,a,_,rfl,d⟩
theorem Zbm(x m:Int)(hw:Xc x=true)(hm:m=0\/(Ye x m=0/\0<m/\m<=128)):Calls prog 129 #[OI x,OI m] w (qaz x m w):=by
 obtain⟨w0,w1,w2⟩:=Xd.1 hw;obtain⟨ag,ai⟩:0<=m/\m<=128:=by omega
 have HM:=Hi hm;obtain⟨i0,hi,z,a7,a1,a6,O,a2,a3⟩:=YaL;have a4:max 1 m=((max 1 m.toNat:Nat):Int):=by omega
 have ah:∀(t:TypeId) w,(Instr.makeMap t none).run prog w=.ok (.map (some w.heap.size)) (w.alloc (.map #[] 0)):=λt w=>kF _ w
 have af:Int.tmod x 64=0:=by rw[Jw (by omega)];omega
 have HC:=Hi (λW=>yaf W x m (by omega) (by omega) (by omega) (by omega));unfold Vr at HC;clear hm hw;go_enter func129,ntmps129;go_upto_region 3 with fail
 rcases HM.o with h0|⟨h1,h2,h3⟩
 .subst h0;go_upto_region 7 with fail
  have A:=Hi (St.refl w);refine A.o.nameC ?_;clear A HC HM;intro w3 E;have P:=(E.alloc (.map #[] 0)).alloc (.cells #[OI x,OI 0,OI 0,.map (some w3.heap.size),.slice none 0 0] 256);rw[jF]at P;obtain⟨C,p⟩:=EN w3.heap.size;rw[<-p]at P;obtain⟨HA,F⟩:=Hi2 P p;clear P p E;go_upto_region 8 with fail
  rw[<-F.o];refine HA.o.nameC ?_;clear HA F;intro w4 J;have H:=Hi J;clear J;obtain⟨n,Z⟩:=NE (max 1 (0:Int).toNat);rw[Z]at a4;obtain⟨a8,aa⟩:n<=128/\1<=n:=by omega
  have HN:=Hi Z;clear Z;go_upto_region 9 with fail
  go_loopw [36] (λiv wr=>∃(k:Nat) (S:Value) (s:va) (c:List TbH),k<=n/\iv=OI (k:Int)/\c.length=k/\(∀t∈c,t.ok/\t.rs=[])/\Rw 262 1 S k (c.map λt=>.map (some t.b)) s/\St w wr ((C+1,.cells #[OI x,OI 0,OI 0,.map (some C),S] 256)::(C,.map #[] 0)::(s++c.flatMap TbH.frag))) (λiv _=>n-(intOf iv).toNat)
  case atStart=>exact⟨0,_,[],[],by omega,rfl,rfl,by simp,Rw.nil _ _,by simpa using H.o⟩
  case round =>
   clear H;obtain⟨k,S,s,c,hk,rfl,Q,d,M,N⟩:=hrel;obtain⟨v,a,rfl,_⟩:=M.form;by_cases hlt:k<n
   .obtain⟨ac,a9⟩:(k:Int)<(n:Int)/\((k:Nat):Int)<=1000:=by omega
    have k4:=N.cellH 4;have l:=N.alloc (.map #[] 0);obtain⟨T,U⟩:=EN wr.heap.size;rw[<-U]at l;have K:St w (wr.alloc (.map #[] 0)) (s++((T,.map #[] 0)::(C+1,.cells #[OI x,OI 0,OI 0,.map (some C),.slice v k a] 256)::(C,.map #[] 0)::c.flatMap TbH.frag)):=l.pm CN;obtain⟨Y,G,e,R,HT⟩:=Hi5 M K d Q U;have g:(k+1)*O<=140737488355328:=jI (Jg (show k+1<=200 by omega) a3) (by decide);have B:k+1<=maxLen:=by unfold maxLen;omega
    clear N l K M d Q U;go_upto_region 10 with fail
    rw[HT.o]at G;have X:Hy (∀(q:World) (y:va),St w q (y++((wr.heap.size,.map #[] 0)::(C+1,.cells #[OI x,OI 0,OI 0,.map (some C),.slice v k a] 256)::(C,.map #[] 0)::c.flatMap TbH.frag))->St w q ((C+1,.cells #[OI x,OI 0,OI 0,.map (some C),.slice v k a] 256)::(C,.map #[] 0)::(y++(c.flatMap TbH.frag++[(wr.heap.size,.map #[] 0)])))):=Hi λq y h=>h.pm CN
    go_wp2_with (at_builtin;refine xh (W0:=w) (by rfl) _ _ 254 (by rfl) 262 i0 z 1 O underlying254 hi a7 a1 a2 a6 (by decide) (.slice v k a) k _ s _ (by rfl) Y.o G.o 1 (wr.heap.size+1) [.map (some wr.heap.size)] (by rfl) (by rw[jF]) (by rfl) (by intro u hu;simp at hu;subst hu;rfl) B g ?_;intro v' q y j L;obtain⟨I,i,rfl,_⟩:=j.form;have V:=Hi j;have f:=X.o q y L;have y0:=f.cellH 4;have y1:=f.freeH 4;have a0:=Hi (f.set 4 (.slice I (k+1) i));clear j L f);refine⟨⟨k+1,.slice I (k+1) i,y,c++[⟨wr.heap.size,.map #[] 0,[]⟩],by omega,by go_num,by simp[R.o],?_,?_,?_⟩,by simp[intOf];omega⟩
    .intro t ht;rcases jo.1 ht with h|h
     .exact e.o t h
     .simp only[jC]at h;subst h;exact⟨⟨Va.empty,by simp,by simp⟩,rfl⟩
    .rw[jr];exact V.o
    .have:=a0.o;simpa [TbH.frag] using this
   .obtain rfl:k=n:=by omega
    obtain⟨Y,HS,e,R⟩:=Hi4 M N d Q;clear N M d Q;go_wp2_with fail;go_ret;exact⟨⟨C+1,C,.map #[] 0,x,0,0,[],_,s,c⟩,rfl,rfl,rfl,rfl,rfl,⟨Va.empty,by simp,by rw[R.o];exact Y.o,λt h=>(e.o t h).1,by simp,λt h r hr=>by rw[(e.o t h).2]at hr;cases hr⟩,by rw[R.o,HN.o],HS.o⟩
 .simp only[h1,JW,jW,Jb]at HC;have ae:¬ (m=0):=by omega
  clear h1;go_upto_region 7 with(go_at_call 196;refine(HC.o _).mono ?_;rintro e' w2 ⟨v2,F2,rfl,ab,a5⟩;have A:Hy (St w w2 []):=Hi (a5.pmSub (D:=F2) CN);clear ab a5)
  refine A.o.nameC ?_;clear A HC HM;intro w3 E;have P:=(E.alloc (.map #[] 0)).alloc (.cells #[OI x,OI m,OI 0,.map (some w3.heap.size),.slice none 0 0] 256);rw[jF]at P;obtain⟨C,p⟩:=EN w3.heap.size;rw[<-p]at P;obtain⟨HA,F⟩:=Hi2 P p;clear P p E;go_upto_region 8 with fail
  rw[<-F.o];refine HA.o.nameC ?_;clear HA F;intro w4 J;have H:=Hi J;clear J;obtain⟨n,Z⟩:=NE (max 1 m.toNat);rw[Z]at a4;obtain⟨a8,aa⟩:n<=128/\1<=n:=by omega
  have HN:=Hi Z;clear Z;go_upto_region 9 with fail
  go_loopw [36] (λiv wr=>∃(k:Nat) (S:Value) (s:va) (c:List TbH),k<=n/\iv=OI (k:Int)/\c.length=k/\(∀t∈c,t.ok/\t.rs=[])/\Rw 262 1 S k (c.map λt=>.map (some t.b)) s/\St w wr ((C+1,.cells #[OI x,OI m,OI 0,.map (some C),S] 256)::(C,.map #[] 0)::(s++c.flatMap TbH.frag))) (λiv _=>n-(intOf iv).toNat)
  case atStart=>exact⟨0,_,[],[],by omega,rfl,rfl,by simp,Rw.nil _ _,by simpa using H.o⟩
  case round =>
   clear H;obtain⟨k,S,s,c,hk,rfl,Q,d,M,N⟩:=hrel;obtain⟨v,a,rfl,_⟩:=M.form;by_cases hlt:k<n
   .obtain⟨ac,a9⟩:(k:Int)<(n:Int)/\((k:Nat):Int)<=1000:=by omega
    have k4:=N.cellH 4;have l:=N.alloc (.map #[] 0);obtain⟨T,U⟩:=EN wr.heap.size;rw[<-U]at l;have K:St w (wr.alloc (.map #[] 0)) (s++((T,.map #[] 0)::(C+1,.cells #[OI x,OI m,OI 0,.map (some C),.slice v k a] 256)::(C,.map #[] 0)::c.flatMap TbH.frag)):=l.pm CN;obtain⟨Y,G,e,R,HT⟩:=Hi5 M K d Q U;have g:(k+1)*O<=140737488355328:=jI (Jg (show k+1<=200 by omega) a3) (by decide);have B:k+1<=maxLen:=by unfold maxLen;omega
    clear N l K M d Q U;go_upto_region 10 with fail
    rw[HT.o]at G;have X:Hy (∀(q:World) (y:va),St w q (y++((wr.heap.size,.map #[] 0)::(C+1,.cells #[OI x,OI m,OI 0,.map (some C),.slice v k a] 256)::(C,.map #[] 0)::c.flatMap TbH.frag))->St w q ((C+1,.cells #[OI x,OI m,OI 0,.map (some C),.slice v k a] 256)::(C,.map #[] 0)::(y++(c.flatMap TbH.frag++[(wr.heap.size,.map #[] 0)])))):=Hi λq y h=>h.pm CN
    go_wp2_with (at_builtin;refine xh (W0:=w) (by rfl) _ _ 254 (by rfl) 262 i0 z 1 O underlying254 hi a7 a1 a2 a6 (by decide) (.slice v k a) k _ s _ (by rfl) Y.o G.o 1 (wr.heap.size+1) [.map (some wr.heap.size)] (by rfl) (by rw[jF]) (by rfl) (by intro u hu;simp at hu;subst hu;rfl) B g ?_;intro v' q y j L;obtain⟨I,i,rfl,_⟩:=j.form;have V:=Hi j;have f:=X.o q y L;have y0:=f.cellH 4;have y1:=f.freeH 4;have a0:=Hi (f.set 4 (.slice I (k+1) i));clear j L f);refine⟨⟨k+1,.slice I (k+1) i,y,c++[⟨wr.heap.size,.map #[] 0,[]⟩],by omega,by go_num,by simp[R.o],?_,?_,?_⟩,by simp[intOf];omega⟩
    .intro t ht;rcases jo.1 ht with h|h
     .exact e.o t h
     .simp only[jC]at h;subst h;exact⟨⟨Va.empty,by simp,by simp⟩,rfl⟩
    .rw[jr];exact V.o
    .have:=a0.o;simpa [TbH.frag] using this
   .obtain rfl:k=n:=by omega
    obtain⟨Y,HS,e,R⟩:=Hi4 M N d Q;clear N M d Q;go_wp2_with fail;go_ret;exact⟨⟨C+1,C,.map #[] 0,x,m,0,[],_,s,c⟩,rfl,rfl,rfl,rfl,rfl,⟨Va.empty,by simp,by rw[R.o];exact Y.o,λt h=>(e.o t h).1,by simp,λt h r hr=>by rw[(e.o t h).2]at hr;cases hr⟩,by rw[R.o,HN.o],HS.o⟩
theorem Rw.cut(h:Rw T 1 v n X F)(k:Nat)(d:k<=n):
  ∃ad a,v=.slice ad n a/\n<=a/\(ad=none\/∃g,ad=some ⟨g,0,none⟩)/\Rw T 1 (.slice ad k a) k (X.take k) F:=by
 obtain⟨c,i⟩:=h;rw[JM]at c;rcases i with⟨rfl,rfl,rfl⟩|⟨g,a,b,rfl,rfl,m,j,l,f⟩
 .have:k=0:=by omega
  subst this;have:X=[]:=kq c;subst this;exact⟨none,0,rfl,jm _,.inl rfl,Rw.nil _ _⟩
 .refine⟨_,a,rfl,m,.inr ⟨g,rfl⟩,by rw[jN];omega,.inr ⟨g,a,b,rfl,rfl,by omega,j,l,?_⟩⟩;rw[<-f,JM,JM,List.take_take,Uy d]
def Dk.renamed(d:Dk)(a b:Bs)(f:zc):Dk:=if a=b then d else {d.drop b with files:=ye (Zi (d.drop b).files a) b f}
theorem XaL(D:Dk)(b:Bs):b∉(D.drop b).files.map (·.1):=by
 unfold Dk.drop;cases hg:D.get b with
 |none=>exact Yg.1 hg
 |some f =>
  simp only;intro c;obtain⟨p,a,e⟩:=jg.1 c;exact(YH.1 a).2 e
theorem VaL{r i:Obj}{A B:List FH}{x:FH}(g:xe r (A++x::B) d)(t:s∉d.files.map (·.1))(p:s.length<=maxLen)
  (l:Va qa za i (ye (Zi ((A++x::B).map λx=>(x.name,x.bf)) x.name) s x.bf)):xe i (A++(B++[{x with name:=s}])) {d with files:=ye (Zi d.files x.name) s x.f}:=by
 have m:=g.fnodup;have k:=g.map.nodup;have o:Zi d.files x.name=(A++B).map (λx=>(x.name,x.f)):=by
  rw[jr,ju]at m;rw[g.files,jr,ju,yV m,jr]
 have u:Zi ((A++x::B).map λx=>(x.name,x.bf)) x.name=(A++B).map (λx=>(x.name,x.bf)):=by
  rw[jr,ju]at k|-
  rw[yV k,jr]
 have j:∀y∈A++B,y.name≠s:=by
  intro y a e;refine t ?_;rw[g.files,j7];exact jg.2 ⟨y,by rcases jo.1 a with h|h;exact jx _ h;exact je _ (jb _ h),e⟩
 have n:ye ((A++B).map (λx=>(x.name,x.f))) s x.f=(A++B).map (λx=>(x.name,x.f))++[(s,x.f)]:=by
  unfold ye;rw[jd (λh=>by rw[j7]at h;obtain⟨y,a,e⟩:=jg.1 h;exact j y a e)]
 have q:ye ((A++B).map (λx=>(x.name,x.bf))) s x.bf=(A++B).map (λx=>(x.name,x.bf))++[(s,x.bf)]:=by
  unfold ye;rw[jd (λh=>by rw[j7]at h;obtain⟨y,a,e⟩:=jg.1 h;exact j y a e)]
 have c:∀y∈A++(B++[{x with name:=s}]),y∈A++x::B\/y={x with name:=s}:=by
  intro y a;rw[<-jE]at a;rcases jo.1 a with h|h
  .left;rcases jo.1 h with h|h
   .exact jx _ h
   .exact je _ (jb _ h)
  .right;simpa using h
 refine⟨?_,λy a=>?_,?_,λy a=>?_⟩
 .show ye (Zi d.files x.name) s x.f=_;rw[o,n,<-jE,jr (l₁:=A++B)];rfl
 .rcases c y a with h|rfl
  .exact g.ok y h
  .exact g.ok x (je _ jc)
 .rw[u,q]at l;rw[<-jE,jr (l₁:=A++B)];exact l
 .rcases c y a with h|rfl
  .exact g.short y h
  .exact p
theorem Zaz(a:Obj)(A B:List FH)(x:FH)(b:Bs)(D:Dk)(l:List (Bs × zc))(M:va):(Zb q c a (A++(B++[{x with name:=b}])) {D with files:=l}++M).Perm (Zb q c a (A++x::B) D++M):=by
 refine List.Perm.append_right _ ?_;show((q,Obj.cells (VF c D) 61)::(c,a)::fhF (A++(B++[{x with name:=b}]))).Perm ((q,Obj.cells (VF c D) 61)::(c,a)::fhF (A++x::B));refine Jm _ (Jm _ ?_);rw[qN,qN,qN,Zav];refine List.Perm.append_left _ ?_;show(fhF B++(x.frag++[])).Perm (x.frag++fhF B);rw[jJ];exact JO
theorem VaV(H w:World)(F b2 b3 b4 d m:Nat)(T:Obj)(O:List FH)(x:FH)(D:Dk)(M:va)(b:Bs)(hb:b.length<=4611686018427387904)(a3:0<=D.used)(W:D.used<=1073741824)(j:∀x∈D.files,x.2.data.length<=268435456)(S:x∈O)(K:xe T O D)(E:St H w (Zb d m T O D++M))
  (q:(F,Obj.cells #[qa x.name] 9)∈M) (g:(b2,Obj.cells #[qa b] 9)∈M) (n:(b3,Obj.cells #[za d] 27)∈M) (v:(b4,Obj.cells #[za x.bf] 119)∈M) :
  Calls prog 127 #[za F,za b2,za b3,za b4] w (qA H d m M (D.renamed x.name b x.f)):=by
 have Z:w.cell? ⟨F,0,none⟩=some (qa x.name):=E.rd (i:=0) (je _ q) rfl;have c2:w.cell? ⟨b2,0,none⟩=some (qa b):=E.rd (i:=0) (je _ g) rfl;have c3:w.cell? ⟨b3,0,none⟩=some (za d):=E.rd (i:=0) (je _ n) rfl;have r:=Hi (jy q (jy g (jy n v)));obtain⟨HD,HS⟩:=Hi2 K E;have a1:=K.short x S;by_cases he:x.name=b
 .have X:Hy (D.renamed x.name b x.f=D):=Hi (by unfold Dk.renamed;rw[jh he]);rw[he]at Z;clear E K j q g n v S;unfold za at c3|-;unfold qa at Z c2
  go_enter func127,ntmps127;go_wp2_with fail;go_end0;rw[X.o];exact⟨rfl,T,O,HD.o,HS.o⟩
 .have Y:=Hi (zaw H w d m T O D M b a3 W j K E hb);clear E K j q g n v;unfold za at c3 Y|-;unfold qa at Z c2 Y
  have a4:(x.name==b)=false:=by simpa using he
  go_enter func127,ntmps127;go_upto_region 2 with(go_at_call 77;refine Y.o.mono ?_;rintro e U ⟨rfl,a5,a6,I,h,l⟩)
  have g:=I x S he;obtain⟨A,B,rfl⟩:=JU g;have d3:U.cell? ⟨b3,0,none⟩=some (.pointer (some ⟨d,0,none⟩)):=l.rd (i:=0) (je _ r.o.2.2.1) rfl;have d1:U.cell? ⟨F,0,none⟩=some (.string ⟨x.name.toArray⟩):=l.rd (i:=0) (je _ r.o.1) rfl;have y0:U.cell? ⟨d,0,none⟩=some (.map (some m)):=l.cellH 0;obtain⟨a0,G,L,z,R⟩:=Va.del (P:=prog) (k:=9) (e:=119) (t:=59) encStr underlying59 h.map (λp hp=>by obtain⟨y,hy,rfl⟩:=jg.1 hp;exact h.short y hy) (l.drew.swap) (x:=x.name) a1 0;have a:St H G (Zb d m a0 (A++x::B) (D.drop b)++M):=z.swap;obtain⟨C,N,u,Q,J⟩:=Va.put (P:=prog) (k:=9) (e:=119) (t:=59) encStr underlying59 R (λp hp=>by obtain⟨y,hy,rfl⟩:=jg.1 (YH.1 hp).1;exact h.short y hy) (z.drew) (x:=b) (by unfold maxLen;omega) x.bf;have c:St H N (Zb d m C (A++x::B) (D.drop b)++M):=Q.swap;have V:=Hi (VaL h (XaL D b) (by unfold maxLen;omega) J);have f1:G.cell? ⟨b2,0,none⟩=some (.string ⟨b.toArray⟩):=a.rd (i:=0) (je _ r.o.2.1) rfl;have f3:G.cell? ⟨b3,0,none⟩=some (.pointer (some ⟨d,0,none⟩)):=a.rd (i:=0) (je _ r.o.2.2.1) rfl;have f4:G.cell? ⟨b4,0,none⟩=some (.pointer (some ⟨x.bf,0,none⟩)):=a.rd (i:=0) (je _ r.o.2.2.2) rfl;have e1:G.cell? ⟨F,0,none⟩=some (.string ⟨x.name.toArray⟩):=a.rd (i:=0) (je _ r.o.1) rfl;have g0:G.cell? ⟨d,0,none⟩=some (.map (some m)):=a.cellH 0;have h1:N.cell? ⟨b2,0,none⟩=some (.string ⟨b.toArray⟩):=c.rd (i:=0) (je _ r.o.2.1) rfl;have h3:N.cell? ⟨b3,0,none⟩=some (.pointer (some ⟨d,0,none⟩)):=c.rd (i:=0) (je _ r.o.2.2.1) rfl;have h4:N.cell? ⟨b4,0,none⟩=some (.pointer (some ⟨x.bf,0,none⟩)):=c.rd (i:=0) (je _ r.o.2.2.2) rfl;have i0:N.cell? ⟨d,0,none⟩=some (.map (some m)):=c.cellH 0;have a2:=Hi c;unfold qa at L u;unfold za at u;clear l z a Q c R J h I g S HD HS;go_region_held3 (λs=>s.cell? ⟨b3,0,none⟩=some (.pointer (some ⟨d,0,none⟩))/\s.cell? ⟨F,0,none⟩=some (.string ⟨x.name.toArray⟩)/\s.cell? ⟨d,0,none⟩=some (.map (some m))) (first|exact⟨f3,e1,g0⟩|(go_keep;done)) (fail);go_upto_region 3 with(fail)
  go_region_held3 (λs=>s.cell? ⟨b2,0,none⟩=some (.string ⟨b.toArray⟩)/\s.cell? ⟨b3,0,none⟩=some (.pointer (some ⟨d,0,none⟩))/\s.cell? ⟨b4,0,none⟩=some (.pointer (some ⟨x.bf,0,none⟩))/\s.cell? ⟨d,0,none⟩=some (.map (some m))) (first|exact⟨h1,h3,h4,i0⟩|(go_keep;done)) (fail);go_end0;have X:Hy (D.renamed x.name b x.f={D.drop b with files:=ye (Zi (D.drop b).files x.name) b x.f}):=Hi (by unfold Dk.renamed;rw[jd he]);rw[X.o];exact⟨rfl,C,_,V.o,a2.o.perm (Zaz d m C A B x b (D.drop b) _ M)⟩
theorem xa6(K w:World)(l L:Nat)(T:Obj)(R:List FH)(D:Dk)(M:va)(a b:Bs)(k:D.Fits)(hD:xe T R D)(hS:St K w (Zb l L T R D++M))(hn:a.length<=4611686018427387904)(z:b.length<=4611686018427387904):
  Calls prog 74 #[za l,qa a,qa b] w (Yd K l L M (D.rename a b)):=by
 have af:∀(fn:Fn) (first cap:Array Value) (w:World),(Instr.makeFunc fn first cap).run prog w=.ok (.func fn first cap) w:=λ_ _ _ _=>rfl
 have HD:=Hi hD;go_enter func74,ntmps74;go_upto_region 1 with(fail)
 have g:=((hS.alloc (.cells #[za l] 27)).alloc (.cells #[qa a] 9)).alloc (.cells #[qa b] 9);rw[jF,jF]at g;obtain⟨C,hC⟩:=EN w.heap.size;rw[<-hC]at g|-
 obtain⟨B,a6⟩:=EN (C+1+1);rw[<-a6]at g|-
 clear hS hC a6;refine g.nameC ?_;clear g;intro w1 I;obtain⟨S,y⟩:∃S:va,S=[(B,Obj.cells #[qa b] 9),(C+1,Obj.cells #[qa a] 9),(C,Obj.cells #[za l] 27)]++M:=⟨_,rfl⟩;have c:St K w1 (Zb l L T R D++S):=by rw[y];exact St.rot (A:=[(B,Obj.cells #[qa b] 9),(C+1,Obj.cells #[qa a] 9),(C,Obj.cells #[za l] 27)]) I
 have j:(C,Obj.cells #[za l] 27)∈S:=by rw[y];simp
 have u:(C+1,Obj.cells #[qa a] 9)∈S:=by rw[y];simp
 have t:(B,Obj.cells #[qa b] 9)∈S:=by rw[y];simp
 have c1:w1.cell? ⟨C,0,none⟩=some (.pointer (some ⟨l,0,none⟩)):=c.rd (i:=0) (je _ j) rfl;have c2:w1.cell? ⟨C+1,0,none⟩=some (qa a):=c.rd (i:=0) (je _ u) rfl;have HL:=Hi (YO K w1 l L T R D S a hD c hn);have HS:=Hi c;have q:=Hi (show M.Sublist S by rw[y];exact J0 _ _);have HX:=Hi (jy j (jy u t));have HN:=Hi (λW=>Xav W b z);obtain⟨E,hE⟩:=NE (D.look a);have s:=Hi hE;clear I c y j u t hD hE;by_cases h45:E=45
 .subst h45;have F:Hy (D.rename a b=(D,45)):=Hi (by unfold Dk.rename;cases D.get a<;>(simp only;rw[jh s.o]));go_wp2_with (go_at_call 64;refine HL.o.mono ?_;rintro e O N;obtain⟨rfl,rfl⟩:=N.bad s.o (by decide));go_ret;exact Yd.mk F.o HD.o ((HS.o.sub ((Jz _).append q.o)).alloc _).tail
 .by_cases h40:E=40
  .subst h40;have F:Hy (D.rename a b=(D,40)):=Hi (by unfold Dk.rename;cases D.get a<;>(simp only;rw[jd (by rw[s.o];decide),jh (.inl s.o)]));go_wp2_with (go_at_call 64;refine HL.o.mono ?_;rintro e O N;obtain⟨rfl,rfl⟩:=N.bad s.o (by decide));go_ret;exact Yd.mk F.o HD.o ((HS.o.sub ((Jz _).append q.o)).alloc _).tail
  .obtain⟨X,a0⟩:=NE (Zf b);rw[a0]at HN;have Q:=Hi a0;clear a0;by_cases h0:E=0
   .subst h0;clear h45 h40;go_upto_region 2 with(go_at_call 64;refine HL.o.mono ?_;rintro e O N;obtain⟨rfl,x,hx,v,V,rfl⟩:=N.ok s.o;unfold za)
    rw[<-v]at V;have ae:0<=D.used:=by rw[k.wf.used];exact Xal _
    have ab:=U7 k.wf.room k.wf.c1;have Y:∀x∈D.files,x.2.data.length<=268435456:=λx hx=>(k.wf.sizes x hx).1
    have H:Hy (D.rename a b=if X=false then(D,40)else D.accept D.done (λd=>d.renamed x.name b x.f)):=Hi (by
     unfold Dk.rename;rw[<-v,V];simp only;rw[jd (by rw[v,s.o];decide)];by_cases z:X=false
     .rw[jh (.inr (Q.o.trans z)),jh z]
     .rw[jd (λh=>by rcases h with h|h;rw[v,s.o]at h;cases h;exact z (Q.o.symm.trans h)),jd z];rfl)
    have g:=HS.o.alloc (.cells #[za x.bf] 119);obtain⟨U,a3⟩:=EN w1.heap.size;unfold za at g;rw[<-a3]at g|-
    clear c1 c2;refine g.nameC ?_;clear g a3;intro O I;obtain⟨r,n⟩:∃r:va,r=[(U,Obj.cells #[za x.bf] 119)]++S:=⟨_,rfl⟩;have c:St K O (Zb l L T R D++r):=by rw[n];exact St.rot (A:=[(U,Obj.cells #[za x.bf] 119)]) I
    have a5:(U,Obj.cells #[za x.bf] 119)∈r:=by rw[n];simp
    have j:(C,Obj.cells #[za l] 27)∈r:=by rw[n];exact je _ HX.o.1
    have u:(C+1,Obj.cells #[qa a] 9)∈r:=by rw[n];exact je _ HX.o.2.1
    have t:(B,Obj.cells #[qa b] 9)∈r:=by rw[n];exact je _ HX.o.2.2
    have c1:O.cell? ⟨C,0,none⟩=some (.pointer (some ⟨l,0,none⟩)):=c.rd (i:=0) (je _ j) rfl;have c2:O.cell? ⟨B,0,none⟩=some (qa b):=c.rd (i:=0) (je _ t) rfl;have y7:O.cell? ⟨l,7,none⟩=some (.bool D.done):=c.cellH 7;have J:=Hi (show M.Sublist r by rw[n];exact q.o.trans (J0 _ _));have p:=Hi c;have P:=Hi (jy j (jy u (jy t a5)));have HG:=Hi (jy hx (jy v V));obtain⟨a4,a2⟩:=Hi2 k Y;clear I c n j u t a5 V hx v hn k HS HX HL Y N;cases X with
    |false =>
     have F:Hy (D.rename a b=(D,40)):=Hi (by rw[H.o,jh rfl]);go_wp2_with (go_at_call 112;refine(HN.o _).mono ?_;rintro e w' ⟨rfl,rfl⟩);go_ret;exact Yd.mk F.o HD.o (p.o.sub ((Jz _).append J.o))
    |true =>
     obtain⟨G,hG⟩:∃G:Dk->Dk,G=(λd=>d.renamed x.name b x.f):=⟨_,rfl⟩;have a7:∀d,(G d).off=d.off:=λd=>by
      rw[hG];show(d.renamed x.name b x.f).off=d.off;have aa:(d.drop b).off=d.off:=by unfold Dk.drop;cases d.get b<;>rfl
      unfold Dk.renamed;split
      .rfl
      .exact aa
     have a9:Hy (Y8 K l L D r T R 127 #[za (C+1),za (B),za C,za U] G):=Hi (by
      intro W D1 e1 ac Z;rw[hG];show Calls _ _ _ _ (qA K l L r (D1.renamed x.name b x.f));have j:=P.o.2.1;rw[<-HG.o.2.1]at j;exact VaV K W (C+1) (B) C U l L T R x D1 r b z (by rw[e1];exact ae) (by rw[e1];exact ab) (by rw[e1];exact a2.o) HG.o.1 ac Z j P.o.2.2.1 P.o.1 P.o.2.2.2)
     have HA:=Hi (λ(W:World) (Z:St K W (Zb l L T R D++r))=>QF K W l L T R D r D.done 127 #[za (C+1),za (B),za C,za U] G (kf func127 (by kernel_rfl) rfl) a4.o HD.o Z a9.o a7);have F:Hy (D.rename a b=D.accept D.done G):=Hi (by rw[H.o,jd (by decide),hG]);unfold za at HA;clear hG a7 a9;go_upto_region 8 with(go_at_call 112;refine(HN.o _).mono ?_;rintro e w' ⟨rfl,rfl⟩)
     go_region_with (go_at_call 75;refine(HA.o _ (by first|exact p.o.drew.drew|exact p.o.drew|exact p.o)).mono ?_;rintro e w3 ⟨rfl,N⟩)
     all_goals
      go_wp2_with fail;go_ret;rw[F.o];exact Yd.less (M':=r) ⟨rfl,N⟩ J.o
   .have c3:w1.cell? ⟨B,0,none⟩=some (qa b):=HS.o.rd (i:=0) (je _ HX.o.2.2) rfl;have a8:∀f,D.get a≠some f:=by
     intro f V;have m:=s.o;unfold Dk.look at m;rw[V]at m;split at m
     .exact h45 m.symm
     .split at m
      .exact h40 m.symm
      .exact h0 (by simpa using m.symm)
    have a1:D.get a=none:=by
     cases V:D.get a with
     |none=>rfl
     |some f=>exact absurd V (a8 f)
    have H:Hy (D.rename a b=if X=false then(D,40)else(D,E)):=Hi (by
     unfold Dk.rename;rw[a1];simp only;rw[jd (by rw[s.o];exact h45)];by_cases z:X=false
     .rw[jh (.inr (Q.o.trans z)),jh z]
     .rw[jd (λh=>by rcases h with h|h;exact h40 (s.o.symm.trans h);exact z (Q.o.symm.trans h)),jd z,s.o])
    clear a8 a1;have ad:E=42:=by
     have m:=s.o;unfold Dk.look at m;split at m
     .exact absurd m.symm h45
     .split at m
      .exact absurd m.symm h40
      .split at m
       .exact m.symm
       .exact absurd m.symm h0
    subst ad;go_upto_region 2 with(go_at_call 64;refine HL.o.mono ?_;rintro e O N;obtain⟨rfl,rfl⟩:=N.bad s.o h0)
    refine(HS.o.alloc _).nameC ?_;clear c1 c2 c3;intro O c;have c3:O.cell? ⟨B,0,none⟩=some (qa b):=c.rd (i:=0) (jb _ (je _ HX.o.2.2)) rfl;have p:=Hi (c.tail.sub ((Jz _).append q.o));clear c HL HS HX;cases X with
    |false =>
     have F:Hy (D.rename a b=(D,40)):=Hi (by rw[H.o,jh rfl]);go_wp2_with (go_at_call 112;refine(HN.o _).mono ?_;rintro e w' ⟨rfl,rfl⟩);go_ret;exact Yd.mk F.o HD.o p.o
    |true =>
     have F:Hy (D.rename a b=(D,42)):=Hi (by rw[H.o,jd (by decide)]);go_wp2_with (go_at_call 112;refine(HN.o _).mono ?_;rintro e w' ⟨rfl,rfl⟩);go_ret;exact Yd.mk F.o HD.o p.o
end Go.Proofs.YtekkihmmclencaaGreatDoor
