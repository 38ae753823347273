import Derived.Test.YtekkihmmclencaaGreatDoorM06
import Derived.Test.YtekkihmmclencaaGreatDoorM18
namespace Go.Proofs.YtekkihmmclencaaGreatDoor
set_option linter.all false
set_option maxRecDepth 100000
set_option maxHeartbeats 40000000
open Tryz
open Go Go.RowKit Go.Sort
variable(U w:World)(c:Nat){W:World}{n k:Nat}{x y:Int}
theorem Za7(b:List TbR)(v:Int):(∀s∈b,s.key≠v)\/∃A s B,b=A++s::B/\s.key=v:=by
 by_cases h:∃s∈b,s.key=v
 .obtain⟨s,a,e⟩:=h;obtain⟨A,B,rfl⟩:=JU a;exact .inr ⟨A,s,B,rfl,e⟩
 .exact .inl λs a e=>h ⟨s,a,e⟩
theorem TbH.ok.mapKeys{t:TbH}(h:t.ok):∀p∈t.rs.map (λs=>(s.key,s.v)),-9223372036854775808<=p.1/\p.1<=9223372036854775807:=by
 intro p b;obtain⟨s,a,rfl⟩:=jg.1 b;exact h.keys s a
theorem Ya7:∀W,(zeroValue 257).run prog W=.ok (.slice none 0 0) W:=λW=>by
 have h:(prog.info? 257).map (λi=>i.zero)=some (some (.slice none 0 0)):=by kernel_rfl
 obtain⟨i,b,a⟩:=jL.1 h;simp[zeroValue,typeInfo,b,a]
theorem TbH.ok.look{t:TbH}(h:t.ok)(i:W.heap[t.b]?=some t.om){v:Int}(g:-9223372036854775808<=v)(f:v<=9223372036854775807):
  ((∀s∈t.rs,s.key≠v)->(Instr.lookup 262 (.map (some t.b)) (OI v) false).run prog W=.ok (.slice none 0 0) W) /\
  (∀A s B,t.rs=A++s::B->s.key=v->(Instr.lookup 262 (.map (some t.b)) (OI v) false).run prog W=.ok s.v W):=by
 have a:=Va.look (P:=prog) (k:=3) (e:=257) (t:=262) Qn underlying262 h.map h.mapKeys i (x:=v) ⟨g,f⟩ false;refine⟨λl=>?_,λA s B e d=>?_⟩
 .have:=a.2 (Van λp c=>by obtain⟨s,j,rfl⟩:=jg.1 c;exact l s j) _ (Ya7 W);simpa [Zg] using this
 .have:=a.1 s.v (qg h.map.nodup (by rw[e,<-d];simp));simpa [Zg] using this
theorem TbH.putNew{t:TbH}(h:t.ok){v:Int}(f:-9223372036854775808<=v)(g:v<=9223372036854775807)(m:∀s∈t.rs,s.key≠v){i:Obj}{y:Value}{l:List (Int × Bs)}{F:va}
  (d:Va Zg id i (ye (t.rs.map λs=>(s.key,s.v)) v y)) (j:Rw 259 2 y l.length (l.flatMap QG) F):(⟨t.b,i,t.rs++[⟨v,y,l,F⟩]⟩:TbH).ok:=by
 have k:v∉(t.rs.map λs=>(s.key,s.v)).map (·.1):=λd=>by
  rw[j7]at d;obtain⟨s,c,e⟩:=jg.1 d;exact m s c e
 refine⟨?_,?_,?_⟩
 .unfold ye at d;rw[jd k]at d;rw[jr];exact d
 .intro s c;rcases jo.1 c with c|c
  .exact h.keys s c
  .rw[jC]at c;subst c;exact⟨f,g⟩
 .intro s a;rcases jo.1 a with a|a
  .exact h.rows s a
  .rw[jC]at a;subst a;exact j
theorem TbH.putOld{t:TbH}(h:t.ok){A B:List TbR}{s:TbR}(e:t.rs=A++s::B){d:Obj}{y:Value}{l:List (Int × Bs)}{F:va}
  (c:Va Zg id d (ye (t.rs.map λs=>(s.key,s.v)) s.key y)) (g:Rw 259 2 y l.length (l.flatMap QG) F):(⟨t.b,d,A++⟨s.key,y,l,F⟩::B⟩:TbH).ok:=by
 have f:(t.rs.map λs=>(s.key,s.v))[A.length]?=some (s.key,s.v):=by rw[e];simp
 rw[show ye (t.rs.map λs=>(s.key,s.v)) s.key y=_ from ZU h.map.nodup f y]at c;refine⟨?_,?_,?_⟩
 .rw[e]at c;simpa using c
 .intro x a;have:=h.keys;rw[e]at this;rcases jo.1 a with a|a
  .exact this x (jx _ a)
  .rcases jp.1 a with rfl|a
   .exact this s (by simp)
   .exact this x (by simp[a])
 .intro x a;have:=h.rows;rw[e]at this;rcases jo.1 a with a|a
  .exact this x (jx _ a)
  .rcases jp.1 a with rfl|a
   .exact g
   .exact this x (by simp[a])
theorem Zaa(A B:List TbH)(t:TbH)(x:Nat × Obj):cntF x ((A++t::B).flatMap TbH.frag)=cntF x (A.flatMap TbH.frag)+(cntF x t.frag+cntF x (B.flatMap TbH.frag)):=by
 rw[jD,jB,xa,xa]
theorem xak(t:TbH)(x:Nat × Obj):cntF x t.frag=cnt1 x (t.b,t.om)+cntF x (t.rs.flatMap (·.F)):=by unfold TbH.frag;rw[ya]
theorem ZaH(A B:List TbR)(s:TbR)(x:Nat × Obj):cntF x ((A++s::B).flatMap (·.F))=cntF x (A.flatMap (·.F))+(cntF x s.F+cntF x (B.flatMap (·.F))):=by
 rw[jD,jB,xa,xa]
structure Yaa (ts us:List TbH) (n k:Nat):Prop where
 bs:us.map (·.b)=ts.map (·.b)
 each:∀(j:Nat) u,us[j]?=some u->u.ok/\∀r∈u.rs,r.l.length<=n+(if j<k then 1 else 0)
theorem Yaa.split{d a:List TbH}(h:Yaa d a n k)(g:k<d.length):∃A t B,a=A++t::B/\A.length=k/\t.ok/\t.b=d[k].b/\∀r∈t.rs,r.l.length<=n:=by
 have j:a.length=d.length:=by have:=jT List.length h.bs;simpa using this
 have c:k<a.length:=by omega
 have f:=h.each k _ (jt c);refine⟨a.take k,a[k],a.drop (k+1),?_,by rw[jN];omega,f.1,?_,λr i=>by have:=f.2 r i;simpa using this⟩
 .rw[<-jR c,Ja]
 .have e:(a.map (·.b))[k]?=(d.map (·.b))[k]?:=by rw[h.bs]
  rw[jZ,jZ,jt c,jt g]at e;simpa using e
theorem Yaa.step{c A B:List TbH}{t u:TbH}(h:Yaa c (A++t::B) n k)(q:A.length=k)(p:u.b=t.b)(o:u.ok)(i:∀r∈u.rs,r.l.length<=n+1):Yaa c (A++u::B) n (k+1):=by
 refine⟨by rw[<-h.bs];simp[p],λj y a=>?_⟩;by_cases e:j=k
 .subst e;have g:(A++u::B)[j]?=some u:=by rw[Jl (by omega)];simp[q]
  rw[g]at a;cases a;exact⟨o,λr h=>by rw[jh (by omega)];exact i r h⟩
 .have m:(A++t::B)[j]?=some y:=by
   by_cases hj:j<A.length
   .rw[UN hj]at a|-;exact a
   .rw[Jl (by omega)]at a|-
    rw[show j-A.length=(j-A.length-1)+1 by omega]at a|-
    simpa using a
  obtain⟨f,d⟩:=h.each j y m;exact⟨f,λr h=>by have:=d r h;split at this<;>split<;>omega⟩
theorem zad{w m:Int}{c:Bs}(a:m=0\/(Ye w m=0/\0<m/\m<=128)):(yp w m c).length=max 1 m.toNat:=by
 unfold yp;by_cases h:m=0
 .rw[jh h];subst h;rfl
 .rw[jd h];unfold yu;simp;omega
theorem YaM(h:Ye x y=0)(b:0<y)(a:64<=x)(d:x%64=0):x.toNat<=32*y.toNat:=by
 unfold Ye at h;split at h
 .omega
 .split at h
  .omega
  .rename_i c;omega
theorem yad{w m:Int}{c:Bs}(f:64<=w)(g:w%64=0)(b:m=0\/(Ye w m=0/\0<m/\m<=128)):∀v∈yp w m c,0<=v/\v<=8589934592:=by
 intro v a;unfold yp at a;by_cases h:m=0
 .rw[jh h]at a;simp at a;omega
 .rw[jd h]at a;unfold yu at a;obtain⟨j,_,rfl⟩:=jg.1 a;rcases b with b|⟨e,d,o⟩
  .exact absurd b h
  .have k:=zM c (zf w.toNat m.toNat j) (ze w.toNat m.toNat j);have i:=XP (wd:=w.toNat) (c:=m.toNat) (YaM e d f g) (by omega) j;have l:2^ze w.toNat m.toNat j<=2^33:=JS (by decide) i;have n:(2:Nat)^33=8589934592:=by decide
   omega
theorem xad:∃i,prog.info? 259=some i/\∃z,i.zero=some z/\i.size=2/\z.cells.size=2/\∃by_,i.bytes=by_/\by_<=128:=by
 have h:(prog.info? 259).map (λi=>(i.zero.map (λz=>z.cells.size),i.size,decide (i.bytes<=128)))=some (some 2,2,true):=by kernel_rfl
 obtain⟨i,e,b⟩:=jL.1 h;simp only[Je,jL,jG]at b;obtain⟨⟨z,f,a⟩,c,d⟩:=b;exact⟨i,e,z,f,c,a,_,rfl,d⟩
def VI(W0:World)(d:DlH)(seq id:Int)(code:Bs)(dead:Bool)(M:va)(e:Ending)(w':World):Prop :=
 e=.returned (.int .i64 0)/\∃d':DlH,d'.b=d.b/\d'.w=d.w/\d'.m=d.m/\d'.last=seq/\d'.words=ye d.words (id,code) (seq,dead)/\d'.ok/\d'.ts.length=d.ts.length/\St W0 w' (d'.frag++M)
theorem xaX(W0 w:World)(d:DlH)(M:va)(seq id:Int)(a:Bs)(G:Bool)(hd:d.ok)(q:St W0 w (d.frag++M))(hw:Xc d.w=true)(hm:d.m=0\/(Ye d.w d.m=0/\0<d.m/\d.m<=128))(hc:(a.length:Int)=d.w/8)(ba:d.ts.length=max 1 d.m.toNat)
  (i0:0<=id) (i1:id<=281474976710656) (s0:d.last<seq) (s1:seq<=1152921504606846976) (ap:(Zd d.words (id,a)).isSome=true\/d.words.length<65536) (bg:d.words.length<=999999) :
  Calls prog 219 #[za d.b,OI seq,OI id,qa a,.bool G] w (VI W0 d seq id a G M):=by
 obtain⟨w0,w1,w2⟩:=Xd.1 hw;have aE:=Hi (λW=>X9 W d.w a (by omega) (by omega) (by omega));rw[Qy hw hc]at aE;obtain⟨aa,a8,aR⟩:-9223372036854775808<=id/\id<=9223372036854775807/\a.length<=1000000:=by omega
 have b7:∃ok xs xd,((Zd d.words (id,a)).isSome=ok)/\∀W:World,W.heap[d.bw]?=some d.om->(Instr.lookup 253 (.map (some d.bw)) (.agg #[OI id,OT a]) true).run prog W=.ok (.tuple #[.agg #[OI xs,.bool xd],.bool ok]) W:=by
  cases hm:Zd d.words (id,a)with
  |none =>
   refine⟨false,0,false,rfl,λW hW=>?_⟩;have:=(Va.look (P:=prog) (k:=259) (e:=306) (t:=253) XE underlying253 hd.map hd.keys hW (x:=(id,a)) ⟨⟨aa,a8⟩,aR⟩ true).2 hm _ (zan W);simpa [vo,qa] using this
  |some x =>
   refine⟨true,x.1,x.2,rfl,λW hW=>?_⟩;have:=(Va.look (P:=prog) (k:=259) (e:=306) (t:=253) XE underlying253 hd.map hd.keys hW (x:=(id,a)) ⟨⟨aa,a8⟩,aR⟩ true).1 x hm;simpa [vo,qa,YR] using this
 obtain⟨ok,xs,xd,aW,aM⟩:=b7;obtain⟨b5,bj,HD,ao,bd⟩:=Hi5 aW ap hd hm ba;obtain⟨HW,HC,aS⟩:=Hi3 hw hc bg;have X:=Va.len (P:=prog) (k:=259) (e:=306) (t:=253) (W:=w) underlying253 hd.map q.tail.get 3;have b6:=Hi (λ(W:World) (h:W.heap[d.bw]?=some d.om)=>Va.len (P:=prog) (k:=259) (e:=306) (t:=253) (W:=W) underlying253 hd.map h 3);have bl:(d.words.length:Int)<=999999:=by omega
 obtain⟨i,f,R,H,J,K,ws,I,Q,ts⟩:=d;unfold DlH.frag at q;simp only at *;have aO:=q.alloc (.cells #[OI id,OT a] 259);obtain⟨C,hC⟩:=EN w.heap.size;rw[<-hC]at aO;obtain⟨HA,b4⟩:=Hi2 aO hC;clear q aO hC aW ap hd hm ba hw hc bg X aa a8 aR;unfold Ret qa at aE;unfold za qa;go_enter func219,ntmps219;go_upto_region 2 with fail
 rw[<-b4.o];refine HA.o.nameC ?_;clear HA b4;intro w1 q;have Z:Hy (∀W,Below w1.drew.heap.size w1.drew W->OV W i 3 (.map (some f))/\OV W C 0 (OI id)/\OV W C 1 (OT a)/\W.heap[f]?=some R):=Hi λW hb=>⟨(q.drew.callB hb).tail.cellH 3,(q.drew.callB hb).cellH 0,(q.drew.callB hb).cellH 1,(q.drew.callB hb).tail.tail.get⟩
 have HS:=Hi q;clear q;go_region_held3 (λW=>W.cell? ⟨i,3,none⟩=some (.map (some f))/\W.cell? ⟨C,0,none⟩=some (.int .i64 id)/\W.cell? ⟨C,1,none⟩=some (.string ⟨a.toArray⟩)/\W.heap[f]?=some R) (first|with_reducible exact Z.o _ (jU _ _)|with_reducible exact Z.o _ ((St.refl _).alloc _).below|with_reducible exact Z.o _ ((((St.refl _).alloc _).set _ _).set _ _).below|(go_keep;done)) (fail)
 all_goals(
  refine St.nameE (P:=prog) (HS.o.alloc (.cells #[OI xs,.bool xd] 306)).tail.drew ?_;clear Z HS aM;intro w2 q;obtain⟨k0,k2,k3⟩:=q.tail.k3 0 2 3;have X:=b6.o w2 q.tail.tail.get;have HS:=Hi q;clear q b6;have aB:=Hi (λ(us:List TbH) (hb:us.map (·.b)=ts.map (·.b)) (hu:∀t∈us,t.ok/\∀r∈t.rs,r.l.length<=(ye ws (id,a) (seq,G)).length) (om':Obj) (hM':Va vo YR om' (ye ws (id,a) (seq,G)))=>show(⟨i,f,om',H,J,seq,ye ws (id,a) (seq,G),I,Q,us⟩:DlH).ok from⟨hM',by
   intro p hp;rcases Yi.1 hp with rfl|⟨hp,_⟩
   .exact⟨⟨by simp only;omega,by simp only;omega⟩,by have:=HC.o;simp only;omega⟩
   .exact HD.o.keys p hp,by
   have h1:=HD.o.row;have h2:(us.map λt=>Value.map (some t.b))=ts.map λt=>Value.map (some t.b):=by
    have:=jT (List.map λb=>Value.map (some b)) hb;simpa [j7,Function.comp_def] using this
   have h3:us.length=ts.length:=by have:=jT List.length hb;simpa using this
   simp only;rw[h2,h3];exact h1,λt h=>(hu t h).1,by
   have:=aS.o;simp only;rw[Yy];split<;>omega,λt h=>(hu t h).2⟩)
  go_upto_region 9 with(go_at_call 155;refine MQ (aE.o _) ?_)
  cases ok with
  |true =>
   clear X;go_upto_region 17 with fail
   clear k0 k2 k3;have E:=HS.o;have q:=E.pm (M':=(f,R)::(C,.cells #[OI id,OT a] 259)::(i,.cells #[OI H,OI J,OI K,.map (some f),I] 256)::(Q++(ts.flatMap TbH.frag++M))) CN;obtain⟨a0,W7,a2,g,ad⟩:=Va.put (P:=prog) (k:=259) (e:=306) (t:=253) XE underlying253 HD.o.map HD.o.keys q.drew (x:=(id,a)) ⟨⟨by simp only;omega,by simp only;omega⟩,by have:=HC.o;simp only;omega⟩ (seq,G);obtain⟨aK,a3⟩:=Hi2 ad g;have k3:=q.tail.tail.cellH 3;obtain⟨k6,k7⟩:=q.tail.k2 0 1;unfold vo YR qa at a2;simp only at a2;clear E q g ad;go_still_tail 8,(by kernel_rfl);change wpList _ _ _ _ _ w2.drew;go_upto_region 18 with fail
   have g:=a3.o;have k2:=g.tail.tail.cellH 2;have f2:=g.tail.tail.freeH 2;have HX:=Hi ((g.pm (M':=(i,.cells #[OI H,OI J,OI K,.map (some f),I] 256)::(f,a0)::(C,.cells #[OI id,OT a] 259)::(Q++(ts.flatMap TbH.frag++M))) CN).set 2 (OI seq));clear g a2 k3 k6 k7;go_wp2_with fail;go_ret;refine⟨rfl,⟨i,f,a0,H,J,seq,ye ws (id,a) (seq,G),I,Q,ts⟩,rfl,rfl,rfl,rfl,rfl,aB.o ts ?_ ?_ a0 aK.o,?_,HX.o.pmSub (D:=[(C,.cells #[OI id,OT a] 259)]) λy=>?_⟩
   .rfl
   .intro t ht;refine⟨HD.o.tabs t ht,λr S=>?_⟩;have:=HD.o.rlen t ht r S;simp only at this;rw[Yy];omega
   .rfl
   .unfold DlH.frag;simp only[jf,jj,ji,xa,ya,OI,OT,OQ,Ya];omega
  |false =>
   have ap:ws.length<65536:=by
    rcases bj.o with h|h
    .rw[b5.o]at h;cases h
    .exact h
   have b9:(ws.length:Int)<65536:=by omega
   clear ap;have HV:=Hi (xar W0 w2 ⟨i,f,R,H,J,K,ws,I,Q,ts⟩ ((C,.cells #[OI id,OT a] 259)::M) a (HS.o.pm λy=>by unfold DlH.frag;simp only[xa,ya,OI,OT,OQ];omega) HW.o ao.o HC.o);simp only at HV;have bh:=Hi (zad (w:=H) (c:=a) ao.o);have ay:=Hi (yad (c:=a) w0 (by assumption) ao.o);obtain⟨L,hL⟩:=NE (yp H J a);rw[hL]at HV bh ay;have am:L.length=ts.length:=bh.o.trans bd.o.symm;obtain⟨n,aq⟩:=NE ts.length;rw[aq]at am;have bx:n<=128:=by
    have:=bd.o;rw[aq]at this;rcases ao.o with h|⟨_,_,h⟩<;>omega
   unfold vl za qa at HV;rw[am]at HV;obtain⟨aA,ag⟩:=Hi2 am aq;clear hL am aq k0 k2;obtain⟨wl,ax⟩:=NE ((ws.length:Int));rw[ax]at X b9;clear bl ax;go_upto_region 13 with(go_at_call 176;refine HV.o.mono ?_;rintro e' w4 ⟨v4,V,rfl,aN,be⟩;have aU:=HS.o.call be;obtain⟨b3,bk⟩:=Hi2 aU aN;obtain⟨av,cv,rfl,aZ,bn,_⟩:=aN.form;clear aN be aU)
   obtain⟨bv,bD⟩:(n:Int)<=(cv:Int)/\(n:Int)<=128:=by omega
   clear HV HS aZ bn X k3;go_loopw [71] (λiv wr=>∃(k:Nat) (us:List TbH),k<=n/\iv=OI (k:Int)/\Yaa ts us ws.length k/\St W0 wr ((C,.cells #[OI id,OT a] 259)::(i,.cells #[OI H,OI J,OI K,.map (some f),I] 256)::(f,R)::(Q++(us.flatMap TbH.frag++(V++M))))) (λiv _=>n-(intOf iv).toNat)
   case atStart=>exact⟨0,ts,jX _,rfl,⟨rfl,λj u hu=>⟨HD.o.tabs u (Js hu),λr S=>by have:=HD.o.rlen u (Js hu) r S;simpa using this⟩⟩,b3.o.pm CN⟩
   case round =>
    clear b3;obtain⟨k,us,hk,rfl,hU,q⟩:=hrel;have bC:(0:Int)<=(k:Int):=by omega
    by_cases hlt:k<n
    .have bE:(k:Int)<(n:Int):=by omega
     obtain⟨A,t,B,rfl,b0,az,aH,a1⟩:=hU.split (show k<ts.length by rw[ag.o];exact hlt);obtain⟨v,hv⟩:∃v,L[k]?=some v:=⟨L[k]'(by rw[aA.o];exact hlt),jt _⟩;obtain⟨bF,aZ⟩:=ay.o v (Js hv);obtain⟨gv,bz,bo,aX⟩:=bk.o.cells (M:=(C,.cells #[OI id,OT a] 259)::(i,.cells #[OI H,OI J,OI K,.map (some f),I] 256)::(f,R)::(Q++((A++t::B).flatMap TbH.frag++M))) (q.pm CN) (by intro e;have:=jT List.length e;simp[xg,aA.o]at this;omega);injection bo with e1 e2 e3
     subst e1;subst e3;have x0:OV wr gv k (OI v):=aX k _ (by unfold xg;rw[jZ,hv];rfl);obtain⟨gt,a4,af,_⟩:=HD.o.row.cells (M:=(C,.cells #[OI id,OT a] 259)::(i,.cells #[OI H,OI J,OI K,.map (some f),I] 256)::(f,R)::((A++t::B).flatMap TbH.frag++(V++M))) (q.pm CN) (by intro e;have:=jT List.length e;simp[ag.o]at this;omega);simp only at af;have bq:(n:Int)<=(a4:Int):=by
      obtain⟨bG,br,e,h1,_⟩:=HD.o.row.form;simp only at e h1;rw[af]at e;injection e with _ _ e;rw[ag.o]at h1;omega
     have b1:=Hi (λ(W:World) (M':va) (h:St W0 W (Q++M'))=>show OV W gt k (.map (some t.b))from by
      have aF:=HD.o.row;simp only at aF;rw[af]at aF;exact aF.cellAt h (by rw[jZ,jt (by rw[ag.o];exact hlt),JE,aH]))
     have aw:=Hi (show I=.slice (some ⟨gt,0,none⟩) n a4 by rw[af,ag.o]);obtain⟨bA,bc,HU,N,aI⟩:=Hi5 aH b0 hU az a1;obtain⟨aY,hi,z,bb,aV,b8,al,b2,bm⟩:=xad;have bt:=aS.o;have bf:=Hi q;clear aX af hU b0 aH a1 hv az q;rcases Za7 t.rs v with a9|⟨A',s,B',a5,aC⟩
     .have E:St W0 wr ([]++((t.b,t.om)::(C,.cells #[OI id,OT a] 259)::(i,.cells #[OI H,OI J,OI K,.map (some f),I] 256)::(f,R)::(Q++(t.rs.flatMap (·.F)++(A.flatMap TbH.frag++(B.flatMap TbH.frag++(V++M))))))):=bf.o.pm λy=>by simp only[Zaa,xak,xa,ya,OI,OT,OQ,Ya];omega
      have aQ:=Hi (Rw.nil 259 2);have aL:0+1<=maxLen:=by unfold maxLen;omega
      have U:(0+1)*al<=140737488355328:=by omega
      have O:=Hi (λ(W:World) (F':va) (y:Value) (h:St W0 W (F'++((t.b,t.om)::((C,.cells #[OI id,OT a] 259)::(i,.cells #[OI H,OI J,OI K,.map (some f),I] 256)::(f,R)::(Q++(t.rs.flatMap (·.F)++(A.flatMap TbH.frag++(B.flatMap TbH.frag++(V++M)))))))))=>Va.put (P:=prog) (k:=3) (e:=257) (t:=262) Qn underlying262 N.o.map N.o.mapKeys (h.pm (M':=(t.b,t.om)::(F'++((C,.cells #[OI id,OT a] 259)::(i,.cells #[OI H,OI J,OI K,.map (some f),I] 256)::(f,R)::(Q++(t.rs.flatMap (·.F)++(A.flatMap TbH.frag++(B.flatMap TbH.frag++(V++M)))))))) CN) (x:=v) ⟨by omega,by omega⟩ y);have Z:=Hi (λ(W:World) (F':va) (omx:Obj) (h:St W0 W (F'++((t.b,omx)::((C,.cells #[OI id,OT a] 259)::(i,.cells #[OI H,OI J,OI K,.map (some f),I] 256)::(f,R)::(Q++(t.rs.flatMap (·.F)++(A.flatMap TbH.frag++(B.flatMap TbH.frag++(V++M)))))))))=>show OV W i 4 (.slice (some ⟨gt,0,none⟩) n a4)/\OV W gt k (.map (some t.b))/\OV W C 0 (OI id)/\OV W C 1 (OT a)from⟨by rw[<-aw.o];exact h.appR.tail.tail.cellH 4,b1.o W (F'++((t.b,omx)::((C,.cells #[OI id,OT a] 259)::(i,.cells #[OI H,OI J,OI K,.map (some f),I] 256)::(f,R)::(t.rs.flatMap (·.F)++(A.flatMap TbH.frag++(B.flatMap TbH.frag++(V++M))))))) (h.pm CN),h.appR.tail.cellH 0,h.appR.tail.cellH 1⟩);have ar:=(N.o.look (W:=wr.drew) E.drew.appR.get (v:=v) (by omega) (by omega)).1 a9;have au:=λob=>(N.o.look (W:=(wr.alloc ob).drew) (E.alloc ob).tail.drew.appR.get (v:=v) (by omega) (by omega)).1 a9
      have T:=Hi E;unfold Zg at O;simp only[id_eq]at O;clear E;go_upto_region 15 with fail
      clear x0;go_region_held3 (λW=>W.cell? ⟨i,4,none⟩=some (.slice (some ⟨gt,0,none⟩) n a4)/\W.cell? ⟨gt,k,none⟩=some (.map (some t.b))/\W.cell? ⟨C,0,none⟩=some (.int .i64 id)/\W.cell? ⟨C,1,none⟩=some (.string ⟨a.toArray⟩)) (first|with_reducible exact Z.o _ _ _ ai.o|with_reducible exact Z.o _ _ _ a3.o|with_reducible exact Z.o _ _ _ T.o.drew|with_reducible exact Z.o _ _ _ (T.o.alloc _).tail.drew|with_reducible exact Z.o _ _ _ T.o|(go_keep;done)) (first|(refine Zn (W0:=W0) (by rfl) _ _ 257 (by rfl) 259 aY z 2 al underlying257 hi bb aV b2 b8 (by decide) (.slice none 0 0) (0) ([]) ([]) _ (by rfl) aQ.o 1 wr.heap.size [OI id,OT a] ((T.o.alloc _).drew) (by rfl) (by rfl) (by intro u hu;simp at hu;rcases hu with rfl|rfl<;>rfl) (by decide) aL U ?_;intro g7 Y w7 F7 aj g;obtain⟨ac,W9,ah,a6,ae⟩:=O.o w7 F7 (.slice (some ⟨g7,0,none⟩) (0+1) Y) g;have a7:=ah;(try simp only[Jp]at a7);obtain⟨aJ,a3,aP⟩:=Hi3 aj g ae;have ai:=Hi (a6.pm (M':=F7++((t.b,ac)::((C,.cells #[OI id,OT a] 259)::(i,.cells #[OI H,OI J,OI K,.map (some f),I] 256)::(f,R)::(Q++(t.rs.flatMap (·.F)++(A.flatMap TbH.frag++(B.flatMap TbH.frag++(V++M)))))))) CN);clear aj g a6 ae))
      all_goals(
       go_wp2_with fail;have ab:=TbH.putNew N.o (v:=v) (by omega) (by omega) a9 aP.o (l:=[(id,a)]) aJ.o;refine⟨⟨k+1,A++(⟨t.b,ac,t.rs++[⟨v,.slice (some ⟨g7,0,none⟩) (0+1) Y,[(id,a)],F7⟩]⟩:TbH)::B,by omega,by go_num,HU.o.step bc.o rfl ab ?_,ai.o.pm λy=>?_⟩,by simp[intOf];omega⟩
       .intro r S;rcases jo.1 S with S|S
        .have:=aI.o r S;omega
        .rw[jC]at S;subst S;simp
       .simp only[Zaa,xak,jD,jB,Jk,xa,ya,OI,OT,OQ,Ya];omega)
     .have E:St W0 wr (s.F++((t.b,t.om)::(C,.cells #[OI id,OT a] 259)::(i,.cells #[OI H,OI J,OI K,.map (some f),I] 256)::(f,R)::(Q++((A'.flatMap (·.F)++B'.flatMap (·.F))++(A.flatMap TbH.frag++(B.flatMap TbH.frag++(V++M))))))):=bf.o.pm λy=>by simp only[Zaa,xak,a5,ZaH,xa,ya,OI,OT,OQ];omega
      have aG:s∈t.rs:=by rw[a5];simp
      have an:=N.o.rows s aG;have bB:=aI.o s aG;obtain⟨sa,sc,aD,_⟩:=an.form;have ak:=an;rw[aD]at ak;obtain⟨aQ,bi,bu⟩:=Hi3 ak a5 an;have aL:s.l.length+1<=maxLen:=by unfold maxLen;omega
      have U:(s.l.length+1)*al<=140737488355328:=jI (Jg (show s.l.length+1<=1000001 by omega) bm) (by decide);have O:=Hi (λ(W:World) (F':va) (y:Value) (h:St W0 W (F'++((t.b,t.om)::((C,.cells #[OI id,OT a] 259)::(i,.cells #[OI H,OI J,OI K,.map (some f),I] 256)::(f,R)::(Q++((A'.flatMap (·.F)++B'.flatMap (·.F))++(A.flatMap TbH.frag++(B.flatMap TbH.frag++(V++M)))))))))=>Va.put (P:=prog) (k:=3) (e:=257) (t:=262) Qn underlying262 N.o.map N.o.mapKeys (h.pm (M':=(t.b,t.om)::(F'++((C,.cells #[OI id,OT a] 259)::(i,.cells #[OI H,OI J,OI K,.map (some f),I] 256)::(f,R)::(Q++((A'.flatMap (·.F)++B'.flatMap (·.F))++(A.flatMap TbH.frag++(B.flatMap TbH.frag++(V++M)))))))) CN) (x:=v) ⟨by omega,by omega⟩ y);have Z:=Hi (λ(W:World) (F':va) (omx:Obj) (h:St W0 W (F'++((t.b,omx)::((C,.cells #[OI id,OT a] 259)::(i,.cells #[OI H,OI J,OI K,.map (some f),I] 256)::(f,R)::(Q++((A'.flatMap (·.F)++B'.flatMap (·.F))++(A.flatMap TbH.frag++(B.flatMap TbH.frag++(V++M)))))))))=>show OV W i 4 (.slice (some ⟨gt,0,none⟩) n a4)/\OV W gt k (.map (some t.b))/\OV W C 0 (OI id)/\OV W C 1 (OT a)from⟨by rw[<-aw.o];exact h.appR.tail.tail.cellH 4,b1.o W (F'++((t.b,omx)::((C,.cells #[OI id,OT a] 259)::(i,.cells #[OI H,OI J,OI K,.map (some f),I] 256)::(f,R)::((A'.flatMap (·.F)++B'.flatMap (·.F))++(A.flatMap TbH.frag++(B.flatMap TbH.frag++(V++M))))))) (h.pm CN),h.appR.tail.cellH 0,h.appR.tail.cellH 1⟩);have ar:=(N.o.look (W:=wr.drew) E.drew.appR.get (v:=v) (by omega) (by omega)).2 A' s B' a5 aC;have au:=λob=>(N.o.look (W:=(wr.alloc ob).drew) (E.alloc ob).tail.drew.appR.get (v:=v) (by omega) (by omega)).2 A' s B' a5 aC
      have T:=Hi E;rw[aD]at ar au;unfold Zg at O;simp only[id_eq]at O;clear E a5 an ak aG aD;go_upto_region 15 with fail
      clear x0;go_region_held3 (λW=>W.cell? ⟨i,4,none⟩=some (.slice (some ⟨gt,0,none⟩) n a4)/\W.cell? ⟨gt,k,none⟩=some (.map (some t.b))/\W.cell? ⟨C,0,none⟩=some (.int .i64 id)/\W.cell? ⟨C,1,none⟩=some (.string ⟨a.toArray⟩)) (first|with_reducible exact Z.o _ _ _ ai.o|with_reducible exact Z.o _ _ _ a3.o|with_reducible exact Z.o _ _ _ T.o.drew|with_reducible exact Z.o _ _ _ (T.o.alloc _).tail.drew|with_reducible exact Z.o _ _ _ T.o|(go_keep;done)) (first|(refine Zn (W0:=W0) (by rfl) _ _ 257 (by rfl) 259 aY z 2 al underlying257 hi bb aV b2 b8 (by decide) (.slice sa s.l.length sc) (s.l.length) (s.l.flatMap QG) (s.F) _ (by rfl) aQ.o 1 wr.heap.size [OI id,OT a] ((T.o.alloc _).drew) (by rfl) (by rfl) (by intro u hu;simp at hu;rcases hu with rfl|rfl<;>rfl) (by decide) aL U ?_;intro g7 Y w7 F7 aj g;obtain⟨ac,W9,ah,a6,ae⟩:=O.o w7 F7 (.slice (some ⟨g7,0,none⟩) (s.l.length+1) Y) g;have a7:=ah;(try simp only[Jp]at a7);obtain⟨aJ,a3,aP⟩:=Hi3 aj g ae;have ai:=Hi (a6.pm (M':=F7++((t.b,ac)::((C,.cells #[OI id,OT a] 259)::(i,.cells #[OI H,OI J,OI K,.map (some f),I] 256)::(f,R)::(Q++((A'.flatMap (·.F)++B'.flatMap (·.F))++(A.flatMap TbH.frag++(B.flatMap TbH.frag++(V++M)))))))) CN);clear aj g a6 ae))
      all_goals(
       go_wp2_with fail;have aT:=aP.o;rw[<-aC]at aT;have ab:=TbH.putOld N.o bi.o aT (l:=s.l++[(id,a)]) (by rw[ja,jD];exact aJ.o);refine⟨⟨k+1,A++(⟨t.b,ac,A'++⟨s.key,.slice (some ⟨g7,0,none⟩) (s.l.length+1) Y,s.l++[(id,a)],F7⟩::B'⟩:TbH)::B,by omega,by go_num,HU.o.step bc.o rfl ab ?_,ai.o.pm λy=>?_⟩,by simp[intOf];omega⟩
       .intro r S;have a1:=aI.o;rw[bi.o]at a1;rcases jo.1 S with S|S
        .have:=a1 r (jx _ S);omega
        .rcases jp.1 S with rfl|S
         .have:=a1 s (by simp);simp;omega
         .have:=a1 r (by simp[S]);omega
       .simp only[Zaa,xak,ZaH,xa,ya,OI,OT,OQ];omega)
    .obtain rfl:k=n:=by omega
     have HU:=Hi hU;have bp:=Hi (q.pm (M':=(C,.cells #[OI id,OT a] 259)::(i,.cells #[OI H,OI J,OI K,.map (some f),I] 256)::(f,R)::(Q++(us.flatMap TbH.frag++(V++M)))) λy=>by simp only[xa,ya,OI,OT,OQ]);clear hU q;go_upto_region 17 with fail
     have E:=bp.o;have q:=E.pm (M':=(f,R)::(C,.cells #[OI id,OT a] 259)::(i,.cells #[OI H,OI J,OI K,.map (some f),I] 256)::(Q++(us.flatMap TbH.frag++(V++M)))) CN;obtain⟨a0,W7,a2,g,ad⟩:=Va.put (P:=prog) (k:=259) (e:=306) (t:=253) XE underlying253 HD.o.map HD.o.keys q.drew (x:=(id,a)) ⟨⟨by simp only;omega,by simp only;omega⟩,by have:=HC.o;simp only;omega⟩ (seq,G);obtain⟨aK,a3⟩:=Hi2 ad g;have k3:=q.tail.tail.cellH 3;obtain⟨k6,k7⟩:=q.tail.k2 0 1;unfold vo YR qa at a2;simp only at a2;clear E q g ad;go_still_tail 8,(by kernel_rfl);change wpList _ _ _ _ _ wr.drew;go_upto_region 18 with fail
     have g:=a3.o;have k2:=g.tail.tail.cellH 2;have f2:=g.tail.tail.freeH 2;have HX:=Hi ((g.pm (M':=(i,.cells #[OI H,OI J,OI K,.map (some f),I] 256)::(f,a0)::(C,.cells #[OI id,OT a] 259)::(Q++(us.flatMap TbH.frag++(V++M)))) CN).set 2 (OI seq));clear g a2 k3 k6 k7;go_wp2_with fail;go_ret;refine⟨rfl,⟨i,f,a0,H,J,seq,ye ws (id,a) (seq,G),I,Q,us⟩,rfl,rfl,rfl,rfl,rfl,aB.o us ?_ ?_ a0 aK.o,?_,HX.o.pmSub (D:=(C,.cells #[OI id,OT a] 259)::V) λy=>?_⟩
     .exact HU.o.bs
     .intro t ht;obtain⟨j,hj⟩:=JP.1 ht;obtain⟨g1,g2⟩:=HU.o.each j t hj;refine⟨g1,λr S=>?_⟩;have:=g2 r S;have a9:(id,a)∉ws.map (·.1):=Yg.1 (by
       cases hm:Zd ws (id,a)with
       |none=>rfl
       |some z=>have:=b5.o;rw[hm]at this;cases this)
      rw[Yy,jd a9];split at this<;>omega
     .show us.length=ts.length;have:=jT List.length HU.o.bs;simpa using this
     .unfold DlH.frag;simp only[jf,jj,ji,xa,ya,OI,OT,OQ,Ya];omega)
theorem zbn(d:DlH)(M:va)(seq id:Int)(a:Bs)(g:d.ok)(n:St U w (d.frag++M))(h:Xc d.w=true)(l:d.m=0\/(Ye d.w d.m=0/\0<d.m/\d.m<=128))(r:(a.length:Int)=d.w/8)(c:d.ts.length=max 1 d.m.toNat)
  (i:0<=id) (k:id<=281474976710656) (p:d.last<seq) (q:seq<=1152921504606846976) (e:(Zd d.words (id,a)).isSome=true\/d.words.length<65536) (f:d.words.length<=999999) :
  Calls prog 160 #[za d.b,OI seq,OI id,qa a] w (VI U d seq id a false M):=by
 have H:=Hi (xaX U w d M seq id a false g n h l r c i k p q e f);clear g n h l r c i k p q e f;unfold VI at *;unfold za qa at *;go_enter func160,ntmps160;go_wp2_with (go_at_call 219;refine MR H.o λt s=>?_);go_ret;exact⟨rfl,s.o⟩
theorem vbg(d:DlH)(M:va)(seq id:Int)(a:Bs)(g:d.ok)(n:St U w (d.frag++M))(h:Xc d.w=true)(l:d.m=0\/(Ye d.w d.m=0/\0<d.m/\d.m<=128))(r:(a.length:Int)=d.w/8)(c:d.ts.length=max 1 d.m.toNat)
  (i:0<=id) (k:id<=281474976710656) (p:d.last<seq) (q:seq<=1152921504606846976) (e:(Zd d.words (id,a)).isSome=true\/d.words.length<65536) (f:d.words.length<=999999) :
  Calls prog 158 #[za d.b,OI seq,OI id,qa a] w (VI U d seq id a true M):=by
 have H:=Hi (xaX U w d M seq id a true g n h l r c i k p q e f);clear g n h l r c i k p q e f;unfold VI at *;unfold za qa at *;go_enter func158,ntmps158;go_wp2_with (go_at_call 219;refine MR H.o λt s=>?_);go_ret;exact⟨rfl,s.o⟩
theorem yas:madeCells (Value.map none).cells c=(List.replicate c (Value.map none)).toArray:=by
 apply Array.ext
 .simp[madeCells]
 .intro i a b;simp[madeCells,Value.cells,Nat.mod_one]
theorem XaM(g:c<=100000)(W:World):(Instr.makeSlice 254 (OI (c:Int)) (OI (c:Int))).run prog W=.ok (.slice (some ⟨W.heap.size,0,none⟩) c c) (W.alloc (.cells (List.replicate c (Value.map none)).toArray 262)):=by
 have b:(prog.info? 262).map (λi=>(i.zero,i.size,i.bytes))=some (some (.map none),1,8):=by kernel_rfl
 obtain⟨i,e,f,a,d⟩:=Vs b;have:=Ki (P:=prog) W 254 262 i _ underlying254 e f .i64 .i64 (c:Int) (c:Int) (by omega) (by omega) (by rw[a];simp only[JL];omega) (by rw[d];omega) (by omega);rw[a,JL,JM,yas]at this;exact this
def vak(W0:World)(d:DlH)(M:va)(e:Ending)(w':World):Prop :=
 e=.returned (.tuple #[])/\∃d':DlH,d'.b=d.b/\d'.w=d.w/\d'.m=d.m/\d'.last=d.last/\d'.words=[]/\d'.ok/\d'.ts.length=max 1 d.m.toNat/\St W0 w' (d'.frag++M)
theorem Xa7(d:DlH)(M:va)(a:St U w (d.frag++M))(a4:0<=d.m)(a5:d.m<=128):
  Calls prog 108 #[za d.b] w (vak U d M):=by
 have a7:∀(t:TypeId) w,(Instr.makeMap t none).run prog w=.ok (.map (some w.heap.size)) (w.alloc (.map #[] 0)):=λt w=>kF _ w
 obtain⟨i,I,X,N,C,L,ws,tv,Y,V⟩:=d;unfold DlH.frag at a;simp only at *;obtain⟨n,hn⟩:=NE (max 1 C.toNat);obtain⟨a3,a1,a9⟩:max 1 C=(n:Int)/\n<=128/\1<=n:=by omega
 have HN:=Hi hn;have Q:=Hi (λW=>XaM n (by omega) W);obtain⟨E,A⟩:=EN ((I,X)::(Y++V.flatMap TbH.frag)++M);have p:St U w ((i,.cells #[OI N,OI C,OI L,.map (some I),tv] 256)::E):=by rw[A];exact a
 have R:=Hi (show ∀y,cntF y E=cntF y M+cntF y ((I,X)::(Y++V.flatMap TbH.frag))from λy=>by rw[A];simp only[xa,ya,OI,OT,OQ];omega);clear a hn A;have J:=((p.alloc (.map #[] 0)).swap.set 3 (.map (some w.heap.size)));have c3:(w.alloc (.map #[] 0)).cell? ⟨i,3,none⟩=some (.map (some I)):=(p.alloc (.map #[] 0)).tail.cellH 3;have f3:(w.alloc (.map #[] 0)).frozen? ⟨i,3,none⟩=false:=(p.alloc (.map #[] 0)).tail.freeH 3;have G:=Hi J;clear p J;unfold za;go_enter func108,ntmps108;go_upto_region 1 with fail
 obtain⟨B,hB⟩:=EN w.heap.size;have z:=G.o;rw[<-hB]at z;rw[<-hB];clear G c3 f3;refine z.nameC ?_;clear z;intro F a;have k1:=a.cellH 1;have v:=Q.o F;obtain⟨Z,T⟩:=NE ((List.replicate n (Value.map none)).toArray);rw[T]at v;have HZ:=Hi T;have q:=(a.alloc (.cells Z 262)).swap;have c4:=q.cellH 4;have f4:=q.freeH 4;have j:=Hi (q.set 4 (.slice (some ⟨F.heap.size,0,none⟩) n n));clear a q hB T;go_upto_region 2 with fail
 obtain⟨g,P⟩:=EN F.heap.size;have x:=j.o;rw[<-P]at x;rw[<-P];clear j c4 f4 v k1;refine x.nameC ?_;clear x;intro w3 a;have k4:=a.cellH 4;have j:=Hi a;have a8:(n:Int)<=128:=by omega
 clear a P;go_upto_region 3 with fail
 clear k4;go_loopw [21] (λiv wr=>∃(k:Nat) (e:List TbH),k<=n/\iv=OI (k:Int)/\e.length=k/\(∀u∈e,u.ok/\u.rs=[])/\St U wr ((i,.cells #[OI N,OI C,OI L,.map (some B),.slice (some ⟨g,0,none⟩) n n] 256)::(g,.cells ((e.map λt=>Value.map (some t.b))++List.replicate (n-k) (Value.map none)).toArray 262 (0,0))::(B,.map #[] 0)::(e.flatMap TbH.frag++E))) (λiv _=>n-(intOf iv).toNat)
 case atStart=>exact⟨0,[],jX _,rfl,rfl,by simp,by have:=j.o;rw[<-HZ.o]at this;exact this⟩
 case round =>
  clear j;obtain⟨k,e,hk,rfl,f,s,a⟩:=hrel;have a2:(0:Int)<=(k:Int):=by omega
  by_cases hlt:k<n
  .have a0:(k:Int)<(n:Int):=by omega
   have k4:=a.cellH 4;have O:=a.alloc (.map #[] 0);have a6:∀S,(wr.alloc S).cell? ⟨i,4,none⟩=some (.slice (some ⟨g,0,none⟩) n n):=λS=>(a.alloc S).tail.cellH 4
   have H:(((e.map λt=>Value.map (some t.b))++List.replicate (n-k) (Value.map none)).toArray)[k]?=some (.map none):=by
    simp only[List.getElem?_toArray];rw[Jl (by simp[f]),List.getElem?_replicate];simp[f];omega
   have g1:(wr.alloc (.map #[] 0)).cell? ⟨g,k,none⟩=some (.map none):=(O.tail.tail.cellH k).trans H;have g2:=O.tail.tail.freeH k;have HA:=Hi ((O.pm (M':=(g,.cells ((e.map λt=>Value.map (some t.b))++List.replicate (n-k) (Value.map none)).toArray 262 (0,0))::(i,.cells #[OI N,OI C,OI L,.map (some B),.slice (some ⟨g,0,none⟩) n n] 256)::(wr.heap.size,.map #[] 0)::(B,.map #[] 0)::(e.flatMap TbH.frag++E)) CN).set k (.map (some wr.heap.size)));obtain⟨l,c⟩:=Hi2 s f;clear a O H s f;go_wp2_with fail;refine⟨⟨k+1,e++[⟨wr.heap.size,.map #[] 0,[]⟩],by omega,by go_num,by simp[c.o],?_,?_⟩,by simp[intOf];omega⟩
   .intro t ht;rcases jo.1 ht with h|h
    .exact l.o t h
    .simp only[jC]at h;subst h;exact⟨⟨Va.empty,by simp,by simp⟩,rfl⟩
   .have K:(((e.map λt=>Value.map (some t.b))++List.replicate (n-k) (Value.map none)).toArray).setIfInBounds k (.map (some wr.heap.size))=(((e++[(⟨wr.heap.size,.map #[] 0,[]⟩:TbH)]).map λt=>Value.map (some t.b))++List.replicate (n-(k+1)) (Value.map none)).toArray:=by
     rw[jf,show n-k=(n-(k+1))+1 by omega,kJ,List.set_append_right _ _ (by simp[c.o])];simp[c.o]
    have:=HA.o;rw[K]at this;exact this.pm λy=>by simp only[jD,jB,Jk,TbH.frag,jJ,xa,ya,OI,OT,OQ,Ya];omega
  .obtain rfl:k=n:=by omega
   obtain⟨HS,l,c⟩:=Hi3 a s f;clear a s f;go_wp2_with fail;go_end0;have a:=HS.o;rw[Uk,kK,jJ]at a;refine⟨rfl,⟨i,B,.map #[] 0,N,C,L,[],.slice (some ⟨g,0,none⟩) k k,[(g,.cells (e.map λt=>Value.map (some t.b)).toArray 262 (0,0))],e⟩,rfl,rfl,rfl,rfl,rfl,⟨Va.empty,by simp,?_,λt h=>(l.o t h).1,by simp,λt h r hr=>by rw[(l.o t h).2]at hr;cases hr⟩,by rw[HN.o];exact c.o,a.pmSub (D:=(I,X)::(Y++V.flatMap TbH.frag)) λy=>?_⟩
   .have:=Rw.lit 262 1 e.length g (e.map λt=>Value.map (some t.b)).toArray (by simp) (by unfold maxLen;have:=c.o;omega);simp only at this|-
    rw[c.o]at this|-
    exact this
   .unfold DlH.frag;have:=R.o y;simp only[xa,ya,OI,OT,OQ,Ya]at this|-;omega
end Go.Proofs.YtekkihmmclencaaGreatDoor
