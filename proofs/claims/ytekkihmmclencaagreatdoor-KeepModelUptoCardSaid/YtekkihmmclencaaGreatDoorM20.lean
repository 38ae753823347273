import Derived.Test.YtekkihmmclencaaGreatDoorM19
namespace Go.Proofs.YtekkihmmclencaaGreatDoor
set_option linter.all false
set_option maxRecDepth 100000
set_option maxHeartbeats 40000000
open Tryz
open Go Go.RowKit Go.Sort
variable(U w:World)(c:Nat){k:Nat}{o:Op3}
def QP(o:Op3)(p:Pr)(ts us:List KtH)(k:Nat):Prop:=us.length=ts.length/\(∀j t u,ts[j]?=some t->us[j]?=some u->u.b=t.b/\u.ok/\u.tab=if j<k then vK t.tab (Yf o j p.code) p.id else t.tab)
theorem QP.zero(o:Op3)(p:Pr){a:List KtH}(h:∀t∈a,t.ok):QP o p a a 0:=⟨rfl,λj t u b c=>by rw[b]at c;cases c;exact⟨rfl,h t (Js b),by rw[jd (by omega)]⟩⟩
theorem QP.split{p:Pr}{d a:List KtH}(h:QP o p d a k)(e:k<d.length):∃A t B,a=A++t::B/\A.length=k/\t.ok/\t.b=d[k].b/\t.tab=d[k].tab:=by
 have c:k<a.length:=by rw[h.1];exact e
 refine⟨a.take k,a[k],a.drop (k+1),?_,by rw[jN];omega,?_⟩
 .rw[<-jR c,Ja]
 .have:=h.2 k d[k] a[k] (jt e) (jt c);exact⟨this.2.1,this.1,by rw[this.2.2,jd (by omega)]⟩
theorem QP.step{p:Pr}{l A B:List KtH}{t u:KtH}(h:QP o p l (A++t::B) k)(m:A.length=k)(s:u.b=t.b)(r:u.ok)(c:u.tab=vK t.tab (Yf o k p.code) p.id):QP o p l (A++u::B) (k+1):=by
 refine⟨by rw[<-h.1];simp,λj x y n a=>?_⟩;by_cases e:j=k
 .subst e;have g:(A++t::B)[j]?=some t:=by rw[Jl (by omega)];simp[m]
  have q:(A++u::B)[j]?=some u:=by rw[Jl (by omega)];simp[m]
  rw[q]at a;cases a;obtain⟨f,i,d⟩:=h.2 j x t n g;rw[jd (by omega)]at d;exact⟨s.trans f,r,by rw[jh (by omega),c,d]⟩
 .have g:(A++t::B)[j]?=some y:=by
   by_cases hj:j<A.length
   .rw[UN hj]at a|-;exact a
   .rw[Jl (by omega)]at a|-
    rw[show j-A.length=(j-A.length-1)+1 by omega]at a|-
    simpa using a
  obtain⟨f,i,d⟩:=h.2 j x y n g;exact⟨f,i,by rw[d];by_cases hjk:j<k<;>simp[hjk]<;>omega⟩
theorem QP.bs{p:Pr}{a c:List KtH}(h:QP o p a c k):(c.map λt=>Value.map (some t.b))=a.map λt=>Value.map (some t.b):=by
 refine KY (by simp[h.1]) λj d e=>?_
 simp only[jz]at d e;have:=h.2 j a[j] c[j] (jt e) (jt d);simp[this.1]
theorem QY(ids:List Int)(i:Int):Zi (ids.map λi=>(i,())) i=(ids.filter λy=>decide (y≠i)).map λi=>(i,()):=by
 unfold Zi;rw[List.filter_map];rfl
theorem KtH.delKeep{t:KtH}(h:t.ok){v i:Int}{A B:List XI}{s:XI}(e:t.ss=A++s::B)(k:s.key=v)(c:s.ids.filter (λy=>decide (y≠i))≠[]){d:Obj}(g:Va Zg yD d (Zi (s.ids.map λi=>(i,())) i)):
  (⟨t.b,t.om,A++⟨v,s.b,d,s.ids.filter λy=>decide (y≠i)⟩::B⟩:KtH).ok/\(⟨t.b,t.om,A++⟨v,s.b,d,s.ids.filter λy=>decide (y≠i)⟩::B⟩:KtH).tab=vK t.tab v i:=by
 subst k;rw[QY]at g;have f:Zd t.tab s.key=some s.ids:=qg h.keysT (by unfold KtH.tab;rw[e];simp);refine⟨⟨?_,?_,?_⟩,?_⟩
 .have:=h.map;rw[e]at this;simpa using this
 .intro x a;have:=h.keys;rw[e]at this;rcases jo.1 a with a|a
  .exact this x (jx _ a)
  .rcases jp.1 a with rfl|a
   .exact this s (by simp)
   .exact this x (by simp[a])
 .intro x a;have:=h.sets;rw[e]at this;rcases jo.1 a with a|a
  .exact this x (jx _ a)
  .rcases jp.1 a with rfl|a
   .exact⟨g,λy l=>(this s (by simp)).keys y (Jf.1 l).1⟩
   .exact this x (by simp[a])
 .unfold vK;rw[f];simp only;rw[jd c];have j:t.tab[A.length]?=some (s.key,s.ids):=by unfold KtH.tab;rw[e];simp
  have:=ZU h.keysT j (s.ids.filter λy=>decide (y≠i));rw[this];unfold KtH.tab;rw[e];simp
theorem KtH.delDrop{t:KtH}(h:t.ok){v i:Int}{A B:List XI}{s:XI}(e:t.ss=A++s::B)(n:s.key=v)(d:s.ids.filter (λy=>decide (y≠i))=[]){f:Obj}(g:Va Zg (λb:Nat=>.map (some b)) f (Zi (t.ss.map λs=>(s.key,s.b)) v)):
  (⟨t.b,f,A++B⟩:KtH).ok/\(⟨t.b,f,A++B⟩:KtH).tab=vK t.tab v i:=by
 subst n;have j:Zd t.tab s.key=some s.ids:=qg h.keysT (by unfold KtH.tab;rw[e];simp);have m:t.tab[A.length]?=some (s.key,s.ids):=by unfold KtH.tab;rw[e];simp
 have k:(t.ss.map λs=>(s.key,s.b))[A.length]?=some (s.key,s.b):=by rw[e];simp
 have c:=YU h.keysB k;simp only at c;rw[c,e]at g;refine⟨⟨?_,?_,?_⟩,?_⟩
 .rw[jr,ju,Kd (by simp)]at g;simpa using g
 .intro x a;have:=h.keys;rw[e]at this;rcases jo.1 a with a|a
  .exact this x (jx _ a)
  .exact this x (by simp[a])
 .intro x a;have:=h.sets;rw[e]at this;rcases jo.1 a with a|a
  .exact this x (jx _ a)
  .exact this x (by simp[a])
 .unfold vK;rw[j];simp only;rw[jh d];have l:=YU h.keysT m;simp only at l;rw[l];unfold KtH.tab;rw[e];show List.map _ (A++B)=_;rw[jr,jr,ju,Kd (by simp)];simp
theorem ybn(Q:Array Value)(o:Op3)(P:List Pr)(x:LvH)(M:va)(p:Pr)
  (d:St U w ((c,.cells Q 82)::(x.frag++M))) (hx:x.ok o P) (ho:Qb o=0)
  (c3:Q[3]?=some (OI o.width)) (c4:Q[4]?=some (OI o.chunks)) (bb:Q[15]?=some (.map (some x.bl))) (aW:Q[16]?=some (.map (some x.bc))) (b2:Q[17]?=some x.tv)
  (hP:∀q∈P,0<=q.id/\q.id<=281474976710656/\(q.code.length:Int)=o.width/8) (hp:0<=p.id/\p.id<=281474976710656/\(p.code.length:Int)=o.width/8) (hn:(P.map (·.id)).Nodup) (hm:p∈P) (hl:P.length<=1000000000) :
  Calls prog 159 #[za c,.agg #[OI p.id,qa p.code]] w (ZaA U c Q o (P.filter (λx=>decide (x.id≠p.id))) x M):=by
 obtain⟨p0,p1,p2⟩:=hp;obtain⟨g1,g2⟩:=yf ho;obtain⟨w0,w1,w2⟩:=Xd.1 g1;have hA:=(d.alloc (.cells #[OI p.id,qa p.code] 86)).pm (M':=(x.bl,x.ol)::(w.heap.size,.cells #[OI p.id,qa p.code] 86)::(c,.cells Q 82)::(x.bc,x.oc)::(x.Ft++(x.ts.flatMap KtH.frag++M))) λy=>by unfold LvH.frag;simp only[xa,ya,OI,OT,OQ];omega
 obtain⟨C,hC⟩:=EN w.heap.size;rw[<-hC]at hA;obtain⟨HA,HC,J,HP,HN⟩:=Hi5 hA hC hx hP hn;obtain⟨ay,bh,bg,be,a6⟩:=Hi5 hm c3 c4 bb aW;obtain⟨b7,HO,bp,aU⟩:=Hi4 b2 ho hl p2;obtain⟨l,a⟩:=p;simp only at *;clear hA hC d hx hP hn hm c3 c4 bb aW b2 ho hl p2 g1 g2;unfold za qa at *;go_enter func159,ntmps159;go_upto_region 1 with fail
 rw[<-HC.o];refine HA.o.nameC ?_;clear HA HC;intro w1 d;have d0:OV w1 c 15 (.map (some x.bl)):=(d.tail.tail.cellH 15).trans be.o;obtain⟨d1,d2⟩:=d.tail.k2 0 1;obtain⟨H,W1,f,E,Z⟩:=Va.del (P:=prog) (k:=3) (e:=108) (t:=78) Qn underlying78 J.o.lmap (by
  intro q hq;obtain⟨q',bt,e⟩:=jg.1 (J.o.lperm.mem_iff.1 hq);have:=HP.o q' bt;rw[<-e];simp only;omega) d.drew (x:=l) (by omega) 0
 have bD:=Hi Z;have a9:=E.pm (M':=(x.bc,x.oc)::(C,.cells #[OI l,OT a] 86)::(c,.cells Q 82)::(x.bl,H)::(x.Ft++(x.ts.flatMap KtH.frag++M))) CN;have g:=Hi a9;clear d E a9 Z;unfold Zg at f;go_still_tail 6,(by kernel_rfl);change wpList _ _ _ _ _ w1.drew;go_upto_region 2 with fail
 refine g.o.nameC ?_;clear g f d0 d1 d2;intro w2 d;have d0:OV w2 c 16 (.map (some x.bc)):=(d.tail.tail.cellH 16).trans a6.o;have d2:=d.tail.cellH 1;have a3:=Zl.get J.o.cok a;have bF:=QaU P a;have bo:=xaj P a;have bx:=bp.o;have aj:∀q∈x.codes,q.1.length<=maxLen:=by
  intro q hq;obtain⟨q1,q2⟩:=q;have h1:=(J.o.cok.says q1 q2).1 hq;unfold cnt at h1;have h2:P.filter (λx=>decide (x.code=q1))≠[]:=λe=>by rw[e]at h1;simp at h1;omega
  obtain⟨z,hz⟩:=kQ _ h2;obtain⟨bz,b5⟩:=Jf.1 hz;have:=HP.o z bz;simp only[jG]at b5;rw[b5]at this;show q1.length<=maxLen;unfold maxLen;omega
 have R:a.length<=maxLen:=by have:=aU.o;unfold maxLen;omega
 have a4:=Va.look (P:=prog) (k:=9) (e:=3) (t:=79) encStr underlying79 J.o.cmap aj d.drew.get (x:=a) R false;have b4:(Instr.lookup 79 (.map (some x.bc)) (OT a) false).run prog w2.drew=.ok (OI (cnt P a)) w2.drew:=by
  cases hm:Zd x.codes a with
  |none =>
   have h1:=a4.2 hm _ (yaX w2.drew);rw[hm]at a3;have h3:cnt P a=0:=by have:=a3.1;simp at this;omega
   rw[h3];simpa [qa] using h1
  |some n =>
   have h1:=a4.1 n hm;rw[hm]at a3;have h3:n=cnt P a:=by simpa using a3.1
   rw[<-h3];simpa [qa,Zg] using h1
 have al:=Zl.del J.o.cok HN.o ay.o;simp only at al;obtain⟨r,bn⟩:=al;have a2:=Hi r;obtain⟨bv,W2,f,E,Z⟩:=Va.put (P:=prog) (k:=9) (e:=3) (t:=79) encStr underlying79 J.o.cmap aj d.drew (x:=a) R (IntKind.i64.wrap (cnt P a-1));have aB:IntKind.i64.wrap (cnt P a-1)=cnt P a-1:=J1 _ (by omega);rw[aB]at f Z;have S:=Hi Z;have F:=Hi (show ∀q∈ye x.codes a (cnt P a-1),q.1.length<=maxLen from λq hq=>by
  rcases Yi.1 hq with rfl|⟨hq,_⟩
  .exact R
  .exact aj q hq)
 have a8:=Hi (show Zd (ye x.codes a (cnt P a-1)) a=some (cnt P a-1) by rw[qU J.o.cmap.nodup,jh rfl]);obtain⟨X,g⟩:=Hi2 R E;obtain⟨cn,ao⟩:=EN (cnt P a);rw[<-ao]at b4 f aB a2 S F a8;unfold Zg qa at f;obtain⟨bM,bL⟩:1<=cn/\cn<=1000000000:=by omega
 obtain⟨ai,an⟩:=NE (ye x.codes a (cn-1));rw[an]at S F a8 a2;clear d E Z a4 aj a3 bF bo bx R ao r bn an;go_still_tail 8,(by kernel_rfl);change wpList _ _ _ _ _ w2.drew;go_upto_region 3 with fail
 refine g.o.nameC ?_;clear g f b4 aB d0 d2;intro w3 d;have d0:OV w3 c 16 (.map (some x.bc)):=(d.tail.tail.cellH 16).trans a6.o;have d2:=d.tail.cellH 1;have a5:=(Va.look (P:=prog) (k:=9) (e:=3) (t:=79) encStr underlying79 S.o F.o d.drew.get (x:=a) X.o false).1 _ a8.o;simp only[JD,Jb]at a5;unfold Zg qa at a5;have g:=Hi d;clear d;have G:Hy (cn=1\/cn≠1):=Hi (by omega);rcases G.o with aD|aD
 focus
  have af:cn-1=0:=by omega
  rw[af]at a5;have r:=a2.o;rw[jh aD]at r;go_still_tail 7,(by kernel_rfl);change wpList _ _ _ _ _ w3.drew;go_upto_region 4 with fail
  have d:=g.o.drew;obtain⟨w4,aL⟩:=EN w3.drew;rw[<-aL]at d|-
  clear aL d0 d2 a5 g;have d0:OV w4 c 16 (.map (some x.bc)):=(d.tail.tail.cellH 16).trans a6.o;have d2:=d.tail.cellH 1;obtain⟨m,W4,f,a9,aY⟩:=Va.del (P:=prog) (k:=9) (e:=3) (t:=79) encStr underlying79 S.o F.o d.drew (x:=a) X.o 0;obtain⟨ac,T,g⟩:=Hi3 aY r a9;unfold qa at f;clear d a9 aY r;go_still_tail 6,(by kernel_rfl);change wpList _ _ _ _ _ w4.drew;go_upto_region 5 with fail
  refine g.o.nameC ?_;obtain⟨a0,N⟩:=NE (Zi ai a);rw[N]at ac T;clear g f d0 d2 N af a2 S F a8 X G;intro w3 O
 rotate_left
 focus
  have af:¬ (cn-1=0):=by omega
  have r:=a2.o;rw[jd aD]at r;go_still_tail 7,(by kernel_rfl);change wpList _ _ _ _ _ w3.drew;have ac:=S;have T:=Hi r;clear r;go_upto_region 5 with fail
  refine g.o.drew.nameC ?_;obtain⟨a0,N⟩:=NE ai;rw[N]at ac T;obtain⟨m,aa⟩:=NE bv;rw[aa]at ac g;clear g a5 d0 d2 N af a2 S F a8 X G;intro w3 O;rw[aa]at O;clear aa
 all_goals(
  have d:=O.pm (M':=(c,.cells Q 82)::(C,.cells #[OI l,OT a] 86)::(x.bl,H)::(x.bc,m)::(x.Ft++(x.ts.flatMap KtH.frag++M))) CN;clear O;have d2:=d.tail.cellH 1;have HV:=Hi (zas U w3 c Q _ o a d bh.o bg.o HO.o aU.o);have HS:=Hi d;clear d;unfold vl za qa at HV;have aH:(vm o a).length=x.ts.length:=by rw[zS,J.o.tlen]
  have ax:=Hi (show ∀k,k<x.ts.length->(vm o a)[k]?=some (Yf o k a)from λk h=>V5 (by rw[<-J.o.tlen];exact h));obtain⟨L,hL⟩:=NE (vm o a);rw[hL]at HV aH ax;have bA:=Hi aH;have aO:Qd o<=128:=by
   obtain⟨_,h⟩:=yf HO.o;unfold Qd;split<;>omega
  have bw:x.ts.length<=128:=by rw[J.o.tlen];exact aO
  clear hL aO aH;obtain⟨n,ad⟩:=NE x.ts.length;rw[ad]at bw;have az:L.length=n:=bA.o.trans ad;rw[az]at HV;rw[ad]at ax;obtain⟨I,bq⟩:=Hi2 ad az;clear ad az;go_upto_region 6 with(go_at_call 151;refine HV.o.mono ?_;rintro e' w4 ⟨v4,F4,rfl,aJ,ba⟩;have aS:=HS.o.call ba;obtain⟨b1,bf⟩:=Hi2 aS aJ;obtain⟨av,cv,rfl,aX,br,_⟩:=aJ.form;clear aJ ba aS)
  obtain⟨bJ,bR⟩:(n:Int)<=(cv:Int)/\(n:Int)<=128:=by omega
  clear d2 HV HS aX br;go_loopw [39] (λiv wr=>∃(k:Nat) (us:List KtH),k<=n/\iv=OI (k:Int)/\QP o ⟨l,a⟩ x.ts us k/\St U wr ((c,.cells Q 82)::(C,.cells #[OI l,OT a] 86)::(x.bl,H)::(x.bc,m)::(x.Ft++(us.flatMap KtH.frag++(F4++M))))) (λiv _=>n-(intOf iv).toNat)
  case atStart=>exact⟨0,x.ts,jX _,rfl,QP.zero o ⟨l,a⟩ J.o.tabs,b1.o.pm CN⟩
  case round =>
   clear b1;obtain⟨k,us,hk,rfl,hU,d⟩:=hrel;have bQ:(0:Int)<=(k:Int):=by omega
   by_cases hlt:k<n
   .have bS:(k:Int)<(n:Int):=by omega
    obtain⟨A,t,B,rfl,aZ,a7,ae,aT⟩:=hU.split (show k<x.ts.length by rw[I.o];exact hlt);obtain⟨v,ah⟩:=EN (Yf o k a);have hv:=ax.o k hlt;rw[<-ah]at hv;have b9:0<=v/\v<=8589934592:=by rw[ah];exact xX HO.o k a
    obtain⟨bT,aX⟩:=b9;have aI:=J.o.trow;obtain⟨gv,bO,bu,aV⟩:=bf.o.cells (M:=(c,.cells Q 82)::(C,.cells #[OI l,OT a] 86)::(x.bl,H)::(x.bc,m)::(x.Ft++((A++t::B).flatMap KtH.frag++M))) (d.pm CN) (by intro e;have:=jT List.length e;simp[xg,bq.o]at this;omega);injection bu with e1 e2 e3
    subst e1;subst e3;have x0:OV wr gv k (OI v):=aV k _ (by unfold xg;rw[jZ,hv];rfl);obtain⟨gt,au,ag,aq⟩:=aI.cells (M:=(c,.cells Q 82)::(C,.cells #[OI l,OT a] 86)::(x.bl,H)::(x.bc,m)::((A++t::B).flatMap KtH.frag++(F4++M))) (d.pm CN) (by intro e;have:=jT List.length e;simp[I.o]at this;omega);have x1:OV wr gt k (.map (some t.b)):=aq k _ (by rw[jZ,jt (by rw[I.o];exact hlt),JE,ae]);have V:=b7.o;rw[ag,I.o]at V;have x2:OV wr c 17 (.slice (some ⟨gt,0,none⟩) n au):=(d.cellH 17).trans V;have bG:(n:Int)<=(au:Int):=by
     obtain⟨bU,bH,e,h1,_⟩:=aI.form;rw[ag]at e;injection e with _ _ e;rw[I.o]at h1;omega
    have aN:∀W M',St U W (x.Ft++M')->OV W gt k (.map (some t.b)):=λW M' h=>by
     have aQ:=J.o.trow;rw[ag]at aQ;exact aQ.cellAt h (by rw[jZ,jt (by rw[I.o];exact hlt),JE,ae])
    obtain⟨bi,aK,aE,bj,bP⟩:=Hi5 aN V ah aT ae;obtain⟨b8,HU,a1⟩:=Hi3 aZ hU a7;have ak:St U wr ((t.b,t.om)::(c,.cells Q 82)::(C,.cells #[OI l,OT a] 86)::(x.bl,H)::(x.bc,m)::(x.Ft++((t.ss.map λs=>(s.b,s.om))++(A.flatMap KtH.frag++(B.flatMap KtH.frag++(F4++M)))))):=d.pm λy=>by simp only[zx,yx,xa,ya,OI,OT,OQ];omega
    have a4:=a7.look ak.get (v:=v) (by omega) (by omega);clear aV aq ag aN aI V hU aZ ae aT ah hv a7 d;have bE:∃A' s B',t.ss=A'++s::B'/\s.key=v/\l∈s.ids:=by
     have hT:=J.o.tok k (x.ts[k]'(by rw[I.o];exact hlt)) (jt (by rw[I.o];exact hlt));obtain⟨ids,h1,h2⟩:=(hT.says v l).2 ⟨⟨l,a⟩,ay.o,rfl,aE.o.symm⟩;rw[<-bj.o]at h1;obtain⟨s,hs,e⟩:=jg.1 h1;simp only[Je]at e;obtain⟨A',B',e2⟩:=JU hs;exact⟨A',s,B',e2,e.1,by rw[e.2];exact h2⟩
    obtain⟨A',s,B',ab,ar,bV⟩:=bE;have O:=ak;have bW:=Hi ak;rw[ab]at O;have E:St U wr ((s.b,s.om)::(t.b,t.om)::(c,.cells Q 82)::(C,.cells #[OI l,OT a] 86)::(x.bl,H)::(x.bc,m)::(x.Ft++((A'.map λs=>(s.b,s.om))++((B'.map λs=>(s.b,s.om))++(A.flatMap KtH.frag++(B.flatMap KtH.frag++(F4++M))))))):=O.pm λy=>by simp only[YK,xa,ya,OI,OT,OQ];omega
    have x3:=E.tail.tail.tail.cellH 0;have aw:s∈t.ss:=by rw[ab];simp
    have aC:=a1.o.sets s aw;have ap:=Hi (λ(W:World) (h:W.heap[t.b]?=some t.om)=>(a1.o.look h (v:=v) (by omega) (by omega)).2 A' s B' ab ar);obtain⟨aG,W8,f,K,b0⟩:=Va.del (P:=prog) (k:=3) (e:=150) (t:=110) Qn underlying110 aC.map (by
     intro q hq;obtain⟨i,hi,rfl⟩:=jg.1 hq;exact aC.keys i hi) E.drew (x:=l) (by omega) 0
    obtain⟨b6,aF,bd,bN⟩:=Hi4 b0 K ab aw;have aP:=ap.o wr.drew E.tail.drew.get;unfold Zg at f;clear O E K b0 aC ab aw a4 ak;go_upto_region 8 with fail
    clear x0;go_still_tail 11,(by kernel_rfl);change wpList _ _ _ _ _ wr.drew;go_upto_region 9 with fail
    clear f aP x1 x2 x3;have K:=aF.o;have x2:OV W8 c 17 (.slice (some ⟨gt,0,none⟩) n au):=(K.tail.tail.cellH 17).trans aK.o;have x1:OV W8 gt k (.map (some t.b)):=bi.o W8 ((s.b,aG)::(t.b,t.om)::(c,.cells Q 82)::(C,.cells #[OI l,OT a] 86)::(x.bl,H)::(x.bc,m)::((A'.map λs=>(s.b,s.om))++((B'.map λs=>(s.b,s.om))++(A.flatMap KtH.frag++(B.flatMap KtH.frag++(F4++M)))))) (K.pm CN);have bK:=ap.o W8 K.tail.get;have am:=Va.len (P:=prog) (k:=3) (e:=150) (t:=110) underlying110 b6.o K.get 3;rw[QY,jz]at am;have aA:=Hi (show s.ids.filter (λy=>decide (y≠l))=[]<->(s.ids.filter (λy=>decide (y≠l))).length=0 from List.length_eq_zero_iff.symm);obtain⟨ln,aR⟩:=NE ((s.ids.filter (λy=>decide (y≠l))).length);rw[aR]at am aA;clear K aR;by_cases hem:ln=0
    .subst hem;obtain⟨bm,W9,f,aM,b3⟩:=Va.del (P:=prog) (k:=3) (e:=110) (t:=111) Qn underlying111 a1.o.map a1.o.mapKeys aF.o.swap (x:=v) (by omega) 0;obtain⟨bC,bB⟩:=Hi2 b3 aM;unfold Zg at f;clear aM b3;go_wp2_with fail;obtain⟨n1,n2⟩:=KtH.delDrop a1.o (v:=v) (i:=l) bd.o ar (aA.o.2 rfl) bC.o;refine⟨⟨k+1,A++(⟨t.b,bm,A'++B'⟩:KtH)::B,by omega,by go_num,HU.o.step b8.o rfl n1 (by rw[n2,<-aE.o]),bB.o.pmSub (D:=[(s.b,aG)]) λy=>?_⟩,by simp[intOf];omega⟩;simp only[zx,yx,jr,xa,ya,OI,OT,OQ,Ya];omega
    .have bI:¬ ((ln:Int)=0):=by omega
     go_wp2_with fail;obtain⟨n1,n2⟩:=KtH.delKeep a1.o (v:=v) (i:=l) bd.o ar (λe=>hem (aA.o.1 e)) b6.o;refine⟨⟨k+1,A++(⟨t.b,t.om,A'++⟨v,s.b,aG,s.ids.filter λy=>decide (y≠l)⟩::B'⟩:KtH)::B,by omega,by go_num,HU.o.step b8.o rfl n1 (by rw[n2,<-aE.o]),aF.o.pm λy=>?_⟩,by simp[intOf];omega⟩;simp only[zx,yx,YK,xa,ya,OI,OT,OQ];omega
   .obtain rfl:k=n:=by omega
    obtain⟨HU,HS⟩:=Hi2 hU d;clear hU d;go_wp2_with fail;go_end0;have bk:=HU.o.bs;refine⟨rfl,⟨x.bl,H,x.bc,m,x.tv,x.Ft,us,Zi x.live l,a0⟩,rfl,rfl,rfl,⟨bD.o,?_,ac.o,T.o,?_,?_,?_,?_⟩,?_⟩
    .have:=J.o.lperm.filter (λe=>decide (e.1≠l));rw[List.filter_map]at this;exact this
    .have:=J.o.trow;rw[bk,HU.o.1];exact this
    .intro u hu;obtain⟨j,hj⟩:=JP.1 hu;have Y:j<x.ts.length:=by rw[<-HU.o.1];exact(jV.1 hj).1
     exact(HU.o.2 j _ u (jt Y) hj).2.1
    .rw[<-J.o.tlen];exact HU.o.1
    .intro j u hu;have Y:j<x.ts.length:=by rw[<-HU.o.1];exact(jV.1 hu).1
     have h3:=HU.o.2 j _ u (jt Y) hu;rw[h3.2.2,jh (by rw[I.o]at Y;exact Y)];exact(J.o.tok j _ (jt Y)).del HN.o ay.o
    .refine HS.o.pmSub (D:=(C,.cells #[OI l,OT a] 86)::F4) λy=>?_
     unfold LvH.frag;simp only[xa,ya,OI,OT,OQ];omega)
theorem VaM(g:c<=100000)(W:World):(Instr.makeSlice 80 (OI (c:Int)) (OI (c:Int))).run prog W=.ok (.slice (some ⟨W.heap.size,0,none⟩) c c) (W.alloc (.cells (List.replicate c (Value.map none)).toArray 111)):=by
 have b:(prog.info? 111).map (λi=>(i.zero,i.size,i.bytes))=some (some (.map none),1,8):=by kernel_rfl
 obtain⟨i,e,f,a,d⟩:=Vs b;have:=Ki (P:=prog) W 80 111 i _ underlying80 e f .i64 .i64 (c:Int) (c:Int) (by omega) (by omega) (by rw[a];simp only[JL];omega) (by rw[d];omega) (by omega);rw[a,JL,JM,yas]at this;exact this
theorem Yaf(h:Qb o=0):Qd o=max 1 o.chunks.toNat/\Qd o<=128:=by
 obtain⟨a,b⟩:=yf h;obtain⟨d,c,e⟩:=Xd.1 a;unfold Qd;split<;>omega
def QaM(W0:World)(b:Nat)(o:Op3)(a0 a1 a2 a5 a6 a7 a8 a9 a10 a11 a14:Value)(M:va)(e:Ending)(w':World):Prop :=
 e=.returned (.tuple #[])/\∃(d:DlH) (x:LvH),d.w=o.width/\d.m=o.chunks/\d.last=0/\d.words=[]/\d.ok/\d.ts.length=max 1 o.chunks.toNat/\x.ok o [] /\
  St W0 w' ((b,.cells #[a0,a1,a2,.int .i64 o.width,.int .i64 o.chunks,a5,a6,a7,a8,a9,a10,a11,.slice none 0 0,za d.b,a14,.map (some x.bl),.map (some x.bc),x.tv] 82 (0,0))::(d.frag++(x.frag++M)))
theorem Va7(o:Op3)(a0 a1 a2 a5 a6 Y X a9 p q a4 S m R I N:Value)(M:va)(ho:Qb o=0)
  (a:St U w ((c,.cells #[a0,a1,a2,OI o.width,OI o.chunks,a5,a6,Y,X,a9,p,q,a4,S,m,R,I,N] 82)::M)) :
  Calls prog 80 #[za c] w (QaM U c o a0 a1 a2 a5 a6 Y X a9 p q m M):=by
 have aw:∀(t:TypeId) w,(Instr.makeMap t none).run prog w=.ok (.map (some w.heap.size)) (w.alloc (.map #[] 0)):=λt w=>kF _ w
 obtain⟨g1,g2⟩:=yf ho;obtain⟨ae,ag⟩:=Yaf ho;have Q:o.chunks=0\/(Ye o.width o.chunks=0/\0<o.chunks/\o.chunks<=128):=by
  rcases g2 with⟨_,c0⟩|⟨m1,_⟩
  .exact .inl c0
  .exact .inr (zo ho m1)
 have H:=Hi (λW=>Zbm W o.width o.chunks g1 Q);have ap:=Hi (show ∀k,k=Qd o->True from λ_ _=>trivial);obtain⟨n,hn⟩:=NE (Qd o);have az:0<=o.chunks:=by rcases Q with h|⟨_,h,_⟩<;>omega
 have ax:max 1 o.chunks=(n:Int):=by omega
 rw[hn]at ag;obtain⟨HN,au⟩:=Hi2 hn ae;have ao:=Hi (λW=>VaM n (by omega) W);obtain⟨K,D,om⟩:=o;simp only at *;clear hn ae g1 g2 Q ho ap;have am:=a.cellH 12;have ai:=a.freeH 12;have i:=Hi (a.set 12 (.slice none 0 0));clear a;unfold qaz za at H;unfold za;go_enter func80,ntmps80;go_upto_region 1 with fail
 refine i.o.nameC ?_;clear i am ai;intro w1 a;simp only[jf,jj,ji]at a;have aa:OV w1.drew c 3 (OI K)/\OV w1.drew c 4 (OI D):=⟨a.drew.cellH 3,a.drew.cellH 4⟩;obtain⟨a3,i⟩:=Hi2 aa a;have af:=Hi (λ(W:World) (F:va) (h:St w1.drew W F)=>show(OV W c 3 (OI K)/\OV W c 4 (OI D))/\(OV W c 13 S/\OZ W c 13)/\(∀v,(W.setCell ⟨c,13,none⟩ v).cell? ⟨c,3,none⟩=some (OI K)/\(W.setCell ⟨c,13,none⟩ v).cell? ⟨c,4,none⟩=some (OI D))from by
  have V:=(a.drew.call h).appR;exact⟨⟨V.cellH 3,V.cellH 4⟩,⟨V.cellH 13,V.freeH 13⟩,λv=>⟨(V.set 13 v).cellH 3,(V.set 13 v).cellH 4⟩⟩)
 clear a aa;have G:=Hi (H.o w1.drew);go_region_held3 (λW=>W.cell? ⟨c,3,none⟩=some (.int .i64 K)/\W.cell? ⟨c,4,none⟩=some (.int .i64 D)) (first|with_reducible exact q7.2.2 _|with_reducible exact q7.1|with_reducible exact a3.o|(go_keep;done)) (first|(go_at_call 129;refine G.o.mono ?_;rintro e' w5 ⟨d,rfl,n1,n2,n3,n4,n5,n6,J⟩;have q7:=af.o _ _ J;obtain⟨q8,q9⟩:=q7.2.1;have ad:=Hi (i.o.drew.call J);obtain⟨N1,N2,N3,N4,N5⟩:=Hi5 n1 n2 n3 n4 n5;have N6:=Hi n6;clear n1 n2 n3 n4 n5 n6 J));have hX:=(ad.o.pm (M':=(c,.cells #[a0,a1,a2,OI K,OI D,a5,a6,Y,X,a9,p,q,.slice none 0 0,S,m,R,I,N] 82)::(d.frag++M)) CN).set 13 (OQ d.b);simp only[jf,jj,ji]at hX;refine St.nameE (P:=prog) hX ?_;clear hX ad af a3 i H G q7 q8 q9;intro w2 a;have aq:(w2.alloc (.map #[] 0)).cell? ⟨c,15,none⟩=some R:=(a.alloc (.map #[] 0)).tail.cellH 15;have al:(w2.alloc (.map #[] 0)).frozen? ⟨c,15,none⟩=false:=(a.alloc (.map #[] 0)).tail.freeH 15;have i:=Hi ((a.alloc (.map #[] 0)).swap.set 15 (.map (some w2.heap.size)));clear a;go_upto_region 3 with fail
 obtain⟨B,L⟩:=EN w2.heap.size;have A:=i.o;rw[<-L]at A;rw[<-L];simp only[jf,jj,ji]at A;clear i aq al L;refine A.nameC ?_;clear A;intro w3 a;have ak:(w3.alloc (.map #[] 0)).cell? ⟨c,16,none⟩=some I:=(a.alloc (.map #[] 0)).tail.cellH 16;have ah:(w3.alloc (.map #[] 0)).frozen? ⟨c,16,none⟩=false:=(a.alloc (.map #[] 0)).tail.freeH 16;have i:=Hi ((a.alloc (.map #[] 0)).swap.set 16 (.map (some w3.heap.size)));clear a;go_upto_region 4 with fail
 obtain⟨O,L⟩:=EN w3.heap.size;have A:=i.o;rw[<-L]at A;rw[<-L];simp only[jf,jj,ji]at A;clear i ak ah L;refine A.nameC ?_;clear A;intro T a;have k4:=a.cellH 4;have E:=ao.o T;obtain⟨Z,hZ⟩:=NE ((List.replicate n (Value.map none)).toArray);rw[hZ]at E;have HZ:=Hi hZ;have x:=(a.alloc (.cells Z 111)).swap;have an:=x.cellH 17;have aj:=x.freeH 17;have r:=Hi (x.set 17 (.slice (some ⟨T.heap.size,0,none⟩) n n));clear a x hZ;go_upto_region 5 with fail
 obtain⟨g,hg⟩:=EN T.heap.size;have s:=r.o;rw[<-hg]at s;rw[<-hg];simp only[jf,jj,ji]at s;clear r an aj E k4 hg;refine s.nameC ?_;clear s;intro w5 a;have ar:=a.cellH 17;have r:=Hi a;have ay:(n:Int)<=128:=by omega
 clear a;go_upto_region 6 with fail
 clear ar;go_loopw [46] (λiv wr=>∃(k:Nat) (e:List KtH),k<=n/\iv=OI (k:Int)/\e.length=k/\(∀u∈e,u.ok/\u.ss=[])/\St U wr ((c,.cells #[a0,a1,a2,OI K,OI D,a5,a6,Y,X,a9,p,q,.slice none 0 0,OQ d.b,m,.map (some B),.map (some O),.slice (some ⟨g,0,none⟩) n n] 82)::(g,.cells ((e.map λt=>Value.map (some t.b))++List.replicate (n-k) (Value.map none)).toArray 111 (0,0))::(O,.map #[] 0)::(B,.map #[] 0)::(e.flatMap KtH.frag++(d.frag++M)))) (λiv _=>n-(intOf iv).toNat)
 case atStart=>exact⟨0,[],jX _,rfl,rfl,by simp,by have:=r.o;rw[<-HZ.o]at this;exact this⟩
 case round =>
  clear r;obtain⟨k,e,hk,rfl,l,z,a⟩:=hrel;have av:(0:Int)<=(k:Int):=by omega
  by_cases hlt:k<n
  .have aA:(k:Int)<(n:Int):=by omega
   have k4:=a.cellH 17;have hA:=a.alloc (.map #[] 0);have aB:∀ob,(wr.alloc ob).cell? ⟨c,17,none⟩=some (.slice (some ⟨g,0,none⟩) n n):=λob=>(a.alloc ob).tail.cellH 17
   have ab:(((e.map λt=>Value.map (some t.b))++List.replicate (n-k) (Value.map none)).toArray)[k]?=some (.map none):=by
    simp only[List.getElem?_toArray];rw[Jl (by simp[l]),List.getElem?_replicate];simp[l];omega
   have g1:(wr.alloc (.map #[] 0)).cell? ⟨g,k,none⟩=some (.map none):=(hA.tail.tail.cellH k).trans ab;have g2:=hA.tail.tail.freeH k;have HA:=Hi ((hA.pm (M':=(g,.cells ((e.map λt=>Value.map (some t.b))++List.replicate (n-k) (Value.map none)).toArray 111 (0,0))::(c,.cells #[a0,a1,a2,OI K,OI D,a5,a6,Y,X,a9,p,q,.slice none 0 0,OQ d.b,m,.map (some B),.map (some O),.slice (some ⟨g,0,none⟩) n n] 82)::(wr.heap.size,.map #[] 0)::(O,.map #[] 0)::(B,.map #[] 0)::(e.flatMap KtH.frag++(d.frag++M))) CN).set k (.map (some wr.heap.size)));obtain⟨C,f⟩:=Hi2 z l;clear a hA ab z l;go_wp2_with fail;refine⟨⟨k+1,e++[⟨wr.heap.size,.map #[] 0,[]⟩],by omega,by go_num,by simp[f.o],?_,?_⟩,by simp[intOf];omega⟩
   .intro t ht;rcases jo.1 ht with h|h
    .exact C.o t h
    .simp only[jC]at h;subst h;exact⟨⟨Va.empty,by simp,by simp⟩,rfl⟩
   .have ac:(((e.map λt=>Value.map (some t.b))++List.replicate (n-k) (Value.map none)).toArray).setIfInBounds k (.map (some wr.heap.size))=(((e++[(⟨wr.heap.size,.map #[] 0,[]⟩:KtH)]).map λt=>Value.map (some t.b))++List.replicate (n-(k+1)) (Value.map none)).toArray:=by
     rw[jf,show n-k=(n-(k+1))+1 by omega,kJ,List.set_append_right _ _ (by simp[f.o])];simp[f.o]
    have:=HA.o;rw[ac]at this;exact this.pm λy=>by simp only[jD,jB,Jk,KtH.frag,Jt,jJ,xa,ya,OI,OT,OQ,Ya];omega
  .obtain rfl:k=n:=by omega
   obtain⟨i,C,f⟩:=Hi3 a z l;clear a z l;go_wp2_with fail;go_end0;have a:=i.o;rw[Uk,kK,jJ]at a;refine⟨rfl,d,⟨B,.map #[] 0,O,.map #[] 0,.slice (some ⟨g,0,none⟩) k k,[(g,.cells (e.map λt=>Value.map (some t.b)).toArray 111 (0,0))],e,[],[]⟩,N1.o,N2.o,N3.o,N4.o,N5.o,N6.o,⟨Va.empty,by simp,Va.empty,Zl.nil,?_,λt h=>(C.o t h).1,by rw[HN.o];exact f.o,λj t h=>?_⟩,?_⟩
   .have:=Rw.lit 111 1 e.length g (e.map λt=>Value.map (some t.b)).toArray (by simp) (by unfold maxLen;have:=f.o;omega);simp only at this|-
    rw[f.o]at this|-
    exact this
   .have:t.tab=[]:=by unfold KtH.tab;rw[(C.o t (Js h)).2];rfl
    rw[this];exact Xv.nil _
   .refine a.pm λy=>?_
    unfold LvH.frag za;simp only[xa,ya,OI,OT,OQ,Ya];omega
end Go.Proofs.YtekkihmmclencaaGreatDoor
