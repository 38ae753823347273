import Derived.Shelf.Spec.SlicesInsertGrow
import Derived.Test.YtekkihmmclencaaGreatDoorM30
namespace Go.Proofs.YtekkihmmclencaaGreatDoor
set_option linter.all false
set_option maxRecDepth 100000
set_option maxHeartbeats 40000000
open Tryz
open Go Go.RowKit Go.Sort
variable(w:World){W V:World}{n b k:Nat}{v:Value}{F:va}{K:Kp}{T:TypeId}{P:Program}{Q:Exit->Act->World->Prop}{X:List Value}
theorem vc.mapPut{h:KpH}{κ ν:Type}[DecidableEq κ]{c:κ->Value}{g:ν->Value}{a:κ->Prop}{kt et t:TypeId}{o:Obj}{l:List (κ × ν)}(E:Enc prog kt c a)(w:prog.underlying t=some (.map kt et))(u:Va c g o l)(j:∀p∈l,a p.1)
  (z:vc V n b K h v ((k,o)::F) W) {x:κ} (D:a x) (y:ν):∃e f,(Instr.mapUpdate t (.map (some k)) (c x) (g y)).run prog W=.ok () f/\vc V n b K h v ((k,e)::F) f/\Va c g e (ye l x y):=by
 obtain⟨B,q,m,r,G⟩:=z;have i:St V W ((k,o)::(Zb n b q m K.d++(h.fragj n K v++F))):=G.pm CN;obtain⟨e,f,A,s,C⟩:=Va.put E w u j i D y;exact⟨e,f,A,⟨B,q,m,r,s.pm CN⟩,C⟩
def KpH.restF2(K:Kp)(h:KpH):va:=(h.bl,h.ol)::(h.bc,h.oc)::(h.Fr++(h.rs.flatMap (vd.frag K.m.o)++(h.Fp++(h.dl.frag++(h.Ft++h.ts.flatMap KtH.frag)))))
def ZaB(Sl:List (Int × Unit))(A:List En):Prop:=∀s,s∈Sl.map (·.1)<->s∈A.map (·.seq)
def VaO(W0:World)(bd bm:Nat)(K:Kp)(m:Mf)(b bj bL bS:Nat)(rv:Value)(Fm:va)(jv:Value)(N:va)(R:List Qj)(k:Nat)(wr:World):Prop :=
 ∃(h':KpH) (oL oS:Obj) (Sl:List (Int × Unit)),h'.b=b/\h'.bj=bj/\h'.rv=rv/\h'.Fm=Fm/\vc W0 bd bm {K with runs:=R.take k} h' jv ((bL,oL)::(bS,oS)::N) wr /\
  Va vo evE oL (Qf [] (Xj m.o (R.take k)))/\Va Zg yD oS Sl/\ZaB Sl (Xj m.o (R.take k))
def YaB(W0:World)(bd bm:Nat)(K:Kp)(h:KpH)(bL bS:Nat)(jv:Value)(N:va)(A:List En)(wr:World):Prop :=
 ∃(oL oS:Obj) (Sl:List (Int × Unit)),vc W0 bd bm K h jv ((bL,oL)::(bS,oS)::N) wr/\Va vo evE oL (Qf [] A)/\Va Zg yD oS Sl/\ZaB Sl A
theorem vc.nameE{W0 W:World}{bd bm:Nat}{h:KpH}{M:va}{P:Program}{c:Act->World->Prop}{b:Exit}{a:Act}(d:vc W0 bd bm K h v M W)(k:∀W',vc W0 bd bm K h v M W'->Exit.then c Q b a W'):Exit.then c Q b a W:=k W d
def Vak(W0:World)(bd bm:Nat)(KR:Kp)(b bj bL bS r:Nat)(jv:Value)(N:va)(L:List ((Int × Bs) × En))(wr:World):Prop :=
 ∃(V:List ((Int × Bs) × En)) (oi oL oS:Obj) (h':KpH),h'.b=b/\h'.bj=bj/\(∀x∈V,x∈L)/\(V.map (·.1)).Nodup/\vc W0 bd bm {KR with P:=Yb V} h' jv ((r,oi)::(bL,oL)::(bS,oS)::N) wr/\Va vo evE oL L/\Qx vo bL oi oL (V.map (·.1))
theorem Yao(V:List ((Int × Bs) × En))(x:(Int × Bs) × En):Yb (V++[x])=Yb V++(if x.2.dead then[]else[⟨x.1.1,x.1.2⟩]):=by
 unfold Yb;rw[List.filterMap_append];cases h:x.2.dead<;>simp[h]
theorem Xba(W0 w:World)(Z bm:Nat)(D:Dk)(m:Mf)(j0:Jn)(h:KpH)(jv:Value)(N:va)(R:List Qj)(hs:xab D m R)(j:vc W0 Z bm (yL D m j0) h jv N w)(ht:vi W0)(hc:zg W0):
  Calls prog 38 #[za h.b] w (xC W0 Z bm h.b h.bj {yL D m j0 with runs:=R,P:=Yb (Qf [] (Xj m.o R))} jv N (OI 0)):=by
 have em:∀(t:TypeId) w,(Instr.makeMap t none).run prog w=.ok (.map (some w.heap.size)) (w.alloc (.map #[] 0)):=λt w=>kF _ w
 obtain⟨K1,b8⟩:∃K1,({yL D m j0 with runs:=R,P:=Yb (Qf [] (Xj m.o R))}:Kp)=K1:=⟨_,rfl⟩;rw[b8];have bJ:=Hi b8;clear b8;have S:=j.1.mrow;have dA:(yL D m j0).m.runs=m.runs:=rfl;rw[dA]at S;obtain⟨ar,cr,br,e4,aH,_⟩:=S.form;have k9:w.cell? ⟨h.b,9,none⟩=some h.rv:=by
  have Q:=j.2.rest;unfold KpH.fragj at Q;exact Q.cellH 9
 rw[br]at k9;have bg:m.runs.length=R.length:=by rw[<-hs.infos,jz]
 obtain⟨n,hn⟩:=NE R.length;rw[bg,hn]at k9;have eq:n<=1000:=by rw[<-hn];exact hs.rlen
 have G:=(j.alloc (.map #[] 0)).alloc (.map #[] 0);simp only[jF]at G;obtain⟨J,cq⟩:=EN w.heap.size;rw[<-cq]at G;obtain⟨HA,dp,HS,HN⟩:=Hi4 G cq hs hn;have cY:=Hi (show m.runs.length=n from bg.trans hn);have dT:=Hi br;have aM:=Hi (jy hs.opt (jy ht hc));have kA:∀o1 o2,((w.alloc o1).alloc o2).cell? ⟨h.b,9,none⟩=some (.slice ar n cr):=λo1 o2=>by
  have Q:=((j.alloc o1).alloc o2).2.rest;unfold KpH.fragj at Q;have h2:=Q.cellH 9;rw[<-hn,<-bg,<-br];exact h2
 obtain⟨en,eg⟩:(n:Int)<=1000/\(0:Int)<=(n:Int):=by omega
 obtain⟨b,hb⟩:=NE h.b;obtain⟨bj,cI⟩:=NE h.bj;rw[hb]at k9 kA|-
 rw[cI];have HB:=Hi (jy hb cI);clear j G cq hs hn S dA br e4 aH bg ht hc hb cI;unfold xC;unfold za;go_enter func38,ntmps38;go_upto_region 4 with fail
 rw[<-dp.o];refine HA.o.nameC ?_;clear HA dp k9 kA;intro w1 cz;obtain⟨K0,aI⟩:=EN (yL D m j0);have bG:({K0 with runs:=R.take 0}:Kp)=K0:=by rw[aI];rfl
 have bY:K0.m=m:=by rw[aI];rfl
 have bX:K0.d=D:=by rw[aI];rfl
 have bW:K0.P=[]:=by rw[aI];rfl
 rw[<-aI]at cz bJ;have ba:=Hi (jy bY (jy bX bW));have ap:=Hi (show VaO W0 Z bm K0 m h.b h.bj J (J+1) h.rv h.Fm jv N R 0 w1 from⟨h,.map #[] 0,.map #[] 0,[],rfl,rfl,rfl,rfl,by rw[bG];exact cz.pm CN,Va.empty,Va.empty,λs=>by simp[Xj]⟩);obtain⟨bS,d6⟩:=NE (J+1);rw[d6]at ap|-
 rw[HB.o.1,HB.o.2]at ap;clear cz aI bG bY bX bW d6 HB;go_loopw [28] (λiv wr=>∃(k:Nat),k<=n/\iv=OI (k:Int)/\VaO W0 Z bm K0 m b bj J bS h.rv h.Fm jv N R k wr) (λiv _=>n-(intOf iv).toNat)
 case atStart=>exact⟨0,jX _,rfl,ap.o⟩
 case round =>
  clear ap;obtain⟨k,hk,rfl,Q,oL,oS,Sl,av,aC,az,b0,j,v,af,a1⟩:=hrel;have eu:(0:Int)<=(k:Int):=by omega
  by_cases hlt:k<n
  .have er:(k:Int)<(n:Int):=by omega
   have bh:k<R.length:=by rw[HN.o];exact hlt
   have aj:k<m.runs.length:=by rw[cY.o];exact hlt
   have S:Rw 141 4 Q.rv m.runs.length (m.runs.flatMap riV) Q.Fm:=by have:=j.1.mrow;rw[show({K0 with runs:=R.take k}:Kp).m=m from ba.o.1]at this;exact this
   have aE:St W0 wr (Q.Fm++(Q.b,.cells (zk Z {K0 with runs:=R.take k} Q jv) 82)::(Q.restF2 {K0 with runs:=R.take k}++((J,oL)::(bS,oS)::N))):=j.2.rest.pm λy=>by unfold KpH.fragj KpH.restF2;simp only[xa,ya,OI,OT,OQ];omega
   have d2:=(Rw.rowK S (λx=>by simp[riV]) aE).fld Zo k aj;obtain⟨g,o,c,hv,I⟩:=d2;rw[az,dT.o,cY.o]at hv;injection hv with e1 e2 e3
   subst e1;subst e3;clear e2;obtain⟨r,hr⟩:=NE (R[k]);have bI:m.runs[k]=r.info:=by
    have:=HS.o.infos;rw[<-hr];have h2:(R.map (·.info))[k]?=m.runs[k]?:=by rw[this]
    rw[jZ,jt bh,jt aj]at h2;exact(Jv h2).symm
   rw[bI]at I;unfold riV at I;have aH:r∈R:=by rw[<-hr];exact Jc bh
   have bK:=HS.o.ok r aH;have x0:wr.cell? ⟨g,o+k*4,none⟩=some (OI r.info.number):=by have:=I 0 _ rfl;simpa using this
   have x1:wr.cell? ⟨g,o+k*4+1,none⟩=some (OI r.info.lo):=by have:=I 1 _ rfl;simpa [j9] using this
   have x2:wr.cell? ⟨g,o+k*4+2,none⟩=some (OI r.info.hi):=by have:=I 2 _ rfl;simpa [j9] using this
   have x3:wr.cell? ⟨g,o+k*4+3,none⟩=some (OI r.info.count):=by have:=I 3 _ rfl;simpa [j9] using this
   obtain⟨Kk,aJ⟩:∃Kk,({K0 with runs:=R.take k}:Kp)=Kk:=⟨_,rfl⟩;have a4:Kk.m=m:=by rw[<-aJ];exact ba.o.1
   have b5:Kk.d=D:=by rw[<-aJ];exact ba.o.2.1
   have bC:Kk.runs=R.take k:=by rw[<-aJ]
   rw[aJ]at j;have G:=j.alloc (.cells #[OI r.info.number,OI r.info.lo,OI r.info.hi,OI r.info.count] 141);obtain⟨C6,c7⟩:=EN wr.heap.size;rw[<-c7]at G;obtain⟨HA,cM⟩:=Hi2 G c7;have au:=Hi (λ(M:va) W (hW:vc W0 Z bm Kk Q jv M W)=>show Calls prog 89 #[za Z,.agg #[OI m.o.width,OI m.o.chunks,OI m.o.mode],.agg #[OI r.info.number,OI r.info.lo,OI r.info.hi,OI r.info.count]] W (λe w'=>∃x:vd,x.r=⟨r.info,r.list⟩/\x.ok m.o/\e=.returned (.tuple #[za x.b,OI 0])/\St W w' (x.frag m.o))from
    Xan W0 W Z bm D _ m.o r.info r.list bK (by have:=hW.2;rw[b5]at this;exact this) HS.o.wf HS.o.on (HS.o.files r aH) aM.o.2.1 aM.o.2.2)
   have d7:=Hi (λ(A:va) W (hW:vc W0 Z bm Kk Q jv (A++((C6,.cells #[OI r.info.number,OI r.info.lo,OI r.info.hi,OI r.info.count] 141)::(J,oL)::(bS,oS)::N)) W)=>show OV W b 0 (OQ Z)/\OV W b 3 (OI m.o.width)/\OV W b 4 (OI m.o.chunks)/\OV W b 5 (OI m.o.mode)/\OV W C6 0 (OI r.info.number)/\OV W C6 1 (OI r.info.lo)/\OV W C6 2 (OI r.info.hi)/\OV W C6 3 (OI r.info.count)from by
    have q1:=hW.2.rest;unfold KpH.fragj at q1;have q2:=hW.side.appR;obtain⟨z0,z3,z4,z5⟩:=q1.k4 0 3 4 5;unfold zk at z0 z3 z4 z5;rw[av,a4]at z3 z4 z5;rw[av]at z0;exact⟨z0,z3,z4,z5,q2.cellH 0,q2.cellH 1,q2.cellH 2,q2.cellH 3⟩)
   have aG:=Hi (jy v (jy af a1));have bo:=Hi (jy a4 (jy b5 bC));have HH:=Hi (jy av (jy aC (jy az b0)));have d0:=Hi av;have HR:=Hi (jy (show R[k]?=some r from by rw[jt bh,hr]) aH);have dP:=Hi aJ;clear j G c7 I S aE bI v af a1 a4 b5 bC bK aJ bh aj hr aH az b0 av aC;unfold za at au;go_upto_region 6 with fail
   rw[<-cM.o];refine HA.o.nameC ?_;clear HA cM x0 x1 x2 x3;intro w3 aD;have cT:=Hi (d7.o [] _ aD.drew);have cV:=Hi (au.o _ _ aD.drew);have cS:=Hi aD.drew;clear aD;go_region_held3 (λW=>W.cell? ⟨b,0,none⟩=some (.pointer (some ⟨Z,0,none⟩))/\W.cell? ⟨b,3,none⟩=some (.int .i64 m.o.width)/\W.cell? ⟨b,4,none⟩=some (.int .i64 m.o.chunks)/\W.cell? ⟨b,5,none⟩=some (.int .i64 m.o.mode)/\W.cell? ⟨C6,0,none⟩=some (.int .i64 r.info.number)/\W.cell? ⟨C6,1,none⟩=some (.int .i64 r.info.lo)/\W.cell? ⟨C6,2,none⟩=some (.int .i64 r.info.hi)/\W.cell? ⟨C6,3,none⟩=some (.int .i64 r.info.count)) (first|with_reducible exact d7.o _ _ d9.o|with_reducible exact cT.o|(go_keep;done)) (first|(go_at_call 89;refine cV.o.mono ?_;rintro e' w5 ⟨x,aY,an,rfl,d1⟩;have HX:=Hi (jy aY an);have d9:=Hi (cS.o.call d1);clear d1 aY an));clear cT cV cS au;have b1:=d9.o;have bV:=Hi b1.1;have ak:=b1.1.rrow;have bH:(Q.rs.map λr=>za r.b)=(Q.rs.map (·.b)).flatMap pbV:=by rw[zO,j7];rfl
   rw[bH]at ak;obtain⟨dh,da,b6,_⟩:=ak.form;have cD:Q.rs.length=k:=by
    have e1:=jT List.length b1.1.runs;rw[bo.o.2.2,jz,jN,HN.o]at e1;omega
   rw[b6,cD]at ak;have aK:=b1.rowOut;have dN:w5.cell? ⟨b,10,none⟩=some (.slice dh k da):=by
    have q:=aK.rest.appR.cellH 10;unfold zk at q;rw[b6,cD,HH.o.1]at q;exact q
   rw[d0.o]at aK;obtain⟨Z5,cu⟩:=EN (((b,.cells (zk Z Kk Q jv) 82)::(Q.fragR Kk++(vd.frag m.o x++((C6,.cells #[OI r.info.number,OI r.info.lo,OI r.info.hi,OI r.info.count] 141)::(J,oL)::(bS,oS)::N))):va));rw[<-cu]at aK;obtain⟨cP,dj,dF⟩:=Hi3 aK ak cu;obtain⟨e8,dU,dK,e9,dW⟩:=Vs VaZ;clear b1 ak bH b6 cD aK cu;go_upto_region 10 with(at_builtin;refine QK (by rfl) _ _ 53 (by rfl) 106 e8 _ 1 8 underlying53 dU dK e9 dW (by rfl) (by decide) (.slice dh k da) k ((Q.rs.map (·.b)).flatMap pbV) Q.Fr Z5 (by rfl) dj.o cP.o 1 w5.heap.size [OQ x.b] (by rfl) (by rfl) (by rfl) (by intro u hu;simp at hu;subst hu;rfl) (by unfold maxLen;omega) (by omega) ?_)
   intro rsv w6 F2 cE ch;obtain⟨a2,c2,rfl,_⟩:=cE.form;rw[dF.o]at ch;have bs:=ch.pm (M':=(b,.cells (zk Z Kk Q jv) 82)::(F2++(Q.fragR Kk++(vd.frag m.o x++((C6,.cells #[OI r.info.number,OI r.info.lo,OI r.info.hi,OI r.info.count] 141)::(J,oL)::(bS,oS)::N))))) CN;have dD:OV w6 b 10 Q.rsv:=bs.rest.cellH 10;have cO:=bs.rest.freeH 10;have dE:=Xa.set bs 10 (.slice a2 (k+1) c2);obtain⟨aV,cN⟩:=Hi2 dE cE;clear cE ch bs dE cP dF dN;go_upto_region 10 with fail
   refine aV.o.nameC ?_;clear aV dD cO;intro w7 cy;have an:=HX.o.2;have aY:=HX.o.1;have co:=HS.o.ok r HR.o.2;have dR:=Yj aM.o.1;have dq:x.fs.length=Qd m.o:=by have:=jT List.length an.tabs;simpa using this
   obtain⟨f,hf⟩:∃f,x.fs[0]?=some f:=⟨_,jt (by omega)⟩;have ct:f.l=Qc m.o 0 r.list:=by
    have h2:=jT (λl=>l[0]?) an.tabs;simp only[jZ,hf,kM (show 0<Qd m.o by omega),JE]at h2;have O:=jT Prod.snd (Jv h2);rw[aY]at O;exact O
   have cl:(Qc m.o 0 r.list).length=r.list.length:=by have:=(Yp m.o 0 r.list).length_eq;simpa using this
   have bf:=zaX W0 w7 m.o x _ 0 f an hf (by rw[ct,cl];have:=co.len;omega) (by rw[dq];omega) (cy.rest.pm (M':=vd.frag m.o x++((b,.cells ((zk Z Kk Q jv).setIfInBounds 10 (.slice a2 (k+1) c2)) 82)::(F2++(Q.fragR Kk++((C6,.cells #[OI r.info.number,OI r.info.lo,OI r.info.hi,OI r.info.count] 141)::(J,oL)::(bS,oS)::N))))) CN);rw[ct]at bf;have cJ:(Qc m.o 0 r.list).length<=2097152:=by rw[cl];exact co.len
   have dv:=Hi (show ∀e∈Qc m.o 0 r.list,e∈Xj m.o R from λe he=>JB.2 ⟨r,HR.o.2,he⟩);obtain⟨T,hT⟩:=NE (Qc m.o 0 r.list);have dZ:=Hi hT;rw[hT]at bf cJ dv;obtain⟨bz,aV⟩:=Hi2 bf cy;unfold Xe za at bz;obtain⟨nT,cC⟩:=NE T.length;have cm:=Hi cC;rw[cC]at bz cJ;obtain⟨ej,eb⟩:(nT:Int)<=2097152/\(0:Int)<=(nT:Int):=by omega
   clear cy an aY co dR dq hf ct cl bf hT cC;go_upto_region 11 with(go_at_call 84;refine bz.o.mono ?_;rintro e' w8 ⟨v8,F3,rfl,ce,df⟩;obtain⟨a8,c8,rfl,dO,_⟩:=ce.form;have ef:(nT:Int)<=(c8:Int):=(by omega);have ea:=Hi ce;have cL:=Hi (aV.o.call df);clear ce df dO)
   clear bz aV;obtain⟨h2,cs⟩:∃h2:KpH,h2={Q with rs:=Q.rs++[x],rsv:=.slice a2 (k+1) c2,Fr:=F2}:=⟨_,rfl⟩;have a4:=bo.o.1;have dg:Q.rs.length=k:=by
    have e1:=jT List.length bV.o.runs;rw[bo.o.2.2,jz,jN,HN.o]at e1;omega
   have ad:vc W0 Z bm {Kk with runs:=Kk.runs++[x.r]} h2 jv ((J,oL)::(bS,oS)::(F3++((C6,.cells #[OI r.info.number,OI r.info.lo,OI r.info.hi,OI r.info.count] 141)::N))) w8:=by
    rw[cs];refine vc.addRun bV.o (by rw[dg];have:=cN.o;rw[jD];exact this) (by rw[a4];exact HX.o.2) ?_;rw[a4,HH.o.1];exact cL.o.pm CN
   have dy:({Kk with runs:=Kk.runs++[x.r]}:Kp)={K0 with runs:=R.take (k+1)}:=by
    have O:R.take (k+1)=R.take k++[r]:=by
     rw[KL,HR.o.1];rfl
    rw[O,bo.o.2.2,HX.o.1,<-dP.o]
   rw[dy]at ad;obtain⟨A,c3⟩:=NE (Xj m.o (R.take k));have bb:=aG.o;rw[c3]at bb;have cv:Xj m.o (R.take (k+1))=A++T:=by
    have O:R.take (k+1)=R.take k++[r]:=by rw[KL,HR.o.1];rfl
    rw[O,<-c3,<-dZ.o];simp[Xj]
   have bU:∃B,Xj m.o R=(A++T)++B:=⟨Xj m.o (R.drop (k+1)),by rw[<-cv];unfold Xj;rw[<-jD,Ja]⟩;obtain⟨K2,aS⟩:∃K2,({K0 with runs:=R.take (k+1)}:Kp)=K2:=⟨_,rfl⟩;rw[aS]at ad;have bM:=Hi (show YaB W0 Z bm K2 h2 J bS jv (F3++((C6,.cells #[OI r.info.number,OI r.info.lo,OI r.info.hi,OI r.info.count] 141)::N)) (A++T.take 0) w8 from⟨oL,oS,Sl,ad,by rw[J4,jJ];exact bb.1,bb.2.1,by rw[J4,jJ];exact bb.2.2⟩);have cn:=Hi (jy cv bU);have bn:=Hi (show h2.b=b/\h2.bj=bj/\h2.rv=h.rv/\h2.Fm=h.Fm from by rw[cs];exact HH.o);have dr:=Hi aS;clear ad cs a4 dg dy c3 bb cv bU aS aG cL cN;go_loopw [61] (λiv wr=>∃(i:Nat),i<=nT/\iv=OI (i:Int)/\YaB W0 Z bm K2 h2 J bS jv (F3++((C6,.cells #[OI r.info.number,OI r.info.lo,OI r.info.hi,OI r.info.count] 141)::N)) (A++T.take i) wr) (λiv _=>nT-(intOf iv).toNat)
   case atStart=>exact⟨0,jX _,rfl,bM.o⟩
   case round =>
    clear bM;obtain⟨i,hi,rfl,oL,oS,Sl,j,v,af,a1⟩:=hrel;have eo:(0:Int)<=(i:Int):=by omega
    by_cases hilt:i<nT
    .have ep:(i:Int)<(nT:Int):=by omega
     have b3:i<T.length:=by rw[cm.o];exact hilt
     have S:qe enV 5 wr (.slice a8 nT c8) T:=Rw.rowK (W0:=W0) (F:=F3) (M:=(J,oL)::(bS,oS)::(C6,.cells #[OI r.info.number,OI r.info.lo,OI r.info.hi,OI r.info.count] 141)::N) (by have:=ea.o;rw[<-cm.o]at this|-;exact this) (λx=>by simp[enV]) (j.side.pm CN);obtain⟨g2,o2,el,hv,I⟩:=S.fld Qe i b3;injection hv with e1 e2 e3
     subst e1;subst e3;clear e2;obtain⟨e,he⟩:=NE (T[i]);have cH:T.take (i+1)=T.take i++[e]:=by rw[KL,jt b3,he];rfl
     have a9:=HS.o.mem e (dv.o e (by rw[<-he];exact Jc b3));rw[he]at I;obtain⟨B,hB⟩:=cn.o.2;have Y:Xj m.o R=(A++T.take i)++(e::(T.drop (i+1)++B)):=by
      have O:T=T.take i++(e::T.drop (i+1)):=by rw[<-he,<-jR b3,Ja]
      rw[hB]
      conv=>lhs;rw[O]
      simp
     have ay:e.seq∉Sl.map (·.1):=by
      rw[a1];have h:=HS.o.seqs;rw[Y,jr,Jr]at h;intro hm;exact h.2.2 _ hm _ (by simp) rfl
     have dc:∀y∈A++T.take i,y.pair=e.pair->y.seq<e.seq:=by
      have h:=HS.o.ups;rw[Y,List.pairwise_append]at h;exact λy hy=>h.2.2 y hy e (by simp)
     have d3:=Xd.1 (yf aM.o.1).1;have be:∀y∈A++T.take i,0<=y.id/\y.id<=281474976710656/\(y.code.length:Int)=m.o.width/8/\0<y.seq/\y.seq<=1152921504606846976:=λy hy=>HS.o.mem y (by rw[Y];exact jx _ hy)
     have bR:∀p∈Sl,-9223372036854775808<=p.1/\p.1<=9223372036854775807:=λp hp=>by
      have O:=(a1 p.1).1 (jg.2 ⟨p,hp,rfl⟩);obtain⟨y,hy,ek⟩:=jg.1 O;have:=be y hy;omega
     have cj:=zT (A++T.take i) (L:=[]) (B:=[]) (λy hy=>by cases hy);have aO:∀p∈Qf [] (A++T.take i),(-9223372036854775808<=p.1.1/\p.1.1<=9223372036854775807)/\p.1.2.length<=1000000:=λp hp=>by
      obtain⟨O,h4⟩:=cj p hp;rw[jK]at O;have h5:=be p.2 O;rw[<-h4];exact⟨⟨by show _<=p.2.id;omega,by show p.2.id<=_;omega⟩,by show p.2.code.length<=_;omega⟩
     have aL:∀o',Va Zg yD o' (ye Sl e.seq ())->ZaB (ye Sl e.seq ()) (A++T.take (i+1)):=λo' _ s=>by
      rw[vZ,jd ay,cH,<-jE,jr,jo,jo,a1 s];simp
     have ag:Qf [] (A++T.take (i+1))=ye (Qf [] (A++T.take i)) e.pair e:=by rw[cH,<-jE,qaB]
     have a7:∀al,Zd (Qf [] (A++T.take i)) e.pair=some al->al.seq<e.seq:=λal hw=>by
      have O:=cj _ (Qq hw);rw[jK]at O;exact dc al O.1 O.2
     obtain⟨ev,H,E,es,ed⟩:=e;simp only at a9 ay a7 aL;unfold En.pair at a7 ag;simp only at a7 ag;obtain⟨m1,m2,m3,m4,m5⟩:=a9;unfold enV qa at I;simp only at I;have x0:wr.cell? ⟨g2,o2+i*5,none⟩=some (OI ev):=by have:=I 0 _ rfl;simpa using this
     have x1:wr.cell? ⟨g2,o2+i*5+1,none⟩=some (OT H):=by have:=I 1 _ rfl;simpa [j9] using this
     have x2:wr.cell? ⟨g2,o2+i*5+2,none⟩=some (OI E):=by have:=I 2 _ rfl;simpa [j9] using this
     have x3:wr.cell? ⟨g2,o2+i*5+3,none⟩=some (OI es):=by have:=I 3 _ rfl;simpa [j9] using this
     have x4:wr.cell? ⟨g2,o2+i*5+4,none⟩=some (.bool ed):=by have:=I 4 _ rfl;simpa [j9] using this
     obtain⟨Lk,cW⟩:=NE (Qf [] (A++T.take i));rw[cW]at v aO ag a7;have G:=j.alloc (.cells #[OI ev,OT H,OI E,OI es,.bool ed] 137);obtain⟨U,aU⟩:=EN wr.heap.size;rw[<-aU]at G;obtain⟨HA,c0⟩:=Hi2 G aU;have aW:=Hi (jy ay (jy bR aL));have aP:=Hi (jy aO (jy ag a7));obtain⟨aF,aG⟩:=Hi2 v af;have ds:H.length<=1000000:=by omega
     clear j G aU I S Y hB dc d3 be bR cj aO aL ag a7 cW ay v af a1 he cH b3;go_upto_region 13 with fail
     rw[<-c0.o];refine HA.o.nameC ?_;clear HA c0 x0 x1 x2 x3 x4;intro w9 cp;have s9:=cp.side;have y3:OV w9 U 3 (OI es):=s9.cellH 3;have a6:=(Va.look (P:=prog) (k:=3) (e:=150) (t:=110) Qn underlying110 aG.o aW.o.2.1 s9.tail.tail.get (x:=es) ⟨by omega,by omega⟩ true).2 (Yg.2 aW.o.1) _ (xbg w9);unfold Zg at a6;simp only[JV]at a6;have d8:=Hi cp;clear cp s9;go_upto_region 16 with fail
     obtain⟨bB,bT⟩:=EN w9.heap.size;have G:=(d8.o.alloc (.cells #[] 150)).pm (M':=(bS,oS)::(w9.heap.size,.cells #[] 150)::(U,.cells #[OI ev,OT H,OI E,OI es,.bool ed] 137)::(J,oL)::(F3++((C6,.cells #[OI r.info.number,OI r.info.lo,OI r.info.hi,OI r.info.count] 141)::N))) CN;rw[<-bT]at G|-
     refine G.nameC ?_;clear G bT d8 a6 y3;intro dJ aR;have y3:OV dJ U 3 (OI es):=aR.side.tail.tail.cellH 3;obtain⟨bt,bx,a5,aa,bZ⟩:=vc.mapPut (kt:=3) (et:=150) (t:=110) Qn underlying110 aG.o aW.o.2.1 aR (x:=es) ⟨by omega,by omega⟩ ();unfold Zg yD at a5;obtain⟨ai,b7⟩:=Hi2 aa bZ;clear aR aa bZ aG;go_upto_region 17 with fail
     refine ai.o.nameC ?_;clear a5 ai y3;intro bx aa;have c5:=aa.side.tail.tail;have y1:OV bx U 1 (OT H):=c5.cellH 1;have y2:OV bx U 2 (OI E):=c5.cellH 2;have ai:=Hi aa;clear aa c5;go_upto_region 18 with fail
     obtain⟨ah,c1⟩:=EN bx.heap.size;have G:=ai.o.alloc (.cells #[OI E,OT H] 153);rw[<-c1]at G|-
     refine G.nameC ?_;clear G c1 ai y1 y2;intro aw b4;have bp:=b4.side;have z0:OV aw ah 0 (OI E):=bp.cellH 0;have z1:OV aw ah 1 (OT H):=bp.cellH 1;have cQ:=(bp.pm (M':=(J,oL)::(ah,.cells #[OI E,OT H] 153)::(bS,bt)::(bB,.cells #[] 150)::(U,.cells #[OI ev,OT H,OI E,OI es,.bool ed] 137)::(F3++((C6,.cells #[OI r.info.number,OI r.info.lo,OI r.info.hi,OI r.info.count] 141)::N))) CN).get;have a6:=Va.look (P:=prog) (k:=153) (e:=137) (t:=148) ZQ underlying148 aF.o aP.o.1 cQ (x:=(E,H)) ⟨⟨by omega,by omega⟩,ds⟩ true;have aA:=Hi (λ(W:World) (oe:Obj) (hW:vc W0 Z bm K2 h2 jv ((aw.heap.size,oe)::(ah,.cells #[OI E,OT H] 153)::(bS,bt)::(bB,.cells #[] 150)::(U,.cells #[OI ev,OT H,OI E,OI es,.bool ed] 137)::(J,oL)::(F3++((C6,.cells #[OI r.info.number,OI r.info.lo,OI r.info.hi,OI r.info.count] 141)::N))) W)=>show OV W ah 0 (OI E)/\OV W ah 1 (OT H)/\OV W U 0 (OI ev)/\OV W U 1 (OT H)/\OV W U 2 (OI E)/\OV W U 3 (OI es)/\OV W U 4 (.bool ed) /\
       ∃(o2:Obj) (W2:World),(Instr.mapUpdate 148 (.map (some J)) (.agg #[OI E,OT H]) (.agg #[OI ev,OT H,OI E,OI es,.bool ed])).run prog W=.ok () W2/\YaB W0 Z bm K2 h2 J bS jv (F3++((C6,.cells #[OI r.info.number,OI r.info.lo,OI r.info.hi,OI r.info.count] 141)::N)) (A++T.take (i+1)) W2 from by
      have q:=hW.side.tail;have q2:=q.tail.tail.tail;refine⟨q.cellH 0,q.cellH 1,q2.cellH 0,q2.cellH 1,q2.cellH 2,q2.cellH 3,q2.cellH 4,?_⟩;obtain⟨o2,W2,e7,aD,dY⟩:=vc.mapPut (kt:=153) (et:=137) (t:=148) ZQ underlying148 aF.o aP.o.1 (hW.pm (M':=(J,oL)::(aw.heap.size,oe)::(ah,.cells #[OI E,OT H] 153)::(bS,bt)::(bB,.cells #[] 150)::(U,.cells #[OI ev,OT H,OI E,OI es,.bool ed] 137)::(F3++((C6,.cells #[OI r.info.number,OI r.info.lo,OI r.info.hi,OI r.info.count] 141)::N))) CN) (x:=(E,H)) ⟨⟨by omega,by omega⟩,ds⟩ ⟨ev,H,E,es,ed⟩;refine⟨o2,W2,e7,o2,bt,_,aD.pmSub (X:=[(aw.heap.size,oe),(ah,.cells #[OI E,OT H] 153),(bB,.cells #[] 150),(U,.cells #[OI ev,OT H,OI E,OI es,.bool ed] 137)]) CN,?_,b7.o,aW.o.2.2 _ b7.o⟩;rw[aP.o.2.1];exact dY)
     have ax:=Hi b4;have a7:=aP.o.2.2;clear b4 bp cQ aP aF b7 aW;cases hmg:Zd Lk (E,H)with
     |none =>
      have aq:=a6.2 hmg _ (Zba aw);unfold vo qa at aq;simp only[JV]at aq;clear a6 a7 hmg;go_upto_region 19 with fail
      have G:=ax.o.alloc (.cells #[OI 0,.string ⟨#[]⟩,OI 0,OI 0,.bool false] 137);refine G.nameC ?_;clear G ax aq z0 z1;intro bq ab;obtain⟨q0,q1,q2,q3,q4,q5,q6,dQ,W2,cf,a3⟩:=aA.o bq _ ab;have ae:=Hi a3;clear ab a3 aA;go_wp2_with fail;exact⟨⟨i+1,by omega,by go_num,ae.o⟩,by simp[intOf];omega⟩
     |some al =>
      have aq:=a6.1 al hmg;have dI:=a7 al hmg;obtain⟨uv,uc,ui,us,ud⟩:=al;unfold vo evE enV qa at aq;simp only[JV]at aq dI;clear a6 a7 hmg;go_upto_region 19 with fail
      have G:=ax.o.alloc (.cells #[OI uv,OT uc,OI ui,OI us,.bool ud] 137);refine G.nameC ?_;clear G ax aq z0 z1;intro bq ab;obtain⟨q0,q1,q2,q3,q4,q5,q6,dQ,W2,cf,a3⟩:=aA.o bq _ ab;have u3:OV bq aw.heap.size 3 (OI us):=ab.side.cellH 3;have ae:=Hi a3;clear ab a3 aA;go_wp2_with fail;exact⟨⟨i+1,by omega,by go_num,ae.o⟩,by simp[intOf];omega⟩
    .obtain rfl:i=nT:=by omega
     have b9:T.take i=T:=Ji (by rw[cm.o];exact jm _);rw[b9]at v a1;have ae:=Hi (show VaO W0 Z bm K0 m b bj J bS h.rv h.Fm jv N R (k+1) wr from⟨h2,oL,oS,Sl,bn.o.1,bn.o.2.1,bn.o.2.2.1,bn.o.2.2.2,by
      rw[dr.o];exact j.pmSub (X:=F3++[(C6,.cells #[OI r.info.number,OI r.info.lo,OI r.info.hi,OI r.info.count] 141)]) CN,by rw[cn.o.1];exact v,af,by rw[cn.o.1];exact a1⟩)
     clear j v af a1 b9;go_wp2_with fail;exact⟨⟨k+1,by omega,by go_num,ae.o⟩,by simp[intOf];omega⟩
  .obtain rfl:k=n:=by omega
   have b9:R.take k=R:=Ji (by rw[HN.o];exact jm _);rw[b9]at j v;obtain⟨L,hL⟩:=NE (Qf [] (Xj m.o R));rw[hL]at v;have d4:∀y∈L,y.2∈Xj m.o R/\y.2.pair=y.1:=λy hy=>by
    have:=zT (Xj m.o R) (L:=[]) (B:=[]) (λy hy=>by cases hy) y (by rw[hL];exact hy);simpa using this
   have db:L.length<=1000000:=by
    have:=yT (Xj m.o R) [];rw[hL]at this;have:=HS.o.len;simp at *;omega
   have bc:((Yb L).map (·.id)).Nodup:=by rw[<-hL];exact HS.o.ids
   obtain⟨KR,bA⟩:∃KR,({K0 with runs:=R}:Kp)=KR:=⟨_,rfl⟩;rw[bA]at j;have bO:({KR with P:=Yb []}:Kp)=KR:=by rw[<-bA];show Kp.mk _ _ _ _ _ _ _ _ _ _ _=Kp.mk _ _ _ _ _ _ _ _ _ _ _;rw[ba.o.2.2];rfl
   have dS:=j.2.rest;obtain⟨oi,aB,_,hI⟩:=Va.range (P:=prog) (k:=153) (e:=137) (t:=148) underlying148 v j.side;have G:=j.alloc oi;obtain⟨r,hr⟩:=EN wr.heap.size;rw[<-hr]at G aB;obtain⟨HA,e6⟩:=Hi2 G hr;have b2:=Hi (jy d4 (jy db bc));obtain⟨HL,aF,HI⟩:=Hi3 hL v hI;have cG:=Hi (jy bA bO);have ci:=Hi (jy av aC);clear j v af a1 b9 hL d4 db bc bA bO dS G hr hI az b0 av aC;go_upto_region 24 with fail
   refine HA.o.nameC ?_;clear e6 aB;intro dM j;have ap:=Hi (show Vak W0 Z bm KR b bj J bS r jv N L dM from⟨[],oi,oL,oS,Q,ci.o.1,ci.o.2,by simp,by simp,by rw[cG.o.2];exact j,aF.o,HI.o⟩);clear j aF HI ci HA;go_loopw [104] (λ_ wr=>Vak W0 Z bm KR b bj J bS r jv N L wr) (λ_ W=>yS W.heap[r]? W.heap[J]?)
   case atStart=>exact ap.o
   case round =>
    clear ap;obtain⟨V,oi,oL,oS,O,bi,aN,ao,aX,j,v,hI⟩:=hrel;rcases vc.mapNext (λx y e=>ZQ.inj x y e) v j hI 0 with⟨bF,a5⟩|⟨p,hp,bk,bw,W2,a5,ad,cF,bP⟩
    .have aZ:V.Perm L:=zaQ v.nodup aX ao bF;have aQ:=vc.permP j (P:=Yb L) (by unfold Yb;exact aZ.filterMap _);have Y:=aQ.2.rest;unfold KpH.fragj at Y;obtain⟨bl,ac⟩:=NE O.bl;have cA:wr.cell? ⟨b,15,none⟩=some (.map (some bl)):=by
      have q:=Y.cellH 15;unfold zk at q;rw[bi,ac]at q;exact q
     have dk:=Va.len (P:=prog) (k:=3) (e:=108) (t:=78) underlying78 aQ.1.lmap Y.tail.get 3;rw[ac]at dk;have cU:O.live.length<=1000000:=by
      have e1:O.live.length=(Yb L).length:=by have e0:=aQ.1.lperm.length_eq;rw[jz]at e0;exact e0
      have e2:=VC L;have e3:=b2.o.2.1;omega
     obtain⟨nl,dw⟩:=NE O.live.length;rw[dw]at dk cU;obtain⟨ee,eh⟩:(nl:Int)<=1000000/\(0:Int)<=(nl:Int):=by omega
     have HF:=Hi (show ∃h',h'.b=b/\h'.bj=bj/\vc W0 Z bm K1 h' jv N wr from⟨O,bi,aN,by
      rw[<-bJ.o,HL.o];have e:({KR with P:=Yb L}:Kp)={K0 with runs:=R,P:=Yb L}:=by rw[<-cG.o.1]
      rw[<-e];exact aQ.pmSub (X:=[(r,oi),(J,oL),(bS,oS)]) CN⟩)
     clear j aQ Y aZ bF ao aX v hI dw cU ac;go_wp2_with fail;go_ret;exact⟨rfl,HF.o⟩
    .have dG:yS (some bw) (some oL)<yS (some oi) (some oL):=by
      rw[Qas (λx y e=>ZQ.inj x y e) v hI,Qas (λx y e=>ZQ.inj x y e) v cF];exact Ya0 hp bk
     have dn:wr.heap[r]?=some oi:=j.side.get;have dd:wr.heap[J]?=some oL:=j.side.tail.get;have am:=bP W2 _ ad.side;obtain⟨du,ca⟩:=b2.o.1 p hp;have a9:=HS.o.mem p.2 du;have de:∀o1 o2,vc W0 Z bm {KR with P:=Yb V} O jv ((W2.heap.size+1,o2)::(W2.heap.size,o1)::(r,bw)::(J,oL)::(bS,oS)::N) ((W2.alloc o1).alloc o2):=λo1 o2=>by have h9:=(ad.alloc o1).alloc o2;rw[jF]at h9;exact h9
     have bN:∀x∈V++[p],x∈L:=λx hx=>by
      rcases jo.1 hx with hx|hx
      .exact ao x hx
      .rw[jC]at hx;subst hx;exact hp
     have bQ:((V++[p]).map (·.1)).Nodup:=by
      rw[jr,Jr];exact⟨aX,by simp,λa ha c hc e=>by simp at hc;subst hc;subst e;exact bk ha⟩
     have aT:p.2.dead=false->p.1.1∉(Yb V).map (·.id):=λhd hm=>by
      obtain⟨q,hq,dV⟩:=jg.1 hm;obtain⟨x,hx,cK,bu⟩:=vr.1 hq;have q1:q∈Yb L:=vr.2 ⟨x,ao x hx,cK,bu⟩;have q2:(⟨p.1.1,p.1.2⟩:Pr)∈Yb L:=vr.2 ⟨p,hp,hd,rfl⟩;have q3:=zab b2.o.2.2 q q1 _ q2 dV;refine bk (jg.2 ⟨x,hx,?_⟩);rw[bu,q3]
     have dB:∀q∈Yb V,0<=q.id/\q.id<=281474976710656/\(q.code.length:Int)=m.o.width/8:=λq hq=>by
      obtain⟨x,hx,cK,bu⟩:=vr.1 hq;obtain⟨y1,y2⟩:=b2.o.1 x (ao x hx);have y3:=HS.o.mem x.2 y1;have y4:(x.2.id,x.2.code)=(q.id,q.code):=y2.trans bu;injection y4 with y5 y6
      rw[<-y5,<-y6];exact⟨y3.1,y3.2.1,y3.2.2.1⟩
     have cZ:(Yb V).length<=1000000:=by
      have g1:=VC V;have g2:V.length<=L.length:=by
       have:=JH (l₁:=V.map (·.1)) (l₂:=L.map (·.1)) aX (λz hz=>by obtain⟨y,hy,rfl⟩:=jg.1 hz;exact jg.2 ⟨y,ao y hy,rfl⟩);simpa using this
      have:=b2.o.2.1;omega
     have cB:=Yao V p;obtain⟨⟨ki,kc⟩,⟨ev,H,E,es,ed⟩⟩:=p;simp only at ca a9 aT cB;unfold En.pair at ca;injection ca with hpp1 hpp2
     simp only at hpp1 hpp2;subst hpp1;subst hpp2;unfold vo evE enV qa at a5 am;simp only at a5 am;have HX:=Hi (jy bN (jy bQ (jy aT (jy dB (jy cZ cB)))));have HY:=Hi (jy v (jy cF (jy bi aN)));obtain⟨dC,cw,dt⟩:=Hi3 dG a9 de;have HG:=Hi (jy dn dd);have e5:=Hi ad;clear j hI v cF bP ao aX bN bQ aT dB cZ cB dG a9 de ad du hp bk bi aN dn dd;go_upto_region 26 with fail
     obtain⟨a0,bD⟩:=EN W2.heap.size;have G:=dt.o (.cells #[OI E,OT H] 153) (.cells #[OI ev,OT H,OI E,OI es,.bool ed] 137);rw[<-bD]at G|-
     refine G.nameC ?_;clear G bD dt e5 a5 am;intro K j;have c4:OV K (a0+1) 4 (.bool ed):=j.side.cellH 4;cases ed with
     |true =>
      have ae:=Hi (show Vak W0 Z bm KR b bj J bS r jv N L K from⟨V++[((E,H),⟨ev,H,E,es,true⟩)],bw,oL,oS,O,HY.o.2.2.1,HY.o.2.2.2,HX.o.1,HX.o.2.1,by
       have e:=HX.o.2.2.2.2.2;simp only[JV,jJ]at e;rw[e];exact j.pmSub (X:=[(a0+1,.cells #[OI ev,OT H,OI E,OI es,.bool true] 137),(a0,.cells #[OI E,OT H] 153)]) CN,HY.o.1,by rw[jr];exact HY.o.2.1⟩)
      have c9:=Hi (show yS K.heap[r]? K.heap[J]?<yS wr.heap[r]? wr.heap[J]? from by rw[HG.o.1,HG.o.2,j.side.tail.tail.get,j.side.tail.tail.tail.get];exact dC.o);clear j;go_wp2_with fail;exact⟨ae.o,c9.o⟩
     |false =>
      have Y:=j.2.rest;unfold KpH.fragj at Y;obtain⟨bl,ac⟩:=NE O.bl;obtain⟨ol,bv⟩:=NE O.ol;have cA:K.cell? ⟨b,15,none⟩=some (.map (some bl)):=by
       have q:=Y.cellH 15;unfold zk at q;rw[HY.o.2.2.1,ac]at q;exact q
      have d5:K.heap[bl]?=some ol:=by rw[<-ac,<-bv];exact Y.tail.get
      have aE:=j.side.tail;have p0:OV K a0 0 (OI E):=aE.cellH 0;have p1:OV K a0 1 (OT H):=aE.cellH 1;have c6:=j.1.lmap;rw[bv]at c6;have cb:=j.1.lperm;have dH:∀q∈O.live,-9223372036854775808<=q.1/\q.1<=9223372036854775807:=λq hq=>by
       obtain⟨y,hy,rfl⟩:=jg.1 ((cb.mem_iff).1 hq);have:=HX.o.2.2.2.1 y hy;show _<=y.id/\y.id<=_;omega
      have dm:Zd O.live E=none:=Yg.2 λhm=>by
       obtain⟨q,hq,dX⟩:=jg.1 hm;obtain⟨y,hy,rfl⟩:=jg.1 ((cb.mem_iff).1 hq);exact HX.o.2.2.1 rfl (jg.2 ⟨y,hy,dX⟩)
      have a6:∀W:World,W.heap[bl]?=some ol->(Instr.lookup 78 (.map (some bl)) (OI E) true).run prog W=.ok (.tuple #[.agg #[.string ⟨#[]⟩],.bool false]) W:=λW hW=>by
       have q:=(Va.look (P:=prog) (k:=3) (e:=108) (t:=78) Qn underlying78 c6 dH hW (x:=E) ⟨by have:=cw.o;omega,by have:=cw.o;omega⟩ true).2 dm _ (Qan W);exact q
      have HK:=Hi j;have di:=Hi (show OV K.drew b 15 (.map (some bl))/\OV K.drew a0 0 (OI E)/\K.drew.heap[bl]?=some ol from⟨cA,p0,d5⟩);have dz:=Hi (λ(ob:Obj)=>show(K.alloc ob).drew.cell? ⟨b,15,none⟩=some (.map (some bl))/\(K.alloc ob).drew.cell? ⟨a0,0,none⟩=some (OI E)/\(K.alloc ob).drew.heap[bl]?=some ol from by
       have hq:=(j.alloc ob).drew;have hs:=hq.2.rest;unfold KpH.fragj at hs;have cg:=hs.cellH 15;unfold zk at cg;rw[HY.o.2.2.1,ac]at cg;refine⟨cg,hq.side.tail.tail.cellH 0,?_⟩;rw[<-ac,<-bv];exact hs.tail.get)
      clear j Y ac bv aE c6 cb dH dm;go_upto_region 27 with fail
      go_region_held3 (λW=>W.cell? ⟨b,15,none⟩=some (.map (some bl))/\W.cell? ⟨a0,0,none⟩=some (.int .i64 E)/\W.heap[bl]?=some ol) (first|with_reducible exact di.o|with_reducible exact dz.o _|(go_keep;done)) (first|fail)
      all_goals(
       have G:=(HK.o.alloc (.cells #[.string ⟨#[]⟩] 108)).drew;refine vc.nameE (P:=prog) G ?_;clear G HK di dz a6 cA d5 p0 p1 c4;intro cc j;have q0:OV cc a0 0 (OI E):=j.side.tail.tail.cellH 0;have q1:OV cc a0 1 (OT H):=j.side.tail.tail.cellH 1;have aj:KR.m=m:=by rw[<-cG.o.1];exact ba.o.1
       have cd:=Za0 W0 cc Z bm {KR with P:=Yb V} O jv _ ⟨E,H⟩ j (by rw[show({KR with P:=Yb V}:Kp).m=m from aj];exact aM.o.1) (by rw[show({KR with P:=Yb V}:Kp).m=m from aj];exact HX.o.2.2.2.1) (by rw[show({KR with P:=Yb V}:Kp).m=m from aj];have:=cw.o;exact⟨this.1,this.2.1,this.2.2.1⟩) (HX.o.2.2.1 rfl) (by have:=HX.o.2.2.2.2.1;show(Yb V).length<=_;omega);rw[HY.o.2.2.1,HY.o.2.2.2]at cd;have cX:=Hi cd;unfold xC za qa at cX;clear j aj cd;go_wp2_with (go_at_call 93;refine cX.o.mono ?_;rintro e' ck ⟨rfl,h4,dx,bE,dl⟩;have cR:=Hi (jy dx bE);have dL:=Hi dl;clear dx bE dl);have cx:=dL.o;have ae:=Hi (show Vak W0 Z bm KR b bj J bS r jv N L ck from⟨V++[((E,H),⟨ev,H,E,es,false⟩)],bw,oL,oS,h4,cR.o.1,cR.o.2,HX.o.1,HX.o.2.1,by
        have e:=HX.o.2.2.2.2.2;simp only[JD,Jb]at e;rw[e];exact cx.pmSub (X:=[(K.heap.size,.cells #[.string ⟨#[]⟩] 108),(a0+1,.cells #[OI ev,OT H,OI E,OI es,.bool false] 137),(a0,.cells #[OI E,OT H] 153)]) CN,HY.o.1,by rw[jr];exact HY.o.2.1⟩)
       have c9:=Hi (show yS ck.heap[r]? ck.heap[J]?<yS wr.heap[r]? wr.heap[J]? from by rw[HG.o.1,HG.o.2,cx.side.tail.tail.tail.get,cx.side.tail.tail.tail.tail.get];exact dC.o);exact⟨ae.o,c9.o⟩)
theorem St.row{a:Array Value}{M:va}(d:St V W ((n,.cells a T)::M))(c:Array Value):St V (W.setRow n c) ((n,.cells c T)::M) :=
 d.put ⟨rfl,rfl,rfl,by simp,λk f b=>by
  have:k≠n:=λT=>b (by rw[T])
  simp[World.setRow,U0,Ne.symm this]⟩ (setRow_heap W n a c T (0,0) d.get)
theorem xau(r x A b:TypeId)(k g o c h:Nat)(a:Addr)(e m:Nat)(d:Array Value)(t:TypeId)(f:List Value)
  (z:P.underlying r=some (.slice b)) (q:(P.info? b).map (·.size)=some k)
  (s:w.heap[g]?=some (.cells d t)) (C:f.length=Nat.min e c*k)
  (n:∀j v,f[j]?=some v->w.cell? (a.add j)=some v) (l:o+f.length<=d.size) (u:∀v∈f,v.oneCell'=true) :
  (Builtin.copy_ #[r,x] A #[.slice (some ⟨g,o,none⟩) c h,.slice (some a) e m]).run P w =
   .ok (goInt (Nat.min e c)) (w.setRow g (d.toList.take o++f++d.toList.drop (o+f.length)).toArray):=by
 have y:=run_loadCells_list (P:=P) w a f n;have p:=run_storeCells_at P g o t f 0 d w s (by simpa using l) u;cases hq:P.info? b with
 |none=>simp[hq]at q
 |some i =>
  have B:i.size=k:=by simpa [hq] using q
  simp[Builtin.copy_,UB z,Builtin.lenOf,Builtin.firstCells,sizeOf,typeInfo,hq,B,<-C,y,p]
theorem xF(p s t b:TypeId)(k g o c f:Nat)(a:Addr)(e h m:Nat)(d:Array Value)(i:List Value)
  (x:P.underlying p=some (.slice b)) (y:(P.info? b).map (·.size)=some k)
  (r:St W V ((g,.cells d b)::F)) (q:Nat.min e c=m) (z:i.length=m*k)
  (n:∀j v,i[j]?=some v->V.cell? (a.add j)=some v) (l:o+i.length<=d.size) (u:∀v∈i,v.oneCell'=true) :
  ∃w',(Builtin.copy_ #[p,s] t #[.slice (some ⟨g,o,none⟩) c f,.slice (some a) e h]).run P V=.ok (OI (m:Int)) w'/\St W w' ((g,.cells (d.toList.take o++i++d.toList.drop (o+i.length)).toArray b (0,0))::F) :=
 ⟨_,by rw[xau V p s t b k g o c f a e h d b i x y r.get (by rw[q];exact z) n l u,q];rfl,r.row _⟩
theorem St.shape{a:Array Value}{e:TypeId}(b:St V W ((n,.cells a e)::F)):W.shape? n=some (e,a.size):=by unfold World.shape?;rw[b.get]
theorem St.melt{a:Array Value}{e:TypeId}(b:St V W ((n,.cells a e)::F))(i:Nat):OZ W n i:=b.freeH i
theorem vA{a:Array Value}(k:St V W ((n,.cells a T)::F))(h:(a.toList.drop b).take X.length=X):∀j v,X[j]?=some v->W.cell? ((⟨n,b,none⟩:Addr).add j)=some v:=by
 intro j v d;have c:(⟨n,b,none⟩:Addr).add j=⟨n,b+j,none⟩:=by unfold Addr.add;split<;>simp_all
 rw[c];have i:a[b+j]?=some v:=by
  have f:j<X.length:=(jV.1 d).1;rw[<-h,List.getElem?_take,jh f,kT]at d;rw[<-J3];exact d
 simp[World.cell?,k.get,i]
end Go.Proofs.YtekkihmmclencaaGreatDoor
