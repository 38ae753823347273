import Derived.Test.YtekkihmmclencaaGreatDoorM05
namespace Go.Proofs.YtekkihmmclencaaGreatDoor
set_option linter.all false
set_option maxRecDepth 100000
set_option maxHeartbeats 40000000
open Tryz
open Go
variable(J:Kp){n:Nat}{s:Bs}{x:Int}{K:Kp}{o:Op3}{l:List En}
section
theorem vk{P:List Pr}(h:(P.map (·.id)).Nodup){i:Int}{c:Bs}:qd P i=some c<->⟨i,c⟩∈P:=by
 unfold qd;constructor
 .intro f;cases hf:P.find? (λp=>decide (p.id=i))with
  |none=>rw[hf]at f;cases f
  |some p =>
   rw[hf]at f;have g:=List.find?_some hf;have j:=List.mem_of_find?_eq_some hf;simp only[jG]at g;simp only[JE,Ug]at f;obtain⟨a,b⟩:=p;simp only at g f;rw[<-g,<-f];exact j
 .intro d;induction P with
  |nil=>cases d
  |cons p r ih =>
   rw[ju,jY]at h;by_cases hp:p.id=i
   .rw[List.find?_cons_of_pos (by simpa using hp)];rcases jp.1 d with e|d
    .rw[<-e];rfl
    .exact absurd (jg.2 ⟨_,d,hp.symm⟩) h.1
   .rw[List.find?_cons_of_neg (by simpa using hp)];rcases jp.1 d with e|d
    .rw[<-e]at hp;exact absurd rfl hp
    .exact ih h.2 d
theorem Vu{P:List Pr}{i:Int}:qd P i=none<->i∉P.map (·.id):=by
 unfold qd;simp only[Option.map_eq_none_iff,List.find?_eq_none,jG,jg,not_exists,not_and]
theorem Zae{M N:Qi}(h:∀i c,M i=some c<->N i=some c):M=N:=by
 funext i
 cases hM:M i with
 |none =>
  cases hN:N i with
  |none=>rfl
  |some c=>rw[(h i c).2 hN]at hM;cases hM
 |some c=>exact((h i c).1 hM).symm
theorem Vah{P:List Pr}(h:(P.map (·.id)).Nodup){p:Pr}(q:qd P p.id=none)(u:Up)(m:u.kind=1)(j:u.id=p.id)(k:u.code=p.code):((P++[p]).map (·.id)).Nodup/\qd (P++[p])=(qd P).apply u:=by
 have f:=Vu.1 q;have g:((P++[p]).map (·.id)).Nodup:=by
  rw[jr,Jr];exact⟨h,by simp,λa n b l e=>by simp at l;subst l;subst e;exact f n⟩
 refine⟨g,Zae λi c=>?_⟩;rw[vk g,jo,jC];unfold Qi.apply;rw[jh m];by_cases e:i=u.id
 .rw[jh e];constructor
  .rintro(d|d)
   .exact absurd (jg.2 ⟨_,d,by rw[e,j]⟩) f
   .rw[k,<-d]
  .intro o;right;obtain⟨a,b⟩:=p;simp only at j k;rw[e,j,<-k,Jv o]
 .rw[jd e,vk h];constructor
  .rintro(d|d)
   .exact d
   .exact absurd (by rw[j,<-d]) e
  .exact .inl
theorem Qah{P:List Pr}(h:(P.map (·.id)).Nodup)(id:Int)(u:Up)(g:u.kind≠1)(f:u.id=id):((P.filter (λx=>decide (x.id≠id))).map (·.id)).Nodup/\qd (P.filter (λx=>decide (x.id≠id)))=(qd P).apply u:=by
 have a:((P.filter (λx=>decide (x.id≠id))).map (·.id)).Nodup:=h.sublist ((Ua (l:=P)).map _);refine⟨a,Zae λi c=>?_⟩;rw[vk a,Jf,jG];unfold Qi.apply;rw[jd g];by_cases e:i=u.id
 .rw[jh e];constructor
  .rintro⟨_,d⟩;exact absurd (by rw[e,f]) d
  .intro j;cases j
 .rw[jd e,vk h];exact⟨λb=>b.1,λb=>⟨b,λk=>e (by rw[f];exact k)⟩⟩
theorem Q0{L:List En}(l:(L.map En.pair).Nodup){p:Int × Bs}{e:En}:Ze L p=some e<->e∈L/\e.pair=p:=by
 refine⟨zl,λ⟨h1,h2⟩=>?_⟩;cases hl:Ze L p with
 |none=>exact absurd h2 (qp.1 hl e h1)
 |some x =>
  obtain⟨h,g⟩:=zl hl;obtain⟨i,c⟩:=JP.1 h1;obtain⟨j,a⟩:=JP.1 h;have f:(L.map En.pair)[i]?=some p:=by rw[jZ,c];simp[h2]
  have k:(L.map En.pair)[j]?=some p:=by rw[jZ,a];simp[g]
  obtain⟨n,d⟩:=jV.1 f;obtain⟨m,b2⟩:=jV.1 k;have b:i=j:=(kz l).1 (by rw[d,b2]);subst b;rw[c]at a;exact a.symm
theorem qR:qD [] []:=⟨by simp,λp=>by simp[Zd,Ze]⟩
theorem zai{W:List ((Int × Bs) × (Int × Bool))}{A:List En}(h:qD W A)(e:En):qD (ye W e.pair (e.seq,e.dead)) (A++[e]):=by
 refine⟨yo h.1 _ _,λp=>?_⟩;rw[qU h.1,Vag];by_cases hp:e.pair=p
 .rw[jh hp,jh hp.symm];rfl
 .rw[jd hp,jd (λa=>hp a.symm)];exact h.2 p
theorem yai{M:Qi}:∀{A:List Up} {e:En},e∈zq M A->∃u∈A,∃N,e=Qm N u:=by
 intro A;induction A generalizing M with
 |nil=>intro e a;cases a
 |cons u r ih =>
  intro e a;rcases jp.1 a with rfl|a
  .exact⟨u,jc,M,rfl⟩
  .obtain⟨x,b,N,c⟩:=ih a;exact⟨x,jb _ b,N,c⟩
theorem VaC{M:Qi}{A:List Up}:(zq M A).map (·.seq)=A.map (·.seq):=by
 induction A generalizing M with
 |nil=>rfl
 |cons u r ih=>simp only[zq,ju,ih];rfl
theorem xam{s:Int}{l:List Up}(h:zm s l):(l.map (·.seq)).Nodup:=by
 induction l generalizing s with
 |nil=>simp
 |cons u r ih =>
  rw[ju,jY];refine⟨λa=>?_,ih h.2⟩;obtain⟨x,b,e⟩:=jg.1 a;have:=V0 h.2 x b;have:=h.1;omega
theorem QaC{w:Nat}:∀{A:List Up} {M:Qi},(∀i c,M i=some c->c.length=w)->(∀u∈A,u.fit w)->qC M A->∀e∈zq M A,e.code.length=w/\0<=e.id/\e.id<=281474976710656:=by
 intro A;induction A with
 |nil=>intro M _ _ _ e d;cases d
 |cons u r ih =>
  intro M h g j e d;have f:=g u jc;have b:(Qm M u).code.length=w:=by
   show(if u.kind=1 then u.code else(M u.id).getD []).length=w;rcases j.1 with⟨k,_⟩|⟨k,m⟩
   .rw[jh k];exact f.c1 k
   .rw[jd (by omega)];obtain⟨c,a⟩:=UJ.1 m;rw[a];exact h _ _ a
  rcases jp.1 d with rfl|d
  .exact⟨b,f.i0,f.i1⟩
  .refine ih (λi c a=>?_) (λx l=>g x (jb _ l)) j.2 e d;unfold Qi.apply at a;split at a
   .split at a
    .rename_i k
     rw[<-Jv a];exact f.c1 k
    .cases a
   .exact h i c a
theorem xP{W:List ((Int × Bs) × (Int × Bool))}(h:(W.map (·.1)).Nodup):((Zu W).map En.pair).Nodup:=by
 have:(Zu W).map En.pair=W.map (·.1):=by
  unfold Zu;rw[j7];rfl
 rw[this];exact h
theorem QV{W:List ((Int × Bs) × (Int × Bool))}{A:List En}(h:qD W A)(l:∀e∈A,e.value=0){e:En}:e∈Zu W<->Ze A e.pair=some e:=by
 constructor
 .intro p;obtain⟨x,q,rfl⟩:=jg.1 p;have g:Zd W x.1=some x.2:=qg h.1 q;rw[h.2]at g;cases i:Ze A x.1 with
  |none=>rw[i]at g;cases g
  |some y =>
   rw[i]at g;simp only[JE,Ug]at g;obtain⟨o,j⟩:=zl i;show Ze A (x.1.1,x.1.2)=_;rw[show(x.1.1,x.1.2)=x.1 from rfl,i];have k:=l y o;obtain⟨a,b,c,d,f⟩:=y;simp only[En.pair]at j k g;simp only[Ug,En.mk.injEq];rw[<-j,<-g];exact⟨k,rfl,rfl,rfl,rfl⟩
 .intro i;obtain⟨m,_⟩:=zl i;have g:=h.2 e.pair;rw[i]at g;simp only[JE]at g;have n:=Qq g;refine jg.2 ⟨_,n,?_⟩;have k:=l e m;obtain⟨a,b,c,d,f⟩:=e;simp only[En.pair]at *;rw[k]
theorem Yat{W:List ((Int × Bs) × (Int × Bool))}{A:List En}(h:qD W A)(d:∀e∈A,e.value=0):Zau A (Qo (Zu W)):=by
 intro p;have b:=xP h.1;rw[<-QU b (Yr _).symm p];cases hl:Ze A p with
 |none =>
  rw[qp]at *;intro e g f;have:=(QV h d).1 g;obtain⟨c,a⟩:=zl this;exact hl e c f
 |some e =>
  obtain⟨c,a⟩:=zl hl;refine(Q0 b).2 ⟨(QV h d).2 ?_,a⟩;rw[a];exact hl
section files
variable {K:Kp} {m0:Mf} {s:Nat}
theorem qJ{n:Bs}:n∈(K.filesAt m0 s).map (·.1)<->n=Yc\/n=Qa K.m.journal.toNat\/∃r∈K.runs,∃j,j<Qd K.m.o/\n=Ve r.info.number.toNat j:=by
 unfold Kp.filesAt;simp only[ju,jp,List.map_flatMap,JB,Vb,j7,jg,Ud,Kv,YA];constructor
 .rintro(h|h|⟨r,b,j,a,e⟩)
  .exact .inl h
  .exact .inr (.inl h)
  .exact .inr (.inr ⟨r,b,j,a,e.symm⟩)
 .rintro(h|h|⟨r,b,j,a,e⟩)
  .exact .inl h
  .exact .inr (.inl h)
  .exact .inr (.inr ⟨r,b,j,a,e.symm⟩)
theorem zw(o:Op3)(i:RI)(l:List En):(Vb o i l).length=Qd o:=by simp[Vb]
theorem Zy{o:Op3}{i:RI}{l:List En}(h:ym o i l):Xf (Vb o i l)<=51200*((l.length:Int)+1):=by
 have g:=(Yj h.opt).2;have key:∀a:List Nat,(∀j∈a,j<Qd o)->Xf (a.map (YA o i l))<=a.length*(400*((l.length:Int)+1)):=by
  intro a;induction a with
  |nil=>intro _;simp[Xf]
  |cons j r ih =>
   intro b;have c:=Z0 h (b j jc);have e:=ih λk d=>b k (jb _ d)
   rw[ju,Zc,jk];have f:((YA o i l j).2.data.length:Int)=((Zp o i l j).length:Int):=rfl
   push_cast
   rw[Int.add_mul,Int.one_mul];omega
 have c:=key (List.range (Qd o)) λj b=>Ud.1 b
 rw[Uh]at c;refine U7 c ?_;have e:(Qd o:Int)*(400*((l.length:Int)+1))<=128*(400*((l.length:Int)+1)):=Ks (by omega) (by omega);omega
theorem ZaS:∀{R:List Qj} {o:Op3},(∀r∈R,ym o r.info r.list)->Xf (R.flatMap λr=>Vb o r.info r.list)<=51200*(((R.flatMap (·.list)).length:Int)+R.length)/\(R.flatMap λr=>Vb o r.info r.list).length=Qd o*R.length:=by
 intro R;induction R with
 |nil=>intro o _;simp[Xf]
 |cons r s ih =>
  intro o h;obtain⟨c,a⟩:=ih λx b=>h x (jb _ b)
  have d:=Zy (h r jc);simp only[jB,ja,jk];rw[vM,a,zw];refine⟨by push_cast;omega,by rw[Nat.mul_succ];omega⟩
end files
structure Xp (K:Kp):Prop where
 room:5000+51200*(2*(K.all.length:Int)+2*K.past.length+K.runs.length+2)<=K.d.cap
 held:K.held<=4000
 seq:K.seq<=1000000
 next:K.m.next<=1000000
 live:K.P.length<=4000
theorem Inv.w{K:Kp}(h:Inv K):8<=K.m.o.width.toNat/8/\K.m.o.width.toNat/8<=128/\K.m.o.width.toNat/8%8=0/\Xc K.m.o.width=true/\K.m.o.width/8=((K.m.o.width.toNat/8:Nat):Int):=by
 obtain⟨a,b,c,_⟩:=yM h.good.o;exact⟨by omega,by omega,by omega,(yf h.good.o).1,by omega⟩
theorem Inv.runsLen{K:Kp}(h:Inv K):K.runs.length<=24:=by
 have:=h.good.len;rw[<-h.info,jz]at this;exact this
theorem Inv.size{K:Kp}(h:Inv K){m0:Mf}{s:Nat}(f:m0.good):Xf (K.filesAt m0 s)<=1014+160*(K.past.length:Int)+51200*((K.all.length:Int)+K.runs.length)/\(K.filesAt m0 s).length<=3074:=by
 obtain⟨k,c⟩:=ZaS h.ok;have d:=h.runsLen;have i:=vT f;obtain⟨g,e,j,_⟩:=h.w;have l:=qae h.fit e;have a:=(Yj h.good.o).2;unfold Kp.filesAt;rw[Zc,Zc];have b:((Xi (mfB m0)).data.length:Int)=((mfB m0).length:Int):=rfl;refine⟨?_,?_⟩
 .simp only[b];unfold Kp.all;omega
 .simp only[jk,c];have:Qd K.m.o*K.runs.length<=128*24:=Jg a d;omega
theorem Inv.isOpen{K:Kp}(h:Inv K):K.shut=false:=by
 unfold Kp.shut;rw[h.gone,h.calm.on,h.age];simp
theorem Inv.jopen{K:Kp}(h:Inv K):K.j.shut K.d=false:=by
 unfold Jn.shut;rw[h.j.2.1,h.calm.on,h.j.1,h.age];simp
theorem qq{K:Kp}(h:K.shut=false)(f:Kp->Kp × Int):K.gate f=({ (f K).1 with gone:=decide ((f K).2=45)},(f K).2):=by
 unfold Kp.gate;rw[jd (by rw[h];decide)]
theorem Inv.goneF{K:Kp}(h:Inv K):({K with gone:=false}:Kp)=K:=by
 have:=h.gone;cases K;simp only at this;subst this;rfl
end
theorem Qy(h:Xc x=true)(a:(s.length:Int)=x/8):Qh x s=0:=by
 unfold Qh;rw[jd (by rw[h];decide),jd (by omega)]
def vh(P:List Pr)(u:Up):Pr:=⟨u.id,if u.kind=1 then u.code else(qd P u.id).getD []⟩
theorem YaS(h:Inv K)(e:Xp K){u:Up}(n:(qd K.P).goes u)(v:0<=u.id)(t:u.id<=281474976710656)(j:u.kind=1->u.code.length=K.m.o.width.toNat/8):K.goes u=(vh K.P u,0):=by
 obtain⟨q,x,s,f,l⟩:=h.w;have i:=h.wlen;have g:=e.held;have r:=e.live;unfold Kp.held at g;have a:∀p:Pr,(if(Zd K.words (p.id,p.code)).isNone/\65536<=K.words.length then((⟨0,[]⟩,152):Pr × Int)else(p,0))=(p,0):=λp=>by rw[jd];rintro⟨_,y⟩;omega
 unfold Kp.goes;simp only[a];rw[jd (by omega)];rcases n with⟨k,d⟩|⟨k,d⟩
 .rw[jd (by omega),Qy f (by rw[j k,l]),jd (by decide),d,jd (by simp),jd (by omega)];unfold vh;rw[jh k];exact a ⟨u.id,u.code⟩
 .rw[jh k];obtain⟨c,b⟩:=UJ.1 d;simp only[b];rw[a ⟨u.id,c⟩];unfold vh;rw[jd (by omega),b];rfl
theorem Kp.headJ(a:Mf)(s:Nat):(J.filesAt a s).Perm ((Qa J.m.journal.toNat,⟨vf J.past,s⟩)::(Yc,Xi (mfB a))::J.runs.flatMap λr=>Vb J.m.o r.info r.list):=JC _ _ _
theorem yax(h:Inv K)(B:Xp K){u:Up}(i:u.fit (K.m.o.width.toNat/8))(f:u.seq=K.seq+1):
  ∃d',K.j.append K.d u=({K.j with gone:=false,last:=u.seq},d',0)/\Yh K.d d'/\∀e s,K.d.files.Perm (K.filesAt e s)->d'.files.Perm ((Qa K.m.journal.toNat,⟨vf (K.past++[u]),s⟩)::(Yc,Xi (mfB e))::K.runs.flatMap λr=>Vb K.m.o r.info r.list):=by
 obtain⟨R,t,F,D,P⟩:=h.w;obtain⟨e,s,Q,W,I,N⟩:=h.disk;obtain⟨U,T⟩:=h.size (s:=s) I;have L:=B.held;have y:=B.room;have p:=h.calm.wf.c1;unfold Kp.held at L;have H:=yam i t;have G:=qae h.fit t;have a:=N.trans (K.headJ e s);obtain⟨x,C,O,V⟩:=vJ (b:=upB u) h.calm a (by simp only;omega) (by rw[<-yk (K.headJ e s)];omega);refine⟨x,?_,O,λM n J=>?_⟩
 .have v:K.d.append K.j.name (upB u)=(x,0):=by rw[h.j.2.2.1];exact C
  have c:¬ (u.kind=1/\Qh K.j.w u.code≠0):=by
   rintro⟨k,q⟩;exact q (by rw[h.j.2.2.2.1];exact Qy D (by rw[i.c1 k,P]))
  unfold Jn.append;rw[jd (by rw[h.jopen];decide),jd (by rw[yaq i (by omega) t F];decide),jd c,jd (by rw[h.j.2.2.2.2,f];simp),v];simp
 .have g:=J.trans (K.headJ M n);have q:=Vn h.calm.wf.nodup g;have A:=Vn h.calm.wf.nodup a;rw[q]at A;have l:n=s:=by simpa using A
  subst l;obtain⟨S,z,X,E⟩:=vJ (b:=upB u) h.calm g (by simp only;omega) (by rw[<-yk g,yk a,<-yk (K.headJ e n)];omega);rw[C]at z;cases z;rw[zaq];exact E
theorem VS(h:Inv K)(E:Xp K){u:Up}(A:(qd K.P).goes u)(i:({u with seq:=K.seq+1}:Up).fit (K.m.o.width.toNat/8)):
  ∃K',K.update u=(K',0)/\Inv K'/\K'.m=K.m/\K'.runs=K.runs/\K'.past=K.past++[{u with seq:=K.seq+1}]/\K'.P=(if u.kind=2 then K.P.filter (λx=>decide (x.id≠u.id))else K.P++[⟨u.id,u.code⟩])/\Yh K.d K'.d:=by
 obtain⟨w1,w2,w3,w4,w5⟩:=h.w;have M:=E.seq;have D:=YaS h E A i.i0 i.i1 i.c1;obtain⟨T,J,F,G⟩:=yax h E i rfl;have hk:u.kind=1\/u.kind=2:=i.k;have W:(if u.kind=2 then K.P.filter (λx=>decide (x.id≠(vh K.P u).id))else K.P++[vh K.P u])=(if u.kind=2 then K.P.filter (λx=>decide (x.id≠u.id))else K.P++[⟨u.id,u.code⟩]):=by
  split
  .rfl
  .unfold vh;rw[jh (by omega)]
 obtain⟨b,c⟩:∃b:Up,b={u with seq:=K.seq+1}:=⟨_,rfl⟩;rw[<-c]at i J G;have B:(qd K.P).goes b:=by subst c;exact A
 have y:b.kind=u.kind:=by subst c;rfl
 have e:b.id=u.id:=by subst c;rfl
 have g:b.code=u.code:=by subst c;rfl
 have f:b.seq=K.seq+1:=by subst c;rfl
 obtain⟨n,a⟩:∃n:Kp,n={K with
   j:={K.j with gone:=false,last:=b.seq}
   d:=T
   words:=ye K.words ((vh K.P u).id,(vh K.P u).code) (b.seq,decide (b.kind=2))
   wlast:=b.seq
   P:=if b.kind=2 then K.P.filter (λx=>decide (x.id≠(vh K.P u).id))else K.P++[vh K.P u]
   past:=K.past++[b]
   gone:=false}:=⟨_,rfl⟩
 refine⟨n,?_,?_,?_,?_,?_,?_,?_⟩
 .unfold Kp.update;rw[qq h.isOpen,D];simp only[JW,jW,Jb];rw[jd (by omega),<-c,J];simp only[JW,jW,Jb];rw[a];rfl
 .obtain⟨H,s,S,U,Z,Y⟩:=h.disk;obtain⟨V,N,b2,b3,b4⟩:=h.base;have z:(n.P.map (·.id)).Nodup/\qd n.P=(qd K.P).apply b:=by
   rw[a];simp only;rcases A with⟨k,I⟩|⟨k,I⟩
   .rw[jd (by omega)];have:vh K.P u=⟨u.id,u.code⟩:=by unfold vh;rw[jh k]
    rw[this];exact Vah h.ids (p:=⟨u.id,u.code⟩) I b (by omega) e g
   .rw[jh (by omega)];exact Qah h.ids (vh K.P u).id b (by omega) e
  have l:n.seq=K.seq+1:=by
   rw[a];show K.m.seq+((K.past++[b]).length:Int)=K.m.seq+(K.past.length:Int)+1;rw[ja,j8];push_cast;omega
  have t:(Qm (qd K.P) b).pair=((vh K.P u).id,(vh K.P u).code):=by
   show(b.id,if b.kind=1 then b.code else(qd K.P b.id).getD [])=_;unfold vh;rw[e,y,g]
  have r:(Qm (qd K.P) b).dead=decide (b.kind=2):=by
   show decide (b.kind≠1)=_;rcases i.k with k|k<;>simp[k]
  refine
   {calm:=?_,age:=?_,gone:=?_,good:=?_,disk:=?_,info:=?_,ok:=?_,seqs:=?_,j:=?_,num:=?_,fit:=?_,base:=?_,wlast:=?_,wlen:=?_,ids:=z.1,prs:=?_}
  .rw[a];exact F.calm
  .rw[a];exact h.age.trans F.age.symm
  .rw[a]
  .rw[a];exact h.good
  .refine⟨H,s,by rw[a];exact S,by rw[a];exact U,Z,?_⟩;have:=G H s Y;rw[a];exact this.trans (JC _ _ _)
  .rw[a];exact h.info
  .rw[a];exact h.ok
  .rw[a];exact h.seqs
  .obtain⟨O,j2,Q,R,j5⟩:=h.j;refine⟨by rw[a];exact O,by rw[a],by rw[a];exact Q,by rw[a];exact R,?_⟩;rw[l,<-f,a]
  .rw[a];refine zax.2 ⟨h.num,?_⟩;exact⟨by rw[f];rfl,trivial⟩
  .rw[a];intro x v;rcases jo.1 v with v|v
   .exact h.fit x v
   .rw[jC]at v;subst v;exact i
  .refine⟨V,by rw[a];exact N,?_,?_,?_⟩
   .rw[a];refine(yaQ _ _ _).2 ⟨b2,?_⟩;rw[b3];exact⟨B,trivial⟩
   .have C:n.past=K.past++[b]:=by rw[a]
    rw[C,zR,b3,z.2];rfl
   .have C:n.past=K.past++[b]:=by rw[a]
    have X:n.words=ye K.words (Qm (qd K.P) b).pair ((Qm (qd K.P) b).seq,(Qm (qd K.P) b).dead):=by
     rw[t,r,a];rfl
    rw[C,X,Qag,b3];exact zai b4 _
  .rw[l,<-f,a];exact Jy _
  .have:=h.wlen;rw[a];simp only;rw[Yy,ja,j8];split<;>omega
  .rw[a];intro p q;simp only at q;split at q
   .exact h.prs p (Jf.1 q).1
   .rcases jo.1 q with q|q
    .exact h.prs p q
    .rw[jC]at q;subst q;have L:u.kind=1:=by omega
     have:=i.c1 (by omega);unfold vh;rw[jh L];exact⟨by have:=i.i0;rw[e]at this;exact this,by have:=i.i1;rw[e]at this;exact this,by rw[g]at this;exact this⟩
 .rw[a]
 .rw[a]
 .rw[a,<-c]
 .rw[<-W,<-y,a]
 .rw[a];exact F
theorem qa4(h:Inv K):∃K',K.sync=(K',0)/\Inv K'/\K'.m=K.m/\K'.runs=K.runs/\K'.past=K.past/\K'.P=K.P/\Yh K.d K'.d:=by
 obtain⟨e,s,n,f,p,l⟩:=h.disk;obtain⟨b,o,a,i⟩:=Y0 h.calm (l.trans (K.headJ e s));have c:K.d.sync K.j.name=(b,0):=by rw[h.j.2.2.1];exact o
 have k:K.j.sync K.d=({K.j with gone:=false,synced:=K.j.last},b,0):=by
  unfold Jn.sync;rw[jd (by rw[h.jopen];decide),c];simp
 refine⟨{K with j:={K.j with gone:=false,synced:=K.j.last},d:=b,synced:=K.seq,gone:=false},?_,?_,rfl,rfl,rfl,rfl,a⟩
 .unfold Kp.sync;rw[qq h.isOpen];simp only[k,JW,jW,Jb];rfl
 .obtain⟨q,u,r,t,g⟩:=h.j;exact
   {calm:=a.calm,age:=h.age.trans a.age.symm,gone:=rfl,good:=h.good
    disk:=⟨e,(vf K.past).length,n,f,p,i.trans (JC _ _ _)⟩
    info:=h.info,ok:=h.ok,seqs:=h.seqs,j:=⟨q,rfl,r,t,g⟩,num:=h.num,fit:=h.fit,base:=h.base,wlast:=h.wlast,wlen:=h.wlen,ids:=h.ids,prs:=h.prs}
theorem XaS{m:Mf}(h:m.good){n:Int}(a:m.next<=n)(c:n<=1099511627776):({m with next:=n}:Mf).good where
 o:=h.o
 s0:=h.s0
 s1:=h.s1
 n0:=U7 h.n0 a
 n1:=c
 j0:=h.j0
 j1:=by have:=h.j1;show m.journal<=n-1;omega
 len:=h.len
 runs:=zy (m:=m) (n:={m with next:=n}) a (Jy _) h.runs (Jy _) (λ_ _ b=>b)
theorem ZM(h:Inv K)(k:Xp K):∃K',K.number=(K',0)/\Inv K'/\K'.m={K.m with next:=K.m.next+1}/\K'.runs=K.runs/\K'.past=K.past/\K'.P=K.P/\K'.d=K.d:=by
 have p:=k.next;refine⟨{K with m:={K.m with next:=K.m.next+1},gone:=false},?_,?_,rfl,rfl,rfl,rfl,rfl⟩
 .unfold Kp.number;rw[qq h.isOpen,jd (by omega)];rfl
 .obtain⟨a,s,e,o,f,c⟩:=h.disk;obtain⟨g,l,i,n,b⟩:=h.j;exact
   {calm:=h.calm,age:=h.age,gone:=rfl,good:=XaS h.good (by omega) (by omega)
    disk:=⟨a,s,e,by show a.next<=K.m.next+1;omega,f,c⟩
    info:=h.info,ok:=h.ok,seqs:=h.seqs,j:=⟨g,l,i,n,b⟩,num:=h.num,fit:=h.fit,base:=h.base,wlast:=h.wlast,wlen:=h.wlen,ids:=h.ids,prs:=h.prs}
theorem XaF{L A:List En}(c:∀e∈L,e∈A)(s:(A.map (·.seq)).Nodup)(d:(L.map En.pair).Nodup):(L.map (·.seq)).Nodup:=by
 unfold List.Nodup at d|-
 rw[Uu]at d|-
 refine d.imp_of_mem λ{a b} o q f e=>f ?_
 have p:=c a o;have m:=c b q;obtain⟨i,k⟩:=JP.1 p;obtain⟨j,g⟩:=JP.1 m;have n:(A.map (·.seq))[i]?=some a.seq:=by rw[jZ,k];rfl
 have r:(A.map (·.seq))[j]?=some a.seq:=by rw[jZ,g,e];rfl
 obtain⟨t,l⟩:=jV.1 n;obtain⟨u,b2⟩:=jV.1 r;have h:i=j:=(kz s).1 (by rw[l,b2]);subst h;rw[k]at g;rw[Jv g]
theorem Inv.standing(h:Inv K):∀r∈K.runs,1<=r.info.number/\r.info.number<=K.m.next-1/\0<=r.info.lo/\r.info.lo<r.info.hi/\r.info.hi<=K.m.seq:=by
 intro r a;have:=yl h.good.runs r.info (by rw[<-h.info];exact jg.2 ⟨r,a,rfl⟩);exact⟨this.1,this.2.1,this.2.2.2.2.1,this.2.2.2.2.2.1,this.2.2.2.2.2.2.1⟩
theorem Inv.allMem(h:Inv K):∀e∈K.all,e.code.length=K.m.o.width.toNat/8/\0<=e.id/\e.id<=281474976710656/\e.seq<=K.m.seq/\0<e.seq/\e.value=0:=by
 intro e a;obtain⟨r,c,a⟩:=JB.1 a;have b:=h.ok r c;have f:=h.standing r c;have d:=b.seq e a;exact⟨b.code e a,(b.id e a).1,(b.id e a).2,by omega,by omega,b.zero e a⟩
theorem VaS{M:Qi}(h:qO M l)(f:∀e∈l,e.code.length=n):∀i c,M i=some c->c.length=n:=by
 intro i c a;obtain⟨e,d⟩:=(h i c).1 a;obtain⟨a,b⟩:=zl (qS.1 d).1;simp only[En.pair,Je]at b;rw[<-b.2];exact f e a
theorem xai(h:Inv K)(A:Xp K)(k:K.past≠[]):ym K.m.o ⟨K.m.next,K.m.seq,K.seq,(K.waiting.length:Int)⟩ K.waiting/\K.waiting≠[]/\K.waiting.length<=K.past.length/\(∀e∈K.waiting,K.m.seq<e.seq/\e.seq<=K.seq)/\(K.waiting.map (·.seq)).Nodup/\qO (qd K.P) (K.all++K.waiting):=by
 obtain⟨j,w,b2,b3,b4⟩:=h.base;have t:∀e∈zq j K.past,e.value=0:=λe c=>by
  obtain⟨u,_,N,rfl⟩:=yai c;rfl
 have z:=xP b4.1;have b:=Yr (Zu K.words);have a:∀e∈K.waiting,e∈zq j K.past:=λe c=>(zl ((QV b4 t).1 (b.mem_iff.1 c))).1
 have d:=QaC (VaS w λe c=>(h.allMem e c).1) h.fit b2;have f:∀e∈K.waiting,K.m.seq<e.seq/\e.seq<=K.seq:=λe c=>by
  obtain⟨u,D,N,n⟩:=yai (a e c);have:=V0 h.num u D;have E:e.seq=u.seq:=by rw[n];rfl
  rw[E];exact this
 have l:K.waiting.length=K.words.length:=by
  unfold Kp.waiting;rw[b.length_eq,Zu,jz]
 have B:=h.wlen;have g:=A.held;unfold Kp.held at g;have y:0<K.past.length:=JI.2 k;have s:K.seq=K.m.seq+(K.past.length:Int):=rfl;have C:=A.seq;have F:=h.good.n0;have q:=h.good.n1;have p:(K.waiting.map En.pair).Nodup:=((b.map _).nodup_iff).2 z;refine⟨⟨h.good.o,h.good.s0,by show K.m.seq<K.seq;omega,by show K.seq<=_;omega,by show 1<=K.m.next;omega,q,rfl,by omega,vR (qy z),λe c=>t e (a e c),λe c=>(d e (a e c)).1,λe c=>(d e (a e c)).2,f⟩,?_,by omega,f,XaF a (by rw[VaC];exact xam h.num) p,?_⟩
 .intro n;have v:K.words=[]:=Uc.1 (by rw[<-l,n];rfl);cases hpast:K.past with
  |nil=>exact k hpast
  |cons u r =>
   have i:=b4.2 (Qm j u).pair;rw[v,hpast]at i;cases hl:Ze (zq j (u::r)) (Qm j u).pair with
   |none=>exact qp.1 hl (Qm j u) jc rfl
   |some x=>rw[hl]at i;cases i
 .have i:=xaJ w b2;rw[b3]at i;exact qx.says i (Zau.same (Yat b4 t))
theorem zW(h:Qb o=0)(x:Int)(a:0<=x):(Qd o:Int)*x<=128*x:=Ks (by have:=(Yj h).2;omega) a
theorem xaK(h:Inv K){a:Mf}(f:K.m.next<=x)(j:Nat):Ve x.toNat j∉(K.filesAt a n).map (·.1):=by
 rw[qJ];rintro(e|e|⟨r,b,k,_,e⟩)
 .exact Qbk _ _ e
 .exact xah _ _ _ e.symm
 .have d:=(Zap e).1;have c:=h.standing r b;omega
theorem zbl{K:Kp}(h:Inv K){a:Mf}{s:Nat}{n:Int}(g:K.m.next<=n):Qa n.toNat∉(K.filesAt a s).map (·.1):=by
 rw[qJ];rintro(e|e|⟨r,c,k,_,e⟩)
 .exact QaR _ e
 .have d:=VaR e;have b:=h.good.j0;have f:=h.good.j1;omega
 .exact xah _ _ _ e
theorem Za4{m0:Mf}{s:Nat}:Xb∉(K.filesAt m0 s).map (·.1):=by
 rw[qJ];rintro(e|e|⟨r,a,k,_,e⟩)
 .exact Zah e.symm
 .exact vah _ e.symm
 .exact qah _ _ e.symm
theorem yw{i:RI}(h:s∈(Vb o i l).map (·.1)):∃j,j<Qd o/\s=Ve i.number.toNat j:=by
 unfold Vb at h;rw[j7]at h;obtain⟨j,a,e⟩:=jg.1 h;exact⟨j,Ud.1 a,e.symm⟩
theorem vai(h:Inv K)(i:Xp K)(f:K.runs.length<24){c:Int}(l:1<=c)(p:c<=2097152)(hlt:K.m.seq<K.seq):({K.m with runs:=K.m.runs++[⟨K.m.next,K.m.seq,K.seq,c⟩],seq:=K.seq,journal:=K.m.next+1,next:=K.m.next+2}:Mf).good:=by
 obtain⟨o,n,v,w,u,t,s,q,d⟩:=h.good;have j:=i.seq;have k:=i.next;have a:=yl d;refine⟨o,by show 0<=K.seq;omega,by show K.seq<=_;omega,by show 2<=K.m.next+2;omega,by show K.m.next+2<=_;omega,by show 1<=K.m.next+1;omega,by show K.m.next+1<=K.m.next+2-1;omega,?_,?_⟩
 .show(K.m.runs++[_]).length<=24;rw[ja,j8,<-h.info,jz];omega
 .show qf _ [K.m.next+1] 0 (K.m.runs++[_])=true;refine yq.2 ⟨zy (m:=K.m) (by show K.m.next<=K.m.next+2;omega) (by show K.m.seq<=K.seq;omega) d (Jy _) (λr f b=>?_),?_⟩
  .rw[jC]at b;have:=a r f;omega
  .have g:(K.m.runs.getLast?.map (·.hi)).getD 0<=K.m.seq:=by
    cases hg:K.m.runs.getLast? with
    |none=>exact n
    |some r=>exact(a r (U2 hg)).2.2.2.2.2.2.1
   unfold qf;rw[jd]
   .rfl
   .unfold RI.bad;simp only[Kc];refine⟨λb=>?_,by omega,by omega,by omega,by omega,by omega,by omega,by omega⟩;rcases jo.1 b with b|b
    .rw[jC]at b;omega
    .obtain⟨r,f,e⟩:=jg.1 b;have:=a r f;omega
theorem Z1(h:Inv K)(I:Xp K)(C:K.past≠[])(z:K.runs.length<24):
  ∃p,K.flush=(p,0)/\Inv p/\p.P=K.P/\p.past=[]/\p.m.o=K.m.o/\p.m.seq=K.seq/\p.m.next=K.m.next+2/\p.all.length+p.past.length<=K.held/\p.d.cap=K.d.cap/\p.d.age=K.d.age/\p.runs.length=K.runs.length+1:=by
 obtain⟨J,Y,w3,Z,w5,w6⟩:=xai h I C;obtain⟨m0,s,f1,f2,f3,f4⟩:=h.disk;obtain⟨z1,z2⟩:=h.size (s:=s) f3;have D:=I.held;have a5:=I.room;have a8:=I.seq;have aa:=I.next;unfold Kp.held at D;have a0:0<K.past.length:=JI.2 C;have G:0<K.waiting.length:=JI.2 Y;have Q:K.seq=K.m.seq+(K.past.length:Int):=rfl;have ad:=h.good.n0;have ac:=h.good.j0;have a9:=h.good.j1;obtain⟨W,hW⟩:=EN K.waiting;rw[<-hW]at J Y w3 Z w5 w6 G;obtain⟨info,M⟩:∃i:RI,i=⟨K.m.next,K.m.seq,K.seq,(W.length:Int)⟩:=⟨_,rfl⟩;rw[<-M]at J;have E:info.number=K.m.next:=by rw[M]
 have k:=vai h I z (c:=(W.length:Int)) (by omega) (by omega) (by omega);rw[<-M]at k;obtain⟨q,l⟩:∃q:Mf,q={K.m with runs:=K.m.runs++[info],seq:=K.seq,journal:=K.m.next+1,next:=K.m.next+2}:=⟨_,rfl⟩;rw[<-l]at k;have a6:=zW h.good.o (400*((W.length:Int)+1)) (by omega);have S:=(Yj h.good.o).2;obtain⟨d1,e1,U,p1⟩:=XC J (by omega) h.calm f4 (λj _=>by rw[E];exact xaK h (Jy _) j) (by omega) (by omega);have a7:=Zy J;have O:Qa (K.m.next+1).toNat∉(Vb K.m.o info W++K.filesAt m0 s).map (·.1):=by
  rw[jr,jo];rintro(H|H)
  .obtain⟨j,_,e⟩:=yw H;exact xah _ _ _ e
  .exact zbl h (by omega) H
 obtain⟨d2,e2,N,p2⟩:=XB U.calm p1 (QO (n:=(K.m.next+1).toNat) (by omega)) O (by rw[ja,zw];omega);have F:d2.files.Perm ([Xi (mfB m0)].map (λf=>(Yc,f))++((Qa (K.m.next+1).toNat,⟨[],0⟩)::(Vb K.m.o info W++((Qa K.m.journal.toNat,⟨vf K.past,s⟩)::K.runs.flatMap λr=>Vb K.m.o r.info r.list)))):=by
  refine p2.trans ?_;unfold Kp.filesAt;refine(Jm _ Jd).trans ?_;exact JC _ _ _
 have B:=N.calm.wf.nodup' F;have T:Yc∉(((Qa (K.m.next+1).toNat,(⟨[],0⟩:zc))::(Vb K.m.o info W++((Qa K.m.journal.toNat,⟨vf K.past,s⟩)::K.runs.flatMap λr=>Vb K.m.o r.info r.list)))).map (·.1):=by
  simp only[ju,Jt,jO,jK]at B;exact(jY.1 B).1
 have V:Xb∉(((Qa (K.m.next+1).toNat,(⟨[],0⟩:zc))::(Vb K.m.o info W++((Qa K.m.journal.toNat,⟨vf K.past,s⟩)::K.runs.flatMap λr=>Vb K.m.o r.info r.list)))).map (·.1):=by
  rw[ju,jp,jr,jo];rintro(e|H|H)
  .exact vah _ e.symm
  .obtain⟨j,_,e⟩:=yw H;exact qah _ _ e.symm
  .exact Za4 (K:=K) (m0:=m0) (s:=s) (jb _ H)
 have L:Xf ([Xi (mfB m0)].map (λf=>(Yc,f))++((Qa (K.m.next+1).toNat,⟨[],0⟩)::(Vb K.m.o info W++((Qa K.m.journal.toNat,⟨vf K.past,s⟩)::K.runs.flatMap λr=>Vb K.m.o r.info r.list))))=Xf (Vb K.m.o info W)+Xf (K.filesAt m0 s):=by
  rw[<-yk F,yk p2,Zc,vM];simp
 have ab:(K.runs.flatMap λr=>Vb K.m.o r.info r.list).length<=3072:=by
  unfold Kp.filesAt at z2;simp only[jk]at z2;omega
 obtain⟨d3,e3,a3,p3⟩:=qM k N.calm [Xi (mfB m0)] (by simp) F T V (by
  simp only[jk,ja,zw];omega) (by rw[L,N.cap,U.cap];omega)
 have R:d3.files.Perm ((Qa K.m.journal.toNat,⟨vf K.past,s⟩)::((Yc,Xi (mfB q))::(Qa (K.m.next+1).toNat,⟨[],0⟩)::(Vb K.m.o info W++K.runs.flatMap λr=>Vb K.m.o r.info r.list))):=by
  refine p3.trans ?_;refine(Jm _ (Jm _ Jd)).trans ?_;refine(Jm _ (JC _ _ _)).trans ?_;exact JC _ _ _
 obtain⟨d4,e4,a4,p4⟩:=XS a3.calm R;have v:=((U.trans N).trans a3).trans a4;have ae:(⟨K.d.age,false,Qa (K.m.next+1).toNat,K.m.o.width,K.seq,K.seq⟩:Jn)=⟨K.d.age,false,Qa q.journal.toNat,q.o.width,q.seq,q.seq⟩:=by rw[l]
 obtain⟨p,g⟩:∃p:Kp,p={K with d:=d4,m:=q,runs:=K.runs++[⟨info,W⟩],j:=⟨K.d.age,false,Qa (K.m.next+1).toNat,K.m.o.width,K.seq,K.seq⟩,past:=[],synced:=q.seq,words:=[],gone:=false}:=⟨_,rfl⟩;have X:K.written K.seq K.m.seq K.waiting=⟨d3,0,q,K.runs++[⟨info,W⟩],⟨K.d.age,false,Qa (K.m.next+1).toNat,K.m.o.width,K.seq,K.seq⟩⟩:=by
  rw[<-hW];unfold Kp.written;simp only[<-M,jd Y,e1,JW,jW,Jb,e2,<-l,e3]
 have t:p.all=K.all++W:=by
  rw[g];show(K.runs++[(⟨info,W⟩:Qj)]).flatMap (·.list)=_;rw[jD];simp[Kp.all]
 have w:p.seq=K.seq:=by
  rw[g];show q.seq+(([]:List Up).length:Int)=K.seq;rw[l];simp
 have A:q.o=K.m.o:=by rw[l]
 refine⟨p,?_,?_,by rw[g],by rw[g],by rw[g];exact A,by rw[g,l],by rw[g,l],?_,by rw[g];exact v.cap,by rw[g];exact v.age,by rw[g];simp⟩
 .unfold Kp.flush;rw[qq h.isOpen,jd C];unfold Kp.flushed;rw[jd (by omega),jd (by omega),X];simp only[JW,jW,Jb,e4];rw[g];rfl
 .refine
   {calm:=by rw[g];exact v.calm,age:=by rw[g];exact h.age.trans v.age.symm,gone:=by rw[g],good:=by rw[g];exact k,disk:=?_,info:=?_,ok:=?_,seqs:=?_,j:=?_,num:=(by rw[g];trivial),fit:=(by rw[g];intro u hu;cases hu),base:=?_,wlast:=?_,wlen:=by rw[g];simp,ids:=by rw[g];exact h.ids,prs:=?_}
  .refine⟨q,0,by rw[g],by rw[g];exact Jy _,k,?_⟩;have e5:p.filesAt q 0=(Yc,Xi (mfB q))::(Qa (K.m.next+1).toNat,⟨[],0⟩)::((K.runs.flatMap λr=>Vb K.m.o r.info r.list)++Vb K.m.o info W):=by
    rw[g];unfold Kp.filesAt;simp only[jD,jB,Jk,jJ,A];rw[l];rfl
   rw[e5,g];exact p4.trans (Jm _ (Jm _ JO))
  .rw[g,l];simp only[jr,h.info,ju,Jt]
  .rw[g];intro r z;simp only at z|-
   rw[A];rcases jo.1 z with z|z
   .exact h.ok r z
   .rw[jC]at z;subst z;exact J
  .rw[t,jr,Jr];refine⟨h.seqs,w5,λa ha b hb e=>?_⟩;obtain⟨x,hx,rfl⟩:=jg.1 ha;obtain⟨y,hy,rfl⟩:=jg.1 hb;have h1:=(h.allMem x hx).2.2.2.1;have h2:=(Z y hy).1;omega
  .rw[w,g];simp only;rw[l];exact⟨h.age.symm,trivial,rfl,rfl,trivial⟩
  .refine⟨qd K.P,by rw[t];exact w6,by rw[g];trivial,by rw[g];rfl,by rw[g];exact qR⟩
  .rw[w,g];exact h.wlast
  .rw[g];simp only;rw[A];exact h.prs
 .rw[t,g];simp only[ja,jA];unfold Kp.held;omega
def xr(e:En):List En->List En
 |[]=>[e.zero]
 |x::r=>if yb x.zero e.zero<0 then x::xr e r else if x.code=e.code/\x.id=e.id then(if x.seq<e.seq then e.zero else x)::r else e.zero::x::r
def Xq(a b:List En):List En:=b.foldl (λout e=>xr e out) a
def xG(l:List En):Prop:=∀e∈l,e.value=0
theorem Zk(e:En):e.zero.value=0/\e.zero.pair=e.pair/\e.zero.seq=e.seq/\e.zero.dead=e.dead:=⟨rfl,rfl,rfl,rfl⟩
theorem Y1{e:En}(h:e.value=0):e.zero=e:=by
 obtain⟨a,b,c,d,f⟩:=e;simp only at h;subst h;rfl
theorem xax{a b:En}(h:a.key=b.key)(c:En):yb a c=yb b c:=by
 simp only[En.key,Je]at h;unfold yb;rw[h.1,h.2.1,h.2.2]
theorem Yae{a b:En}(c:a.value=0)(d:b.value=0):a.key=b.key<->a.pair=b.pair:=by
 simp only[En.key,En.pair,Je,c,d,KU];exact And.comm
theorem Z9{a b:En}(h:yb a b<0)(c:a.value=0)(d:b.value=0):a.pair≠b.pair:=λe=>by
 rw[Yo.2 ((Yae c d).2 e)]at h;exact absurd h (by decide)
theorem vax(e:En):∀{l:List En},Ord l->xG l->Ord (xr e l)/\xG (xr e l)/\(∀y∈xr e l,y=e.zero\/y∈l)/\(xr e l).length<=l.length+1:=by
 intro l;induction l with
 |nil =>
  intro _ _;refine⟨List.pairwise_singleton _ _,λy a=>?_,λy a=>?_,by simp[xr]⟩
  .rw[xr,jC]at a;rw[a];rfl
  .rw[xr,jC]at a;exact .inl a
 |cons x r ih =>
  intro o i;have d:=i x jc;have q:xG r:=λy a=>i y (jb _ a)
  obtain⟨j,n⟩:=JA.1 o;obtain⟨u,s,p,A⟩:=ih n q;have b:=Y1 d;unfold xr;split
  .rename_i hlt
   rw[b]at hlt;refine⟨JA.2 ⟨λy a=>?_,u⟩,λy a=>?_,λy a=>?_,by simp only[jk];omega⟩
   .rcases p y a with rfl|a
    .exact hlt
    .exact j y a
   .rcases jp.1 a with rfl|a
    .exact d
    .exact s y a
   .rcases jp.1 a with rfl|a
    .exact .inr jc
    .rcases p y a with h|h
     .exact .inl h
     .exact .inr (jb _ h)
  .rename_i hlt
   rw[b]at hlt;split
   .rename_i g
    obtain⟨w,f⟩:=EN ((if x.seq<e.seq then e.zero else x));have m:w.key=x.key:=by
     rw[f];split
     .simp only[En.key,En.zero,Je];exact⟨d.symm,g.1.symm,g.2.symm⟩
     .rfl
    have k:w.value=0:=by
     rw[f];split
     .rfl
     .exact d
    rw[<-f];refine⟨JA.2 ⟨λy a=>by rw[xax m];exact j y a,n⟩,λy a=>?_,λy a=>?_,by simp⟩
    .rcases jp.1 a with rfl|a
     .exact k
     .exact q y a
    .rcases jp.1 a with rfl|a
     .rw[f];split
      .exact .inl rfl
      .exact .inr jc
     .exact .inr (jb _ a)
   .rename_i g
    have c:yb e.zero x<0:=by
     have z:=zr x e.zero;have v:yb x e.zero≠0:=λt=>g (by
      have:=(Yae d (Zk e).1).1 (Yo.1 t);simp only[En.pair,En.zero,Je]at this;exact⟨this.2,this.1⟩)
     omega
    refine⟨JA.2 ⟨λy a=>?_,o⟩,λy a=>?_,λy a=>?_,by simp⟩
    .rcases jp.1 a with rfl|a
     .exact c
     .exact VL c (j y a)
    .rcases jp.1 a with rfl|a
     .rfl
     .exact i y a
    .rcases jp.1 a with rfl|a
     .exact .inl rfl
     .exact .inr a
theorem XA(x:En)(r:List En)(p:Int × Bs):Ze (x::r) p=(Ze r p).or (if x.pair=p then some x else none):=by
 have:=yE [x] r p;rw[QQ]at this;exact this
theorem QaS(e:En)(p:Int × Bs):∀{l:List En},Ord l->xG l->Ze (xr e l) p=if e.pair=p then(match Ze l p with|none=>some e.zero|some x=>if x.seq<e.seq then some e.zero else some x)else Ze l p:=by
 intro l;induction l with
 |nil =>
  intro _ _;rw[xr,QQ,(Zk e).2.1,Qao]
 |cons x r ih =>
  intro u o;have k:=o x jc;have m:xG r:=λy f=>o y (jb _ f)
  obtain⟨q,t⟩:=JA.1 u;have i:=Y1 k;have n:∀y∈r,y.pair≠x.pair:=λy f d=>Z9 (q y f) k (m y f) d.symm
  unfold xr;split
  .rename_i hlt
   rw[i]at hlt;have g:=Z9 hlt k (Zk e).1;rw[(Zk e).2.1]at g;rw[XA,XA,ih t m];by_cases hp:e.pair=p
   .rw[jh hp,jh hp,jd (λd=>g (d.trans hp.symm))];cases Ze r p<;>simp
   .rw[jd hp,jd hp]
  .rename_i hlt
   rw[i]at hlt;split
   .rename_i c
    have a:x.pair=e.pair:=by simp only[En.pair,Je];exact⟨c.2,c.1⟩
    rw[XA,XA];by_cases hp:e.pair=p
    .have b:Ze r p=none:=qp.2 λy f=>by rw[<-hp,<-a];exact n y f
     rw[jh hp,b,jh (a.trans hp)];by_cases hs:x.seq<e.seq
     .simp[hs,(Zk e).2.1,hp]
     .simp[hs,a,hp]
    .rw[jd hp,jd (λd=>hp (a.symm.trans d))];have:¬ ((if x.seq<e.seq then e.zero else x).pair=p):=by
      split
      .rw[(Zk e).2.1];exact hp
      .rw[a];exact hp
     rw[jd this]
   .rename_i c
    have j:yb e.zero x<0:=by
     have w:=zr x e.zero;have v:yb x e.zero≠0:=λs=>c (by
      have:=(Yae k (Zk e).1).1 (Yo.1 s);simp only[En.pair,En.zero,Je]at this;exact⟨this.2,this.1⟩)
     omega
    rw[XA];by_cases hp:e.pair=p
    .have b:Ze (x::r) p=none:=qp.2 λy f d=>by
      rcases jp.1 f with rfl|h
      .exact Z9 j (Zk e).1 k (by rw[(Zk e).2.1,hp,d])
      .exact Z9 (VL j (q y h)) (Zk e).1 (m y h) (by rw[(Zk e).2.1,hp,d])
     rw[jh hp,b,jh (by rw[(Zk e).2.1];exact hp)];rfl
    .rw[jd hp,jd (by rw[(Zk e).2.1];exact hp)];cases Ze (x::r) p<;>rfl
theorem zaT:∀{b a:List En},Ord a->xG a->Ord (Xq a b)/\xG (Xq a b)/\(∀y∈Xq a b,y∈a\/∃e∈b,y=e.zero)/\(Xq a b).length<=a.length+b.length:=by
 intro b;induction b with
 |nil=>intro a f c;exact⟨f,c,λy d=>.inl d,by simp[Xq]⟩
 |cons e r ih =>
  intro a f c;obtain⟨g,k,i,o⟩:=vax e f c;obtain⟨j,m,l,p⟩:=ih g k;refine⟨j,m,λy d=>?_,?_⟩
  .rcases l y d with h|⟨x,n,h⟩
   .rcases i y h with h|h
    .exact .inr ⟨e,jc,h⟩
    .exact .inl h
   .exact .inr ⟨x,jb _ n,h⟩
  .show(Xq (xr e a) r).length<=_;rw[jk];omega
theorem vaK:∀{b a:List En},Ord a->xG a->(b.map En.pair).Nodup->(∀x∈a,∀e∈b,x.pair=e.pair->x.seq<e.seq)->∀p,Ze (Xq a b) p=(Ze (b.map En.zero) p).or (Ze a p):=by
 intro b;induction b with
 |nil=>intro a _ _ _ _ p;simp[Xq,Qao]
 |cons e r ih =>
  intro a k j h l p;obtain⟨m,o,n,_⟩:=vax e k j;rw[ju,jY]at h;have:=ih m o h.2 (λx d y g f=>by
   rcases n x d with rfl|d
   .exact absurd (jg.2 ⟨y,g,f.symm⟩) h.1
   .exact l x d y (jb _ g) f) p
  show Ze (Xq (xr e a) r) p=_;rw[this,QaS e p k j,ju,XA,(Zk e).2.1];by_cases hp:e.pair=p
  .have c:Ze (r.map En.zero) p=none:=qp.2 λy g f=>by
    obtain⟨z,q,rfl⟩:=jg.1 g;exact h.1 (jg.2 ⟨z,q,by rw[hp,<-f];rfl⟩)
   rw[jh hp,jh hp,c];cases hl:Ze a p with
   |none=>simp
   |some x =>
    obtain⟨d,i⟩:=zl hl;have:=l x d e jc (by rw[i,hp]);simp[this]
  .rw[jd hp,jd hp];cases Ze (r.map En.zero) p<;>simp
def Vg(o:Op3)(R:List Qj)(J:List En):List En:=R.foldl (λacc r=>Xq acc (Qc o 0 r.list)) J
theorem zaD{m:Mf}:∀(R:List Qj) (d:List Int) (c:Int) (A J:List En),qf m d c (R.map (·.info))=true->(∀r∈R,ym o r.info r.list)->(∀x∈A,x.seq<=c)->Ord J->xG J->(∀x∈J,x∈A)->(∀p,Ze J p=Ze A p) ->
  Ord (Vg o R J)/\xG (Vg o R J)/\(∀x∈Vg o R J,x∈A++R.flatMap (·.list))/\(∀p,Ze (Vg o R J) p=Ze (A++R.flatMap (·.list)) p)/\(Vg o R J).length<=J.length+(R.flatMap (·.list)).length:=by
 intro R;induction R with
 |nil=>intro d c A J _ _ _ t q u v;exact⟨t,q,λx a=>by simpa using u x a,λp=>by rw[Jk,jJ];exact v p,by simp[Vg]⟩
 |cons r s ih =>
  intro d c A J f k B t q u v;have g:=k r jc;rw[ju]at f;unfold qf at f;split at f
  .cases f
  .rename_i z
   unfold RI.bad at z;simp only[Kc]at z;have w:=vn g.ord g.zero;have i:=zA (o:=o) (j:=0) w;have n:∀e∈Qc o 0 r.list,e.zero∈r.list:=λe l=>by
    obtain⟨x,a,rfl⟩:=yG.1 l;rw[zbe,Y1 (g.zero x a)];exact a
   have y:((Qc o 0 r.list).map En.zero).Perm r.list:=by
    have:=(Yp o 0 r.list).map En.zero;rw[j7,show(En.zero ∘ En.inT o 0)=En.zero from rfl,YC g.zero]at this;exact this
   obtain⟨D,N,E,F⟩:=zaT (b:=Qc o 0 r.list) t q;have I:=vaK t q i (λx a e l O=>by
    have Q:=B x (u x a);have G:=g.seq _ (n e l);rw[(Zk e).2.2.1]at G;omega)
   have:=ih (d++[r.info.number]) r.info.hi (A++r.list) (Xq J (Qc o 0 r.list)) f (λx a=>k x (jb _ a)) (λx a=>by
    rcases jo.1 a with a|a
    .have:=B x a;omega
    .exact(g.seq x a).2) D N (λx a=>by
    rcases E x a with h|⟨e,l,rfl⟩
    .exact jx _ (u x h)
    .exact je _ (n e l)) (λp=>by
    rw[I p,yE,v p,QU (by rw[Yap];exact i) y p])
   obtain⟨C,K,H,M,P⟩:=this;have L:Vg o (r::s) J=Vg o s (Xq J (Qc o 0 r.list)):=rfl;rw[L,jB,<-jE];refine⟨C,K,H,M,?_⟩;rw[Zh]at F;rw[ja];omega
theorem ZY{m:Mf}:∀{l:List RI} {b:List Int} {a:Int},qf m b a l=true->∀r∈l,∀z,l.getLast?=some z->r.hi<=z.hi:=by
 intro l;induction l with
 |nil=>intro b a _ r c;cases c
 |cons x s ih =>
  intro b a h r c z d;unfold qf at h;split at h
  .cases h
  .cases s with
   |nil =>
    simp only[jC]at c;simp only[List.getLast?_singleton,Ug]at d;subst c;subst d;exact Jy _
   |cons y t =>
    rw[List.getLast?_cons_cons]at d;rcases jp.1 c with rfl|c
    .have f:=yl h y jc;have e:=ih h y jc z d;omega
    .exact ih h r c z d
theorem qT{m:Mf}{a:RI}{s:List RI}{b:List Int}(h:qf m b x (a::s)=true):∀r∈a::s,a.lo<=r.lo:=by
 intro r c;unfold qf at h;split at h
 .cases h
 .rename_i d
  unfold RI.bad at d;simp only[Kc]at d;rcases jp.1 c with rfl|c
  .exact Jy _
  .have:=yl h r c;omega
end Go.Proofs.YtekkihmmclencaaGreatDoor
