import Derived.Test.YtekkihmmclencaaGreatDoorShelf
import Derived.Test.YtekkihmmclencaaGreatDoorM04
namespace Go.Proofs.YtekkihmmclencaaGreatDoor
set_option linter.all false
set_option maxRecDepth 100000
set_option maxHeartbeats 40000000
open Tryz
open Go Go.RowKit Go.Sort
variable(w:World)(q c:Nat){s:Bs}{x:Int}
theorem xW(w:World)(v:Nat)(hv:v<2^64):Calls prog 122 #[.int .u64 (v:Int)] w λe w'=>e=.returned (qa (qb v))/\Below w.heap.size w w':=by
 obtain⟨i1,hi1,hz1,hz2,hz3⟩:=Vs ZO;have hlen:=zu v hv
 have hv':(v:Int)<=18446744073709551615:=by have:(2:Nat)^64=18446744073709551616:=by decide
                                            omega
 clear hv;go_enter func122,ntmps122;go_wp2_with fail;go_loopw [0,3] (λrv bv wr=>∃(r:Nat) (d:Bs) (F:va),(r:Int)<=18446744073709551615/\qb v=d++qb r/\rv=.int .u64 (r:Int)/\d.length<=1000/\Rw 5 1 bv d.length (Vc d) F/\St w wr F) (λrv _ _=>(intOf rv).toNat)
 case atStart=>exact⟨v,[],[],hv',by simp,rfl,by simp,Rw.nil _ _,St.refl w⟩
 case round =>
  obtain⟨r,d,F,hr,hd,rfl,hdl,hR,hS⟩:=hrel;have hdl':d.length<=10:=by have:=congrArg List.length hd;rw[List.length_append]at this;omega
  have HD:=hid hd;have HR:=hid hR;have HS:=hid (show St w wr (F++[]) by rw[List.append_nil];exact hS);obtain⟨ad,cap,rfl,_⟩:=hR.form;clear hR hS hd hlen;by_cases hlt:127<r
  .go_wp2_with (at_builtin;refine xh (by rfl) _ _ 103 (by rfl) 5 i1 (.int .u8 0) 1 1 underlying103 hi1 hz1 hz2 hz3 (by rfl) (by decide) (.slice ad d.length cap) d.length (Vc d) F [] (by rfl) HR.out HS.out 1 wr.heap.size _ (by rfl) (by rfl) (by rfl) (by intro u hu;simp at hu;subst hu;rfl) (by unfold maxLen;omega) (by omega) ?_);intro v' W' F' hR' hS';have e1:(r:Int)%256=((r%256:Nat):Int):=by omega
   rw[e1,Vbo _ (Nat.mod_lt _ (by decide)),qab d _ (UInt8.ofNat (r%128+128)) (by rw[zj (by omega)];congr 1;omega)]at hR';have HR':=hid hR';have HS':=hid hS';obtain⟨ad',cap',rfl,_⟩:=hR'.form;clear hR' hS' e1;go_wp2_with fail;refine⟨⟨r/128,d++[UInt8.ofNat (r%128+128)],F',by omega,?_,by rw[Int.natCast_ediv];rfl,by simp;omega,by simpa using HR'.out,by simpa using HS'.out⟩,by simp[intOf];omega⟩;rw[HD.out,zU (by omega)];simp
  .go_wp2_with (at_builtin;refine xh (by rfl) _ _ 103 (by rfl) 5 i1 (.int .u8 0) 1 1 underlying103 hi1 hz1 hz2 hz3 (by rfl) (by decide) (.slice ad d.length cap) d.length (Vc d) F [] (by rfl) HR.out HS.out 1 wr.heap.size _ (by rfl) (by rfl) (by rfl) (by intro u hu;simp at hu;subst hu;rfl) (by unfold maxLen;omega) (by omega) ?_);intro v' W' F' hR' hS';have e0:qb v=d++[UInt8.ofNat r]:=by rw[HD.out,yO (by omega)]
   have e1:(r:Int)%256=(r:Int):=by omega
   try rw[e1]at hR'
   rw[qab d _ (UInt8.ofNat r) (by rw[zj (by omega)]),<-e0]at hR';have hconv:=Zab (src:=103) (e:=5) (dst:=9) underlying103 underlying5 underlying9 hR' hS';have HS':=hid hS';obtain⟨ad',cap',rfl,_⟩:=hR'.form;clear hR' hS' e1 e0;go_wp2_with fail;go_ret;exact⟨rfl,HS'.out.below⟩
theorem Qk(a m i:Nat)(L:Int)(f:L=((128^i:Nat):Int))(g:i<=9)(d:i=9->m<=1)(c:a<128^i)(j:m<128):bits .or .u64 (a:Int) ((m:Int)*L)=((a+m*128^i:Nat):Int)/\a+m*128^i<18446744073709551616:=by
 have b:(128:Nat)^i=2^(7*i):=by rw[Nat.pow_mul]
 have k:m*128^i<=9223372036854775808:=by
  rcases kR i 9 with h|h
  .calc m*128^i<=127*128^8:=Jg (by omega) (JS (by decide) (by omega))
    _<=9223372036854775808:=by decide
  .have:i=9:=by omega
   subst this
   calc m*128^9<=1*128^9:=UO _ (d rfl)
    _<=9223372036854775808:=by decide
 have e:a<9223372036854775808:=JG c (by
  calc 128^i<=128^9:=JS (by decide) g
   _<=9223372036854775808:=by decide)
 refine⟨?_,by omega⟩;rw[f,show(m:Int)*((128^i:Nat):Int)=((m*128^i:Nat):Int) by push_cast;rfl,bits_or_u64_nat _ _ (by omega) (by omega),Nat.or_comm,b,Ui m,<-kx (by rw[<-b];exact c),KP]
def vam(at':Nat):qbk->Value
 |.ok v n=>.tuple #[.int .u64 (v:Int),.int .i64 ((at'+n:Nat):Int),.int .i64 0]
 |.bad e=>.tuple #[.int .u64 0,.int .i64 0,.int .i64 e]
theorem yz(a:UInt8)(r:Bs)(i b:Nat)(f:¬(i=9/\1<a.toNat))(d:a.toNat=0)(e:0<i):vam c (vz (a::r) i b)=.tuple #[.int .u64 0,OI 0,OI 32]:=by
 rw[vz,jd f,jh (by omega),jh ⟨d,e⟩];rfl
theorem VB(a:UInt8)(r:Bs)(i b:Nat)(x y:Int)(e:¬(i=9/\1<a.toNat))(d:a.toNat<128)(g:¬(a.toNat=0/\0<i))(h:x=((b+a.toNat%128*128^i:Nat):Int))(f:y=((c+(i+1):Nat):Int)):vam c (vz (a::r) i b)=.tuple #[.int .u64 x,OI y,OI 0]:=by
 rw[vz,jd e,jh d,jd g,h,f,KQ d];rfl
theorem QB(c:UInt8)(r:Bs)(i a:Nat)(d:¬(i=9/\1<c.toNat))(b:¬ c.toNat<128):vz (c::r) i a=vz r (i+1) (a+c.toNat%128*128^i):=by
 have:=c.toNat_lt;rw[vz,jd d,jd b,show c.toNat-128=c.toNat%128 by omega]
theorem xz(a m i:Nat)(c:a<128^i)(b:m<128):a+m*128^i<128^(i+1):=by
 rw[UX];have:m*128^i<=127*128^i:=UO _ (by omega);omega
theorem Yau(b:Bs)(g:Nat)(B:b.length<=4611686018427387904)(G:g<=b.length):Calls prog 216 #[qa b,OI (g:Int)] w (Ret (vam g (vz (b.drop g) 0 0)) w):=by
 have q:(ByteArray.mk b.toArray).size=b.length:=by simp[ByteArray.size]
 have D:decide ((g:Int)<0)=false:=by simp
 have E:decide (b.length<g)=false:=by simp;omega
 unfold qa;go_enter func216,ntmps216;go_wp2_with fail;go_loopw [7,8] (λA iv wr=>wr=w/\∃(i a:Nat),i<=9/\g+i<=b.length/\vz (b.drop g) 0 0=vz (b.drop (g+i)) i a/\a<128^i/\A=.int .u64 (a:Int)/\iv=OI (i:Int)) (λ_ iv _=>10-(intOf iv).toNat)
 case atStart=>exact⟨rfl,0,0,by omega,by omega,by simp,by simp,rfl,rfl⟩
 case round =>
  obtain⟨rfl,i,a,F,v,p,d,rfl,rfl⟩:=hrel;by_cases hend:g+i=b.length
  .have h:=Hi p;clear p;have C:decide ((g:Int)+i>=(b.length:Int))=true:=by simp;omega
   go_wp2_with fail;go_ret3;exact Ret.mk (by rw[h.o,Ut (by omega)];rfl)
  .have hlt:g+i<b.length:=by omega
   have h:=Hi p;clear p;go_upto_region 9 with(fail)
   obtain⟨c,r⟩:=NE (b[g+i]);have u:(ByteArray.mk b.toArray)[g+i]'(by rw[q];exact hlt)=c:=r;have s:b.drop (g+i)=c::b.drop (g+(i+1)):=by rw[jR hlt,r];rfl
   rw[u];have t:(c.toNat:Int)<256:=by have:=c.toNat_lt;omega
   have j:=Hi s;clear u r s;by_cases h9:i=9/\1<c.toNat
   .obtain⟨rfl,y⟩:=h9;go_wp2_with fail;go_ret3;exact Ret.mk (by rw[h.o,j.o,vz,jh ⟨rfl,y⟩];rfl)
   .have x:=Zbk c.toNat (by omega);rcases(show i=0\/i=1\/i=2\/i=3\/i=4\/i=5\/i=6\/i=7\/i=8\/i=9 by omega)with rfl|rfl|rfl|rfl|rfl|rfl|rfl|rfl|rfl|rfl
    .have n:bits .or .u64 (a:Int) ((c.toNat:Int)%128)=((a+c.toNat%128*128^0:Nat):Int):=by have:=(Qk a (c.toNat%128) 0 1 (by decide) (by decide) (by omega) d (by omega)).1;simpa using this
     have e:=(Qk a (c.toNat%128) 0 1 (by decide) (by decide) (by omega) d (by omega)).2;have f:=JQ c.toNat (show 0<128 by decide);obtain⟨l,k,m⟩:=Hi3 d e h9;clear d e h9;go_wp2_with fail
     all_goals first
      |(go_ret3;exact Ret.mk (by rw[h.o,j.o];exact yz g c _ 0 a (by omega) (by omega) (by decide)))
      |(go_ret3;exact Ret.mk (by rw[h.o,j.o];exact VB g c _ 0 a _ _ (by omega) (by omega) (by omega) (by first|rfl|(push_cast;omega)|omega) (by omega)))
      |exact⟨⟨by trivial,1,a+c.toNat%128*128^0,by omega,by omega,by rw[h.o,j.o];exact QB c _ 0 a (by omega) (by omega),xz a _ 0 l.o f,by first|rfl|(congr 1;push_cast;omega),by first|rfl|go_num⟩,by simp[intOf]⟩
    .have n:bits .or .u64 (a:Int) ((c.toNat:Int)%128*128)=((a+c.toNat%128*128^1:Nat):Int):=by have:=(Qk a (c.toNat%128) 1 128 (by decide) (by decide) (by omega) d (by omega)).1;simpa using this
     have e:=(Qk a (c.toNat%128) 1 128 (by decide) (by decide) (by omega) d (by omega)).2;have f:=JQ c.toNat (show 0<128 by decide);obtain⟨l,k,m⟩:=Hi3 d e h9;clear d e h9;go_wp2_with fail
     all_goals first
      |(go_ret3;exact Ret.mk (by rw[h.o,j.o];exact yz g c _ 1 a (by omega) (by omega) (by decide)))
      |(go_ret3;exact Ret.mk (by rw[h.o,j.o];exact VB g c _ 1 a _ _ (by omega) (by omega) (by omega) (by first|rfl|(push_cast;omega)|omega) (by omega)))
      |exact⟨⟨by trivial,2,a+c.toNat%128*128^1,by omega,by omega,by rw[h.o,j.o];exact QB c _ 1 a (by omega) (by omega),xz a _ 1 l.o f,by first|rfl|(congr 1;push_cast;omega),by first|rfl|go_num⟩,by simp[intOf]⟩
    .have n:bits .or .u64 (a:Int) ((c.toNat:Int)%128*16384)=((a+c.toNat%128*128^2:Nat):Int):=by have:=(Qk a (c.toNat%128) 2 16384 (by decide) (by decide) (by omega) d (by omega)).1;simpa using this
     have e:=(Qk a (c.toNat%128) 2 16384 (by decide) (by decide) (by omega) d (by omega)).2;have f:=JQ c.toNat (show 0<128 by decide);obtain⟨l,k,m⟩:=Hi3 d e h9;clear d e h9;go_wp2_with fail
     all_goals first
      |(go_ret3;exact Ret.mk (by rw[h.o,j.o];exact yz g c _ 2 a (by omega) (by omega) (by decide)))
      |(go_ret3;exact Ret.mk (by rw[h.o,j.o];exact VB g c _ 2 a _ _ (by omega) (by omega) (by omega) (by first|rfl|(push_cast;omega)|omega) (by omega)))
      |exact⟨⟨by trivial,3,a+c.toNat%128*128^2,by omega,by omega,by rw[h.o,j.o];exact QB c _ 2 a (by omega) (by omega),xz a _ 2 l.o f,by first|rfl|(congr 1;push_cast;omega),by first|rfl|go_num⟩,by simp[intOf]⟩
    .have n:bits .or .u64 (a:Int) ((c.toNat:Int)%128*2097152)=((a+c.toNat%128*128^3:Nat):Int):=by have:=(Qk a (c.toNat%128) 3 2097152 (by decide) (by decide) (by omega) d (by omega)).1;simpa using this
     have e:=(Qk a (c.toNat%128) 3 2097152 (by decide) (by decide) (by omega) d (by omega)).2;have f:=JQ c.toNat (show 0<128 by decide);obtain⟨l,k,m⟩:=Hi3 d e h9;clear d e h9;go_wp2_with fail
     all_goals first
      |(go_ret3;exact Ret.mk (by rw[h.o,j.o];exact yz g c _ 3 a (by omega) (by omega) (by decide)))
      |(go_ret3;exact Ret.mk (by rw[h.o,j.o];exact VB g c _ 3 a _ _ (by omega) (by omega) (by omega) (by first|rfl|(push_cast;omega)|omega) (by omega)))
      |exact⟨⟨by trivial,4,a+c.toNat%128*128^3,by omega,by omega,by rw[h.o,j.o];exact QB c _ 3 a (by omega) (by omega),xz a _ 3 l.o f,by first|rfl|(congr 1;push_cast;omega),by first|rfl|go_num⟩,by simp[intOf]⟩
    .have n:bits .or .u64 (a:Int) ((c.toNat:Int)%128*268435456)=((a+c.toNat%128*128^4:Nat):Int):=by have:=(Qk a (c.toNat%128) 4 268435456 (by decide) (by decide) (by omega) d (by omega)).1;simpa using this
     have e:=(Qk a (c.toNat%128) 4 268435456 (by decide) (by decide) (by omega) d (by omega)).2;have f:=JQ c.toNat (show 0<128 by decide);obtain⟨l,k,m⟩:=Hi3 d e h9;clear d e h9;go_wp2_with fail
     all_goals first
      |(go_ret3;exact Ret.mk (by rw[h.o,j.o];exact yz g c _ 4 a (by omega) (by omega) (by decide)))
      |(go_ret3;exact Ret.mk (by rw[h.o,j.o];exact VB g c _ 4 a _ _ (by omega) (by omega) (by omega) (by first|rfl|(push_cast;omega)|omega) (by omega)))
      |exact⟨⟨by trivial,5,a+c.toNat%128*128^4,by omega,by omega,by rw[h.o,j.o];exact QB c _ 4 a (by omega) (by omega),xz a _ 4 l.o f,by first|rfl|(congr 1;push_cast;omega),by first|rfl|go_num⟩,by simp[intOf]⟩
    .have n:bits .or .u64 (a:Int) ((c.toNat:Int)%128*34359738368)=((a+c.toNat%128*128^5:Nat):Int):=by have:=(Qk a (c.toNat%128) 5 34359738368 (by decide) (by decide) (by omega) d (by omega)).1;simpa using this
     have e:=(Qk a (c.toNat%128) 5 34359738368 (by decide) (by decide) (by omega) d (by omega)).2;have f:=JQ c.toNat (show 0<128 by decide);obtain⟨l,k,m⟩:=Hi3 d e h9;clear d e h9;go_wp2_with fail
     all_goals first
      |(go_ret3;exact Ret.mk (by rw[h.o,j.o];exact yz g c _ 5 a (by omega) (by omega) (by decide)))
      |(go_ret3;exact Ret.mk (by rw[h.o,j.o];exact VB g c _ 5 a _ _ (by omega) (by omega) (by omega) (by first|rfl|(push_cast;omega)|omega) (by omega)))
      |exact⟨⟨by trivial,6,a+c.toNat%128*128^5,by omega,by omega,by rw[h.o,j.o];exact QB c _ 5 a (by omega) (by omega),xz a _ 5 l.o f,by first|rfl|(congr 1;push_cast;omega),by first|rfl|go_num⟩,by simp[intOf]⟩
    .have n:bits .or .u64 (a:Int) ((c.toNat:Int)%128*4398046511104)=((a+c.toNat%128*128^6:Nat):Int):=by have:=(Qk a (c.toNat%128) 6 4398046511104 (by decide) (by decide) (by omega) d (by omega)).1;simpa using this
     have e:=(Qk a (c.toNat%128) 6 4398046511104 (by decide) (by decide) (by omega) d (by omega)).2;have f:=JQ c.toNat (show 0<128 by decide);obtain⟨l,k,m⟩:=Hi3 d e h9;clear d e h9;go_wp2_with fail
     all_goals first
      |(go_ret3;exact Ret.mk (by rw[h.o,j.o];exact yz g c _ 6 a (by omega) (by omega) (by decide)))
      |(go_ret3;exact Ret.mk (by rw[h.o,j.o];exact VB g c _ 6 a _ _ (by omega) (by omega) (by omega) (by first|rfl|(push_cast;omega)|omega) (by omega)))
      |exact⟨⟨by trivial,7,a+c.toNat%128*128^6,by omega,by omega,by rw[h.o,j.o];exact QB c _ 6 a (by omega) (by omega),xz a _ 6 l.o f,by first|rfl|(congr 1;push_cast;omega),by first|rfl|go_num⟩,by simp[intOf]⟩
    .have n:bits .or .u64 (a:Int) ((c.toNat:Int)%128*562949953421312)=((a+c.toNat%128*128^7:Nat):Int):=by have:=(Qk a (c.toNat%128) 7 562949953421312 (by decide) (by decide) (by omega) d (by omega)).1;simpa using this
     have e:=(Qk a (c.toNat%128) 7 562949953421312 (by decide) (by decide) (by omega) d (by omega)).2;have f:=JQ c.toNat (show 0<128 by decide);obtain⟨l,k,m⟩:=Hi3 d e h9;clear d e h9;go_wp2_with fail
     all_goals first
      |(go_ret3;exact Ret.mk (by rw[h.o,j.o];exact yz g c _ 7 a (by omega) (by omega) (by decide)))
      |(go_ret3;exact Ret.mk (by rw[h.o,j.o];exact VB g c _ 7 a _ _ (by omega) (by omega) (by omega) (by first|rfl|(push_cast;omega)|omega) (by omega)))
      |exact⟨⟨by trivial,8,a+c.toNat%128*128^7,by omega,by omega,by rw[h.o,j.o];exact QB c _ 7 a (by omega) (by omega),xz a _ 7 l.o f,by first|rfl|(congr 1;push_cast;omega),by first|rfl|go_num⟩,by simp[intOf]⟩
    .have n:bits .or .u64 (a:Int) ((c.toNat:Int)%128*72057594037927936)=((a+c.toNat%128*128^8:Nat):Int):=by have:=(Qk a (c.toNat%128) 8 72057594037927936 (by decide) (by decide) (by omega) d (by omega)).1;simpa using this
     have e:=(Qk a (c.toNat%128) 8 72057594037927936 (by decide) (by decide) (by omega) d (by omega)).2;have f:=JQ c.toNat (show 0<128 by decide);obtain⟨l,k,m⟩:=Hi3 d e h9;clear d e h9;go_wp2_with fail
     all_goals first
      |(go_ret3;exact Ret.mk (by rw[h.o,j.o];exact yz g c _ 8 a (by omega) (by omega) (by decide)))
      |(go_ret3;exact Ret.mk (by rw[h.o,j.o];exact VB g c _ 8 a _ _ (by omega) (by omega) (by omega) (by first|rfl|(push_cast;omega)|omega) (by omega)))
      |exact⟨⟨by trivial,9,a+c.toNat%128*128^8,by omega,by omega,by rw[h.o,j.o];exact QB c _ 8 a (by omega) (by omega),xz a _ 8 l.o f,by first|rfl|(congr 1;push_cast;omega),by first|rfl|go_num⟩,by simp[intOf]⟩
    .have n:bits .or .u64 (a:Int) ((c.toNat:Int)%128*9223372036854775808)=((a+c.toNat%128*128^9:Nat):Int):=by have:=(Qk a (c.toNat%128) 9 9223372036854775808 (by decide) (by decide) (by omega) d (by omega)).1;simpa using this
     have e:=(Qk a (c.toNat%128) 9 9223372036854775808 (by decide) (by decide) (by omega) d (by omega)).2;have f:=JQ c.toNat (show 0<128 by decide);have z:(c.toNat:Int)<=1:=by omega
     obtain⟨l,k,m⟩:=Hi3 d e h9;clear d e h9;go_wp2_with fail
     all_goals first
      |(go_ret3;exact Ret.mk (by rw[h.o,j.o];exact yz g c _ 9 a (by omega) (by omega) (by decide)))
      |(go_ret3;exact Ret.mk (by rw[h.o,j.o];exact VB g c _ 9 a _ _ (by omega) (by omega) (by omega) (by first|rfl|(push_cast;omega)|omega) (by omega)))
      |exact⟨⟨by trivial,10,a+c.toNat%128*128^9,by omega,by omega,by rw[h.o,j.o];exact QB c _ 9 a (by omega) (by omega),xz a _ 9 l.o f,by first|rfl|(congr 1;push_cast;omega),by first|rfl|go_num⟩,by simp[intOf]⟩
def zg(w:World):Prop:=∀i,i<16->w.cell? ⟨4,i,none⟩=some (.int .u32 (Vx.getD i 0:Nat))
theorem zg.below{w w':World}{B:Nat}(h:zg w)(c:Below B w w')(b:w.heap.size<=B):zg w':=λi a=>by
 rw[c.cell (p:=⟨4,i,none⟩) (JG (jM w _ (h i a)) b)];exact h i a
theorem Qbo(h:c<4294967296):4294967295 ^^^ c=4294967295-c:=by
 have a:=jT BitVec.toNat (BitVec.xor_allOnes (x:=BitVec.ofNat 32 c));rw[BitVec.toNat_xor,BitVec.toNat_not,BitVec.toNat_allOnes,BitVec.toNat_ofNat,KQ (by simpa using h)]at a;rw[Nat.xor_comm];simpa using a
theorem zbp:IntKind.u32.max=((4294967295:Nat):Int):=by decide
theorem ybl(h:c<4294967296):bits .xor .u32 IntKind.u32.max (c:Int)=((4294967295-c:Nat):Int):=by
 rw[zbp,u32_xor_nat _ _ (by decide) h,Qbo c h]
theorem vaT(h:c<4294967296):bits .xor .u32 ((c:Int)/16) ((Vx.getD (c%16) 0:Nat):Int)=((vN c:Nat):Int):=by
 rw[show(c:Int)/16=((c/16:Nat):Int) by omega,u32_xor_nat _ _ (by omega) (Xao _)];rfl
theorem Qbc(h:c<4294967296):bits .and .u32 (c:Int) 15=((c%16:Nat):Int):=by
 have:=u32_and_nat c 15 h (by decide);rw[show((15:Nat):Int)=15 from rfl]at this;rw[this,show(15:Nat)=2^4-1 from rfl,Nat.and_two_pow_sub_one_eq_mod]
theorem xbl(b:Bs)(G:c<4294967296)(M:b.length<=4611686018427387904)(y:zg w):Calls prog 294 #[.int .u32 (c:Int),qa b] w (Ret (.int .u32 (qF c b:Nat)) w):=by
 have r:(ByteArray.mk b.toArray).size=b.length:=by simp[ByteArray.size]
 have A:=Hi y;clear y;unfold qa;go_enter func294,ntmps294;have I:=ybl c G;go_wp2_with fail;go_loopw [5,11] (λJ iv wr=>wr=w/\∃i:Nat,i<=b.length/\iv=OI (i:Int)/\J=.int .u32 (((b.take i).foldl QD (4294967295-c):Nat):Int)) (λ_ iv _=>b.length-(intOf iv).toNat)
 case atStart=>exact⟨rfl,0,jX _,rfl,by simp⟩
 case round =>
  obtain⟨rfl,i,N,rfl,rfl⟩:=hrel;obtain⟨v,l⟩:=NE ((b.take i).foldl QD (4294967295-c));have d:v<4294967296:=by rw[<-l];exact VaI _ (by omega)
  rw[l];clear I;by_cases hlt:i<b.length
  .obtain⟨a,u⟩:=NE (b[i]);have x:a.toNat<256:=a.toNat_lt;have m:(b.take (i+1)).foldl QD (4294967295-c)=QD v a:=by rw[jS hlt,List.foldl_append,l,u];rfl
   have p:=Hi m;clear l m;go_upto_region 6 with(fail)
   have z:(ByteArray.mk b.toArray)[i]'(by rw[r];exact hlt)=a:=u;rw[z,show((a.toNat:Nat):Int)%4294967296=(a.toNat:Int) by omega,u32_xor_nat _ _ d (by omega)];obtain⟨h,f⟩:=NE (v ^^^ a.toNat);have e:h<4294967296:=by rw[<-f];exact KA (n:=32) d (by omega)
   obtain⟨j,g⟩:=NE (vN h);have k:j<4294967296:=by rw[<-g];exact yU e
   have q:=vaT h e;have C:=vaT j k;have D:=A.o (h%16) (JQ _ (by decide));have E:=A.o (j%16) (JQ _ (by decide));have B:=Qbc h e;have F:=Qbc j k;rw[f];rw[g]at q;generalize Vx.getD (h%16) 0=t1 at *;generalize Vx.getD (j%16) 0=t2 at *;have L:Hy (QD v a=vN j):=Hi (by rw[<-g,<-f];rfl);clear z u f g;go_wp2_with fail;exact⟨⟨by trivial,i+1,by omega,by go_num,by rw[p.o,L.o]⟩,by simp[intOf];omega⟩
  .have t:i=b.length:=by omega
   subst t;have H:=ybl v d;have K:=Hi l;clear l;go_wp2_with fail;go_ret;refine Ret.mk ?_;unfold qF;rw[<-K.o,J9];rfl
theorem ybp(b:Bs)(d:b.length<=4611686018427387904)(a:zg w):Calls prog 245 #[qa b] w (Ret (.int .u32 (qF 0 b:Nat)) w):=by
 have c:=Hi (xbl w 0 b (by decide) d a);clear a;go_enter func245,ntmps245;go_wp2_with (go_at_call 294;refine MQ c.o ?_);go_ret;exact⟨rfl,rfl⟩
theorem vay(b:Bs)(m:b.length<=4611686018427387904)(i:zg w):Calls prog 194 #[qa b] w λe g=>e=.returned (qa (Vl b))/\Below w.heap.size w g:=by
 have j:=Hi (ybp w b m i);clear i;obtain⟨v,a⟩:=NE (qF 0 b);have f:v<4294967296:=by rw[<-a];exact Qad _ _
 have l:=Hi a;rw[a]at j;clear a;go_enter func194,ntmps194;go_upto_region 2 with(go_at_call 245;refine MQ j.o ?_)
 have k:Vc (Vl b)=[.int .u8 ((v:Int)%256),.int .u8 ((v:Int)/256%256),.int .u8 ((v:Int)/65536%256),.int .u8 ((v:Int)/16777216)]:=by
  have c:∀n,n<256->((UInt8.ofNat n).toNat:Int)=(n:Int):=λn h=>by rw[zj h]
  unfold Vl;rw[l.o];simp only[Vc,ju,Jt];rw[c _ (by omega),c _ (by omega),c _ (by omega),c _ (by omega),show v/16777216%256=v/16777216 by omega];rfl
 have d:=yav (src:=103) (e:=5) (dst:=9) underlying103 underlying5 underlying9 w (A:=#[.int .u8 ((v:Int)%256),.int .u8 ((v:Int)/256%256),.int .u8 ((v:Int)/65536%256),.int .u8 ((v:Int)/16777216)]) (n:=4) k.symm rfl (by decide);clear k;go_wp2_with fail;go_ret;exact⟨rfl,((St.refl _).alloc _).below⟩
theorem Y2(w:World)(v:Nat)(hv:v<4294967296):Calls prog 193 #[.int .u64 (v:Int),.int .i64 4] w λe w'=>e=.returned (.tuple #[qa (Vh v 4),.int .i64 0])/\Below w.heap.size w w':=by
 obtain⟨i1,hi1,hz1,hz2,hz3⟩:=Vs ZO;have hmk:(Instr.makeSlice 103 (.int .i64 4) (.int .i64 4)).run prog w=.ok (.slice (some ⟨w.heap.size,0,none⟩) 4 4) (w.alloc (.cells #[.int .u8 0,.int .u8 0,.int .u8 0,.int .u8 0] 5)):=by
  have:=Ki (P:=prog) w 103 5 i1 (.int .u8 0) underlying103 hi1 hz1 .i64 .i64 4 4 (by decide) (by decide) (by rw[hz2];decide) (by rw[hz3];decide) (by decide);rw[hz2,show madeCells (Value.int .u8 0).cells (Int.toNat 4*1)=#[.int .u8 0,.int .u8 0,.int .u8 0,.int .u8 0]from by kernel_rfl]at this;exact this
 have hA:Vc (Vh v 4)=[.int .u8 ((v:Int)/16777216),.int .u8 ((v:Int)/65536%256),.int .u8 ((v:Int)/256%256),.int .u8 ((v:Int)%256)]:=by
  have h0:∀n,n<256->((UInt8.ofNat n).toNat:Int)=(n:Int):=λn h=>by rw[zj h]
  simp only[Vh,Vc,ju,Jt];rw[h0 _ (JQ _ (by decide)),h0 _ (JQ _ (by decide)),h0 _ (JQ _ (by decide)),h0 _ (JQ _ (by decide)),show v/256^3%256=v/16777216 by omega];simp
 have HA:=Hi hA;have hsh:((v:Int)/4294967296 != 0)=false:=by simp;omega
 clear hA;go_enter func193,ntmps193;go_wp2_with fail;clear hmk hsh;go_loopw [27] (λiv wr=>∃(k:Nat) (cs:Array Value),k<=4/\iv=.int .i64 (k:Int)/\cs.toList=(Vc (Vh v 4)).take k++List.replicate (4-k) (.int .u8 0)/\St w wr [(w.heap.size,.cells cs 5 (0,0))]) (λiv _=>4-(intOf iv).toNat)
 case atStart=>exact⟨0,_,by omega,rfl,rfl,(St.refl w).alloc _⟩
 case round =>
  obtain⟨k,cs,hk,rfl,hcs,hS⟩:=hrel;rw[HA.o]at hcs;have HC:=Hi hcs;have hf:∀i,wr.frozen? ⟨w.heap.size,i,none⟩=false:=λi=>hS.freeH i
  have hz:cs.size=4:=by
   have:=jT List.length hcs;simp at this;omega
  have hc:∀i (h:i<4),wr.cell? ⟨w.heap.size,i,none⟩=some (cs[i]'(by omega)):=λi h=>by rw[hS.cellH,U3]
  have hset:∀i x,St w (wr.setCell ⟨w.heap.size,i,none⟩ x) [(w.heap.size,.cells (cs.setIfInBounds i x) 5 (0,0))]:=λi x=>hS.set i x
  have HS:=Hi hS;have HSET:=Hi hset;rcases(show k=0\/k=1\/k=2\/k=3\/k=4 by omega)with rfl|rfl|rfl|rfl|rfl
  .have hf:=hf 0;have hc:=hc 0 (by decide);clear hset hcs hS;go_wp2_with fail;exact⟨⟨1,_,by omega,rfl,by rw[HA.o,J5,HC.o];rfl,HSET.o _ _⟩,by simp[intOf]⟩
  .have hf:=hf 1;have hc:=hc 1 (by decide);clear hset hcs hS;go_wp2_with fail;exact⟨⟨2,_,by omega,rfl,by rw[HA.o,J5,HC.o];rfl,HSET.o _ _⟩,by simp[intOf]⟩
  .have hf:=hf 2;have hc:=hc 2 (by decide);clear hset hcs hS;go_wp2_with fail;exact⟨⟨3,_,by omega,rfl,by rw[HA.o,J5,HC.o];rfl,HSET.o _ _⟩,by simp[intOf]⟩
  .have hf:=hf 3;have hc:=hc 3 (by decide);clear hset hcs hS;go_wp2_with fail;exact⟨⟨4,_,by omega,rfl,by rw[HA.o,J5,HC.o];rfl,HSET.o _ _⟩,by simp[intOf]⟩
  .have hconv:=xU (src:=103) (e:=5) (dst:=9) (P:=prog) (W:=wr) (v:=.slice (some ⟨w.heap.size,0,none⟩) 4 4) (l:=Vh v 4) underlying103 underlying5 underlying9 ⟨_,4,by rw[vp,qi],by rw[vp,qi];exact jm _,by decide,λ_=>⟨_,0,rfl,λi x hx=>by
    rw[Jp,hS.cellH,<-J3,hcs,<-HA.o,Ji (by rw[vp,qi];exact jm _)];simpa using hx⟩⟩
   clear hset hcs hS hc hf;go_wp2_with fail;go_ret2;exact⟨rfl,HS.o.below⟩
theorem qam(p:Bs)(L:1<=c)(J:c<=255)(M:p.length<=65536)(u:zg w):
  Calls prog 123 #[OI (c:Int),qa p] w λe z=>e=.returned (.tuple #[qa (ve c p),OI 0])/\Below w.heap.size w z:=by
 have C:(ByteArray.mk p.toArray).size=p.length:=zb p;have B:=Hi (λW=>Y2 W p.length (by omega));have x:=Hi (λ(W:World) (l:Bs) (hl:l.length<=4611686018427387904) (hb:Below w.heap.size w W)=>vay W l hl (u.below hb (jm _)));clear u;unfold qa;go_enter func123,ntmps123;go_upto_region 6 with(go_at_call 193;refine(B.o _).mono ?_;rintro e m ⟨rfl,f⟩)
 have v:Vc [0xa7,UInt8.ofNat c]=[.int .u8 167,.int .u8 (c:Int)]:=by
  simp only[Vc,ju,Jt];rw[zj (by omega)];rfl
 have b:=yav (src:=103) (e:=5) (dst:=9) underlying103 underlying5 underlying9 m (A:=#[.int .u8 167,.int .u8 (c:Int)]) (n:=2) v.symm rfl (by decide);have r:(ByteArray.mk (Vh p.length 4).toArray).size=4:=by rw[zb,qi]
 have q:(ByteArray.mk [0xa7,UInt8.ofNat c].toArray).size=2:=by rw[zb];rfl
 clear v;unfold qa at *;go_upto_region 7 with(fail)
 rw[yh];have k:([0xa7,UInt8.ofNat c]++Vh p.length 4).length=6:=xL c p;obtain⟨H,s⟩:=EN (Xz c p);have j:[0xa7,UInt8.ofNat c]++Vh p.length 4=H:=s.symm;rw[j]at k|-
 have a:Below w.heap.size w (m.alloc (.cells #[.int .u8 167,.int .u8 (c:Int)] 5)):=f.alloc f.size _;have i:=Hi (x.o _ H (by omega) a);have G:=Hi s;have F:(ByteArray.mk H.toArray).size=6:=by rw[zb,k]
 obtain⟨y,h⟩:=EN (m.alloc (.cells #[.int .u8 167,.int .u8 (c:Int)] 5));rw[<-h]at a i|-
 clear s j b r q h f;have d:∀l,(ByteArray.mk (Vl l).toArray).size=4:=λl=>by rw[zb];rfl
 have D:=d H;have E:=d (H++p);clear d;go_wp2_with (first
  |(go_at_call_of 194 (Value.string (ByteArray.mk H.toArray));refine i.o.mono ?_;rintro e K ⟨rfl,g⟩)
  |(go_at_call 194;rw[yh];refine(x.o _ (H++p) (by simp;omega) (a.trans (g.mono a.size))).mono ?_;rintro e I ⟨rfl,t⟩))
 rw[yh,yh,yh];go_ret2;refine⟨?_,(a.trans (g.mono a.size)).trans (t.mono (by have:=a.size;have:=g.size;omega))⟩;unfold ve;rw[<-G.o];rfl
theorem qaT(b:Bs)(c:UInt8)(v:Nat):Vq (b++[c]) v=Vq b v*256+c.toNat:=by
 induction b generalizing v with
 |nil=>rfl
 |cons x r ih=>simp only[jO,Vq];rw[ih]
theorem vbl(a:q<72057594037927936)(b:c<256):bits .or .u64 ((q:Int)*256) (c:Int)=((q*256+c:Nat):Int):=by
 rw[show(q:Int)*256=((q*2^8:Nat):Int) by omega,bits_or_u64_nat _ _ (by omega) (by omega),Ui q,<-kx (by omega)]
theorem qay(b:Bs):Vq b 0<256^b.length:=by have:=Ybd b 0;omega
theorem ZaT(w:World)(b:Bs)(p:Nat)(hb:b.length<=4611686018427387904)(hp:p+4<=b.length):
  Calls prog 215 #[qa b,.int .i64 (p:Int),.int .i64 4] w (Ret (.tuple #[.int .u64 (Vq ((b.drop p).take 4) 0:Nat),.int .i64 0]) w):=by
 have hsz:=zb b;have g0:decide ((p:Int)<0)=false:=by simp
 have g1:decide (b.length<p)=false:=by simp;omega
 have g2:decide ((b.length:Int)-(p:Int)<4)=false:=by simp;omega
 unfold qa;go_enter func215,ntmps215;go_wp2_with fail;go_loopw [8,33] (λvv iv wr=>wr=w/\∃i:Nat,i<=4/\iv=.int .i64 (i:Int)/\vv=.int .u64 ((Vq ((b.drop p).take i) 0:Nat):Int)) (λ_ iv _=>4-(intOf iv).toNat)
 case atStart=>exact⟨rfl,0,Nat.zero_le _,rfl,by simp[Vq]⟩
 case round =>
  obtain⟨rfl,i,hi,rfl,rfl⟩:=hrel;clear g0 g1 g2;by_cases hlt:i<4
  .have hlb:p+i<b.length:=by omega
   obtain⟨c,hc⟩:∃c,b[p+i]=c:=⟨_,rfl⟩;have h256:c.toNat<256:=c.toNat_lt;have htk:(b.drop p).take (i+1)=(b.drop p).take i++[c]:=by
    rw[List.take_succ_eq_append_getElem (by rw[List.length_drop];omega),List.getElem_drop,hc]
   obtain⟨v,hv⟩:∃v,Vq ((b.drop p).take i) 0=v:=⟨_,rfl⟩;have hvl:v<16777216:=by
    have:=qay ((b.drop p).take i);rw[hv,List.length_take]at this;refine Nat.lt_of_lt_of_le this ?_;exact Nat.le_trans (Nat.pow_le_pow_right (by decide) (show min i (b.drop p).length<=3 by omega)) (by decide)
   have hor:=vbl v c.toNat (by omega) h256;have HTK:=hid (show Vq ((b.drop p).take (i+1)) 0=v*256+c.toNat by rw[htk,qaT,hv]);rw[hv];clear hv htk;go_upto_region 9 with(fail)
   have hX:(ByteArray.mk b.toArray)[p+i]'(by rw[hsz];exact hlb)=c:=hc;go_wp2_with fail;exact⟨⟨trivial,i+1,by omega,by go_num,by rw[HTK.out];push_cast;rfl⟩,by simp[intOf];omega⟩
  .have h4:i=4:=by omega
   subst h4;go_wp2_with fail;go_ret2;exact Ret.mk rfl
theorem Zaq(x:Int)(e:-9223372036854775808<=x)(d:x<=9223372036854775807):Calls prog 218 #[OI x] w (Ret (.bool (Xc x)) w):=by
 go_enter func218,ntmps218;by_cases q1:x>=64
 .by_cases q2:x<=1024
  .have c:Int.tmod x 64=x%64:=Jw (by omega);by_cases q3:x%64=0
   .have a:Hy (Xc x=true):=Hi (by unfold Xc;simp;omega);go_wp2_with fail;go_ret;exact Ret.mk (by rw[a.o];try rfl)
   .have a:Hy (Xc x=false):=Hi (by unfold Xc;simp;omega);have b:(x%64==0)=false:=by simpa using q3
    go_wp2_with fail;go_ret;exact Ret.mk (by rw[a.o];try rfl)
  .have a:Hy (Xc x=false):=Hi (by unfold Xc;simp;omega);go_wp2_with fail;go_ret;exact Ret.mk (by rw[a.o];try rfl)
 .have a:Hy (Xc x=false):=Hi (by unfold Xc;simp;omega);go_wp2_with fail;go_ret;exact Ret.mk (by rw[a.o];try rfl)
theorem zK(h:Xc x=true):64<=x/\x<=1024/\x%64=0:=by
 simp only[Xc,Uf,jG]at h;exact⟨h.1.1,h.1.2,h.2⟩
theorem X9(x:Int)(c:Bs)(m:-9223372036854775808<=x)(j:x<=9223372036854775807)(u:c.length<=4611686018427387904):Calls prog 155 #[OI x,qa c] w (Ret (OI (Qh x c)) w):=by
 have a:=Hi (λW=>Zaq W x m j);have p:=zb c;unfold qa;go_enter func155,ntmps155;by_cases q:Xc x=true
 .obtain⟨s,r,t⟩:=zK q;have l:Int.tdiv x 8=x/8:=JK (by omega);have f:Hy (Qh x c=if(c.length:Int)≠x/8 then 11 else 0):=Hi (by unfold Qh;rw[jd (by rw[q];decide)]);rw[q]at a;obtain⟨y,h⟩:=NE (x/8);rw[h]at l f;obtain⟨n,i,k⟩:0<=y/\y<=200/\(c.length:Int)<=4611686018427387904:=by omega
  clear h q;by_cases q4:(c.length:Int)=y
  .have b:Hy (Qh x c=0):=Hi (by rw[f.o,jd (by simpa using q4)]);go_wp2_with (go_at_call 218;refine MQ (a.o _) ?_);go_ret;exact Ret.mk (by rw[b.o];try rfl)
  .have b:Hy (Qh x c=11):=Hi (by rw[f.o,jh q4]);go_wp2_with (go_at_call 218;refine MQ (a.o _) ?_);go_ret;exact Ret.mk (by rw[b.o];try rfl)
 .have d:Xc x=false:=by simpa using q
  have b:Hy (Qh x c=10):=Hi (by unfold Qh;rw[jh d]);rw[d]at a;clear q d;go_wp2_with (go_at_call 218;refine MQ (a.o _) ?_);go_ret;exact Ret.mk (by rw[b.o];try rfl)
theorem Yaq(x m:Int)(k:-9223372036854775808<=x)(l:x<=9223372036854775807)(v:-9223372036854775808<=m)(A:m<=9223372036854775807):Calls prog 162 #[OI x,OI m] w (Ret (OI (Ye x m)) w):=by
 have b:=Hi (λW=>Zaq W x k l);go_enter func162,ntmps162;by_cases q:Xc x=true
 .obtain⟨t,B,u⟩:=zK q;have p:Int.tdiv x 8=x/8:=JK (by omega);have f:Int.tdiv (x+31) 32=(x+31)/32:=JK (by omega);have c:Hy (Ye x m=if m<(x+31)/32\/x/8<m then 12 else 0):=Hi (by unfold Ye;rw[jd (by rw[q];decide)]);rw[q]at b;obtain⟨y,i⟩:=NE (x/8);obtain⟨z,h⟩:=NE ((x+31)/32);rw[i]at p c;rw[h]at f c;obtain⟨s,n,j,r⟩:0<=y/\y<=200/\0<=z/\z<=200:=by omega
  clear q i h;by_cases q4:m<z
  .have a:Hy (Ye x m=12):=Hi (by rw[c.o,jh (.inl q4)]);go_wp2_with (go_at_call 218;refine MQ (b.o _) ?_);go_ret;exact Ret.mk (by rw[a.o];try rfl)
  .by_cases q5:y<m
   .have a:Hy (Ye x m=12):=Hi (by rw[c.o,jh (.inr q5)]);go_wp2_with (go_at_call 218;refine MQ (b.o _) ?_);go_ret;exact Ret.mk (by rw[a.o];try rfl)
   .have a:Hy (Ye x m=0):=Hi (by rw[c.o,jd (by omega)]);go_wp2_with (go_at_call 218;refine MQ (b.o _) ?_);go_ret;exact Ret.mk (by rw[a.o];try rfl)
 .have g:Xc x=false:=by simpa using q
  have a:Hy (Ye x m=10):=Hi (by unfold Ye;rw[jh g]);rw[g]at b;clear q g;go_wp2_with (go_at_call 218;refine MQ (b.o _) ?_);go_ret;exact Ret.mk (by rw[a.o];try rfl)
theorem xbe(b:q<256)(d:c<8):bits .and .i64 (wrap64 ((q:Int)/2^(7-c))) 1=((q/2^(7-c)%2:Nat):Int):=by
 have a:∀c:Nat,c<8->∀q:Nat,q<256->bits .and .i64 (wrap64 ((q:Int)/2^(7-c))) 1=((q/2^(7-c)%2:Nat):Int):=by decide +kernel
 exact a c d q b
theorem xbp(w:World)(s:Bs)(i:Nat)(hs:s.length<=4611686018427387904)(hi:i<8*s.length)(hi9:i<=1000000):Calls prog 262 #[qa s,.int .i64 (i:Int)] w (Ret (.int .i64 (YF s i:Nat)) w):=by
 have hsz:=zb s;obtain⟨c,hc⟩:∃c,s.getD (i/8) 0=c:=⟨_,rfl⟩;have hlt:i/8<s.length:=by omega
 have hX:∀h,(ByteArray.mk s.toArray)[i/8]'h=c:=λh=>by rw[<-hc];simp[List.getD_eq_getElem?_getD,hlt];rfl
 have h256:c.toNat<256:=c.toNat_lt;have HB:Hid (YF s i=c.toNat/2^(7-i%8)%2):=hid (by unfold YF;rw[hc]);obtain⟨q,hq⟩:∃q,i/8=q:=⟨_,rfl⟩;obtain⟨r,hr⟩:∃r,i%8=r:=⟨_,rfl⟩;have hr8:r<8:=by omega
 have e1:Int.tdiv (i:Int) 8=(q:Int):=by rw[Int.tdiv_eq_ediv_of_nonneg (by omega)];omega
 have e2:Int.tmod (i:Int) 8=(r:Int):=by rw[Int.tmod_eq_emod_of_nonneg (by omega)];omega
 rw[hq]at hX hlt;rw[hr]at HB;clear hc hq hr;unfold qa;go_enter func262,ntmps262;go_wp2_with fail;rw[xbe c.toNat r h256 hr8];go_ret;exact Ret.mk (by rw[HB.out];try rfl)
def enV(e:En):List Value:=[.int .i64 e.value,qa e.code,.int .i64 e.id,.int .i64 e.seq,.bool e.dead]
theorem Qe(e:En):(enV e).length=5:=rfl
theorem Xae:∀a b:Bs,Lib.compareBytes a b=Xg a b
 |[],[]=>rfl
 |[],_::_=>rfl
 |_::_,[]=>rfl
 |x::a,y::b=>by
  unfold Lib.compareBytes Xg;rw[Xae a b];simp only[Ur]
structure En.i64 (e:En):Prop where
 v0:-9223372036854775808<=e.value
 v1:e.value<=9223372036854775807
 i0:-9223372036854775808<=e.id
 i1:e.id<=9223372036854775807
 s0:-9223372036854775808<=e.seq
 s1:e.seq<=9223372036854775807
 c:e.code.length<=4611686018427387904
theorem YaT(w:World)(a b:En)(y:a.i64)(x:b.i64):Calls prog 205 #[.agg (enV a).toArray,.agg (enV b).toArray] w (Vd (OI (yb a b)) w):=by
 obtain⟨d,c,i,m,k⟩:=a;obtain⟨n,f,h,j,l⟩:=b;have s:=Hi (λW=>strings_Compare ⟨c.toArray⟩ ⟨f.toArray⟩ W);have p:=Hi (((jU w.heap.size w).alloc (jm _) (.cells (enV ⟨d,c,i,m,k⟩).toArray 137)).alloc (by simp) (.cells (enV ⟨n,f,h,j,l⟩).toArray 137));have r:yb ⟨d,c,i,m,k⟩ ⟨n,f,h,j,l⟩=if d≠n then Vi d n else if c≠f then Xg c f else Vi i h:=rfl
 have q:=Hi r;clear r;unfold enV qa at p|-
 go_enter func205,ntmps205;by_cases q1:d=n
 .subst q1;by_cases q2:c=f
  .subst q2;by_cases q3:i<h
   .have g:Hy (yb ⟨d,c,i,m,k⟩ ⟨d,c,h,j,l⟩=-1):=Hi (by rw[q.o,jd (by simp),jd (by simp)];unfold Vi;rw[jh q3]);go_wp2_with fail;go_ret;exact Vd.mk (by rw[g.o];try rfl) p.o
   .by_cases q4:h<i
    .have g:Hy (yb ⟨d,c,i,m,k⟩ ⟨d,c,h,j,l⟩=1):=Hi (by rw[q.o,jd (by simp),jd (by simp)];unfold Vi;rw[jd q3,jh q4]);go_wp2_with fail;go_ret;exact Vd.mk (by rw[g.o];try rfl) p.o
    .have g:Hy (yb ⟨d,c,i,m,k⟩ ⟨d,c,h,j,l⟩=0):=Hi (by rw[q.o,jd (by simp),jd (by simp)];unfold Vi;rw[jd q3,jd q4]);go_wp2_with fail;go_ret;exact Vd.mk (by rw[g.o];try rfl) p.o
  .have u:(c==f)=false:=by simpa using q2
   have g:Hy (yb ⟨d,c,i,m,k⟩ ⟨d,f,h,j,l⟩=Xg c f):=Hi (by rw[q.o,jd (by simp),jh q2]);have t:=Hi (Xae c f);go_wp2_with (go_at_call 55;refine(s.o _).mono ?_;rintro e v ⟨rfl,rfl⟩);go_ret;exact Vd.mk (by rw[g.o,<-t.o];try rfl) p.o
 .by_cases q3:d<n
  .have g:Hy (yb ⟨d,c,i,m,k⟩ ⟨n,f,h,j,l⟩=-1):=Hi (by rw[q.o,jh q1];unfold Vi;rw[jh q3]);go_wp2_with fail;go_ret;exact Vd.mk (by rw[g.o];try rfl) p.o
  .have g:Hy (yb ⟨d,c,i,m,k⟩ ⟨n,f,h,j,l⟩=1):=Hi (by rw[q.o,jh q1];unfold Vi;rw[jd q3,jh (by omega)]);go_wp2_with fail;go_ret;exact Vd.mk (by rw[g.o];try rfl) p.o
def hdV(h:Hd):List Value:=[.int .i64 h.width,.int .i64 h.table,.int .i64 h.bits,.int .i64 h.lo,.int .i64 h.hi,.int .i64 h.count]
theorem qE{h:Hd}(a:Zm h=0):64<=h.width/\h.width<=1024/\h.width%64=0/\0<=h.table/\h.table<128/\1<=h.bits/\h.bits<=32/\0<=h.lo/\h.lo<=h.hi/\h.hi<=1152921504606846976:=by
 unfold Zm at a;split at a
 .cases a
 .rename_i b
  have:=zK (x:=h.width) (by simpa using b);split at a
  .cases a
  .omega
theorem Zay(h:Hd)(c:Zm h=0):Calls prog 203 #[.agg (hdV h).toArray] w (Vd (OI 0) w):=by
 obtain⟨k,t,l,n,m,j,f,s,e,b⟩:=qE c;obtain⟨a,g,i,p,q,r⟩:=h;simp only at k t l n m j f s e b;have u:Int.tmod a 64=a%64:=Jw (by omega);have d:=Hi ((jU w.heap.size w).alloc (jm _) (.cells (hdV ⟨a,g,i,p,q,r⟩).toArray 212));clear c;unfold hdV at d|-
 go_enter func203,ntmps203;go_wp2_with fail;go_ret;exact Vd.mk rfl d.o
theorem zaG{h:Hd}{e:En}(a:vu h e=0):Qh h.width e.code=0/\0<=e.value/\e.value<2^h.bits.toNat/\0<=e.id/\e.id<=281474976710656/\h.lo<e.seq/\e.seq<=h.hi:=by
 unfold vu at a;split at a
 .cases a
 .rename_i b
  split at a
  .cases a
  .split at a
   .cases a
   .split at a
    .cases a
    .refine⟨by simpa using b,by omega,by omega,by omega,by omega,by omega,by omega⟩
theorem Yay(h:Qh x s=0):64<=x/\x<=1024/\x%64=0/\(s.length:Int)=x/8/\s.length<=128:=by
 unfold Qh at h;split at h
 .cases h
 .rename_i a
  have:=zK (x:=x) (by simpa using a);split at h
  .cases h
  .omega
theorem qbl(h:Hd)(e:En)(l:Zm h=0)(j:vu h e=0):Calls prog 204 #[.agg (hdV h).toArray,.agg (enV e).toArray] w (Vd (OI 0) w):=by
 obtain⟨E,t,p,r,q,v,y,C,M,g⟩:=qE l;obtain⟨c,n,f,F,D,A,s⟩:=zaG j;obtain⟨_,_,_,_,J⟩:=Yay c;obtain⟨m,x,a,H,I,K⟩:=h;obtain⟨d,i,B,G,L⟩:=e;simp only at E t p r q v y C M g c n f F D A s J;have b:=Hi (λW=>X9 W m i (by omega) (by omega) (by omega));rw[c]at b;have N:d/2^a.toNat=0:=Int.ediv_eq_zero_of_lt n f;have k:=Hi (((jU w.heap.size w).alloc (jm _) (.cells (hdV ⟨m,x,a,H,I,K⟩).toArray 212)).alloc (by simp) (.cells (enV ⟨d,i,B,G,L⟩).toArray 137));have u:d<=4294967296:=by
  have Q:(2:Int)^a.toNat<=2^32:=by
   have:(2:Nat)^a.toNat<=2^32:=JS (by decide) (by omega)
   exact_mod_cast this
  have P:(2:Int)^32=4294967296:=by decide
  omega
 have z:a.toNat<=32:=by omega
 clear j c f l;unfold hdV enV at k|-
 go_enter func204,ntmps204;go_wp2_with (go_at_call 155;refine MQ (b.o _) ?_);go_ret;exact Vd.mk rfl k.o
theorem Xo(w:World)(n:Int)(h0:0<=n)(h1:n<=9223372036854775807):Calls prog 253 #[.int .i64 n] w (Vd (qa (num n)) w):=by
 obtain⟨k,hk⟩:∃k,n.toNat=k:=⟨_,rfl⟩;have hn:n=(k:Int):=by omega
 have HP:=hid (λW=>xW W k (by have:(2:Nat)^64=18446744073709551616:=by decide
                              omega))
 have HF:Hid (num n=qb k):=hid (by unfold num;rw[hk]);subst hn;clear hk;go_enter func253,ntmps253;go_wp2_with (go_at_call 122;refine(HP.out _).mono ?_;rintro e w' ⟨rfl,hb⟩);go_ret;exact Vd.mk (by rw[HF.out];try rfl) hb
structure En.writ (e:En):Prop where
 v0:0<=e.value
 v1:e.value<4294967296
 i0:0<=e.id
 i1:e.id<=281474976710656
 s0:0<=e.seq
 s1:e.seq<=1152921504606846976
 c:e.code.length<=128
theorem Ym(n:Int)(a:n<=9223372036854775807):(num n).length<=10:=by
 unfold num;refine zu _ ?_;have:(2:Nat)^64=18446744073709551616:=by decide
 omega
theorem Xay(e:En)(h:e.writ):Calls prog 304 #[.agg (enV e).toArray] w (Vd (qa (Yn e)) w):=by
 obtain⟨R,G,A,Q,H,M,S⟩:=h;obtain⟨l,a,c,B,C⟩:=e;simp only at R G A Q H M S;have j:Hy (Yn ⟨l,a,c,B,C⟩=Vh l.toNat 4++a++num c):=Hi rfl;obtain⟨k,y⟩:=NE l.toNat;have q:l=(k:Int):=by omega
 rw[y]at j;subst q;have v:=Hi (λW=>Y2 W k (by omega));have s:=Hi (λW=>Xo W c A (by omega));obtain⟨P,u⟩:=NE (Vh k 4);have I:P.length=4:=by rw[<-u,qi]
 obtain⟨N,t⟩:=NE (num c);have J:N.length<=10:=by rw[<-t];exact Ym c (by omega)
 rw[u]at v j;rw[t]at s j;have f:=(St.refl w).alloc (.cells (enV ⟨(k:Int),a,c,B,C⟩).toArray 137);have g:=Hi f;have c1:=yh P a;have c2:=yh (P++a) N;have Y:=zb P;have V:=zb a;have z3:=zb N;have X:=zb (P++a);obtain⟨E,O,K⟩:(P.length:Int)=4/\(a.length:Int)<=128/\(N.length:Int)<=10:=by omega
 have L:((P++a).length:Int)<=140:=by rw[ja];omega
 have g1:¬ 9223372036854775807<4+a.length:=by omega
 have U:¬ 9223372036854775807<4+a.length+N.length:=by omega
 clear f y u t;unfold enV qa at g;unfold qa at v s;unfold enV qa;go_enter func304,ntmps304;go_upto_region 2 with(go_at_call 193;refine(v.o _).mono ?_;rintro e n ⟨rfl,x⟩)
 have b:=g.o.callB x;obtain⟨F,D⟩:=b.k2 1 2;have e1:=λd r=>jH F d r
 have Z:=λd r=>jH D d r
 have z:=Hi b.below;clear x b;refine Jq (by kernel_rfl) (by kernel_rfl) ?_
 repeat(quiet_step ((go_at_call 253;exact Jh (s.o _))))
 refine Ub ?_;intro _ m;obtain⟨⟨T,p⟩,i⟩:=m;subst i;go_wp2_with fail;go_ret;exact Vd.mk (by rw[j.o,jE];rfl) (z.o.trans ((Jo n T p).mono z.o.size))
theorem XaT(e:En)(h:e.writ):Calls prog 301 #[.agg (enV e).toArray] w (Vd (qa (qc e)) w):=by
 have f:=Hi (λW=>Xay W e h);have u:(Yn e).length<=142:=by
  unfold Yn;rw[ja,ja,qi];have:=Ym e.id (by have:=h.i1;omega);have:=h.c;omega
 obtain⟨V,K,L,T,C,S,X⟩:=h;have i:Hy (qc e=Yn e++num e.seq++[if e.dead then 1 else 0]):=Hi rfl;obtain⟨P,F⟩:=NE (Yn e);rw[F]at f i u;obtain⟨A,z,E,l,p⟩:=e;simp only at V K L T C S X i;have x:=Hi (λW=>Xo W l C (by omega));obtain⟨N,y⟩:=NE (num l);have M:N.length<=10:=by rw[<-y];exact Ym l (by omega)
 rw[y]at x i;have k:=(St.refl w).alloc (.cells (enV ⟨A,z,E,l,p⟩).toArray 137);have c1:=yh P N;have z1:=zb P;have z3:=zb N;have z4:=zb (P++N);obtain⟨I,O⟩:(P.length:Int)<=142/\(N.length:Int)<=10:=by omega
 have R:((P++N).length:Int)<=152:=by rw[ja];omega
 have m:=Hi k;have g1:¬ 9223372036854775807<P.length+N.length:=by omega
 have g2:¬ 9223372036854775807<P.length+N.length+1:=by omega
 clear F y k;unfold enV qa at m f;unfold qa at x;unfold enV qa;obtain⟨D,s⟩:∃D:Bs,D=[if p then 1 else 0]:=⟨_,rfl⟩;have r:D=if p then[1]else[0]:=by rw[s];cases p<;>rfl
 rw[<-s]at i;have c2:=yh (P++N) D;have z5:(ByteArray.mk D.toArray).size=1:=by rw[zb,s];rfl
 have j:=Hi r;clear s r;go_enter func301,ntmps301;rcases p with _|_
 all_goals
  have q:=j.o;have Z:=Hi q;clear q j;go_upto_region 4 with(fail)
  refine m.o.nameC ?_;intro g a;obtain⟨Q,J,G,H,U⟩:=a.k5 0 1 2 3 4;have e0:=λd b=>jH Q d b
  have e1:=λd b=>jH J d b
  have e2:=λd b=>jH G d b
  have e3:=λd b=>jH H d b
  have e4:=λd b=>jH U d b
  have B:=Hi a.below;clear a;refine Jq (by kernel_rfl) (by kernel_rfl) ?_
  repeat(quiet_step ((first|(go_at_call 253;exact Jh (x.o _))|(go_at_call 304;exact Jh (f.o _)))))
  refine Ub ?_;intro _ t;obtain⟨⟨Y,v⟩,n⟩:=t;subst n;go_wp2_with fail;go_ret;exact Vd.mk (by rw[i.o,Z.o];exact(jT Value.string (yh (P++N) _)).symm) (B.o.trans ((Jo g Y v).mono B.o.size))
end Go.Proofs.YtekkihmmclencaaGreatDoor
