import Derived.Test.YtekkihmmclencaaGreatDoorProg
import Derived.WalkKit
import Derived.Below
import Derived.OneCell
import Derived.Lib.Hide
import Derived.Laws.NewBlocks
import Derived.Laws.Rows
import Derived.Laws.AppendOwnNone
import Derived.Maps.AppendAt
import Derived.Deep.QuietTactic
import Derived.Deep.AppendLies
import Derived.Deep.RegionHeld3
import Derived.ArgAppend
import Derived.Deep.DeepAppendRoom
import Derived.Laws.BytesArg
import Derived.Maps.Own
import Derived.Maps.RangeWalk
import Derived.Deep.DeepCutAuto
import Derived.Deep.CutRange
import Derived.Deep.RegionLaw
import Derived.Deep.RegionWith
import Derived.BigQuiet
import Derived.BigGuard
import Derived.IntWalk
import Derived.Laws.Small
import Derived.BigFrame
import Derived.StillTailTactics
import Derived.Deep.DrawnRows
import Derived.Shelf.Abstract
import Derived.BigRegion
import Derived.RegionTactic
import Derived.Lib.AppendStr
import Derived.Laws.Slices
import Derived.Lib.AtoiAll
import Derived.Lib.ItoaNum
import Derived.Laws.Bits64b
import Derived.Laws.BitsAllLaws
import Derived.Laws.MakeOwn
import Derived.Lib.QuietBelow
import Derived.Lib.Builder
import Derived.Lib.UnsafeStr
import Derived.Laws.Externs
import Derived.Shelf.RegionOpenPlain
import Derived.Sort.OwnSorted
import Derived.Laws.Cover1
import Derived.RangeFuncNested
import Derived.RangeFuncBound
import Derived.RangeFuncCalls
import Derived.RangeFuncLeaves
import Derived.Shelf.RegionOpen
import Derived.OwnWalkIn
import Derived.TacticsInMore
import Derived.LoopNIn
import Derived.LoopIn
import Derived.Maps.OwnIn
import Derived.OrdersHeld
import Derived.OrdersIn
import Derived.Deep.RegionHeld
import Derived.WalkSmall
import Derived.DeepKeys3
import Derived.Defers
import Derived.Lib.AtoiErrMem
import Derived.OpenShut
import Derived.ReadAgain
import Derived.SliceStrings
import Derived.Deep.Slices
import Derived.LaidLaws
import Derived.Shelf.Vars
import Derived.Lib.LaidTab
namespace Go.Proofs.YtekkihmmclencaaGreatDoor
set_option linter.all false
set_option maxRecDepth 100000
set_option maxHeartbeats 40000000
open Tryz
section
open Go
abbrev ja:=@List.length_append
abbrev jb:=@List.mem_cons_of_mem
abbrev jc:=@List.mem_cons_self
abbrev jd:=@if_neg
abbrev je:=@List.mem_append_right
abbrev jf:=@List.setIfInBounds_toArray
abbrev jg:=@List.mem_map
abbrev jh:=@if_pos
abbrev ji:=@List.set_cons_zero
abbrev jj:=@List.set_cons_succ
abbrev jk:=@List.length_cons
abbrev jm:=@Nat.le_refl
abbrev jo:=@List.mem_append
abbrev jp:=@List.mem_cons
abbrev jr:=@List.map_append
abbrev jt:=@List.getElem?_eq_getElem
abbrev ju:=@List.map_cons
abbrev jx:=@List.mem_append_left
abbrev jy:=@And.intro
abbrev jz:=@List.length_map
abbrev jA:=@List.length_nil
abbrev jB:=@List.flatMap_cons
abbrev jC:=@List.mem_singleton
abbrev jD:=@List.flatMap_append
abbrev jE:=@List.append_assoc
abbrev jF:=@Go.World.size_alloc
abbrev jG:=@decide_eq_true_eq
abbrev jH:=@Go.cell_regrown
abbrev jI:=@Nat.le_trans
abbrev jJ:=@List.append_nil
abbrev jK:=@List.nil_append
abbrev jL:=@Option.map_eq_some_iff
abbrev jM:=@Go.World.block_lt_of_cell?
abbrev jN:=@List.length_take
abbrev jO:=@List.cons_append
abbrev jP:=@Go.bodyPost_ret
abbrev jQ:=@List.length_drop
abbrev jR:=@List.drop_eq_getElem_cons
abbrev jS:=@List.take_succ_eq_append_getElem
abbrev jT:=@congrArg
abbrev jU:=@Go.RowKit.Below.refl
abbrev jV:=@List.getElem?_eq_some_iff
abbrev jW:=@not_true_eq_false
abbrev jX:=@Nat.zero_le
abbrev jY:=@List.nodup_cons
abbrev jZ:=@List.getElem?_map
abbrev Je:=@Prod.mk.injEq
abbrev j7:=@List.map_map
abbrev j8:=@List.length_singleton
abbrev j9:=@Nat.add_assoc
abbrev Ja:=@List.take_append_drop
abbrev Jb:=@if_false
abbrev Jc:=@List.getElem_mem
abbrev Jd:=@List.perm_middle
abbrev Jf:=@List.mem_filter
abbrev Jg:=@Nat.mul_le_mul
abbrev Jh:=@Go.Calls.regrown_of
abbrev Ji:=@List.take_of_length_le
abbrev Jj:=@List.perm_append_comm_assoc
abbrev Jk:=@List.flatMap_nil
abbrev Jl:=@List.getElem?_append_right
abbrev Jm:=@List.Perm.cons
abbrev Jo:=@Go.below_regrown
abbrev Jp:=@Nat.zero_add
abbrev Jq:=@Go.wp_region_quiet_below
abbrev Jr:=@List.nodup_append
abbrev Js:=@List.mem_of_getElem?
abbrev Jt:=@List.map_nil
abbrev Ju:=@List.drop_zero
abbrev Jv:=@Option.some.inj
abbrev Jw:=@Int.tmod_eq_emod_of_nonneg
abbrev Jy:=@Int.le_refl
abbrev Jz:=@List.Sublist.refl
abbrev JA:=@List.pairwise_cons
abbrev JB:=@List.mem_flatMap
abbrev JC:=@List.Perm.swap
abbrev JD:=@Bool.false_eq_true
abbrev JE:=@Option.map_some
abbrev JF:=@List.not_mem_nil
abbrev JG:=@Nat.lt_of_lt_of_le
abbrev JH:=@List.Nodup.length_le_of_subset
abbrev JI:=@List.length_pos_iff
abbrev JJ:=@List.getD_eq_getElem?_getD
abbrev JK:=@Int.tdiv_eq_ediv_of_nonneg
abbrev JL:=@Int.toNat_natCast
abbrev JM:=@Nat.mul_one
abbrev JN:=@Go.World.cell?_setCell_far
abbrev JO:=@List.perm_append_comm
abbrev JP:=@List.mem_iff_getElem?
abbrev JQ:=@Nat.mod_lt
abbrev JR:=@Go.ByteArray.toList_eq
abbrev JS:=@Nat.pow_le_pow_right
abbrev JT:=@List.getElem?_take_of_lt
abbrev JU:=@List.append_of_mem
abbrev JV:=@if_true
abbrev JW:=@ne_eq
abbrev JX:=@List.mergeSort_perm
abbrev JY:=@Int.toNat_of_nonneg
abbrev JZ:=@Go.callsIn_wide
abbrev J0:=@List.sublist_append_right
abbrev J1:=@Go.IntWalk.i64_in
abbrev J2:=@List.size_toArray
abbrev J3:=@Array.getElem?_toList
abbrev J4:=@List.take_zero
abbrev J5:=@Array.toList_setIfInBounds
abbrev J6:=@not_false_eq_true
abbrev J7:=@Go.AllReadyH.cons
abbrev J8:=@decide_eq_false
abbrev J9:=@List.take_length
abbrev Ua:=@List.filter_sublist
abbrev Ub:=@Go.wpQuiet_nil
abbrev Uc:=@List.length_eq_zero_iff
abbrev Ud:=@List.mem_range
abbrev Ue:=@List.range_succ
abbrev Uf:=@Bool.and_eq_true
abbrev Ug:=@Option.some.injEq
abbrev Uh:=@List.length_range
abbrev Ui:=@Nat.mul_comm
abbrev Uj:=@List.take_left
abbrev Uk:=@Nat.sub_self
abbrev Ul:=@Nat.succ_mul
abbrev Um:=@List.length_filter_le
abbrev Un:=@List.perm_ext_iff_of_nodup
abbrev Uo:=@List.cons.inj
abbrev Uq:=@Go.AllReadyH.nil
abbrev Us:=@Go.MapKept.run_getObj_map
abbrev Ut:=@List.drop_eq_nil_of_le
abbrev Uu:=@List.pairwise_map
abbrev Uv:=@Go.IntWalk.wrap64_in
abbrev Uw:=@List.map_congr_left
abbrev Ux:=@Array.length_toList
abbrev Uy:=@Nat.min_eq_left
abbrev Uz:=@List.drop_length
abbrev UA:=@Go.wpAnyH_ready
abbrev UB:=@Go.run_underlying
abbrev UC:=@List.mem_of_mem_take
abbrev UD:=@Array.replicate_succ
abbrev UE:=@Array.replicate_zero
abbrev UF:=@or_false
abbrev UG:=@List.take_succ_cons
abbrev UH:=@List.append_toArray
abbrev UI:=@Prod.mk.inj
abbrev UJ:=@Option.ne_none_iff_exists'
abbrev UK:=@Option.toList_some
abbrev UL:=@List.Perm.refl
abbrev UM:=@Go.DataW.trod_int
abbrev UN:=@List.getElem?_append_left
abbrev UO:=@Nat.mul_le_mul_right
abbrev UP:=@List.push_toArray
abbrev UQ:=@List.getElem?_cons_succ
abbrev UR:=@decide_eq_false_iff_not
abbrev US:=@List.pairwise_mergeSort
abbrev UT:=@List.filter_eq_self
abbrev UU:=@Nat.mul_le_mul_left
abbrev UV:=@List.drop_left
abbrev UW:=@Go.RowKit.Below.heap_alloc
abbrev UX:=@Nat.pow_succ
abbrev UY:=@Nat.add_zero
abbrev UZ:=@List.set_append
abbrev U0:=@Array.getElem?_modify
abbrev U1:=@List.extract_eq_take_drop
abbrev U2:=@List.mem_of_getLast?
abbrev U3:=@Array.getElem?_eq_getElem
abbrev U4:=@List.drop_drop
abbrev U5:=@Go.heap_alloc_new
abbrev U6:=@decide_eq_true
abbrev U7:=@Int.le_trans
abbrev U8:=@bne_eq_false_iff_eq
abbrev U9:=@List.drop_succ_cons
abbrev ka:=@List.filter_cons_of_neg
abbrev ke:=@List.filter_append
abbrev kf:=@Go.Proofs.enters_of
abbrev kg:=@Go.Oper.upon_value
abbrev kj:=@Bool.eq_iff_iff
abbrev kk:=@ByteArray.data_extract
abbrev km:=@Go.MapKept.run_setObj_map
abbrev ko:=@List.sublist_cons_self
abbrev kp:=@Nat.min_def
abbrev kq:=@List.eq_nil_of_length_eq_zero
abbrev kr:=@List.Pairwise.nil
abbrev ku:=@Nat.div_lt_iff_lt_mul
abbrev kx:=@Nat.two_pow_add_eq_or_of_lt
abbrev ky:=@Array.toList_inj
abbrev kz:=@List.getElem_inj
abbrev kB:=@Option.getD_some
abbrev kC:=@List.filter_cons
abbrev kD:=@List.flatMap_map
abbrev kE:=@Array.getElem?_eq_some_iff
abbrev kF:=@Go.RowKit.run_makeMap
abbrev kG:=@Go.wpAnyH_take
abbrev kH:=@List.getElem_of_mem
abbrev kI:=@Go.run_callFunc_extern
abbrev kJ:=@List.replicate_succ
abbrev kK:=@List.replicate_zero
abbrev kL:=@Go.callsIn_of_wp_marks
abbrev kM:=@List.getElem?_range
abbrev kN:=@List.getLast?_eq_none_iff
abbrev kO:=@Bool.or_eq_true
abbrev kP:=@UInt8.toNat_inj
abbrev kQ:=@List.exists_mem_of_ne_nil
abbrev kR:=@Nat.lt_or_ge
abbrev kS:=@Nat.eq_zero_or_pos
abbrev kT:=@List.getElem?_drop
abbrev kU:=@Bool.true_eq_false
abbrev kV:=@Go.RowKit.Below.heap_setCell
abbrev kW:=@List.getElem?_cons_zero
abbrev kX:=@Decidable.not_not
abbrev kY:=@Go.Result.andThen_ok
abbrev kZ:=@Nat.lt_trichotomy
abbrev Ka:=@List.append_eq_nil_iff
abbrev Kb:=@Go.World.cell?_alloc_past
abbrev Kc:=@not_or
abbrev Kd:=@List.eraseIdx_append_of_length_le
abbrev Ke:=@List.set_eq_take_append_cons_drop
abbrev Kf:=@ByteArray.ext
abbrev Kg:=@List.all_cons
abbrev Kh:=@List.map_take
abbrev Ki:=@Go.run_makeSlice
abbrev Kj:=@List.map_toArray
abbrev Kl:=@Go.run_takeDeferred
abbrev Km:=@Option.bind_some
abbrev Kn:=@Go.IntKind.wrap_u64
abbrev Ko:=@List.countP_cons
abbrev Ur:=@UInt8.lt_iff_toNat_lt
abbrev Kr:=@Nat.le_of_lt
abbrev Ks:=@Int.mul_le_mul_of_nonneg_right
abbrev Kt:=@Go.results_none
abbrev Ku:=@List.take_range
abbrev Kv:=@Function.comp_apply
abbrev Kw:=@List.toList_toArray
abbrev Kx:=@List.map_eq_flatMap
abbrev Ky:=@List.map_id
abbrev Kz:=@Nat.lt_of_le_of_lt
abbrev KA:=@Nat.xor_lt_two_pow
abbrev KD:=@Int.natCast_nonneg
abbrev KE:=@Or.inl
abbrev KG:=@Nat.mul_assoc
abbrev KH:=@List.map_drop
abbrev KI:=@Array.toList_push
abbrev KJ:=@List.ext_getElem?
abbrev KK:=@Go.KeepsOthers.alloc
abbrev KL:=@List.take_add_one
abbrev KM:=@Go.DataW.trod_struct
abbrev KO:=@bne_iff_ne
abbrev KP:=@Nat.add_comm
abbrev KQ:=@Nat.mod_eq_of_lt
abbrev KS:=@List.map_set
abbrev KT:=@Nat.zero_mul
abbrev KU:=@true_and
abbrev KV:=@Go.Sem.run_bind
abbrev KW:=@Go.Sem.run_pure
abbrev KX:=@Go.binOp_string_eql
abbrev KY:=@List.ext_getElem
abbrev KZ:=@List.getElem_map
def Hy(p:Prop):Prop:=p
theorem Hy.o{p:Prop}(h:Hy p):p:=h
theorem Hy.out{p:Prop}(h:Hy p):p:=h
theorem Hi{p:Prop}(h:p):Hy p:=h
theorem EN{α:Sort _}(a:α):∃x,x=a:=⟨_,rfl⟩
theorem NE{α:Sort _}(a:α):∃x,a=x:=⟨_,rfl⟩
theorem Hi2{p q:Prop}(a:p)(b:q):Hy p∧Hy q:=⟨Hi a,Hi b⟩
theorem Hi3{p q r:Prop}(a:p)(b:q)(c:r):Hy p∧Hy q∧Hy r:=⟨Hi a,Hi2 b c⟩
theorem Hi4{p q r s:Prop}(a:p)(b:q)(c:r)(d:s):Hy p∧Hy q∧Hy r∧Hy s:=⟨Hi a,Hi3 b c d⟩
theorem Hi5{p q r s t:Prop}(a:p)(b:q)(c:r)(d:s)(e:t):Hy p∧Hy q∧Hy r∧Hy s∧Hy t:=⟨Hi a,Hi4 b c d e⟩
abbrev OI(x:Int):Value:=.int .i64 x
abbrev OT(x:List UInt8):Value:=.string ⟨x.toArray⟩
abbrev OQ(b:Nat):Value:=.pointer (some ⟨b,0,none⟩)
abbrev OV(w:World)(b i:Nat)(v:Value):Prop:=w.cell? ⟨b,i,none⟩=some v
abbrev OZ(w:World)(b i:Nat):Prop:=w.frozen? ⟨b,i,none⟩=false
theorem MR{P:Program}{n:Nat}{s:Array Value}{w:World}{v:Value}{R:World→Prop}{Q:Ending→World→Prop}(h:Calls P n s w fun e w'=>e=.returned v∧R w')(k:∀w',Hy (R w')→Q (.returned v) w'):Calls P n s w Q:=h.mono fun e w' h=>h.1▸k w' h.2
theorem MQ{P:Program}{n:Nat}{s:Array Value}{w:World}{v:Value}{Q:Ending→World→Prop}(h:Calls P n s w fun e w'=>e=.returned v∧w=w')(k:Q (.returned v) w):Calls P n s w Q:=h.mono fun e w' h=>h.1▸h.2▸k
end
open Go Go.RowKit
variable(w:World)(q c:Nat){W V:World}{n b k m:Nat}{v r:Value}{T:TypeId}{P:Program}{X:List Value}
abbrev Bs:=List UInt8
def qb(v:Nat):Bs:=if h:v<128 then[UInt8.ofNat v]else UInt8.ofNat (v%128+128)::qb (v/128)
termination_by v
decreasing_by omega
inductive qbk where
 |ok (v n:Nat)
 |bad (e:Int)
def vz:Bs->Nat->Nat->qbk
 |[],_,_=>.bad 31
 |c::r,i,v =>
  if i=9/\1<c.toNat then .bad 30
  else if c.toNat<128 then(if c.toNat=0/\0<i then .bad 32 else .ok (v+c.toNat*128^i) (i+1))
  else vz r (i+1) (v+(c.toNat-128)*128^i)
theorem yO(h:n<128):qb n=[UInt8.ofNat n]:=by rw[qb,dif_pos h]
theorem zU(h:¬ n<128):qb n=UInt8.ofNat (n%128+128)::qb (n/128):=by rw[qb,dif_neg h]
theorem zj(h:n<256):(UInt8.ofNat n).toNat=n:=by simp[UInt8.toNat_ofNat'];omega
theorem VaP:qb c≠[]:=by rw[qb];split<;>simp
theorem Qa2(v q:Nat):(v%128+128-128)*q+v/128*(q*128)=v*q:=by
 have d:v%128+128-128=v%128:=by omega
 have b:=Nat.div_add_mod v 128;rw[d];generalize v/128=a at *;generalize v%128=c at *;subst b;rw[Nat.add_mul,KP,Ui q 128,<-KG,Ui a 128]
theorem Zag:∀(k v i a:Nat) (r:Bs),v<2^k->i+(k+6)/7<=10->v*128^i<2^64->(0<i->0<v)->vz (qb v++r) i a=.ok (a+v*128^i) (i+(qb v).length):=by
 intro k;induction k using Nat.strongRecOn with
 |ind k ih =>
  intro v i a r j p f n;by_cases h:v<128
  .rw[yO h];have c:(UInt8.ofNat v).toNat=v:=zj (by omega);simp only[jO,jK,vz,c,j8];rw[jd,jh h,jd (by omega)];rintro⟨l,o⟩;subst l;have:(128:Nat)^9=2^63:=by decide
   rw[this]at f;omega
  .rw[zU h];have c:(UInt8.ofNat (v%128+128)).toNat=v%128+128:=zj (by omega);have m:8<=k:=by
    rcases kR k 8 with e|e
    .exfalso;have:(2:Nat)^k<=2^7:=JS (by decide) (by omega);omega
    .exact e
   simp only[jO,vz,c,jk];have d:i≠9:=by omega
   rw[jd (λh=>d h.1),jd (by omega)];have g:v/128<2^(k-7):=by
    rw[ku (by decide)]
    calc v<2^k:=j
     _=2^(k-7+7):=by congr 1;omega
     _=2^(k-7)*128:=by rw[Nat.pow_add]
   have b:v/128*128^(i+1)<=v*128^i:=by
    rw[UX,Ui (128^i),<-KG];exact UO _ (Nat.div_mul_le_self _ _)
   rw[ih (k-7) (by omega) (v/128) (i+1) _ r g (by omega) (Kz b f) (λ_=>Nat.div_pos (by omega) (by decide))]
   congr 1
   .rw[UX,j9,Qa2]
   .omega
theorem yJ(r:Bs)(h:c<2^64):vz (qb c++r) 0 0=.ok c (qb c).length:=by
 have a:c*128^0<2^64:=by rw[Nat.pow_zero,JM];exact h
 have:=Zag 64 c 0 0 r h (by omega) a (by omega);rw[this,Nat.pow_zero,JM,Jp,Jp]
theorem xY:∀(k v:Nat),v<128^k->0<k->(qb v).length<=k:=by
 intro k;induction k with
 |zero=>intro v _ h;omega
 |succ k ih =>
  intro v a _;by_cases h:v<128
  .rw[yO h];simp
  .rw[zU h];have b:0<k:=by
    rcases kS k with rfl|c
    .simp at a;omega
    .exact c
   have:=ih (v/128) (by rw[ku (by decide)];rwa [UX]at a) b;simp only[jk];omega
theorem zu(h:c<2^64):(qb c).length<=10:=xY 10 c (JG h (by decide)) (by decide)
def Vh(v:Nat):Nat->Bs
 |0=>[]
 |n+1=>UInt8.ofNat (v/256^n%256)::Vh v n
def Vq:Bs->Nat->Nat
 |[],v=>v
 |c::r,v=>Vq r (v*256+c.toNat)
theorem qi(v n:Nat):(Vh v n).length=n:=by induction n with|zero=>rfl|succ n ih=>simp[Vh,ih]
theorem YaC:∀(n a:Nat),Vq (Vh c n) a=a*256^n+c%256^n:=by
 intro n;induction n with
 |zero=>intro a;simp[Vh,Vq,Nat.mod_one]
 |succ n ih =>
  intro a;simp only[Vh,Vq];rw[zj (JQ _ (by decide)),ih,UX,Ui (256^n) 256,Nat.add_mul,KG,j9]
  congr 1
  rw[Ui 256 (256^n),Nat.mod_mul,Ui (c/256^n%256),KP]
theorem xZ(h:q<256^c):Vq (Vh q c) 0=q:=by rw[YaC,KQ h];omega
theorem Ybd:∀(b:Bs) (v:Nat),Vq b v<(v+1)*256^b.length:=by
 intro b;induction b with
 |nil=>intro v;simp[Vq]
 |cons c r ih =>
  intro v;have a:c.toNat<256:=c.toNat_lt;refine JG (ih (v*256+c.toNat)) ?_;rw[jk,UX,Ui (256^r.length) 256,<-KG];exact UO _ (by omega)
def Vx:Array Nat:=#[0x00000000,0x105ec76f,0x20bd8ede,0x30e349b1,0x417b1dbc,0x5125dad3,0x61c69362,0x7198540d,0x82f63b78,0x92a8fc17,0xa24bb5a6,0xb21572c9,0xc38d26c4,0xd3d3e1ab,0xe330a81a,0xf36e6f75]
def vN(v:Nat):Nat:=(v/16) ^^^ Vx.getD (v%16) 0
def QD(v:Nat)(c:UInt8):Nat:=vN (vN (v ^^^ c.toNat))
def qF(sum:Nat)(b:Bs):Nat:=4294967295-b.foldl QD (4294967295-sum)
theorem Xao:Vx.getD c 0<2^32:=by
 rcases kR c 16 with h|h
 .have a:∀c,c<16->Vx.getD c 0<2^32:=by decide
  exact a c h
 .have b:Vx.size=16:=rfl;rw[Array.getD_eq_getD_getElem?,Array.getElem?_eq_none (by rw[b];exact h)];decide
theorem yU(h:n<2^32):vN n<2^32:=KA (by omega) (Xao _)
theorem XaI(c:UInt8)(h:n<2^32):QD n c<2^32 :=
 yU (yU (KA h (JG c.toNat_lt (by decide))))
theorem VaI(b:Bs)(h:n<2^32):b.foldl QD n<2^32:=by
 induction b generalizing n with
 |nil=>exact h
 |cons c r ih=>exact ih (XaI c h)
theorem Qad(b:Bs):qF c b<2^32:=by unfold qF;omega
def Vl(b:Bs):Bs:=let v:=qF 0 b;[UInt8.ofNat (v%256),UInt8.ofNat (v/256%256),UInt8.ofNat (v/65536%256),UInt8.ofNat (v/16777216%256)]
theorem QL(b:Bs):(Vl b).length=4:=rfl
def Xz(kind:Nat)(p:Bs):Bs:=0xa7::UInt8.ofNat kind::Vh p.length 4
def ve(kind:Nat)(p:Bs):Bs:=Xz kind p++Vl (Xz kind p)++p++Vl (Xz kind p++p)
theorem xL(p:Bs):(Xz c p).length=6:=by simp[Xz,qi]
theorem zh(p:Bs):(ve c p).length=p.length+14:=by simp[ve,xL,QL];omega
inductive QaP where
 |ok (kind:Nat) (payload:Bs) (n:Nat)
 |bad (e:Int)
def yg(b:Bs):QaP :=
 if b=[]then .bad 31
 else if b.headD 0≠0xa7 then .bad 33
 else if b.length<10 then .bad 31
 else if(b.drop 6).take 4≠Vl (b.take 6)then .bad 34
 else if(b.getD 1 0).toNat=0 then .bad 35
 else if 65536<Vq ((b.drop 2).take 4) 0 then .bad 36
 else if b.length-10<Vq ((b.drop 2).take 4) 0+4 then .bad 31
 else if(b.drop (10+Vq ((b.drop 2).take 4) 0)).take 4≠Vl (b.take 6++(b.drop 10).take (Vq ((b.drop 2).take 4) 0))then .bad 34
 else .ok (b.getD 1 0).toNat ((b.drop 10).take (Vq ((b.drop 2).take 4) 0)) (Vq ((b.drop 2).take 4) 0+14)
theorem vS(p r:Bs)(t:1<=c)(s:c<=255)(q:p.length<=65536):yg (ve c p++r)=.ok c p (p.length+14):=by
 have l:=EN (Xz c p);obtain⟨H,a⟩:=l;have g:H.length=6:=by rw[a];exact xL _ _
 have b:ve c p++r=H++(Vl H++(p++(Vl (H++p)++r))):=by rw[a];simp[ve,jE]
 have d:(ve c p++r).length=p.length+14+r.length:=by rw[ja,zh]
 have j:(ve c p++r).headD 0=0xa7:=by rw[b,a];rfl
 have o:(ve c p++r).take 6=H:=by rw[b,<-g,Uj]
 have f:((ve c p++r).drop 6)=Vl H++(p++(Vl (H++p)++r)):=by rw[b,<-g,UV]
 have m:(ve c p++r).getD 1 0=UInt8.ofNat c:=by rw[b,a];rfl
 have i:((ve c p++r).drop 2).take 4=Vh p.length 4:=by
  rw[b,a];show(Vh p.length 4++_).take 4=_;rw[show(4:Nat)=(Vh p.length 4).length from(qi _ _).symm];simp only[qi,List.take_left']
 have k:Vq (Vh p.length 4) 0=p.length:=xZ _ _ (by omega);have h:(ve c p++r).drop 10=p++(Vl (H++p)++r):=by
  rw[show(10:Nat)=6+4 from rfl,<-U4,f,<-QL H,UV]
 have n:(ve c p++r).drop (10+p.length)=Vl (H++p)++r:=by
  rw[<-U4,h,UV]
 unfold yg;rw[jd (by intro e;rw[e]at d;simp at d;omega),j,jd (by simp),d,jd (by omega),f,o,m,i,k,h,n];rw[jd (by rw[<-QL H,Uj];simp)];rw[jd (by rw[zj (by omega)];omega),jd (by omega),jd (by omega)];rw[Uj,<-QL (H++p),Uj,jd (by simp),zj (by omega)]
theorem Vao{b:Bs}{p:Bs}(h:yg b=.ok k p n):14<=n/\n<=b.length/\n=p.length+14/\1<=k/\k<=255/\p.length<=65536:=by
 unfold yg at h
 repeat(split at h;· cases h)
 rename_i i f c j d g a e
 cases h;have:=(b.getD 1 0).toNat_lt;simp only[jN,jQ];omega
def qm:Nat->Bs->Nat->List (Nat × Bs × Nat) × Nat
 |0,_,at'=>([],at')
 |fuel+1,b,at' =>
  match yg b with
  |.bad _=>([],at')
  |.ok k p n=>let r:=qm fuel (b.drop n) (at'+n);((k,p,at')::r.1,r.2)
section
theorem yj{B:Nat}{w a:World}(h:Below B w a)(n:Nat):Below B w (a.drewN n):=⟨h.os,h.tape,h.output,h.size,h.block⟩
abbrev va:=List (Nat × Obj)
structure St (W0 W:World) (M:va):Prop where
 below:Below W0.heap.size W0 W
 at':∀x∈M,W0.heap.size<=x.1/\W.heap[x.1]?=some x.2
 nodup:(M.map (·.1)).Nodup
namespace St
variable {W0 W W':World} {M M':va} {b:Nat} {o:Obj}
theorem refl(W:World):St W W []:=⟨jU _ _,by simp,by simp⟩
theorem drew(h:St W0 W M):St W0 W.drew M:=⟨h.below.drew,h.at',h.nodup⟩
theorem drewN(h:St W0 W M)(n:Nat):St W0 (W.drewN n) M:=⟨⟨h.below.os,h.below.tape,h.below.output,h.below.size,h.below.block⟩,h.at',h.nodup⟩
theorem sz(h:St W0 W M):W0.heap.size<=W.heap.size:=h.below.size
theorem lt(h:St W0 W M){x:Nat × Obj}(a:x∈M):x.1<W.heap.size:=lt_of_block (h.at' x a).2
theorem get(h:St W0 W ((b,o)::M)):W.heap[b]?=some o:=(h.at' (b,o) jc).2
theorem hlt(h:St W0 W ((b,o)::M)):b<W.heap.size:=lt_of_block h.get
theorem hge(h:St W0 W ((b,o)::M)):W0.heap.size<=b:=(h.at' (b,o) jc).1
theorem tail(h:St W0 W ((b,o)::M)):St W0 W M:=⟨h.below,λx a=>h.at' x (jb _ a),(jY.1 h.nodup).2⟩
theorem ne(h:St W0 W ((b,o)::M)){x:Nat × Obj}(a:x∈M):x.1≠b:=λe=>(jY.1 h.nodup).1 (jg.2 ⟨x,a,e⟩)
theorem perm(h:St W0 W M)(a:M'.Perm M):St W0 W M':=⟨h.below,λx c=>h.at' x (a.mem_iff.1 c),(a.map _).nodup_iff.2 h.nodup⟩
theorem sub(h:St W0 W M)(a:M'.Sublist M):St W0 W M':=⟨h.below,λx c=>h.at' x (a.subset c),h.nodup.sublist (a.map _)⟩
theorem appL{M1 a:va}(h:St W0 W (M1++a)):St W0 W M1:=h.sub (List.sublist_append_left _ _)
theorem appR{c a:va}(h:St W0 W (c++a)):St W0 W a:=h.sub (J0 _ _)
theorem comm{a c:va}(h:St W0 W (a++c)):St W0 W (c++a):=h.perm JO
theorem swap{x y:Nat × Obj}(h:St W0 W (x::y::M)):St W0 W (y::x::M):=h.perm (JC _ _ _)
theorem alloc(h:St W0 W M)(o:Obj):St W0 (W.alloc o) ((W.heap.size,o)::M):=by
 refine⟨h.below.alloc h.sz o,λx a=>?_,?_⟩
 .rcases jp.1 a with rfl|a
  .exact⟨h.sz,U5 W o⟩
  .have:=h.at' x a;exact⟨this.1,(UW W o x.1 (h.lt a)).trans this.2⟩
 .simp only[ju];refine jY.2 ⟨λc=>?_,h.nodup⟩;obtain⟨x,a,e⟩:=jg.1 c;have:=h.lt a;omega
theorem set{cs:Array Value}{T:TypeId}(h:St W0 W ((b,.cells cs T)::M))(i:Nat)(v:Value):St W0 (W.setCell ⟨b,i,none⟩ v) ((b,.cells (cs.setIfInBounds i v) T)::M):=by
 refine⟨h.below.setCell h.hge v,λx a=>?_,by simpa using h.nodup⟩;rcases jp.1 a with rfl|a
 .exact⟨h.hge,heap_setCell_same W b i cs T v h.get⟩
 .have:=h.at' x (jb _ a);exact⟨this.1,(heap_setCell_other W _ x.1 v (h.ne a)).trans this.2⟩
theorem put(h:St W0 W ((b,o)::M)){f:Obj}(d:W.grownBy W' (some b))(i:W'.heap[b]?=some f):St W0 W' ((b,f)::M):=by
 refine⟨h.below.grown d h.sz (λk g=>by cases g;exact h.hge),λx a=>?_,by simpa using h.nodup⟩;rcases jp.1 a with rfl|a
 .exact⟨h.hge,i⟩
 .have c:=jb (b,o) a;have:=h.at' x c;exact⟨this.1,(d.block x.1 (h.lt c) (λe=>h.ne a (Jv e))).trans this.2⟩
theorem call(h:St W0 W M)(k:St W W' M'):St W0 W' (M'++M):=by
 refine⟨h.below.trans (k.below.mono h.sz),λx c=>?_,?_⟩
 .rcases jo.1 c with c|c
  .have:=k.at' x c;exact⟨jI h.sz this.1,this.2⟩
  .have:=h.at' x c;exact⟨this.1,(k.below.block x.1 (h.lt c)).trans this.2⟩
 .rw[jr];refine Jr.2 ⟨k.nodup,h.nodup,λa d b g e=>?_⟩;obtain⟨x,c,rfl⟩:=jg.1 d;obtain⟨y,f,rfl⟩:=jg.1 g;have j:=(k.at' x c).1;have i:=h.lt f;omega
theorem callB(h:St W0 W M)(k:Below W.heap.size W W'):St W0 W' M:=by
 have:=h.call (M':=[]) ⟨k,by simp,by simp⟩;simpa using this
theorem cell{a:Array Value}{T:TypeId}{c:Nat × Nat}(h:St W0 W M)(d:(b,Obj.cells a T c)∈M)(i:Nat):W.cell? ⟨b,i,none⟩=a[i]?:=by
 have:=(h.at' _ d).2;simp only at this;simp[World.cell?,this]
theorem cellH{cs:Array Value}{T:TypeId}{a:Nat × Nat}(h:St W0 W ((b,.cells cs T a)::M))(i:Nat):W.cell? ⟨b,i,none⟩=cs[i]?:=h.cell jc i
theorem free{cs:Array Value}{T:TypeId}(h:St W0 W M)(hm:(b,Obj.cells cs T (0,0))∈M)(i:Nat):W.frozen? ⟨b,i,none⟩=false:=by
 have:=(h.at' _ hm).2;simp only at this;simp[World.frozen?,this]
theorem freeH{cs:Array Value}{T:TypeId}(h:St W0 W ((b,.cells cs T)::M))(i:Nat):OZ W b i:=h.free jc i
theorem old(h:St W0 W M){a:Addr}{v:Value}(c:W0.cell? a=some v):W.cell? a=some v :=
 (h.below.cell (jM W0 _ c)).trans c
theorem toSt0(h:St W0 W M):St W0 W []:=⟨h.below,by simp,by simp⟩
theorem mid{A B:va}{x:Nat × Obj}(h:St W0 W (A++x::B)):St W0 W (x::(A++B)):=h.perm List.perm_middle.symm
theorem unmid{A B:va}{x:Nat × Obj}(h:St W0 W (x::(A++B))):St W0 W (A++x::B):=h.perm Jd
theorem setAt{A B:va}{a:Array Value}{T:TypeId}(h:St W0 W (A++(b,.cells a T)::B))(i:Nat)(v:Value):St W0 (W.setCell ⟨b,i,none⟩ v) (A++(b,.cells (a.setIfInBounds i v) T)::B):=(h.mid.set i v).unmid
theorem rot{A B C:va}(h:St W0 W (A++(B++C))):St W0 W (B++(A++C)):=h.perm (by rw[<-jE,<-jE];exact List.perm_append_comm.append_right C)
theorem rd{a:Array Value}{T:TypeId}{c:Nat × Nat}{i:Nat}{v:Value}(h:St W0 W M)(f:(b,Obj.cells a T c)∈M)(d:a[i]?=some v):OV W b i v:=(h.cell f i).trans d
theorem set6{k l m p j q:Value}{T:TypeId}(h:St W0 W ((b,.cells #[k,l,m,p,j,q] T)::M))(f d c a i g:Value):
  St W0 ((((((W.setCell ⟨b,0,none⟩ f).setCell ⟨b,1,none⟩ d).setCell ⟨b,2,none⟩ c).setCell ⟨b,3,none⟩ a).setCell ⟨b,4,none⟩ i).setCell ⟨b,5,none⟩ g) ((b,.cells #[f,d,c,a,i,g] T)::M) :=
 (((((h.set 0 f).set 1 d).set 2 c).set 3 a).set 4 i).set 5 g
theorem nameB{P:Program}{f:Func}{R:Ending->World->Prop}{c:Exit}{a:Act}(h:St W0 W M)(k:∀W',St W0 W' M->bodyPost P f R c a W'):bodyPost P f R c a W:=k W h
theorem nameC{P:Program}{c:Code}{Q:Exit->Act->World->Prop}{a:Act}(h:St W0 W M)(k:∀W',St W0 W' M->c.wp P Q a W'):c.wp P Q a W:=k W h
theorem name{C:World->Prop}(h:St W0 W M)(k:∀W',St W0 W' M->C W'):C W:=k W h
end St
def Rw(e:TypeId)(size:Nat)(v:Value)(n:Nat)(xs:List Value)(F:va):Prop :=
 xs.length=n*size /\
 ((v=.slice none 0 0/\n=0/\F=[]) \/
  ∃g cap cur,v=.slice (some ⟨g,0,none⟩) n cap/\F=[(g,.cells cur e (0,0))]/\n<=cap/\cap<=maxLen/\cur.size=cap*size/\cur.toList.take (n*size)=xs)
namespace Rw
variable {e:TypeId} {size n:Nat} {v:Value} {xs:List Value} {F M:va} {W0 W:World}
theorem nil(e:TypeId)(size:Nat):Rw e size (.slice none 0 0) 0 [] []:=⟨by simp,.inl ⟨rfl,rfl,rfl⟩⟩
theorem lit(e:TypeId)(size n:Nat)(g:Nat)(a:Array Value)(h:a.size=n*size)(c:n<=maxLen):Rw e size (.slice (some ⟨g,0,none⟩) n n) n a.toList [(g,.cells a e)] :=
 ⟨by simpa using h,.inr ⟨g,n,a,rfl,rfl,jm _,c,h,by rw[<-h];exact Ji (by simp)⟩⟩
theorem owns(h:Rw e size v n xs F)(d:St W0 W (F++M)):W.ownsRow W0.heap.size e size v n xs:=by
 obtain⟨k,i⟩:=h;refine⟨k,?_⟩;rcases i with⟨rfl,rfl,rfl⟩|⟨g,c,a,rfl,rfl,m,j,l,f⟩
 .exact .inl ⟨rfl,rfl⟩
 .exact .inr ⟨g,c,a,rfl,d.hge,d.get,m,j,l,f⟩
theorem form(h:Rw e size v n xs F):∃ad a,v=.slice ad n a/\n<=a/\a<=maxLen/\(ad=none->n=0/\a=0):=by
 rcases h.2 with⟨rfl,rfl,rfl⟩|⟨g,a,c,rfl,rfl,f,d,j,i⟩
 .exact⟨none,0,rfl,jm _,by unfold maxLen;omega,λ_=>⟨rfl,rfl⟩⟩
 .exact⟨some ⟨g,0,none⟩,a,rfl,f,d,λh=>by cases h⟩
theorem cells(h:Rw e size v n xs F)(hS:St W0 W (F++M))(hne:xs≠[]):∃g cap,v=.slice (some ⟨g,0,none⟩) n cap/\∀(i:Nat) x,xs[i]?=some x->W.cell? ⟨g,i,none⟩=some x:=by
 rcases h.2 with⟨rfl,rfl,rfl⟩|⟨g,cap,cur,rfl,rfl,h3,h4,h5,h6⟩
 .have:=h.1;simp at this;exact absurd this hne
 .refine⟨g,cap,rfl,λi x hx=>?_⟩;have hl:i<xs.length:=(jV.1 hx).1;rw[hS.cellH];rw[<-h6,JT (by rw[<-h.1];exact hl)]at hx;simpa using hx
end Rw
theorem St.appended{W0 W q:World}{M F:va}{e:TypeId}{size n J:Nat}{v l:Value}{xs P:List Value}(H:Rw e size v n xs F)(c:St W0 W (F++M))(h:q.ownsRow W0.heap.size e size l J P)
  (r:W.grownBy q v.ownBlock) (p:l=.slice none 0 0->v=.slice none 0 0) (u:l.ownBlock=v.ownBlock\/l.ownBlock=some W.heap.size):∃F',Rw e size l J P F'/\St W0 q (F'++M):=by
 have j:=H.owns c;obtain⟨N,Q⟩:=h;rcases Q with⟨rfl,I⟩|⟨L,m,d,rfl,G,w,E,z,s,C⟩
 .refine⟨[],⟨N,.inl ⟨rfl,I,rfl⟩⟩,?_⟩;have S:=p rfl;subst S;rcases H.2 with⟨_,_,rfl⟩|⟨g,A,D,i,_⟩
  .refine⟨c.below.grown r c.sz (λk x=>by simp[Value.ownBlock]at x),λy a=>?_,by simpa using c.nodup⟩;have:=c.at' y a;exact⟨this.1,(r.block y.1 (c.lt a) (by simp[Value.ownBlock])).trans this.2⟩
  .cases i
 .refine⟨[(L,.cells d e)],⟨N,.inr ⟨L,m,d,rfl,rfl,E,z,s,C⟩⟩,?_⟩;have t:∀y∈M,W0.heap.size<=y.1/\q.heap[y.1]?=some y.2/\y.1<W.heap.size/\some y.1≠v.ownBlock:=by
   intro y a;have f:y∈F++M:=je _ a;have O:=c.at' y f;have K:some y.1≠v.ownBlock:=by
    rcases H.2 with⟨rfl,_,rfl⟩|⟨g,A,D,rfl,rfl,_⟩
    .simp[Value.ownBlock]
    .intro i;simp[Value.ownBlock]at i;exact c.ne a i
   exact⟨O.1,(r.block y.1 (c.lt f) K).trans O.2,c.lt f,K⟩
  refine⟨c.below.grown r c.sz (λk x=>(j.lt k x).1),λy a=>?_,?_⟩
  .rcases jp.1 a with rfl|a
   .exact⟨G,w⟩
   .have a:y∈M:=by simpa using a
    exact⟨(t y a).1,(t y a).2.1⟩
  .simp only[jO,jK,ju];refine jY.2 ⟨λR=>?_,(c.appR).nodup⟩;obtain⟨y,a,i⟩:=jg.1 R;have:=t y a;rcases u with B|B
   .rw[<-B]at this;simp[Value.ownBlock]at this;exact this.2.2.2 i
   .simp[Value.ownBlock]at B;omega
theorem Z8{w:World}{g:Nat}{a:List Value}{e:TypeId}(h:w.heap[g]?=some (.cells a.toArray e)):∀(j:Nat) u,a[j]?=some u->w.cell? ((⟨g,0,none⟩:Addr).add j)=some u:=by
 intro j u c;have d:(⟨g,0,none⟩:Addr).add j=⟨g,j,none⟩:=by
  unfold Addr.add;split
  .rename_i h;rw[h]
  .simp
 rw[d];simp only[World.cell?,h];simpa using c
theorem xh{P:Program}{W0 W:World}{k:Array Oper}{rest:List Oper}{o:Oper}{a:Act}{Q:Exit->Act->World->Prop}(q:o.guard=none)(s x:Operand)(t:TypeId)
  (S:o.op=.call {callee:=.builtin .append,args:=#[s,x],argTypes:=#[t,t]})
  (e:TypeId) (i:TypeInfo) (z:Value) (size d:Nat) (J:P.underlying t=some (.slice e)) (X:P.info? e=some i) (R:i.zero=some z)
  (j:i.size=size) (A:i.bytes=d) (C:z.cells.size=size) (y:0<size)
  (v:Value) (n:Nat) (xs:List Value) (F M:va) (V:a.eval s=v) (E:Rw e size v n xs F) (G:St W0 W (F++M))
  (m g:Nat) (c:List Value) (Y:a.eval x=.slice (some ⟨g,0,none⟩) m m) (K:g=W.heap.size) (T:c.length=m*size) (N:∀u∈c,u.oneCell'=true)
  (w:n+m<=maxLen) (f:(n+m)*d<=140737488355328)
  (h:∀l W' p,Rw e size l (n+m) (xs++c) p->St W0 W' (p++M)->wpList P k Q rest (a.put o.dst l) W') :
  wpList P k Q (o::rest) a (W.alloc (.cells c.toArray e)):=by
 subst K;have D:=(G.alloc (.cells c.toArray e)).tail;refine wpList_append_own_at _ q s x t S W0.heap.size e i z size d J X R j A C y v n xs V (E.owns D) ⟨W.heap.size,0,none⟩ m m c Y T (Z8 (U5 W _)) N w f (by rw[jF];have:=G.sz;omega) ?_;intro l H I U L O;obtain⟨p,r,B⟩:=St.appended E D I U (λe=>(L.1 e).1) O;exact h l H p r B
theorem Zn{P:Program}{W0 w:World}{G:Array Oper}{o:Oper}{a:Act}{K:Act->World->Prop}{Q:Exit->Act->World->Prop}{E:Prop}(A:o.guard=none)(s x:Operand)(t:TypeId)
  (T:o.op=.call {callee:=.builtin .append,args:=#[s,x],argTypes:=#[t,t]})
  (e:TypeId) (i:TypeInfo) (z:Value) (size d:Nat) (O:P.underlying t=some (.slice e)) (Y:P.info? e=some i) (S:i.zero=some z)
  (k:i.size=size) (H:i.bytes=d) (J:z.cells.size=size) (D:0<size)
  (v:Value) (n:Nat) (xs:List Value) (F M:va) (X:a.eval s=v) (L:Rw e size v n xs F)
  (m g:Nat) (c:List Value) (y:St W0 w ((g,.cells c.toArray e)::(F++M))) (Z:a.eval x=.slice (some ⟨g,0,none⟩) m m) (U:c.length=m*size) (R:∀u∈c,u.oneCell'=true)
  (hm:0<m) (C:n+m<=maxLen) (j:(n+m)*d<=140737488355328)
  (h:∀r f p q,Rw e size (.slice (some ⟨r,0,none⟩) (n+m) f) (n+m) (xs++c) q->St W0 p (q++M)->K (a.put o.dst (.slice (some ⟨r,0,none⟩) (n+m) f)) p) :
  if Region.wanted o (yielded G a.tmps)=true then Oper.wp P o a w K Q else E:=by
 refine step_append_lies _ A s x t T W0.heap.size e i z size d O Y S k H J D v n xs X (L.owns y.tail) ⟨g,0,none⟩ m m c Z U (Z8 y.get) R hm C j y.sz w.heap.size rfl ?_;intro r f p N V l _;obtain⟨q,B,I⟩:=St.appended L y.tail N V (λe=>by cases e) (by
  rcases l with l|l
  .exact .inl l.symm
  .exact .inr (by rw[l];rfl))
 exact h r f p q B I
end
section
variable{W0 W:World}{M:va}{n:Nat}{s:Array Value}{T:TypeId}{fr:Nat×Nat}
theorem St.k2(h:St W0 W ((n,.cells s T fr)::M))(a b:Nat):W.cell? ⟨n,a,none⟩=s[a]?/\W.cell? ⟨n,b,none⟩=s[b]?:=⟨h.cellH a,h.cellH b⟩
theorem St.f2(h:St W0 W ((n,.cells s T (0,0))::M))(a b:Nat):W.frozen? ⟨n,a,none⟩=false/\W.frozen? ⟨n,b,none⟩=false:=⟨h.freeH a,h.freeH b⟩
theorem St.k3(h:St W0 W ((n,.cells s T fr)::M))(a b c:Nat):W.cell? ⟨n,a,none⟩=s[a]?/\W.cell? ⟨n,b,none⟩=s[b]?/\W.cell? ⟨n,c,none⟩=s[c]?:=⟨h.cellH a,h.k2 b c⟩
theorem St.f3(h:St W0 W ((n,.cells s T (0,0))::M))(a b c:Nat):W.frozen? ⟨n,a,none⟩=false/\W.frozen? ⟨n,b,none⟩=false/\W.frozen? ⟨n,c,none⟩=false:=⟨h.freeH a,h.f2 b c⟩
theorem St.k4(h:St W0 W ((n,.cells s T fr)::M))(a b c d:Nat):W.cell? ⟨n,a,none⟩=s[a]?/\W.cell? ⟨n,b,none⟩=s[b]?/\W.cell? ⟨n,c,none⟩=s[c]?/\W.cell? ⟨n,d,none⟩=s[d]?:=⟨h.cellH a,h.k3 b c d⟩
theorem St.f4(h:St W0 W ((n,.cells s T (0,0))::M))(a b c d:Nat):W.frozen? ⟨n,a,none⟩=false/\W.frozen? ⟨n,b,none⟩=false/\W.frozen? ⟨n,c,none⟩=false/\W.frozen? ⟨n,d,none⟩=false:=⟨h.freeH a,h.f3 b c d⟩
theorem St.k5(h:St W0 W ((n,.cells s T fr)::M))(a b c d e:Nat):W.cell? ⟨n,a,none⟩=s[a]?/\W.cell? ⟨n,b,none⟩=s[b]?/\W.cell? ⟨n,c,none⟩=s[c]?/\W.cell? ⟨n,d,none⟩=s[d]?/\W.cell? ⟨n,e,none⟩=s[e]?:=⟨h.cellH a,h.k4 b c d e⟩
theorem St.f5(h:St W0 W ((n,.cells s T (0,0))::M))(a b c d e:Nat):W.frozen? ⟨n,a,none⟩=false/\W.frozen? ⟨n,b,none⟩=false/\W.frozen? ⟨n,c,none⟩=false/\W.frozen? ⟨n,d,none⟩=false/\W.frozen? ⟨n,e,none⟩=false:=⟨h.freeH a,h.f4 b c d e⟩
theorem St.k6(h:St W0 W ((n,.cells s T fr)::M))(a b c d e g:Nat):W.cell? ⟨n,a,none⟩=s[a]?/\W.cell? ⟨n,b,none⟩=s[b]?/\W.cell? ⟨n,c,none⟩=s[c]?/\W.cell? ⟨n,d,none⟩=s[d]?/\W.cell? ⟨n,e,none⟩=s[e]?/\W.cell? ⟨n,g,none⟩=s[g]?:=⟨h.cellH a,h.k5 b c d e g⟩
theorem St.f6(h:St W0 W ((n,.cells s T (0,0))::M))(a b c d e g:Nat):W.frozen? ⟨n,a,none⟩=false/\W.frozen? ⟨n,b,none⟩=false/\W.frozen? ⟨n,c,none⟩=false/\W.frozen? ⟨n,d,none⟩=false/\W.frozen? ⟨n,e,none⟩=false/\W.frozen? ⟨n,g,none⟩=false:=⟨h.freeH a,h.f5 b c d e g⟩
theorem St.k7(h:St W0 W ((n,.cells s T fr)::M))(a b c d e g i:Nat):W.cell? ⟨n,a,none⟩=s[a]?/\W.cell? ⟨n,b,none⟩=s[b]?/\W.cell? ⟨n,c,none⟩=s[c]?/\W.cell? ⟨n,d,none⟩=s[d]?/\W.cell? ⟨n,e,none⟩=s[e]?/\W.cell? ⟨n,g,none⟩=s[g]?/\W.cell? ⟨n,i,none⟩=s[i]?:=⟨h.cellH a,h.k6 b c d e g i⟩
theorem St.f7(h:St W0 W ((n,.cells s T (0,0))::M))(a b c d e g i:Nat):W.frozen? ⟨n,a,none⟩=false/\W.frozen? ⟨n,b,none⟩=false/\W.frozen? ⟨n,c,none⟩=false/\W.frozen? ⟨n,d,none⟩=false/\W.frozen? ⟨n,e,none⟩=false/\W.frozen? ⟨n,g,none⟩=false/\W.frozen? ⟨n,i,none⟩=false:=⟨h.freeH a,h.f6 b c d e g i⟩
theorem St.k8(h:St W0 W ((n,.cells s T fr)::M))(a b c d e g i j:Nat):W.cell? ⟨n,a,none⟩=s[a]?/\W.cell? ⟨n,b,none⟩=s[b]?/\W.cell? ⟨n,c,none⟩=s[c]?/\W.cell? ⟨n,d,none⟩=s[d]?/\W.cell? ⟨n,e,none⟩=s[e]?/\W.cell? ⟨n,g,none⟩=s[g]?/\W.cell? ⟨n,i,none⟩=s[i]?/\W.cell? ⟨n,j,none⟩=s[j]?:=⟨h.cellH a,h.k7 b c d e g i j⟩
theorem St.f8(h:St W0 W ((n,.cells s T (0,0))::M))(a b c d e g i j:Nat):W.frozen? ⟨n,a,none⟩=false/\W.frozen? ⟨n,b,none⟩=false/\W.frozen? ⟨n,c,none⟩=false/\W.frozen? ⟨n,d,none⟩=false/\W.frozen? ⟨n,e,none⟩=false/\W.frozen? ⟨n,g,none⟩=false/\W.frozen? ⟨n,i,none⟩=false/\W.frozen? ⟨n,j,none⟩=false:=⟨h.freeH a,h.f7 b c d e g i j⟩
end
section
variable{P:Program}{ops:Array Oper}{Q:Exit->Act->World->Prop}{md:Region.Mode}{S:World->Prop}{o:Oper}{n:Nat}{l:Array Bool}{a:Act}{w:World}
theorem TK(i:Nat){v:Value}(hi:ops[i]?=some o)(hy:∀w,S w->(execOp a.eval o).run P w=.ok (.value v) w)(h:wpAnyH P md ops Q S n (l.setIfInBounds i true) (a.put o.dst v) w)(hw:Region.wanted o (yielded ops a.tmps)=true:=by rfl)(hS:S w:=by assumption)(h1:Region.noSelect ops=true:=by kernel_rfl)(h2:Region.free md ops l i=true:=by kernel_rfl)(h3:(Region.ready md ops l).contains i=true:=by kernel_rfl)(hQ:∀c a w,Q (.panic c) (a.put o.dst v) w->Q (.panic c) a w:=by exact λ_ _ _ h=>h):wpAnyH P md ops Q S (n+1) l a w:=wpAnyH_take hi h1 h2 h3 hQ (.inl ⟨hw,hy⟩) hS h
theorem BR(i:Nat)(hr:Region.ready md ops l=[i])(ho:ops[i]?=some o)(h:∀K:Act->World->Prop,Shut (∀a w,S w->(S w->wpAnyH P md ops Q S n (l.setIfInBounds i true) a w)->K a w)->if Region.wanted o (yielded ops a.tmps)=true then Oper.wp P o a w K Q else K (a.put o.dst undef) w):wpAnyH P md ops Q S (n+1) l a w:=wpAnyH_ready hr (by simp) (.cons ho h .nil)
def BRS(P:Program)(ops:Array Oper)(Q:Exit->Act->World->Prop)(md:Region.Mode)(S:World->Prop)(n:Nat)(l:Array Bool)(a:Act)(w:World)(i:Nat)(o:Oper):Prop:=∀K:Act->World->Prop,Shut (∀a w,S w->(S w->wpAnyH P md ops Q S n (l.setIfInBounds i true) a w)->K a w)->if Region.wanted o (yielded ops a.tmps)=true then Oper.wp P o a w K Q else K (a.put o.dst undef) w
theorem B2(i j:Nat){p:Oper}(hr:Region.ready md ops l=[i,j])(ho:ops[i]?=some o)(hp:ops[j]?=some p)(h:BRS P ops Q md S n l a w i o)(k:BRS P ops Q md S n l a w j p):wpAnyH P md ops Q S (n+1) l a w:=wpAnyH_ready hr (by simp) (.cons ho h (.cons hp k .nil))
theorem B3(i j m:Nat){p q:Oper}(hr:Region.ready md ops l=[i,j,m])(ho:ops[i]?=some o)(hp:ops[j]?=some p)(hq:ops[m]?=some q)(h:BRS P ops Q md S n l a w i o)(k:BRS P ops Q md S n l a w j p)(g:BRS P ops Q md S n l a w m q):wpAnyH P md ops Q S (n+1) l a w:=wpAnyH_ready hr (by simp) (.cons ho h (.cons hp k (.cons hq g .nil)))
end
def Yv(w:World)(v:Value)(ZF:List Value):Prop :=
 ∃ad cap,v=.slice ad ZF.length cap/\ZF.length<=cap/\cap<=maxLen /\
  (ZF≠[]->∃b o,ad=some ⟨b,o,none⟩/\∀(i:Nat) x,ZF[i]?=some x->w.cell? ⟨b,o+i,none⟩=some x)
theorem Yv.nil:Yv w (.slice none 0 0) []:=⟨none,0,rfl,jm _,by unfold maxLen;omega,λh=>absurd rfl h⟩
theorem Yv.below{w w':World}{B:Nat}(h:Yv w v X)(k:Below B w w')(g:w.heap.size<=B):Yv w' v X:=by
 obtain⟨n,c,rfl,f,d,j⟩:=h;refine⟨n,c,rfl,f,d,λa=>?_⟩;obtain⟨b,o,e,l⟩:=j a;refine⟨b,o,e,λi x m=>?_⟩;have:=l i x m;rw[k.cell (p:=⟨b,o+i,none⟩) (JG (jM w _ this) g)];exact this
def xg(ns:List Int):List Value:=ns.map (Value.int .i64)
theorem xO(a:List Int):(xg a).length=a.length:=by simp[xg]
theorem zav(a:List Int)(i:Nat)(h:i<a.length):(xg a)[i]?=some (OI (a.getD i 0)):=by
 simp[xg,jZ,JJ,h]
theorem Yv.drewN(h:Yv W v X)(n:Nat):Yv (W.drewN n) v X:=h
theorem Vs(h:(P.info? T).map (λi=>(i.zero,i.size,i.bytes))=some (some v,n,b)):∃i,P.info? T=some i/\i.zero=some v/\i.size=n/\i.bytes=b:=by
 cases hi:P.info? T with
 |none=>rw[hi]at h;cases h
 |some i =>
  rw[hi]at h;simp only[JE,Ug,Je]at h;exact⟨i,rfl,h.1,h.2.1,h.2.2⟩
theorem Rw.rowOf{F M:va}{W0 W:World}(h:Rw T 1 v n X F)(q:St W0 W (F++M)):Yv W v X:=by
 obtain⟨t,k,m,u,p,_⟩:=h.form;have o:=h.1;refine⟨t,k,by rw[m,o,JM],by omega,p,λj=>?_⟩;obtain⟨g,c,f,r⟩:=h.cells q j;rw[m]at f;injection f with a b d
 subst a;exact⟨g,0,rfl,λi x s=>by rw[Jp];exact r i x s⟩
theorem St.ofOwn(h:V.ownsRow W.heap.size T b v n X)(f:Below W.heap.size W V):∃F,Rw T b v n X F/\St W V F:=by
 obtain⟨d,k⟩:=h;rcases k with⟨rfl,m⟩|⟨g,c,a,rfl,q,r,s,j,p,o⟩
 .exact⟨[],⟨d,.inl ⟨rfl,m,rfl⟩⟩,⟨f,by simp,by simp⟩⟩
 .exact⟨[(g,.cells a T)],⟨d,.inr ⟨g,c,a,rfl,rfl,s,j,p,o⟩⟩,⟨f,by intro x i;simp at i;subst i;exact⟨q,r⟩,by simp⟩⟩
def upd{α:Type}(f:α->α)(j:Nat)(l:List α):List α:=(l.take j).map f++l.drop j
theorem zae{α:Type}(f:α->α)(l:List α):upd f 0 l=l:=by simp[upd]
theorem Vv{α:Type}(f:α->α)(j:Nat)(l:List α):(upd f j l).length=l.length:=by simp[upd];omega
theorem yae{α:Type}(f:α->α)(l:List α):upd f l.length l=l.map f:=by simp[upd]
theorem qaF{α:Type}(f:α->α)(j:Nat)(l:List α)(h:j<l.length):(upd f j l)[j]?=l[j]?:=by
 unfold upd;have a:((l.take j).map f).length=j:=by simp;omega
 rw[Jl (by omega),a,Uk,kT,UY]
theorem Xbd{α:Type}(f:α->α)(j:Nat)(l:List α)(h:j<l.length):(upd f j l).set j (f l[j])=upd f (j+1) l:=by
 unfold upd;have a:((l.take j).map f).length=j:=by simp;omega
 rw[UZ,jd (by omega),a,Uk,jR h,ji,jS h,jr];simp
theorem za3(l:List Int)(j:Nat)(x:Int):(xg l).set j (OI x)=xg (l.set j x):=by simp[xg,KS]
theorem Rw.put{e:TypeId}{F M:va}(h:Rw e 1 v n X F)(f:St V W (F++M))(j:Nat)(m:j<n):
  ∃g a,v=.slice (some ⟨g,0,none⟩) n a/\W.cell? ⟨g,j,none⟩=X[j]?/\W.frozen? ⟨g,j,none⟩=false/\∀c x,∃F',Rw e 1 v n (X.set j x) F'/\St V ((W.drewN c).setCell ⟨g,j,none⟩ x) (F'++M):=by
 obtain⟨i,o⟩:=h;rcases o with⟨rfl,rfl,rfl⟩|⟨g,a,b,rfl,rfl,q,p,k,d⟩
 .omega
 .rw[JM]at k d i;refine⟨g,a,rfl,?_,f.freeH j,λc x=>⟨[(g,.cells (b.setIfInBounds j x) e)],⟨by simp[i],.inr ⟨g,a,_,rfl,rfl,q,p,by simp[k],?_⟩⟩,(f.drewN c).set j x⟩⟩
  .rw[f.cellH,<-d,JT m];simp
  .rw[JM,J5,List.take_set,d]
def Gro(e:TypeId)(bs v:Value)(n:Nat)(l ks:List Value)(F:va):Prop :=
 (∃g cap,bs=.slice (some ⟨g,0,none⟩) n cap/\v=.slice (some ⟨g,0,none⟩) (n+ks.length) cap/\Rw e 1 v (n+ks.length) (l++ks) F) \/
 (∃F1 F2,F=F1++F2/\Rw e 1 bs n l F2/\Rw e 1 v (n+ks.length) (l++ks) F1)
theorem Gro.start{F:va}(h:Rw T 1 v n X F):Gro T v v n X [] F:=by
 have b:=h;rcases h.2 with⟨rfl,rfl,rfl⟩|⟨g,a,c,rfl,rfl,j,f,i,d⟩
 .exact .inr ⟨[],[],rfl,b,by simpa using b⟩
 .exact .inl ⟨g,a,rfl,rfl,by simpa using b⟩
theorem Rw.pre{e:TypeId}{l q:List Value}{F:va}(h:Rw e 1 (.slice (some ⟨b,0,none⟩) (n+m) k) (n+m) (l++q) F)(d:l.length=n):Rw e 1 (.slice (some ⟨b,0,none⟩) n k) n l F:=by
 obtain⟨r,j⟩:=h;rcases j with⟨c,_⟩|⟨t,f,a,c,rfl,s,o,p,i⟩
 .cases c
 .cases c;refine⟨by omega,.inr ⟨b,k,a,rfl,rfl,by omega,o,p,?_⟩⟩;have:=jT (List.take n) i;rw[JM,List.take_take,Uy (by omega),<-d,Uj]at this;rw[JM,<-d];exact this
theorem Gro.base{l f:List Value}{F:va}(h:Gro T r v n l f F)(a:l.length=n):∃F',Rw T 1 r n l F'/\F'.Sublist F:=by
 rcases h with⟨g,d,rfl,rfl,b⟩|⟨k,i,rfl,c,j⟩
 .exact⟨F,b.pre a,Jz _⟩
 .exact⟨i,c,J0 _ _⟩
theorem Gro.form{l b:List Value}{F:va}(h:Gro T r v n l b F):∃c a,v=.slice c (n+b.length) a:=by
 rcases h with⟨g,a,rfl,rfl,i⟩|⟨f,k,rfl,j,d⟩
 .exact⟨_,_,rfl⟩
 .obtain⟨c,a,rfl,_⟩:=d.form;exact⟨_,_,rfl⟩
structure Row where
 g:List Int
 v:Value
 F:va
def Row.ok(e:TypeId)(r:Row):Prop:=Rw e 1 r.v r.g.length (xg r.g) r.F
def ZF(T:List Row):List Value:=T.map (·.v)
def qt(v:Value):Prop:=∀n c,v=.slice none n c->n=0/\c=0
theorem Rw.vnil{F:va}(h:Rw T b v n X F):qt v:=by
 intro k c a;rcases h.2 with⟨rfl,_⟩|⟨g,f,d,rfl,_⟩
 .cases a;exact⟨rfl,rfl⟩
 .cases a
def Vc(l:Bs):List Value:=l.map λc=>.int .u8 (c.toNat:Int)
def qa(l:Bs):Value:=.string ⟨l.toArray⟩
theorem vp(l:Bs):(Vc l).length=l.length:=by simp[Vc]
theorem Yag(a b:Bs):Vc (a++b)=Vc a++Vc b:=by simp[Vc]
theorem QaI(l:Bs)(i:Nat)(h:i<l.length):(Vc l)[i]?=some (.int .u8 ((l.getD i 0).toNat:Int)):=by simp[Vc,JJ,h]
theorem qab(l:Bs)(n:Int)(c:UInt8)(h:n=(c.toNat:Int)):Vc l++[.int .u8 n]=Vc (l++[c]):=by subst h;simp[Vc]
theorem ya3(l:Bs):strOfNums (l.map λc=>(c.toNat:Int))=⟨l.toArray⟩:=by
 have h:(strOfNums (l.map λc=>(c.toNat:Int))).data.toList=l:=by
  rw[strOfNums_data,j7]
  conv=>rhs;rw[<-Ky l]
  refine Uw λc _=>?_
  simp
 have a:(strOfNums (l.map λc=>(c.toNat:Int))).data=l.toArray:=ky.1 (by rw[h]);cases hs:strOfNums (l.map λc=>(c.toNat:Int))with
 |mk d=>rw[hs]at a;simp only at a;rw[a]
theorem xU{src e dst:TypeId}(j:P.underlying src=some (.slice e))(g:P.underlying e=some (.int .u8))(f:P.underlying dst=some .string){l:Bs}(h:Yv W v (Vc l)):
  (convert src dst v).run P W=.ok (qa l) W:=by
 obtain⟨q,d,rfl,m,r,n⟩:=h;rw[vp]at m|-
 by_cases hl:l=[]
 .subst hl;cases q with
  |none=>exact run_convert_bytes_nil W src e j g _ _ dst f
  |some a =>
   rw[run_convert_bytes_string W src dst e _ _ _ j g f,run_bytesToString W _ _ d ([]:List Int) (by simpa using run_loadCells_list (P:=P) W a [] (by simp))];rfl
 .obtain⟨b,o,rfl,p⟩:=n (by simpa [Vc] using hl);have:=run_convert_bytes_arg W src e j g b o l.length d (l.map λc=>(c.toNat:Int)) (by simp) (λi k=>by
   rw[p i _ (QaI l i k)];simp[JJ,k]) dst f
  rw[this,ya3];rfl
theorem zaJ{b e a:TypeId}(g:P.underlying b=some (.slice e))(d:P.underlying e=some (.int .u8))(c:P.underlying a=some .string){W0 W:World}{F M:va}{l:Bs}(h:Rw e 1 v n (Vc l) F)(f:St W0 W (F++M)):
  (convert b a v).run P W=.ok (qa l) W:=xU g d c (h.rowOf f)
theorem Zab{src e dst:TypeId}(d:P.underlying src=some (.slice e))(b:P.underlying e=some (.int .u8))(a:P.underlying dst=some .string){W0 W:World}{F:va}{l:Bs}(h:Rw e 1 v n (Vc l) F)(c:St W0 W F):
  (convert src dst v).run P W=.ok (qa l) W:=zaJ d b a h (M:=[]) (W0:=W0) (by rw[jJ];exact c)
theorem yav{src e dst:TypeId}(f:P.underlying src=some (.slice e))(d:P.underlying e=some (.int .u8))(b:P.underlying dst=some .string)(W:World){A:Array Value}{l:Bs}(g:A.toList=Vc l)(h:n=l.length)(c:n<=maxLen):
  (convert src dst (.slice (some ⟨W.heap.size,0,none⟩) n n)).run P (W.alloc (.cells A e))=.ok (qa l) (W.alloc (.cells A e)):=by
 subst h;refine xU f d b ⟨_,l.length,by rw[vp],by rw[vp];exact jm _,c,λ_=>⟨W.heap.size,0,rfl,λi x a=>?_⟩⟩;rw[<-g]at a;simp only[World.cell?,U5 W,Jp];simpa using a
theorem yh(a b:Bs):ByteArray.mk a.toArray++ByteArray.mk b.toArray=ByteArray.mk (a++b).toArray:=by
 apply Kf;simp[ByteArray.data_append]
theorem zb(a:Bs):(ByteArray.mk a.toArray).size=a.length:=by simp[ByteArray.size]
theorem xa3(l:Bs)(n:Nat):(ByteArray.mk l.toArray).extract 0 n=ByteArray.mk (l.take n).toArray:=by
 apply Kf;simp[kk,U1]
theorem xav(l:Bs)(n:Nat):(ByteArray.mk l.toArray).extract n l.length=ByteArray.mk (l.drop n).toArray:=by
 apply Kf;simp only[kk,List.extract_toArray,U1];rw[Ji (by simp)]
theorem Vbo(h:c<256):bits .or .u8 (c:Int) 128=((c%128+128:Nat):Int):=by
 have a:∀c:Nat,c<256->bits .or .u8 (c:Int) 128=((c%128+128:Nat):Int):=by decide +kernel
 exact a c h
theorem Zbk(h:c<256):bits .and .u8 (c:Int) 127=((c%128:Nat):Int):=by
 have a:∀c:Nat,c<256->bits .and .u8 (c:Int) 127=((c%128:Nat):Int):=by decide +kernel
 exact a c h
section
section flat
variable {α:Type} {enc:α->List Value} {k:Nat}
theorem vg(a:∀x,(enc x).length=k):∀l:List α,(l.flatMap enc).length=l.length*k
 |[]=>by simp
 |x::r=>by rw[jB,ja,a,vg a r,jk,Ul,KP]
theorem Zj(a:∀x,(enc x).length=k):∀(l:List α) (i j:Nat) (h:i<l.length),j<k->(l.flatMap enc)[i*k+j]?=(enc l[i])[j]?
 |[],_,_,h,_=>by simp at h
 |x::r,0,j,_,hj=>by
  rw[jB,KT,Jp,UN (by rw[a];exact hj)];rfl
 |x::r,i+1,j,h,hj=>by
  rw[jB,Jl (by rw[a,Ul];omega),a,show(i+1)*k+j-k=i*k+j by rw[Ul];omega,Zj a r i j (by simpa using h) hj];rfl
theorem VQ(l:List α)(x:α):l.flatMap enc++enc x=(l++[x]).flatMap enc:=by simp
end flat
def qe{α:Type}(enc:α->List Value)(k:Nat)(w:World)(v:Value)(l:List α):Prop :=
 ∃ad cap,v=.slice ad l.length cap/\l.length<=cap/\cap<=maxLen/\(l≠[]->∃b o,ad=some ⟨b,o,none⟩/\∀(i:Nat) x,(l.flatMap enc)[i]?=some x->w.cell? ⟨b,o+i,none⟩=some x)
theorem Rw.rowK{α:Type}{enc:α->List Value}{k:Nat}{e:TypeId}{v:Value}{l:List α}{F M:va}{W0 W:World}(h:Rw e k v l.length (l.flatMap enc) F)(a:∀x,enc x≠[])(p:St W0 W (F++M)):qe enc k W v l:=by
 obtain⟨u,j,m,q,o,_⟩:=h.form;refine⟨u,j,m,q,o,λf=>?_⟩;have d:l.flatMap enc≠[]:=by
  cases l with
  |nil=>exact absurd rfl f
  |cons x r =>
   rw[jB];intro n;exact a x (Ka.1 n).1
 obtain⟨g,c,b,s⟩:=h.cells p d;rw[m]at b;cases b;exact⟨g,0,rfl,λi x t=>by rw[Jp];exact s i x t⟩
theorem qe.below{α:Type}{enc:α->List Value}{k:Nat}{w w':World}{v:Value}{l:List α}{B:Nat}(h:qe enc k w v l)(m:Below B w w')(g:w.heap.size<=B):qe enc k w' v l:=by
 obtain⟨r,c,rfl,f,d,j⟩:=h;refine⟨r,c,rfl,f,d,λa=>?_⟩;obtain⟨b,o,e,n⟩:=j a;refine⟨b,o,e,λi x q=>?_⟩;have:=n i x q;rw[m.cell (p:=⟨b,o+i,none⟩) (JG (jM w _ this) g)];exact this
theorem qe.fld{α:Type}{enc:α->List Value}{k:Nat}(d:∀x,(enc x).length=k){w:World}{v:Value}{l:List α}(h:qe enc k w v l)(i:Nat)(c:i<l.length):∃b o a,v=.slice (some ⟨b,o,none⟩) l.length a/\∀j x,(enc l[i])[j]?=some x->w.cell? ⟨b,o+(i*k+j),none⟩=some x:=by
 obtain⟨r,a,rfl,q,p,m⟩:=h;obtain⟨b,o,rfl,n⟩:=m (by intro e;rw[e]at c;simp at c);refine⟨b,o,a,rfl,λj x f=>n _ _ ?_⟩;have g:j<k:=by have:=(jV.1 f).1;rw[d]at this;exact this
 rw[Zj d l i j c g];exact f
namespace St
variable {W0 W:World} {A B C D E R:va}
theorem b2(h:St W0 W (A++(B++R))):St W0 W (B++(A++R)):=h.rot
theorem b3(h:St W0 W (A++(B++(C++R)))):St W0 W (C++(A++(B++R))):=h.perm (by
 have a:(A++(B++(C++R))).Perm (A++(C++(B++R))):=(Jj B C R).append_left A;exact(a.trans (Jj A C (B++R))).symm)
theorem u3(h:St W0 W (C++(A++(B++R)))):St W0 W (A++(B++(C++R))):=h.perm (by
 have a:(A++(B++(C++R))).Perm (A++(C++(B++R))):=(Jj B C R).append_left A;exact a.trans (Jj A C (B++R)))
theorem b4(h:St W0 W (A++(B++(C++(D++R))))):St W0 W (D++(A++(B++(C++R)))):=h.perm (by
 have a:(B++(C++(D++R))).Perm (D++(B++(C++R))):=((Jj C D R).append_left B).trans (Jj B D (C++R));exact((a.append_left A).trans (Jj A D (B++(C++R)))).symm)
theorem u4(h:St W0 W (D++(A++(B++(C++R))))):St W0 W (A++(B++(C++(D++R)))):=h.perm (by
 have a:(B++(C++(D++R))).Perm (D++(B++(C++R))):=((Jj C D R).append_left B).trans (Jj B D (C++R));exact(a.append_left A).trans (Jj A D (B++(C++R))))
end St
end
end Go.Proofs.YtekkihmmclencaaGreatDoor
