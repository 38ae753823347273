/- The contracts of strings.Builder at this program's numbers (the shelf's, laid by hand), and Write of a slice of the caller's own. -/
import Derived.Test.YtijlfggficjamaaDoorProg
import Derived.Test.YtijlfggficjamaaDoorPlayLaws
import Derived.Shelf.Strings.Builder1
import Derived.Shelf.Strings.OnBuilder
namespace Go.Proofs.YtijlfggficjamaaDoor
set_option linter.unusedVariables false
set_option linter.unusedSimpArgs false
open Go Go.RowKit Go.Shelf
open Go.Lib (hid)

def bren : Go.Shelf.Ren := ⟨fun | 156 => 19 | 165 => 34 | 166 => 18 | 167 => 53 | 169 => 21 | 240 => 33 | 241 => 51 | 276 => 50 | 277 => 62 | n => n,
  fun | 31 => 28 | 9 => 9 | 3 => 3 | 4 => 4 | 0 => 0 | 20 => 20 | 72 => 44 | 70 => 41 | 37 => 42 | 75 => 46 | 164 => 87 | 5 => 5 | 80 => 53 | 127 => 75 | 76 => 47 | n => n, fun | n => n⟩
theorem bl156 : Go.Proofs.Lays.n156 Tryd.prog bren := {
  mixed := by kernel_rfl
  f156 := Tryd.func19.trans (congrArg some (by kernel_rfl))
  f165 := Tryd.func34.trans (congrArg some (by kernel_rfl))
  f166 := Tryd.func18.trans (congrArg some (by kernel_rfl))
  f169 := Tryd.func21.trans (congrArg some (by kernel_rfl))
  f240 := Tryd.func33.trans (congrArg some (by kernel_rfl))
  f241 := Tryd.func51.trans (congrArg some (by kernel_rfl))
  f276 := Tryd.func50.trans (congrArg some (by kernel_rfl))
  f277 := Tryd.func62.trans (congrArg some (by kernel_rfl))
  t0 := Tryd.underlying0, a0 := Tryd.isAgg0, z0 := Tryd.sizeOf0, v0 := Tryd.zeroValue0
  t3 := Tryd.underlying3, a3 := Tryd.isAgg3, z3 := Tryd.sizeOf3, v3 := Tryd.zeroValue3
  t4 := Tryd.underlying4, a4 := Tryd.isAgg4, z4 := Tryd.sizeOf4, v4 := Tryd.zeroValue4
  t9 := Tryd.underlying9, a9 := Tryd.isAgg9, z9 := Tryd.sizeOf9, v9 := Tryd.zeroValue9
  t20 := Tryd.underlying20, a20 := Tryd.isAgg20, z20 := Tryd.sizeOf20, v20 := Tryd.zeroValue20
  t31 := Tryd.underlying28, a31 := Tryd.isAgg28, z31 := Tryd.sizeOf28, v31 := Tryd.zeroValue28
  t37 := Tryd.underlying42, a37 := Tryd.isAgg42, z37 := Tryd.sizeOf42, v37 := Tryd.zeroValue42
  t70 := Tryd.underlying41, a70 := Tryd.isAgg41, z70 := Tryd.sizeOf41, v70 := Tryd.zeroValue41
  t72 := Tryd.underlying44, a72 := Tryd.isAgg44, z72 := Tryd.sizeOf44, v72 := Tryd.zeroValue44
  t75 := Tryd.underlying46, a75 := Tryd.isAgg46, z75 := Tryd.sizeOf46, v75 := Tryd.zeroValue46
  t76 := Tryd.underlying47, a76 := Tryd.isAgg47, z76 := Tryd.sizeOf47, v76 := Tryd.zeroValue47
  t127 := Tryd.underlying75, a127 := Tryd.isAgg75, z127 := Tryd.sizeOf75, v127 := Tryd.zeroValue75
  t164 := Tryd.underlying87, a164 := Tryd.isAgg87, z164 := Tryd.sizeOf87, v164 := Tryd.zeroValue87 }
theorem bl167 : Go.Proofs.Lays.n167 Tryd.prog bren := { bl156 with t5 := Tryd.underlying5, a5 := Tryd.isAgg5, z5 := Tryd.sizeOf5, v5 := Tryd.zeroValue5, f167 := Tryd.func53.trans (congrArg some (by kernel_rfl)) }
theorem bl166 : Go.Proofs.Lays.n166 Tryd.prog bren := { bl156 with }
theorem bl169 : Go.Proofs.Lays.n169 Tryd.prog bren := { bl156 with }
theorem bx : Builder.Extra Tryd.prog bren := {
  sizeBuilder := by kernel_rfl
  liesBuilder := by kernel_rfl
  t5 := Tryd.underlying5
  a5 := Tryd.isAgg5
  z5 := Tryd.sizeOf5
  v5 := Tryd.zeroValue5
  infoByte := by kernel_rfl
  cellsByte := by kernel_rfl
  sizeByte := by kernel_rfl
  neB5 := by decide }

/-- a builder of the call's own, that holds these bytes -/
abbrev IsB (B b : Nat) (l : List UInt8) (w : World) : Prop := Lib.IsBuilder 44 5 B b (Lib.byteCells l) w
theorem byteCells_app (a b : List UInt8) : Lib.byteCells (a ++ b) = Lib.byteCells a ++ Lib.byteCells b := by simp [Lib.byteCells]
theorem byteCells_len (a : List UInt8) : (Lib.byteCells a).length = a.length := by simp [Lib.byteCells]
theorem strCells_eq (s : ByteArray) : Lib.strCells s = Lib.byteCells s.data.toList := rfl

theorem BuilderAt_alloc {T e : TypeId} {B b : Nat} {p : Value} {bs : List Value} {w : World} (h : Lib.BuilderAt T e B b p bs w) (o : Obj) : Lib.BuilderAt T e B b p bs (w.alloc o) := by
  obtain ⟨hB, v, hb, hown, hne⟩ := h
  exact ⟨hB, v, by rw [Below.heap_alloc _ _ _ (lt_of_block hb)]; exact hb, hown.alloc o, hne⟩
theorem IsB_alloc {B b : Nat} {l : List UInt8} {w : World} (h : IsB B b l w) (o : Obj) : IsB B b l (w.alloc o) := by
  rcases h with h | h
  · exact .inl (BuilderAt_alloc h o)
  · exact .inr (BuilderAt_alloc h o)
theorem IsB_drew {B b : Nat} {l : List UInt8} {w : World} (h : IsB B b l w) : IsB B b l w.drew := h
theorem IsB_drewN {B b : Nat} {l : List UInt8} {w : World} (h : IsB B b l w) (n : Nat) : IsB B b l (w.drewN n) := h
theorem IsB_lt {B b : Nat} {l : List UInt8} {w : World} (h : IsB B b l w) : b < w.heap.size := by rcases h with h | h <;> exact h.lt
theorem b_byte (B b : Nat) (l : List UInt8) (c : UInt8) (w : World) (h : IsB B b l w) (hlen : l.length + 1 ≤ 140737488355328) (hBw : B ≤ w.heap.size) :
    Calls Tryd.prog 53 #[.pointer (some ⟨b, 0, none⟩), .int .u8 c.toNat] w fun e w' => e = .returned .nilIface ∧ IsB B b (l ++ [c]) w' ∧ Below B w w' :=
  (Any.Builder_WriteByte bl167 bx B b (Lib.byteCells l) (c.toNat : Int) w h (by rw [byteCells_len]; exact hlen) hBw).mono fun e w' ⟨he, hb, hw⟩ =>
    ⟨he, by rw [IsB, byteCells_app]; exact .inr hb, hw⟩
theorem b_str (B b : Nat) (l : List UInt8) (s : ByteArray) (w : World) (h : IsB B b l w) (hlen : l.length + s.size ≤ 140737488355328) (hBw : B ≤ w.heap.size) :
    Calls Tryd.prog 18 #[.pointer (some ⟨b, 0, none⟩), .string s] w fun e w' => e = .returned (.tuple #[.int .i64 s.size, .nilIface]) ∧ IsB B b (l ++ s.data.toList) w' ∧ Below B w w' :=
  (Any.Builder_WriteString bl166 bx B b (Lib.byteCells l) s w h (by rw [byteCells_len]; exact hlen) hBw).mono fun e w' ⟨he, hb, hw⟩ =>
    ⟨he, by rw [IsB, byteCells_app]; exact .inr hb, hw⟩
theorem b_string (B b : Nat) (l : List UInt8) (w : World) (h : IsB B b l w) (hBw : B ≤ w.heap.size) :
    Calls Tryd.prog 21 #[.pointer (some ⟨b, 0, none⟩)] w fun e w' => e = .returned (.string (S l)) ∧ Below B w w' :=
  Any.Builder_String_any bl169 bx B b l w h hBw
theorem s_join (bk o c : Nat) (xs : List ByteArray) (sep : ByteArray) (w : World)
    (hcells : ∀ (j : Nat) x, xs[j]? = some x → w.cell? ⟨bk, o + j, none⟩ = some (.string x))
    (hbk : bk < w.heap.size) (hN : xs.length ≤ 140737488355328) (hcap : xs.length ≤ c)
    (hlen : (Lib.join (xs.map (·.data.toList)) sep.data.toList).length ≤ 140737488355328) :
    Calls Tryd.prog 19 #[.slice (some ⟨bk, o, none⟩) xs.length c, .string sep] w fun e w' => e = .returned (.string (S (Lib.join (xs.map (·.data.toList)) sep.data.toList))) ∧ Below w.heap.size w w' :=
  Any.strings_Join bl156 bx bk o c xs sep w hcells hbk hN hcap hlen

set_option maxRecDepth 100000 in
set_option maxHeartbeats 1000000 in
/-- Write of a slice of the caller's own, in a block that is not the builder's -/
theorem b_write (B b : Nat) (l news : List UInt8) (g c : Nat) (w : World) (h : IsB B b l w) (hg : g ≠ b)
    (hnews : ∀ (j : Nat) u, news[j]? = some u → w.cell? ⟨g, j, none⟩ = some (.int .u8 u.toNat)) (hlen : l.length + news.length ≤ 140737488355328) (hBw : B ≤ w.heap.size) :
    Calls Tryd.prog 54 #[.pointer (some ⟨b, 0, none⟩), .slice (some ⟨g, 0, none⟩) news.length c] w fun e w' => e = .returned (.tuple #[.int .i64 news.length, .nilIface]) ∧ IsB B b (l ++ news) w' ∧ Below B w w' := by
  obtain ⟨i0, hi, hz0, hz1, hz2⟩ := info_parts bx.infoByte
  have main : ∃ w0 : World, (Calls Tryd.prog 33 #[.pointer (some ⟨b, 0, none⟩)] w fun e w' => e = .returned (.tuple #[]) ∧ w' = w0) ∧ Lib.BuilderAt 44 5 B b (.pointer (some ⟨b, 0, none⟩)) (Lib.byteCells l) w0 ∧ Below B w w0 ∧
      (∀ (j : Nat) u, news[j]? = some u → w0.cell? ⟨g, j, none⟩ = some (.int .u8 u.toNat)) := by
    rcases h with h | h
    · refine ⟨_, Any.Builder_copyCheck_fresh (ρ := bren) { bl156 with } bx.toX72 b w h.cell0 h.shape h.frozen0, h.used _, (Below.refl B w).setCell (p := ⟨b, 0, none⟩) h.1 _, fun j u hj => ?_⟩
      rw [World.cell?_of_block (w := w) (Below.heap_setCell w _ _ _ hg)]; exact hnews j u hj
    · exact ⟨_, Any.Builder_copyCheck_used (ρ := bren) { bl156 with } bx.toX72 b w h.cell0, h, Below.refl B _, hnews⟩
  clear h hnews
  obtain ⟨w0, hcc, h1, hb1, hnews⟩ := main
  have HCC := hid hcc; have HNEWS := hid hnews; clear hcc hnews
  obtain ⟨hB, v, hbk, hown, hne⟩ := h1
  have c0 : w0.cell? ⟨b, 0, none⟩ = some (.pointer (some ⟨b, 0, none⟩)) := by rw [Lib.cell_of_heap hbk]; rfl
  have c1 : w0.cell? ⟨b, 1, none⟩ = some v := by rw [Lib.cell_of_heap hbk]; rfl
  have hown0 := hown
  have hlow : ∀ k, v.ownBlock = some k → B ≤ k := fun k hk => (hown.lt k hk).1
  have HL := hid hlow; clear hlow
  go_enter Tryd.func54, Tryd.ntmps54
  go_wp2_with (go_at_call 33; refine HCC.out.mono ?_)
  rintro e w1 ⟨rfl, rfl⟩
  go_wp2_with (at_builtin; refine wpList_append_own _ rfl _ _ 42 rfl B 5 i0 (.int .u8 0) 1 1 Tryd.underlying42 hi hz0 hz1 hz2 rfl (by decide) _ _ _ rfl hown0 ⟨g, 0, none⟩ news.length c (Lib.byteCells news) rfl ?c1 ?c2 ?c3 ?c4 ?c5 ?c6 ?_)
  case c1 => rw [byteCells_len]; omega
  case c2 =>
    intro j u hj
    simp only [Lib.byteCells, List.getElem?_map, Option.map_eq_some_iff] at hj
    obtain ⟨x, hx, rfl⟩ := hj
    have := HNEWS.out j x hx
    unfold Addr.add
    split
    · rename_i h0; subst h0; exact this
    · simpa using this
  case c3 => intro u hu; simp only [Lib.byteCells, List.mem_map] at hu; obtain ⟨x, _, rfl⟩ := hu; rfl
  case c4 => rw [byteCells_len]; unfold maxLen; omega
  case c5 => rw [byteCells_len]; omega
  case c6 => have := hb1.size; omega
  intro v' w2 hown' hgrow _
  have hlt : b < w1.heap.size := lt_of_block hbk
  have hb2 : w2.heap[b]? = some (.cells #[.pointer (some ⟨b, 0, none⟩), v] 44 (0, 0)) := by
    rw [hgrow.block b hlt (fun e => hne e.symm)]; exact hbk
  have d1 : w2.cell? ⟨b, 1, none⟩ = some v := by rw [Lib.cell_of_heap hb2]; rfl
  have f1 : w2.frozen? ⟨b, 1, none⟩ = false := Lib.frozen_of_heap hb2 1
  have hv' : ∃ g cap, v' = .slice g ((Lib.byteCells l).length + news.length) cap := by
    rcases hown'.2 with ⟨e1, h0⟩ | ⟨g, cap, cur, hv, _⟩
    · exact ⟨none, 0, by rw [e1, h0]⟩
    · exact ⟨_, cap, hv⟩
  have HV := hid hv'
  clear c0 c1 hv' hown hown0 hbk
  obtain ⟨gg, cap, hvv⟩ := HV.out
  subst hvv
  go_wp2
  go_ret2
  refine ⟨rfl, ?_, ?_⟩
  · rw [IsB, byteCells_app]
    refine .inr (Lib.BuilderAt.put (T := 44) (e := 5) hB hb2 (bs' := Lib.byteCells l ++ Lib.byteCells news) ?_ (by decide))
    simpa [byteCells_len] using hown'
  · exact (hb1.grown hgrow (by have := hb1.size; omega) (fun k hk => HL.out k hk)).setCell (p := ⟨b, 1, none⟩) hB _
end Go.Proofs.YtijlfggficjamaaDoor
