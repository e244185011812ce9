/- FreeGroups: the reference's rows of addresses, and their comparison, by their contracts. -/
import Derived.Test.YtbfbaofhnnnohaaGreatDoorFGa
import Derived.Deep.DeepCutAuto
import Derived.Deep.CutBlock
namespace Go.Proofs.YtbfbaofhnnnohaaGreatDoor.freeGroups
open Go.ChangeShapes Go.WideShapes Go.ChangeAt Go.RowKit Go.Maps
set_option linter.unusedVariables false

/-- Numbers that lie in a row that came in. -/
def InRow (w : World) (A : Option Addr) (n : Nat) (xs : List Int) : Prop :=
  xs.length = n ∧ (∀ x ∈ xs, 0 ≤ x ∧ x < 4294967296) ∧ (0 < n → ∃ b off, A = some ⟨b, off, none⟩ ∧ b < w.heap.size ∧ ∀ j, j < n → w.cell? ⟨b, off + j, none⟩ = some (.int .u32 (xs.getD j 0)))

theorem nat_blk (n : Nat) (h : n < 4294967296) : n &&& 4294967232 = n - n % 64 := by
  have e1 : (4294967232 : Nat) = 67108863 <<< 6 := by decide
  have e2 : n &&& 4294967232 = ((n >>> 6) &&& 67108863) <<< 6 := by
    rw [e1]
    apply Nat.eq_of_testBit_eq
    intro j
    rw [Nat.testBit_and, Nat.testBit_shiftLeft, Nat.testBit_shiftLeft, Nat.testBit_and, Nat.testBit_shiftRight]
    by_cases hj : 6 ≤ j
    · have : 6 + (j - 6) = j := by omega
      simp [hj, this]
    · simp [hj]
  rw [e2, show (67108863 : Nat) = 2 ^ 26 - 1 by decide, Nat.and_two_pow_sub_one_eq_mod, Nat.shiftRight_eq_div_pow, Nat.shiftLeft_eq]
  have : n / 2 ^ 6 % 2 ^ 26 = n / 64 := by
    rw [show (2 : Nat) ^ 6 = 64 by decide, Nat.mod_eq_of_lt]
    have : (2 : Nat) ^ 26 = 67108864 := by decide
    omega
  rw [this, show (2 : Nat) ^ 6 = 64 by decide]
  omega

theorem blk_eq {x : Int} (h : 0 ≤ x ∧ x < 4294967296) : blk x = x - x % 64 := by
  obtain ⟨n, rfl⟩ : ∃ n : Nat, x = n := ⟨x.toNat, by omega⟩
  have hn : n < 4294967296 := by omega
  have e : blk (n : Int) = IntKind.u32.wrap ((n &&& 4294967232 : Nat) : Int) := by
    unfold blk bits
    simp only [IntKind.bits]
    congr 2
    show ((BitVec.ofInt 32 (n : Int)) &&& (BitVec.ofInt 32 4294967232)).toNat = _
    rw [BitVec.toNat_and]
    congr 1
    · simp; omega
  rw [e, nat_blk n hn]
  have e3 : ∀ m : Nat, m < 4294967296 → IntKind.u32.wrap (m : Int) = m := fun m hm => by
    have : IntKind.u32.wrap (m : Int) = (m : Int) % 4294967296 := by simp [IntKind.wrap, IntKind.bits, IntKind.signed]
    rw [this]; omega
  rw [e3 _ (by omega)]
  omega

theorem few (A : Option Addr) (n cap : Nat) (h : n ≤ cap) (w : World) : Calls Tryz.prog 24 #[.slice A n cap] w fun e w' => e = .returned (.slice A (min n 60) cap) ∧ w' = w := by
  go_enter Tryz.func24, Tryz.ntmps24
  by_cases h6 : 60 < n
  · go_wp2
    go_ret
    exact ⟨by rw [Nat.min_eq_right (by omega)]; rfl, rfl⟩
  · go_wp2
    go_ret
    exact ⟨by rw [Nat.min_eq_left (by omega)]; rfl, rfl⟩

set_option maxRecDepth 100000 in
set_option maxHeartbeats 1600000 in
theorem addrs (A B : Option Addr) (n ca cb : Nat) (xs : List Int) (hn : n * 4 ≤ 140737488351232) (w : World) (ha : InRow w A n xs) (hb : InRow w B n xs) :
    Calls Tryz.prog 27 #[.slice A n ca, .slice B n cb] w fun e w' => e = .returned (.bool true) ∧ Below w.heap.size w w' := by
  have HA := Lib.hid ha
  have HB := Lib.hid hb
  clear ha hb
  go_enter Tryz.func27, Tryz.ntmps27
  go_wp2
  go_loopw [5, 13] (fun _ i wr => ∃ k : Nat, k ≤ n ∧ i = .int .i64 k ∧ Hid (Below w.heap.size w wr)) (fun _ i _ => n - (intOf i).toNat)
  case atStart => exact ⟨0, Nat.zero_le _, rfl, Below.refl _ _⟩
  case round =>
    obtain ⟨k, hk, rfl, hnx⟩ := hrel
    by_cases hlt : k < n
    · obtain ⟨b, off, rfl, hb, hc⟩ := HA.out.2.2 (by omega)
      obtain ⟨b2, off2, rfl, hb2, hc2⟩ := HB.out.2.2 (by omega)
      have g0 := (hnx.out.cell (p := ⟨b, off + k, none⟩) hb).trans (hc k hlt)
      have g1 := (hnx.out.cell (p := ⟨b2, off2 + k, none⟩) hb2).trans (hc2 k hlt)
      clear hc hc2
      generalize xs.getD k 0 = x at g0 g1
      go_wp2
      go_region_held3 (fun w' => w'.cell? ⟨b, off + k, none⟩ = some (.int .u32 x) ∧ w'.cell? ⟨b2, off2 + k, none⟩ = some (.int .u32 x)) (go_keep) (fail)
      all_goals
        go_wp2
        go_roundw
        case rel => exact ⟨k + 1, by omega, by go_num, hnx.out.drew⟩
        case measure => simp [intOf]; omega
    · go_wp2
      go_ret
      exact ⟨rfl, hnx.out⟩

set_option maxRecDepth 100000 in
set_option maxHeartbeats 1600000 in
theorem ofBlock (A : Option Addr) (n cap : Nat) (xs : List Int) (y : Int) (hn : n * 4 ≤ 140737488351232) (w : World) (h : InRow w A n xs) :
    Calls Tryz.prog 28 #[.slice A n cap, .int .u32 y] w fun e w' => ∃ v, e = .returned v ∧ w'.ownsRow w.heap.size 22 1 v (xs.filter fun x => blk x == y).length ((xs.filter fun x => blk x == y).map (.int .u32)) ∧ Below w.heap.size w w' := by
  obtain ⟨i0, hi, hz0, hz1, hz2⟩ := info_parts info22
  have HC := Lib.hid h
  clear h
  go_enter Tryz.func28, Tryz.ntmps28
  go_wp2
  go_loopw [5, 7, 10] (fun v _ i wr => ∃ k : Nat, k ≤ n ∧ i = .int .i64 k ∧ wr.ownsRow w.heap.size 22 1 v ((xs.take k).filter fun x => blk x == y).length (((xs.take k).filter fun x => blk x == y).map (.int .u32)) ∧ Hid (Below w.heap.size w wr)) (fun _ _ i _ => n - (intOf i).toNat)
  case atStart => exact ⟨0, Nat.zero_le _, rfl, World.ownsRow_nil _ _ _ _, Below.refl _ _⟩
  case round =>
    obtain ⟨k, hk, rfl, hown, hnx⟩ := hrel
    by_cases hlt : k < n
    · obtain ⟨b, off, rfl, hb, hc⟩ := HC.out.2.2 (by omega)
      have g0 := (hnx.out.cell (p := ⟨b, off + k, none⟩) hb).trans (hc k hlt)
      have hx : 0 ≤ xs.getD k 0 ∧ xs.getD k 0 < 4294967296 := HC.out.2.1 _ (by rw [List.getD_eq_getElem?_getD, List.getElem?_eq_getElem (by have := HC.out.1; omega)]; exact List.getElem_mem _)
      have hsn := take_snoc xs k (by have := HC.out.1; omega)
      clear hc
      generalize xs.getD k 0 = x at g0 hx hsn
      have hbx := blk_eq hx
      by_cases hy : x - x % 64 = y
      · go_wp2_with (at_builtin; refine wpList_append_own _ rfl _ _ 23 rfl w.heap.size 22 i0 (.int .u32 0) 1 4 Tryz.underlying23 hi hz0 hz1 hz2 rfl (by decide) _ _ _ rfl (hown.alloc _) ⟨wr.heap.size, 0, none⟩ 1 1 [.int .u32 x] rfl rfl (cell_one_new _ _ _) (ints_oneCell .u32 [x]) ?c3 ?c4 ?c5 ?_)
        case c3 => have := List.length_filter_le (fun x => blk x == y) (xs.take k); have := List.length_take_le k xs; unfold maxLen; omega
        case c4 => have := List.length_filter_le (fun x => blk x == y) (xs.take k); have := List.length_take_le k xs; omega
        case c5 => have := hnx.out.size; simp; omega
        intro v' w1 hown' hgrow _
        have hB : Hid (Below w.heap.size w w1) := (hnx.out.alloc hnx.out.size _).grown hgrow (by have := hnx.out.size; simp; omega) (fun g e => (hown.lt g e).1)
        clear hgrow hnx hown
        go_wp2
        go_roundw
        case rel =>
          refine ⟨k + 1, by omega, by go_num, ?_, hB⟩
          have : (blk x == y) = true := by rw [hbx]; simpa using hy
          rw [hsn]
          simpa [List.filter_append, this] using hown'
        case measure => simp [intOf]; omega
      · go_wp2
        go_roundw
        case rel =>
          refine ⟨k + 1, by omega, by go_num, ?_, hnx⟩
          have : (blk x == y) = false := by rw [hbx]; simpa using hy
          rw [hsn]
          simpa [List.filter_append, this] using hown
        case measure => simp [intOf]; omega
    · go_wp2
      have : k = n := by omega
      subst this
      go_ret
      refine ⟨_, rfl, ?_, hnx.out⟩
      rwa [List.take_of_length_le (by have := HC.out.1; omega)] at hown
end Go.Proofs.YtbfbaofhnnnohaaGreatDoor.freeGroups
