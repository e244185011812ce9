/- AuditCounts: how often each kind of flaw; the program's count of flaws, by its contract. -/
import Derived.Test.YtbfbaofhnnnohaaGreatDoorProg
import Derived.WalkKit
import Derived.ProofKit
import Derived.Below
import Derived.Lib.Hide
import Derived.Deep.RegionHeld3
import Derived.KernelRfl
namespace Go.Proofs.YtbfbaofhnnnohaaGreatDoor.auditCounts
open Go.ChangeShapes Go.WideShapes Go.ChangeAt Go.RowKit
set_option linter.unusedVariables false

/-- How often a kind is among some; of kinds that there are. -/
def wt (l : List Int) (j : Nat) : Int := if 1 ≤ j ∧ j ≤ 11 then (l.count (j : Int) : Nat) else 0

theorem wt_bd (l : List Int) (j : Nat) : 0 ≤ wt l j ∧ wt l j ≤ l.length := by
  unfold wt
  have := List.count_le_length (a := (j : Int)) (l := l)
  split <;> omega

theorem wt_nil (j : Nat) : wt [] j = 0 := by unfold wt; simp

theorem wt_hit (l : List Int) (k : Int) (h1 : 1 ≤ k) (h2 : k ≤ 11) : wt (l ++ [k]) k.toNat = wt l k.toNat + 1 := by
  unfold wt
  have h3 : 1 ≤ k.toNat ∧ k.toNat ≤ 11 := by omega
  have h4 : ((k.toNat : Nat) : Int) = k := by omega
  rw [if_pos h3, if_pos h3, h4, List.count_append]
  simp

theorem wt_other (l : List Int) (k : Int) (j : Nat) (h : (j : Int) ≠ k) : wt (l ++ [k]) j = wt l j := by
  unfold wt
  split
  · rw [List.count_append]
    have : List.count (j : Int) [k] = 0 := by
      rw [List.count_eq_zero]; simp [h]
    omega
  · rfl

theorem wt_miss (l : List Int) (k : Int) (j : Nat) (h : ¬ (1 ≤ k ∧ k ≤ 11)) : wt (l ++ [k]) j = wt l j := by
  by_cases hj : (j : Int) = k
  · unfold wt
    rw [if_neg (by omega), if_neg (by omega)]
  · exact wt_other l k j hj

theorem take_snoc (l : List Int) (k : Nat) (h : k < l.length) : l.take (k + 1) = l.take k ++ [l.getD k 0] := by
  rw [List.take_succ_eq_append_getElem h]
  simp [List.getD_eq_getElem?_getD, h]

/-- Twelve cells that hold the counts. -/
def Twelve (w : World) (b : Nat) (l : List Int) : Prop := (∀ j, j < 12 → w.cell? ⟨b, j, none⟩ = some (.int .i64 (wt l j))) ∧ ∀ j, w.frozen? ⟨b, j, none⟩ = false

theorem Twelve.same {w w' : World} {b : Nat} {l l' : List Int} (h : Twelve w b l) (hb : w'.heap[b]? = w.heap[b]?) (hl : ∀ j, wt l' j = wt l j) : Twelve w' b l' :=
  ⟨fun j hj => by rw [World.cell?_of_block (w := w) hb, h.1 j hj, hl], fun j => by rw [World.frozen?_of_block (w := w) hb]; exact h.2 j⟩

theorem Twelve.hit {w : World} {b : Nat} {l : List Int} (h : Twelve w b l) {k : Int} (h1 : 1 ≤ k) (h2 : k ≤ 11) : Twelve (w.setCell ⟨b, k.toNat, none⟩ (.int .i64 (wt l k.toNat + 1))) b (l ++ [k]) := by
  refine ⟨fun j hj => ?_, fun j => ?_⟩
  · by_cases hk : j = k.toNat
    · subst hk
      rw [World.cell?_setCell_same _ _ _ (h.1 _ hj), wt_hit l k h1 h2]
    · rw [World.cell?_setCell_other _ _ _ _ (fun e => hk (Addr.mk.inj e).2.1.symm), h.1 j hj, wt_other l k j (by omega)]
  · have := h.2 j
    rw [World.frozen?_setCell]
    exact this

/-- Rows of two cells: a kind, a text. -/
def Flaws (w : World) (A : Option Addr) (n : Nat) (ks : List Int) : Prop :=
  ks.length = n ∧ (0 < n → ∃ b off, A = some ⟨b, off, none⟩ ∧ b < w.heap.size ∧ ∀ j, j < n → w.cell? ⟨b, off + j * 2, none⟩ = some (.int .i64 (ks.getD j 0)) ∧ ∃ s, w.cell? ⟨b, off + j * 2 + 1, none⟩ = some (.string s))

/-- A row of cells is written, one behind the other. -/
def setRow (b : Nat) : World → Nat → List Value → World
  | w, _, [] => w
  | w, i, v :: vs => setRow b (w.setCell ⟨b, i, none⟩ v) (i + 1) vs

theorem setRow_below {B b : Nat} {w0 : World} (hb : B ≤ b) : ∀ {w : World} {i : Nat} {vs : List Value}, Below B w0 w → Below B w0 (setRow b w i vs)
  | _, _, [], h => h
  | _, i, v :: _, h => by
    simp only [setRow]
    exact setRow_below hb (h.setCell (p := ⟨b, i, none⟩) hb v)

theorem setRow_ahead (b : Nat) : ∀ (vs : List Value) (w : World) (i j : Nat), j < i → (setRow b w i vs).cell? ⟨b, j, none⟩ = w.cell? ⟨b, j, none⟩
  | [], _, _, _, _ => rfl
  | v :: vs, w, i, j, h => by
    simp only [setRow]
    rw [setRow_ahead b vs _ (i + 1) j (by omega), World.cell?_setCell_other _ _ _ _ (fun e => by have := (Addr.mk.inj e).2.1; omega)]

theorem setRow_cell (b : Nat) : ∀ (vs : List Value) (w : World) (i : Nat), (∀ j, i ≤ j → j < i + vs.length → ∃ v, w.cell? ⟨b, j, none⟩ = some v) →
    ∀ (j : Nat) (v : Value), vs[j]? = some v → (setRow b w i vs).cell? ⟨b, i + j, none⟩ = some v
  | [], _, _, _, j, v, h => by simp at h
  | u :: vs, w, i, hz, j, v, h => by
    simp only [setRow]
    cases j with
    | zero =>
      simp at h; subst h
      obtain ⟨x, hx⟩ := hz i (Nat.le_refl _) (by simp)
      show (setRow b _ (i + 1) vs).cell? ⟨b, i, none⟩ = _
      rw [setRow_ahead b vs _ (i + 1) i (by omega), World.cell?_setCell_same _ _ _ hx]
    | succ j =>
      have := setRow_cell b vs (w.setCell ⟨b, i, none⟩ u) (i + 1) (fun q h1 h2 => by
        obtain ⟨x, hx⟩ := hz q (by omega) (by simp; omega)
        exact ⟨x, by rw [World.cell?_setCell_other _ _ _ _ (fun e => by have := (Addr.mk.inj e).2.1; omega)]; exact hx⟩) j v (by simpa using h)
      rwa [show i + 1 + j = i + (j + 1) by omega] at this

theorem below12 {j : Nat} (h : j < 12) : j = 0 ∨ j = 1 ∨ j = 2 ∨ j = 3 ∨ j = 4 ∨ j = 5 ∨ j = 6 ∨ j = 7 ∨ j = 8 ∨ j = 9 ∨ j = 10 ∨ j = 11 := by omega

/-- Two blocks of twelve zeros, newly laid. -/
structure Init (w W1 : World) : Prop where
  size : W1.heap.size = w.heap.size + 2
  bel : Below w.heap.size w W1
  tw : Twelve W1 (w.heap.size + 1) []
  z : ∀ j, j < 12 → ∃ v, W1.cell? ⟨w.heap.size, j, none⟩ = some v
  fz : ∀ j, W1.frozen? ⟨w.heap.size, j, none⟩ = false

abbrev zeros12 : Array Value := #[.int .i64 0, .int .i64 0, .int .i64 0, .int .i64 0, .int .i64 0, .int .i64 0, .int .i64 0, .int .i64 0, .int .i64 0, .int .i64 0, .int .i64 0, .int .i64 0]

theorem init (w : World) : Init w ((w.alloc (.cells zeros12 56)).alloc (.cells zeros12 56)) where
  size := by simp
  bel := ((Below.refl _ _).alloc (Nat.le_refl _) _).alloc (by simp) _
  tw := by
    refine ⟨fun j hj => ?_, fun j => by simp⟩
    rw [wt_nil]
    rcases below12 hj with rfl | rfl | rfl | rfl | rfl | rfl | rfl | rfl | rfl | rfl | rfl | rfl <;> simp
  z := fun j hj => by
    refine ⟨.int .i64 0, ?_⟩
    rcases below12 hj with rfl | rfl | rfl | rfl | rfl | rfl | rfl | rfl | rfl | rfl | rfl | rfl <;> simp
  fz := fun j => by simp

set_option maxRecDepth 100000 in
set_option maxHeartbeats 1600000 in
theorem counts (A : Option Addr) (n cap : Nat) (ks : List Int) (hcap : n ≤ cap) (hn : n * 24 ≤ 140737488351232) (w : World) (hf : Flaws w A n ks) :
    Calls Tryz.prog 20 #[.slice A n cap] w fun e w' =>
      e = .returned (.agg #[.int .i64 (wt ks 0), .int .i64 (wt ks 1), .int .i64 (wt ks 2), .int .i64 (wt ks 3), .int .i64 (wt ks 4), .int .i64 (wt ks 5), .int .i64 (wt ks 6), .int .i64 (wt ks 7), .int .i64 (wt ks 8), .int .i64 (wt ks 9), .int .i64 (wt ks 10), .int .i64 (wt ks 11)]) ∧ Below w.heap.size w w' := by
  have HF := Lib.hid hf
  clear hf
  go_enter Tryz.func20, Tryz.ntmps20
  go_wp2
  have HI := Lib.hid (init w)
  generalize ((w.alloc (.cells zeros12 56)).alloc (.cells zeros12 56)) = W1 at HI ⊢
  go_loopw [8] (fun i wr => ∃ k : Nat, k ≤ n ∧ i = .int .i64 k ∧ Hid (Twelve wr (w.heap.size + 1) (ks.take k)) ∧ Hid (Below (w.heap.size + 1) W1 wr)) (fun i _ => n - (intOf i).toNat)
  case atStart => exact ⟨0, Nat.zero_le _, rfl, HI.out.tw, Below.refl _ _⟩
  case round =>
    obtain ⟨k, hk, rfl, HT, HB⟩ := hrel
    by_cases hlt : k < n
    · obtain ⟨b, off, rfl, hb, hc⟩ := HF.out.2 (by omega)
      obtain ⟨h0, s, h1⟩ := hc k hlt
      clear hc
      have hbel := (HI.out.bel).trans (HB.out.mono (B' := w.heap.size) (by omega))
      have hsz := HI.out.size
      have hz := HB.out.size
      have g0 := (hbel.cell (p := ⟨b, off + k * 2, none⟩) hb).trans h0
      have g1 := (hbel.cell (p := ⟨b, off + k * 2 + 1, none⟩) hb).trans h1
      clear h0 h1
      have n0 := World.new_ne wr _ g0
      have hsnoc := take_snoc ks k (by rw [HF.out.1]; exact hlt)
      have HSN := Lib.hid hsnoc
      clear hsnoc
      generalize ks.getD k 0 = kk at g0 HSN
      have hlen : (ks.take k).length ≤ k := List.length_take_le _ _
      have hbd := wt_bd (ks.take k) kk.toNat
      by_cases hk1 : 1 ≤ kk
      · by_cases hk2 : kk ≤ 11
        · have hcell : (wr.alloc (.cells #[.int .i64 kk, .string s] 59)).cell? ⟨w.heap.size + 1, kk.toNat, none⟩ = some (.int .i64 (wt (ks.take k) kk.toNat)) :=
            (World.cell?_alloc_past _ _ _ (by omega)).trans (HT.out.1 kk.toNat (by omega))
          have hfz := HT.out.2 kk.toNat
          have hzz : w.heap.size + 1 < wr.heap.size := by omega
          clear hbel hsz hz
          go_wp2
          go_roundw
          case rel =>
            refine ⟨k + 1, by omega, by go_num, ?_, ?_⟩
            · show Twelve _ _ _
              rw [HSN.out]
              exact (HT.out.hit hk1 hk2).same (Below.heap_alloc _ _ _ (by simpa [World.setCell] using hzz)) (fun _ => rfl)
            · exact (HB.out.setCell (p := ⟨w.heap.size + 1, kk.toNat, none⟩) (Nat.le_refl _) _).alloc (by simp [World.setCell]; omega) _
          case measure => simp [intOf]; omega
        · have hmiss : ¬ (1 ≤ kk ∧ kk ≤ 11) := by omega
          have hzz : w.heap.size + 1 < wr.heap.size := by omega
          clear hbel hsz hz
          go_wp2
          go_roundw
          case rel =>
            refine ⟨k + 1, by omega, by go_num, ?_, HB.out.alloc (by omega) _⟩
            show Twelve _ _ _
            rw [HSN.out]
            exact HT.out.same (Below.heap_alloc _ _ _ hzz) (fun j => wt_miss _ _ j hmiss)
          case measure => simp [intOf]; omega
      · have hmiss : ¬ (1 ≤ kk ∧ kk ≤ 11) := by omega
        have hzz : w.heap.size + 1 < wr.heap.size := by omega
        have hd : decide (1 ≤ kk) = false := by simpa using hk1
        clear hbel hsz hz
        go_wp2
        go_roundw
        case rel =>
          refine ⟨k + 1, by omega, by go_num, ?_, HB.out.alloc (by omega) _⟩
          show Twelve _ _ _
          rw [HSN.out]
          exact HT.out.same (Below.heap_alloc _ _ _ hzz) (fun j => wt_miss _ _ j hmiss)
        case measure => simp [intOf]; omega
    · have hkn : k = n := by omega
      subst hkn
      have hT : Twelve wr (w.heap.size + 1) ks := by have := HT.out; rwa [List.take_of_length_le (by rw [HF.out.1]; exact Nat.le_refl _)] at this
      have c0 := hT.1 0 (by omega)
      have c1 := hT.1 1 (by omega)
      have c2 := hT.1 2 (by omega)
      have c3 := hT.1 3 (by omega)
      have c4 := hT.1 4 (by omega)
      have c5 := hT.1 5 (by omega)
      have c6 := hT.1 6 (by omega)
      have c7 := hT.1 7 (by omega)
      have c8 := hT.1 8 (by omega)
      have c9 := hT.1 9 (by omega)
      have c10 := hT.1 10 (by omega)
      have c11 := hT.1 11 (by omega)
      have zz : ∀ j, j < 12 → ∃ v, wr.cell? ⟨w.heap.size, j, none⟩ = some v := fun j hj => by
        obtain ⟨v, hv⟩ := HI.out.z j hj
        exact ⟨v, (HB.out.cell (p := ⟨w.heap.size, j, none⟩) (Nat.lt_succ_self _)).trans hv⟩
      have ff : ∀ j, wr.frozen? ⟨w.heap.size, j, none⟩ = false := fun j => (HB.out.frozen (p := ⟨w.heap.size, j, none⟩) (Nat.lt_succ_self _)).trans (HI.out.fz j)
      obtain ⟨z0, e0⟩ := zz 0 (by omega)
      obtain ⟨z1, e1⟩ := zz 1 (by omega)
      obtain ⟨z2, e2⟩ := zz 2 (by omega)
      obtain ⟨z3, e3⟩ := zz 3 (by omega)
      obtain ⟨z4, e4⟩ := zz 4 (by omega)
      obtain ⟨z5, e5⟩ := zz 5 (by omega)
      obtain ⟨z6, e6⟩ := zz 6 (by omega)
      obtain ⟨z7, e7⟩ := zz 7 (by omega)
      obtain ⟨z8, e8⟩ := zz 8 (by omega)
      obtain ⟨z9, e9⟩ := zz 9 (by omega)
      obtain ⟨z10, e10⟩ := zz 10 (by omega)
      obtain ⟨z11, e11⟩ := zz 11 (by omega)
      have hbel := Lib.hid ((HI.out.bel).trans (HB.out.mono (B' := w.heap.size) (by omega)))
      have HC := Lib.hid (setRow_cell w.heap.size [.int .i64 (wt ks 0), .int .i64 (wt ks 1), .int .i64 (wt ks 2), .int .i64 (wt ks 3), .int .i64 (wt ks 4), .int .i64 (wt ks 5), .int .i64 (wt ks 6), .int .i64 (wt ks 7), .int .i64 (wt ks 8), .int .i64 (wt ks 9), .int .i64 (wt ks 10), .int .i64 (wt ks 11)] wr 0 (fun j _ hj => zz j (by simpa using hj)))
      have HW := Lib.hid (setRow_below (b := w.heap.size) (i := 0) (vs := [.int .i64 (wt ks 0), .int .i64 (wt ks 1), .int .i64 (wt ks 2), .int .i64 (wt ks 3), .int .i64 (wt ks 4), .int .i64 (wt ks 5), .int .i64 (wt ks 6), .int .i64 (wt ks 7), .int .i64 (wt ks 8), .int .i64 (wt ks 9), .int .i64 (wt ks 10), .int .i64 (wt ks 11)]) (Nat.le_refl _) hbel.out)
      clear hT zz HT HB HI HF
      go_wp2
      show bodyPost _ _ _ _ _ (setRow w.heap.size wr 0 [.int .i64 (wt ks 0), .int .i64 (wt ks 1), .int .i64 (wt ks 2), .int .i64 (wt ks 3), .int .i64 (wt ks 4), .int .i64 (wt ks 5), .int .i64 (wt ks 6), .int .i64 (wt ks 7), .int .i64 (wt ks 8), .int .i64 (wt ks 9), .int .i64 (wt ks 10), .int .i64 (wt ks 11)])
      clear e0 e1 e2 e3 e4 e5 e6 e7 e8 e9 e10 e11 c0 c1 c2 c3 c4 c5 c6 c7 c8 c9 c10 c11
      have k0 := HC.out 0 _ rfl
      have k1 := HC.out 1 _ rfl
      have k2 := HC.out 2 _ rfl
      have k3 := HC.out 3 _ rfl
      have k4 := HC.out 4 _ rfl
      have k5 := HC.out 5 _ rfl
      have k6 := HC.out 6 _ rfl
      have k7 := HC.out 7 _ rfl
      have k8 := HC.out 8 _ rfl
      have k9 := HC.out 9 _ rfl
      have k10 := HC.out 10 _ rfl
      have k11 := HC.out 11 _ rfl
      simp only [Nat.zero_add] at k0 k1 k2 k3 k4 k5 k6 k7 k8 k9 k10 k11
      have hw := HW.out
      clear HC HW
      generalize setRow w.heap.size wr 0 [.int .i64 (wt ks 0), .int .i64 (wt ks 1), .int .i64 (wt ks 2), .int .i64 (wt ks 3), .int .i64 (wt ks 4), .int .i64 (wt ks 5), .int .i64 (wt ks 6), .int .i64 (wt ks 7), .int .i64 (wt ks 8), .int .i64 (wt ks 9), .int .i64 (wt ks 10), .int .i64 (wt ks 11)] = W9 at k0 k1 k2 k3 k4 k5 k6 k7 k8 k9 k10 k11 hw ⊢
      exact bodyPost_ret (v := .agg #[.int .i64 (wt ks 0), .int .i64 (wt ks 1), .int .i64 (wt ks 2), .int .i64 (wt ks 3), .int .i64 (wt ks 4), .int .i64 (wt ks 5), .int .i64 (wt ks 6), .int .i64 (wt ks 7), .int .i64 (wt ks 8), .int .i64 (wt ks 9), .int .i64 (wt ks 10), .int .i64 (wt ks 11)]) (by simp [results, Tryz.results20, go_sem, k0, k1, k2, k3, k4, k5, k6, k7, k8, k9, k10, k11]) rfl ⟨rfl, hw⟩
end Go.Proofs.YtbfbaofhnnnohaaGreatDoor.auditCounts
