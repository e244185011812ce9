/- AuditCounts' walk: the loop that builds flaws and counts them. -/
import Derived.Test.YtbfbaofhnnnohaaGreatDoorACa
import Derived.Test.YtbfbaofhnnnohaaGreatDoorACe
import Derived.Deep.DeepCutAuto
import Derived.Deep.CutBlock
import Derived.Deep.RegionWith
import Derived.Test.YtbfbaofhnnnohaaGreatDoorL33Q21
namespace Go.Proofs.YtbfbaofhnnnohaaGreatDoor.auditCounts
open Go.ChangeShapes Go.WideShapes Go.ChangeAt Go.RowKit
set_option linter.unusedVariables false

theorem info59 : (Tryz.prog.info? 59).map (fun i => (i.zero, i.size, i.bytes)) = some (some (.agg #[.int .i64 0, .string ByteArray.empty]), 2, 24) := by kernel_rfl

/-- The cells of the first k flaws. -/
def flat (ks : List Int) (ss : Nat → ByteArray) (k : Nat) : List Value := (List.range k).flatMap fun j => [.int .i64 (ks.getD j 0), .string (ss j)]

theorem flat_succ (ks : List Int) (ss : Nat → ByteArray) (k : Nat) : flat ks ss (k + 1) = flat ks ss k ++ [.int .i64 (ks.getD k 0), .string (ss k)] := by
  simp [flat, List.range_succ]

theorem flat_length (ks : List Int) (ss : Nat → ByteArray) : ∀ k, (flat ks ss k).length = k * 2
  | 0 => rfl
  | k + 1 => by rw [flat_succ, List.length_append, flat_length ks ss k]; simp; omega

theorem flat_get (ks : List Int) (ss : Nat → ByteArray) : ∀ (k j : Nat), j < k → (flat ks ss k)[j * 2]? = some (.int .i64 (ks.getD j 0)) ∧ (flat ks ss k)[j * 2 + 1]? = some (.string (ss j))
  | 0, j, h => by omega
  | k + 1, j, h => by
    rw [flat_succ]
    have hl := flat_length ks ss k
    by_cases hj : j < k
    · have := flat_get ks ss k j hj
      rw [List.getElem?_append_left (by omega), List.getElem?_append_left (by omega)]
      exact this
    · have : j = k := by omega
      subst this
      rw [List.getElem?_append_right (by omega), List.getElem?_append_right (by omega), hl]
      simp

/-- Rows of two cells that came in. -/
def Came (w : World) (A : Option Addr) (n : Nat) (ks : List Int) (ss : Nat → ByteArray) : Prop :=
  ks.length = n ∧ (0 < n → ∃ b off, A = some ⟨b, off, none⟩ ∧ b < w.heap.size ∧ ∀ j, j < n → w.cell? ⟨b, off + j * 2, none⟩ = some (.int .i64 (ks.getD j 0)) ∧ w.cell? ⟨b, off + j * 2 + 1, none⟩ = some (.string (ss j)))

abbrev Own (w : World) (B : Nat) (v : Value) (ks : List Int) (ss : Nat → ByteArray) (k : Nat) : Prop := w.ownsRow B 59 2 v k (flat ks ss k)

theorem own_ge {w : World} {base size n : Nat} {e : TypeId} {v : Value} {xs : List Value} (h : w.ownsRow base e size v n xs) {g : Nat} (hg : v.ownBlock = some g) : base ≤ g ∧ g < w.heap.size := by
  rcases h.2 with ⟨rfl, _⟩ | ⟨g', cap, cur, rfl, hb, hh, _⟩
  · simp [Value.ownBlock] at hg
  · have : g' = g := by simpa [Value.ownBlock] using hg
    subst this
    refine ⟨hb, ?_⟩
    rcases Nat.lt_or_ge g' w.heap.size with hl | hl
    · exact hl
    · rw [Array.getElem?_eq_none hl] at hh; cases hh

/-- Behind the append. -/
theorem after {w wr w1 : World} {k : Nat} {u3 : Value} {ks l : List Int} {ss : Nat → ByteArray} {kk : Int} {s : ByteArray} (HO : Own wr (w.heap.size + 1) u3 ks ss k) (HT : Twelve wr w.heap.size l) (HB : Below w.heap.size w wr) (HZ : w.heap.size + 1 ≤ wr.heap.size)
    (hg : ((wr.alloc (.cells #[.int .i64 kk, .string s] 58)).alloc (.cells #[.int .i64 kk, .string s] 59)).grownBy w1 u3.ownBlock) :
    w1.cell? ⟨wr.heap.size, 0, none⟩ = some (.int .i64 kk) ∧ Twelve w1 w.heap.size l ∧ Below w.heap.size w w1 ∧ wr.heap.size < w1.heap.size := by
  have hsz := hg.size
  simp only [World.size_alloc] at hsz
  have hne : ∀ g, u3.ownBlock = some g → w.heap.size + 1 ≤ g ∧ g < wr.heap.size := fun g e => own_ge HO e
  have hblk : ∀ j, j < wr.heap.size + 2 → (∀ g, u3.ownBlock = some g → j ≠ g) → w1.heap[j]? = ((wr.alloc (.cells #[.int .i64 kk, .string s] 58)).alloc (.cells #[.int .i64 kk, .string s] 59)).heap[j]? :=
    fun j hj hn => hg.block j (by simp; omega) (fun e => hn j e.symm rfl)
  refine ⟨?_, ?_, ?_, by omega⟩
  · rw [World.cell?_of_block (w := (wr.alloc (.cells #[.int .i64 kk, .string s] 58)).alloc (.cells #[.int .i64 kk, .string s] 59)) (hblk _ (by simp) (fun g e => by have := hne g e; simp; omega))]
    simp
  · refine HT.same ?_ (fun _ => rfl)
    rw [hblk _ (by omega) (fun g e => by have := hne g e; omega), Below.heap_alloc _ _ _ (by simp; omega), Below.heap_alloc _ _ _ (by omega)]
  · exact ((HB.alloc (by omega) _).alloc (by simp; omega) _).grown hg (by simp; omega) (fun g e => by have := hne g e; omega)

theorem Flaws.drew {w : World} {A : Option Addr} {n : Nat} {ks : List Int} (h : Flaws w A n ks) : Flaws w.drew A n ks := h

theorem Twelve.lt {w : World} {b : Nat} {l : List Int} (h : Twelve w b l) : b < w.heap.size := by
  have := h.1 0 (by omega)
  rcases Nat.lt_or_ge b w.heap.size with hl | hl
  · exact hl
  · unfold World.cell? at this
    simp only at this
    rw [Array.getElem?_eq_none hl] at this
    cases this

/-- Behind the count. -/
theorem behind {w wc w1 : World} {l : List Int} {x : Int} (HT : Twelve wc w.heap.size l) (HB : Below w.heap.size w wc) (hb : Below wc.drew.heap.size wc.drew w1) (hx : w.cell? ⟨0, 0, none⟩ = some (.int .i64 x)) (hz : 0 < w.heap.size) :
    Twelve w1 w.heap.size l ∧ Below w.heap.size w w1 ∧ w1.cell? ⟨0, 0, none⟩ = some (.int .i64 x) := by
  have hlt := HT.lt
  have hB : Below w.heap.size w w1 := HB.drew.trans (hb.mono (Nat.le_of_lt hlt))
  exact ⟨HT.same (hb.block _ hlt) (fun _ => rfl), hB, (hB.cell (p := ⟨0, 0, none⟩) hz).trans hx⟩

theorem flaws_of {w : World} {B : Nat} {v : Value} {ks : List Int} {ss : Nat → ByteArray} {k : Nat} (h : Own w B v ks ss k) (hk : k ≤ ks.length) : ∃ A cap, v = .slice A k cap ∧ k ≤ cap ∧ Flaws w A k (ks.take k) := by
  have hl : (ks.take k).length = k := by simp; omega
  rcases h.2 with ⟨rfl, rfl⟩ | ⟨g, cap, cur, rfl, _, hh, hc, _, hs, hx⟩
  · exact ⟨none, 0, rfl, Nat.le_refl _, hl, fun h => by omega⟩
  · refine ⟨_, cap, rfl, hc, hl, fun _ => ⟨g, 0, rfl, ?_, fun j hj => ?_⟩⟩
    · rcases Nat.lt_or_ge g w.heap.size with hl | hl
      · exact hl
      · rw [Array.getElem?_eq_none hl] at hh; cases hh
    · obtain ⟨e0, e1⟩ := flat_get ks ss k j hj
      rw [← hx] at e0 e1
      rw [List.getElem?_take_of_lt (by omega)] at e0 e1
      have hg : (ks.take k).getD j 0 = ks.getD j 0 := by simp [List.getD_eq_getElem?_getD, List.getElem?_take_of_lt hj]
      have hcell : ∀ q, w.cell? ⟨g, q, none⟩ = cur.toList[q]? := fun q => by simp [World.cell?, hh]
      refine ⟨?_, ss j, ?_⟩
      · rw [Nat.zero_add, hcell, hg]; exact e0
      · rw [Nat.zero_add, hcell]; exact e1

set_option maxRecDepth 100000 in
set_option maxHeartbeats 3200000 in
theorem walk (A : Option Addr) (n cap : Nat) (ks : List Int) (ss : Nat → ByteArray) (hcap : n ≤ cap) (hn : n * 24 ≤ 140737488351232) (w : World) (hf : Came w A n ks ss) (x : Int) (hx : w.cell? ⟨0, 0, none⟩ = some (.int .i64 x)) (hzz0 : 0 < w.heap.size) :
    Calls Tryz.prog 5 #[.slice A n cap] w fun e w' => e = .returned (.bool true) ∧ Below w.heap.size w w' := by
  obtain ⟨i0, hi, hz0, hz1, hz2⟩ := info_parts info59
  have HF := Lib.hid hf
  have HX := Lib.hid hx
  clear hf hx
  go_enter Tryz.func5, Tryz.ntmps5
  go_upto_block 0 with (fail)
  have HI : Hid (Twelve (w.alloc (.cells zeros12 56)) w.heap.size [] ∧ Below w.heap.size w (w.alloc (.cells zeros12 56)) ∧ (w.alloc (.cells zeros12 56)).heap.size = w.heap.size + 1) := by
    refine ⟨⟨fun j hj => ?_, fun j => by simp⟩, (Below.refl _ _).alloc (Nat.le_refl _) _, by simp⟩
    rw [wt_nil]
    rcases below12 hj with rfl | rfl | rfl | rfl | rfl | rfl | rfl | rfl | rfl | rfl | rfl | rfl <;> simp
  generalize (w.alloc (.cells zeros12 56)) = W1 at HI ⊢
  go_cut [3] (fun v wc => ∃ k : Nat, k ≤ n ∧ Hid (Own wc (w.heap.size + 1) v ks ss k) ∧ Hid (Twelve wc w.heap.size (ks.take k)) ∧ Hid (Below w.heap.size w wc))
  case first =>
    go_wp2_with fail
    go_loopw [3, 9] (fun v i wr => ∃ k : Nat, k ≤ n ∧ k ≤ 30 ∧ i = .int .i64 k ∧ Hid (Own wr (w.heap.size + 1) v ks ss k) ∧ Hid (Twelve wr w.heap.size (ks.take k)) ∧ Hid (Below w.heap.size w wr) ∧ Hid (w.heap.size + 1 ≤ wr.heap.size)) (fun _ i _ => n - (intOf i).toNat)
    case atStart => exact ⟨0, Nat.zero_le _, Nat.zero_le _, rfl, World.ownsRow_nil _ _ _ _, HI.out.1, HI.out.2.1, by rw [HI.out.2.2]; exact Nat.le_refl _⟩
    case round =>
      obtain ⟨k, hk, hk30, rfl, HO, HT, HB, HZ⟩ := hrel
      by_cases hlt : k < n
      · obtain ⟨b, off, rfl, hb, hc⟩ := HF.out.2 (by omega)
        obtain ⟨h0, h1⟩ := hc k hlt
        clear hc
        have g0 := (HB.out.cell (p := ⟨b, off + k * 2, none⟩) hb).trans h0
        have g1 := (HB.out.cell (p := ⟨b, off + k * 2 + 1, none⟩) hb).trans h1
        clear h0 h1
        have n0 := World.new_ne wr _ g0
        have hsnoc := Lib.hid (take_snoc ks k (by rw [HF.out.1]; exact hlt))
        have hflat := Lib.hid (flat_succ ks ss k)
        generalize ks.getD k 0 = kk at g0 hsnoc hflat
        generalize ss k = s at g1 hflat
        have hlen : (ks.take k).length ≤ k := List.length_take_le _ _
        have hbd := wt_bd (ks.take k) kk.toNat
        have hzz := HZ.out
        by_cases h30 : k < 30
        · go_wp2_with (at_builtin; refine wpList_append_own _ rfl _ _ 55 rfl (w.heap.size + 1) 59 i0 (.agg #[.int .i64 0, .string ByteArray.empty]) 2 24 Tryz.underlying55 hi hz0 hz1 hz2 rfl (by decide) _ _ _ rfl ((HO.out.alloc _).alloc _) ⟨wr.heap.size + 1, 0, none⟩ 1 1 [.int .i64 kk, .string s] rfl rfl ?c1 ?c2 ?c3 ?c4 ?c5 ?_)
          case c2 => exact ⟨rfl, rfl⟩
          case c3 => unfold maxLen; omega
          case c4 => omega
          case c5 => omega
          intro v' w1 hown' hgrow _
          obtain ⟨f0, HT1, HB1, hs1⟩ := after HO.out HT.out HB.out HZ.out hgrow
          have HO1 : Hid (Own w1 (w.heap.size + 1) v' ks ss (k + 1)) := by
            show w1.ownsRow _ _ _ _ _ _
            rw [hflat.out]; exact hown'
          have HT2 := Lib.hid HT1
          have HB2 := Lib.hid HB1
          clear HT1 HB1 hown' hgrow HO HT HB g0 g1
          by_cases hk1 : 1 ≤ kk
          · by_cases hk2 : kk ≤ 11
            · have hcell := HT2.out.1 kk.toNat (by omega)
              have hfz := HT2.out.2 kk.toNat
              go_wp2
              go_roundw
              case rel =>
                refine ⟨k + 1, by omega, by omega, by go_num, ?_, ?_, ?_, ?_⟩
                · exact ownsRow_setCell_below HO1.out (by simp) _
                · show Twelve _ _ _
                  rw [hsnoc.out]
                  exact HT2.out.hit hk1 hk2
                · exact HB2.out.setCell (p := ⟨w.heap.size, kk.toNat, none⟩) (Nat.le_refl _) _
                · show _ ≤ _
                  simp [World.setCell]; omega
              case measure => simp [intOf]; omega
            · have hmiss : ¬ (1 ≤ kk ∧ kk ≤ 11) := by omega
              go_wp2
              go_roundw
              case rel =>
                refine ⟨k + 1, by omega, by omega, by go_num, HO1, ?_, HB2, ?_⟩
                · show Twelve _ _ _
                  rw [hsnoc.out]
                  exact HT2.out.same rfl (fun j => wt_miss _ _ j hmiss)
                · show _ ≤ _
                  omega
              case measure => simp [intOf]; omega
          · have hmiss : ¬ (1 ≤ kk ∧ kk ≤ 11) := by omega
            have hd : decide (1 ≤ kk) = false := by simpa using hk1
            go_wp2
            go_roundw
            case rel =>
              refine ⟨k + 1, by omega, by omega, by go_num, HO1, ?_, HB2, ?_⟩
              · show Twelve _ _ _
                rw [hsnoc.out]
                exact HT2.out.same rfl (fun j => wt_miss _ _ j hmiss)
              · show _ ≤ _
                omega
            case measure => simp [intOf]; omega
        · go_wp2_with fail
          go_meet
          case rel => exact ⟨k, by omega, HO.out.alloc _, HT.out.same (Below.heap_alloc _ _ _ (by omega)) (fun _ => rfl), HB.out.alloc (by omega) _⟩
      · go_wp2_with fail
        go_meet
        case rel => exact ⟨k, by omega, HO, HT, HB⟩
  case rest =>
    obtain ⟨k, hk, HO, HT, HB⟩ := hcut
    obtain ⟨A', cap', rfl, hc', hfl⟩ := flaws_of HO.out (by rw [HF.out.1]; exact hk)
    have HL := Lib.hid hfl
    clear hfl HO
    have hkn : k * 24 ≤ 140737488351232 := by omega
    have hsz := HB.out.size
    have c0 := HT.out.1 0 (by omega)
    have c1 := HT.out.1 1 (by omega)
    have c2 := HT.out.1 2 (by omega)
    have c3 := HT.out.1 3 (by omega)
    have c4 := HT.out.1 4 (by omega)
    have c5 := HT.out.1 5 (by omega)
    have c6 := HT.out.1 6 (by omega)
    have c7 := HT.out.1 7 (by omega)
    have c8 := HT.out.1 8 (by omega)
    have c9 := HT.out.1 9 (by omega)
    have c10 := HT.out.1 10 (by omega)
    have c11 := HT.out.1 11 (by omega)
    have HTh := Lib.hid HT.out
    have HBh := Lib.hid HB.out
    clear HT HB
    generalize ks.take k = l at *
    have hq : ∀ w : World, (Op.equalIn 10000 56 (.agg #[.int .i64 (wt l 0), .int .i64 (wt l 1), .int .i64 (wt l 2), .int .i64 (wt l 3), .int .i64 (wt l 4), .int .i64 (wt l 5), .int .i64 (wt l 6), .int .i64 (wt l 7), .int .i64 (wt l 8), .int .i64 (wt l 9), .int .i64 (wt l 10), .int .i64 (wt l 11)]) (.agg #[.int .i64 (wt l 0), .int .i64 (wt l 1), .int .i64 (wt l 2), .int .i64 (wt l 3), .int .i64 (wt l 4), .int .i64 (wt l 5), .int .i64 (wt l 6), .int .i64 (wt l 7), .int .i64 (wt l 8), .int .i64 (wt l 9), .int .i64 (wt l 10), .int .i64 (wt l 11)])).run Tryz.prog w = .ok true w :=
      eq12 _ (fun i hi => by rcases below12 hi with rfl | rfl | rfl | rfl | rfl | rfl | rfl | rfl | rfl | rfl | rfl | rfl <;> exact ⟨_, rfl⟩)
    go_wp2_with fail
    go_region_with (first
      | (go_at_call 20; refine (counts A' k cap' l hc' hkn _ HL.out.drew).mono ?_; rintro e w1 ⟨rfl, hb1⟩; obtain ⟨HT1, HB1, hx1⟩ := behind HTh.out HBh.out hb1 HX.out hzz0; have d0 := HT1.1 0 (by omega); have d1 := HT1.1 1 (by omega); have d2 := HT1.1 2 (by omega); have d3 := HT1.1 3 (by omega); have d4 := HT1.1 4 (by omega); have d5 := HT1.1 5 (by omega); have d6 := HT1.1 6 (by omega); have d7 := HT1.1 7 (by omega); have d8 := HT1.1 8 (by omega); have d9 := HT1.1 9 (by omega); have d10 := HT1.1 10 (by omega); have d11 := HT1.1 11 (by omega); have HB2 := Lib.hid HB1; clear HT1 HB1 hb1)
      | (go_at_call 21; refine (Am.true21 x _ hx1).mono ?_; rintro e w2 ⟨rfl, hb2⟩))
    all_goals
      have HBf := Lib.hid (HB2.out.trans (hb2.mono (by have := HB2.out.size; omega)))
      clear hb2 hq
      go_wp2
      go_ret
      exact ⟨rfl, HBf.out⟩
end Go.Proofs.YtbfbaofhnnnohaaGreatDoor.auditCounts
