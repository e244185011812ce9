/- FreeGroups' walk. -/
import Derived.Test.YtbfbaofhnnnohaaGreatDoorFGc
import Derived.Test.YtbfbaofhnnnohaaGreatDoorSlU
import Derived.Test.YtbfbaofhnnnohaaGreatDoorL26Q29
namespace Go.Proofs.YtbfbaofhnnnohaaGreatDoor.freeGroups
open Go.ChangeShapes Go.WideShapes Go.ChangeAt Go.RowKit Go.Maps
set_option linter.unusedVariables false

theorem InRow.take {w : World} {A : Option Addr} {n : Nat} {xs : List Int} (h : InRow w A n xs) (m : Nat) (hm : m ≤ n) : InRow w A m (xs.take m) := by
  obtain ⟨h1, h2, h3⟩ := h
  refine ⟨by simp; omega, fun x hx => h2 x (List.mem_of_mem_take hx), fun hp => ?_⟩
  obtain ⟨b, off, e1, e2, e3⟩ := h3 (by omega)
  refine ⟨b, off, e1, e2, fun j hj => ?_⟩
  rw [e3 j (by omega)]
  simp [List.getD_eq_getElem?_getD, List.getElem?_take_of_lt hj]

theorem InRow.below {w w' : World} {A : Option Addr} {n : Nat} {xs : List Int} (h : InRow w A n xs) (hb : Below w.heap.size w w') : InRow w' A n xs := by
  obtain ⟨h1, h2, h3⟩ := h
  refine ⟨h1, h2, fun hp => ?_⟩
  obtain ⟨b, off, e1, e2, e3⟩ := h3 hp
  exact ⟨b, off, e1, Nat.lt_of_lt_of_le e2 hb.size, fun j hj => (hb.cell (p := ⟨b, off + j, none⟩) e2).trans (e3 j hj)⟩

theorem row_in {w : World} {B : Nat} {v : Value} {l : List Int} (h : w.ownsRow B 22 1 v l.length (l.map (.int .u32))) (hr : ∀ x ∈ l, 0 ≤ x ∧ x < 4294967296) : ∃ A cap, v = .slice A l.length cap ∧ InRow w A l.length l := by
  rcases h.2 with ⟨rfl, h0⟩ | ⟨g, cap, cur, rfl, _, hh, hc, _, hs, hx⟩
  · refine ⟨none, 0, by rw [h0], rfl, hr, fun hp => by omega⟩
  · refine ⟨_, cap, rfl, rfl, hr, fun _ => ⟨g, 0, rfl, (Array.getElem?_eq_some_iff.1 hh).1, fun j hj => ?_⟩⟩
    have := h.cells (g := g) rfl j (.int .u32 (l.getD j 0)) (by simp [List.getElem?_map, List.getD_eq_getElem?_getD, List.getElem?_eq_getElem hj])
    have e : (⟨g, 0, none⟩ : Addr).add j = ⟨g, 0 + j, none⟩ := by unfold Addr.add; split <;> simp_all
    rwa [e] at this

theorem grown_of {w w' : World} (hb : Below w.heap.size w w') : w.grownBy w' none := ⟨hb.os, hb.tape, hb.output, hb.size, fun k hk _ => hb.block k hk⟩

theorem gbelow {H : Type} {P : Program} {k : TypeId} {w w' : World} {base : Nat} {e : TypeId} {q : IntKind} {b n : Nat} {D : DataW H} (h : w.ownsGroups P k base e q b n D) (hb : Below w.heap.size w w') : w'.ownsGroups P k base e q b n D :=
  h.kept (grown_of hb) (by simp) (fun _ _ _ x _ => by cases x.val.ownBlock <;> simp)

/-- As many groups as blocks. -/
theorem sizes {w : World} {base b n : Nat} {D : DataW Unit} {xs ys : List Int} (h : w.ownsGroups Tryz.prog 22 base 22 .u32 b n D) (hG : IsG D xs) (hB : IsB xs ys) : ∃ es clock, w.heap[b]? = some (.map es clock) ∧ es.size = ys.length := by
  obtain ⟨es, clock, hb, F, _, hD, _⟩ := h
  refine ⟨es, clock, hb, ?_⟩
  obtain ⟨l, hl, hp⟩ := hG.tidy
  have hl2 : l = (es.toList.map (WideElems.rg Tryz.prog 22 (rowElem w base 22 .u32))).foldr DataW.insert [] := by
    rw [hl] at hD; simpa using hD
  have hlen : l.length = es.size := by rw [hl2, (WideShapes.sorted_perm _).length_eq]; simp
  have hnd : ys.Nodup := hB.up.imp (fun h e => by omega)
  have hpm : ys.Perm (uKeys (.map l)) := perm_uKeys (es := l) hp (fun p hp' => by
      rw [hl2] at hp'
      obtain ⟨v, hv⟩ := fit_keys F p (mem_sorted.1 hp')
      obtain ⟨x, _, hx, _⟩ := Maps.keyOf_u32 Tryz.underlying22 hv
      exact ⟨x, hx⟩) hnd (fun y => by
      rw [← hl, hG.has y, hB.mem y, List.any_eq_true]
      simp)
  have := hpm.length_eq
  rw [this, ← hlen]
  simp [uKeys]

/-- What is at a block. -/
theorem IsG.at_row {D : DataW Unit} {xs : List Int} {y : Int} {w : World} {base : Nat} {v : Value} {zs : List Int} (h : IsG D xs) (hat : D.atKey (.int .u32 y) .nil = rowDatum .u32 v zs) (ho : w.ownsInts base 22 .u32 v zs) : zs = xs.filter fun u => blk u == y := by
  rw [h.key] at hat
  have inj : ∀ {a b : List Int}, lits (H := Unit) .u32 a = lits .u32 b → a = b := fun {a b} e => (List.map_inj_right (fun a b hab => by cases hab; rfl)).1 e
  rcases ho.datum (H := Unit) with ⟨h1, rfl⟩ | h1
  · rw [h1] at hat
    split at hat
    · rename_i he; exact he.symm
    · cases hat
  · rw [h1] at hat
    split at hat
    · cases hat
    · exact (inj (by simpa using hat)).symm

theorem run_len_map {P : Program} {t k e ty : TypeId} (ht : P.underlying t = some (.map k e)) {b : Nat} {es : Array MapEntry} {clock : Nat} {w : World} (hb : w.heap[b]? = some (.map es clock)) :
    (Builtin.len_ #[t] ty #[.map (some b)]).run P w = .ok (.int .i64 es.size) w := by
  simp [Builtin.len_, run_underlying ht, MapKept.run_getObj_map hb, goInt]

set_option maxRecDepth 100000 in
set_option maxHeartbeats 3200000 in
theorem walk (A : Option Addr) (n cap : Nat) (xs : List Int) (hcap : n ≤ cap) (w : World) (h : InRow w A n xs) (x : Int) (hx : w.cell? ⟨0, 0, none⟩ = some (.int .i64 x)) (hz : 0 < w.heap.size) :
    Calls Tryz.prog 7 #[.slice A n cap] w fun e w' => e = .returned (.bool true) ∧ Below w.heap.size w w' := by
  have law : Keyed Tryz.prog 22 := int_keyed Tryz.underlying22
  have hN := h.take (min n 60) (Nat.min_le_left _ _)
  have hN60 : min n 60 ≤ 60 := Nat.min_le_right _ _
  have hNc : min n 60 ≤ cap := by omega
  clear h
  go_enter Tryz.func7, Tryz.ntmps7
  go_wp2_with (go_at_call 24; refine (few A n cap hcap _).mono ?_; rintro e w1 ⟨rfl, hw1⟩; obtain rfl := hw1.symm)
  generalize min n 60 = N at hN hN60 hNc ⊢
  generalize xs.take N = zs at hN
  go_wp2_with (first
    | (go_at_call 25; refine (group (H := Unit) A N cap zs hN.1 (by omega) hN.2.1 _ hN.2.2).mono ?_; rintro e w1 ⟨rfl, ⟨D, hG, hown⟩, hb1⟩)
    | (go_at_call 26; refine (blocks A N cap zs hN60 _ (hN.below hb1)).mono ?_; rintro e w2 ⟨v, ys, rfl, hrow, hB, hyl, hb2⟩; obtain ⟨es, clock, hmb, hsz⟩ := sizes (gbelow hown hb2) hG hB; have hlen := run_len_map (ty := 3) Tryz.underlying73 hmb; rw [hsz] at hlen; obtain ⟨A2, cap2, rfl, hin2⟩ := row_in hrow (fun y hy => by obtain ⟨u, _, rfl⟩ := (hB.mem y).1 hy; exact blk_range u)))
  have HM := Lib.hid (gbelow hown hb2)
  have HZ := Lib.hid ((hN.below hb1).below hb2)
  have HY := Lib.hid hin2
  have HG := Lib.hid hG
  have HB := Lib.hid hB
  have HW := Lib.hid (hb1.trans (hb2.mono hb1.size))
  have hmb2 : w.heap.size < w2.heap.size := (Array.getElem?_eq_some_iff.1 hmb).1
  clear hown hb1 hb2 hN hin2 hG hB hrow hmb hsz hlen
  go_loopw [6, 20] (fun _ i wr => ∃ k : Nat, k ≤ ys.length ∧ i = .int .i64 k ∧ Hid (Below w2.heap.size w2 wr)) (fun _ i _ => ys.length - (intOf i).toNat)
  case atStart => exact ⟨0, Nat.zero_le _, rfl, Below.refl _ _⟩
  case round =>
    obtain ⟨k, hk, rfl, hb⟩ := hrel
    by_cases hlt : k < ys.length
    · obtain ⟨b, off, rfl, hb0, hc⟩ := HY.out.2.2 (by omega)
      have g0 := (hb.out.cell (p := ⟨b, off + k, none⟩) hb0).trans (hc k hlt)
      clear hc
      have hym : ys.getD k 0 ∈ ys := by rw [List.getD_eq_getElem?_getD, List.getElem?_eq_getElem hlt]; exact List.getElem_mem _
      have hyr : 0 ≤ ys.getD k 0 ∧ ys.getD k 0 < 4294967296 := HY.out.2.1 _ hym
      generalize ys.getD k 0 = y at g0 hyr
      have hkey := keyOf_int_mk Tryz.underlying22 (wf_u32 hyr)
      have hownr : wr.drew.ownsGroups Tryz.prog 22 (w.heap.size + 1) 22 .u32 w.heap.size N D := gbelow (w := w2) (w' := wr.drew) HM.out hb.out.drew
      obtain ⟨vL, zL, hlook, hat, hoi, _, _⟩ := look_all hownr law Tryz.underlying73 zero23 (by unfold maxLen; omega) hkey
      obtain rfl := HG.out.at_row hat hoi
      have hfr : ∀ u ∈ zs.filter (fun u => blk u == y), 0 ≤ u ∧ u < 4294967296 := fun u hu => HZ.out.2.1 u ((List.mem_filter.1 hu).1)
      obtain ⟨A3, cap3, rfl, hin3⟩ := row_in hoi.1 hfr
      have hIr : InRow wr.drew A N zs := HZ.out.below (w' := wr.drew) hb.out.drew
      have l1 := hlook wr.drew rfl
      have hfl : (zs.filter (fun u => blk u == y)).length ≤ N := by have := List.length_filter_le (fun u => blk u == y) zs; have := HZ.out.1; omega
      clear hat hoi hownr hkey
      go_wp2_with fail
      go_region_with (first
        | (go_at_call 28; refine (ofBlock A N cap zs y (by omega) _ hIr).mono ?_; rintro e w3 ⟨v3, rfl, hrow3, hb3⟩; have l2 := hlook w3 (hb3.block _ (Nat.lt_of_lt_of_le hmb2 hb.out.size)); obtain ⟨A4, cap4, rfl, hin4⟩ := row_in hrow3 hfr)
        | (go_at_call 27; refine (addrs A3 A4 _ cap3 cap4 _ (by omega) _ (hin3.below hb3) hin4).mono ?_; rintro e w4 ⟨rfl, hb4⟩))
      all_goals
        have hbn : Hid (Below w2.heap.size w2 w4) := hb.out.drew.trans ((hb3.trans (hb4.mono hb3.size)).mono hb.out.size)
        clear hb3 hb4 l1 l2 hlook hin3 hin4 hrow3 hIr
        go_wp2
        go_roundw
        case rel => exact ⟨k + 1, by omega, by go_num, hbn⟩
        case measure => simp [intOf]; omega
    · go_wp2_with fail
      have hbw : Below w.heap.size w wr := HW.out.trans (hb.out.mono HW.out.size)
      go_at_call 29
      refine (Am.true29 x wr ((hbw.cell (p := ⟨0, 0, none⟩) hz).trans hx)).mono ?_
      rintro e w4 ⟨rfl, hb4⟩
      go_wp2
      go_ret
      exact ⟨rfl, hbw.trans (hb4.mono hbw.size)⟩
end Go.Proofs.YtbfbaofhnnnohaaGreatDoor.freeGroups
