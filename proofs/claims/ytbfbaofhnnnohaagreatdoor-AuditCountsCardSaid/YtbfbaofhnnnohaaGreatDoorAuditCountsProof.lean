/- AuditCounts: flaws by kinds are as the chapter says; and the chapter's example comes to true. No condition beyond the row's own. -/
import Derived.Test.YtbfbaofhnnnohaaGreatDoorRow
import Derived.Test.YtbfbaofhnnnohaaGreatDoorAuditCountsFacts
import Derived.Test.YtbfbaofhnnnohaaGreatDoorACb
import Derived.Deep.Slices
import Derived.Test.YtbfbaofhnnnohaaGreatDoorTie
import Derived.Test.YtbfbaofhnnnohaaGreatDoorCards
import Derived.SevenTiedAt
namespace Go.Proofs.YtbfbaofhnnnohaaGreatDoor.auditCounts
open Go.ChangeShapes Go.WideShapes Go.ChangeAt Go.RowKit
set_option linter.unusedVariables false
theorem cells58 : Tryz.prog.cellsOf 58 = 2 := by kernel_rfl
theorem bytes58 : Tryz.prog.bytesOf 58 = 24 := by kernel_rfl

set_option maxRecDepth 100000 in
/-- What came in, by its cells. -/
theorem shape {H : Type} {enc : TypeId × Value → H} {W : World} {a : Option Addr} {len cap : Nat} {d : DataW H} {p : List MemPlace} (h : DataW.Trod enc Tryz.prog W 0 (fun _ => true) true 54 (.slice a len cap) d p)
    (hsz : (DataW.weightsEach Tryz.prog ([54] ++ Rows.auditCountsSpec.plain.varTypes Tryz.prog) ([d] ++ [])).all (· ≤ reachBytes) = true) : ∃ ks ss, len ≤ cap ∧ len * 24 ≤ 140737488351232 ∧ Came W a len ks ss := by
  obtain ⟨fuel, hf⟩ := h
  rcases Deep.open_slice Tryz.underlying54 hf with ⟨hcs, _⟩ | ⟨a', len', cap', m, n, D, Pl, hcs, _, hl, hm, hmm, hx, hel⟩
  · simp [Value.cells] at hcs
    obtain ⟨rfl, rfl, rfl⟩ := hcs
    exact ⟨[], fun _ => ByteArray.empty, Nat.le_refl _, by simp, rfl, fun h => by omega⟩
  · simp [Value.cells] at hcs
    obtain ⟨rfl, rfl, rfl⟩ := hcs
    have hm' : m = cap := by simpa using hmm
    subst hm'
    simp only [Prod.mk.injEq] at hx
    obtain ⟨rfl, _⟩ := hx
    have hb := sized_slice hsz (j := 0) (t := 54) rfl rfl Tryz.underlying54
    rw [bytes58] at hb
    simp only [List.length_map, List.length_range] at hb
    have hreach : reachBytes = 140737488351232 := rfl
    have each : ∀ i, i < len → ∃ (y : Int × ByteArray), W.cell? (a'.add (i * 2)) = some (.int .i64 y.1) ∧ W.cell? (a'.add (i * 2 + 1)) = some (.string y.2) := by
      intro i hi
      obtain ⟨cs', h1, h2⟩ := hel i (by omega)
      rw [cells58] at h1
      obtain ⟨y0, y1, nn, _, hlen, g0, g1⟩ := trod_struct2 Tryz.underlying58 h2
      obtain ⟨k, e0, _, _⟩ := DataW.trod_int Tryz.underlying3 g0
      obtain ⟨s, e1, _, _⟩ := DataW.trod_string Tryz.underlying9 g1
      rw [cells58] at hlen
      have hc3 : Tryz.prog.cellsOf 3 = 1 := by kernel_rfl
      have hc9 : Tryz.prog.cellsOf 9 = 1 := by kernel_rfl
      simp only [hc3, hc9] at e0 e1
      match cs', hlen with
      | [c0, c1], _ =>
        simp at e0 e1
        subst e0; subst e1
        have hc := World.cells?_some h1
        refine ⟨(k, s), ?_, ?_⟩
        · have := hc.2.2 0 (by omega)
          simpa [Deep.add_add] using this
        · have := hc.2.2 1 (by omega)
          simpa [Deep.add_add] using this
    obtain ⟨f, hf⟩ := Deep.choose_lt each
    refine ⟨(List.range len).map (fun i => (f i).1), fun i => (f i).2, hl, by omega, by simp, fun hpos => ?_⟩
    obtain ⟨b, off, spot⟩ := a'
    have hspot : spot = none := by simpa [Addr.add] using World.cell?_spot (hf 0 hpos).1
    subst hspot
    refine ⟨b, off, rfl, ?_, fun j hj => ?_⟩
    · have := (hf 0 hpos).1
      simp only [Addr.add, Nat.zero_mul, Nat.add_zero] at this
      exact Row.lt_of_cell this
    · obtain ⟨g0, g1⟩ := hf j hj
      have e : ((List.range len).map (fun i => (f i).1)).getD j 0 = (f j).1 := by simp [List.getD_eq_getElem?_getD, hj]
      rw [e]
      rw [Go.WideShapes.add_plain] at g0 g1
      exact ⟨g0, by rw [Nat.add_assoc]; exact g1⟩


def zeroArg : Value := .slice none 0 0

set_option maxRecDepth 100000 in
theorem lifted (os : Os) (started : os.Started) (H : Type) (enc : TypeId × Value → H) :
    ReturnsInHanded {} Tryz.checked os 5 .any (fun w args => (Rows.auditCountsSpec.pre enc Tryz.prog Tryz.f5 Rows.auditCountsRow.domain false w args ∧ laidMetH Tryz.prog Row.laid w) ∧ sizedMet enc Tryz.prog Tryz.f5 (OpenSpec.ofChange Rows.auditCountsSpec) false w args)
      (Rows.auditCountsSpec.post enc Tryz.prog Tryz.f5 false true false false) := by
  refine Row.returns (C := Tryz.checked) (X := fun w _ => laidMetH Tryz.prog Row.laid w) Row.own started (by kernel_rfl) Tryz.func5
    (ChangeSpec.witness_at (enc := enc) (C := Tryz.checked) (os := os) (X := fun w _ => laidMetH Tryz.prog Row.laid w) false (Row.laidWorld os) #[zeroArg] 8 rfl (by kernel_rfl) (by kernel_rfl) (by kernel_rfl) (by kernel_rfl) (by kernel_rfl) (Row.laid_met os _)) ?_
  intro W base args ds gs before hval0 hW hsz0 hsh
  have hsz : (DataW.weightsEach Tryz.prog (Tryz.f5.params.toList ++ Rows.auditCountsSpec.plain.varTypes Tryz.prog) (ds ++ gs)).all (· ≤ reachBytes) = true := hsz0
  have hval : ∀ (j : Nat) t v, Tryz.f5.params[j]? = some t → args[j]? = some v → Value.okWide Tryz.prog W .any base t v := hval0
  have hW' := hW
  obtain ⟨p, q, hA0, hV, rfl, hfz, hnd⟩ := hW
  have hA : DataW.TrodAll enc Tryz.prog W 0 (fun _ => true) true Tryz.f5.params.toList args.toList ds p := hA0
  rw [Tryz.params5] at hA hval hsz
  obtain ⟨v0, vs0, d0, ds0, p0, q0, hargs, rfl, rfl, h0, r0⟩ := trodAll_cons hA
  obtain ⟨rfl, rfl, rfl⟩ := trodAll_nil r0
  obtain rfl : args = #[v0] := by cases args; simp_all
  obtain ⟨rfl, rfl⟩ := trodVars_none hV
  have lt0 : ∀ x ∈ p0, x.block < W.heap.size := by obtain ⟨m, hm⟩ := h0; exact DataW.trod_lt m _ _ _ hm
  obtain ⟨x, hx⟩ := Row.maxLen_cell hsh
  obtain ⟨A, n, cap, rfl⟩ := okWide_slice Tryz.underlying54 (hval 0 54 v0 rfl rfl)
  obtain ⟨ks, ss, hcap, hn, hcame⟩ := shape h0 hsz
  clear hA0 hval0 hval hsz hsz0
  refine (walk A n cap ks ss hcap hn W hcame x hx (Row.lt_of_cell hx)).mono fun e W' ⟨he, bel⟩ => ?_
  subst he
  exact ⟨_, rfl, _, _, _, [], _, [], hW', trodAll_mk1 (shut_bool Tryz.underlying4 _), (trodAll_cons_mk (Below.trod Row.laidOut (by kernel_rfl) (of_decide_eq_true (by kernel_rfl)) h0 bel lt0) trodAll_mk0), rfl, bel.frame _, fun h => by cases h⟩

theorem over : Rows.auditCountsRow.holds Tryz.pinned (OpenSpec.ofChange Rows.auditCountsSpec) :=
  OpenClaim.holds_of_wide 5 Tryz.f5 rfl rfl rfl rfl rfl rfl rfl ⟨rfl, rfl, rfl, rfl, rfl⟩ rfl rfl rfl rfl rfl (by kernel_rfl) Tryz.func5 facts
    (of_decide_eq_true (by kernel_rfl)) (by unfold Func.isWrapper; first | (rw [if_pos (by decide +kernel)]; kernel_rfl) | (rw [if_neg (by decide +kernel)]; exact ⟨rfl, rfl⟩))
    (fun os started H enc _ => lifted os started H enc)

theorem proved : Rows.AuditCountsSaid := over

theorem d1 : Tryz.pinned.checked.prog.mainIs = some (true, "c0ef3233cc3240dcf7bfc83668b89733f366451c3b08abb5c1f76609e6742df9".toList) := by kernel_rfl
theorem d2 : true = Tryz.pinned.checked.prog.looks [] := by kernel_rfl
theorem d3 : Tryz.prog.funcNamed "virgate/virgatelaw33.AuditCounts" = some 5 := by kernel_rfl
theorem d4 : Tryz.prog.wantsStandIn 54 = false := by kernel_rfl
theorem d5 : false = Rows.auditCountsRow.goesBy Tryz.pinned.checked.prog := by kernel_rfl
theorem d6 : Rows.auditCountsRow.wfByText (OpenSpec.ofChange Rows.auditCountsSpec) = true := by kernel_rfl

/-- THE CARD: the row, with what it lists tied to the program's text. -/
theorem card : Rows.AuditCountsCardSaid :=
  Claim7.holds_tied_plain_at .later [] [.data, .pinned] true (true, "c0ef3233cc3240dcf7bfc83668b89733f366451c3b08abb5c1f76609e6742df9") true
    proved (fun _ h => by cases h) d6 (fun _ h => by cases h) auditCounts_row_tie rfl ⟨rfl, rfl⟩ d1 rfl
    (fun f fn hf hfn => by
      obtain rfl : f = 5 := Option.some.inj (d3.symm.trans hf) |>.symm
      obtain rfl : fn = Tryz.f5 := (Option.some.inj (Tryz.func5.symm.trans hfn)).symm
      exact ⟨d2, fun j t ht => by
        rw [Tryz.params5] at ht
        have h3 : t = 54 := by
          rcases j with _ | j
          · simpa using ht.symm
          · simp at ht
        subst h3
        exact d4⟩)
    d5
#print axioms card
end Go.Proofs.YtbfbaofhnnnohaaGreatDoor.auditCounts
