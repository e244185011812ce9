/- FreeGroups: addresses by their blocks are as the chapter says; and the chapter's example comes to true. No condition beyond the row's own. -/
import Derived.Test.YtbfbaofhnnnohaaGreatDoorRow
import Derived.Test.YtbfbaofhnnnohaaGreatDoorFreeGroupsFacts
import Derived.Test.YtbfbaofhnnnohaaGreatDoorFGd
import Derived.Deep.Slices
import Derived.Test.YtbfbaofhnnnohaaGreatDoorTie
import Derived.Test.YtbfbaofhnnnohaaGreatDoorCards
import Derived.SevenTiedAt
namespace Go.Proofs.YtbfbaofhnnnohaaGreatDoor.freeGroups
open Go.ChangeShapes Go.WideShapes Go.ChangeAt Go.RowKit
set_option linter.unusedVariables false
theorem cells22 : Tryz.prog.cellsOf 22 = 1 := by kernel_rfl
theorem bytes22 : Tryz.prog.bytesOf 22 = 4 := by kernel_rfl

theorem range_of_wf {y : Int} (h : (Lit.int .u32 y).wf = true) : 0 ≤ y ∧ y < 4294967296 := by
  have e1 : IntKind.u32.min = 0 := by decide
  have e2 : IntKind.u32.max = 4294967295 := by decide
  simp only [Lit.wf, e1, e2, Bool.and_eq_true, decide_eq_true_eq] at h
  omega

set_option maxRecDepth 100000 in
/-- What came in, by its cells. -/
theorem shape {H : Type} {enc : TypeId × Value → H} {W : World} {a : Option Addr} {len cap : Nat} {d : DataW H} {p : List MemPlace} (h : DataW.Trod enc Tryz.prog W 0 (fun _ => true) true 23 (.slice a len cap) d p) : ∃ xs, len ≤ cap ∧ InRow W a len xs := by
  obtain ⟨fuel, hf⟩ := h
  rcases Deep.open_slice Tryz.underlying23 hf with ⟨hcs, _⟩ | ⟨a', len', cap', m, n, D, Pl, hcs, _, hl, hm, hmm, hx, hel⟩
  · simp [Value.cells] at hcs
    obtain ⟨rfl, rfl, rfl⟩ := hcs
    exact ⟨[], Nat.le_refl _, rfl, by simp, fun h => by omega⟩
  · simp [Value.cells] at hcs
    obtain ⟨rfl, rfl, rfl⟩ := hcs
    have hm' : m = cap := by simpa using hmm
    subst hm'
    have each : ∀ i, i < len → ∃ (y : Int), W.cell? (a'.add (i * 1)) = some (.int .u32 y) ∧ 0 ≤ y ∧ y < 4294967296 := by
      intro i hi
      obtain ⟨cs', h1, h2⟩ := hel i (by omega)
      rw [cells22] at h1
      obtain ⟨k, e0, e1, e2⟩ := DataW.trod_int Tryz.underlying22 h2
      have hc := World.cells?_some h1
      refine ⟨k, ?_, ?_⟩
      · have := hc.2.2 0 (by omega)
        rw [e0] at this
        simpa [Deep.add_add] using this
      · exact range_of_wf e2
    obtain ⟨f, hf⟩ := Deep.choose_lt each
    refine ⟨(List.range len).map f, hl, by simp, fun x hx => ?_, fun hpos => ?_⟩
    · obtain ⟨i, hi, rfl⟩ := List.mem_map.1 hx
      exact (hf i (by simpa using hi)).2
    · obtain ⟨b, off, spot⟩ := a'
      have hspot : spot = none := by simpa [Addr.add] using World.cell?_spot (hf 0 hpos).1
      subst hspot
      refine ⟨b, off, rfl, ?_, fun j hj => ?_⟩
      · have := (hf 0 hpos).1
        simp only [Addr.add, Nat.zero_mul, Nat.add_zero] at this
        exact Row.lt_of_cell this
      · have g0 := (hf j hj).1
        have e : ((List.range len).map f).getD j 0 = f j := by simp [List.getD_eq_getElem?_getD, hj]
        rw [e]
        rw [Go.WideShapes.add_plain] at g0
        simpa using g0

def zeroArg : Value := .slice none 0 0

set_option maxRecDepth 100000 in
theorem lifted (os : Os) (started : os.Started) (H : Type) (enc : TypeId × Value → H) :
    ReturnsInHanded {} Tryz.checked os 7 .any (fun w args => (Rows.freeGroupsSpec.pre enc Tryz.prog Tryz.f7 Rows.freeGroupsRow.domain false w args ∧ laidMetH Tryz.prog Row.laid w) ∧ sizedMet enc Tryz.prog Tryz.f7 (OpenSpec.ofChange Rows.freeGroupsSpec) false w args)
      (Rows.freeGroupsSpec.post enc Tryz.prog Tryz.f7 false true false false) := by
  refine Row.returns (C := Tryz.checked) (X := fun w _ => laidMetH Tryz.prog Row.laid w) Row.own started (by kernel_rfl) Tryz.func7
    (ChangeSpec.witness_at (enc := enc) (C := Tryz.checked) (os := os) (X := fun w _ => laidMetH Tryz.prog Row.laid w) false (Row.laidWorld os) #[zeroArg] 8 rfl (by kernel_rfl) (by kernel_rfl) (by kernel_rfl) (by kernel_rfl) (by kernel_rfl) (Row.laid_met os _)) ?_
  intro W base args ds gs before hval0 hW hsz0 hsh
  have hsz : (DataW.weightsEach Tryz.prog (Tryz.f7.params.toList ++ Rows.freeGroupsSpec.plain.varTypes Tryz.prog) (ds ++ gs)).all (· ≤ reachBytes) = true := hsz0
  have hval : ∀ (j : Nat) t v, Tryz.f7.params[j]? = some t → args[j]? = some v → Value.okWide Tryz.prog W .any base t v := hval0
  have hW' := hW
  obtain ⟨p, q, hA0, hV, rfl, hfz, hnd⟩ := hW
  have hA : DataW.TrodAll enc Tryz.prog W 0 (fun _ => true) true Tryz.f7.params.toList args.toList ds p := hA0
  rw [Tryz.params7] at hA hval hsz
  obtain ⟨v0, vs0, d0, ds0, p0, q0, hargs, rfl, rfl, h0, r0⟩ := trodAll_cons hA
  obtain ⟨rfl, rfl, rfl⟩ := trodAll_nil r0
  obtain rfl : args = #[v0] := by cases args; simp_all
  obtain ⟨rfl, rfl⟩ := trodVars_none hV
  have lt0 : ∀ x ∈ p0, x.block < W.heap.size := by obtain ⟨m, hm⟩ := h0; exact DataW.trod_lt m _ _ _ hm
  obtain ⟨x, hx⟩ := Row.maxLen_cell hsh
  obtain ⟨A, n, cap, rfl⟩ := okWide_slice Tryz.underlying23 (hval 0 23 v0 rfl rfl)
  obtain ⟨xs, hcap, hcame⟩ := shape h0
  clear hA0 hval0 hval hsz hsz0
  refine (walk A n cap xs hcap W hcame x hx (Row.lt_of_cell hx)).mono fun e W' ⟨he, bel⟩ => ?_
  subst he
  exact ⟨_, rfl, _, _, _, [], _, [], hW', trodAll_mk1 (shut_bool Tryz.underlying4 _), (trodAll_cons_mk (Below.trod Row.laidOut (by kernel_rfl) (of_decide_eq_true (by kernel_rfl)) h0 bel lt0) trodAll_mk0), rfl, bel.frame _, fun h => by cases h⟩

theorem over : Rows.freeGroupsRow.holds Tryz.pinned (OpenSpec.ofChange Rows.freeGroupsSpec) :=
  OpenClaim.holds_of_wide 7 Tryz.f7 rfl rfl rfl rfl rfl rfl rfl ⟨rfl, rfl, rfl, rfl, rfl⟩ rfl rfl rfl rfl rfl (by kernel_rfl) Tryz.func7 facts
    (of_decide_eq_true (by kernel_rfl)) (by unfold Func.isWrapper; first | (rw [if_pos (by decide +kernel)]; kernel_rfl) | (rw [if_neg (by decide +kernel)]; exact ⟨rfl, rfl⟩))
    (fun os started H enc _ => lifted os started H enc)

theorem proved : Rows.FreeGroupsSaid := over

theorem d1 : Tryz.pinned.checked.prog.mainIs = some (true, "c0ef3233cc3240dcf7bfc83668b89733f366451c3b08abb5c1f76609e6742df9".toList) := by kernel_rfl
theorem d2 : true = Tryz.pinned.checked.prog.looks [] := by kernel_rfl
theorem d3 : Tryz.prog.funcNamed "virgate/virgatelaw26.FreeGroups" = some 7 := by kernel_rfl
theorem d4 : Tryz.prog.wantsStandIn 23 = false := by kernel_rfl
theorem d5 : false = Rows.freeGroupsRow.goesBy Tryz.pinned.checked.prog := by kernel_rfl
theorem d6 : Rows.freeGroupsRow.wfByText (OpenSpec.ofChange Rows.freeGroupsSpec) = true := by kernel_rfl

/-- THE CARD: the row, with what it lists tied to the program's text. -/
theorem card : Rows.FreeGroupsCardSaid :=
  Claim7.holds_tied_plain_at .later [] [.data, .pinned] true (true, "c0ef3233cc3240dcf7bfc83668b89733f366451c3b08abb5c1f76609e6742df9") true
    proved (fun _ h => by cases h) d6 (fun _ h => by cases h) freeGroups_row_tie rfl ⟨rfl, rfl⟩ d1 rfl
    (fun f fn hf hfn => by
      obtain rfl : f = 7 := Option.some.inj (d3.symm.trans hf) |>.symm
      obtain rfl : fn = Tryz.f7 := (Option.some.inj (Tryz.func7.symm.trans hfn)).symm
      exact ⟨d2, fun j t ht => by
        rw [Tryz.params7] at ht
        have h3 : t = 23 := by
          rcases j with _ | j
          · simpa using ht.symm
          · simp at ht
        subst h3
        exact d4⟩)
    d5
#print axioms card
end Go.Proofs.YtbfbaofhnnnohaaGreatDoor.freeGroups
