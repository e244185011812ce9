/- ModelNil: whatever is asked, a model that is not there sees nothing, ends nothing, has nothing; and the chapter's example comes to true. No condition beyond the row's own. -/
import Derived.Test.YtbfbaofhnnnohaaGreatDoorRow
import Derived.Test.YtbfbaofhnnnohaaGreatDoorModelNilFacts
import Derived.Test.YtbfbaofhnnnohaaGreatDoorMNb
import Derived.Test.YtbfbaofhnnnohaaGreatDoorTie
import Derived.Test.YtbfbaofhnnnohaaGreatDoorCards
import Derived.SevenTiedAt
namespace Go.Proofs.YtbfbaofhnnnohaaGreatDoor.modelNil
open Go.ChangeShapes Go.WideShapes Go.ChangeAt Go.RowKit
set_option linter.unusedVariables false

set_option maxRecDepth 100000 in
/-- What is asked, by its parts. -/
theorem shape {W : World} {base : Nat} {v : Value} (h : Value.okWide Tryz.prog W .any base 27 v) :
    ∃ (k n nb addr na : Int) (node handle : ByteArray) (a0 : Option Addr) (len cap : Nat) (b1 b2 : Bool), v = .agg #[.int .i64 k, .string node, .string handle, .int .u32 addr, .slice a0 len cap, .int .i64 n, .bool b1, .bool b2, .int .u32 na, .int .i64 nb] ∧
      len ≤ cap ∧ cap ≤ maxLen ∧ node.size ≤ maxLen ∧ handle.size ≤ maxLen := by
  unfold Value.okWide at h
  rw [Tryz.underlying27] at h
  obtain ⟨cs, rfl, hs, ts, hts, _, hall⟩ := h
  have ht : ts = [3, 9, 9, 22, 23, 3, 4, 4, 22, 3] := Option.some.inj (hts.symm.trans (by kernel_rfl))
  subst ht
  have hs : cs.size = 10 := hs.trans (by kernel_rfl)
  have at_ : ∀ (i : Nat) (hi : i < 10), ∃ u, [3, 9, 9, 22, 23, 3, 4, 4, 22, 3][i % 10]? = some u ∧ Cell.okWide Tryz.prog W .any base u (cs[i]'(by omega)) := fun i hi => hall i _ (by simp [hs, hi])
  obtain ⟨l, rfl⟩ : ∃ l : List Value, cs = ⟨l⟩ := ⟨cs.toList, rfl⟩
  match l, hs with
  | [c0, c1, c2, c3, c4, c5, c6, c7, c8, c9], _ =>
    obtain ⟨u0, e0, h0⟩ := at_ 0 (by omega)
    obtain ⟨u1, e1, h1⟩ := at_ 1 (by omega)
    obtain ⟨u2, e2, h2⟩ := at_ 2 (by omega)
    obtain ⟨u3, e3, h3⟩ := at_ 3 (by omega)
    obtain ⟨u4, e4, h4⟩ := at_ 4 (by omega)
    obtain ⟨u5, e5, h5⟩ := at_ 5 (by omega)
    obtain ⟨u6, e6, h6⟩ := at_ 6 (by omega)
    obtain ⟨u7, e7, h7⟩ := at_ 7 (by omega)
    obtain ⟨u8, e8, h8⟩ := at_ 8 (by omega)
    obtain ⟨u9, e9, h9⟩ := at_ 9 (by omega)
    cases e0; cases e1; cases e2; cases e3; cases e4; cases e5; cases e6; cases e7; cases e8; cases e9
    obtain ⟨k, rfl⟩ : ∃ k, c0 = .int .i64 k := Row.cell_int Tryz.underlying3 h0
    obtain ⟨node, rfl, hn⟩ : ∃ s, c1 = .string s ∧ s.size ≤ maxLen := Row.cell_string Tryz.underlying9 h1
    obtain ⟨handle, rfl, hh⟩ : ∃ s, c2 = .string s ∧ s.size ≤ maxLen := Row.cell_string Tryz.underlying9 h2
    obtain ⟨addr, rfl⟩ : ∃ k, c3 = .int .u32 k := Row.cell_int Tryz.underlying22 h3
    obtain ⟨a0, len, cap, rfl, hl, hm⟩ : ∃ a len cap, c4 = .slice a len cap ∧ len ≤ cap ∧ cap ≤ maxLen := Row.cell_slice Tryz.underlying23 h4
    obtain ⟨n, rfl⟩ : ∃ k, c5 = .int .i64 k := Row.cell_int Tryz.underlying3 h5
    obtain ⟨b1, rfl⟩ : ∃ b, c6 = .bool b := Row.cell_bool Tryz.underlying4 h6
    obtain ⟨b2, rfl⟩ : ∃ b, c7 = .bool b := Row.cell_bool Tryz.underlying4 h7
    obtain ⟨na, rfl⟩ : ∃ k, c8 = .int .u32 k := Row.cell_int Tryz.underlying22 h8
    obtain ⟨nb, rfl⟩ : ∃ k, c9 = .int .i64 k := Row.cell_int Tryz.underlying3 h9
    exact ⟨k, n, nb, addr, na, node, handle, a0, len, cap, b1, b2, rfl, hl, hm, hn, hh⟩

def zeroArg : Value := .agg #[.int .i64 0, .string ByteArray.empty, .string ByteArray.empty, .int .u32 0, .slice none 0 0, .int .i64 0, .bool false, .bool false, .int .u32 0, .int .i64 0]

set_option maxRecDepth 100000 in
theorem lifted (os : Os) (started : os.Started) (H : Type) (enc : TypeId × Value → H) :
    ReturnsInHanded {} Tryz.checked os 3 .any (fun w args => (Rows.modelNilSpec.pre enc Tryz.prog Tryz.f3 Rows.modelNilRow.domain false w args ∧ laidMetH Tryz.prog Row.laid w) ∧ sizedMet enc Tryz.prog Tryz.f3 (OpenSpec.ofChange Rows.modelNilSpec) false w args)
      (Rows.modelNilSpec.post enc Tryz.prog Tryz.f3 false true false false) := by
  refine Row.returns (C := Tryz.checked) (X := fun w _ => laidMetH Tryz.prog Row.laid w) Row.own started (by kernel_rfl) Tryz.func3
    (ChangeSpec.witness_at (enc := enc) (C := Tryz.checked) (os := os) (X := fun w _ => laidMetH Tryz.prog Row.laid w) false (Row.laidWorld os) #[zeroArg] 8 rfl (by kernel_rfl) (by kernel_rfl) (by kernel_rfl) (by kernel_rfl) (by kernel_rfl) (Row.laid_met os _)) ?_
  intro W base args ds gs before hval0 hW _ hsh
  have hval : ∀ (j : Nat) t v, Tryz.f3.params[j]? = some t → args[j]? = some v → Value.okWide Tryz.prog W .any base t v := hval0
  have hW' := hW
  obtain ⟨p, q, hA0, hV, rfl, hfz, hnd⟩ := hW
  have hA : DataW.TrodAll enc Tryz.prog W 0 (fun _ => true) true Tryz.f3.params.toList args.toList ds p := hA0
  rw [Tryz.params3] at hA hval
  obtain ⟨v0, vs0, d0, ds0, p0, q0, hargs, rfl, rfl, h0, r0⟩ := trodAll_cons hA
  obtain ⟨rfl, rfl, rfl⟩ := trodAll_nil r0
  obtain rfl : args = #[v0] := by cases args; simp_all
  obtain ⟨rfl, rfl⟩ := trodVars_none hV
  have lt0 : ∀ x ∈ p0, x.block < W.heap.size := by obtain ⟨m, hm⟩ := h0; exact DataW.trod_lt m _ _ _ hm
  obtain ⟨x, hx⟩ := Row.maxLen_cell hsh
  obtain ⟨k, n, nb, addr, na, node, handle, a0, len, cap, b1, b2, rfl, hl, hm, hn, hh⟩ := shape (hval 0 27 v0 rfl rfl)
  clear hA0 hval0 hval
  refine (walk k n nb addr na node handle a0 len cap b1 b2 hl hm hn hh x W hx (Row.lt_of_cell hx)).mono fun e W' ⟨he, bel⟩ => ?_
  subst he
  exact ⟨_, rfl, _, _, _, [], _, [], hW', trodAll_mk1 (shut_bool Tryz.underlying4 _), (trodAll_cons_mk (Below.trod Row.laidOut (by kernel_rfl) (of_decide_eq_true (by kernel_rfl)) h0 bel lt0) trodAll_mk0), rfl, bel.frame _, fun h => by cases h⟩

theorem over : Rows.modelNilRow.holds Tryz.pinned (OpenSpec.ofChange Rows.modelNilSpec) :=
  OpenClaim.holds_of_wide 3 Tryz.f3 rfl rfl rfl rfl rfl rfl rfl ⟨rfl, rfl, rfl, rfl, rfl⟩ rfl rfl rfl rfl rfl (by kernel_rfl) Tryz.func3 facts
    (of_decide_eq_true (by kernel_rfl)) (by unfold Func.isWrapper; first | (rw [if_pos (by decide +kernel)]; kernel_rfl) | (rw [if_neg (by decide +kernel)]; exact ⟨rfl, rfl⟩))
    (fun os started H enc _ => lifted os started H enc)

theorem proved : Rows.ModelNilSaid := over

theorem d1 : Tryz.pinned.checked.prog.mainIs = some (true, "c0ef3233cc3240dcf7bfc83668b89733f366451c3b08abb5c1f76609e6742df9".toList) := by kernel_rfl
theorem d2 : true = Tryz.pinned.checked.prog.looks [] := by kernel_rfl
theorem d3 : Tryz.prog.funcNamed "virgate/virgatelaw32.ModelNil" = some 3 := by kernel_rfl
theorem d4 : Tryz.prog.wantsStandIn 27 = false := by kernel_rfl
theorem d5 : false = Rows.modelNilRow.goesBy Tryz.pinned.checked.prog := by kernel_rfl
theorem d6 : Rows.modelNilRow.wfByText (OpenSpec.ofChange Rows.modelNilSpec) = true := by kernel_rfl

/-- THE CARD: the row, with what it lists tied to the program's text. -/
theorem card : Rows.ModelNilCardSaid :=
  Claim7.holds_tied_plain_at .later [] [.data, .pinned] true (true, "c0ef3233cc3240dcf7bfc83668b89733f366451c3b08abb5c1f76609e6742df9") true
    proved (fun _ h => by cases h) d6 (fun _ h => by cases h) modelNil_row_tie rfl ⟨rfl, rfl⟩ d1 rfl
    (fun f fn hf hfn => by
      obtain rfl : f = 3 := Option.some.inj (d3.symm.trans hf) |>.symm
      obtain rfl : fn = Tryz.f3 := (Option.some.inj (Tryz.func3.symm.trans hfn)).symm
      exact ⟨d2, fun j t ht => by
        rw [Tryz.params3] at ht
        have h3 : t = 27 := by
          rcases j with _ | j
          · simpa using ht.symm
          · simp at ht
        subst h3
        exact d4⟩)
    d5
#print axioms card
end Go.Proofs.YtbfbaofhnnnohaaGreatDoor.modelNil
