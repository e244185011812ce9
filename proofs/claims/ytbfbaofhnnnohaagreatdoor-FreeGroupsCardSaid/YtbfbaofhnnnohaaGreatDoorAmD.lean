/- The abstract machine: a reflective evaluator for closed runs, and its soundness (texts 33 to 40 of it). -/
import Derived.Test.YtbfbaofhnnnohaaGreatDoorAmC
import Derived.Lib.Bytealg
import Derived.Below
import Derived.Lib.Join
import Derived.Lib.Replace
import Derived.Lib.ReplaceLaws
set_option linter.unusedVariables false
/- The abstract machine, part 33: what holds of all entries of a trie. -/
namespace Go.Proofs.YtbfbaofhnnnohaaGreatDoor
namespace Am

def T.All {α : Type} (p : Nat → α → Prop) : T α → (Nat → Nat) → Prop
  | .leaf, _ => True
  | .node l v r, ix => T.All p l (fun k => ix (2 * k + 1)) ∧ (match v with | some x => p (ix 0) x | none => True) ∧ T.All p r (fun k => ix (2 * k + 2))

theorem T.all_get {α : Type} {p : Nat → α → Prop} : ∀ {t : T α} {ix : Nat → Nat}, T.All p t ix → ∀ n v, t.get n = some v → p (ix n) v
  | .leaf, _, _, _, _, h => by simp [T.get] at h
  | .node l x r, ix, ha, n, v, h => by
    obtain ⟨h1, h2, h3⟩ := ha
    cases n with
    | zero => simp only [T.get] at h; rw [h] at h2; exact h2
    | succ k =>
      simp only [T.get] at h
      split at h
      · rename_i hb
        have := T.all_get h1 _ _ h
        have hk := Nat.eq_of_beq_eq_true hb
        have e : 2 * (k / 2) + 1 = k + 1 := by omega
        rw [e] at this; exact this
      · rename_i hb
        have := T.all_get h3 _ _ h
        have hk := Nat.ne_of_beq_eq_false hb
        have e : 2 * (k / 2) + 2 = k + 1 := by omega
        rw [e] at this; exact this

end Am
end Go.Proofs.YtbfbaofhnnnohaaGreatDoor

/- The abstract machine, part 34: the library's entries that search a string for a byte. -/
namespace Go.Proofs.YtbfbaofhnnnohaaGreatDoor
namespace Am
variable {P : Program} {L0 : M}

/-- A summary is what the function does. -/
def SumOk (P : Program) (L0 : M) (f : FuncId) (g : List Value → H → Option (Value × H)) : Prop :=
  ∀ args h v h', g args h = some (v, h') → ∀ (m : M) (w : World) (args' : List Value), Sub L0 m → Rel m h w.heap → VRels m args args' →
    CallUpon P f ⟨args'⟩ w (Ends m h w (fun r => r = (v, h')))

theorem byte_eq {a : UInt8} {c : Nat} (hc : c ≤ 255) : Nat.beq a.toNat c = (a == c.toUInt8) := by
  rw [Bool.eq_iff_iff, Nat.beq_eq, beq_iff_eq]
  constructor
  · intro h; rw [← h]; simp
  · intro h; rw [h]; simp [Nat.toUInt8]; omega

theorem idxB_eq {c : Nat} (hc : c ≤ 255) : ∀ (l : List UInt8) (i : Nat), idxB c l i = if Lib.indexByte l c.toUInt8 = -1 then -1 else Lib.indexByte l c.toUInt8 + i
  | [], i => by simp [idxB, Lib.indexByte]
  | a :: l, i => by
    have hg := Lib.indexByte_ge l c.toUInt8
    simp only [idxB, byte_eq hc, Lib.indexByte]
    by_cases hb : (a == c.toUInt8) = true
    · simp [hb]
    · have hb' : (a == c.toUInt8) = false := by simpa using hb
      simp only [hb', Bool.false_eq_true, if_false]
      rw [idxB_eq hc l (i + 1)]
      by_cases h1 : Lib.indexByte l c.toUInt8 = -1
      · simp [h1]
      · have h2 : (Lib.indexByte l c.toUInt8 == -1) = false := by simpa using h1
        simp only [h1, h2, if_false, Bool.false_eq_true]
        have h3 : ¬ (Lib.indexByte l c.toUInt8 + 1 = -1) := by omega
        simp only [h3, if_false]
        omega

theorem cntB_eq {c : Nat} (hc : c ≤ 255) : ∀ (l : List UInt8) (i : Nat), cntB c l i = Lib.countByte l c.toUInt8 + i
  | [], i => by simp [cntB, Lib.countByte]
  | a :: l, i => by
    simp only [cntB, byte_eq hc]
    have ih := cntB_eq hc l
    unfold Lib.countByte at *
    rw [List.count_cons]
    by_cases hb : (a == c.toUInt8) = true
    · simp only [hb, ih, if_true]; omega
    · have hb' : (a == c.toUInt8) = false := by simpa using hb
      simp only [hb', ih]; simp

theorem sl_eq (s : ByteArray) : sl s = s.data.toList := rfl

theorem upon_extern {f : FuncId} {fn : Func} {e : Array Value → Sem Value} (hf : P.funcs[f]? = some fn) (hname : (fn.name == "runtime.NumGoroutine") = false)
    (hb : fn.body.isNone = true) (hn : Extern.findNext fn = none) (he : Extern.find fn = some e) {args : Array Value} {w : World} {v : Value} (hr : (e args).run P w = .ok v w) {R : Value → World → Prop} (h : R v w) : CallUpon P f args w R := by
  unfold CallUpon
  rw [run_callFunc_extern hf hname hb hn he, hr]
  exact h

theorem sumIdx_ok {f : FuncId} {fn : Func} (hf : P.funcs[f]? = some fn) (hname : (fn.name == "runtime.NumGoroutine") = false)
    (hb : fn.body.isNone = true) (hn : Extern.findNext fn = none) (he : Extern.find fn = some Extern.BytealgIndexByte.indexByte) : SumOk P L0 f sumIdx := by
  intro args h v h' hg m w args' _ R hr
  unfold sumIdx at hg
  split at hg
  · rename_i s c
    split at hg
    · rename_i hc
      have hc := Nat.le_of_ble_eq_true hc
      cases hg
      cases hr with
      | cons h1 t => cases t with
        | cons h2 t => cases t with
          | nil =>
            have e1 := h1.string_inv
            have e2 := h2.int_inv
            subst e1; subst e2
            refine upon_extern hf hname hb hn he (Lib.run_indexByteString s _ w) ⟨_, _, m, rfl, ?_, R, Fwd.refl _ _ _⟩
            have e3 : idxB c (sl s) 0 = Lib.indexByte s.data.toList (Int.ofNat c).toNat.toUInt8 := by
              rw [idxB_eq hc, sl_eq]
              show _ = Lib.indexByte s.data.toList c.toUInt8
              split
              · rename_i h; rw [h]
              · simp
            rw [e3]
            exact .same rfl
    · cases hg
  · cases hg

theorem sumCnt_ok {f : FuncId} {fn : Func} (hf : P.funcs[f]? = some fn) (hname : (fn.name == "runtime.NumGoroutine") = false)
    (hb : fn.body.isNone = true) (hn : Extern.findNext fn = none) (he : Extern.find fn = some Extern.BytealgCount.count) : SumOk P L0 f sumCnt := by
  intro args h v h' hg m w args' _ R hr
  unfold sumCnt at hg
  split at hg
  · rename_i s c
    split at hg
    · rename_i hc
      have hc := Nat.le_of_ble_eq_true hc
      cases hg
      cases hr with
      | cons h1 t => cases t with
        | cons h2 t => cases t with
          | nil =>
            have e1 := h1.string_inv
            have e2 := h2.int_inv
            subst e1; subst e2
            refine upon_extern hf hname hb hn he (Lib.run_countString s _ w) ⟨_, _, m, rfl, ?_, R, Fwd.refl _ _ _⟩
            have e3 : (Int.ofNat (cntB c (sl s) 0)) = ((Lib.countByte s.data.toList (Int.ofNat c).toNat.toUInt8 : Nat) : Int) := by
              rw [cntB_eq hc, sl_eq]; rfl
            rw [e3]
            exact .same rfl
    · cases hg
  · cases hg

end Am
end Go.Proofs.YtbfbaofhnnnohaaGreatDoor

/- The abstract machine, part 35: strings.Join, by its contract. -/
namespace Go.Proofs.YtbfbaofhnnnohaaGreatDoor
namespace Am
open Go.RowKit
variable {P : Program} {L0 : M} {m : M} {h : H} {w w' : World}

theorem below_ends (R : Rel m h w.heap) (hb : Below w.heap.size w w') : Rel m h w'.heap ∧ Fwd m m h h w w' := by
  refine ⟨?_, ?_⟩
  · exact {
      obj := fun i l o hm hg => (R.obj i l o hm hg).at (hb.block _ (R.bnd i l hm))
      bnd := fun i l hm => Nat.lt_of_lt_of_le (R.bnd i l hm) hb.size
      dom := R.dom
      sep := R.sep }
  · exact ⟨{
      sub := Sub.refl m, nxt := Nat.le_refl _, new := fun i l e => .inl e, blk := fun i l e g => by rw [g] at e; cases e
      size := hb.size, frame := fun b hlt _ => hb.block b hlt, ownd := fun _ _ h => h, low := Nat.le_refl _, kept := fun _ _ _ => rfl }, ⟨hb.os, hb.tape, hb.output⟩⟩

theorem ends_string (R : Rel m h w.heap) (hb : Below w.heap.size w w') (s : ByteArray) : Ends m h w (fun r => r = (.string s, h)) (.string s) w' :=
  let ⟨a, b⟩ := below_ends R hb; ⟨_, _, m, rfl, .same rfl, a, b⟩

theorem joinL_eq (sep : List UInt8) : ∀ (l : List (List UInt8)), joinL sep l = Lib.join l sep
  | [] => rfl
  | [a] => by simp [joinL, Lib.join, List.intercalate]
  | a :: b :: l => by
    have ih := joinL_eq sep (b :: l)
    simp only [joinL] at ih ⊢
    rw [ih]
    simp [Lib.join, List.intercalate]

theorem strsOf_spec : ∀ {vs : List Value} {l : List (List UInt8)}, strsOf vs = some l → vs = l.map fun b => .string ⟨⟨b⟩⟩
  | [], l, h => by simp only [strsOf] at h; cases h; rfl
  | v :: vs, l, h => by
    unfold strsOf at h
    split at h
    · rename_i e; cases e
    · rename_i s r e
      cases e
      split at h
      · rename_i r' hr
        cases h
        rw [strsOf_spec hr]
        rfl
      · cases h
    · cases h

theorem strs_map : ∀ (ls : List (List UInt8)), (ls.map fun b => (⟨⟨b⟩⟩ : ByteArray)).map (·.data.toList) = ls
  | [] => rfl
  | a :: l => by rw [List.map_cons, List.map_cons, strs_map l]

theorem upon_enter {f : FuncId} {args : Array Value} {R : Value → World → Prop} (hcall : ∀ args w, (callFunc f args).run P w = .ok (.enter f args) w)
    (h : Calls P f args w fun e w' => ∃ v, e = .returned v ∧ R v w') : CallUpon P f args w R := by
  unfold CallUpon
  rw [hcall]
  refine Calls.mono h fun e w' he => ?_
  obtain ⟨v, rfl, hr⟩ := he
  exact hr

theorem sumJoin_ok {f : FuncId} (hcall : ∀ args w, (callFunc f args).run P w = .ok (.enter f args) w)
    (hnone : ∀ (a : Option Addr) (c : Nat) (sep : ByteArray) (w : World), Calls P f #[.slice a 0 c, .string sep] w fun e w' => e = .returned (.string ⟨#[]⟩) ∧ w' = w)
    (hmany : ∀ (bk o c : Nat) (xs : List ByteArray) (sep : ByteArray) (w : World), (∀ (j : Nat) x, xs[j]? = some x → w.cell? ⟨bk, o + j, none⟩ = some (.string x)) → bk < w.heap.size → xs.length ≤ 140737488355328 → xs.length ≤ c →
      (Lib.join (xs.map (·.data.toList)) sep.data.toList).length ≤ 140737488355328 →
      Calls P f #[.slice (some ⟨bk, o, none⟩) xs.length c, .string sep] w fun e w' => e = .returned (.string ⟨(Lib.join (xs.map (·.data.toList)) sep.data.toList).toArray⟩) ∧ Below w.heap.size w w') : SumOk P L0 f sumJoin := by
  intro args h v h' hg m w args' _ R hr
  unfold sumJoin at hg
  split at hg
  · cases hg
    cases hr with
    | cons h1 t => cases t with
      | cons h2 t => cases t with
        | nil =>
          obtain ⟨e1, _, _⟩ := h1.nils_inv
          have e2 := h2.string_inv
          subst e1; subst e2
          refine upon_enter hcall ((hnone _ _ _ w).mono ?_)
          rintro e w' ⟨rfl, rfl⟩
          exact ⟨_, rfl, ends_string R (Below.refl _ _) _⟩
  · rename_i b o len cc sep
    cases hr with
    | cons h1 t => cases t with
      | cons h2 t => cases t with
        | nil =>
          obtain ⟨b', o', l, a', cap, e1, hm, rfl, hlen, ha, _⟩ := h1.slice_inv
          cases e1
          have e2 := h2.string_inv
          subst e2
          split at hg
          · cases hg
            refine upon_enter hcall ((hnone _ _ _ w).mono ?_)
            rintro e w' ⟨rfl, rfl⟩
            exact ⟨_, rfl, ends_string R (Below.refl _ _) _⟩
          · rename_i hne
            split at hg
            · rename_i c ow hgb
              split at hg
              · rename_i ls hls
                split at hg
                · rename_i k1 k2 k3
                  cases hg
                  have k1 := Nat.eq_of_beq_eq_true k1
                  have k2 := Nat.le_of_ble_eq_true k2
                  have k3 := Nat.le_of_ble_eq_true k3
                  rw [len8_eq, sl_eq] at k3
                  have hspec := strsOf_spec hls
                  obtain ⟨cs, e, fz, hcs, _, _, hcells⟩ := R.obj _ l _ hm hgb
                  have ha' : a' = ⟨l.blk, l.off + o, none⟩ := by
                    rcases ha with ha | ha
                    · exact absurd (by omega) hne
                    · exact ha
                  subst ha'
                  have hx : (ls.map fun b => (⟨⟨b⟩⟩ : ByteArray)).length = len := by simpa using k1
                  have hmap : (ls.map fun b => (⟨⟨b⟩⟩ : ByteArray)).map (·.data.toList) = ls := strs_map ls
                  have := hmany l.blk (l.off + o) cap (ls.map fun b => ⟨⟨b⟩⟩) sep w (fun j x hj => by
                    have h3 : ((c.drop o).take len)[j]? = some (.string x) := by
                      rw [hspec, List.getElem?_map]
                      rw [List.getElem?_map] at hj
                      cases hlj : ls[j]? with
                      | none => rw [hlj] at hj; cases hj
                      | some y => rw [hlj] at hj; cases hj; rfl
                    have h4 : c[o + j]? = some (.string x) := by
                      rw [List.getElem?_take] at h3
                      split at h3
                      · rw [List.getElem?_drop] at h3; exact h3
                      · cases h3
                    obtain ⟨v', g1, g2⟩ := hcells _ _ h4
                    have := g2.string_inv
                    subst this
                    simp only [World.cell?, hcs, Option.isSome_none, Bool.false_eq_true, if_false]
                    rw [Nat.add_assoc]; exact g1) (R.bnd _ _ hm) (by rw [hx]; omega) (by rw [hx]; exact hlen) (by rw [hmap, ← joinL_eq]; exact Nat.le_trans (by omega : (joinL sep.data.toList ls).length ≤ 1000000) (by omega))
                  rw [hx, hmap, ← joinL_eq] at this
                  refine upon_enter hcall (this.mono ?_)
                  rintro e w' ⟨rfl, hb⟩
                  exact ⟨_, rfl, ends_string R hb _⟩
                · cases hg
              · cases hg
            · cases hg
  · cases hg

end Am
end Go.Proofs.YtbfbaofhnnnohaaGreatDoor

/- The abstract machine, part 36: strings.Replace of one byte by one byte, once, by its contract. -/
namespace Go.Proofs.YtbfbaofhnnnohaaGreatDoor
namespace Am
open Go.RowKit
variable {P : Program} {L0 : M} {m : M} {h : H} {w w' : World}

theorem beq_byte (a c : UInt8) : Nat.beq c.toNat a.toNat = (a == c) := by
  rw [Bool.eq_iff_iff, Nat.beq_eq, beq_iff_eq, UInt8.toNat_inj]
  exact eq_comm

theorem repl1_eq (a b : UInt8) : ∀ s : List UInt8, repl1 a [b] s = if Lib.index s [a] == -1 then s else s.take (Lib.index s [a]).toNat ++ [b] ++ s.drop ((Lib.index s [a]).toNat + 1)
  | [] => by simp [repl1, Lib.index]
  | c :: s => by
    have ih := repl1_eq a b s
    have hge := Lib.index_ge s [a]
    simp only [repl1, beq_byte, Lib.index, List.isPrefixOf, Bool.and_true]
    by_cases hb : (a == c) = true
    · simp [hb]
    · have hb' : (a == c) = false := by simpa using hb
      simp only [hb', Bool.false_eq_true, if_false, ih]
      by_cases h1 : Lib.index s [a] = -1
      · simp [h1]
      · have h2 : (Lib.index s [a] == -1) = false := by simpa using h1
        have h3 : (Lib.index s [a] + 1 == -1) = false := by
          rw [beq_eq_false_iff_ne]; omega
        simp only [h2, Bool.false_eq_true, if_false, h3]
        have h4 : (Lib.index s [a] + 1).toNat = (Lib.index s [a]).toNat + 1 := by omega
        rw [h4]
        simp

theorem repl1_same (a : UInt8) : ∀ s : List UInt8, repl1 a [a] s = s
  | [] => rfl
  | c :: s => by
    simp only [repl1, beq_byte]
    by_cases hb : (a == c) = true
    · have := beq_iff_eq.1 hb; subst this; simp
    · have hb' : (a == c) = false := by simpa using hb
      simp only [hb', repl1_same a s]

theorem repl1_replace (a b : UInt8) (s : List UInt8) : repl1 a [b] s = Lib.replace s [a] [b] 1 := by
  unfold Lib.replace
  by_cases hab : a = b
  · subst hab; simp [repl1_same]
  · have : (([a] : List UInt8) == [b]) = false := by simp [hab]
    rw [this]
    simp only [Bool.false_eq_true, if_false, Lib.replaceNum]
    rw [repl1_eq]
    by_cases h1 : Lib.index s [a] = -1
    · have h2 := Lib.count_miss h1
      simp [h1, h2, Lib.replaceK]
    · have hge := Lib.index_ge s [a]
      have h2 : (Lib.index s [a] == -1) = false := by simpa using h1
      have hc : 1 ≤ Lib.count s [a] := by
        obtain ⟨i, hi⟩ : ∃ i : Nat, Lib.index s [a] = i := ⟨(Lib.index s [a]).toNat, by omega⟩
        rw [Lib.count_hit (by simp) hi]
        omega
      have h3 : ¬ ((1 : Int) < 0 ∨ (Lib.count s [a] : Int) < 1) := by omega
      rw [if_neg h3]
      show _ = Lib.replaceK [a] [b] 1 s
      simp only [Lib.replaceK, h2, Bool.false_eq_true, if_false]
      simp

theorem sumReplace_ok {f : FuncId} (hcall : ∀ args w, (callFunc f args).run P w = .ok (.enter f args) w) {g : Nat} {k0 : Nat} (hL : L0 0 = some ⟨g, 0, k0⟩)
    (hc : ∀ (s old new : ByteArray) (n : Int) (x : Int) (w : World), s.size < 4294967281 → w.cell? ⟨g, 0, none⟩ = some (.int .i64 x) → 1 ≤ old.size → s.size + Lib.countB s old * new.size ≤ 140737488355328 →
      Calls P f #[.string s, .string old, .string new, .int .i64 n] w fun e w' => e = .returned (.string ⟨(Lib.replace s.data.toList old.data.toList new.data.toList n).toArray⟩) ∧ Below w.heap.size w w') : SumOk P L0 f sumReplace := by
  intro args h v h' hg m w args' hsub R hr
  unfold sumReplace at hg
  split at hg
  · rename_i s o n k
    cases hr with
    | cons h1 t => cases t with
      | cons h2 t => cases t with
        | cons h3 t => cases t with
          | cons h4 t => cases t with
            | nil =>
              have e1 := h1.string_inv
              have e2 := h2.string_inv
              have e3 := h3.string_inv
              have e4 := h4.int_inv
              subst e1; subst e2; subst e3; subst e4
              split at hg
              · rename_i a b x ow ha hb hk hlen h0
                cases hg
                have hk : k = 1 := by rw [eqI_eq] at hk; simpa using hk
                subst hk
                have hlen := Nat.le_of_ble_eq_true hlen
                rw [len8_eq] at hlen
                have hs : s.size = (sl s).length := (size_sl s).symm
                obtain ⟨cs, e, fz, hcs, _, _, hcells⟩ := R.obj 0 _ _ (hsub 0 _ hL) h0
                obtain ⟨v', g1, g2⟩ := hcells 0 _ rfl
                have := g2.int_inv
                subst this
                have hcell : w.cell? ⟨g, 0, none⟩ = some (.int .i64 x) := by
                  simp only [World.cell?, hcs, Option.isSome_none, Bool.false_eq_true, if_false]
                  simpa using g1
                have ho : o.size = 1 := by have := size_sl o; rw [ha] at this; simpa using this
                have hn : n.size = 1 := by have := size_sl n; rw [hb] at this; simpa using this
                have hcb := Lib.countB_mul_le o (by omega) s.size s (Nat.le_refl _)
                rw [ho] at hcb
                have := hc s o n 1 x w (by omega) hcell (by omega) (by rw [hn]; omega)
                refine upon_enter hcall (this.mono ?_)
                rintro e w' ⟨rfl, hbw⟩
                refine ⟨_, rfl, ?_⟩
                have e5 : Lib.replace s.data.toList o.data.toList n.data.toList 1 = repl1 a [b] (sl s) := by
                  rw [repl1_replace, ← ha, ← hb]; rfl
                rw [e5]
                exact ends_string R hbw _
              · cases hg
  · cases hg

end Am
end Go.Proofs.YtbfbaofhnnnohaaGreatDoor

/- The abstract machine, part 37: a closed run that comes to true. -/
namespace Go.Proofs.YtbfbaofhnnnohaaGreatDoor
namespace Am
open Go.RowKit
variable {P : Program} {ty : Ty}

def isTrueV : Value × H → Bool
  | (.bool true, _) => true
  | _ => false

/-- One foreign block: a cell of the library's own. -/
def start (x : Int) : H := { next := 1, low := 1, t := .node .leaf (some (.cells [.int .i64 x] false)) .leaf }

/-- It lies there. -/
def cellAt (g : Nat) : M := fun i => if i = 0 then some ⟨g, 0, 1⟩ else none

theorem cellAt_some {g i : Nat} {l : Loc} (h : cellAt g i = some l) : i = 0 ∧ l = ⟨g, 0, 1⟩ := by
  unfold cellAt at h
  split at h
  · rename_i hi; cases h; exact ⟨hi, rfl⟩
  · cases h

theorem start_get {x : Int} : (start x).get 0 = some (.cells [.int .i64 x] false) := rfl

theorem start_rel {g : Nat} {x : Int} {w : World} (hw : w.cell? ⟨g, 0, none⟩ = some (.int .i64 x)) : Rel (cellAt g) (start x) w.heap := by
  have hb : ∃ cs e fz, w.heap[g]? = some (.cells cs e fz) ∧ cs[0]? = some (.int .i64 x) := by
    unfold World.cell? at hw
    split at hw
    · rename_i c e fz h0
      exact ⟨c, e, fz, h0, by simpa using hw⟩
    · cases hw
  obtain ⟨cs, e, fz, h0, h1⟩ := hb
  constructor
  · intro i l o hm hg
    obtain ⟨rfl, rfl⟩ := cellAt_some hm
    rw [start_get] at hg; cases hg
    refine ⟨cs, e, fz, h0, (fun h => by cases h), by simp, ?_⟩
    intro j v hv
    cases j with
    | zero => simp at hv; subst hv; exact ⟨_, h1, .same rfl⟩
    | succ j => simp at hv
  · intro i l hm
    obtain ⟨rfl, rfl⟩ := cellAt_some hm
    rcases Nat.lt_or_ge g w.heap.size with h | h
    · exact h
    · rw [Array.getElem?_eq_none h] at h0; cases h0
  · intro i l hm
    obtain ⟨rfl, _⟩ := cellAt_some hm
    exact Nat.lt_succ_self 0
  · intro i j l k hne hi hj
    obtain ⟨rfl, _⟩ := cellAt_some hi
    obtain ⟨rfl, _⟩ := cellAt_some hj
    exact absurd rfl hne

theorem closed_calls {prog : T CFunc} {sums : Sums} {g : Nat} (hT : TyOk P ty) (hm : P.follows .mixedOrders = true) (hP : ∀ f cf, prog.get f = some cf → FnOk P ty f cf) (hS : SumsOk P (cellAt g) sums) {lf k : Nat} {f : FuncId} {x : Int}
    (hcall : ∀ args w, (callFunc f args).run P w = .ok (.enter f args) w) (hrun : ((callE prog sums lf k f [] (start x)).all isTrueV) = true) {w : World} (hw : w.cell? ⟨g, 0, none⟩ = some (.int .i64 x)) :
    Calls P f #[] w fun e w' => e = .returned (.bool true) ∧ Below w.heap.size w w' := by
  have hc := calls_as (L0 := cellAt g) hT hm hP hS lf k
  have hu := hc f [] (start x) _ (Out.sat_of_all hrun) (cellAt g) w [] (Sub.refl _) (start_rel hw) .nil
  unfold CallUpon at hu
  rw [hcall] at hu
  refine Calls.mono hu fun e w' he => ?_
  cases e with
  | returned v' =>
    obtain ⟨v, h', m', hq, hv, _, hX⟩ := he
    refine ⟨?_, ⟨hX.o.os, hX.o.tape, hX.o.output, hX.x.size, fun b hb => hX.x.frame b hb ?_⟩⟩
    · have hvt : v = .bool true := by
        unfold isTrueV at hq
        split at hq
        · rename_i heq; exact (Prod.mk.inj heq).1
        · cases hq
      subst hvt
      rw [hv.bool_inv]
    · intro j k hj ⟨o, ho, hio⟩
      obtain ⟨rfl, _⟩ := cellAt_some hj
      rw [start_get] at ho; cases ho; cases hio
  | panicked c => exact he.elim
  | outgrown => exact he.elim

end Am
end Go.Proofs.YtbfbaofhnnnohaaGreatDoor

/- The abstract machine, part 38: a fast copy of the evaluators, for the kernel: one constant for each alternative, direct recursors. Printed by fast.py. -/
set_option maxRecDepth 10000
namespace Go.Proofs.YtbfbaofhnnnohaaGreatDoor
namespace Am

noncomputable def getPF {α : Type} (t : T α) (p : Pa) : Option α :=
  Pa.rec (motive := fun _ => T α → Option α) (fun t => T.casesOn t none (fun _ v _ => v)) (fun _ ih t => T.casesOn t none (fun l _ _ => ih l)) (fun _ ih t => T.casesOn t none (fun _ _ r => ih r)) p t

theorem getPF_eq {α : Type} : ∀ (p : Pa) (t : T α), getPF t p = t.getP p
  | .e, .leaf => rfl
  | .e, .node _ _ _ => rfl
  | .l _, .leaf => rfl
  | .l p, .node l _ _ => getPF_eq p l
  | .r _, .leaf => rfl
  | .r p, .node _ _ r => getPF_eq p r

noncomputable def setPF {α : Type} (t : T α) (p : Pa) (x : α) : T α :=
  Pa.rec (motive := fun _ => T α → T α) (fun t => T.casesOn t (.node .leaf (some x) .leaf) (fun l _ r => .node l (some x) r))
    (fun _ ih t => T.casesOn t (.node (ih .leaf) none .leaf) (fun l v r => .node (ih l) v r))
    (fun _ ih t => T.casesOn t (.node .leaf none (ih .leaf)) (fun l v r => .node l v (ih r))) p t

theorem setPF_eq {α : Type} (x : α) : ∀ (p : Pa) (t : T α), setPF t p x = t.setP p x
  | .e, .leaf => rfl
  | .e, .node _ _ _ => rfl
  | .l p, .leaf => by show T.node (setPF .leaf p x) none .leaf = _; rw [setPF_eq x p]; rfl
  | .l p, .node l v r => by show T.node (setPF l p x) v r = _; rw [setPF_eq x p]; rfl
  | .r p, .leaf => by show T.node .leaf none (setPF .leaf p x) = _; rw [setPF_eq x p]; rfl
  | .r p, .node l v r => by show T.node l v (setPF r p x) = _; rw [setPF_eq x p]; rfl

noncomputable def getF {α : Type} (t : T α) (n : Nat) : Option α :=
  T.rec (motive := fun _ => Nat → Option α) (fun _ => none)
    (fun _ v _ il ir n => Nat.casesOn n v (fun k => Bool.casesOn (Nat.beq (k % 2) 0) (ir (k / 2)) (il (k / 2)))) t n

theorem getF_eq {α : Type} : ∀ (t : T α) (n : Nat), getF t n = t.get n
  | .leaf, _ => rfl
  | .node _ _ _, 0 => rfl
  | .node l v r, k + 1 => by
    have h1 := getF_eq l (k / 2)
    have h2 := getF_eq r (k / 2)
    show (Bool.casesOn (Nat.beq (k % 2) 0) (getF r (k / 2)) (getF l (k / 2)) : Option α) = _
    rw [h1, h2]
    simp only [T.get]
    generalize l.get (k / 2) = x
    generalize r.get (k / 2) = y
    cases Nat.beq (k % 2) 0 <;> rfl

noncomputable def HgetF (h : H) (i : Nat) : Option AObj := H.casesOn h (fun _ _ t => getF t i)
theorem HgetF_eq (h : H) (i : Nat) : HgetF h i = h.get i := by cases h; exact getF_eq _ _

noncomputable def CO.evF (e : Env) (c : CO) : Option Value := CO.casesOn c (fun p => getPF e p) (fun v => some v)
theorem coEvF_eq (e : Env) (c : CO) : CO.evF e c = c.ev e := by
  cases c with
  | t p => exact getPF_eq p e
  | c v => rfl

noncomputable def evsCons (v : Option Value) (r : Option (List Value)) : Option (List Value) := Option.casesOn v none (fun v => Option.casesOn r none (fun r => some (v :: r)))
noncomputable def CO.evsF (e : Env) (l : List CO) : Option (List Value) := List.rec (some []) (fun c _ ih => evsCons (CO.evF e c) ih) l
theorem coEvsF_eq (e : Env) : ∀ l : List CO, CO.evsF e l = CO.evs e l
  | [] => rfl
  | c :: l => by
    show evsCons (CO.evF e c) (CO.evsF e l) = _
    rw [coEvsF_eq e l, coEvF_eq]
    simp only [CO.evs]
    unfold evsCons
    cases c.ev e with
    | none => rfl
    | some v =>
      generalize CO.evs e l = r
      cases r <;> rfl

noncomputable def poF_mv (e : Env) (x : CO) : Option Value :=
  CO.evF e x
noncomputable def poF_pick (e : Env) (c : CO) (a : CO) (b : CO) : Option Value :=
  match CO.evF e c with
    | some (.bool true) => CO.evF e a
    | some (.bool false) => CO.evF e b
    | _ => none
noncomputable def poF_bld (e : Env) (z : List Value) (parts : List (Nat × Nat × CO)) : Option Value :=
  match partsE e parts with
    | none => none
    | some l => match fillE z l with
      | none => none
      | some cs => some (.agg ⟨cs⟩)
noncomputable def poF_nck (e : Env) (x : CO) : Option Value :=
  match CO.evF e x with
    | some (.pointer (some a)) => some (.pointer (some a))
    | some (.func (.func f) a b) => some (.func (.func f) a b)
    | _ => none
noncomputable def poF_bin (e : Env) (kd : Kd) (op : BinOp) (x : CO) (y : CO) : Option Value :=
  match CO.evF e x, CO.evF e y with
    | some a, some b => binE kd op a b
    | _, _ => none
noncomputable def poF_eqA (e : Env) (ks : List Nat) (neg : Bool) (x : CO) (y : CO) : Option Value :=
  match CO.evF e x, CO.evF e y with
    | some (.agg a), some (.agg b) => match fitAll ks a.toList, cellsEq a.toList b.toList with
      | true, some r => some (.bool (match neg with | true => !r | false => r))
      | _, _ => none
    | _, _ => none
noncomputable def poF_un (e : Env) (op : UnOp) (x : CO) : Option Value :=
  match CO.evF e x with
    | some a => unE op a
    | none => none
noncomputable def poF_conv (e : Env) (k : IntKind) (x : CO) : Option Value :=
  match CO.evF e x with
    | some (.int _ n) => some (.int k (wrapQ k n))
    | _ => none
noncomputable def poF_cstr (e : Env) (x : CO) : Option Value :=
  match CO.evF e x with
    | some (.string s) => some (.string s)
    | _ => none
noncomputable def poF_mkf (e : Env) (fn : FuncId) (first : List CO) (captured : List CO) : Option Value :=
  match CO.evsF e first, CO.evsF e captured with
    | some a, some b => some (.func (.func fn) ⟨a⟩ ⟨b⟩)
    | _, _ => none
noncomputable def poF_slS (e : Env) (x : CO) (lo : Option CO) (hi : Option CO) : Option Value :=
  match CO.evF e x with
    | some (.string s) => match boundE e 0 lo, boundE e (len8 (sl s) 0) hi with
      | some l, some h => match Nat.ble l h, Nat.ble h (len8 (sl s) 0) with
        | true, true => some (strOf (((sl s).drop l).take (h - l)))
        | _, _ => none
      | _, _ => none
    | _ => none
noncomputable def poF_slA (e : Env) (n : Nat) (es : Nat) (x : CO) (lo : Option CO) (hi : Option CO) : Option Value :=
  match CO.evF e x with
    | some (.pointer (some ⟨b, o, none⟩)) => match boundE e 0 lo, boundE e n hi with
      | some l, some h => match Nat.ble l h, Nat.ble h n with
        | true, true => some (.slice (some ⟨b, o + l * es, none⟩) (h - l) (2 * (n - l) + 1))
        | _, _ => none
      | _, _ => none
    | _ => none
noncomputable def poF_fa (e : Env) (off : Nat) (x : CO) : Option Value :=
  match CO.evF e x with
    | some (.pointer (some ⟨b, o, none⟩)) => some (.pointer (some ⟨b, o + off, none⟩))
    | _ => none
noncomputable def poF_fld (e : Env) (off : Nat) (n : Nat) (agg : Bool) (x : CO) : Option Value :=
  match CO.evF e x with
    | some (.agg cs) => match agg with
      | true => match Nat.ble (off + n) (lenN cs.toList 0) with
        | true => some (.agg ⟨(cs.toList.drop off).take n⟩)
        | false => none
      | false => nth cs.toList off
    | _ => none
noncomputable def poF_iaL (e : Env) (es : Nat) (x : CO) (i : CO) : Option Value :=
  match CO.evF e x, CO.evF e i with
    | some (.slice (some ⟨b, o, none⟩) len _), some (.int _ (.ofNat j)) => match Nat.ble (j + 1) len with
      | true => some (.pointer (some ⟨b, o + j * es, none⟩))
      | false => none
    | _, _ => none
noncomputable def poF_iaA (e : Env) (n : Nat) (es : Nat) (x : CO) (i : CO) : Option Value :=
  match CO.evF e x, CO.evF e i with
    | some (.pointer (some ⟨b, o, none⟩)), some (.int _ (.ofNat j)) => match Nat.ble (j + 1) n with
      | true => some (.pointer (some ⟨b, o + j * es, none⟩))
      | false => none
    | _, _ => none
noncomputable def poF_ixA (e : Env) (n : Nat) (es : Nat) (agg : Bool) (x : CO) (i : CO) : Option Value :=
  match CO.evF e x, CO.evF e i with
    | some (.agg cs), some (.int _ (.ofNat j)) => match Nat.ble (j + 1) n with
      | true => match agg with
        | true => match Nat.ble (j * es + es) (lenN cs.toList 0) with
          | true => some (.agg ⟨(cs.toList.drop (j * es)).take es⟩)
          | false => none
        | false => nth cs.toList (j * es)
      | false => none
    | _, _ => none
noncomputable def poF_ixS (e : Env) (x : CO) (i : CO) : Option Value :=
  match CO.evF e x, CO.evF e i with
    | some (.string s), some (.int _ (.ofNat j)) => match (sl s)[j]? with
      | some b => some (.int .u8 (.ofNat b.toNat))
      | none => none
    | _, _ => none
noncomputable def poF_ext (e : Env) (i : Nat) (x : CO) : Option Value :=
  match CO.evF e x with
    | some (.tuple vs) => nth vs.toList i
    | _ => none
noncomputable def poF_lenP (e : Env) (str : Bool) (x : CO) : Option Value :=
  match CO.evF e x with
    | some v => match str with
      | true => match v with
        | .string s => some (.int .i64 (.ofNat (len8 (sl s) 0)))
        | _ => none
      | false => match v with
        | .slice _ n _ => some (.int .i64 (.ofNat n))
        | _ => none
    | none => none
noncomputable def poF_mm (e : Env) (mx : Bool) (x : CO) (y : CO) : Option Value :=
  match CO.evF e x, CO.evF e y with
    | some (.int k a), some (.int _ b) => match mx with
      | true => some (.int k (match ltI a b with | true => b | false => a))
      | false => some (.int k (match ltI b a with | true => b | false => a))
    | _, _ => none
noncomputable def PO.evF (e : Env) (o : PO) : Option Value :=
  match o with
  | .mv x => poF_mv e x
  | .pick c a b => poF_pick e c a b
  | .bld z parts => poF_bld e z parts
  | .nck x => poF_nck e x
  | .bin kd op x y => poF_bin e kd op x y
  | .eqA ks neg x y => poF_eqA e ks neg x y
  | .un op x => poF_un e op x
  | .conv k x => poF_conv e k x
  | .cstr x => poF_cstr e x
  | .mkf fn first captured => poF_mkf e fn first captured
  | .slS x lo hi => poF_slS e x lo hi
  | .slA n es x lo hi => poF_slA e n es x lo hi
  | .fa off x => poF_fa e off x
  | .fld off n agg x => poF_fld e off n agg x
  | .iaL es x i => poF_iaL e es x i
  | .iaA n es x i => poF_iaA e n es x i
  | .ixA n es agg x i => poF_ixA e n es agg x i
  | .ixS x i => poF_ixS e x i
  | .ext i x => poF_ext e i x
  | .lenP str x => poF_lenP e str x
  | .mm mx x y => poF_mm e mx x y
theorem PO.evF_eq (e : Env) (o : PO) : PO.evF e o = PO.ev e o := by
  cases o <;> simp only [PO.evF, PO.ev, poF_mv, poF_pick, poF_bld, poF_nck, poF_bin, poF_eqA, poF_un, poF_conv, poF_cstr, poF_mkf, poF_slS, poF_slA, poF_fa, poF_fld, poF_iaL, poF_iaA, poF_ixA, poF_ixS, poF_ext, poF_lenP, poF_mm, coEvF_eq, coEvsF_eq] <;> rfl

noncomputable def roF_ld (e : Env) (h : H) (n : Nat) (agg : Bool) (x : CO) : Option Value :=
  match CO.evF e x with
    | some v => loadE h n agg v
    | none => none
noncomputable def roF_slL (e : Env) (h : H) (es : Nat) (x : CO) (lo : Option CO) (hi : Option CO) (mx : Option CO) : Option Value :=
  match CO.evF e x with
    | some v => match lenOfV v with
      | none => none
      | some n => match boundE e 0 lo, boundE e n hi with
        | some l, some r => match mx with
          | none => match sureE h es r v with
            | some s => sliceE es v s l r none
            | none => none
          | some m => match boundE e 0 (some m) with
            | some m => match sureE h es m v with
              | some s => sliceE es v s l r (some m)
              | none => none
            | none => none
        | _, _ => none
    | none => none
noncomputable def roF_look (e : Env) (h : H) (z : Value) (ok : Bool) (kn : Ky) (m : CO) (k : CO) : Option Value :=
  match CO.evF e m, CO.evF e k with
    | some mv, some kv => match keyOk kn kv with
      | false => none
      | true => match searchE h mv kv with
        | none => none
        | some q => some (lookRes ok z q)
    | _, _ => none
noncomputable def roF_lenM (e : Env) (h : H) (m : CO) : Option Value :=
  match CO.evF e m with
    | some (.map none) => some (.int .i64 0)
    | some (.map (some r)) => match HgetF h r with
      | some (.map es _) => some (.int .i64 (.ofNat es.length))
      | _ => none
    | _ => none
noncomputable def roF_b2s (e : Env) (h : H) (x : CO) : Option Value :=
  match CO.evF e x with
    | some (.slice a n c) => match elemsE h 1 n (.slice a n c) with
      | some l => match bytesOf l with
        | some b => some (strOf b)
        | none => none
      | none => none
    | _ => none
noncomputable def roF_ent (e : Env) (h : H) (it : CO) : Option Value :=
  match CO.evF e it with
    | some (.pointer (some ⟨r, 0, none⟩)) => match HgetF h r with
      | some (.miter (some m) _ seen stepped) => match seen.getLast?, HgetF h m with
        | some stamp, some (.map es clock) => match Nat.beq clock stepped with
          | true => match es.find? (fun e => Nat.beq e.2.2 stamp) with
            | some (k, v, _) => some (.tuple ⟨[k, v]⟩)
            | none => none
          | false => none
        | _, _ => none
      | _ => none
    | _ => none
noncomputable def RO.evF (e : Env) (h : H) (o : RO) : Option Value :=
  match o with
  | .ld n agg x => roF_ld e h n agg x
  | .slL es x lo hi mx => roF_slL e h es x lo hi mx
  | .look z ok kn m k => roF_look e h z ok kn m k
  | .lenM m => roF_lenM e h m
  | .b2s x => roF_b2s e h x
  | .ent it => roF_ent e h it
theorem RO.evF_eq (e : Env) (h : H) (o : RO) : RO.evF e h o = RO.ev e h o := by
  cases o <;> simp only [RO.evF, RO.ev, roF_ld, roF_slL, roF_look, roF_lenM, roF_b2s, roF_ent, coEvF_eq, HgetF_eq] <;> rfl

noncomputable def aoF_alc (e : Env) (id : Nat) (z : List Value) : Option (AObj × Value) :=
  some (.cells z true, .pointer (some ⟨id, 0, none⟩))
noncomputable def aoF_box (e : Env) (id : Nat) (n : Nat) (x : CO) : Option (AObj × Value) :=
  match CO.evF e x with
    | some v => match Nat.beq (lenN (cellsOf v) 0) n with
      | true => some (.cells (cellsOf v) true, .pointer (some ⟨id, 0, none⟩))
      | false => none
    | none => none
noncomputable def aoF_bsl (e : Env) (id : Nat) (es : Nat) (len : Nat) (z : List Value) (parts : List (Nat × Nat × CO)) : Option (AObj × Value) :=
  match partsE e parts with
    | none => none
    | some l => match fillE (repN len z) l with
      | none => none
      | some cs => match Nat.beq (lenN cs 0) (len * es) with
        | true => some (.cells cs true, .slice (some ⟨id, 0, none⟩) len (2 * len + 1))
        | false => none
noncomputable def aoF_mkm (e : Env) (id : Nat)  : Option (AObj × Value) :=
  some (.map [] 0, .map (some id))
noncomputable def aoF_mks (e : Env) (id : Nat) (es : Nat) (bytes : Nat) (z : List Value) (l : CO) (c : CO) : Option (AObj × Value) :=
  match CO.evF e l, CO.evF e c with
    | some (.int .i64 (.ofNat l)), some (.int .i64 (.ofNat c)) => match Nat.ble l c, Nat.ble c 1000000, Nat.ble bytes 100000 with
      | true, true, true => match Nat.beq (lenN z 0) es with
        | true => some (.cells (repN c z) true, .slice (some ⟨id, 0, none⟩) l (2 * c + 1))
        | false => none
      | _, _, _ => none
    | _, _ => none
noncomputable def aoF_s2b (e : Env) (id : Nat) (x : CO) : Option (AObj × Value) :=
  match CO.evF e x with
    | some (.string s) => some (.cells ((sl s).map fun b => .int .u8 (.ofNat b.toNat)) true, .slice (some ⟨id, 0, none⟩) (len8 (sl s) 0) 2)
    | _ => none
noncomputable def aoF_rgS (e : Env) (id : Nat) (x : CO) : Option (AObj × Value) :=
  match CO.evF e x with
    | some (.string s) => some (.siter s 0, .pointer (some ⟨id, 0, none⟩))
    | _ => none
noncomputable def AO.evF (e : Env) (id : Nat) (o : AO) : Option (AObj × Value) :=
  match o with
  | .alc z => aoF_alc e id z
  | .box n x => aoF_box e id n x
  | .bsl es len z parts => aoF_bsl e id es len z parts
  | .mkm  => aoF_mkm e id 
  | .mks es bytes z l c => aoF_mks e id es bytes z l c
  | .s2b x => aoF_s2b e id x
  | .rgS x => aoF_rgS e id x
theorem AO.evF_eq (e : Env) (id : Nat) (o : AO) : AO.evF e id o = AO.ev e id o := by
  cases o <;> simp only [AO.evF, AO.ev, aoF_alc, aoF_box, aoF_bsl, aoF_mkm, aoF_mks, aoF_s2b, aoF_rgS, coEvF_eq] <;> rfl

noncomputable def woF_st (e : Env) (h : H) (n : Nat) (a : CO) (x : CO) : Option (Value × H) :=
  match CO.evF e a, CO.evF e x with
    | some (.pointer (some ⟨b, o, none⟩)), some v => match Nat.beq (lenN (cellsOf v) 0) n with
      | true => match storeE h b o (cellsOf v) with
        | some h' => some (undefV, h')
        | none => none
      | false => none
    | _, _ => none
noncomputable def woF_mup (e : Env) (h : H) (kn : Ky) (m : CO) (k : CO) (v : CO) : Option (Value × H) :=
  match CO.evF e m, CO.evF e k, CO.evF e v with
    | some (.map (some r)), some kv, some v => match keyOk kn kv, HgetF h r with
      | true, some (.map es clock) => match findE kv es 0 with
        | none => none
        | some (some (i, _)) => match h.put r (some (.map (setVal es i v) clock)) with
          | some h' => some (undefV, h')
          | none => none
        | some none => match h.put r (some (.map (es ++ [(kv, v, clock)]) (clock + 1))) with
          | some h' => some (undefV, h')
          | none => none
      | _, _ => none
    | _, _, _ => none
noncomputable def woF_men (e : Env) (h : H) (z : Value) (kn : Ky) (m : CO) (k : CO) : Option (Value × H) :=
  match CO.evF e m, CO.evF e k with
    | some (.map (some r)), some kv => match keyOk kn kv, HgetF h r with
      | true, some (.map es clock) => match findE kv es 0 with
        | none => none
        | some (some (i, v)) => match bornAt es i with
          | some (b, _) => match h.put r (some (.map es clock)) with
            | some h' => some (.tuple ⟨[v, .int .i64 (.ofNat b)]⟩, h')
            | none => none
          | none => none
        | some none => match h.put r (some (.map (es ++ [(kv, z, clock)]) (clock + 1))) with
          | some h' => some (.tuple ⟨[z, .int .i64 (.ofNat clock)]⟩, h')
          | none => none
      | _, _ => none
    | _, _ => none
noncomputable def woF_est (e : Env) (h : H) (m : CO) (s : CO) (v : CO) : Option (Value × H) :=
  match CO.evF e m, CO.evF e s, CO.evF e v with
    | some (.map (some r)), some (.int _ s), some v => match HgetF h r with
      | some (.map es clock) => match setBorn es s v with
        | some es' => match h.put r (some (.map es' clock)) with
          | some h' => some (undefV, h')
          | none => none
        | none => none
      | _ => none
    | _, _, _ => none
noncomputable def woF_del (e : Env) (h : H) (kn : Ky) (m : CO) (k : CO) : Option (Value × H) :=
  match CO.evF e m, CO.evF e k with
    | some (.map none), some kv => match keyOk kn kv with
      | true => some (undefV, h)
      | false => none
    | some (.map (some r)), some kv => match keyOk kn kv, HgetF h r with
      | true, some (.map es clock) => match findE kv es 0 with
        | none => none
        | some (some (i, _)) => match h.put r (some (.map (delAt es i) clock)) with
          | some h' => some (undefV, h')
          | none => none
        | some none => some (undefV, h)
      | _, _ => none
    | _, _ => none
noncomputable def woF_cpy (e : Env) (h : H) (es : Nat) (d : CO) (s : CO) : Option (Value × H) :=
  match CO.evF e d, CO.evF e s with
    | some dv, some sv => match dv, lenOfV sv with
      | .slice none 0 0, some _ => some (.int .i64 0, h)
      | .slice (some ⟨b, o, none⟩) len _, some n => match elemsE h es (min n len) sv with
        | none => none
        | some xs => match xs with
          | [] => some (.int .i64 (.ofNat (min n len)), h)
          | _ => match storeE h b o xs with
            | some h' => some (.int .i64 (.ofNat (min n len)), h')
            | none => none
      | _, _ => none
    | _, _ => none
noncomputable def woF_app (e : Env) (h : H) (es : Nat) (bytes : Nat) (s : CO) (x : CO) : Option (Value × H) :=
  match CO.evF e s, CO.evF e x with
    | some s, some x => appE h es bytes s x
    | _, _ => none
noncomputable def woF_rgM (e : Env) (h : H) (x : CO) : Option (Value × H) :=
  match CO.evF e x with
    | some (.map none) => match h.new (.miter none 0 [] 0) with
      | some (h', id) => some (.pointer (some ⟨id, 0, none⟩), h')
      | none => none
    | some (.map (some r)) => match HgetF h r with
      | some (.map _ clock) => match h.new (.miter (some r) clock [] clock) with
        | some (h', id) => some (.pointer (some ⟨id, 0, none⟩), h')
        | none => none
      | _ => none
    | _ => none
noncomputable def woF_nxS (e : Env) (h : H) (it : CO) : Option (Value × H) :=
  match CO.evF e it with
    | some (.pointer (some ⟨r, 0, none⟩)) => match HgetF h r with
      | some (.siter s pos) => match Nat.ble (pos + 1) (len8 (sl s) 0) with
        | true => match (sl s)[pos]? with
          | some b => match Nat.ble (b.toNat + 1) 128 with
            | true => match h.put r (some (.siter s (pos + 1))) with
              | some h' => some (.tuple ⟨[.bool true, .int .i64 (.ofNat pos), .int .i32 (.ofNat b.toNat)]⟩, h')
              | none => none
            | false => none
          | none => none
        | false => some (.tuple ⟨[.bool false]⟩, h)
      | _ => none
    | _ => none
noncomputable def woF_mrk (e : Env) (h : H) (x : CO) : Option (Value × H) :=
  match CO.evF e x with
    | some (.slice (some ⟨b, o, none⟩) len cc) => match Nat.ble 1 len, HgetF h b with
      | true, some (.cells _ true) => some (.slice (some ⟨b, o, none⟩) len cc, h)
      | _, _ => none
    | _ => none
noncomputable def woF_clr (e : Env) (h : H) (es : Nat) (z : List Value) (x : CO) : Option (Value × H) :=
  match CO.evF e x with
    | some (.slice none 0 0) => some (undefV, h)
    | some (.slice (some ⟨b, o, none⟩) len _) => match len with
      | 0 => some (undefV, h)
      | _ => match Nat.beq (lenN z 0) es with
        | true => match storeE h b o (repN len z) with
          | some h' => some (undefV, h')
          | none => none
        | false => none
    | _ => none
noncomputable def WO.evF (e : Env) (h : H) (o : WO) : Option (Value × H) :=
  match o with
  | .st n a x => woF_st e h n a x
  | .mup kn m k v => woF_mup e h kn m k v
  | .men z kn m k => woF_men e h z kn m k
  | .est m s v => woF_est e h m s v
  | .del kn m k => woF_del e h kn m k
  | .cpy es d s => woF_cpy e h es d s
  | .app es bytes s x => woF_app e h es bytes s x
  | .rgM x => woF_rgM e h x
  | .nxS it => woF_nxS e h it
  | .mrk x => woF_mrk e h x
  | .clr es z x => woF_clr e h es z x
theorem WO.evF_eq (e : Env) (h : H) (o : WO) : WO.evF e h o = WO.ev e h o := by
  cases o <;> simp only [WO.evF, WO.ev, woF_st, woF_mup, woF_men, woF_est, woF_del, woF_cpy, woF_app, woF_rgM, woF_nxS, woF_mrk, woF_clr, coEvF_eq, HgetF_eq] <;> rfl

end Am
end Go.Proofs.YtbfbaofhnnnohaaGreatDoor

/- The abstract machine, part 39: the fast copy of the runs. -/
namespace Go.Proofs.YtbfbaofhnnnohaaGreatDoor
namespace Am

noncomputable def bindF {α β : Type} (o : Out α) (f : α → Out β) : Out β := Out.rec (motive := fun _ => Out β) f .fail (fun n _ ih => .pick n ih) o

theorem bindF_eq {α β : Type} (f : α → Out β) : ∀ o : Out α, bindF o f = o.bind f
  | .ret _ => rfl
  | .fail => rfl
  | .pick n k => by
    show Out.pick n (fun i => bindF (k i) f) = Out.pick n (fun i => (k i).bind f)
    congr 1; funext i; exact bindF_eq f (k i)

noncomputable def ofV (v : Option Value) (h : H) : Out (Value × H) := Option.casesOn v .fail (fun v => .ret (v, h))
noncomputable def ofN (r : Option (H × Nat)) (v : Value) : Out (Value × H) := Option.casesOn r .fail (fun r => Prod.casesOn r (fun h _ => .ret (v, h)))
noncomputable def ofA (r : Option (AObj × Value)) (h : H) : Out (Value × H) := Option.casesOn r .fail (fun r => Prod.casesOn r (fun ob v => ofN (h.new ob) v))
noncomputable def ofW (r : Option (Value × H)) : Out (Value × H) := Option.casesOn r .fail (fun r => .ret r)
noncomputable def ofNx (v : Option Value) (h : H) : Out (Value × H) := Option.casesOn v .fail (fun v => nextM h v)
noncomputable def ofC (call : CallF) (f : FuncId) (vs : Option (List Value)) (h : H) : Out (Value × H) := Option.casesOn vs .fail (fun vs => call f vs h)
noncomputable def ofCv (call : CallF) (f : Option Value) (vs : Option (List Value)) (h : H) : Out (Value × H) :=
  match f, vs with
  | some (.func (.func f) first captured), some vs => call f (first.toList ++ vs ++ captured.toList) h
  | _, _ => .fail

noncomputable def runCOpF (call : CallF) (e : Env) (h : H) (c : COp) : Out (Value × H) :=
  COp.casesOn c (fun o => ofV (PO.evF e o) h) (fun o => ofV (RO.evF e h o) h) (fun o => ofA (AO.evF e h.next o) h) (fun o => ofW (WO.evF e h o))
    (fun it => ofNx (CO.evF e it) h) (fun f as => ofC call f (CO.evsF e as) h) (fun f as => ofCv call (CO.evF e f) (CO.evsF e as) h)

theorem runCOpF_eq (call : CallF) (e : Env) (h : H) (c : COp) : runCOpF call e h c = runCOp call e h c := by
  cases c with
  | p o => show ofV (PO.evF e o) h = _; rw [PO.evF_eq]; simp only [runCOp]; cases PO.ev e o <;> rfl
  | r o => show ofV (RO.evF e h o) h = _; rw [RO.evF_eq]; simp only [runCOp]; cases RO.ev e h o <;> rfl
  | a o =>
    show ofA (AO.evF e h.next o) h = _
    rw [AO.evF_eq]; simp only [runCOp]
    cases AO.ev e h.next o with
    | none => rfl
    | some r =>
      obtain ⟨ob, v⟩ := r
      show ofN (h.new ob) v = _
      simp only
      cases h.new ob with
      | none => rfl
      | some r => rfl
  | w o => show ofW (WO.evF e h o) = _; rw [WO.evF_eq]; simp only [runCOp]; cases WO.ev e h o <;> rfl
  | nxM it => show ofNx (CO.evF e it) h = _; rw [coEvF_eq]; simp only [runCOp]; cases it.ev e <;> rfl
  | call f as => show ofC call f (CO.evsF e as) h = _; rw [coEvsF_eq]; simp only [runCOp]; cases CO.evs e as <;> rfl
  | callv f as => show ofCv call (CO.evF e f) (CO.evsF e as) h = _; rw [coEvF_eq, coEvsF_eq]; rfl

noncomputable def putDstF (e : Env) (d : Option Pa) (v : Value) : Env := Option.casesOn d e (fun p => setPF e p v)
theorem putDstF_eq (e : Env) (d : Option Pa) (v : Value) : putDstF e d v = putDst e d v := by
  cases d with
  | none => rfl
  | some p => exact setPF_eq v p e

noncomputable def wantV (v : Option Value) (b : Bool) : Option Bool :=
  match v with
  | some (.bool x) => some (x == b)
  | some (.tuple _) => some false
  | _ => none
noncomputable def wantedF (e : Env) (g : Option (Pa × Bool)) : Option Bool := Option.casesOn g (some true) (fun g => Prod.casesOn g (fun p b => wantV (getPF e p) b))
theorem wantedF_eq (e : Env) (g : Option (Pa × Bool)) : wantedF e g = wantedE e g := by
  cases g with
  | none => rfl
  | some pb => obtain ⟨p, b⟩ := pb; show wantV (getPF e p) b = _; rw [getPF_eq]; rfl

noncomputable def putK (e : Env) (d : Option Pa) (r : Value × H) : Out St := Prod.casesOn r (fun v h => .ret ⟨putDstF e d v, h⟩)
noncomputable def operK (call : CallF) (e : Env) (h : H) (d : Option Pa) (c : COp) (w : Option Bool) : Out St :=
  Option.casesOn w .fail (fun b => Bool.casesOn b (.ret ⟨putDstF e d undefV, h⟩) (bindF (runCOpF call e h c) (putK e d)))
noncomputable def runCOperF (call : CallF) (o : COper) (s : St) : Out St :=
  COper.casesOn o (fun d g c => St.casesOn s (fun e h => operK call e h d c (wantedF e g)))

theorem runCOperF_eq (call : CallF) (o : COper) (s : St) : runCOperF call o s = runCOper call o s := by
  obtain ⟨d, g, c⟩ := o
  obtain ⟨e, h⟩ := s
  show operK call e h d c (wantedF e g) = _
  rw [wantedF_eq]
  simp only [runCOper]
  cases wantedE e g with
  | none => rfl
  | some b =>
    cases b with
    | false => show Out.ret _ = _; rw [putDstF_eq]
    | true =>
      show bindF (runCOpF call e h c) (putK e d) = _
      rw [bindF_eq, runCOpF_eq]
      congr 1
      funext r
      show Out.ret _ = _
      rw [putDstF_eq]

noncomputable def runCOpersF (call : CallF) (l : List COper) : St → Out St := List.rec (motive := fun _ => St → Out St) (fun s => .ret s) (fun o _ ih s => bindF (runCOperF call o s) ih) l
theorem runCOpersF_eq (call : CallF) : ∀ (l : List COper) (s : St), runCOpersF call l s = runCOpers call l s
  | [], _ => rfl
  | o :: l, s => by
    show bindF (runCOperF call o s) (runCOpersF call l) = _
    rw [bindF_eq, runCOperF_eq]
    simp only [runCOpers]
    congr 1
    funext s
    exact runCOpersF_eq call l s

noncomputable def snapK (e : Env) (h : H) (d : Option Pa) (c : COp) (r : Value × H) : Out (St × Snap) :=
  .ret (⟨putDstF e d r.1, { r.2 with low := min h.low r.2.low }⟩,
        { ran := true, wrote := !(Nat.ble h.next r.2.low), e := e, v := r.1, h0 := h, h1 := { r.2 with low := min h.low r.2.low }, op := c })
noncomputable def snapW (call : CallF) (e : Env) (h : H) (d : Option Pa) (c : COp) (w : Option Bool) : Out (St × Snap) :=
  Option.casesOn w .fail (fun b => Bool.casesOn b
    (.ret (⟨putDstF e d undefV, h⟩, { ran := false, wrote := false, e := e, v := undefV, h0 := h, h1 := h, op := c }))
    (bindF (runCOpF call e { h with low := h.next } c) (snapK e h d c)))
noncomputable def runSnapF (call : CallF) (o : COper) (s : St) : Out (St × Snap) :=
  COper.casesOn o (fun d g c => St.casesOn s (fun e h => snapW call e h d c (wantedF e g)))

theorem runSnapF_eq (call : CallF) (o : COper) (s : St) : runSnapF call o s = runSnap call o s := by
  obtain ⟨d, g, c⟩ := o
  obtain ⟨e, h⟩ := s
  show snapW call e h d c (wantedF e g) = _
  rw [wantedF_eq]
  simp only [runSnap]
  cases wantedE e g with
  | none => rfl
  | some b =>
    cases b with
    | false => show Out.ret _ = _; rw [putDstF_eq]
    | true =>
      show bindF (runCOpF call e _ c) (snapK e h d c) = _
      rw [bindF_eq, runCOpF_eq]
      congr 1
      funext r
      show Out.ret _ = _
      rw [putDstF_eq]

noncomputable def dregK (pre : List Snap) (ps : List (List Nat)) (go : List (List Nat) → List Snap → St → Out St) (r : St × Snap) : Out St :=
  match ps with
  | [] => .fail
  | p :: ps => match pairsOk pre r.2 p with
    | true => go ps (pre ++ [r.2]) r.1
    | false => .fail

noncomputable def runDregF (call : CallF) (l : List COper) : List (List Nat) → List Snap → St → Out St :=
  List.rec (motive := fun _ => List (List Nat) → List Snap → St → Out St) (fun _ _ s => .ret s) (fun o _ ih ps pre s => bindF (runSnapF call o s) (dregK pre ps ih)) l

theorem runDregF_eq (call : CallF) : ∀ (l : List COper) (ps : List (List Nat)) (pre : List Snap) (s : St), runDregF call l ps pre s = runDreg call l ps pre s
  | [], _, _, _ => rfl
  | o :: l, ps, pre, s => by
    show bindF (runSnapF call o s) (dregK pre ps (runDregF call l)) = _
    rw [bindF_eq, runSnapF_eq]
    simp only [runDreg]
    congr 1
    funext r
    unfold dregK
    cases ps with
    | nil => rfl
    | cons p ps =>
      simp only
      cases pairsOk pre r.2 p with
      | true => exact runDregF_eq call l ps _ _
      | false => rfl

noncomputable def iterK (go : St → Out (Ex × St)) (r : Ex × St) : Out (Ex × St) :=
  match r with
  | (.normal, s) => go s
  | (e, s) => .ret (e, s)
noncomputable def iterF (f : St → Out (Ex × St)) (n : Nat) : St → Out (Ex × St) := Nat.rec (motive := fun _ => St → Out (Ex × St)) (fun _ => .fail) (fun _ ih s => bindF (f s) (iterK ih)) n
theorem iterF_eq {f g : St → Out (Ex × St)} (hfg : ∀ s, f s = g s) : ∀ (n : Nat) (s : St), iterF f n s = iterE g n s
  | 0, _ => rfl
  | n + 1, s => by
    show bindF (f s) (iterK (iterF f n)) = _
    rw [bindF_eq, hfg]
    simp only [iterE]
    congr 1
    funext r
    obtain ⟨x, s⟩ := r
    cases x with
    | normal => exact iterF_eq hfg n s
    | exit _ => rfl
    | ret => rfl

noncomputable def retN (s : St) : Out (Ex × St) := .ret (.normal, s)
noncomputable def condK (v : Option Value) (fa fb : St → Out (Ex × St)) (s : St) : Out (Ex × St) :=
  match v with
  | some (.bool true) => fa s
  | some (.bool false) => fb s
  | _ => .fail
noncomputable def blockK (id : Nat) (r : Ex × St) : Out (Ex × St) :=
  match r with
  | (.exit i, s) => match Nat.beq i id with
    | true => .ret (.normal, s)
    | false => .ret (.exit i, s)
  | (e, s) => .ret (e, s)

noncomputable def execF (call : CallF) (lf : Nat) (c : CCode) : St → Out (Ex × St) :=
  CCode.rec (motive := fun _ => St → Out (Ex × St))
    retN
    (fun ops s => bindF (runCOpersF call ops s) retN)
    (fun ops ps s => bindF (runDregF call ops ps [] s) retN)
    (fun _ _ fa fb s => bindF (fa s) (iterK fb))
    (fun c _ _ fa fb s => condK (CO.evF s.e c) fa fb s)
    (fun id _ fb s => bindF (fb s) (blockK id))
    (fun _ fb s => iterF fb lf s)
    (fun id s => .ret (.exit id, s))
    (fun _ fb s => fb s)
    (fun s => .ret (.ret, s))
    (fun _ => .fail) c

theorem execF_eq (call : CallF) (lf : Nat) : ∀ (c : CCode) (s : St), execF call lf c s = exec call lf c s
  | .skip, _ => rfl
  | .reg ops, s => by
    show bindF (runCOpersF call ops s) retN = _
    rw [bindF_eq, runCOpersF_eq]; rfl
  | .dreg ops ps, s => by
    show bindF (runDregF call ops ps [] s) retN = _
    rw [bindF_eq, runDregF_eq]; rfl
  | .seq a b, s => by
    show bindF (execF call lf a s) (iterK (execF call lf b)) = _
    rw [bindF_eq, execF_eq call lf a]
    simp only [exec]
    congr 1
    funext r
    obtain ⟨x, s⟩ := r
    cases x with
    | normal => exact execF_eq call lf b s
    | exit _ => rfl
    | ret => rfl
  | .cond c a b, s => by
    show condK (CO.evF s.e c) (execF call lf a) (execF call lf b) s = _
    rw [coEvF_eq]
    simp only [exec, condK, execF_eq call lf a, execF_eq call lf b]
    rfl
  | .block id b, s => by
    show bindF (execF call lf b s) (blockK id) = _
    rw [bindF_eq, execF_eq call lf b]
    simp only [exec]
    congr 1
    funext r
    obtain ⟨x, s⟩ := r
    cases x <;> rfl
  | .loop b, s => by
    show iterF (execF call lf b) lf s = _
    rw [iterF_eq (execF_eq call lf b)]
    rfl
  | .exit _, _ => rfl
  | .scope b, s => by
    show execF call lf b s = _
    rw [execF_eq call lf b]
    rfl
  | .ret, _ => rfl
  | .bad, _ => rfl

noncomputable def resK (res : List CRes) (r : Ex × St) : Out (Value × H) :=
  match r.1 with
  | .exit _ => .fail
  | _ => match resAll r.2.e r.2.h res with
    | some vs => .ret (oneOf vs, r.2.h)
    | none => .fail
noncomputable def fnK (call : CallF) (lf : Nat) (args : List Value) (h : H) (cf : Option CFunc) : Out (Value × H) :=
  Option.casesOn cf .fail (fun cf => CFunc.casesOn cf (fun res body => bindF (execF call lf body ⟨envOf args 0 .leaf, h⟩) (resK res)))
noncomputable def sumK (go : Option CFunc → Out (Value × H)) (prog : T CFunc) (f : FuncId) (args : List Value) (h : H) (g : Option (List Value → H → Option (Value × H))) : Out (Value × H) :=
  Option.casesOn g (go (getF prog f)) (fun g => Out.of (g args h))
noncomputable def callF (prog : T CFunc) (sums : Sums) (lf : Nat) (k : Nat) : CallF :=
  Nat.rec (motive := fun _ => CallF) (fun _ _ _ => .fail) (fun _ ih f args h => sumK (fnK ih lf args h) prog f args h (sums f)) k

theorem callF_eq (prog : T CFunc) (sums : Sums) (lf : Nat) : ∀ (k : Nat), callF prog sums lf k = callE prog sums lf k
  | 0 => rfl
  | k + 1 => by
    funext f args h
    show sumK (fnK (callF prog sums lf k) lf args h) prog f args h (sums f) = _
    rw [callF_eq prog sums lf k]
    simp only [callE]
    cases sums f with
    | some g => rfl
    | none =>
      show fnK (callE prog sums lf k) lf args h (getF prog f) = _
      rw [getF_eq]
      simp only
      cases prog.get f with
      | none => rfl
      | some cf =>
        show bindF (execF (callE prog sums lf k) lf cf.body ⟨envOf args 0 .leaf, h⟩) (resK cf.res) = _
        rw [bindF_eq, execF_eq]
        rfl

end Am
end Go.Proofs.YtbfbaofhnnnohaaGreatDoor

/- The abstract machine, part 40: a long run in pieces: between two pieces all that is not read any more is forgotten. -/
namespace Go.Proofs.YtbfbaofhnnnohaaGreatDoor
namespace Am
open Go.RowKit
variable {P : Program} {L0 : M} {ty : Ty} {n : Nat}

/-- The machine's own objects lie from a block on. -/
def OwnFrom (m : M) (h : H) (B : Nat) : Prop := ∀ i l, m i = some l → own h i → B ≤ l.blk

structure After (L0 : M) (n : Nat) (ds : List Deferred) (B : Nat) (w : World) (s : St) (m : M) (a' : Act) (w' : World) : Prop where
  rs : RS L0 m s n ds a' w'
  own : OwnFrom m s.h B
  old : Below B w w'

/-- From a state as S says the code comes to an end as T says. -/
def Piece (P : Program) (ty : Ty) (n : Nat) (L0 : M) (A : CCode) (S : St → Prop) (T : Ex × St → Prop) : Prop :=
  ∀ c, compCode ty n c = A → ∀ (ds : List Deferred) (s : St) (m : M) (a : Act) (w : World) (B : Nat) (Qx : Exit → Act → World → Prop), S s → RS L0 m s n ds a w → OwnFrom m s.h B → B ≤ w.heap.size →
    (∀ x s' m' a' w', T (x, s') → After L0 n ds B w s' m' a' w' → Qx (exOf x) a' w') → c.wp P Qx a w

theorem piece_run {call : CallF} (hT : TyOk P ty) (hm : P.follows .mixedOrders = true) (hcall : CallsAs P L0 call) (lf : Nat) {A : CCode} {S : St → Prop} {T : Ex × St → Prop}
    (h : ∀ s, S s → (exec call lf A s).Sat T) : Piece P ty n L0 A S T := by
  intro c hc ds s m a w B Qx hs hr ho hB hq
  subst hc
  refine exec_wp hT hcall (reg_as hT hm hcall n) lf c (m0 := m) (h0 := s.h) (w0 := w) hr ⟨Ext.refl _ _ _, SameW.refl w, hr.r.dom⟩ (h s hs) ?_
  intro x m' s' a' w' ht hr' hf'
  refine hq x s' m' a' w' ht ⟨hr', ?_, ⟨hf'.o.os, hf'.o.tape, hf'.o.output, hf'.x.size, ?_⟩⟩
  · intro i l hi hown
    rcases hf'.x.new i l hi with h1 | ⟨h1, h2⟩
    · exact ho i l h1 (hf'.x.ownd i (hr.r.dom i l h1) hown)
    · rcases hf'.x.blk i l hi h1 with h3 | ⟨j, k, h3, h4, h5⟩
      · omega
      · have := ho j k h3 h4; omega
  · intro b hb
    exact hf'.x.frame b (by omega) (fun j k hj hown => by have := ho j k hj hown; omega)

theorem comp_seq {c : Code} {A B : CCode} (h : compCode ty n c = .seq A B) : ∃ c1 c2, c = .seq c1 c2 ∧ compCode ty n c1 = A ∧ compCode ty n c2 = B := by
  cases c with
  | seq x y => simp only [compCode] at h; cases h; exact ⟨x, y, rfl, rfl, rfl⟩
  | region id ops d =>
    exfalso
    simp only [compCode, compReg, compDreg] at h
    repeat' split at h
    all_goals cases h
  | cond c x y =>
    exfalso
    simp only [compCode] at h
    repeat' split at h
    all_goals cases h
  | _ => simp only [compCode] at h; cases h

theorem piece_seq {A B' : CCode} {S S2 : St → Prop} {T1 T : Ex × St → Prop} (h1 : Piece P ty n L0 A S T1) (h2 : Piece P ty n L0 B' S2 T)
    (hn : ∀ s, T1 (.normal, s) → S2 s) (hx : ∀ x s, T1 (x, s) → x ≠ .normal → T (x, s)) : Piece P ty n L0 (.seq A B') S T := by
  intro c hc ds s m a w B Qx hs hr ho hB hq
  obtain ⟨c1, c2, rfl, g1, g2⟩ := comp_seq hc
  refine wp_seq (h1 c1 g1 ds s m a w B _ hs hr ho hB ?_)
  intro x s' m' a' w' ht hA
  cases x with
  | normal =>
    refine h2 c2 g2 ds s' m' a' w' B Qx (hn _ ht) hA.rs hA.own (Nat.le_trans hB hA.old.size) ?_
    intro x s2 m2 a2 w2 ht2 hA2
    exact hq x s2 m2 a2 w2 ht2 ⟨hA2.rs, hA2.own, hA.old.trans hA2.old⟩
  | exit id => exact hq (.exit id) s' m' a' w' (hx _ _ ht (by intro e; cases e)) hA
  | ret => exact hq .ret s' m' a' w' (hx _ _ ht (by intro e; cases e)) hA

/-- A state that says less. -/
structure Le (t s : St) : Prop where
  e : ∀ p v, t.e.getP p = some v → s.e.getP p = some v
  nx : t.h.next = s.h.next
  g : ∀ i o, t.h.get i = some o → s.h.get i = some o

theorem Le.own {t s : St} (h : Le t s) {i : Nat} (ho : own t.h i) : Am.own s.h i := let ⟨o, h1, h2⟩ := ho; ⟨o, h.g i o h1, h2⟩

theorem Le.rs {t s : St} (h : Le t s) {m : M} {ds : List Deferred} {a : Act} {w : World} (r : RS L0 m s n ds a w) : RS L0 m t n ds a w where
  e := fun p v hp => r.e p v (h.e p v hp)
  n := r.n
  r := {
    obj := fun i l o hm hg => r.r.obj i l o hm (h.g i o hg)
    bnd := r.r.bnd
    dom := fun i l hm => by rw [h.nx]; exact r.r.dom i l hm
    sep := fun i j l k hne hi hj ho hjo => r.r.sep i j l k hne hi hj (h.own ho) (let ⟨o, e⟩ := hjo; ⟨o, h.g j o e⟩) }
  l := r.l
  d := r.d

theorem piece_weak {A : CCode} {S : St → Prop} {T T' : Ex × St → Prop} (h : Piece P ty n L0 A S T) (hw : ∀ x s, T (x, s) → ∃ t, Le t s ∧ T' (x, t)) : Piece P ty n L0 A S T' := by
  intro c hc ds s m a w B Qx hs hr ho hB hq
  refine h c hc ds s m a w B Qx hs hr ho hB ?_
  intro x s' m' a' w' ht hA
  obtain ⟨t, hl, ht'⟩ := hw x s' ht
  exact hq x t m' a' w' ht' ⟨hl.rs hA.rs, fun i l hm hi => hA.own i l hm (hl.own hi), hA.old⟩

/-! ### what is kept -/

def keepE (e : Env) : List Pa → Env
  | [] => .leaf
  | p :: ps => match e.getP p with
    | some v => (keepE e ps).setP p v
    | none => keepE e ps

theorem keepE_le (e : Env) : ∀ (ps : List Pa) (p : Pa) (v : Value), (keepE e ps).getP p = some v → e.getP p = some v
  | [], p, v, h => by simp [keepE, T.getP] at h
  | q :: ps, p, v, h => by
    simp only [keepE] at h
    split at h
    · rename_i x hx
      by_cases hq : q = p
      · subst hq
        rw [T.getP_setP_same] at h
        cases h; exact hx
      · rw [T.getP_setP_other _ _ _ _ hq] at h
        exact keepE_le e ps p v h
    · exact keepE_le e ps p v h

def keepT (h : H) : List Nat → T AObj
  | [] => .leaf
  | i :: is => match Nat.ble i 1000000 with
    | true => (keepT h is).set depth i (h.get i)
    | false => keepT h is

theorem keepT_le (h : H) : ∀ (is : List Nat) (i : Nat) (o : AObj), (keepT h is).get i = some o → h.get i = some o
  | [], i, o, g => by simp [keepT, T.get] at g
  | j :: is, i, o, g => by
    simp only [keepT] at g
    split at g
    · rename_i hb
      have hle := Nat.le_of_ble_eq_true hb
      by_cases hj : j = i
      · subst hj
        rw [T.get_set_same _ _ _ _ (by have : 2 ^ depth = 1048576 := rfl; omega)] at g
        exact g
      · rw [T.get_set_other _ _ _ _ _ hj] at g
        exact keepT_le h is i o g
    · exact keepT_le h is i o g

def keep (ps : List Pa) (is : List Nat) (s : St) : St := ⟨keepE s.e ps, ⟨s.h.next, s.h.next, keepT s.h is⟩⟩

theorem keep_le (ps : List Pa) (is : List Nat) (s : St) : Le (keep ps is s) s where
  e := fun p v h => keepE_le s.e ps p v h
  nx := rfl
  g := fun i o h => keepT_le s.h is i o h

/-- All ends, each cut down. -/
def ends {α β : Type} (f : α → β) : Out α → List (Option β)
  | .ret a => [some (f a)]
  | .fail => [none]
  | .pick n k => (List.range n).flatMap fun i => ends f (k i)

theorem sat_of_ends {α β : Type} (f : α → β) : ∀ (o : Out α) {l : List (Option β)}, (∀ x ∈ ends f o, x ∈ l) → none ∉ l → o.Sat (fun a => some (f a) ∈ l)
  | .ret a, l, h, hn => h _ (by simp [ends])
  | .fail, l, h, hn => hn (h _ (by simp [ends]))
  | .pick n k, l, h, hn => fun i hi => sat_of_ends f (k i) (fun x hx => h x (by simp only [ends, List.mem_flatMap, List.mem_range]; exact ⟨i, hi, hx⟩)) hn

def keepX (ps : List Pa) (is : List Nat) (r : Ex × St) : Ex × St := (r.1, keep ps is r.2)

/-- A piece whose ends are known. -/
theorem piece_ends {prog : T CFunc} {sums : Sums} (hT : TyOk P ty) (hm : P.follows .mixedOrders = true) (hP : ∀ f cf, prog.get f = some cf → FnOk P ty f cf) (hS : SumsOk P L0 sums) {lf k : Nat} {A : CCode} {S : St → Prop}
    {ps : List Pa} {is : List Nat} {T : Ex × St → Prop} (h : ∀ s, S s → ∃ l, ends (keepX ps is) (execF (callF prog sums lf k) lf A s) = l ∧ none ∉ l ∧ ∀ r, some r ∈ l → T r) : Piece P ty n L0 A S T := by
  refine piece_weak (T := fun r => T (keepX ps is r)) (piece_run hT hm (calls_as hT hm hP hS lf k) lf ?_) (fun _ s ht => ⟨_, keep_le ps is s, ht⟩)
  intro s hs
  obtain ⟨l, h1, h2, h3⟩ := h s hs
  have := sat_of_ends (keepX ps is) (execF (callF prog sums lf k) lf A s) (l := l) (by rw [h1]; intro x hx; exact hx) h2
  rw [execF_eq, callF_eq] at this
  exact Out.Sat.mono (fun a ha => h3 _ ha) this

/-! ### many states -/

/-- From each of some states the piece comes to one of some states. -/
theorem piece_list {prog : T CFunc} {sums : Sums} (hT : TyOk P ty) (hm : P.follows .mixedOrders = true) (hP : ∀ f cf, prog.get f = some cf → FnOk P ty f cf) (hS : SumsOk P L0 sums) {lf k : Nat} {A : CCode} {l l2 : List St}
    {ps : List Pa} {is : List Nat} (h : ∀ s ∈ l, ∃ ls : List St, ends (keepX ps is) (execF (callF prog sums lf k) lf A s) = ls.map (fun t => some (Ex.normal, t)) ∧ ∀ t ∈ ls, t ∈ l2) :
    Piece P ty n L0 A (fun s => s ∈ l) (fun r => r.1 = .normal ∧ r.2 ∈ l2) :=
  piece_ends (lf := lf) (k := k) (ps := ps) (is := is) hT hm hP hS fun s hs => by
    obtain ⟨ls, h1, h2⟩ := h s hs
    refine ⟨_, h1, by simp, fun r hr => ?_⟩
    rw [List.mem_map] at hr
    obtain ⟨t, ht, he⟩ := hr
    cases he
    exact ⟨rfl, h2 t ht⟩

theorem seq_list {A B' : CCode} {l l2 : List St} {T : Ex × St → Prop} (h1 : Piece P ty n L0 A (fun s => s ∈ l) (fun r => r.1 = .normal ∧ r.2 ∈ l2)) (h2 : Piece P ty n L0 B' (fun s => s ∈ l2) T) :
    Piece P ty n L0 (.seq A B') (fun s => s ∈ l) T :=
  piece_seq h1 h2 (fun _ e => e.2) (fun _ _ e hx => absurd e.1 hx)

theorem piece_from {A : CCode} {S S' : St → Prop} {T : Ex × St → Prop} (h : Piece P ty n L0 A S T) (hs : ∀ s, S' s → S s) : Piece P ty n L0 A S' T :=
  fun c hc ds s m a w B Qx h1 => h c hc ds s m a w B Qx (hs s h1)

/-- A body has come to true. -/
def okR (res : List CRes) (r : Ex × St) : Bool :=
  match r.1 with
  | .exit _ => false
  | _ => match resAll r.2.e r.2.h res with
    | some [.bool true] => true
    | _ => false

theorem okR_fin {res : List CRes} : ∀ x s, okR res (x, s) = true → (∀ id, x ≠ .exit id) ∧ resAll s.e s.h res = some [.bool true] := by
  intro x s h
  unfold okR at h
  cases x with
  | exit id => cases h
  | normal =>
    refine ⟨(fun id e => by cases e), ?_⟩
    simp only at h
    split at h
    · assumption
    · cases h
  | ret =>
    refine ⟨(fun id e => by cases e), ?_⟩
    simp only at h
    split at h
    · assumption
    · cases h

theorem piece_all {prog : T CFunc} {sums : Sums} (hT : TyOk P ty) (hm : P.follows .mixedOrders = true) (hP : ∀ f cf, prog.get f = some cf → FnOk P ty f cf) (hS : SumsOk P L0 sums) {lf k : Nat} {A : CCode} {S : St → Prop} {res : List CRes}
    (h : ∀ s, S s → ((execF (callF prog sums lf k) lf A s).all (okR res)) = true) : Piece P ty n L0 A S (fun r => okR res r = true) :=
  piece_run hT hm (calls_as hT hm hP hS lf k) lf fun s hs => by
    have := Out.sat_of_all (h s hs)
    rw [execF_eq, callF_eq] at this
    exact this

/-- One state, one end. -/
theorem piece_one {prog : T CFunc} {sums : Sums} (hT : TyOk P ty) (hm : P.follows .mixedOrders = true) (hP : ∀ f cf, prog.get f = some cf → FnOk P ty f cf) (hS : SumsOk P L0 sums) {lf k : Nat} {A : CCode} {s : St}
    {ps : List Pa} {is : List Nat} {r : Ex × St} (h : ends (keepX ps is) (execF (callF prog sums lf k) lf A s) = [some r]) : Piece P ty n L0 A (fun s' => s' = s) (fun r' => r' = r) :=
  piece_ends (lf := lf) (k := k) (ps := ps) (is := is) hT hm hP hS fun s' e => ⟨[some r], by rw [e]; exact h, by simp, fun r' hr' => by simpa using hr'⟩

theorem seq_one {A B' : CCode} {s s2 : St} {T : Ex × St → Prop} (h1 : Piece P ty n L0 A (fun s' => s' = s) (fun r => r = (.normal, s2))) (h2 : Piece P ty n L0 B' (fun s' => s' = s2) T) :
    Piece P ty n L0 (.seq A B') (fun s' => s' = s) T :=
  piece_seq h1 h2 (fun s e => (Prod.mk.inj e).2) (fun x s e hx => absurd (Prod.mk.inj e).1 hx)

/-! ### a function's body in pieces -/

theorem body_calls {f : FuncId} {cf : CFunc} (hT : TyOk P ty) (hF : FnOk P ty f cf) {args : List Value} {h : H} {Q : Value × H → Prop} {U : Ex × St → Prop}
    (hp : ∀ fn, P.funcs[f]? = some fn → Piece P ty fn.ntmps L0 cf.body (fun s => s = ⟨envOf args 0 .leaf, h⟩) U)
    (hq : ∀ x s, U (x, s) → (∀ id, x ≠ .exit id) ∧ ∃ vs, resAll s.e s.h cf.res = some vs ∧ Q (oneOf vs, s.h)) {m : M} {w : World} {args' : List Value} {B : Nat}
    (hL : Sub L0 m) (R : Rel m h w.heap) (hr : VRels m args args') (hO : OwnFrom m h B) (hB : B ≤ w.heap.size) :
    Calls P f ⟨args'⟩ w fun e w' => ∃ v' v h' m', e = .returned v' ∧ Q (v, h') ∧ VRel m' v v' ∧ Rel m' h' w'.heap ∧ Below B w w' := by
  obtain ⟨⟨fn, hfn, hcomp⟩, _⟩ := hF
  have hp := hp fn hfn
  unfold compFn at hcomp
  split at hcomp
  · rename_i c rs hb hrs
    cases hcomp
    refine calls_of_wp hfn hb ?_
    have he0 : ERel m (envOf args 0 .leaf) (⟨args'⟩ ++ Array.replicate (fn.ntmps - args'.length) undef) := by
      have := envOf_rel (m := m) (l := args) (l' := args') (pre := []) (e := .leaf) (rest := Array.replicate (fn.ntmps - args'.length) undef) hr (fun p v g => by simp [T.getP] at g)
      simpa using this
    have hRS : RS L0 m ⟨envOf args 0 .leaf, h⟩ fn.ntmps [] { tmps := ⟨args'⟩ ++ Array.replicate (fn.ntmps - args'.length) undef, defers := [] } w :=
      ⟨he0, by simp; omega, R, hL, rfl⟩
    refine hp c rfl [] _ m _ w B _ rfl hRS hO hB ?_
    intro x s' m' a' w' ht hA
    obtain ⟨hx, vs, hvs, hQ⟩ := hq x s' ht
    obtain ⟨v', h1, h2⟩ := results_snd hT hA.rs.e hA.rs.r hrs hvs
    cases x with
    | exit id => exact absurd rfl (hx id)
    | normal => exact ⟨hA.rs.d, v', h1, v', _, _, m', rfl, hQ, h2, hA.rs.r, hA.old⟩
    | ret => exact ⟨hA.rs.d, v', h1, v', _, _, m', rfl, hQ, h2, hA.rs.r, hA.old⟩
  · cases hcomp

/-! ### a closed example that comes to true, by what it answers alone -/

def sumTrue (args : List Value) (h : H) : Option (Value × H) :=
  match args with
  | [] => match h.get 0 with
    | some (.cells [.int .i64 _] false) => some (.bool true, h)
    | _ => none
  | _ => none

/-- What is known of a closed example: where the library's own cell holds a number, it comes to true, and all that was there stays. -/
def TrueAt (P : Program) (f : FuncId) (g : Nat) : Prop :=
  ∀ (x : Int) (w : World), w.cell? ⟨g, 0, none⟩ = some (.int .i64 x) →
    Calls P f #[] w fun e w' => e = .returned (.bool true) ∧ Below w.heap.size w w'

theorem Rel.at_old {m : M} {h : H} {hp hp' : Array Obj} (R : Rel m h hp) (hs : hp.size ≤ hp'.size) (ho : ∀ b, b < hp.size → hp'[b]? = hp[b]?) : Rel m h hp' where
  obj := fun i l o hm hg => (R.obj i l o hm hg).at (ho _ (R.bnd i l hm))
  bnd := fun i l hm => Nat.lt_of_lt_of_le (R.bnd i l hm) hs
  dom := R.dom
  sep := R.sep

theorem sumTrue_ok {f : FuncId} {g : Nat} (hcall : ∀ args w, (callFunc f args).run P w = .ok (.enter f args) w) (ht : TrueAt P f g) :
    ∀ args h v h', sumTrue args h = some (v, h') → ∀ (m : M) (w : World) (args' : List Value), Sub (cellAt g) m → Rel m h w.heap → VRels m args args' →
      CallUpon P f ⟨args'⟩ w (Ends m h w (fun r => r = (v, h'))) := by
  intro args h v h' hs m w args' hL R hr
  unfold sumTrue at hs
  split at hs
  · split at hs
    · rename_i x hg
      cases hs
      cases hr
      have hm : m 0 = some ⟨g, 0, 1⟩ := hL 0 _ (by simp [cellAt])
      obtain ⟨cs, e, fz, k1, k2, k3, k4⟩ := R.obj 0 _ _ hm hg
      obtain ⟨v', k5, k6⟩ := k4 0 _ rfl
      have hv : v' = .int .i64 x := by cases k6; rfl
      subst hv
      have hc : w.cell? ⟨g, 0, none⟩ = some (.int .i64 x) := by
        unfold World.cell?
        simp only at k1 k5
        rw [k1]
        simpa using k5
      unfold CallUpon
      rw [hcall]
      simp only
      refine Calls.mono (ht x w hc) fun e w' he => ?_
      obtain ⟨rfl, hb⟩ := he
      have h1 := hb.size
      have h2 := hb.block
      refine ⟨.bool true, h, m, rfl, .same rfl, R.at_old h1 h2, ?_⟩
      exact ⟨{
        sub := Sub.refl m
        nxt := Nat.le_refl _
        new := fun i l e => .inl e
        blk := fun i l e g => by rw [g] at e; cases e
        size := h1
        frame := fun b hb _ => h2 b hb
        ownd := fun _ _ h => h
        low := Nat.le_refl _
        kept := fun _ _ _ => rfl }, ⟨hb.os, hb.tape, hb.output⟩⟩
    · cases hs
  · cases hs

/-- The closed example out of its pieces. -/
theorem true_at {f : FuncId} {cf : CFunc} {g : Nat} (hT : TyOk P ty) (hF : FnOk P ty f cf) {U : Ex × St → Prop}
    (hp : ∀ (x : Int) fn, P.funcs[f]? = some fn → Piece P ty fn.ntmps (cellAt g) cf.body (fun s => s = ⟨.leaf, start x⟩) U)
    (hq : ∀ x s, U (x, s) → (∀ id, x ≠ .exit id) ∧ resAll s.e s.h cf.res = some [.bool true]) : TrueAt P f g := by
  intro x w hw
  have R := start_rel hw
  have := body_calls (L0 := cellAt g) (Q := fun r => r.1 = .bool true) hT hF (args := []) (h := start x) (fun fn hfn => hp x fn hfn)
    (fun y s ht => ⟨(hq y s ht).1, _, (hq y s ht).2, rfl⟩) (Sub.refl _) R .nil (B := w.heap.size)
    (fun i l hm ho => by
      obtain ⟨rfl, rfl⟩ := cellAt_some hm
      obtain ⟨o, h1, h2⟩ := ho
      rw [start_get] at h1; cases h1; cases h2) (Nat.le_refl _)
  refine Calls.mono this fun e w' he => ?_
  obtain ⟨v', v, h', m', rfl, h1, h2, h3, h4⟩ := he
  have h1 : v = .bool true := h1
  subst h1
  exact ⟨by rw [h2.bool_inv], h4⟩

end Am
end Go.Proofs.YtbfbaofhnnnohaaGreatDoor
