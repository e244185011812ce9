/- FreeGroups: addresses by their blocks: the program's grouping, by its contract. -/
import Derived.Test.YtbfbaofhnnnohaaGreatDoorProg
import Derived.WalkKit
import Derived.ProofKit
import Derived.Below
import Derived.Lib.Hide
import Derived.Deep.RegionHeld3
import Derived.Deep.RegionWith
import Derived.Deep.AppendLies
import Derived.KernelRfl
import Derived.OwnWalk
import Derived.Maps.Own
import Derived.Maps.AppendAt
import Derived.Maps.GroupsBeside
import Derived.RangeFuncRecord
namespace Go.Proofs.YtbfbaofhnnnohaaGreatDoor.freeGroups
open Go.ChangeShapes Go.WideShapes Go.ChangeAt Go.RowKit
set_option linter.unusedVariables false

theorem results_ct {P : Program} {fn : Func} {p u : Tmp} {ty : TypeId} (h : fn.results = #[.cell p ty, .tmp u]) (tmps : Array Value) (w : World) (g : Nat) (t : TypeId) (cs : Array Value) (fr : Nat × Nat) (d : TypeDesc)
    (hp : tmps.getD p undef = .pointer (some ⟨g, 0, none⟩)) (hg : w.heap[g]? = some (.cells cs t fr))
    (hu : P.underlying ty = some d) (hd : (match d with | .struct _ | .array _ _ => true | _ => false) = true) (hi : (P.info? ty).map (·.size) = some cs.size) :
    (results fn tmps).run P w = .ok (.tuple #[.agg cs, tmps.getD u undef]) w := by
  have hp' : tmps[p]?.getD undef = .pointer (some ⟨g, 0, none⟩) := by simpa using hp
  simp [results, h, hp', asAddr, run_loadVar_row w g t ty cs fr d hg hu hd hi]

theorem and_range (x : Int) : 0 ≤ bits BinOp.and IntKind.u32 x 4294967232 ∧ bits BinOp.and IntKind.u32 x 4294967232 < 4294967296 := by
  have hw : ∀ n : Int, 0 ≤ IntKind.u32.wrap n ∧ IntKind.u32.wrap n < 4294967296 := fun n => by
    have e : IntKind.u32.wrap n = n % 4294967296 := by simp [IntKind.wrap, IntKind.bits, IntKind.signed]
    rw [e]
    omega
  exact hw _

set_option maxHeartbeats 1000000 in
theorem mask (w : World) : Calls Tryz.prog 129 #[.int .i64 26] w fun e w' => e = .returned (.int .u32 4294967232) ∧ w' = w := by
  go_enter Tryz.func129, Tryz.ntmps129
  go_wp2
  go_ret
  exact ⟨rfl, rfl⟩

/-- An address's block. -/
def blk (x : Int) : Int := bits BinOp.and IntKind.u32 x 4294967232

theorem blk_wf (x : Int) : (Lit.int .u32 (blk x)).wf = true := by
  have e1 : IntKind.u32.min = 0 := by decide
  have e2 : IntKind.u32.max = 4294967295 := by decide
  have := and_range x
  simp only [Lit.wf, e1, e2, Bool.and_eq_true, decide_eq_true_eq, blk]
  omega

set_option maxHeartbeats 1000000 in
theorem block (x : Int) (w : World) : Calls Tryz.prog 64 #[.int .u32 x, .int .i64 26] w fun e w' => e = .returned (.tuple #[.agg #[.int .u32 (blk x), .int .i64 26], .int .i64 0]) ∧ w' = w.alloc (.cells #[.int .u32 (blk x), .int .i64 26] 29) := by
  go_enter Tryz.func64, Tryz.ntmps64
  go_wp2_with (go_at_call 129; refine (mask _).mono ?_; rintro e w' ⟨rfl, rfl⟩)
  refine bodyPost_ret (results_ct rfl _ _ w.heap.size 29 _ (0, 0) _ rfl (World.alloc_heap_new w _) Tryz.underlying29 rfl (by kernel_rfl)) rfl ?_
  exact ⟨rfl, rfl⟩

theorem info22 : (Tryz.prog.info? 22).map (fun i => (i.zero, i.size, i.bytes)) = some (some (.int .u32 0), 1, 4) := by kernel_rfl
theorem zero23 (w : World) : (zeroValue 23).run Tryz.prog w = .ok (.slice none 0 0) w := by kernel_rfl

open Go.Maps

/-- The datum of addresses by their blocks. -/
structure IsG {H : Type} (D : DataW H) (xs : List Int) : Prop where
  tidy : Tidy D
  key : ∀ y, D.atKey (.int .u32 y) .nil = if (xs.filter fun x => blk x == y) = [] then .nil else .slice (lits .u32 (xs.filter fun x => blk x == y)) []
  has : ∀ y, Maps.has D (.int .u32 y) = xs.any fun x => blk x == y

theorem isG_nil {H : Type} : IsG (H := H) (.map []) [] := ⟨tidy_empty, fun y => rfl, fun y => rfl⟩

theorem lit_ne {x y : Int} (h : y ≠ x) : (Lit.int .u32 y) ≠ .int .u32 x := fun e => h (by cases e; rfl)

theorem IsG.step {H : Type} {D : DataW H} {xs : List Int} {x : Int} {zs : List Int} (h : IsG D xs) (hz : zs = xs.filter fun u => blk u == blk x) : IsG (D.put (.int .u32 (blk x)) (.slice (lits .u32 (zs ++ [x])) [])) (xs ++ [x]) := by
  have hk : WideAt.IsKeyLit (.int .u32 (blk x)) := trivial
  subst hz
  refine ⟨h.tidy.put hk _, fun y => ?_, fun y => ?_⟩
  · by_cases hy : y = blk x
    · subst hy
      rw [atKey_put_same h.tidy.isMap hk]
      simp [List.filter_append]
    · rw [atKey_put_other (lit_ne hy), h.key y]
      have : (blk x == y) = false := by simpa using fun e => hy e.symm
      simp [List.filter_append, this]
  · by_cases hy : y = blk x
    · subst hy
      rw [has_put_same h.tidy.isMap hk]
      simp
    · rw [has_put_other (lit_ne hy), h.has y]
      have : (blk x == y) = false := by simpa using fun e => hy e.symm
      simp [this]

/-- What a row that was looked up holds. -/
theorem IsG.row {H : Type} {D : DataW H} {xs : List Int} {x : Int} {w : World} {base : Nat} {v : Value} {zs : List Int} (h : IsG D xs) (hat : D.atKey (.int .u32 (blk x)) .nil = rowDatum .u32 v zs) (ho : w.ownsInts base 22 .u32 v zs) :
    zs = xs.filter fun u => blk u == blk x := by
  rw [h.key] at hat
  have inj : ∀ {a b : List Int}, lits (H := H) .u32 a = lits .u32 b → a = b := fun {a b} e => (List.map_inj_right (fun a b hab => by cases hab; rfl)).1 e
  rcases ho.datum (H := H) with ⟨h1, rfl⟩ | h1
  · rw [h1] at hat
    split at hat
    · rename_i he; exact he.symm
    · cases hat
  · rw [h1] at hat
    split at hat
    · cases hat
    · exact (inj (by simpa using hat)).symm

theorem wf_u32 {x : Int} (h : 0 ≤ x ∧ x < 4294967296) : (Lit.int .u32 x).wf = true := by
  have e1 : IntKind.u32.min = 0 := by decide
  have e2 : IntKind.u32.max = 4294967295 := by decide
  simp only [Lit.wf, e1, e2, Bool.and_eq_true, decide_eq_true_eq]
  omega

theorem take_snoc (l : List Int) (k : Nat) (h : k < l.length) : l.take (k + 1) = l.take k ++ [l.getD k 0] := by
  rw [List.take_succ_eq_append_getElem h]
  simp [List.getD_eq_getElem?_getD, h]

theorem galloc {H : Type} {P : Program} {k : TypeId} {w : World} {base : Nat} {e : TypeId} {q : IntKind} {b n : Nat} {D : DataW H} (h : w.ownsGroups P k base e q b n D) (o : Obj) : (w.alloc o).ownsGroups P k base e q b n D :=
  h.kept (World.grownBy_alloc w o none) (by simp) (fun _ _ _ x _ => by cases x.val.ownBlock <;> simp)

/-- An append whose run is known, at a step of a region that draws its order. -/
theorem step_append_known {P : Program} {w : World} {ops : Array Oper} {o : Oper} {a : Act} {K : Act → World → Prop} {Q : Exit → Act → World → Prop} {E : Prop} (hgd : o.guard = none) (s x : Operand) (t ty : TypeId)
    (ho : o.op = .call { callee := .builtin .append, args := #[s, x], argTypes := #[t, t] }) (hty : o.type = ty) (v u : Value) (hs : a.eval s = v) (hx : a.eval x = u) {v' : Value} {w' : World} (hr : (Builtin.append_ #[t, t] ty #[v, u]).run P w = .ok v' w') (h : K (a.put o.dst v') w') :
    if Region.wanted o (yielded ops a.tmps) = true then Oper.wp P o a w K Q else E := by
  have hw : Region.wanted o (yielded ops a.tmps) = true := by simp [Region.wanted, hgd]
  subst hty
  rw [if_pos hw]
  unfold Oper.wp execOp
  simp only [ho, resolve, invoke, builtin, Sem.run_bind, Sem.run_pure, Result.andThen_ok, List.map_toArray, List.map_cons, List.map_nil, hs, hx, hr]
  exact h

/-- A look-up reads the map's block alone. -/
theorem look_all {H : Type} {P : Program} {k : TypeId} {w : World} {base : Nat} {e : TypeId} {q : IntKind} {b n : Nat} {D : DataW H} {t E : TypeId} {key : Value} {kl : Lit} (h : w.ownsGroups P k base e q b n D) (K : Keyed P k) (ht : P.underlying t = some (.map k E))
    (hz : ∀ w, (zeroValue E).run P w = .ok (.slice none 0 0) w) (hn : n < maxLen) (hkey : keyOf P k key = some kl) :
    ∃ v zs, (∀ W' : World, W'.heap[b]? = w.heap[b]? → (Instr.lookup t (.map (some b)) key false).run P W' = .ok v W') ∧ D.atKey kl .nil = rowDatum q v zs ∧ w.ownsInts base e q v zs ∧ zs.length ≤ n ∧ w.groupBack P t k base e q b n D key kl v := by
  obtain ⟨v, zs, hrun, h1, h2, h3, h4⟩ := h.at K ht (hz w) hn hkey
  refine ⟨v, zs, ?_, h1, h2, h3, h4⟩
  obtain ⟨es, clock, hb, F, _⟩ := h
  intro W' hW
  have hb' : W'.heap[b]? = some (.map es clock) := hW.trans hb
  have hnd := F.stamped.2.2
  rcases fit_look false K ht (hz w) hb F hkey with ⟨r1, n1, _⟩ | ⟨e0, _, m1, k1, r1, _⟩
  · rw [hrun] at r1
    cases r1
    rcases fit_look false K ht (hz W') hb' F hkey with ⟨r2, _⟩ | ⟨e1, _, m2, k2, _⟩
    · exact r2
    · exact absurd k2 (n1 e1 m2)
  · rw [hrun] at r1
    cases r1
    rcases fit_look false K ht (hz W') hb' F hkey with ⟨_, n2, _⟩ | ⟨e1, _, m2, k2, r2, _⟩
    · exact absurd k1 (n2 e0 m1)
    · have : e1 = e0 := by
        by_cases he : e1 = e0
        · exact he
        · have hp : es.toList.Pairwise (fun x y => x.key ≠ y.key) := List.pairwise_map.1 hnd
          have hs : ∀ (l : List MapEntry), l.Pairwise (fun x y => x.key ≠ y.key) → ∀ x ∈ l, ∀ y ∈ l, x ≠ y → x.key ≠ y.key := by
            intro l
            induction l with
            | nil => intro _ x hx; cases hx
            | cons c l ih =>
              intro hp x hx y hy hxy
              obtain ⟨p1, p2⟩ := List.pairwise_cons.1 hp
              rcases List.mem_cons.1 hx with h1 | h1
              · rcases List.mem_cons.1 hy with h2 | h2
                · exact absurd (h1.trans h2.symm) hxy
                · rw [h1]; exact p1 y h2
              · rcases List.mem_cons.1 hy with h2 | h2
                · rw [h2]; exact (p1 x h1).symm
                · exact ih p2 x h1 y h2 hxy
          exact absurd (k2.trans k1.symm) (hs _ hp e1 m2 e0 m1 he)
      rw [this] at r2
      exact r2

set_option maxRecDepth 100000 in
set_option maxHeartbeats 1600000 in
theorem group {H : Type} (A : Option Addr) (n cap : Nat) (xs : List Int) (hl : xs.length = n) (hn : n * 4 ≤ 140737488351232) (hr : ∀ x ∈ xs, 0 ≤ x ∧ x < 4294967296) (w : World)
    (hc : 0 < n → ∃ b off, A = some ⟨b, off, none⟩ ∧ b < w.heap.size ∧ ∀ j, j < n → w.cell? ⟨b, off + j, none⟩ = some (.int .u32 (xs.getD j 0))) :
    Calls Tryz.prog 25 #[.slice A n cap] w fun e w' => e = .returned (.map (some w.heap.size)) ∧ (∃ D : DataW H, IsG D xs ∧ w'.ownsGroups Tryz.prog 22 (w.heap.size + 1) 22 .u32 w.heap.size n D) ∧ Below w.heap.size w w' := by
  have hmm := @run_makeMap Tryz.prog
  obtain ⟨i0, hi, hz0, hz1, hz2⟩ := info_parts info22
  have law : Keyed Tryz.prog 22 := int_keyed Tryz.underlying22
  have HC := Lib.hid hc
  clear hc
  go_enter Tryz.func25, Tryz.ntmps25
  go_wp2
  go_loopw [11] (fun i wr => ∃ (k : Nat) (D : DataW H), k ≤ n ∧ i = .int .i64 k ∧ IsG D (xs.take k) ∧ wr.ownsGroups Tryz.prog 22 (w.heap.size + 1) 22 .u32 w.heap.size k D ∧ Below w.heap.size w wr ∧ w.heap.size + 1 ≤ wr.heap.size)
    (fun i _ => n - (intOf i).toNat)
  case atStart => exact ⟨0, _, Nat.zero_le _, rfl, isG_nil, World.ownsGroups_made _ _ _ _ _, (Below.refl _ _).alloc (Nat.le_refl _) _, by simp⟩
  case round =>
    obtain ⟨k, D, hk, rfl, hG, hown, hnx, hws⟩ := hrel
    by_cases hlt : k < n
    · obtain ⟨b, off, rfl, hb, hc⟩ := HC.out (by omega)
      have hcx := (hnx.cell (p := ⟨b, off + k, none⟩) hb).trans (hc k hlt)
      clear hc
      have hx : 0 ≤ xs.getD k 0 ∧ xs.getD k 0 < 4294967296 := hr _ (by rw [List.getD_eq_getElem?_getD, List.getElem?_eq_getElem (by omega)]; exact List.getElem_mem _)
      have hsn := take_snoc xs k (by omega)
      generalize xs.getD k 0 = x at hcx hx hsn
      have hkey : keyOf Tryz.prog 22 (.int .u32 (blk x)) = some (.int .u32 (blk x)) := keyOf_int_mk Tryz.underlying22 (blk_wf x)
      have hown2 := galloc (galloc hown (.cells #[.int .u32 (blk x), .int .i64 26] 29)) (.cells #[.int .u32 (blk x), .int .i64 26] 29)
      have hmap : ((wr.alloc (.cells #[.int .u32 (blk x), .int .i64 26] 29)).alloc (.cells #[.int .u32 (blk x), .int .i64 26] 29)).heap.size = wr.heap.size + 2 := by simp
      have hcell : ((wr.alloc (.cells #[.int .u32 (blk x), .int .i64 26] 29)).alloc (.cells #[.int .u32 (blk x), .int .i64 26] 29)).cell? ⟨wr.heap.size + 1, 0, none⟩ = some (.int .u32 (blk x)) := by simp
      have hblk : ((wr.alloc (.cells #[.int .u32 (blk x), .int .i64 26] 29)).alloc (.cells #[.int .u32 (blk x), .int .i64 26] 29)).heap[wr.heap.size + 1]? = some (.cells #[.int .u32 (blk x), .int .i64 26] 29 (0, 0)) := by
        have := World.alloc_heap_new (wr.alloc (.cells #[.int .u32 (blk x), .int .i64 26] 29)) (.cells #[.int .u32 (blk x), .int .i64 26] 29)
        rwa [World.size_alloc] at this
      have hbW : Below w.heap.size w ((wr.alloc (.cells #[.int .u32 (blk x), .int .i64 26] 29)).alloc (.cells #[.int .u32 (blk x), .int .i64 26] 29)) := (hnx.alloc (by omega) _).alloc (by simp; omega) _
      go_wp2_with (go_at_call 64; refine (block _ _).mono ?_; rintro e w1 ⟨rfl, rfl⟩)
      generalize (wr.alloc (.cells #[.int .u32 (blk x), .int .i64 26] 29)).alloc (.cells #[.int .u32 (blk x), .int .i64 26] 29) = W at hown2 hmap hcell hbW hblk ⊢
      have hownd : W.drew.ownsGroups Tryz.prog 22 (w.heap.size + 1) 22 .u32 w.heap.size k D := hown2
      obtain ⟨v, zs, hlook, hat, hoi, hzl, hback⟩ := look_all hownd law Tryz.underlying73 zero23 (by unfold maxLen; omega) hkey
      obtain ⟨v', w1, happ, hown', hgrow, _, hloc⟩ := run_append_own_at (P := Tryz.prog) (W.drew.alloc (.cells #[.int .u32 x] 22)) (w.heap.size + 1) 23 23 22 i0 (.int .u32 0) 1 4 Tryz.underlying23 hi hz0 hz1 hz2 rfl (by decide) v zs.length (zs.map (.int .u32)) (hoi.1.alloc _)
        ⟨W.drew.heap.size, 0, none⟩ 1 1 [.int .u32 x] rfl (cell_one_new _ _ _) (ints_oneCell .u32 [x]) (by unfold maxLen; omega) (by omega) (by simp; omega)
      have hoi2 := hoi.appended hown' (wf_u32 hx)
      have hall := (World.grownBy_alloc W.drew (.cells #[.int .u32 x] 22) v.ownBlock).trans hgrow
      obtain ⟨w2, hupd, hown3, hgrow2⟩ := hback w1 v' (zs ++ [x]) hall hoi2 (by simp; omega) (hloc.imp id (fun h => ⟨_, h, by simp⟩))
      have hfar : v.ownBlock ≠ some w.heap.size := fun e => by have := (hoi.1.lt _ e).1; omega
      have hfar2 : v.ownBlock ≠ some (wr.heap.size + 1) := fun e => by
        rcases hoi.1.2 with ⟨h0, _⟩ | ⟨g, cp, cur, hv, _, hh, _⟩
        · rw [h0] at e; cases e
        · rw [hv] at e
          have : g = wr.heap.size + 1 := by simpa [Value.ownBlock] using e
          subst this
          rw [show W.drew.heap[wr.heap.size + 1]? = _ from hblk] at hh
          cases hh
      have hm1 : w1.heap[w.heap.size]? = W.drew.heap[w.heap.size]? := hall.block _ (by simp; omega) (Ne.symm hfar)
      have hc1 : w1.cell? ⟨wr.heap.size + 1, 0, none⟩ = some (.int .u32 (blk x)) := by
        rw [hgrow.cell_far _ (by simp; omega) (Ne.symm hfar2)]
        rw [World.cell?_alloc_some _ _ _ (by rw [show W.drew.cell? ⟨wr.heap.size + 1, 0, none⟩ = _ from hcell]; rfl)]; exact hcell
      have hca : (W.drew.alloc (.cells #[.int .u32 x] 22)).cell? ⟨wr.heap.size + 1, 0, none⟩ = some (.int .u32 (blk x)) := by
        rw [World.cell?_alloc_some _ _ _ (by rw [show W.drew.cell? ⟨wr.heap.size + 1, 0, none⟩ = _ from hcell]; rfl)]; exact hcell
      have hcb : (W.alloc (.cells #[.int .u32 x] 22)).drew.cell? ⟨wr.heap.size + 1, 0, none⟩ = some (.int .u32 (blk x)) := hca
      have hcd : W.drew.cell? ⟨wr.heap.size + 1, 0, none⟩ = some (.int .u32 (blk x)) := hcell
      have l1 := hlook W.drew rfl
      have l2 := hlook (W.drew.alloc (.cells #[.int .u32 x] 22)) (Below.heap_alloc _ _ _ (by simp; omega))
      have l3 := hlook (W.alloc (.cells #[.int .u32 x] 22)).drew (Below.heap_alloc W.drew _ _ (by simp; omega))
      have hc2 : w2.cell? ⟨wr.heap.size + 1, 0, none⟩ = some (.int .u32 (blk x)) := by
        rw [hgrow2.cell_far _ (World.block_lt_of_cell? w1 _ hc1) (by simp; omega)]; exact hc1
      rw [show W.drew.heap.size = wr.heap.size + 2 from hmap] at happ
      have HG : Hid (IsG (D.put (.int .u32 (blk x)) (.slice (lits .u32 (zs ++ [x])) [])) (xs.take (k + 1))) := by
        show IsG _ _
        rw [hsn]; exact hG.step (hG.row hat hoi)
      have HO : Hid (w2.ownsGroups Tryz.prog 22 (w.heap.size + 1) 22 .u32 w.heap.size (k + 1) (D.put (.int .u32 (blk x)) (.slice (lits .u32 (zs ++ [x])) []))) := by
        show World.ownsGroups _ _ _ _ _ _ _ _ _
        rw [← hoi2.datum_pos (by simp)]; exact hown3
      have HB : Hid (Below w.heap.size w w2 ∧ w.heap.size + 1 ≤ w2.heap.size) :=
        ⟨hbW.drew.groups hoi hall hgrow2 (by simp; omega) (Nat.le_succ _) (Nat.le_refl _), by have h1 := hall.size; have h2 := hgrow2.size; simp at h1; omega⟩
      clear hlook hback hat hownd hown2 hown hsn hbW hnx hG hown3 hoi2 hown' hall hgrow hgrow2 hloc hoi hblk
      go_region_held3 (fun w' => w'.cell? ⟨wr.heap.size + 1, 0, none⟩ = some (.int .u32 (blk x)))
        (first
          | (with_reducible exact hcd)
          | (with_reducible exact hca)
          | (with_reducible exact hcb)
          | (with_reducible exact hc1)
          | (with_reducible exact hc2)
          | fail)
        ((refine step_append_known (by rfl) _ _ 23 23 (by rfl) (by rfl) v (.slice (some ⟨wr.heap.size + 2, 0, none⟩) 1 1) (by rfl) (by rfl) (v' := v') (w' := w1) happ ?_))
      all_goals
        go_wp2
        go_roundw
        case rel => exact ⟨k + 1, _, by omega, by go_num, HG.out, HO.out, HB.out.1, HB.out.2⟩
        case measure => simp [intOf]; omega
    · go_wp2
      have : k = n := by omega
      subst this
      go_ret
      refine ⟨rfl, ⟨D, ?_, hown⟩, hnx⟩
      rwa [List.take_of_length_le (by omega)] at hG
end Go.Proofs.YtbfbaofhnnnohaaGreatDoor.freeGroups
