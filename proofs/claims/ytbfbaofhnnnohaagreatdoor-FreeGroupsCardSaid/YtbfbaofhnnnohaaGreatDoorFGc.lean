/- FreeGroups: the reference's blocks, by their contract. -/
import Derived.Test.YtbfbaofhnnnohaaGreatDoorFGb
import Derived.Deep.AppendSrc
import Derived.Maps.AppendAt
namespace Go.Proofs.YtbfbaofhnnnohaaGreatDoor.freeGroups
open Go.ChangeShapes Go.WideShapes Go.ChangeAt Go.RowKit Go.Maps
set_option linter.unusedVariables false

/-- Rising numbers, each the block of one of some. -/
structure IsB (xs ys : List Int) : Prop where
  up : ys.Pairwise (· < ·)
  mem : ∀ y, y ∈ ys ↔ ∃ x ∈ xs, blk x = y

theorem isB_nil : IsB [] [] := ⟨List.Pairwise.nil, fun y => by simp⟩

theorem IsB.old {xs ys : List Int} (h : IsB xs ys) {x : Int} (hx : blk x ∈ ys) : IsB (xs ++ [x]) ys :=
  ⟨h.up, fun y => by
    rw [h.mem y]
    constructor
    · rintro ⟨u, hu, rfl⟩; exact ⟨u, by simp [hu], rfl⟩
    · rintro ⟨u, hu, rfl⟩
      rcases List.mem_append.1 hu with hu | hu
      · exact ⟨u, hu, rfl⟩
      · have : u = x := by simpa using hu
        subst this
        exact (h.mem _).1 hx⟩

theorem IsB.new {xs ys : List Int} (h : IsB xs ys) {x : Int} {j : Nat} (hj : j ≤ ys.length) (hlo : ∀ m, m < j → ys.getD m 0 < blk x) (hhi : j < ys.length → blk x < ys.getD j 0) : IsB (xs ++ [x]) (ys.take j ++ [blk x] ++ ys.drop j) := by
  have hp : (ys.take j ++ ys.drop j).Pairwise (· < ·) := by rw [List.take_append_drop]; exact h.up
  obtain ⟨p1, p2, p3⟩ := List.pairwise_append.1 hp
  have l1 : ∀ a ∈ ys.take j, a < blk x := by
    intro a ha
    obtain ⟨m, hm, rfl⟩ := List.mem_iff_getElem.1 ha
    have hm2 : m < j := by have := List.length_take_le j ys; omega
    have := hlo m hm2
    rw [List.getElem_take]
    rwa [List.getD_eq_getElem?_getD, List.getElem?_eq_getElem (by omega)] at this
  have l2 : ∀ b ∈ ys.drop j, blk x < b := by
    intro b hb
    obtain ⟨m, hm, rfl⟩ := List.mem_iff_getElem.1 hb
    have hl : (ys.drop j).length = ys.length - j := List.length_drop ..
    have hj2 : j < ys.length := by omega
    have h0 := hhi hj2
    rw [List.getD_eq_getElem?_getD, List.getElem?_eq_getElem hj2] at h0
    rw [List.getElem_drop]
    by_cases hm0 : m = 0
    · subst hm0; exact h0
    · have := (List.pairwise_iff_getElem.1 h.up) j (j + m) hj2 (by omega) (by omega)
      exact Int.lt_trans h0 this
  refine ⟨?_, fun y => ?_⟩
  · refine List.pairwise_append.2 ⟨List.pairwise_append.2 ⟨p1, by simp, fun a ha b hb => ?_⟩, p2, fun a ha b hb => ?_⟩
    · have : b = blk x := by simpa using hb
      subst this; exact l1 a ha
    · rcases List.mem_append.1 ha with ha | ha
      · exact p3 a ha b hb
      · have : a = blk x := by simpa using ha
        subst this; exact l2 b hb
  · have e : y ∈ ys.take j ++ [blk x] ++ ys.drop j ↔ y ∈ ys ∨ y = blk x := by
      have : y ∈ ys ↔ y ∈ ys.take j ∨ y ∈ ys.drop j := by
        rw [← List.mem_append, List.take_append_drop]
      rw [this]
      simp only [List.mem_append, List.mem_singleton]
      constructor
      · rintro ((a | a) | a)
        · exact .inl (.inl a)
        · exact .inr a
        · exact .inl (.inr a)
      · rintro ((a | a) | a)
        · exact .inl (.inl a)
        · exact .inr a
        · exact .inl (.inr a)
    rw [e, h.mem y]
    constructor
    · rintro (⟨u, hu, rfl⟩ | rfl)
      · exact ⟨u, by simp [hu], rfl⟩
      · exact ⟨x, by simp, rfl⟩
    · rintro ⟨u, hu, rfl⟩
      rcases List.mem_append.1 hu with hu | hu
      · exact .inl ⟨u, hu, rfl⟩
      · have : u = x := by simpa using hu
        subst this; exact .inr rfl

/-- append(v, nil...) where v is not nil. -/
theorem wpList_append_nothing {P : Program} {w : World} {ops : Array Oper} {rest : List Oper} {o : Oper} {a : Act} {Q : Exit → Act → World → Prop} (hgd : o.guard = none) (s x : Operand) (t : TypeId)
    (ho : o.op = .call { callee := .builtin .append, args := #[s, x], argTypes := #[t, t] }) {e : TypeId} {i : TypeInfo} (ht : P.underlying t = some (.slice e)) (hi : P.info? e = some i) (b off n c : Nat) (hs : a.eval s = .slice (some ⟨b, off, none⟩) n c) (hx : a.eval x = .slice none 0 0)
    (hroom : n ≤ c) (h : wpList P ops Q rest (a.put o.dst (.slice (some ⟨b, off, none⟩) n c)) w) : wpList P ops Q (o :: rest) a w := by
  refine wpList_plain hgd fun _ hK => ?_
  have hr := run_append_room_src (P := P) (w := w) t t o.type e i ht hi b off n c (.slice none 0 0) 0 [] (Src.ofNil w ht 0) hroom (by simp) (by simp)
  unfold Oper.wp execOp
  simp only [ho, resolve, invoke, builtin, Sem.run_bind, Sem.run_pure, Result.andThen_ok, List.map_toArray, List.map_cons, List.map_nil, hs, hx, hr]
  exact hK _ _ h

theorem empty_row {w : World} {B : Nat} (h : B ≤ w.heap.size) : (w.alloc (.cells #[] 22)).ownsRow B 22 1 (.slice (some ⟨w.heap.size, 0, none⟩) 0 0) 0 [] :=
  ⟨rfl, .inr ⟨_, 0, #[], rfl, h, World.alloc_heap_new _ _, Nat.le_refl _, Nat.zero_le _, rfl, rfl⟩⟩

/-- A piece of a row, as the cells of an append. -/
theorem news_of {W : World} {g : Nat} {cur : Array Value} {ys : List Int} (hb : W.heap[g]? = some (.cells cur 22 (0, 0))) (ht : cur.toList.take (ys.length * 1) = ys.map (.int .u32)) (o m : Nat) :
    ∀ i u, (((ys.drop o).take m).map (Value.int .u32))[i]? = some u → W.cell? ((⟨g, o, none⟩ : Addr).add i) = some u := by
  intro i u hu
  rw [List.getElem?_map] at hu
  obtain ⟨y, hy, rfl⟩ := Option.map_eq_some_iff.1 hu
  rw [List.getElem?_take] at hy
  split at hy
  · rw [List.getElem?_drop] at hy
    have hlt : o + i < ys.length := (List.getElem?_eq_some_iff.1 hy).1
    have e1 : cur.toList[o + i]? = some (.int .u32 y) := by
      have := congrArg (fun l => l[o + i]?) ht
      simp only [List.getElem?_map, hy, Option.map_some] at this
      rwa [List.getElem?_take_of_lt (by omega)] at this
    have e2 : (⟨g, o, none⟩ : Addr).add i = ⟨g, o + i, none⟩ := by unfold Addr.add; split <;> simp_all
    rw [e2]
    simp only [World.cell?, hb, Option.isSome_none, Bool.false_eq_true, if_false]
    rw [← Array.getElem?_toList]; exact e1
  · cases hy

theorem blk_range (x : Int) : 0 ≤ blk x ∧ blk x < 4294967296 := and_range x

set_option maxRecDepth 100000 in
set_option maxHeartbeats 1600000 in
theorem blocks (A : Option Addr) (n cap : Nat) (xs : List Int) (hn : n ≤ 60) (w : World) (h : InRow w A n xs) :
    Calls Tryz.prog 26 #[.slice A n cap] w fun e w' => ∃ v ys, e = .returned v ∧ w'.ownsRow w.heap.size 22 1 v ys.length (ys.map (.int .u32)) ∧ IsB xs ys ∧ ys.length ≤ n ∧ Below w.heap.size w w' := by
  obtain ⟨i0, hi, hz0, hz1, hz2⟩ := info_parts info22
  have HC := Lib.hid h
  clear h
  go_enter Tryz.func26, Tryz.ntmps26
  go_wp2
  go_loopw [3, 5, 6, 7, 8, 11] (fun v _ _ _ _ i wr => ∃ (k : Nat) (ys : List Int), k ≤ n ∧ i = .int .i64 k ∧ wr.ownsRow w.heap.size 22 1 v ys.length (ys.map (.int .u32)) ∧ Hid (IsB (xs.take k) ys) ∧ ys.length ≤ k ∧ Hid (Below w.heap.size w wr)) (fun _ _ _ _ _ i _ => n - (intOf i).toNat)
  case atStart => exact ⟨0, [], Nat.zero_le _, rfl, World.ownsRow_nil _ _ _ _, isB_nil, Nat.le_refl _, Below.refl _ _⟩
  case round =>
    obtain ⟨k, ys, hk, rfl, hown, HI, hyk, hnx⟩ := hrel
    by_cases hlt : k < n
    · obtain ⟨b, off, rfl, hb, hc⟩ := HC.out.2.2 (by omega)
      have g0 := (hnx.out.cell (p := ⟨b, off + k, none⟩) hb).trans (hc k hlt)
      have hx : 0 ≤ xs.getD k 0 ∧ xs.getD k 0 < 4294967296 := HC.out.2.1 _ (by rw [List.getD_eq_getElem?_getD, List.getElem?_eq_getElem (by have := HC.out.1; omega)]; exact List.getElem_mem _)
      have hsn := Lib.hid (take_snoc xs k (by have := HC.out.1; omega))
      clear hc
      generalize xs.getD k 0 = x at g0 hx hsn
      have hbx := Lib.hid (blk_eq hx)
      have hyb : 0 ≤ x - x % 64 ∧ x - x % 64 < 4294967296 := by omega
      rcases hown.2 with ⟨rfl, h0⟩ | ⟨g, cp, cur, rfl, hbase, hgb, hc1, hc2, hc3, hc4⟩
      · have : ys = [] := List.eq_nil_of_length_eq_zero h0
        subst this
        go_wp2_with fail
        refine wp_loop_rounds 1 ?_
        rw [rounds_succ]
        have hown0 := empty_row (w := wr) hnx.out.size
        go_wp2_with (at_builtin; refine wpList_append_own _ rfl _ _ 23 rfl w.heap.size 22 i0 (.int .u32 0) 1 4 Tryz.underlying23 hi hz0 hz1 hz2 rfl (by decide) _ _ _ rfl (hown0.alloc _) ⟨wr.heap.size + 1, 0, none⟩ 1 1 [.int .u32 (x - x % 64)] rfl rfl ?c1 (ints_oneCell .u32 [x - x % 64]) ?c3 ?c4 ?c5 ?_)
        case c1 => simpa using cell_one_new (wr.alloc (.cells #[] 22)) (.int .u32 (x - x % 64)) 22
        case c3 => unfold maxLen; omega
        case c4 => omega
        case c5 => have := hnx.out.size; simp; omega
        intro v' w1 hown' hgrow _
        have hB : Hid (Below w.heap.size w w1) := ((hnx.out.alloc hnx.out.size _).alloc (by have := hnx.out.size; simp; omega) _).grown hgrow (by have := hnx.out.size; simp; omega) (fun g e => (hown0.lt g e).1)
        obtain ⟨g', cap', cur', rfl, q1, q2, q3, q4, q5, q6⟩ : ∃ g' cap' cur', v' = .slice (some ⟨g', 0, none⟩) (0 + 1) cap' ∧ w.heap.size ≤ g' ∧ w1.heap[g']? = some (.cells cur' 22 (0, 0)) ∧ 0 + 1 ≤ cap' ∧ cap' ≤ maxLen ∧ cur'.size = cap' * 1 ∧ cur'.toList.take ((0 + 1) * 1) = [] ++ [.int .u32 (x - x % 64)] := by
          rcases hown'.2 with ⟨_, h0⟩ | h'
          · exact absurd h0 (by omega)
          · exact h'
        clear hgrow hnx hown hown0
        go_wp2_with (at_builtin; refine wpList_append_nothing rfl _ _ 23 rfl Tryz.underlying23 hi g' 0 (0 + 1) cap' rfl rfl q3 ?_)
        go_roundw
        case rel =>
          refine ⟨k + 1, [x - x % 64], by omega, by go_num, hown', ?_, by simp, hB⟩
          show IsB _ _
          rw [hsn.out]
          have := HI.out.new (x := x) (j := 0) (by simp) (fun m hm => by omega) (fun h => by simp at h)
          simpa [hbx.out] using this
        case measure => simp [intOf]; omega
      · have hget : ∀ j, j < ys.length → wr.cell? ⟨g, j, none⟩ = some (.int .u32 (ys.getD j 0)) := fun j hj => by
          have := hown.cells (g := g) rfl j (.int .u32 (ys.getD j 0)) (by simp [List.getElem?_map, List.getD_eq_getElem?_getD, List.getElem?_eq_getElem hj])
          have e : (⟨g, 0, none⟩ : Addr).add j = ⟨g, j, none⟩ := by unfold Addr.add; split <;> simp_all
          rwa [e] at this
        have hgl : g < wr.heap.size := (Array.getElem?_eq_some_iff.1 hgb).1
        go_upto_block 2 with (fail)
        go_cut [7] (fun kk wc => ∃ j : Nat, j ≤ ys.length ∧ kk = .int .i64 j ∧ wc = wr ∧ Hid ((∀ m, m < j → ys.getD m 0 < x - x % 64) ∧ (j < ys.length → x - x % 64 ≤ ys.getD j 0)))
        case first =>
          go_wp2_with fail
          go_loopw [7] (fun kk wi => ∃ j : Nat, j ≤ ys.length ∧ kk = .int .i64 j ∧ wi = wr ∧ Hid (∀ m, m < j → ys.getD m 0 < x - x % 64)) (fun kk _ => ys.length - (intOf kk).toNat)
          case atStart => exact ⟨0, Nat.zero_le _, rfl, rfl, fun m hm => absurd hm (by omega)⟩
          case round =>
            obtain ⟨j, hj, rfl, rfl, HL⟩ := hrel
            by_cases hjl : j < ys.length
            · have g1 := hget j hjl
              have hyj : Hid (ys.getD j 0 = ys.getD j 0) := rfl
              by_cases hlt2 : ys.getD j 0 < x - x % 64
              · have HL2 : Hid (∀ m, m < j + 1 → ys.getD m 0 < x - x % 64) := fun m hm => by
                  by_cases hmj : m = j
                  · subst hmj; exact hlt2
                  · exact HL.out m (by omega)
                clear hget
                generalize ys.getD j 0 = yj at g1 hlt2
                go_wp2_with fail
                go_roundw
                case rel => exact ⟨j + 1, by omega, by go_num, trivial, HL2⟩
                case measure => simp [intOf]; omega
              · have HE : Hid ((∀ m, m < j → ys.getD m 0 < x - x % 64) ∧ (j < ys.length → x - x % 64 ≤ ys.getD j 0)) := ⟨HL.out, fun _ => by omega⟩
                clear hget
                generalize ys.getD j 0 = yj at g1 hlt2
                go_wp2_with fail
                go_meet
                case rel => exact ⟨j, by omega, rfl, rfl, HE⟩
            · have HE : Hid ((∀ m, m < j → ys.getD m 0 < x - x % 64) ∧ (j < ys.length → x - x % 64 ≤ ys.getD j 0)) := ⟨HL.out, fun h => absurd h hjl⟩
              clear hget
              go_wp2_with fail
              go_meet
              case rel => exact ⟨j, by omega, rfl, rfl, HE⟩
        case rest =>
          obtain ⟨j, hj, rfl, hwc, HE⟩ := hcut
          obtain rfl := hwc.symm
          have hB0 := hnx.out
          have hbs := hB0.size
          have hown0 := empty_row (w := wr) hbs
          have hyb2 := hyb
          by_cases hsame : j < ys.length ∧ ys.getD j 0 = x - x % 64
          · have g1 := hget j hsame.1
            rw [hsame.2] at g1
            have hjl := hsame.1
            clear hget
            go_wp2_with fail
            go_roundw
            case rel =>
              refine ⟨k + 1, ys, by omega, by go_num, hown, ?_, by omega, hnx⟩
              show IsB _ _
              rw [hsn.out]
              refine HI.out.old ?_
              rw [hbx.out, ← hsame.2, List.getD_eq_getElem?_getD, List.getElem?_eq_getElem hjl]
              exact List.getElem_mem _
            case measure => simp [intOf]; omega
          · have hnew : Hid (IsB (xs.take (k + 1)) (ys.take j ++ [x - x % 64] ++ ys.drop j)) := by
              show IsB _ _
              rw [hsn.out, ← hbx.out]
              refine HI.out.new hj (by rw [hbx.out]; exact HE.out.1) (fun h => ?_)
              rw [hbx.out]
              have := HE.out.2 h
              have h3 : ys.getD j 0 ≠ x - x % 64 := fun e => hsame ⟨h, e⟩
              omega
            have hl1 : (((ys.drop 0).take j).map (Value.int .u32)).length = j * 1 := by simp; omega
            have hl3 : (((ys.drop j).take (ys.length - j)).map (Value.int .u32)).length = (ys.length - j) * 1 := by simp
            have hn1 := news_of (W := wr.alloc (.cells #[] 22)) ((Below.heap_alloc _ _ _ hgl).trans hgb) hc4 0 j
            by_cases hjl : j < ys.length
            · have g1 := hget j hjl
              have h3 : ys.getD j 0 ≠ x - x % 64 := fun e => hsame ⟨hjl, e⟩
              clear hget hsame
              generalize ys.getD j 0 = yj at g1 h3
              go_wp2_with (at_builtin; refine wpList_append_own_at _ rfl _ _ 23 rfl w.heap.size 22 i0 (.int .u32 0) 1 4 Tryz.underlying23 hi hz0 hz1 hz2 rfl (by decide) _ _ _ rfl hown0 ⟨g, 0, none⟩ j cp (((ys.drop 0).take j).map (.int .u32)) rfl hl1 hn1 (ints_oneCell .u32 _) (by unfold maxLen; omega) (by omega) (by simp; omega) ?_)
              intro v1 w1 hown1 hgrow1 _ hloc1
              have hs1 := hgrow1.size
              simp only [World.size_alloc] at hs1
              have n1 : v1.ownBlock ≠ some g := fun e => by
                rcases hloc1 with h | h
                · rw [h] at e; simp [Value.ownBlock] at e; omega
                · rw [h] at e; simp at e; omega
              have k1 : w1.heap[g]? = some (.cells cur 22 (0, 0)) := (hgrow1.block g (by simp; omega) (fun e => by simp [Value.ownBlock] at e; omega)).trans ((Below.heap_alloc _ _ _ hgl).trans hgb)
              have hB1 : Below w.heap.size w w1 := (hB0.alloc hbs _).grown hgrow1 (by simp; omega) (fun q e => (hown0.lt q e).1)
              go_wp2_with (at_builtin; refine wpList_append_own_at _ rfl _ _ 23 rfl w.heap.size 22 i0 (.int .u32 0) 1 4 Tryz.underlying23 hi hz0 hz1 hz2 rfl (by decide) _ _ _ rfl (hown1.alloc _) ⟨w1.heap.size, 0, none⟩ 1 1 [.int .u32 (x - x % 64)] rfl rfl (cell_one_new _ _ _) (ints_oneCell .u32 [x - x % 64]) (by unfold maxLen; omega) (by omega) (by simp; omega) ?_)
              intro v2 w2 hown2 hgrow2 _ hloc2
              have hs2 := hgrow2.size
              simp only [World.size_alloc] at hs2
              have n2 : v2.ownBlock ≠ some g := fun e => by
                rcases hloc2 with h | h
                · rw [h] at e; exact n1 e
                · rw [h] at e; simp at e; omega
              have k2 : w2.heap[g]? = some (.cells cur 22 (0, 0)) := (hgrow2.block g (by simp; omega) (fun e => n1 e.symm)).trans ((Below.heap_alloc _ _ _ (by omega)).trans k1)
              have hB2 : Below w.heap.size w w2 := (hB1.alloc hB1.size _).grown hgrow2 (by have := hB1.size; simp; omega) (fun q e => (hown1.lt q e).1)
              have hn3 := news_of k2 hc4 j (ys.length - j)
              go_wp2_with (at_builtin; refine wpList_append_own_at _ rfl _ _ 23 rfl w.heap.size 22 i0 (.int .u32 0) 1 4 Tryz.underlying23 hi hz0 hz1 hz2 rfl (by decide) _ _ _ rfl hown2 ⟨g, j, none⟩ (ys.length - j) (cp - j) (((ys.drop j).take (ys.length - j)).map (.int .u32)) rfl hl3 hn3 (ints_oneCell .u32 _) (by unfold maxLen; omega) (by omega) (by omega) ?_)
              intro v3 w3 hown3 hgrow3 _ _
              have hB3 : Hid (Below w.heap.size w w3) := hB2.grown hgrow3 hB2.size (fun q e => (hown2.lt q e).1)
              have hown4 : w3.ownsRow w.heap.size 22 1 v3 (ys.take j ++ [x - x % 64] ++ ys.drop j).length ((ys.take j ++ [x - x % 64] ++ ys.drop j).map (.int .u32)) := by
                have e1 : (ys.take j ++ [x - x % 64] ++ ys.drop j).length = 0 + j + 1 + (ys.length - j) := by simp; omega
                have e2 : (ys.take j ++ [x - x % 64] ++ ys.drop j).map (Value.int .u32) = [] ++ ((ys.drop 0).take j).map (.int .u32) ++ [.int .u32 (x - x % 64)] ++ ((ys.drop j).take (ys.length - j)).map (.int .u32) := by
                  rw [List.take_of_length_le (l := ys.drop j) (by simp)]; simp
                rw [e1, e2]; simpa using hown3
              clear hown hown0 hown1 hown2 hown3 hgrow1 hgrow2 hgrow3 hloc1 hloc2 k1 k2 hn1 hn3 hB0 hB1 hB2 hnx
              go_wp2
              go_roundw
              case rel => exact ⟨k + 1, _, by omega, by go_num, hown4, hnew, by simp; omega, hB3⟩
              case measure => simp [intOf]; omega
            · clear hget hsame
              have hjl2 : ys.length - j = 0 := by omega
              by_cases hcp : j = cp
              · obtain rfl := hcp
                go_wp2_with (at_builtin; refine wpList_append_own_at _ rfl _ _ 23 rfl w.heap.size 22 i0 (.int .u32 0) 1 4 Tryz.underlying23 hi hz0 hz1 hz2 rfl (by decide) _ _ _ rfl hown0 ⟨g, 0, none⟩ j _ (((ys.drop 0).take j).map (.int .u32)) rfl hl1 hn1 (ints_oneCell .u32 _) (by unfold maxLen; omega) (by omega) (by simp; omega) ?_)
                intro v1 w1 hown1 hgrow1 _ hloc1
                have hs1 := hgrow1.size
                simp only [World.size_alloc] at hs1
                have n1 : v1.ownBlock ≠ some g := fun e => by
                  rcases hloc1 with h | h
                  · rw [h] at e; simp [Value.ownBlock] at e; omega
                  · rw [h] at e; simp at e; omega
                have k1 : w1.heap[g]? = some (.cells cur 22 (0, 0)) := (hgrow1.block g (by simp; omega) (fun e => by simp [Value.ownBlock] at e; omega)).trans ((Below.heap_alloc _ _ _ hgl).trans hgb)
                have hB1 : Below w.heap.size w w1 := (hB0.alloc hbs _).grown hgrow1 (by simp; omega) (fun q e => (hown0.lt q e).1)
                go_wp2_with (at_builtin; refine wpList_append_own_at _ rfl _ _ 23 rfl w.heap.size 22 i0 (.int .u32 0) 1 4 Tryz.underlying23 hi hz0 hz1 hz2 rfl (by decide) _ _ _ rfl (hown1.alloc _) ⟨w1.heap.size, 0, none⟩ 1 1 [.int .u32 (x - x % 64)] rfl rfl (cell_one_new _ _ _) (ints_oneCell .u32 [x - x % 64]) (by unfold maxLen; omega) (by omega) (by simp; omega) ?_)
                intro v2 w2 hown2 hgrow2 _ hloc2
                have hs2 := hgrow2.size
                simp only [World.size_alloc] at hs2
                have n2 : v2.ownBlock ≠ some g := fun e => by
                  rcases hloc2 with h | h
                  · rw [h] at e; exact n1 e
                  · rw [h] at e; simp at e; omega
                have k2 : w2.heap[g]? = some (.cells cur 22 (0, 0)) := (hgrow2.block g (by simp; omega) (fun e => n1 e.symm)).trans ((Below.heap_alloc _ _ _ (by omega)).trans k1)
                have hB2 : Below w.heap.size w w2 := (hB1.alloc hB1.size _).grown hgrow2 (by have := hB1.size; simp; omega) (fun q e => (hown1.lt q e).1)
                go_wp2_with (at_builtin; refine wpList_append_own_at _ rfl _ _ 23 rfl w.heap.size 22 i0 (.int .u32 0) 1 4 Tryz.underlying23 hi hz0 hz1 hz2 rfl (by decide) _ _ _ rfl hown2 ⟨g, 0, none⟩ 0 _ [] rfl rfl (fun i u hu => by simp at hu) (by simp) (by unfold maxLen; omega) (by omega) (by omega) ?_)
                intro v3 w3 hown3 hgrow3 _ _
                have hB3 : Hid (Below w.heap.size w w3) := hB2.grown hgrow3 hB2.size (fun q e => (hown2.lt q e).1)
                have hown4 : w3.ownsRow w.heap.size 22 1 v3 (ys.take j ++ [x - x % 64] ++ ys.drop j).length ((ys.take j ++ [x - x % 64] ++ ys.drop j).map (.int .u32)) := by
                  have e1 : (ys.take j ++ [x - x % 64] ++ ys.drop j).length = 0 + j + 1 + 0 := by simp; omega
                  have e2 : (ys.take j ++ [x - x % 64] ++ ys.drop j).map (Value.int .u32) = [] ++ ((ys.drop 0).take j).map (.int .u32) ++ [.int .u32 (x - x % 64)] ++ [] := by
                    rw [show ys.drop j = [] from List.drop_eq_nil_of_le (by omega)]; simp
                  rw [e1, e2]; simpa using hown3
                clear hown hown0 hown1 hown2 hown3 hgrow1 hgrow2 hgrow3 hloc1 hloc2 k1 k2 hn1 hB0 hB1 hB2 hnx
                go_wp2
                go_roundw
                case rel => exact ⟨k + 1, _, by omega, by go_num, hown4, hnew, by simp; omega, hB3⟩
                case measure => simp [intOf]; omega
              · have hcp2 : j < cp := by omega
                go_wp2_with (at_builtin; refine wpList_append_own_at _ rfl _ _ 23 rfl w.heap.size 22 i0 (.int .u32 0) 1 4 Tryz.underlying23 hi hz0 hz1 hz2 rfl (by decide) _ _ _ rfl hown0 ⟨g, 0, none⟩ j _ (((ys.drop 0).take j).map (.int .u32)) rfl hl1 hn1 (ints_oneCell .u32 _) (by unfold maxLen; omega) (by omega) (by simp; omega) ?_)
                intro v1 w1 hown1 hgrow1 _ hloc1
                have hs1 := hgrow1.size
                simp only [World.size_alloc] at hs1
                have n1 : v1.ownBlock ≠ some g := fun e => by
                  rcases hloc1 with h | h
                  · rw [h] at e; simp [Value.ownBlock] at e; omega
                  · rw [h] at e; simp at e; omega
                have k1 : w1.heap[g]? = some (.cells cur 22 (0, 0)) := (hgrow1.block g (by simp; omega) (fun e => by simp [Value.ownBlock] at e; omega)).trans ((Below.heap_alloc _ _ _ hgl).trans hgb)
                have hB1 : Below w.heap.size w w1 := (hB0.alloc hbs _).grown hgrow1 (by simp; omega) (fun q e => (hown0.lt q e).1)
                go_wp2_with (at_builtin; refine wpList_append_own_at _ rfl _ _ 23 rfl w.heap.size 22 i0 (.int .u32 0) 1 4 Tryz.underlying23 hi hz0 hz1 hz2 rfl (by decide) _ _ _ rfl (hown1.alloc _) ⟨w1.heap.size, 0, none⟩ 1 1 [.int .u32 (x - x % 64)] rfl rfl (cell_one_new _ _ _) (ints_oneCell .u32 [x - x % 64]) (by unfold maxLen; omega) (by omega) (by simp; omega) ?_)
                intro v2 w2 hown2 hgrow2 _ hloc2
                have hs2 := hgrow2.size
                simp only [World.size_alloc] at hs2
                have n2 : v2.ownBlock ≠ some g := fun e => by
                  rcases hloc2 with h | h
                  · rw [h] at e; exact n1 e
                  · rw [h] at e; simp at e; omega
                have k2 : w2.heap[g]? = some (.cells cur 22 (0, 0)) := (hgrow2.block g (by simp; omega) (fun e => n1 e.symm)).trans ((Below.heap_alloc _ _ _ (by omega)).trans k1)
                have hB2 : Below w.heap.size w w2 := (hB1.alloc hB1.size _).grown hgrow2 (by have := hB1.size; simp; omega) (fun q e => (hown1.lt q e).1)
                go_wp2_with (at_builtin; refine wpList_append_own_at _ rfl _ _ 23 rfl w.heap.size 22 i0 (.int .u32 0) 1 4 Tryz.underlying23 hi hz0 hz1 hz2 rfl (by decide) _ _ _ rfl hown2 ⟨g, j, none⟩ 0 _ [] rfl rfl (fun i u hu => by simp at hu) (by simp) (by unfold maxLen; omega) (by omega) (by omega) ?_)
                intro v3 w3 hown3 hgrow3 _ _
                have hB3 : Hid (Below w.heap.size w w3) := hB2.grown hgrow3 hB2.size (fun q e => (hown2.lt q e).1)
                have hown4 : w3.ownsRow w.heap.size 22 1 v3 (ys.take j ++ [x - x % 64] ++ ys.drop j).length ((ys.take j ++ [x - x % 64] ++ ys.drop j).map (.int .u32)) := by
                  have e1 : (ys.take j ++ [x - x % 64] ++ ys.drop j).length = 0 + j + 1 + 0 := by simp; omega
                  have e2 : (ys.take j ++ [x - x % 64] ++ ys.drop j).map (Value.int .u32) = [] ++ ((ys.drop 0).take j).map (.int .u32) ++ [.int .u32 (x - x % 64)] ++ [] := by
                    rw [show ys.drop j = [] from List.drop_eq_nil_of_le (by omega)]; simp
                  rw [e1, e2]; simpa using hown3
                clear hown hown0 hown1 hown2 hown3 hgrow1 hgrow2 hgrow3 hloc1 hloc2 k1 k2 hn1 hB0 hB1 hB2 hnx
                go_wp2
                go_roundw
                case rel => exact ⟨k + 1, _, by omega, by go_num, hown4, hnew, by simp; omega, hB3⟩
                case measure => simp [intOf]; omega
    · go_wp2
      have : k = n := by omega
      subst this
      go_ret
      refine ⟨_, ys, rfl, hown, ?_, hyk, hnx.out⟩
      have := HI.out
      rwa [List.take_of_length_le (by have := HC.out.1; omega)] at this
end Go.Proofs.YtbfbaofhnnnohaaGreatDoor.freeGroups
