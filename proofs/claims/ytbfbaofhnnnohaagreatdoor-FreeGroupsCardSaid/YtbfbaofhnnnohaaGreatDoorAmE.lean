/- The abstract machine: a reflective evaluator for closed runs, and its soundness (texts 41 to 42 of it). -/
import Derived.Test.YtbfbaofhnnnohaaGreatDoorAmD
import Derived.Maps.Own
import Derived.Maps.Range
import Derived.Sort.KeysCollected
import Derived.Sort.Walk0
import Derived.Test.YtbfbaofhnnnohaaGreatDoorSlU
set_option linter.unusedVariables false
/- The abstract machine, part 41: the sorted keys of a map (strings), a map's keys in a row (uint32), by what the library's functions are shown to do elsewhere. -/
namespace Go.Proofs.YtbfbaofhnnnohaaGreatDoor
namespace Am
open Go.RowKit Go.Maps
variable {P : Program} {L0 : M} {m : M} {h h' : H} {w w' : World}

/-! ### what is looked at when it runs -/

/-- Entries in the order in which they were born. -/
def bornOk (clock : Nat) : Nat → List (Value × Value × Nat) → Bool
  | lo, [] => Nat.ble lo clock
  | lo, (_, _, b) :: l => match Nat.ble lo b with
    | true => bornOk clock (b + 1) l
    | false => false

def memN (g : Nat) : List Nat → Bool
  | [] => false
  | a :: l => match Nat.beq a g with
    | true => true
    | false => memN g l

def notIn (x : List UInt8) : List (List UInt8) → Bool
  | [] => true
  | a :: l => match bytesEq x a with
    | true => false
    | false => notIn x l

def distinct : List (List UInt8) → Bool
  | [] => true
  | a :: l => match Nat.ble (len8 a 0) 1000000 with
    | true => match notIn a l with
      | true => distinct l
      | false => false
    | false => false

def keysAt (gs : List Nat) (h : H) (v : Value) : Option (List Value) :=
  match v with
  | .func (.func g) ⟨[]⟩ ⟨[.pointer (some ⟨b, o, none⟩)]⟩ => match memN g gs with
    | true => match h.get b with
      | some (.cells cs _) => match nth cs o with
        | some (.map (some r)) => match h.get r with
          | some (.map es clock) => match bornOk clock 0 es, Nat.ble (lenN (es.map fun e => e.1) 0) 1000000 with
            | true, true => some (es.map fun e => e.1)
            | _, _ => none
          | _ => none
        | _ => none
      | _ => none
    | false => none
  | _ => none

def sumSortS (gs : List Nat) (args : List Value) (h : H) : Option (Value × H) :=
  match args with
  | [f] => match keysAt gs h f with
    | some l => match strsOf l with
      | some l => match distinct l with
        | true => rowOf h ((sortS l).map strOf)
        | false => none
      | none => none
    | none => none
  | _ => none

/-- A row of at most one key. -/
def oneU (l : List Value) : Bool :=
  match l with
  | [] => true
  | [.int .u32 (.ofNat n)] => Nat.ble (n + 1) 4294967296
  | _ => false

def sumAppU (gs : List Nat) (args : List Value) (h : H) : Option (Value × H) :=
  match args with
  | [.slice none 0 0, f] => match keysAt gs h f with
    | some l => match oneU l with
      | true => rowOf h l
      | false => none
    | none => none
  | _ => none

/-! ### a new block somewhere behind -/

theorem Rel.fresh {hp : Array Obj} {ob : AObj} {id : Nat} (r : Rel m h hp) (e : h.new ob = some (h', id)) {hp' : Array Obj} {g room : Nat} (hg : hp.size ≤ g) (hgl : g < hp'.size) (hsz : hp.size ≤ hp'.size)
    (hat : ∀ b, b < hp.size → hp'[b]? = hp[b]?) (ho : ORel (put m id ⟨g, 0, room⟩) ⟨g, 0, room⟩ hp' ob) :
    Rel (put m id ⟨g, 0, room⟩) h' hp' ∧ Ext m (put m id ⟨g, 0, room⟩) h h' hp hp' := by
  obtain ⟨rfl, hn, hlow⟩ := H.new_next e
  have hnone := r.none_next
  have hs := put_sub (l := ⟨g, 0, room⟩) hnone
  constructor
  · constructor
    · intro i l o hm hg'
      by_cases hi : i = h.next
      · subst hi
        rw [put_same] at hm; cases hm
        rw [H.new_get_same e] at hg'; cases hg'
        exact ho
      · rw [put_other _ _ _ hi] at hm
        rw [H.new_get_other e hi] at hg'
        exact ((r.obj i l o hm hg').sub hs).at (hat _ (r.bnd i l hm))
    · intro i l hm
      by_cases hi : i = h.next
      · subst hi; rw [put_same] at hm; cases hm; exact hgl
      · rw [put_other _ _ _ hi] at hm; have := r.bnd i l hm; omega
    · intro i l hm
      by_cases hi : i = h.next
      · omega
      · rw [put_other _ _ _ hi] at hm; have := r.dom i l hm; omega
    · intro i j l k hne hi hj hown ⟨o, hoj⟩
      by_cases ei : i = h.next
      · subst ei
        rw [put_same] at hi; cases hi
        rw [put_other _ _ _ (Ne.symm hne)] at hj
        have := r.bnd j k hj
        simp only; omega
      · by_cases ej : j = h.next
        · subst ej
          rw [put_same] at hj; cases hj
          rw [put_other _ _ _ ei] at hi
          have := r.bnd i l hi
          simp only; omega
        · rw [put_other _ _ _ ei] at hi
          rw [put_other _ _ _ ej] at hj
          obtain ⟨oi, hoi, hio⟩ := hown
          rw [H.new_get_other e ei] at hoi
          rw [H.new_get_other e ej] at hoj
          exact r.sep i j l k hne hi hj ⟨oi, hoi, hio⟩ ⟨o, hoj⟩
  · constructor
    · exact hs
    · omega
    · intro i l hm
      by_cases hi : i = h.next
      · exact .inr ⟨hi ▸ hnone, by omega⟩
      · rw [put_other _ _ _ hi] at hm; exact .inl hm
    · intro i l hm hmn
      by_cases hi : i = h.next
      · subst hi; rw [put_same] at hm; cases hm; exact .inl hg
      · rw [put_other _ _ _ hi] at hm; rw [hm] at hmn; cases hmn
    · exact hsz
    · intro b hb _; exact hat b hb
    · intro i hi ⟨o, hg', ho'⟩
      rw [H.new_get_other e (by omega)] at hg'
      exact ⟨o, hg', ho'⟩
    · omega
    · intro i hi _; exact H.new_get_other e (by omega)

theorem plains_same : ∀ {l : List Value}, (∀ v ∈ l, plain v = true) → VRels m l l
  | [], _ => .nil
  | v :: _, hl => .cons (.same (hl v (by simp))) (plains_same fun u hu => hl u (by simp [hu]))

/-- A row that the call has made, handed back. -/
theorem row_ends (R : Rel m h w.heap) (hb : Below w.heap.size w w') {t : TypeId} {v va : Value} {n : Nat} {xs : List Value} (hrow : w'.ownsRow w.heap.size t 1 v n xs)
    (hnil : v = .slice none 0 0 ↔ xs = []) (hp : ∀ x ∈ xs, plain x = true) (hr : rowOf h xs = some (va, h')) : Ends m h w (fun r => r = (va, h')) v w' := by
  obtain ⟨hlen, hrow⟩ := hrow
  unfold rowOf at hr
  split at hr
  · cases hr
    rw [hnil.2 rfl]
    obtain ⟨a, b⟩ := below_ends R hb
    exact ⟨_, _, m, rfl, .same rfl, a, b⟩
  · rename_i hne
    split at hr
    · rename_i h1 id hn
      cases hr
      rcases hrow with ⟨rfl, _⟩ | ⟨g, cap, cur, rfl, hbase, hgb, hc1, hc2, hc3, hc4⟩
      · exact absurd (hnil.1 rfl) hne
      · have hnone : m id = none := by rw [(H.new_next hn).1]; exact R.none_next
        have hgl : g < w'.heap.size := (Array.getElem?_eq_some_iff.1 hgb).1
        have hcs : cur.size = cap := by omega
        have hxl : xs.length = n := by omega
        obtain ⟨a, b⟩ := R.fresh (room := cap) hn hbase hgl hb.size (fun k hk => hb.block k hk)
          (row_orel (cs := cur) (t := t) (fz := (0, 0)) hgb (.inl rfl) rfl hcs.symm (by
            have : cur.toList.take xs.length = xs := by rw [hxl]; rw [Nat.mul_one] at hc4; exact hc4
            rw [this]; exact plains_same hp))
        refine ⟨_, _, _, rfl, ?_, a, ⟨b, ⟨hb.os, hb.tape, hb.output⟩⟩⟩
        have e1 : lenN xs 0 = n := by rw [lenN_eq]; omega
        rw [e1]
        exact .slice (l := ⟨g, 0, cap⟩) (put_same _ _ _) hc1 (.inr rfl) (by simp [CapOk])
    · cases hr

/-! ### a map of the machine's is a map that is owned -/

def anyElem : Value → Option (DataW Unit × List MemPlace) := fun _ => some (.nil, [])

theorem born_spec {clock : Nat} : ∀ {es : List (Value × Value × Nat)} {lo : Nat}, bornOk clock lo es = true → lo ≤ clock ∧ (∀ e ∈ es, lo ≤ e.2.2 ∧ e.2.2 < clock) ∧ (es.map fun e => e.2.2).Nodup
  | [], lo, h => by
    simp only [bornOk] at h
    exact ⟨Nat.le_of_ble_eq_true h, by simp, by simp⟩
  | (k, v, b) :: l, lo, h => by
    unfold bornOk at h
    split at h
    · rename_i hb
      have hb := Nat.le_of_ble_eq_true hb
      obtain ⟨h1, h2, h3⟩ := born_spec h
      refine ⟨by omega, ?_, ?_⟩
      · intro e he
        rcases List.mem_cons.1 he with rfl | he
        · exact ⟨hb, by simp only; omega⟩
        · have := h2 e he; omega
      · rw [List.map_cons, List.nodup_cons]
        refine ⟨?_, h3⟩
        intro hm
        obtain ⟨e, he, heq⟩ := List.mem_map.1 hm
        have := h2 e he
        simp only at heq
        omega
    · cases h

theorem memN_mem {g : Nat} : ∀ {l : List Nat}, memN g l = true → g ∈ l
  | [], h => by cases h
  | a :: l, h => by
    unfold memN at h
    split at h
    · rename_i hb
      rw [Nat.eq_of_beq_eq_true hb]; simp
    · exact List.mem_cons_of_mem _ (memN_mem h)

theorem notIn_spec {x : List UInt8} : ∀ {l : List (List UInt8)}, notIn x l = true → x ∉ l
  | [], _ => by simp
  | a :: l, h => by
    unfold notIn at h
    split at h
    · cases h
    · rename_i hb
      rw [bytesEq_eq] at hb
      have := notIn_spec h
      simp at hb
      simp [hb, this]

theorem distinct_spec : ∀ {l : List (List UInt8)}, distinct l = true → l.Nodup ∧ ∀ x ∈ l, x.length ≤ 1000000
  | [], _ => by simp
  | a :: l, h => by
    unfold distinct at h
    split at h
    · rename_i hb
      have hb := Nat.le_of_ble_eq_true hb
      rw [len8_eq] at hb
      split at h
      · rename_i hn
        obtain ⟨h1, h2⟩ := distinct_spec h
        refine ⟨List.nodup_cons.2 ⟨notIn_spec hn, h1⟩, ?_⟩
        intro x hx
        rcases List.mem_cons.1 hx with rfl | hx
        · omega
        · exact h2 x hx
      · cases h
    · cases h

theorem ERels.keys {es : List (Value × Value × Nat)} {es' : List MapEntry} (h : ERels m es es') (hp : ∀ e ∈ es, plain e.1 = true) : es'.map (·.key) = es.map (fun e => e.1) ∧ es'.map (·.born) = es.map (fun e => e.2.2) := by
  induction h with
  | nil => exact ⟨rfl, rfl⟩
  | @cons k v k' v' b l l' hk _ _ ih =>
    obtain ⟨h1, h2⟩ := ih fun e he => hp e (by simp [he])
    have : plain k = true := hp _ (List.mem_cons_self ..)
    have hkk : k' = k := by
      cases k <;> simp [plain] at this <;> cases hk <;> first | rfl | simp_all [plain]
    subst hkk
    exact ⟨by rw [List.map_cons, List.map_cons, h1], by rw [List.map_cons, List.map_cons, h2]⟩

/-- What stands behind 'keysAt': the map's box, the map. -/
theorem keysAt_spec (R : Rel m h w.heap) {gs : List Nat} {f f' : Value} {ks : List Value} (hk : keysAt gs h f = some ks) (hf : VRel m f f') (hpl : ∀ v ∈ ks, plain v = true) :
    ∃ (g Bm o b : Nat) (es : Array MapEntry) (clock : Nat), memN g gs = true ∧ f' = .func (.func g) #[] #[.pointer (some ⟨Bm, o, none⟩)] ∧ Bm < w.heap.size ∧ w.cell? ⟨Bm, o, none⟩ = some (.map (some b)) ∧
      w.heap[b]? = some (.map es clock) ∧ es.toList.map (·.key) = ks ∧ es.size ≤ 1000000 ∧ (∀ x ∈ es.toList, x.born < clock) ∧ (es.toList.map (·.born)).Nodup := by
  unfold keysAt at hk
  split at hk
  · rename_i g b o
    split at hk
    · rename_i hg
      split at hk
      · rename_i cs ow hgb
        split at hk
        · rename_i r hn
          split at hk
          · rename_i es clock hgr
            split at hk
            · rename_i k1 k2
              cases hk
              have k2 := Nat.le_of_ble_eq_true k2
              rw [lenN_eq, List.length_map] at k2
              obtain ⟨_, hb2, hb3⟩ := born_spec k1
              obtain ⟨f1, c1, rfl, hf1, hc1⟩ := hf.func_inv
              have ef : f1 = #[] := by
                have := hf1.length
                exact Array.eq_empty_of_size_eq_zero (by simpa using this.symm)
              subst ef
              obtain ⟨cl⟩ := c1
              cases hc1 with
              | cons hp ht =>
                cases ht with
                | nil =>
                  obtain ⟨b', o', l, ha, hmb, rfl⟩ := hp.ptr_inv
                  cases ha
                  obtain ⟨cs', e, fz, hcs, _, _, hcells⟩ := R.obj _ l _ hmb hgb
                  rw [nth_eq] at hn
                  obtain ⟨v', g1, g2⟩ := hcells _ _ hn
                  obtain ⟨lr, hmr, rfl⟩ := g2.map_inv
                  obtain ⟨_, es', hes, hE⟩ := R.obj _ lr _ hmr hgr
                  obtain ⟨e1, e2⟩ := hE.keys (fun e he => hpl _ (List.mem_map.2 ⟨e, he, rfl⟩))
                  refine ⟨g, l.blk, l.off + o, lr.blk, ⟨es'⟩, clock, hg, rfl, R.bnd _ _ hmb, ?_, hes, e1, ?_, ?_, ?_⟩
                  · simp only [World.cell?, hcs, Option.isSome_none, Bool.false_eq_true, if_false]
                    exact g1
                  · have := hE.length
                    simp; omega
                  · intro x hx
                    have hx' : x.born ∈ es'.map (·.born) := List.mem_map.2 ⟨x, hx, rfl⟩
                    rw [e2] at hx'
                    obtain ⟨e, he, hee⟩ := List.mem_map.1 hx'
                    have := hb2 e he
                    omega
                  · show (es'.map (·.born)).Nodup
                    rw [e2]; exact hb3
            · cases hk
          · cases hk
        · cases hk
      · cases hk
    · cases hk
  · cases hk

theorem plain_str {l : List (List UInt8)} {ks : List Value} (h : strsOf ks = some l) : ∀ v ∈ ks, plain v = true := by
  rw [strsOf_spec h]
  intro v hv
  obtain ⟨x, _, rfl⟩ := List.mem_map.1 hv
  rfl

theorem encStr_eq (x : List UInt8) : strOf x = encStr x := rfl

/-- A map with strings for keys. -/
theorem owns_strs {es : Array MapEntry} {clock b : Nat} {t : TypeId} (ht : P.underlying t = some .string) (hb : w.heap[b]? = some (.map es clock)) {l : List (List UInt8)} (hk : strsOf (es.toList.map (·.key)) = some l)
    (hn : es.size ≤ 1000000) (h1 : ∀ x ∈ es.toList, x.born < clock) (h2 : (es.toList.map (·.born)).Nodup) (hd : distinct l = true) :
    ∃ D : DataW Unit, w.ownsMap P t anyElem b es.size D ∧ (strKeys D).Perm l ∧ Maps.size D = es.size := by
  obtain ⟨d1, d2⟩ := distinct_spec hd
  have hks := strsOf_spec hk
  have hrd : ∀ x ∈ es.toList, ∃ s ∈ l, WideElems.rd P t anyElem x = some (.string s, .nil) := by
    intro x hx
    have hx' : x.key ∈ es.toList.map (·.key) := List.mem_map.2 ⟨x, hx, rfl⟩
    rw [hks] at hx'
    obtain ⟨s, hs, hse⟩ := List.mem_map.1 hx'
    refine ⟨s, hs, ?_⟩
    have hlen : (⟨⟨s⟩⟩ : ByteArray).size ≤ maxLen := by
      have := d2 s hs
      have e1 : (⟨⟨s⟩⟩ : ByteArray).size = s.length := rfl
      have e2 : maxLen = 9223372036854775807 := rfl
      omega
    have hkey : keyOf P t x.key = some (.string s) := by
      rw [← hse]
      have := WideMaps.keyOf_string_mk ht (s := ⟨⟨s⟩⟩) hlen
      simpa using this
    simp [WideElems.rd, hkey, anyElem]
  have hnk : (es.toList.map (·.key)).Nodup := by
    rw [hks]
    refine List.Pairwise.map _ ?_ d1
    intro a c hac e
    apply hac
    cases e; rfl
  refine ⟨_, ⟨es, clock, hb, ⟨?_, ⟨h1, h2, hnk⟩, fun x hx => ?_⟩, Nat.le_refl _, rfl⟩, ?_, ?_⟩
  · have e2 : maxLen = 9223372036854775807 := rfl
    omega
  · obtain ⟨s, _, h⟩ := hrd x hx
    exact ⟨_, h⟩
  · show (((es.toList.map (WideElems.rg P t anyElem)).foldr DataW.insert []).map fun p => Go.strOf p.1).Perm l
    refine ((WideShapes.sorted_perm _).map _).trans ?_
    rw [List.map_map]
    have : es.toList.map ((fun p => Go.strOf p.1) ∘ WideElems.rg P t anyElem) = l := by
      have e3 : (es.toList.map ((fun p => Go.strOf p.1) ∘ WideElems.rg P t anyElem)).map (fun b => Value.string ⟨⟨b⟩⟩) = l.map fun b => .string ⟨⟨b⟩⟩ := by
        rw [← hks, List.map_map]
        refine List.map_congr_left fun x hx => ?_
        obtain ⟨s, _, hr⟩ := hrd x hx
        have hx' : x.key ∈ es.toList.map (·.key) := List.mem_map.2 ⟨x, hx, rfl⟩
        rw [hks] at hx'
        obtain ⟨s', hs', hse⟩ := List.mem_map.1 hx'
        have hkey := WideElems.rd_key hr
        rw [← hse] at hkey ⊢
        have hlen : (⟨⟨s'⟩⟩ : ByteArray).size ≤ maxLen := by
          have := d2 s' hs'
          have e1 : (⟨⟨s'⟩⟩ : ByteArray).size = s'.length := rfl
          have e2 : maxLen = 9223372036854775807 := rfl
          omega
        rw [WideMaps.keyOf_string_mk ht (s := ⟨⟨s'⟩⟩) hlen] at hkey
        simp at hkey
        subst hkey
        simp [WideElems.rg, hr, Go.strOf]
      exact (List.map_inj_right (f := fun b : List UInt8 => Value.string ⟨⟨b⟩⟩) (fun x y e => by cases e; rfl)).1 e3
    rw [this]
  · show ((es.toList.map (WideElems.rg P t anyElem)).foldr DataW.insert []).length = es.size
    rw [(WideShapes.sorted_perm _).length_eq]; simp

/-! ### the sorting -/

theorem insS_perm (k : List UInt8) : ∀ l : List (List UInt8), (insS k l).Perm (k :: l)
  | [] => List.Perm.refl _
  | a :: l => by
    unfold insS
    split
    · exact List.Perm.refl _
    · exact ((insS_perm k l).cons a).trans (List.Perm.swap ..)

theorem sortS_perm : ∀ l : List (List UInt8), (sortS l).Perm l
  | [] => List.Perm.refl _
  | a :: l => (insS_perm a _).trans ((sortS_perm l).cons a)

theorem insS_sorted (k : List UInt8) : ∀ {l : List (List UInt8)}, l.Pairwise (fun a b => leB a b = true) → (insS k l).Pairwise (fun a b => leB a b = true)
  | [], _ => by simp [insS]
  | a :: l, h => by
    obtain ⟨h1, h2⟩ := List.pairwise_cons.1 h
    unfold insS
    split
    · rename_i hb
      rw [bytesLt_eq, bytesLess_eq] at hb
      have hka : k ≤ a := List.le_of_lt (by simpa using hb)
      refine List.pairwise_cons.2 ⟨fun x hx => ?_, h⟩
      rcases List.mem_cons.1 hx with rfl | hx
      · simpa [leB] using hka
      · have := h1 x hx
        simp only [leB, decide_eq_true_eq] at this ⊢
        exact List.le_trans hka this
    · rename_i hb
      rw [bytesLt_eq, bytesLess_eq] at hb
      have hak : a ≤ k := by
        simp only [decide_eq_false_iff_not] at hb
        exact List.not_lt.1 hb
      refine List.pairwise_cons.2 ⟨fun x hx => ?_, insS_sorted k h2⟩
      rcases List.mem_cons.1 ((insS_perm k l).mem_iff.1 hx) with rfl | hx
      · simpa [leB] using hak
      · exact h1 x hx

theorem sortS_sorted : ∀ l : List (List UInt8), (sortS l).Pairwise (fun a b => leB a b = true)
  | [] => by simp [sortS]
  | a :: l => insS_sorted a (sortS_sorted l)

theorem sortS_eq {l ss : List (List UInt8)} (hp : ss.Perm l) : sortS l = ss.mergeSort (fun x y => decide (x ≤ y)) := by
  have tr : ∀ a b c : List UInt8, leB a b = true → leB b c = true → leB a c = true := fun a b c h1 h2 => by simp only [leB, decide_eq_true_eq] at *; exact List.le_trans h1 h2
  have to : ∀ a b : List UInt8, (leB a b || leB b a) = true := fun a b => by simp only [leB, Bool.or_eq_true, decide_eq_true_eq]; exact List.le_total a b
  refine List.Perm.eq_of_pairwise (le := fun a b => leB a b = true) (fun a b _ _ h1 h2 => ?_) (sortS_sorted l) (List.pairwise_mergeSort tr to ss) ((sortS_perm l).trans (hp.symm.trans (List.mergeSort_perm ss leB).symm))
  simp only [leB, decide_eq_true_eq] at h1 h2
  exact List.le_antisymm h1 h2

/-! ### the summaries -/

theorem sumSortS_ok {f : FuncId} {gs : List Nat} {t : TypeId} (hcall : ∀ args w, (callFunc f args).run P w = .ok (.enter f args) w) (ht : P.underlying t = some .string)
    (hc : ∀ g, memN g gs = true → ∀ (Bm o b nn : Nat) (D0 : DataW Unit) (w : World), Bm < w.heap.size → w.cell? ⟨Bm, o, none⟩ = some (.map (some b)) → w.ownsMap P t anyElem b nn D0 → Maps.size D0 ≤ 1000000 →
      Calls P f #[.func (.func g) #[] #[.pointer (some ⟨Bm, o, none⟩)]] w fun e w' => ∃ (v : Value) (ss : List (List UInt8)), e = .returned v ∧ ss.Perm (strKeys D0) ∧
        w'.ownsRow w.heap.size t 1 v ss.length ((ss.mergeSort (fun x y => decide (x ≤ y))).map encStr) ∧ (v = .slice none 0 0 ↔ ss = []) ∧ Below w.heap.size w w') : SumOk P L0 f (sumSortS gs) := by
  intro args h v h' hg m w args' _ R hr
  unfold sumSortS at hg
  split at hg
  · split at hg
    · rename_i ks hk
      split at hg
      · rename_i l hl
        split at hg
        · rename_i hd
          cases hr with
          | cons h1 tl => cases tl with
            | nil =>
              obtain ⟨g, Bm, o, b, es, clock, k1, rfl, k2, k3, k4, k5, k6, k7, k8⟩ := keysAt_spec R hk h1 (plain_str hl)
              obtain ⟨D, hD, hDp, hDs⟩ := owns_strs ht k4 (by rw [k5]; exact hl) k6 k7 k8 hd
              refine upon_enter hcall ((hc g k1 Bm o b _ D w k2 k3 hD (by omega)).mono ?_)
              rintro e w' ⟨v', ss, rfl, hS, hrow, hnil, hbw⟩
              refine ⟨v', rfl, ?_⟩
              have e1 : (sortS l).map Am.strOf = (ss.mergeSort (fun x y => decide (x ≤ y))).map encStr := by
                rw [sortS_eq (hS.trans hDp)]; rfl
              rw [e1] at hg
              refine row_ends R hbw hrow ?_ ?_ hg
              · rw [hnil, List.map_eq_nil_iff]
                constructor
                · rintro rfl; simp
                · intro h0
                  have := (List.mergeSort_perm ss (fun x y => decide (x ≤ y))).length_eq
                  rw [h0] at this
                  exact List.eq_nil_of_length_eq_zero this.symm
              · intro x hx
                obtain ⟨y, _, rfl⟩ := List.mem_map.1 hx
                rfl
        · cases hg
      · cases hg
    · cases hg
  · cases hg

end Am
end Go.Proofs.YtbfbaofhnnnohaaGreatDoor

/- The abstract machine, part 42: slices.AppendSeq of at most one key of the kind uint32. -/
namespace Go.Proofs.YtbfbaofhnnnohaaGreatDoor
namespace Am
open Go.RowKit Go.Maps
variable {P : Program} {L0 : M} {m : M} {h h' : H} {w w' : World}

theorem one_spec {ks : List Value} (h : oneU ks = true) : ks = [] ∨ ∃ n : Nat, n < 4294967296 ∧ ks = [.int .u32 n] := by
  unfold oneU at h
  split at h
  · exact .inl rfl
  · rename_i n
    exact .inr ⟨n, Nat.le_of_ble_eq_true h, rfl⟩
  · cases h

theorem owns_one {es : Array MapEntry} {clock b : Nat} {t : TypeId} (ht : P.underlying t = some (.int .u32)) (hb : w.heap[b]? = some (.map es clock)) {ks : List Value} (hk : es.toList.map (·.key) = ks) (ho : oneU ks = true)
    (h1 : ∀ x ∈ es.toList, x.born < clock) (h2 : (es.toList.map (·.born)).Nodup) :
    ∃ D : DataW Unit, w.ownsMap P t anyElem b es.size D ∧ (uKeys D).map encU = ks ∧ Maps.size D ≤ 1 := by
  have hnk : (es.toList.map (·.key)).Nodup := by
    rw [hk]
    rcases one_spec ho with rfl | ⟨n, _, rfl⟩ <;> simp
  have hmax : maxLen = 9223372036854775807 := rfl
  rcases one_spec ho with rfl | ⟨n, hn, rfl⟩
  · have he : es.toList = [] := List.map_eq_nil_iff.1 hk
    have hsz : es.size = 0 := by rw [← Array.length_toList, he]; rfl
    refine ⟨_, ⟨es, clock, hb, ⟨by omega, ⟨h1, h2, hnk⟩, fun x hx => ?_⟩, Nat.le_refl _, rfl⟩, ?_, ?_⟩
    · rw [he] at hx; cases hx
    · rw [he]; rfl
    · rw [he]; exact Nat.zero_le _
  · obtain ⟨x, he, hx⟩ : ∃ x, es.toList = [x] ∧ x.key = .int .u32 n := by
      cases hes : es.toList with
      | nil => rw [hes] at hk; cases hk
      | cons x l =>
        rw [hes] at hk
        cases l with
        | nil => exact ⟨x, rfl, by simpa using hk⟩
        | cons y l => simp at hk
    have hsz : es.size = 1 := by rw [← Array.length_toList, he]; rfl
    have hwf : (Lit.int .u32 (n : Int)).wf = true := by
      have e1 : IntKind.u32.min = 0 := by decide
      have e2 : IntKind.u32.max = 4294967295 := by decide
      simp only [Lit.wf, e1, e2, Bool.and_eq_true, decide_eq_true_eq]
      omega
    have hkey : keyOf P t x.key = some (.int .u32 n) := by rw [hx]; exact keyOf_int_mk ht hwf
    have hrd : WideElems.rd P t anyElem x = some (.int .u32 n, .nil) := by simp [WideElems.rd, hkey, anyElem]
    refine ⟨_, ⟨es, clock, hb, ⟨by omega, ⟨h1, h2, hnk⟩, fun y hy => ?_⟩, Nat.le_refl _, rfl⟩, ?_, ?_⟩
    · rw [he] at hy
      have : y = x := by simpa using hy
      subst this
      exact ⟨_, hrd⟩
    · rw [he]
      simp [WideElems.rg, hrd, DataW.insert, uKeys, uOf]
    · rw [he]
      simp [Maps.size, DataW.insert]

theorem sumAppU_ok {f : FuncId} {gs : List Nat} {t : TypeId} (hcall : ∀ args w, (callFunc f args).run P w = .ok (.enter f args) w) (ht : P.underlying t = some (.int .u32))
    (hc : ∀ g, memN g gs = true → ∀ (Bm o b nn : Nat) (D0 : DataW Unit) (w : World), Bm < w.heap.size → w.cell? ⟨Bm, o, none⟩ = some (.map (some b)) → w.ownsMap P t anyElem b nn D0 → Maps.size D0 ≤ 1000000 →
      Calls P f #[.slice none 0 0, .func (.func g) #[] #[.pointer (some ⟨Bm, o, none⟩)]] w fun e w' => ∃ (v : Value) (ss : List Int), e = .returned v ∧ ss.Perm (uKeys D0) ∧
        w'.ownsRow w.heap.size t 1 v ss.length (ss.map encU) ∧ (v = .slice none 0 0 ↔ ss = []) ∧ Below w.heap.size w w') : SumOk P L0 f (sumAppU gs) := by
  intro args h v h' hg m w args' _ R hr
  unfold sumAppU at hg
  split at hg
  · split at hg
    · rename_i ks hk
      split at hg
      · rename_i ho
        cases hr with
        | cons h0 tl => cases tl with
          | cons h1 tl => cases tl with
            | nil =>
              obtain ⟨rfl, _, _⟩ := h0.nils_inv
              have hpl : ∀ v ∈ ks, plain v = true := by
                rcases one_spec ho with rfl | ⟨n, _, rfl⟩
                · intro v hv; cases hv
                · intro v hv
                  have : v = .int .u32 n := by simpa using hv
                  subst this; rfl
              obtain ⟨g, Bm, o, b, es, clock, k1, rfl, k2, k3, k4, k5, k6, k7, k8⟩ := keysAt_spec R hk h1 hpl
              obtain ⟨D, hD, hDk, hDs⟩ := owns_one ht k4 k5 ho k7 k8
              refine upon_enter hcall ((hc g k1 Bm o b _ D w k2 k3 hD (by omega)).mono ?_)
              rintro e w' ⟨v', ss, rfl, hS, hrow, hnil, hbw⟩
              refine ⟨v', rfl, ?_⟩
              have hss : ss = uKeys D := by
                rcases one_spec ho with h0 | ⟨n, _, h0⟩
                · rw [h0] at hDk
                  rw [List.map_eq_nil_iff.1 hDk] at hS ⊢
                  exact List.perm_nil.1 hS
                · rw [h0] at hDk
                  obtain ⟨x, l, hu, _, hl⟩ := List.map_eq_cons_iff.1 hDk
                  rw [List.map_eq_nil_iff.1 hl] at hu
                  rw [hu] at hS ⊢
                  exact List.perm_singleton.1 hS
              rw [← hss] at hDk
              rw [hDk] at hrow
              refine row_ends R hbw hrow ?_ hpl hg
              rw [hnil, ← hDk, List.map_eq_nil_iff]
      · cases hg
    · cases hg
  · cases hg

end Am
end Go.Proofs.YtbfbaofhnnnohaaGreatDoor
