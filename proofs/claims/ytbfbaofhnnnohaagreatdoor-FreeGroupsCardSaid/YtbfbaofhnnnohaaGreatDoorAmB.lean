/- The abstract machine: a reflective evaluator for closed runs, and its soundness (texts 12 to 19 of it). -/
import Derived.Test.YtbfbaofhnnnohaaGreatDoorAmA
import Derived.Laws.Cells
import Derived.Deep.AppendSrc
import Derived.Laws.RangeString
set_option linter.unusedVariables false
/- The abstract machine, part 12: keys among a map's entries. -/
namespace Go.Proofs.YtbfbaofhnnnohaaGreatDoor
namespace Am
variable {P : Program} {ty : Ty} {m : M} {w : World}

theorem cellEq_rel {a b b' : Value} {r : Bool} (h : cellEq a b = some r) (hb : VRel m b b') : b' = b := by
  unfold cellEq at h
  split at h
  · exact hb.int_inv
  · exact hb.string_inv
  · exact hb.bool_inv
  · cases h

theorem keyEq_rel {a b b' : Value} {r : Bool} (h : keyEq a b = some r) (hb : VRel m b b') : keyEq a b' = some r := by
  have h0 := h
  unfold keyEq at h
  split at h
  · split at h
    · obtain ⟨c', rfl, hc⟩ := hb.agg_inv
      simp only [keyEq]
      exact cellsEq_rel h hc
    · cases h
  · split at h
    · cases h
    · rw [cellEq_rel h hb]
      exact h0

/-- What a search hands back, here and there. -/
def FRel (m : M) : Option (Nat × Value) → Option (Nat × Value) → Prop
  | none, none => True
  | some (i, v), some (j, v') => i = j ∧ VRel m v v'
  | _, _ => False

theorem findAsking_snd (hT : TyOk P ty) {t : TypeId} {kn : Ky} (hk : keyType ty t = some kn) {kv : Value} (hkv : keyOk kn kv = true) : ∀ {es : List (Value × Value × Nat)} {es' : List MapEntry} {i : Nat}
    {r : Option (Nat × Value)}, ERels m es es' → findE kv es i = some r → ∃ r', (Instr.findAsking t kv es' i).run P w = .ok r' w ∧ FRel m r r'
  | [], _, i, r, h, hf => by
    cases h
    simp only [findE] at hf; cases hf
    exact ⟨none, rfl, trivial⟩
  | (k, v, b) :: es, _, i, r, h, hf => by
    cases h with
    | cons hkr hvr t' =>
      simp only [findE] at hf
      split at hf
      · rename_i he
        cases hf
        rename_i k' v' l' _
        have := key_equal hT hk hkv (keyEq_rel he hkr) w
        refine ⟨some (i, v'), by simp [Instr.findAsking, this], ?_⟩
        exact ⟨rfl, hvr⟩
      · rename_i he
        have := key_equal hT hk hkv (keyEq_rel he hkr) w
        obtain ⟨r', h1, h2⟩ := findAsking_snd hT hk hkv t' hf
        exact ⟨r', by simp [Instr.findAsking, this, h1], h2⟩
      · cases hf

theorem sameNow_snd {d : TypeDesc} {k b b' : Value} {q r : Bool} (h : Instr.sameNow d k b' = some q) (he : keyEq k b = some r) (hb : VRel m b b') : q = r := by
  have he' := keyEq_rel he hb
  unfold Instr.sameNow at h
  split at h
  · split at h
    · rename_i hkk
      cases h
      simp only [keyEq, cellEq] at he'
      split at he'
      · cases he'; rw [eqI_eq]
      · cases he'
    · cases h
  · cases h
    simp only [keyEq, cellEq] at he'
    cases he'
    rw [bytesEq_eq, beq_toListBytes, ByteArray.toList_eq, ByteArray.toList_eq]; rfl
  · cases h
    simp only [keyEq, cellEq] at he'
    cases he'; rfl
  · cases h

theorem findNow_snd {d : TypeDesc} {kv : Value} : ∀ {es : List (Value × Value × Nat)} {es' : List MapEntry} {i : Nat} {q r : Option (Nat × Value)}, ERels m es es' →
    Instr.findNow d kv es' i = some q → findE kv es i = some r → FRel m r q
  | [], _, i, q, r, h, hq, hf => by
    cases h
    simp only [findE] at hf; cases hf
    simp only [Instr.findNow] at hq; cases hq
    trivial
  | (k, v, b) :: es, _, i, q, r, h, hq, hf => by
    cases h with
    | cons hkr hvr t' =>
      simp only [Instr.findNow] at hq
      simp only [findE] at hf
      split at hq
      · rename_i hs
        cases hq
        split at hf
        · cases hf; exact ⟨rfl, hvr⟩
        · rename_i he
          have := sameNow_snd hs he hkr
          cases this
        · cases hf
      · rename_i hs
        split at hf
        · rename_i he
          have := sameNow_snd hs he hkr
          cases this
        · exact findNow_snd t' hq hf
        · cases hf
      · cases hq

theorem findKey_snd (hT : TyOk P ty) {t : TypeId} {kn : Ky} (hk : keyType ty t = some kn) {kv : Value} (hkv : keyOk kn kv = true) {es : List (Value × Value × Nat)} {es' : List MapEntry}
    {r : Option (Nat × Value)} (h : ERels m es es') (hf : findE kv es 0 = some r) (w : World) : ∃ r', (Instr.findKey t kv es').run P w = .ok r' w ∧ FRel m r r' := by
  have hk' := hk
  unfold keyType at hk'
  split at hk'
  · rename_i i hi
    have K := hT.knows hi
    unfold Instr.findKey
    simp only [Sem.run_bind, K.und, Result.andThen_ok]
    split
    · rename_i q hq
      exact ⟨q, rfl, findNow_snd h hq hf⟩
    · exact findAsking_snd hT hk hkv h hf
  · cases hk'

theorem checkFields_snd (hT : TyOk P ty) (b : Bool) (n : Nat) (cs : Array Value) : ∀ (fs : List Field) (off : Nat) (ks : List Nat) (l : List Value) (w : World), flatFields ty fs off = some ks →
    cs.toList.drop off = l → fitAll ks l = true →
    (forIn (m := Sem) fs PUnit.unit fun f _ => do
      if f.name ≠ "_" then
        let x ← part f.type cs f.offset
        Instr.checkKey b (n + 1) f.type x
        pure (ForInStep.yield PUnit.unit)
      else pure (ForInStep.yield PUnit.unit)).run P w = .ok PUnit.unit w
  | [], _, _, _, w, _, _, _ => rfl
  | f :: fs, off, ks, l, w, hf, hl, hk => by
    simp only [flatFields] at hf
    split at hf
    · rename_i i hi
      split at hf
      · rename_i k' ks' h1 h2 h3
        cases hf
        simp only [Bool.and_eq_true, Bool.not_eq_true'] at h2
        have hoff := Nat.eq_of_beq_eq_true h2.1
        have hname : f.name ≠ "_" := by simpa using h2.2
        cases l with
        | nil => simp [fitAll] at hk
        | cons x l =>
          have ⟨gx, dx⟩ := drop_get hl
          have K := hT.knows hi
          have px : ∀ w, (part f.type cs f.offset).run P w = .ok x w := fun w => part_cell K h1 (by rw [hoff]; simpa using gx) w
          unfold fitAll at hk
          cases hv : fitCell k' x <;> rw [hv] at hk
          · cases hk
          · have hck : ∀ w, (Instr.checkKey b (n + 1) f.type x).run P w = .ok () w := by
              intro w
              simp only [Instr.checkKey, Sem.run_bind, K.und, Result.andThen_ok]
              revert h1
              cases i.d <;> intro h1 <;> simp only [flatScalar] at h1 <;> cases h1 <;> rfl
            have ih := checkFields_snd hT b n cs fs (off + 1) ks' l
            simp only [List.forIn_cons, hname, ne_eq, not_false_eq_true, if_true, Sem.run_bind, px, hck, Result.andThen_ok, Sem.run_pure]
            exact ih w h3 dx hk
      · cases hf
    · cases hf

theorem checkKey_snd (hT : TyOk P ty) {t : TypeId} {kn : Ky} (hk : keyType ty t = some kn) {kv : Value} (hkv : keyOk kn kv = true) (b : Bool) (w : World) :
    (Instr.checkKey b 10000 t kv).run P w = .ok () w := by
  have hd : 10000 = 9998 + 2 := rfl
  rw [hd]
  generalize 9998 = d
  unfold keyType at hk
  split at hk
  · rename_i i hi
    have K := hT.knows hi
    split at hk
    · rename_i k hs
      cases hk
      simp only [Instr.checkKey, Sem.run_bind, K.und, Result.andThen_ok]
      revert hs
      cases i.d <;> intro hs <;> simp only [flatScalar] at hs <;> cases hs <;> rfl
    · split at hk
      · rename_i ks hf
        cases hk
        unfold flatStruct at hf
        split at hf
        · rename_i fs hdd
          split at hf
          · cases hf
          · simp only [keyOk] at hkv
            split at hkv
            · rename_i cs
              have := checkFields_snd hT b d cs fs.toList 0 ks _ w hf (by simp) hkv
              rw [Instr.checkKey]
              simp only [Sem.run_bind, K.und, hdd, Result.andThen_ok]
              rw [← Array.forIn_toList]
              rw [this]; rfl
            · cases hkv
        · cases hf
      · cases hk
  · cases hk

end Am
end Go.Proofs.YtbfbaofhnnnohaaGreatDoor

/- The abstract machine, part 13: operations that read the heap. -/
namespace Go.Proofs.YtbfbaofhnnnohaaGreatDoor
namespace Am
variable {P : Program} {ty : Ty} {m : M} {e : Env} {a : Act} {n : Nat} {x : Oper} {v : Value} {w : World} {h : H}

theorem cell_read (R : Rel m h w.heap) {b : Nat} {l : Loc} {c : List Value} {ow : Bool} (hm : m b = some l) (hg : h.get b = some (.cells c ow)) {j : Nat} {u : Value} (hj : c[j]? = some u) :
    ∃ u', w.cell? ⟨l.blk, l.off + j, none⟩ = some u' ∧ VRel m u u' := by
  obtain ⟨cs, ee, fz, h1, _, _, h4⟩ := R.obj b l _ hm hg
  obtain ⟨u', g1, g2⟩ := h4 j u hj
  exact ⟨u', by simp [World.cell?, h1, g1], g2⟩

theorem row_read (R : Rel m h w.heap) {b : Nat} {l : Loc} {c : List Value} {ow : Bool} (hm : m b = some l) (hg : h.get b = some (.cells c ow)) {o k : Nat} (hk : o + k ≤ c.length) :
    ∃ vs : List Value, vs.length = k ∧ VRels m ((c.drop o).take k) vs ∧ ∀ j u, vs[j]? = some u → w.cell? ((⟨l.blk, l.off + o, none⟩ : Addr).add j) = some u := by
  obtain ⟨cs, ee, fz, h1, _, _, h4⟩ := R.obj b l _ hm hg
  have hlen : l.off + o + k ≤ cs.size ∨ k = 0 := by
    by_cases h0 : k = 0
    · exact .inr h0
    · left
      have hj : o + (k - 1) < c.length := by omega
      obtain ⟨u', g1, _⟩ := h4 (o + (k - 1)) c[o + (k - 1)] (List.getElem?_eq_getElem hj)
      have := (Array.getElem?_eq_some_iff.1 g1).1
      omega
  have hl' : ((cs.toList.drop (l.off + o)).take k).length = k := by
    simp
    rcases hlen with hh | hh <;> omega
  refine ⟨(cs.toList.drop (l.off + o)).take k, hl', ?_, ?_⟩
  · refine VRels.of_get (by rw [hl']; simp; omega) fun i u hu => ?_
    rw [List.getElem?_take] at hu
    split at hu
    · rename_i hi
      rw [List.getElem?_drop] at hu
      obtain ⟨u', g1, g2⟩ := h4 _ u hu
      refine ⟨u', ?_, g2⟩
      rw [List.getElem?_take, if_pos hi, List.getElem?_drop]
      simpa [Nat.add_assoc] using g1
    · cases hu
  · intro j u hu
    rw [List.getElem?_take] at hu
    split at hu
    · rw [List.getElem?_drop] at hu
      rw [add_none]
      have : cs[l.off + o + j]? = some u := by simpa using hu
      simp [World.cell?, h1, this]
    · cases hu

theorem loadVar_snd {t : TypeId} {i : TI} (K : Knows P t i) (R : Rel m h w.heap) {b o : Nat} {l : Loc} (hm : m b = some l) {u : Value}
    (hl : loadE h i.size i.agg (.pointer (some ⟨b, o, none⟩)) = some u) : Gives P m w (loadVar t ⟨l.blk, l.off + o, none⟩) u := by
  simp only [loadE] at hl
  split at hl
  · rename_i c ow hg
    cases ha : i.agg <;> rw [ha] at hl
    · simp only [nth_eq] at hl
      obtain ⟨u', h1, h2⟩ := cell_read R hm hg hl
      exact ⟨u', by simp [loadVar, K.agg, ha, h1], h2⟩
    · simp only at hl
      split at hl
      · rename_i hb
        cases hl
        have hle := lenN_ble hb
        obtain ⟨vs, h1, h2, h3⟩ := row_read R hm hg hle
        refine ⟨.agg vs.toArray, ?_, .agg h2⟩
        have := run_loadCells_list (P := P) w (⟨l.blk, l.off + o, none⟩ : Addr) vs h3
        rw [h1] at this
        simp [loadVar, K.agg, ha, K.size, this]
      · cases hl
  · cases hl

theorem ld_snd (hT : TyOk P ty) (he : ERel m e a.tmps) (R : Rel m h w.heap) {t : TypeId} {y : Operand} {c : CO} {i : TI} (hx : x.op = .load t y) (h1 : ty t = some i) (hc : coOf n y = some c)
    (hv : (RO.ld i.size i.agg c).ev e h = some v) : PSnd P m w a x v := by
  simp only [RO.ev] at hv
  split at hv
  · rename_i p hp
    have r := coOf_rel he hc hp
    cases p with
    | pointer ad =>
      cases ad with
      | none => simp [loadE] at hv
      | some ad =>
        obtain ⟨b, o, l, rfl, hm, hy⟩ := r.ptr_inv
        refine psnd_of (loadVar_snd (hT.knows h1) R hm hv) ?_
        simp [execOp, hx, Instr.loadAt, hy, Instr.sureAddr]
    | _ => simp [loadE] at hv
  · cases hv

theorem run_getObj_of {r : Nat} {o : Obj} (hg : w.heap[r]? = some o) (hc : (match o with | .cells _ _ _ => false | _ => true) = true) : (getObj r).run P w = .ok o w := by
  unfold getObj
  simp only [Sem.run, hg]
  cases o <;> first | rfl | cases hc

theorem map_read (R : Rel m h w.heap) {r : Nat} {l : Loc} {es : List (Value × Value × Nat)} {clock : Nat} (hm : m r = some l) (hg : h.get r = some (.map es clock)) :
    ∃ es', w.heap[l.blk]? = some (.map ⟨es'⟩ clock) ∧ ERels m es es' ∧ l.off = 0 := by
  obtain ⟨h0, es', h1, h2⟩ := R.obj r l _ hm hg
  exact ⟨es', h1, h2, h0⟩

theorem lookRes_rel {ok : Bool} {z : Value} {q q' : Option (Nat × Value)} (hz : VRel m z z) (h : FRel m q q') : VRel m (lookRes ok z q) (lookRes ok z q') := by
  cases q with
  | none =>
    cases q' with
    | none =>
      cases ok
      · exact hz
      · exact .tuple (.cons hz (.cons (.same rfl) .nil))
    | some _ => exact h.elim
  | some p =>
    obtain ⟨i1, u⟩ := p
    cases q' with
    | none => exact h.elim
    | some p' =>
      obtain ⟨i2, u'⟩ := p'
      obtain ⟨_, hu⟩ := h
      cases ok
      · exact hu
      · exact .tuple (.cons hu (.cons (.same rfl) .nil))

theorem look_snd (hT : TyOk P ty) (he : ERel m e a.tmps) (R : Rel m h w.heap) {t kt el : TypeId} {y z : Operand} {c d : CO} {i j : TI} {ok : Bool} {kn : Ky} (hx : x.op = .lookup t y z ok) (h1 : ty t = some i)
    (h2 : i.d = .map kt el) (h3 : ty el = some j) (h4 : keyType ty kt = some kn) (h5 : plainD j.zero = true) (hc : coOf n y = some c) (hd : coOf n z = some d)
    (hv : (RO.look j.zero ok kn c d).ev e h = some v) : PSnd P m w a x v := by
  simp only [RO.ev] at hv
  split at hv
  · rename_i mv kv e1 e2
    split at hv
    · cases hv
    · rename_i hkv
      have r1 := coOf_rel he hc e1
      have r2 := keyOk_rel hkv (coOf_rel he hd e2)
      have K := hT.knows h1
      have Kj := hT.knows h3
      split at hv
      · cases hv
      · rename_i q hq
        cases hv
        have hck := fun b => checkKey_snd hT h4 hkv b w
        cases mv with
        | map r =>
          cases r with
          | none =>
            simp only [searchE] at hq
            cases hq
            obtain ⟨q', g1, g2⟩ := findKey_snd (es' := []) hT h4 hkv .nil (r := none) (by simp [findE]) w
            refine ⟨lookRes ok j.zero q', ?_, lookRes_rel (plainD_rel h5) g2⟩
            cases q' with
            | some _ => exact g2.elim
            | none => cases ok <;> simp [execOp, hx, Instr.lookup, K.und, h2, r1.nilm_inv, r2, hck, g1, Kj.zero, lookRes]
          | some r =>
            obtain ⟨l, hm, hy⟩ := r1.map_inv
            simp only [searchE] at hq
            split at hq
            · rename_i es clock hg
              obtain ⟨es', hh, hE, _⟩ := map_read R hm hg
              obtain ⟨q', g1, g2⟩ := findKey_snd hT h4 hkv hE hq w
              refine ⟨lookRes ok j.zero q', ?_, lookRes_rel (plainD_rel h5) g2⟩
              have hgo := run_getObj_of (P := P) hh rfl
              cases q' with
              | none => cases ok <;> simp [execOp, hx, Instr.lookup, K.und, h2, hy, r2, hck, g1, Kj.zero, lookRes, hgo]
              | some p => cases ok <;> simp [execOp, hx, Instr.lookup, K.und, h2, hy, r2, hck, g1, lookRes, hgo]
            · cases hq
        | _ => simp [searchE] at hq
  · cases hv

theorem lenM_snd (hT : TyOk P ty) (he : ERel m e a.tmps) (R : Rel m h w.heap) {c : Call} {t kt el : TypeId} {y : CO} {i : TI} (hx : x.op = .call c) (hb : c.callee = .builtin .len) (ht : c.argTypes.toList = [t])
    (h1 : ty t = some i) (hd : i.d = .map kt el) (ha : cosOf n c.args.toList = some [y]) (hv : (RO.lenM y).ev e h = some v) : PSnd P m w a x v := by
  obtain ⟨z, hz, hc⟩ := cosOf_one ha
  have K := hT.knows h1
  have ht0 : c.argTypes[0]? = some t := by
    have : c.argTypes = #[t] := by apply Array.ext'; simp [ht]
    simp [this]
  have hz0 := args_one (a := a) hz
  simp only [RO.ev] at hv
  split at hv
  · rename_i hp
    have r := (coOf_rel he hc hp).nilm_inv
    cases hv
    refine ⟨.int .i64 0, ?_, .same rfl⟩
    rw [builtin_exec hx hb]
    simp [builtin, Builtin.len_, ht0, hz0, K.und, hd, r, goInt]
  · rename_i r hp
    obtain ⟨l, hm, hy⟩ := (coOf_rel he hc hp).map_inv
    split at hv
    · rename_i es clock hg
      cases hv
      obtain ⟨es', hh, hE, _⟩ := map_read R hm hg
      refine ⟨.int .i64 (es'.length : Int), ?_, by rw [← hE.length]; exact .same rfl⟩
      rw [builtin_exec hx hb]
      simp [builtin, Builtin.len_, ht0, hz0, K.und, hd, hy, goInt, run_getObj_of hh rfl]
    · cases hv
  · cases hv

/-- The cells of a slice's elements, or of a string's bytes. -/
theorem elems_snd (R : Rel m h w.heap) {es k : Nat} {u u' : Value} {xs : List Value} (r : VRel m u u') (hv : elemsE h es k u = some xs) :
    ∃ vs : List Value, (∀ w' : World, w'.heap = w.heap → (Builtin.firstCells es k u').run P w' = .ok vs.toArray w') ∧ VRels m xs vs := by
  unfold elemsE at hv
  split at hv
  · obtain ⟨rfl, _, _⟩ := r.nils_inv
    split at hv
    · cases hv; exact ⟨[], fun _ _ => rfl, .nil⟩
    · cases hv
  · rename_i b o len cc
    obtain ⟨b', o', l, a', cap, hbo, hm, rfl, hlc, ha, hcap⟩ := r.slice_inv
    cases hbo
    split at hv
    · cases hv
    · rename_i hkl
      have hle := Nat.le_of_ble_eq_true hkl
      split at hv
      · cases hv; exact ⟨[], fun w' _ => by simp [Builtin.firstCells, loadCells, loadCellsFrom], .nil⟩
      · rename_i hk0
        split at hv
        · rename_i c ow hg
          split at hv
          · rename_i hb
            cases hv
            have hcl := lenN_ble hb
            have ha' : a' = ⟨l.blk, l.off + o, none⟩ := by
              rcases ha with ha | ha
              · have hk1 : k ≠ 0 := fun e => hk0 e
                omega
              · exact ha
            obtain ⟨vs, g1, g2, g3⟩ := row_read R hm hg hcl
            refine ⟨vs, fun w' hw' => ?_, g2⟩
            have hc' : ∀ q, w'.cell? q = w.cell? q := fun q => by simp [World.cell?, hw']
            have := run_loadCells_list (P := P) w' (⟨l.blk, l.off + o, none⟩ : Addr) vs (fun j u hu => by rw [hc']; exact g3 j u hu)
            rw [g1] at this
            simp only [Builtin.firstCells, ha']
            exact this
          · cases hv
        · cases hv
  · rename_i s
    have := r.string_inv
    subst this
    split at hv
    · rename_i he1
      split at hv
      · rename_i hkl
        cases hv
        have hes := Nat.eq_of_beq_eq_true he1
        subst hes
        have hle := Nat.le_of_ble_eq_true hkl
        refine ⟨((s.extract 0 k).data.map fun b => Value.int .u8 b.toNat).toList, fun _ _ => by simp only [Builtin.firstCells, Sem.run_pure, Array.toArray_toList], ?_⟩
        have e1 : ((s.extract 0 k).data.map fun b => Value.int .u8 b.toNat).toList = ((sl s).take k).map fun b => Value.int .u8 (.ofNat b.toNat) := by
          rw [extract_sl]; simp
        rw [e1]
        refine VRels.same_all fun v hv => ?_
        simp only [List.mem_map] at hv
        obtain ⟨b, _, rfl⟩ := hv
        rfl
      · cases hv
    · cases hv
  · cases hv

theorem elems_length {es k : Nat} {u : Value} {xs : List Value} (hv : elemsE h es k u = some xs) : xs.length = k * es := by
  unfold elemsE at hv
  split at hv
  · split at hv
    · cases hv; simp
    · cases hv
  · split at hv
    · cases hv
    · split at hv
      · cases hv; simp
      · split at hv
        · split at hv
          · rename_i hb
            cases hv
            have := lenN_ble hb
            simp; omega
          · cases hv
        · cases hv
  · split at hv
    · rename_i he1
      split at hv
      · rename_i hkl
        cases hv
        have hes := Nat.eq_of_beq_eq_true he1
        have hle := Nat.le_of_ble_eq_true hkl
        rw [len8_eq] at hle
        subst hes; simp; omega
      · cases hv
    · cases hv
  · cases hv

theorem bytes_loop (f : Value → ByteArray → Sem (ForInStep ByteArray)) (w : World)
    (hf : ∀ (n : Int) (r : ByteArray), (f (.int .u8 n) r).run P w = .ok (.yield (r.push (UInt8.ofNat n.toNat))) w) : ∀ (l : List Value) (b : List UInt8) (s : ByteArray), bytesOf l = some b →
    (forIn l s f).run P w = .ok ⟨⟨sl s ++ b⟩⟩ w
  | [], b, s, h => by simp only [bytesOf] at h; cases h; simp [strOf_sl]
  | v :: l, b, s, h => by
    unfold bytesOf at h
    split at h
    · rename_i heq; cases heq
    · rename_i k l' heq
      cases heq
      split at h
      · rename_i r hr
        cases h
        have ih := bytes_loop f w hf l r (s.push (UInt8.ofNat k)) hr
        simp only [List.forIn_cons, Sem.run_bind, hf, Result.andThen_ok]
        have hpush : sl (s.push (UInt8.ofNat k)) ++ r = sl s ++ UInt8.ofNat k :: r := by
          cases s; simp [sl, ByteArray.push]
        rw [hpush] at ih
        exact ih
      · cases h
    · cases h

theorem bytes_plain : ∀ (l : List Value) (b : List UInt8), bytesOf l = some b → ∀ v ∈ l, plain v = true ∧ (∃ k, v = .int .u8 (.ofNat k))
  | [], _, _, v, hv => by simp at hv
  | u :: l, b, h, v, hv => by
    unfold bytesOf at h
    split at h
    · rename_i heq; cases heq
    · rename_i k l' heq
      cases heq
      split at h
      · rename_i r hr
        rcases List.mem_cons.1 hv with rfl | hv
        · exact ⟨rfl, k, rfl⟩
        · exact bytes_plain l r hr v hv
      · cases h
    · cases h

theorem plain_same {l l' : List Value} (h : ∀ v ∈ l, ∃ k, v = .int .u8 (.ofNat k)) (r : VRels m l l') : l' = l := by
  induction l generalizing l' with
  | nil => cases r; rfl
  | cons v l ih =>
    cases r with
    | cons hv t =>
      obtain ⟨k, rfl⟩ := h v (by simp)
      rw [hv.int_inv, ih (fun u hu => h u (by simp [hu])) t]

theorem b2s_snd (hT : TyOk P ty) (he : ERel m e a.tmps) (R : Rel m h w.heap) {s d el : TypeId} {y : Operand} {c : CO} {i j k : TI} (hx : x.op = .convert s d y) (h1 : ty s = some i) (h2 : ty d = some j)
    (h3 : i.d = .slice el) (h4 : j.d = .string) (h5 : ty el = some k) (h6 : k.d = .int .u8) (hc : coOf n y = some c) (hv : (RO.b2s c).ev e h = some v) : PSnd P m w a x v := by
  simp only [RO.ev] at hv
  split at hv
  · rename_i ad len cc hp
    have r := coOf_rel he hc hp
    split at hv
    · rename_i xs hxs
      split at hv
      · rename_i b hb
        cases hv
        have K1 := hT.knows h1
        have K2 := hT.knows h2
        have K3 := hT.knows h5
        obtain ⟨vs, g1, g2⟩ := elems_snd (P := P) R r hxs
        have hvs := plain_same (fun v hv => (bytes_plain _ _ hb v hv).2) g2
        replace g1 := g1 w rfl
        refine ⟨.string ⟨⟨b⟩⟩, ?_, .same rfl⟩
        have hconv : (Conv.bytesToString (a.eval y)).run P w = .ok (.string ⟨⟨b⟩⟩) w := by
          cases ad with
          | none =>
            obtain ⟨hy, h0, _⟩ := r.nils_inv
            subst h0
            rw [hy]
            rw [hy] at g1
            simp only [Builtin.firstCells, Sem.run_pure] at g1
            cases g1
            simp at hvs
            subst hvs
            simp only [bytesOf] at hb
            cases hb
            rfl
          | some ad =>
            obtain ⟨b', o', l, a', cap, hbo, hm, hy, hlc, ha, hcap⟩ := r.slice_inv
            rw [hy]
            rw [hy] at g1
            simp only [Builtin.firstCells, Nat.mul_one] at g1
            simp only [Conv.bytesToString, Sem.run_bind, g1, Result.andThen_ok]
            rw [← Array.forIn_toList, List.toList_toArray, hvs, bytes_loop _ w (by intro n r; simp) xs b ByteArray.empty hb]
            rfl
        have hcv : (convert s d (a.eval y)).run P w = (Conv.bytesToString (a.eval y)).run P w := by
          unfold convert
          simp only [Sem.run_bind, K1.und, K2.und, Result.andThen_ok, h3, h4]
          cases ad with
          | none =>
            obtain ⟨hy, _, _⟩ := r.nils_inv
            rw [hy]
            simp [K3.und, h6]
          | some ad =>
            obtain ⟨b', o', l, a', cap, hbo, hm, hy, hlc, ha, hcap⟩ := r.slice_inv
            rw [hy]
            simp [K3.und, h6]
        simp [execOp, hx, hcv, hconv]
      · cases hv
    · cases hv
  · cases hv

end Am
end Go.Proofs.YtbfbaofhnnnohaaGreatDoor

/- The abstract machine, part 14: slices sliced; the entry of an iterator; all operations that read. -/
namespace Go.Proofs.YtbfbaofhnnnohaaGreatDoor
namespace Am
variable {P : Program} {ty : Ty} {m : M} {e : Env} {a : Act} {n : Nat} {x : Oper} {v : Value} {w : World} {h : H}

/-- What can surely be sliced. -/
theorem sure_snd (R : Rel m h w.heap) {es hi len cc s : Nat} {ad ad' : Addr} {cap : Nat} (r : VRel m (.slice (some ad) len cc) (.slice (some ad') len cap))
    (hs : sureE h es hi (.slice (some ad) len cc) = some s) : hi ≤ s → hi ≤ cap := by
  obtain ⟨b, o, l, a', cap', hbo, hm, hy, hlc, ha, hcap⟩ := r.slice_inv
  cases hbo
  cases hy
  intro hle
  unfold CapOk at hcap
  simp only [sureE] at hs
  split at hs
  · rename_i ho
    have ho' := Nat.eq_of_beq_eq_true ho
    rw [if_pos ho'] at hcap
    cases hs; omega
  · rename_i ho
    have ho' : ¬ cc % 2 = 1 := fun e => by rw [e] at ho; cases ho
    rw [if_neg ho'] at hcap
    split at hs
    · cases hs; omega
    · split at hs
      · rename_i c ow hes hg
        split at hs
        · rename_i hb
          cases hs
          have hes' := Nat.eq_of_beq_eq_true hes
          have hb' := lenN_ble hb
          obtain ⟨cs, ee, fz, _, _, h3, _⟩ := R.obj b l _ hm hg
          rw [hes'] at hcap
          have h1 : hi * es ≤ cap * es := by omega
          exact Nat.le_of_mul_le_mul_right h1 (by omega)
        · cases hs
      · cases hs

theorem slL_snd (hT : TyOk P ty) (he : ERel m e a.tmps) (R : Rel m h w.heap) {t el : TypeId} {y : Operand} {lo hi mx : Option Operand} {c : CO} {lo' hi' mx' : Option CO} {i j : TI}
    (hx : x.op = .slice t y lo hi mx) (h1 : ty t = some i) (h2 : i.d = .slice el) (h3 : ty el = some j) (hc : coOf n y = some c) (hl : coOpt n lo = some lo') (hh : coOpt n hi = some hi')
    (hm : coOpt n mx = some mx') (hmx : mx = none ∨ ∃ o, hi = some o) (hv : (RO.slL j.size c lo' hi' mx').ev e h = some v) : PSnd P m w a x v := by
  have K := hT.knows h1
  have Kj := hT.knows h3
  simp only [RO.ev] at hv
  split at hv
  · rename_i p hp
    have r := coOf_rel he hc hp
    split at hv
    · cases hv
    · rename_i len hlen
      split at hv
      · rename_i l q e1 e2
        have hl' := bound_snd he hl e1
        have hh' := bound_snd he hh e2
        cases mx with
        | none =>
          simp only [coOpt] at hm
          cases hm
          simp only at hv
          split at hv
          · rename_i s hs
            unfold sliceE at hv
            split at hv
            · obtain ⟨hy, _, _⟩ := r.nils_inv
              split at hv
              · rename_i b1 b2 _
                cases hv
                have h0 := Nat.eq_of_beq_eq_true b1
                have h0' := Nat.eq_of_beq_eq_true b2
                subst h0; subst h0'
                simp only [lenOfV] at hlen
                cases hlen
                refine ⟨.slice none 0 0, ?_, .same rfl⟩
                have hb := fun w => bounds_snd (P := P) (b := true) (len := 0) (cap := 0) hl' hh' (Nat.le_refl _) (Nat.le_refl _) w
                simp [execOp, hx, Instr.sliceAt, K.und, h2, Instr.slice, hy, hb, Kj.size]
              · cases hv
            · rename_i b o len' cc
              obtain ⟨b', o', ll, a', cap, hbo, hmb, hy, hlc, ha, hcap⟩ := r.slice_inv
              cases hbo
              simp only [lenOfV] at hlen
              cases hlen
              split at hv
              · rename_i b1 b2
                have hle := Nat.le_of_ble_eq_true b1
                have hhs := Nat.le_of_ble_eq_true b2
                have r' := r
                rw [hy] at r'
                have hhc := sure_snd R r' hs hhs
                simp only at hv
                split at hv
                · rename_i cc' hcl
                  cases hv
                  refine ⟨.slice (if cap = l then some a' else some (a'.add (l * j.size))) (q - l) (cap - l), ?_, ?_⟩
                  · have hb := fun w => bounds_snd (P := P) (b := true) (len := len) (cap := cap) hl' hh' hle hhc w
                    simp [execOp, hx, Instr.sliceAt, K.und, h2, Instr.slice, hy, hb, Kj.size]
                  · have hsome : (if cap = l then some a' else some (a'.add (l * j.size))) = some (if cap = l then a' else a'.add (l * j.size)) := by split <;> rfl
                    rw [hsome]
                    refine .slice hmb (by omega) ?_ ?_
                    · by_cases hk : cap = l
                      · left; omega
                      · right
                        rw [if_neg hk]
                        rcases ha with ha | ha
                        · omega
                        · rw [ha, add_none, Nat.add_assoc]
                    · unfold capLeft at hcl
                      unfold CapOk at hcap ⊢
                      split at hcl
                      · rename_i ho
                        have ho' := Nat.eq_of_beq_eq_true ho
                        cases hcl
                        rw [if_pos ho'] at hcap
                        rw [if_pos (by omega)]
                        omega
                      · rename_i ho
                        have ho' : ¬ cc % 2 = 1 := fun e => by rw [e] at ho; cases ho
                        rw [if_neg ho'] at hcap
                        split at hcl
                        · rename_i hes
                          have hes' := Nat.eq_of_beq_eq_true hes
                          cases hcl
                          rw [if_neg ho']
                          refine ⟨hcap.1, ?_⟩
                          rw [← hcap.2, ← hes', Nat.sub_mul]
                          have : l * (cc / 2) ≤ cap * (cc / 2) := Nat.mul_le_mul_right _ (by omega)
                          omega
                        · cases hcl
                · cases hv
              · cases hv
            · cases hv
          · cases hv
        | some mxo =>
          obtain ⟨hio, rfl⟩ : ∃ o, hi = some o := by
            rcases hmx with hmx | hmx
            · cases hmx
            · exact hmx
          simp only [coOpt] at hm
          split at hm
          · rename_i mc hmc
            cases hm
            simp only at hv
            split at hv
            · rename_i mxv e3
              have hm' := bound_snd (d := 0) (n := n) he (x := some mxo) (c := some mc) (by simp [coOpt, hmc]) e3
              split at hv
              · rename_i s hs
                unfold sliceE at hv
                split at hv
                · split at hv
                  · rename_i hmn; cases hmn
                  · cases hv
                · rename_i b o len' cc
                  obtain ⟨b', o', ll, a', cap, hbo, hmb, hy, hlc, ha, hcap⟩ := r.slice_inv
                  cases hbo
                  simp only [lenOfV] at hlen
                  cases hlen
                  split at hv
                  · rename_i b1 b2
                    have hle := Nat.le_of_ble_eq_true b1
                    simp only at hv
                    split at hv
                    · rename_i b3 b4
                      cases hv
                      have hhm := Nat.le_of_ble_eq_true b3
                      have hms := Nat.le_of_ble_eq_true b4
                      have r' := r
                      rw [hy] at r'
                      have hmc' := sure_snd R r' hs hms
                      refine ⟨.slice (if mxv = l then some a' else some (a'.add (l * j.size))) (q - l) (mxv - l), ?_, ?_⟩
                      · have hb := fun w => bounds_max_snd (P := P) (b := true) (len := len) (cap := cap) hl' hh' hm' hle hhm hmc' w
                        try simp only [Option.map_some] at hb
                        simp [execOp, hx, Instr.sliceAt, K.und, h2, Instr.slice, hy, hb, Kj.size]
                      · have hsome : (if mxv = l then some a' else some (a'.add (l * j.size))) = some (if mxv = l then a' else a'.add (l * j.size)) := by split <;> rfl
                        rw [hsome]
                        refine .slice hmb (by omega) ?_ ?_
                        · by_cases hk : mxv = l
                          · left; omega
                          · right
                            rw [if_neg hk]
                            rcases ha with ha | ha
                            · omega
                            · rw [ha, add_none, Nat.add_assoc]
                        · unfold CapOk; rw [if_pos (by omega)]; omega
                    · cases hv
                  · cases hv
                · cases hv
              · cases hv
            · cases hv
          · cases hm
      · cases hv
  · cases hv

theorem find_born {es : List (Value × Value × Nat)} {es' : List MapEntry} (hE : ERels m es es') {stamp : Nat} : ∀ {k u : Value} {b : Nat}, es.find? (fun e => Nat.beq e.2.2 stamp) = some (k, u, b) →
    ∃ k' u', es'.find? (fun e => e.born == stamp) = some ⟨k', u', b⟩ ∧ VRel m k k' ∧ VRel m u u' := by
  induction hE with
  | nil => intro k u b h; simp at h
  | @cons k1 v1 k1' v1' b1 l l' hk hv t ih =>
    intro k u b h
    have hbb : Nat.beq b1 stamp = (b1 == stamp) := by rw [Bool.eq_iff_iff]; simp
    rw [List.find?_cons] at h ⊢
    simp only [hbb] at h
    cases hb : (b1 == stamp) with
    | true =>
      simp only [hb] at h ⊢
      cases h
      exact ⟨k1', v1', rfl, hk, hv⟩
    | false =>
      simp only [hb] at h ⊢
      exact ih h

theorem ent_snd (he : ERel m e a.tmps) (R : Rel m h w.heap) {y : Operand} {c : CO} (hx : x.op = .entry y) (hc : coOf n y = some c) (hv : (RO.ent c).ev e h = some v) : PSnd P m w a x v := by
  simp only [RO.ev] at hv
  split at hv
  · rename_i r hp
    obtain ⟨b, o, l, hbo, hm, hy⟩ := (coOf_rel he hc hp).ptr_inv
    cases hbo
    split at hv
    · rename_i mm since seen stepped hg
      split at hv
      · rename_i stamp es clock hlast hgm
        split at hv
        · rename_i hck
          split at hv
          · rename_i k u b hf
            cases hv
            obtain ⟨h0, kl, hmm, hit⟩ := R.obj _ l _ hm hg
            obtain ⟨es', hh, hE, _⟩ := map_read R hmm hgm
            have hck' := Nat.eq_of_beq_eq_true hck
            subst hck'
            obtain ⟨k', u', g1, g2, g3⟩ := find_born hE hf
            refine ⟨.tuple #[k', u'], ?_, .tuple (.cons g2 (.cons g3 .nil))⟩
            have hback : (⟨seen⟩ : Array Nat).back? = some stamp := by
              simpa using hlast
            have hfa : (⟨es'⟩ : Array MapEntry).find? (fun e => e.born == stamp) = some ⟨k', u', b⟩ := by simpa using g1
            have hb' : (clock != clock) = false := by simp
            simp only [execOp, hx, Instr.entry, hy, h0, Nat.zero_add, Sem.run_bind, run_getObj_of hit rfl, Result.andThen_ok, hback, run_getObj_of hh rfl, hb', Bool.false_eq_true, if_false, hfa, Sem.run_pure]
          · cases hv
        · cases hv
      · cases hv
    · cases hv
  · cases hv

end Am
end Go.Proofs.YtbfbaofhnnnohaaGreatDoor

/- The abstract machine, part 15: operations that make memory. -/
namespace Go.Proofs.YtbfbaofhnnnohaaGreatDoor
namespace Am
variable {P : Program} {ty : Ty} {m : M} {e : Env} {a : Act} {n : Nat} {x : Oper} {v : Value} {w : World} {h h' : H}

/-- The streams are as they were. -/
structure SameW (w w' : World) : Prop where
  os : w'.os = w.os
  tape : w'.tape = w.tape
  output : w'.output = w.output

theorem SameW.refl (w : World) : SameW w w := ⟨rfl, rfl, rfl⟩
theorem SameW.trans {a b c : World} (x : SameW a b) (y : SameW b c) : SameW a c := ⟨y.os.trans x.os, y.tape.trans x.tape, y.output.trans x.output⟩
theorem SameW.of {w w' : World} (h1 : w'.os = w.os) (h2 : w'.tape = w.tape) (h3 : w'.output = w.output) : SameW w w' := ⟨h1, h2, h3⟩

/-- Onward: the heap, and the streams. -/
structure Fwd (m m' : M) (h h' : H) (w w' : World) : Prop where
  x : Ext m m' h h' w.heap w'.heap
  o : SameW w w'

theorem Fwd.refl (m : M) (h : H) (w : World) : Fwd m m h h w w := ⟨Ext.refl _ _ _, SameW.refl w⟩

/-- What an operation does. -/
def DSnd (P : Program) (m : M) (h h' : H) (w : World) (a : Act) (x : Oper) (v : Value) : Prop :=
  ∃ w' m' v', ((execOp a.eval x).run P w = .ok (.value v') w' ∨ ((execOp a.eval x).run P w = .ok .skip w' ∧ v' = undef)) ∧ VRel m' v v' ∧ Rel m' h' w'.heap ∧
    Fwd m m' h h' w w'

theorem PSnd.does (R : Rel m h w.heap) (p : PSnd P m w a x v) : DSnd P m h h w a x v := by
  obtain ⟨v', h1, h2⟩ := p
  exact ⟨w, m, v', .inl h1, h2, R, Fwd.refl _ _ _⟩

theorem row_orel {l : Loc} {hp : Array Obj} {cs : Array Value} {t : TypeId} {fz : Nat × Nat} {c : List Value} (hh : hp[l.blk]? = some (.cells cs t fz)) (hf : fz.1 = fz.2 ∨ cs.size ≤ fz.1) (h0 : l.off = 0)
    (hr : l.room = cs.size) (hc : VRels m c (cs.toList.take c.length)) : ORel m l hp (.cells c true) := by
  have hl := hc.length
  refine ⟨cs, t, fz, hh, fun _ => ⟨by omega, hf⟩, ?_, ?_⟩
  · simp at hl; omega
  · intro j u hj
    obtain ⟨u', g1, g2⟩ := hc.get hj
    refine ⟨u', ?_, g2⟩
    rw [List.getElem?_take] at g1
    split at g1
    · rw [h0, Nat.zero_add]; simpa using g1
    · cases g1

theorem row_orel' {l : Loc} {hp : Array Obj} {cs : Array Value} {t : TypeId} {fz : Nat × Nat} {c : List Value} (hh : hp[l.blk]? = some (.cells cs t fz)) (hf : fz.1 = fz.2 ∨ cs.size ≤ fz.1) (h0 : l.off = 0)
    (hr : l.room = cs.size) (hc : VRels m c cs.toList) : ORel m l hp (.cells c true) :=
  row_orel hh hf h0 hr (by rw [List.take_of_length_le (by rw [hc.length]; exact Nat.le_refl _)]; exact hc)

theorem new_row (R : Rel m h w.heap) {c : List Value} {cs : Array Value} {id : Nat} (t : TypeId) (hn : h.new (.cells c true) = some (h', id)) (hc : VRels m c cs.toList) :
    ∃ m', m' id = some ⟨w.heap.size, 0, cs.size⟩ ∧ Rel m' h' (w.heap.push (.cells cs t)) ∧ Ext m m' h h' w.heap (w.heap.push (.cells cs t)) := by
  have hnone : m id = none := by rw [(H.new_next hn).1]; exact R.none_next
  have := R.alloc (room := cs.size) hn (w.heap.push (.cells cs t)) rfl
    (row_orel' (t := t) (fz := (0, 0)) (by simp) (.inl rfl) rfl rfl (hc.sub (put_sub hnone)))
  exact ⟨_, put_same _ _ _, this.1, this.2⟩

theorem alc_snd (hT : TyOk P ty) (R : Rel m h w.heap) {t : TypeId} {i : TI} {ob : AObj} {id : Nat} (hx : x.op = .alloc t) (h1 : ty t = some i) (hz : plainD i.zero = true)
    (hv : (AO.alc (cellsOf i.zero)).ev e h.next = some (ob, v)) (hn : h.new ob = some (h', id)) : DSnd P m h h' w a x v := by
  simp only [AO.ev] at hv
  cases hv
  have K := hT.knows h1
  have hid := (H.new_next hn).1
  obtain ⟨m', g1, g2, g3⟩ := new_row R t hn (cells_rel (plainD_rel hz))
  refine ⟨{ w with heap := w.heap.push (.cells i.zero.cells t) }, m', .pointer (some ⟨w.heap.size, 0, none⟩), .inl ?_, ?_, g2, ⟨g3, ⟨rfl, rfl, rfl⟩⟩⟩
  · simp [execOp, hx, Instr.alloc, K.zero, newVar, newRow]
  · rw [← hid]; exact .ptr g1

theorem box_snd (he : ERel m e a.tmps) (R : Rel m h w.heap) {t : TypeId} {y : Operand} {c : CO} {k : Nat} {ob : AObj} {id : Nat} (hx : x.op = .box t y) (hc : coOf n y = some c)
    (hv : (AO.box k c).ev e h.next = some (ob, v)) (hn : h.new ob = some (h', id)) : DSnd P m h h' w a x v := by
  simp only [AO.ev] at hv
  split at hv
  · rename_i u hu
    split at hv
    · cases hv
      have hid := (H.new_next hn).1
      obtain ⟨m', g1, g2, g3⟩ := new_row R t hn (cells_rel (coOf_rel he hc hu))
      refine ⟨{ w with heap := w.heap.push (.cells (a.eval y).cells t) }, m', .pointer (some ⟨w.heap.size, 0, none⟩), .inl ?_, ?_, g2, ⟨g3, ⟨rfl, rfl, rfl⟩⟩⟩
      · simp [execOp, hx, Instr.box, newVar, newRow]
      · rw [← hid]; exact .ptr g1
    · cases hv
  · cases hv

theorem repN_length (z : List Value) : ∀ k, (repN k z).length = k * z.length
  | 0 => by simp [repN]
  | k + 1 => by simp [repN, repN_length z k, Nat.succ_mul]; omega

theorem repN_get (z : List Value) (hz : 0 < z.length) : ∀ (k i : Nat), i < k * z.length → (repN k z)[i]? = z[i % z.length]?
  | 0, i, h => by simp at h
  | k + 1, i, h => by
    simp only [repN]
    by_cases hi : i < z.length
    · rw [List.getElem?_append_left hi, Nat.mod_eq_of_lt hi]
    · rw [List.getElem?_append_right (by omega), repN_get z hz k (i - z.length) (by rw [Nat.succ_mul] at h; omega)]
      congr 1
      conv => rhs; rw [show i = (i - z.length) + z.length by omega]
      simp

theorem rangeMod (z : Array Value) (k : Nat) (hz : 0 < z.size) : ((Array.range (k * z.size)).map fun i => z[i % z.size]!).toList = repN k z.toList := by
  apply List.ext_getElem?
  intro i
  by_cases hi : i < k * z.size
  · rw [repN_get z.toList (by simpa using hz) k i (by simpa using hi)]
    have hm : i % z.size < z.size := Nat.mod_lt _ hz
    simp [hi, hm, getElem!_pos]
  · rw [List.getElem?_eq_none (by simp; omega), List.getElem?_eq_none (by rw [repN_length]; simp; omega)]

theorem repN_rels {z : List Value} {z' : List Value} (hz : VRels m z z') : ∀ k, VRels m (repN k z) (repN k z')
  | 0 => .nil
  | k + 1 => hz.append (repN_rels hz k)

theorem bsl_snd (hT : TyOk P ty) (he : ERel m e a.tmps) (R : Rel m h w.heap) {t el : TypeId} {len : Nat} {parts : Array (Nat × Operand)} {l : List (Nat × Nat × CO)} {i j : TI} {ob : AObj} {id : Nat}
    (hx : x.op = .buildSlice t len parts) (h1 : ty t = some i) (h2 : i.d = .slice el) (h3 : ty el = some j) (hz : plainD j.zero = true) (hzl : lenN (cellsOf j.zero) 0 = j.size) (hs : 1 ≤ j.size)
    (hb : len * j.size ≤ 100000) (hl : partsOf n (fun q => some (q * j.size, j.size)) parts.toList = some l) (hv : (AO.bsl j.size len (cellsOf j.zero) l).ev e h.next = some (ob, v))
    (hn : h.new ob = some (h', id)) : DSnd P m h h' w a x v := by
  simp only [AO.ev] at hv
  split at hv
  · cases hv
  · rename_i pl hpl
    split at hv
    · cases hv
    · rename_i cs hcs
      split at hv
      · rename_i hlen
        cases hv
        have K := hT.knows h1
        have Kj := hT.knows h3
        have hid := (H.new_next hn).1
        have hzr : VRels m (cellsOf j.zero) j.zero.cells.toList := cells_rel (plainD_rel hz)
        have hzs : j.zero.cells.size = j.size := by
          have := hzr.length
          rw [lenN_eq] at hzl
          simp at this; omega
        have hrow : VRels m (repN len (cellsOf j.zero)) ((Array.range (len * j.size)).map fun q => (if len * j.size = 0 then #[] else j.zero.cells)[q % (if len * j.size = 0 then #[] else j.zero.cells).size]!).toList := by
          by_cases h0 : len * j.size = 0
          · have : len = 0 := by
              rcases Nat.mul_eq_zero.1 h0 with h | h
              · exact h
              · omega
            subst this
            simp [repN]; exact .nil
          · simp only [h0, if_false]
            have := rangeMod j.zero.cells len (by omega)
            rw [hzs] at this
            rw [hzs, this]
            exact repN_rels hzr len
        obtain ⟨cs', hf, hcs'⟩ := fill_snd he hl hpl hcs hrow
        obtain ⟨m', g1, g2, g3⟩ := new_row R el hn hcs'
        have hcl := hcs'.length
        refine ⟨{ w with heap := w.heap.push (.cells cs' el) }, m', .slice (some ⟨w.heap.size, 0, none⟩) len len, .inl ?_, ?_, g2, ⟨g3, ⟨rfl, rfl, rfl⟩⟩⟩
        · have hnb : ¬ (len * j.size > 2 ^ 24) := by
            have : (2 : Nat) ^ 24 = 16777216 := rfl
            omega
          have hparts : (parts.map fun x => (x.1, a.eval x.2)).toList = (parts.toList.map fun x => (x.1, a.eval x.2)) := by simp
          simp only [execOp, hx, Instr.buildSlice, Sem.run_bind, K.und, h2, Result.andThen_ok, Kj.size, Sem.run_ite, hnb, if_false]
          by_cases h0 : len * j.size = 0
          · simp only [h0, if_true] at hf ⊢
            simp only [Sem.run_pure, Result.andThen_ok, hparts, hf]
            simp [newRow]
          · simp only [h0, if_false] at hf ⊢
            simp only [Sem.run_bind, Kj.zero, Result.andThen_ok, Sem.run_pure, hparts, hf]
            simp [newRow]
        · rw [← hid]
          refine .slice g1 (Nat.le_refl _) (.inr (by simp)) ?_
          unfold CapOk; rw [if_pos (by omega)]; omega
      · cases hv

theorem mkm_snd (R : Rel m h w.heap) {t : TypeId} {ob : AObj} {id : Nat} (hx : x.op = .makeMap t none) (hv : AO.mkm.ev e h.next = some (ob, v)) (hn : h.new ob = some (h', id)) : DSnd P m h h' w a x v := by
  simp only [AO.ev] at hv
  cases hv
  have hid := (H.new_next hn).1
  have hnone : m id = none := by rw [hid]; exact R.none_next
  have := R.alloc (room := 0) hn (w.heap.push (.map #[] 0)) rfl ⟨rfl, [], by simp, .nil⟩
  refine ⟨{ w with heap := w.heap.push (.map #[] 0) }, _, .map (some w.heap.size), .inl ?_, ?_, this.1, ⟨this.2, ⟨rfl, rfl, rfl⟩⟩⟩
  · simp [execOp, hx, Instr.makeMap]
  · have hm : put m id ⟨w.heap.size, 0, 0⟩ id = some ⟨w.heap.size, 0, 0⟩ := put_same _ _ _
    rw [← hid]
    exact VRel.map (l := ⟨w.heap.size, 0, 0⟩) hm

theorem rgS_snd (hT : TyOk P ty) (he : ERel m e a.tmps) (R : Rel m h w.heap) {t : TypeId} {y : Operand} {c : CO} {i : TI} {ob : AObj} {id : Nat} (hx : x.op = .range t y) (h1 : ty t = some i) (h2 : i.d = .string)
    (hc : coOf n y = some c) (hv : (AO.rgS c).ev e h.next = some (ob, v)) (hn : h.new ob = some (h', id)) : DSnd P m h h' w a x v := by
  simp only [AO.ev] at hv
  split at hv
  · rename_i s hs
    cases hv
    have K := hT.knows h1
    have hid := (H.new_next hn).1
    have r := (coOf_rel he hc hs).string_inv
    have := R.alloc (room := 0) hn (w.heap.push (.stringIter s 0)) rfl ⟨rfl, by simp⟩
    refine ⟨{ w with heap := w.heap.push (.stringIter s 0) }, _, .pointer (some ⟨w.heap.size, 0, none⟩), .inl ?_, ?_, this.1, ⟨this.2, ⟨rfl, rfl, rfl⟩⟩⟩
    · simp [execOp, hx, Instr.range, K.und, h2, r]
    · have hm : put m id ⟨w.heap.size, 0, 0⟩ id = some ⟨w.heap.size, 0, 0⟩ := put_same _ _ _
      rw [← hid]
      exact VRel.ptr (l := ⟨w.heap.size, 0, 0⟩) hm
  · cases hv

theorem mks_snd (hT : TyOk P ty) (he : ERel m e a.tmps) (R : Rel m h w.heap) {t el : TypeId} {y z : Operand} {c d : CO} {i j : TI} {ob : AObj} {id : Nat} (hx : x.op = .makeSlice t y z) (h1 : ty t = some i)
    (h2 : i.d = .slice el) (h3 : ty el = some j) (hz : plainD j.zero = true) (hs : 1 ≤ j.size) (hc : coOf n y = some c) (hd : coOf n z = some d)
    (hv : (AO.mks j.size j.bytes (cellsOf j.zero) c d).ev e h.next = some (ob, v)) (hn : h.new ob = some (h', id)) : DSnd P m h h' w a x v := by
  simp only [AO.ev] at hv
  split at hv
  · rename_i l k e1 e2
    split at hv
    · rename_i b1 b2 b3
      split at hv
      · rename_i hzl
        cases hv
        have K := hT.knows h1
        have Kj := hT.knows h3
        obtain ⟨info, hinfo, hbytes, hsize, _⟩ := Kj.info w
        have r1 := (coOf_rel he hc e1).int_inv
        have r2 := (coOf_rel he hd e2).int_inv
        have hlk := Nat.le_of_ble_eq_true b1
        have hkk := Nat.le_of_ble_eq_true b2
        have hby := Nat.le_of_ble_eq_true b3
        have hid := (H.new_next hn).1
        have hzr : VRels m (cellsOf j.zero) j.zero.cells.toList := cells_rel (plainD_rel hz)
        have hzs : j.zero.cells.size = j.size := by
          have := hzr.length
          have hq := Nat.eq_of_beq_eq_true hzl
          rw [lenN_eq] at hq
          simp at this; omega
        have hrow : VRels m (repN k (cellsOf j.zero)) ((Array.range (k * j.size)).map fun q => (if k * j.size = 0 then #[] else j.zero.cells)[q % (if k * j.size = 0 then #[] else j.zero.cells).size]!).toList := by
          by_cases h0 : k * j.size = 0
          · have : k = 0 := by
              rcases Nat.mul_eq_zero.1 h0 with h | h
              · exact h
              · omega
            subst this
            simp [repN]; exact .nil
          · simp only [h0, if_false]
            have := rangeMod j.zero.cells k (by omega)
            rw [hzs] at this
            rw [hzs, this]
            exact repN_rels hzr k
        obtain ⟨m', g1, g2, g3⟩ := new_row R el hn hrow
        have w1 : IntKind.i64.wrap (l : Int) = (l : Int) := wrap_fits .i64 l (by simp [topN]; omega)
        have w2 : IntKind.i64.wrap (k : Int) = (k : Int) := wrap_fits .i64 k (by simp [topN]; omega)
        refine ⟨{ w with heap := w.heap.push (.cells ((Array.range (k * j.size)).map fun q => (if k * j.size = 0 then #[] else j.zero.cells)[q % (if k * j.size = 0 then #[] else j.zero.cells).size]!) el) }, m',
          .slice (some ⟨w.heap.size, 0, none⟩) l k, .inl ?_, ?_, by simpa using g2, ⟨by simpa using g3, ⟨rfl, rfl, rfl⟩⟩⟩
        · have hprod : info.bytes * k ≤ 100000 * 1000000 := Nat.mul_le_mul (by omega) hkk
          have hbig : ¬ ((info.bytes : Int) * (k : Int) > 2 ^ 48) := by
            have h1 : ((info.bytes : Int) * (k : Int)) = ((info.bytes * k : Nat) : Int) := by simp
            rw [h1]
            have h2 : (2 : Int) ^ 48 = 281474976710656 := by decide
            omega
          have r1' : a.eval y = .int .i64 (l : Int) := r1
          have r2' : a.eval z = .int .i64 (k : Int) := r2
          simp only [execOp, hx, Instr.makeSlice, Sem.run_bind, K.und, h2, Result.andThen_ok, r1', r2', asInt, asIntOf, Sem.run_pure, hinfo, w1, w2]
          have hcond : (decide ((k : Int) < 0) || decide ((info.bytes : Int) * (k : Int) > 2 ^ 48) || decide ((l : Int) < 0) || decide ((l : Int) > (k : Int))) = false := by
            simp only [Bool.or_eq_false_iff, decide_eq_false_iff_not]
            exact ⟨⟨⟨by omega, hbig⟩, by omega⟩, by omega⟩
          have t1 : ((k : Int)).toNat = k := by simp
          have t2 : ((l : Int)).toNat = l := by simp
          simp only [hcond, Bool.false_eq_true, if_false, Sem.run_bind, run_askRoom, Result.andThen_ok, Kj.size, t1, t2, Sem.run_ite]
          by_cases h0 : k * j.size = 0
          · simp only [h0, if_true]
            simp [newRow]
          · simp only [h0, if_false, Kj.zero, Result.andThen_ok, Sem.run_pure]
            simp [newRow]
        · rw [← hid]
          refine .slice g1 hlk (.inr (by simp)) ?_
          unfold CapOk; rw [if_pos (by omega)]; omega
      · cases hv
    · cases hv
  · cases hv

theorem push_modify (hp : Array Obj) (o : Obj) (f : Obj → Obj) : (hp.push o).modify hp.size f = hp.push (f o) := by
  apply Array.ext_getElem?
  intro j
  rw [Array.getElem?_modify, Array.getElem?_push, Array.getElem?_push]
  by_cases hj : hp.size = j
  · subst hj; simp
  · simp [hj, Ne.symm hj]

theorem s2b_snd (hT : TyOk P ty) (he : ERel m e a.tmps) (R : Rel m h w.heap) {s d el : TypeId} {y : Operand} {c : CO} {i j k : TI} {ob : AObj} {id : Nat} (hx : x.op = .convert s d y) (h1 : ty s = some i)
    (h2 : ty d = some j) (h3 : i.d = .string) (h4 : j.d = .slice el) (h5 : ty el = some k) (h6 : k.d = .int .u8) (hc : coOf n y = some c) (hv : (AO.s2b c).ev e h.next = some (ob, v))
    (hn : h.new ob = some (h', id)) : DSnd P m h h' w a x v := by
  simp only [AO.ev] at hv
  split at hv
  · rename_i str hs
    cases hv
    have K1 := hT.knows h1
    have K2 := hT.knows h2
    have K3 := hT.knows h5
    have hid := (H.new_next hn).1
    have r := (coOf_rel he hc hs).string_inv
    have hnone : m id = none := by rw [hid]; exact R.none_next
    -- the new row: the bytes, then zeros
    let cap := Question.cut (.appendCap str.size 0 el) (w.tape w.drawn (.appendCap str.size 0 el))
    let row : Array Value := (str.data.map fun b => Value.int .u8 b.toNat) ++ Array.replicate (cap - str.size) (.int .u8 0)
    have hcap : str.size ≤ cap := by simp only [cap, Question.cut]; omega
    have hrow : row.size = cap := by
      simp only [row, Array.size_append, Array.size_map, Array.size_replicate]
      have : str.data.size = str.size := rfl
      omega
    have := R.alloc (room := cap) hn (w.heap.push (.cells row el (row.size, row.size + 1))) rfl
      (row_orel (fz := (row.size, row.size + 1)) (cs := row) (t := el) (by simp) (.inr (Nat.le_refl _)) rfl (by simp [hrow]) (by
        have e1 : row.toList.take ((sl str).map fun b => Value.int .u8 (.ofNat b.toNat)).length = (sl str).map fun b => Value.int .u8 (.ofNat b.toNat) := by
          simp [row, sl]
        rw [e1]
        refine VRels.same_all fun v hv => ?_
        simp only [List.mem_map] at hv
        obtain ⟨b, _, rfl⟩ := hv
        rfl))
    refine ⟨{ w with drawn := w.drawn + 1, heap := w.heap.push (.cells row el (row.size, row.size + 1)) }, _, .slice (some ⟨w.heap.size, 0, none⟩) str.size cap, .inl ?_, ?_, this.1, ⟨this.2, ⟨rfl, rfl, rfl⟩⟩⟩
    · have hfc : (Question.appendCap str.size 0 el).forced = false := rfl
      have hcv : (convert s d (.string str)).run P w = (Conv.stringToBytes el str).run P w := by
        unfold convert
        simp only [Sem.run_bind, K1.und, K2.und, Result.andThen_ok, h3, h4, K3.und, h6]
      have hrun : (Conv.stringToBytes el str).run P w = .ok (.slice (some ⟨w.heap.size, 0, none⟩) str.size cap)
          { w with drawn := w.drawn + 1, heap := w.heap.push (.cells row el (row.size, row.size + 1)) } := by
        simp only [Conv.stringToBytes, Sem.run_bind, run_choose, hfc, Bool.false_eq_true, if_false, Result.andThen_ok, newRow, run_newObj, Sem.run_pure, markStringish, run_shape]
        have hsh : ∀ (x : Obj), (w.heap.push x)[w.heap.size]? = some x := fun x => by simp
        simp only [World.shape?, hsh, run_freeze, World.freeze, Result.andThen_ok, push_modify]
        rfl
      simp [execOp, hx, r, hcv, hrun]
    · have hm : put m id ⟨w.heap.size, 0, cap⟩ id = some ⟨w.heap.size, 0, cap⟩ := put_same _ _ _
      rw [← hid, len8_eq, ← size_sl, Nat.zero_add]
      refine VRel.slice hm hcap (.inr (by simp)) ?_
      unfold CapOk
      simp
  · cases hv

end Am
end Go.Proofs.YtbfbaofhnnnohaaGreatDoor

/- The abstract machine, part 16: operations that write cells. -/
namespace Go.Proofs.YtbfbaofhnnnohaaGreatDoor
namespace Am
variable {P : Program} {ty : Ty} {m : M} {e : Env} {a : Act} {n : Nat} {x : Oper} {v : Value} {w : World} {h h' : H}

/-- A real block of the machine's own is another one, that still fits. -/
theorem Rel.turn {hp hp' : Array Obj} {i : Nat} {l : Loc} (r : Rel m h hp) (hm : m i = some l) (hown : own h i) (hsz : hp'.size = hp.size) (hat : ∀ b, b ≠ l.blk → hp'[b]? = hp[b]?)
    (ho : ∀ o, h.get i = some o → ORel m l hp' o) : Rel m h hp' ∧ Ext m m h h hp hp' := by
  constructor
  · constructor
    · intro j k o hj hg
      by_cases hji : j = i
      · subst hji
        rw [hm] at hj; cases hj
        exact ho o hg
      · exact (r.obj j k o hj hg).at (hat _ (Ne.symm (r.sep i j l k (Ne.symm hji) hm hj hown ⟨o, hg⟩)))
    · intro j k hj; rw [hsz]; exact r.bnd j k hj
    · exact r.dom
    · exact r.sep
  · constructor
    · exact Sub.refl m
    · omega
    · intro j k hj; exact .inl hj
    · intro j k hj hmn; rw [hj] at hmn; cases hmn
    · omega
    · intro b hb hnb; exact hat b (Ne.symm (hnb i l hm hown))
    · intro j _ hj; exact hj
    · omega
    · intro j _ _; rfl

theorem allOne_spec : ∀ {l : List Value}, allOne l = true → ∀ v ∈ l, oneCellB v = true
  | [], _, v, hv => by simp at hv
  | u :: l, h, v, hv => by
    unfold allOne at h
    split at h
    · rename_i hu
      rcases List.mem_cons.1 hv with rfl | hv
      · exact hu
      · exact allOne_spec h v hv
    · cases h

theorem oneCell_rel {v' : Value} (h : oneCellB v = true) (r : VRel m v v') : v'.oneCell' = true := by
  cases r with
  | same hp => cases v <;> first | rfl | cases h
  | ptr _ => rfl
  | slice _ _ _ _ => rfl
  | map _ => rfl
  | func _ _ => rfl
  | iface _ => rfl
  | agg _ => cases h
  | tuple _ => cases h

theorem allOne_rel {l l' : List Value} (h : allOne l = true) (r : VRels m l l') : ∀ v ∈ l', v.oneCell' = true := by
  intro v hv
  obtain ⟨i, hi, e⟩ := List.mem_iff_getElem.1 hv
  have hlen := r.length
  have hi' : i < l.length := by omega
  obtain ⟨v', g1, g2⟩ := r.get (List.getElem?_eq_getElem hi')
  rw [List.getElem?_eq_getElem hi, e] at g1
  cases g1
  exact oneCell_rel (allOne_spec h _ (List.getElem_mem hi')) g2

/-- Cells are stored, one behind the other. -/
theorem store_cells (blk : Nat) (t : TypeId) (fz : Nat × Nat) : ∀ (xs : List Value) (off i : Nat) (cs : Array Value) (w : World), w.heap[blk]? = some (.cells cs t fz) →
    (fz.1 = fz.2 ∨ cs.size ≤ fz.1) → off + i + xs.length ≤ cs.size → (∀ v ∈ xs, v.oneCell' = true) →
    ∃ w' cs', (storeCells ⟨blk, off, none⟩ xs i).run P w = .ok () w' ∧ w'.heap[blk]? = some (.cells cs' t fz) ∧ cs'.toList = putAt cs.toList (off + i) xs ∧ w'.heap.size = w.heap.size ∧
      (∀ b, b ≠ blk → w'.heap[b]? = w.heap[b]?) ∧ SameW w w'
  | [], off, i, cs, w, hh, _, _, _ => ⟨w, cs, rfl, hh, by rw [putAt_nil], rfl, fun _ _ => rfl, SameW.refl w⟩
  | x :: xs, off, i, cs, w, hh, hf, hl, ho => by
    have hlt : off + i < cs.size := by simp at hl; omega
    have hcell : w.cell? ⟨blk, off + i, none⟩ = some cs[off + i] := by
      simp [World.cell?, hh, hlt]
    have hfz : w.frozen? ⟨blk, off + i, none⟩ = false := by
      simp only [World.frozen?, hh]
      rcases hf with hf | hf
      · simp; omega
      · simp; omega
    have hbl : blk < w.heap.size := by
      rcases Array.getElem?_eq_some_iff.1 hh with ⟨h, _⟩; exact h
    have hset : (w.setCell ⟨blk, off + i, none⟩ x).heap[blk]? = some (.cells (cs.setIfInBounds (off + i) x) t fz) := by
      simp [World.setCell, Array.getElem?_modify, hh]
    have hsz : (w.setCell ⟨blk, off + i, none⟩ x).heap.size = w.heap.size := by simp [World.setCell]
    have hoth : ∀ b, b ≠ blk → (w.setCell ⟨blk, off + i, none⟩ x).heap[b]? = w.heap[b]? := by
      intro b hb
      simp [World.setCell, Array.getElem?_modify, Ne.symm hb]
    obtain ⟨w', cs', g1, g2, g3, g4, g5, g6⟩ := store_cells blk t fz xs off (i + 1) (cs.setIfInBounds (off + i) x) _ hset (by simpa using hf) (by simp at hl ⊢; omega) (fun v hv => ho v (by simp [hv]))
    refine ⟨w', cs', ?_, g2, ?_, by omega, fun b hb => by rw [g5 b hb, hoth b hb], SameW.trans (b := w.setCell ⟨blk, off + i, none⟩ x) ⟨rfl, rfl, rfl⟩ g6⟩
    · simp only [storeCells, Sem.run_bind, add_none, run_store P w _ x .plain (ho x (by simp)), hcell, hfz, Bool.false_eq_true, if_false, Result.andThen_ok]
      exact g1
    · rw [g3, putAt_cons _ _ _ _ (by simp at hl ⊢; omega)]
      simp [Nat.add_assoc]

/-- The machine's store of cells is the model's. -/
theorem storeE_snd (R : Rel m h w.heap) {b o : Nat} {l : Loc} {xs xs' : List Value} (hm : m b = some l) (hs : storeE h b o xs = some h') (hx : VRels m xs xs') :
    ∃ w', (storeCells ⟨l.blk, l.off + o, none⟩ xs').run P w = .ok () w' ∧ Rel m h' w'.heap ∧ Fwd m m h h' w w' := by
  unfold storeE at hs
  split at hs
  · rename_i c hg
    split at hs
    · rename_i b1 b2
      have hle := Nat.le_of_ble_eq_true b1
      rw [lenN_eq, lenN_eq] at hle
      have hxl := hx.length
      obtain ⟨cs, t, fz, h1, h2, h3, h4⟩ := R.obj b l _ hm hg
      obtain ⟨hroom, hfz⟩ := h2 rfl
      obtain ⟨w', cs', g1, g2, g3, g4, g5, g6⟩ := store_cells (P := P) l.blk t fz xs' (l.off + o) 0 cs w h1 hfz (by omega) (allOne_rel b2 hx)
      have hsz : cs'.size = cs.size := by
        have := congrArg List.length g3
        rw [putAt_length] at this
        simpa using this
      have ho : ORel m l w'.heap (.cells (putAt c o xs) true) := by
        refine ⟨cs', t, fz, g2, fun _ => ⟨by omega, by rw [hsz]; exact hfz⟩, by rw [putAt_length]; exact h3, ?_⟩
        intro j u hj
        rw [putAt_get _ _ _ _ (by omega)] at hj
        have hget : ∀ q : Nat, cs'[q]? = cs'.toList[q]? := fun q => (Array.getElem?_toList).symm
        have hcl : cs.toList.length = cs.size := Array.length_toList
        rw [hget, g3, Nat.add_zero, putAt_get cs.toList (l.off + o) xs' (l.off + j) (by omega)]
        by_cases hjo : o ≤ j ∧ j < o + xs.length
        · rw [if_pos hjo] at hj
          rw [if_pos (by omega)]
          obtain ⟨u', k1, k2⟩ := hx.get hj
          refine ⟨u', ?_, k2⟩
          have : l.off + j - (l.off + o) = j - o := by omega
          rw [this]; exact k1
        · rw [if_neg hjo] at hj
          rw [if_neg (by omega)]
          obtain ⟨u', k1, k2⟩ := h4 j u hj
          exact ⟨u', by simpa using k1, k2⟩
      have := R.putObj hm (own_of hg rfl) hs g4 g5 (fun o' ho' => by cases ho'; exact ho)
      exact ⟨w', g1, this.1, ⟨this.2, g6⟩⟩
    · cases hs
  · cases hs

theorem st_snd (hT : TyOk P ty) (he : ERel m e a.tmps) (R : Rel m h w.heap) {t : TypeId} {y z : Operand} {c d : CO} {i : TI} (hx : x.op = .store t y z) (h1 : ty t = some i)
    (hc : coOf n y = some c) (hd : coOf n z = some d) (hv : (WO.st i.size c d).ev e h = some (v, h')) : DSnd P m h h' w a x v := by
  simp only [WO.ev] at hv
  split at hv
  · rename_i b o u e1 e2
    split at hv
    · rename_i hsz
      split at hv
      · rename_i h1' hs
        cases hv
        have K := hT.knows h1
        obtain ⟨b', o', l, hbo, hm, hy⟩ := (coOf_rel he hc e1).ptr_inv
        cases hbo
        have hr := cells_rel (coOf_rel he hd e2)
        obtain ⟨w', g1, g2, g3⟩ := storeE_snd (P := P) R hm hs hr
        refine ⟨w', m, undef, .inr ⟨?_, rfl⟩, .tuple .nil, g2, g3⟩
        have hsz' : (a.eval z).cells.size = i.size := by
          have := Nat.eq_of_beq_eq_true hsz
          rw [lenN_eq] at this
          have hl := hr.length
          have hq : (a.eval z).cells.toList.length = (a.eval z).cells.size := Array.length_toList
          omega
        simp [execOp, hx, Instr.storeAt, hy, Instr.sureAddr, storeVar, K.size, hsz', g1]
      · cases hv
    · cases hv
  · cases hv

end Am
end Go.Proofs.YtbfbaofhnnnohaaGreatDoor

/- The abstract machine, part 17: append. -/
namespace Go.Proofs.YtbfbaofhnnnohaaGreatDoor
namespace Am
variable {P : Program} {ty : Ty} {m : M} {e : Env} {a : Act} {n : Nat} {x : Oper} {v : Value} {w : World} {h h' : H}

/-- A block whose row goes on under another name. -/
theorem Rel.move {h1 : H} {hp hp' : Array Obj} {b : Nat} {l l' : Loc} {ob : AObj} {id : Nat} (r : Rel m h hp) (hm : m b = some l) (hown : own h b) (e1 : h.put b none = some h1)
    (e2 : h1.new ob = some (h', id)) (hl : l'.blk = l.blk) (hsz : hp'.size = hp.size) (hat : ∀ q, q ≠ l.blk → hp'[q]? = hp[q]?) (ho : ORel (put m id l') l' hp' ob) :
    Rel (put m id l') h' hp' ∧ Ext m (put m id l') h h' hp hp' := by
  obtain ⟨hn1, hlow1⟩ := H.put_next e1
  obtain ⟨rfl, hn2, hlow2⟩ := H.new_next e2
  have hid : h1.next = h.next := hn1
  have hnone : m h1.next = none := by rw [hid]; exact r.none_next
  have hs := put_sub (l := l') hnone
  have hbid : b ≠ h1.next := by have := r.dom b l hm; omega
  have get' : ∀ j, j ≠ h1.next → j ≠ b → h'.get j = h.get j := fun j h1' h2' => by rw [H.new_get_other e2 h1', H.put_get_other e1 h2']
  have getb : h'.get b = none := by rw [H.new_get_other e2 hbid, H.put_get_same e1]
  constructor
  · constructor
    · intro j k o hj hg
      by_cases hji : j = h1.next
      · subst hji
        rw [put_same] at hj; cases hj
        rw [H.new_get_same e2] at hg; cases hg
        exact ho
      · rw [put_other _ _ _ hji] at hj
        by_cases hjb : j = b
        · subst hjb; rw [getb] at hg; cases hg
        · rw [get' j hji hjb] at hg
          exact ((r.obj j k o hj hg).sub hs).at (hat _ (Ne.symm (r.sep b j l k (Ne.symm hjb) hm hj hown ⟨o, hg⟩)))
    · intro j k hj
      rw [hsz]
      by_cases hji : j = h1.next
      · subst hji; rw [put_same] at hj; cases hj; rw [hl]; exact r.bnd b l hm
      · rw [put_other _ _ _ hji] at hj; exact r.bnd j k hj
    · intro j k hj
      by_cases hji : j = h1.next
      · omega
      · rw [put_other _ _ _ hji] at hj; have := r.dom j k hj; omega
    · intro i j k1 k2 hne hi hj hio hjo
      by_cases hii : i = h1.next
      · subst hii
        rw [put_same] at hi; cases hi
        rw [put_other _ _ _ (Ne.symm hne)] at hj
        obtain ⟨o, ho'⟩ := hjo
        have hjb : j ≠ b := fun ee => by subst ee; rw [getb] at ho'; cases ho'
        rw [get' j (Ne.symm hne) hjb] at ho'
        rw [hl]
        exact r.sep b j l k2 (Ne.symm hjb) hm hj hown ⟨o, ho'⟩
      · rw [put_other _ _ _ hii] at hi
        obtain ⟨oi, hoi, hoi'⟩ := hio
        have hib : i ≠ b := fun ee => by subst ee; rw [getb] at hoi; cases hoi
        rw [get' i hii hib] at hoi
        by_cases hjj : j = h1.next
        · subst hjj
          rw [put_same] at hj; cases hj
          rw [hl]
          exact Ne.symm (r.sep b i l k1 (Ne.symm hib) hm hi hown ⟨oi, hoi⟩)
        · rw [put_other _ _ _ hjj] at hj
          obtain ⟨o, ho'⟩ := hjo
          have hjb : j ≠ b := fun ee => by subst ee; rw [getb] at ho'; cases ho'
          rw [get' j hjj hjb] at ho'
          exact r.sep i j k1 k2 hne hi hj ⟨oi, hoi, hoi'⟩ ⟨o, ho'⟩
  · constructor
    · exact hs
    · omega
    · intro j k hj
      by_cases hji : j = h1.next
      · subst hji; exact .inr ⟨hnone, by omega⟩
      · rw [put_other _ _ _ hji] at hj; exact .inl hj
    · intro j k hj hmn
      by_cases hji : j = h1.next
      · subst hji; rw [put_same] at hj; cases hj; exact .inr ⟨b, l, hm, hown, hl.symm⟩
      · rw [put_other _ _ _ hji] at hj; rw [hj] at hmn; cases hmn
    · omega
    · intro q hq hnb; exact hat q (Ne.symm (hnb b l hm hown))
    · intro j hj ⟨o, hg, ho'⟩
      by_cases hjb : j = b
      · subst hjb; exact hown
      · rw [get' j (by omega) hjb] at hg; exact ⟨o, hg, ho'⟩
    · omega
    · intro j hj hjl
      have hjb : j ≠ b := by omega
      exact get' j (by omega) hjb

theorem growBy_le (need : Nat) : ∀ (k c : Nat), c ≤ 2 * need + 768 → Builtin.growBy need k c ≤ 2 * need + 768
  | 0, c, h => h
  | k + 1, c, h => by
    simp only [Builtin.growBy]
    split
    · exact h
    · exact growBy_le need k _ (by omega)

theorem nextcap_le {need cap : Nat} (h : cap < need) : Builtin.nextslicecap need cap ≤ 2 * need + 768 := by
  unfold Builtin.nextslicecap
  split
  · omega
  · split
    · omega
    · exact growBy_le need 4 cap (by omega)

theorem lenOf_run {u u' : Value} {k : Nat} (r : VRel m u u') (hl : lenOfV u = some k) (w : World) : (Builtin.lenOf u').run P w = .ok k w := by
  rcases lenOf_snd r hl with ⟨ad, c, rfl⟩ | ⟨s, rfl, hs, _⟩
  · rfl
  · simp [Builtin.lenOf, hs]

/-- What is appended, in the kit's words. -/
theorem src_of {t : TypeId} {j : TI} {es k : Nat} {u u' : Value} {xs vs : List Value} (Kj : Knows P t j) (hj : (∃ el, j.d = .slice el) ∨ j.d = .string) (r : VRel m u u') (hl : lenOfV u = some k)
    (hx : elemsE h es k u = some xs) (ho : allOne xs = true) (hrun : ∀ w' : World, w'.heap = w.heap → (Builtin.firstCells es k u').run P w' = .ok vs.toArray w') (hr : VRels m xs vs) : Src P es t u' k vs w where
  kind := by
    rcases hj with ⟨el, hj⟩ | hj
    · exact .inl ⟨el, by rw [Kj.undp, hj]⟩
    · exact .inr (by rw [Kj.undp, hj])
  len := lenOf_run r hl
  cells := hrun w rfl
  cellsD := hrun w.drew rfl
  newsLen := by rw [← hr.length, elems_length hx]
  one := allOne_rel ho hr

theorem append_room {t tx ot el : TypeId} {i : TypeInfo} (ht : P.underlying t = some (.slice el)) (hi : P.info? el = some i) {a' : Addr} {sLen sCap k : Nat} {u' : Value} {vs : List Value}
    (hs : Src P i.size tx u' k vs w) (hroom : sLen + k ≤ sCap) {w' : World} (hst : (storeCells (a'.add (sLen * i.size)) vs).run P w = .ok () w') :
    (Builtin.append_ #[t, tx] ot #[.slice (some a') sLen sCap, u']).run P w = .ok (.slice (some a') (sLen + k) sCap) w' := by
  rcases hs.kind with ⟨e', hk⟩ | hk <;> simp [Builtin.append_, run_underlying ht, run_underlying hk, sizeOf, typeInfo, hi, hs.len, hroom, hs.cells, hst]

theorem append_nil0 {t tx ot el : TypeId} {i : TypeInfo} (ht : P.underlying t = some (.slice el)) (hi : P.info? el = some i) {u' : Value} {vs : List Value} (hs : Src P i.size tx u' 0 vs w) :
    (Builtin.append_ #[t, tx] ot #[.slice none 0 0, u']).run P w = .ok (.slice none 0 0) w := by
  rcases hs.kind with ⟨e', hk⟩ | hk <;> simp [Builtin.append_, run_underlying ht, run_underlying hk, sizeOf, typeInfo, hi, hs.len, hs.cells]

theorem grown_le (w : World) (need cap : Nat) (el : TypeId) : need ≤ grownCap w need cap el := by
  simp only [grownCap, Question.cut]; omega

theorem zeroCells_size (z : Array Value) (k : Nat) : (Builtin.zeroCells z k).size = k * z.size := by simp [Builtin.zeroCells]

/-- append makes a new row: what the machine makes of it. -/
theorem grow_snd (R : Rel m h w.heap) {t tx ot el : TypeId} {i : TypeInfo} {z : Value} (ht : P.underlying t = some (.slice el)) (hi : P.info? el = some i) (hz : i.zero = some z) (hzs : z.cells.size = i.size)
    (hes : 1 ≤ i.size) (hby : i.bytes ≤ 100000) {base : Option Addr} {sLen sCap k : Nat} {u' : Value} {old vs old' : List Value}
    (hold : ∀ w' : World, w'.heap = w.heap → (Builtin.firstCells i.size sLen (.slice base sLen sCap)).run P w' = .ok old'.toArray w') (ho : VRels m old old') (hol : old.length = sLen * i.size)
    (hs : Src P i.size tx u' k vs w) {xs : List Value} (hx : VRels m xs vs) (hg : sCap < sLen + k) (hsm : sLen + k ≤ 1000000) {id : Nat} (hn : h.new (.cells (old ++ xs) true) = some (h', id)) :
    ∃ w' m' cap, (Builtin.append_ #[t, tx] ot #[.slice base sLen sCap, u']).run P w = .ok (.slice (some ⟨w.heap.size, 0, none⟩) (sLen + k) cap) w' ∧
      VRel m' (.slice (some ⟨id, 0, none⟩) (sLen + k) (2 * i.size)) (.slice (some ⟨w.heap.size, 0, none⟩) (sLen + k) cap) ∧ Rel m' h' w'.heap ∧ Fwd m m' h h' w w' := by
  have hnext := nextcap_le (need := sLen + k) (cap := sCap) hg
  have hprod : Builtin.nextslicecap (sLen + k) sCap * i.bytes ≤ (2 * 1000000 + 768) * 100000 := Nat.mul_le_mul (by omega) hby
  have hrun := run_append_grow_src (P := P) w t tx ot el i z ht hi hz base sLen sCap old' (hold w.drew rfl) u' k vs hs hg (by omega) (by omega)
  have hcap := grown_le w (sLen + k) sCap el
  generalize hcd : grownCap w (sLen + k) sCap el = cap at hrun hcap
  have hnone : m id = none := by rw [(H.new_next hn).1]; exact R.none_next
  have hol' := ho.length
  have hxl := hx.length
  have hvl := hs.newsLen
  have hrow : ((old' ++ vs).toArray ++ Builtin.zeroCells z.cells (cap - (sLen + k))).size = cap * i.size := by
    have e1 : (cap - (sLen + k)) * i.size = cap * i.size - (sLen + k) * i.size := Nat.sub_mul _ _ _
    have e2 : (sLen + k) * i.size ≤ cap * i.size := Nat.mul_le_mul_right _ hcap
    have e3 : (sLen + k) * i.size = sLen * i.size + k * i.size := Nat.add_mul _ _ _
    simp [zeroCells_size, hzs]
    omega
  have key := R.alloc (room := cap * i.size) hn (w.heap.push (.cells ((old' ++ vs).toArray ++ Builtin.zeroCells z.cells (cap - (sLen + k))) el)) rfl
    (row_orel (t := el) (fz := (0, 0)) (cs := (old' ++ vs).toArray ++ Builtin.zeroCells z.cells (cap - (sLen + k))) (by simp) (.inl rfl) rfl (by rw [hrow]) (by
      have : ((old' ++ vs).toArray ++ Builtin.zeroCells z.cells (cap - (sLen + k))).toList.take (old ++ xs).length = old' ++ vs := by
        have hle : (old ++ xs).length = (old' ++ vs).length := by simp [hol', hxl]
        rw [hle, Array.toList_append, List.toList_toArray]
        exact List.take_left' rfl
      rw [this]
      exact ((ho.append hx).sub (put_sub hnone))))
  refine ⟨_, _, cap, hrun, ?_, key.1, ⟨key.2, ⟨rfl, rfl, rfl⟩⟩⟩
  refine VRel.slice (l := ⟨w.heap.size, 0, cap * i.size⟩) (put_same _ _ _) hcap (.inr (by simp)) ?_
  unfold CapOk
  rw [if_neg (by omega)]
  have : 2 * i.size / 2 = i.size := by omega
  rw [this]
  exact ⟨by omega, by simp⟩

theorem app_snd (hT : TyOk P ty) (he : ERel m e a.tmps) (R : Rel m h w.heap) {cl : Call} {t tx el : TypeId} {c d : CO} {i j k : TI} (hx : x.op = .call cl) (hb : cl.callee = .builtin .append)
    (hat : cl.argTypes.toList = [t, tx]) (h1 : ty t = some i) (h2 : i.d = .slice el) (h3 : ty el = some k) (h4 : ty tx = some j) (h5 : (∃ el', j.d = .slice el') ∨ j.d = .string)
    (hz : lenN (cellsOf k.zero) 0 = k.size) (ha : cosOf n cl.args.toList = some [c, d]) (hv : (WO.app k.size k.bytes c d).ev e h = some (v, h')) : DSnd P m h h' w a x v := by
  obtain ⟨y, z, hyz, hc, hd⟩ := cosOf_two ha
  have hargs : cl.args = #[y, z] := by apply Array.ext'; simp [hyz]
  have hats : cl.argTypes = #[t, tx] := by apply Array.ext'; simp [hat]
  have K := hT.knows h1
  have Kk := hT.knows h3
  have Kj := hT.knows h4
  have ht : P.underlying t = some (.slice el) := by rw [K.undp, h2]
  obtain ⟨info, hinfo, hby, hsz, hzero⟩ := Kk.info default
  have hi : P.info? el = some info := by
    unfold typeInfo at hinfo
    simp only [Sem.run_bind, run_program, Result.andThen_ok] at hinfo
    split at hinfo
    · rename_i q hq; simp at hinfo; rw [hq, hinfo]
    · simp at hinfo
  have hzs : k.zero.cells.size = info.size := by
    rw [hsz, ← hz, lenN_eq]
    cases k.zero <;> simp [cellsOf, Value.cells]
  -- the operation is append_
  have hex : ∀ (v' : Value) (w' : World), (Builtin.append_ #[t, tx] x.type #[a.eval y, a.eval z]).run P w = .ok v' w' → (execOp a.eval x).run P w = .ok (.value v') w' := by
    intro v' w' hr
    rw [builtin_exec hx hb, hargs, hats]
    simp [builtin, hr]
  simp only [WO.ev] at hv
  split at hv
  · rename_i s u e1 e2
    have r1 := coOf_rel he hc e1
    have r2 := coOf_rel he hd e2
    unfold appE at hv
    split at hv
    · cases hv
    · rename_i q hq
      split at hv
      · cases hv
      · rename_i xs hxs
        split at hv
        · rename_i b1 b2 b3
          have hbytes : info.bytes ≤ 100000 := by rw [hby]; exact Nat.le_of_ble_eq_true b1
          have hes : 1 ≤ info.size := by rw [hsz]; exact Nat.le_of_ble_eq_true b2
          obtain ⟨vs, hrun, hvs⟩ := elems_snd (P := P) R r2 hxs
          have hsrc : Src P info.size tx (a.eval z) q vs w := by rw [hsz]; exact src_of Kj h5 r2 hq hxs b3 hrun hvs
          have hxl := elems_length hxs
          rw [← hsz] at hv hxl
          split at hv
          · -- nil
            obtain ⟨hy, _, _⟩ := r1.nils_inv
            split at hv
            · cases hv
              refine ⟨w, m, .slice none 0 0, .inl (hex _ _ ?_), .same rfl, R, Fwd.refl _ _ _⟩
              rw [hy]; exact append_nil0 ht hi hsrc
            · rename_i hq0
              split at hv
              · cases hv
              · rename_i hsm
                split at hv
                · cases hv
                · rename_i h1' id hn
                  cases hv
                  have hq1 : q ≠ 0 := fun e => hq0 e
                  obtain ⟨w', m', cap, g1, g2, g3, g4⟩ := grow_snd (P := P) (ot := x.type) R ht hi hzero hzs hes hbytes (base := none) (sLen := 0) (sCap := 0) (old := []) (old' := []) (fun _ _ => rfl) .nil (by simp) hsrc hvs (by omega)
                    (by have := Nat.le_of_ble_eq_true hsm; omega) (by simpa using hn)
                  simp only [Nat.zero_add] at g1 g2
                  exact ⟨w', m', _, .inl (hex _ _ (by rw [hy]; exact g1)), g2, g3, g4⟩
          · rename_i b o len cc
            obtain ⟨b', o', l, a', cap, hbo, hm, hy, hlc, haa, hcap⟩ := r1.slice_inv
            cases hbo
            split at hv
            · -- nothing is appended
              cases hv
              have hvs0 : vs = [] := by
                have := hvs.length
                rw [hxl] at this
                simp at this
                exact List.eq_nil_of_length_eq_zero this.symm
              subst hvs0
              refine ⟨w, m, .slice (some a') len cap, .inl (hex _ _ ?_), by rw [← hy]; exact r1, R, Fwd.refl _ _ _⟩
              rw [hy]
              exact append_room ht hi hsrc (by omega) rfl
            · rename_i hq0
              have hq1 : q ≠ 0 := fun e => hq0 e
              split at hv
              · cases hv
              · rename_i hsm
                have hsm' := Nat.le_of_ble_eq_true hsm
                have hmul : (len + q) * info.size = len * info.size + q * info.size := Nat.add_mul _ _ _
                have inplace : ∀ h1', storeE h b (o + len * info.size) xs = some h1' → len + q ≤ cap → h' = h1' → v = .slice (some ⟨b, o, none⟩) (len + q) cc → DSnd P m h h' w a x v := by
                  intro h1' hst hroom hh hvv
                  subst hh; subst hvv
                  have ha' : a' = ⟨l.blk, l.off + o, none⟩ := by
                    rcases haa with haa | haa
                    · omega
                    · exact haa
                  obtain ⟨w', g1, g2, g3⟩ := storeE_snd (P := P) R hm hst hvs
                  refine ⟨w', m, .slice (some a') (len + q) cap, .inl (hex _ _ ?_), .slice hm hroom haa hcap, g2, g3⟩
                  rw [hy]
                  refine append_room ht hi hsrc hroom ?_
                  rw [ha', add_none, Nat.add_assoc]
                  exact g1
                split at hv
                · rename_i hodd
                  have hodd' := Nat.eq_of_beq_eq_true hodd
                  have hcap' := hcap
                  unfold CapOk at hcap'
                  rw [if_pos hodd'] at hcap'
                  split at hv
                  · rename_i hfit
                    have hfit' := Nat.le_of_ble_eq_true hfit
                    split at hv
                    · rename_i h1' hst
                      cases hv
                      exact inplace _ hst (by omega) rfl rfl
                    · cases hv
                  · rename_i hfit
                    have hfit' : ¬ len + q ≤ cc / 2 := fun e => by rw [Nat.ble_eq.mpr e] at hfit; cases hfit
                    split at hv
                    · cases hv
                    · rename_i old hold
                      split at hv
                      · cases hv
                      · rename_i h1' id hn
                        cases hv
                        obtain ⟨old', hrun', hold'⟩ := elems_snd (P := P) R r1 hold
                        rw [hy] at hrun'
                        obtain ⟨w', m', cap2, g1, g2, g3, g4⟩ := grow_snd (P := P) (ot := x.type) R ht hi hzero hzs hes hbytes (base := some a') (sLen := len) (sCap := cap) hrun' hold'
                          (elems_length hold) hsrc hvs (by omega) hsm' hn
                        exact ⟨w', m', _, .inl (hex _ _ (by rw [hy]; exact g1)), g2, g3, g4⟩
                · rename_i hodd
                  have hodd' : ¬ cc % 2 = 1 := fun e => by rw [e] at hodd; cases hodd
                  have hcap' := hcap
                  unfold CapOk at hcap'
                  rw [if_neg hodd'] at hcap'
                  split at hv
                  · rename_i cl' hes2 hg
                    have hes' := Nat.eq_of_beq_eq_true hes2
                    rw [hes'] at hcap'
                    obtain ⟨cs, tt, fz, k1, k2, k3, k4⟩ := R.obj b l _ hm hg
                    obtain ⟨hroom, hfz⟩ := k2 rfl
                    split at hv
                    · rename_i hend
                      split at hv
                      · rename_i hsure
                        have hsure' := lenN_ble hsure
                        have hle : len + q ≤ cap := by
                          have : (len + q) * info.size ≤ cap * info.size := by omega
                          exact Nat.le_of_mul_le_mul_right this (by omega)
                        split at hv
                        · rename_i h1' hst
                          cases hv
                          exact inplace _ hst hle rfl rfl
                        · cases hv
                      · cases hv
                    · rename_i hend
                      have hend' := Nat.eq_of_beq_eq_true hend
                      rw [lenN_eq, Nat.zero_add] at hend'
                      split at hv
                      · cases hv
                      · rename_i h1' hput
                        split at hv
                        · cases hv
                        · rename_i h2' id hn
                          cases hv
                          have hown : own h b := own_of hg rfl
                          by_cases hfit : len + q ≤ cap
                          · -- there is room
                            have ha' : a' = ⟨l.blk, l.off + o, none⟩ := by
                              rcases haa with haa | haa
                              · omega
                              · exact haa
                            have hfitm : (len + q) * info.size ≤ cap * info.size := Nat.mul_le_mul_right _ hfit
                            have hvl := hvs.length
                            obtain ⟨w', cs', g1, g2, g3, g4, g5, g6⟩ := store_cells (P := P) l.blk tt fz vs (l.off + o + len * info.size) 0 cs w k1 hfz (by omega) (allOne_rel b3 hvs)
                            have hcs : cs'.size = cs.size := by
                              have := congrArg List.length g3
                              rw [putAt_length] at this
                              simpa using this
                            have hnone : m id = none := by
                              have e1 := (H.put_next hput).1
                              have e2 := (H.new_next hn).1
                              rw [e2, e1]; exact R.none_next
                            have hsub := put_sub (l := ⟨l.blk, l.off + o, l.room - o⟩) hnone
                            have hob : ORel (put m id ⟨l.blk, l.off + o, l.room - o⟩) ⟨l.blk, l.off + o, l.room - o⟩ w'.heap (.cells (cl'.drop o ++ xs) true) := by
                              refine ⟨cs', tt, fz, g2, fun _ => ⟨by simp only; omega, by rw [hcs]; exact hfz⟩, by simp; omega, ?_⟩
                              intro jj u' hj
                              have hget : ∀ qq : Nat, cs'[qq]? = cs'.toList[qq]? := fun qq => (Array.getElem?_toList).symm
                              have hcl : cs.toList.length = cs.size := Array.length_toList
                              rw [hget, g3, Nat.add_zero, putAt_get cs.toList _ vs _ (by omega)]
                              by_cases hjl : jj < (cl'.drop o).length
                              · rw [List.getElem?_append_left hjl, List.getElem?_drop] at hj
                                rw [if_neg (by simp at hjl ⊢; omega)]
                                obtain ⟨u2, q1, q2⟩ := k4 _ _ hj
                                refine ⟨u2, ?_, q2.sub hsub⟩
                                rw [Array.getElem?_toList]
                                simpa [Nat.add_assoc] using q1
                              · rw [List.getElem?_append_right (by omega)] at hj
                                have hjx : jj - (cl'.drop o).length < xs.length := by
                                  rcases List.getElem?_eq_some_iff.1 hj with ⟨hh, _⟩; exact hh
                                simp only [List.length_drop] at hj hjl hjx
                                rw [if_pos (by simp only; omega)]
                                obtain ⟨u2, q1, q2⟩ := hvs.get hj
                                refine ⟨u2, ?_, q2.sub hsub⟩
                                have : l.off + o + jj - (l.off + o + len * info.size) = jj - (cl'.length - o) := by omega
                                rw [this]; exact q1
                            have key := R.move (l' := ⟨l.blk, l.off + o, l.room - o⟩) hm hown hput hn rfl g4 g5 hob
                            refine ⟨w', _, .slice (some a') (len + q) cap, .inl (hex _ _ ?_), ?_, key.1, ⟨key.2, g6⟩⟩
                            · rw [hy]
                              refine append_room ht hi hsrc hfit ?_
                              rw [ha', add_none]
                              exact g1
                            · refine VRel.slice (l := ⟨l.blk, l.off + o, l.room - o⟩) (put_same _ _ _) hfit (.inr (by rw [ha']; simp)) ?_
                              unfold CapOk
                              rw [if_neg (by omega)]
                              have : 2 * info.size / 2 = info.size := by omega
                              rw [this]
                              exact ⟨by omega, by simp only; omega⟩
                          · -- there is none
                            have hkill := R.putObj hm hown hput rfl (fun _ _ => rfl) (fun o' ho' => by cases ho')
                            have hold : elemsE h info.size len (.slice (some ⟨b, o, none⟩) len cc) = some (cl'.drop o) := by
                              simp only [elemsE]
                              have hb0 : Nat.ble len len = true := by simp
                              rw [hb0]
                              cases len with
                              | zero =>
                                have : cl'.drop o = [] := List.drop_eq_nil_of_le (by simp at hend'; omega)
                                simp [this]
                              | succ len' =>
                                simp only [hg]
                                have : Nat.ble (o + (len' + 1) * info.size) (lenN cl' 0) = true := by rw [lenN_eq, Nat.zero_add, Nat.ble_eq]; omega
                                rw [this]
                                simp only
                                rw [List.take_of_length_le (by simp; omega)]
                            obtain ⟨old', hrun', hold'⟩ := elems_snd (P := P) R r1 hold
                            rw [hy] at hrun'
                            obtain ⟨w', m', cap2, g1, g2, g3, g4⟩ := grow_snd (P := P) (ot := x.type) hkill.1 ht hi hzero hzs hes hbytes (base := some a') (sLen := len) (sCap := cap) hrun' hold'
                              (elems_length hold) hsrc hvs (by omega) hsm' hn
                            exact ⟨w', m', _, .inl (hex _ _ (by rw [hy]; exact g1)), g2, g3, ⟨hkill.2.trans g4.x R.dom, g4.o⟩⟩
                  · cases hv
          · cases hv
        · cases hv
  · cases hv

end Am
end Go.Proofs.YtbfbaofhnnnohaaGreatDoor

/- The abstract machine, part 18: maps written; copies; iterators. -/
namespace Go.Proofs.YtbfbaofhnnnohaaGreatDoor
namespace Am
variable {P : Program} {ty : Ty} {m : M} {e : Env} {a : Act} {n : Nat} {x : Oper} {v : Value} {w : World} {h h' : H}

theorem run_setObj_of {r : Nat} {o o' : Obj} (hg : w.heap[r]? = some o) (hc : (match o with | .cells _ _ _ => false | _ => true) = true) :
    (setObj r o').run P w = .ok () { w with heap := w.heap.setIfInBounds r o' } := by
  unfold setObj
  simp only [Sem.run, hg]
  cases o <;> first | rfl | cases hc

theorem set_at {hp : Array Obj} {r : Nat} {o o' : Obj} (hg : hp[r]? = some o) : (hp.setIfInBounds r o')[r]? = some o' := by
  rcases Array.getElem?_eq_some_iff.1 hg with ⟨hlt, _⟩
  simp [hlt]

theorem set_off {hp : Array Obj} {r : Nat} {o' : Obj} (b : Nat) (hb : b ≠ r) : (hp.setIfInBounds r o')[b]? = hp[b]? := by
  simp [Ne.symm hb]

/-- A map of the machine's own is another one from now on. -/
theorem map_put (R : Rel m h w.heap) {r : Nat} {l : Loc} {es es2 : List (Value × Value × Nat)} {clock c2 : Nat} {es2' : List MapEntry} (hm : m r = some l) (hg : h.get r = some (.map es clock))
    (hp : h.put r (some (.map es2 c2)) = some h') (hE : ERels m es2 es2') :
    Rel m h' (w.heap.setIfInBounds l.blk (.map ⟨es2'⟩ c2)) ∧ Ext m m h h' w.heap (w.heap.setIfInBounds l.blk (.map ⟨es2'⟩ c2)) := by
  obtain ⟨es', hh, _, h0⟩ := map_read R hm hg
  refine R.putObj hm (own_of hg rfl) hp (by simp) (fun b hb => set_off b hb) (fun o ho => ?_)
  cases ho
  exact ⟨h0, es2', set_at hh, hE⟩

theorem cellEq_true {p q : Value} (h : cellEq p q = some true) : q = p := by
  unfold cellEq at h
  split at h
  · split at h
    · rename_i hk
      cases hq : eqI _ _ <;> rw [hq] at h
      · cases h
      · rw [sameK_eq] at hk
        rw [eqI_eq] at hq
        simp at hk hq
        rw [hk, hq]
    · cases h
  · rename_i s t
    cases hq : bytesEq (sl s) (sl t) <;> rw [hq] at h
    · cases h
    · rw [bytesEq_eq] at hq
      have := beq_iff_eq.1 hq
      rw [← strOf_sl s, ← strOf_sl t, this]
  · rename_i s t
    cases s <;> cases t <;> first | rfl | cases h
  · cases h

theorem cellsEq_true : ∀ {p q : List Value}, cellsEq p q = some true → q = p
  | [], [], _ => rfl
  | [], _ :: _, h => by simp [cellsEq] at h
  | _ :: _, [], h => by simp [cellsEq] at h
  | a :: p, b :: q, h => by
    simp only [cellsEq] at h
    split at h
    · rename_i hc; rw [cellEq_true hc, cellsEq_true h]
    · cases h
    · cases h

theorem keyEq_true {p q : Value} (h : keyEq p q = some true) : q = p := by
  unfold keyEq at h
  split at h
  · split at h
    · exact congrArg Value.agg (Array.toList_inj.1 (cellsEq_true h))
    · cases h
  · split at h
    · cases h
    · exact cellEq_true h

theorem same_cell {k : Nat} {u : Value} (h : fitCell k u = true) (d : Nat) : Instr.sameBits d u u = true := by
  cases u <;> simp_all [fitCell, Instr.sameBits, beq_toListBytes]

theorem same_cells : ∀ {ks : List Nat} {l : List Value}, fitAll ks l = true → ∀ d, ((l.zip l).all fun (x, y) => Instr.sameBits d x y) = true
  | [], [], _, _ => rfl
  | k :: ks, u :: l, h, d => by
    unfold fitAll at h
    cases hv : fitCell k u <;> rw [hv] at h
    · cases h
    · simp only [List.zip_cons_cons, List.all_cons, same_cell hv d, Bool.true_and]
      exact same_cells h d
  | [], _ :: _, h, _ => by simp [fitAll] at h
  | _ :: _, [], h, _ => by simp [fitAll] at h

theorem key_stays {kn : Ky} {kv : Value} (h : keyOk kn kv = true) (w : World) : (Instr.keyThatStays kv kv).run P w = .ok kv w := by
  have hs : Instr.sameBits 10000 kv kv = true := by
    have hd : 10000 = 9999 + 1 := rfl
    rw [hd]
    generalize 9999 = d
    unfold keyOk at h
    split at h
    · exact same_cell h _
    · split at h
      · rename_i c
        simp only [Instr.sameBits, beq_self_eq_true, Bool.true_and]
        exact same_cells h d
      · cases h
  simp [Instr.keyThatStays, hs]

/-- What was found stands there, under that very key. -/
theorem findE_at {kv : Value} : ∀ {es : List (Value × Value × Nat)} {i j : Nat} {u : Value}, findE kv es i = some (some (j, u)) → ∃ q b, j = i + q ∧ es[q]? = some (kv, u, b)
  | [], i, j, u, h => by simp [findE] at h
  | (k, v, b) :: es, i, j, u, h => by
    simp only [findE] at h
    split at h
    · rename_i he
      cases h
      refine ⟨0, b, by omega, ?_⟩
      rw [keyEq_true he]; rfl
    · obtain ⟨q, b', h1, h2⟩ := findE_at h
      exact ⟨q + 1, b', by omega, by simpa using h2⟩
    · cases h

theorem ERels.get {es : List (Value × Value × Nat)} {es' : List MapEntry} (hE : ERels m es es') : ∀ {i : Nat} {k u : Value} {b : Nat}, es[i]? = some (k, u, b) →
    ∃ k' u', es'[i]? = some ⟨k', u', b⟩ ∧ VRel m k k' ∧ VRel m u u' := by
  induction hE with
  | nil => intro i k u b h; simp at h
  | cons hk hv t ih =>
    intro i k u b h
    cases i with
    | zero => simp at h; obtain ⟨rfl, rfl, rfl⟩ := h; exact ⟨_, _, rfl, hk, hv⟩
    | succ i => simp at h; obtain ⟨k', u', h1, h2⟩ := ih h; exact ⟨k', u', by simpa using h1, h2⟩

theorem ERels.setVal {es : List (Value × Value × Nat)} {es' : List MapEntry} (hE : ERels m es es') {u u' : Value} (hu : VRel m u u') : ∀ (i : Nat) {kv k0 : Value} {b : Nat}, es[i]? = some (kv, k0, b) → VRel m kv kv →
    ERels m (Am.setVal es i u) (es'.modify i fun e => { e with key := kv, val := u' }) := by
  induction hE with
  | nil => intro i kv k0 b h _; simp at h
  | @cons k v k' v' b1 l l' hk hv t ih =>
    intro i kv k0 b h hkk
    cases i with
    | zero => simp at h; obtain ⟨rfl, rfl, rfl⟩ := h; simp only [Am.setVal, List.modify_zero_cons]; exact .cons hkk hu t
    | succ i => simp at h; simp only [Am.setVal, List.modify_succ_cons]; exact .cons hk hv (ih i h hkk)

theorem ERels.keyed {es : List (Value × Value × Nat)} {es' : List MapEntry} (hE : ERels m es es') : ∀ (i : Nat) {kv k0 : Value} {b : Nat}, es[i]? = some (kv, k0, b) → VRel m kv kv →
    ERels m es (es'.modify i fun e => { e with key := kv }) := by
  induction hE with
  | nil => intro i kv k0 b h _; simp at h
  | @cons k v k' v' b1 l l' hk hv t ih =>
    intro i kv k0 b h hkk
    cases i with
    | zero => simp at h; obtain ⟨rfl, rfl, rfl⟩ := h; simp only [List.modify_zero_cons]; exact .cons hkk hv t
    | succ i => simp at h; simp only [List.modify_succ_cons]; exact .cons hk hv (ih i h hkk)

theorem keyOk_self {kn : Ky} {kv : Value} (h : keyOk kn kv = true) : VRel m kv kv := by
  unfold keyOk at h
  split at h
  · exact .same (fitCell_plain h)
  · split at h
    · rename_i c
      have : ∀ {ks : List Nat} {l : List Value}, fitAll ks l = true → VRels m l l := by
        intro ks l
        induction l generalizing ks with
        | nil => intro _; exact .nil
        | cons u l ih =>
          intro hf
          cases ks with
          | nil => simp [fitAll] at hf
          | cons k ks =>
            unfold fitAll at hf
            cases hv : fitCell k u <;> rw [hv] at hf
            · cases hf
            · exact .cons (.same (fitCell_plain hv)) (ih hf)
      cases c with | mk l => exact .agg (this h)
    · cases h

theorem mup_snd (hT : TyOk P ty) (he : ERel m e a.tmps) (R : Rel m h w.heap) {t kt el : TypeId} {y z q : Operand} {c d f : CO} {i : TI} {kn : Ky} (hx : x.op = .mapUpdate t y z q) (h1 : ty t = some i)
    (h2 : i.d = .map kt el) (h4 : keyType ty kt = some kn) (hc : coOf n y = some c) (hd : coOf n z = some d) (hf : coOf n q = some f) (hv : (WO.mup kn c d f).ev e h = some (v, h')) :
    DSnd P m h h' w a x v := by
  have K := hT.knows h1
  simp only [WO.ev] at hv
  split at hv
  · rename_i r kv u e1 e2 e3
    obtain ⟨l, hm, hy⟩ := (coOf_rel he hc e1).map_inv
    have ru := coOf_rel he hf e3
    split at hv
    · rename_i es clock hkv hg
      have r2 := keyOk_rel hkv (coOf_rel he hd e2)
      obtain ⟨es', hh, hE, h0⟩ := map_read R hm hg
      have hgo := run_getObj_of (P := P) hh rfl
      have hck := checkKey_snd hT h4 hkv false w
      split at hv
      · cases hv
      · rename_i j u0 hfd
        split at hv
        · rename_i h1' hp
          cases hv
          obtain ⟨qq, b, hq1, hq2⟩ := findE_at hfd
          simp only [Nat.zero_add] at hq1
          subst hq1
          obtain ⟨q', g1, g2⟩ := findKey_snd hT h4 hkv hE hfd w
          cases q' with
          | none => exact g2.elim
          | some p =>
            obtain ⟨j', u'⟩ := p
            obtain ⟨rfl, _⟩ := g2
            obtain ⟨k', u2', k1, k2, k3⟩ := hE.get hq2
            have hk' : k' = kv := keyOk_rel hkv k2
            subst hk'
            have hE2 := hE.setVal ru j hq2 (keyOk_self hkv)
            have key := map_put R hm hg hp hE2
            refine ⟨{ w with heap := w.heap.setIfInBounds l.blk (.map ⟨es'.modify j fun e => { e with key := k', val := a.eval q }⟩ clock) }, m, undef, .inr ⟨?_, rfl⟩, .tuple .nil, key.1, ⟨key.2, ⟨rfl, rfl, rfl⟩⟩⟩
            simp [execOp, hx, Instr.mapUpdate, K.und, h2, hy, hgo, r2, hck, g1, k1, key_stays hkv, run_setObj_of hh rfl]
        · cases hv
      · rename_i hfd
        split at hv
        · rename_i h1' hp
          cases hv
          obtain ⟨q', g1, g2⟩ := findKey_snd hT h4 hkv hE hfd w
          cases q' with
          | some _ => exact g2.elim
          | none =>
            have hE2 : ERels m (es ++ [(kv, u, clock)]) (es' ++ [⟨kv, a.eval q, clock⟩]) := hE.append (.cons (keyOk_self hkv) ru .nil)
            have key := map_put R hm hg hp hE2
            refine ⟨{ w with heap := w.heap.setIfInBounds l.blk (.map ⟨es' ++ [⟨kv, a.eval q, clock⟩]⟩ (clock + 1)) }, m, undef, .inr ⟨?_, rfl⟩, .tuple .nil, key.1, ⟨key.2, ⟨rfl, rfl, rfl⟩⟩⟩
            simp [execOp, hx, Instr.mapUpdate, K.und, h2, hy, hgo, r2, hck, g1, run_setObj_of hh rfl]
        · cases hv
    · cases hv
  · cases hv

theorem men_snd (hT : TyOk P ty) (he : ERel m e a.tmps) (R : Rel m h w.heap) {t kt el : TypeId} {y z : Operand} {c d : CO} {i j : TI} {kn : Ky} (hx : x.op = .mapEntry t y z) (h1 : ty t = some i)
    (h2 : i.d = .map kt el) (h3 : ty el = some j) (h5 : plainD j.zero = true) (h4 : keyType ty kt = some kn) (hc : coOf n y = some c) (hd : coOf n z = some d) (hv : (WO.men j.zero kn c d).ev e h = some (v, h')) :
    DSnd P m h h' w a x v := by
  have K := hT.knows h1
  have Kj := hT.knows h3
  simp only [WO.ev] at hv
  split at hv
  · rename_i r kv e1 e2
    obtain ⟨l, hm, hy⟩ := (coOf_rel he hc e1).map_inv
    split at hv
    · rename_i es clock hkv hg
      have r2 := keyOk_rel hkv (coOf_rel he hd e2)
      obtain ⟨es', hh, hE, h0⟩ := map_read R hm hg
      have hgo := run_getObj_of (P := P) hh rfl
      have hck := checkKey_snd hT h4 hkv false w
      split at hv
      · cases hv
      · rename_i jj u0 hfd
        obtain ⟨qq, b, hq1, hq2⟩ := findE_at hfd
        simp only [Nat.zero_add] at hq1
        subst hq1
        split at hv
        · rename_i b2 u2 hb
          split at hv
          · rename_i h1' hp
            cases hv
            have hbb : b2 = b := by
              have : ∀ {es : List (Value × Value × Nat)} {i : Nat} {kk uu : Value} {b b2 : Nat} {u2 : Value}, es[i]? = some (kk, uu, b) → bornAt es i = some (b2, u2) → b2 = b := by
                intro es
                induction es with
                | nil => intro i kk uu b b2 u2 hq; simp at hq
                | cons p es ih =>
                  obtain ⟨pk, pv, pb⟩ := p
                  intro i kk uu b b2 u2 hq hb
                  cases i with
                  | zero => simp at hq; simp only [bornAt] at hb; cases hb; exact hq.2.2
                  | succ i => simp at hq; simp only [bornAt] at hb; exact ih hq hb
              exact this hq2 hb
            subst hbb
            obtain ⟨q', g1, g2⟩ := findKey_snd hT h4 hkv hE hfd w
            cases q' with
            | none => exact g2.elim
            | some p =>
              obtain ⟨j', u'⟩ := p
              obtain ⟨rfl, hu'⟩ := g2
              obtain ⟨k', u2', k1, k2, k3⟩ := hE.get hq2
              have hk' : k' = kv := keyOk_rel hkv k2
              subst hk'
              have hE2 := hE.keyed jj hq2 (keyOk_self hkv)
              have key := map_put R hm hg hp hE2
              refine ⟨{ w with heap := w.heap.setIfInBounds l.blk (.map ⟨es'.modify jj fun e => { e with key := k' }⟩ clock) }, m, .tuple #[u', goInt b2], .inl ?_,
                .tuple (.cons hu' (.cons (.same rfl) .nil)), key.1, ⟨key.2, ⟨rfl, rfl, rfl⟩⟩⟩
              simp [execOp, hx, Instr.mapEntry, K.und, h2, hy, hgo, r2, hck, g1, k1, key_stays hkv, run_setObj_of hh rfl]
          · cases hv
        · cases hv
      · rename_i hfd
        split at hv
        · rename_i h1' hp
          cases hv
          obtain ⟨q', g1, g2⟩ := findKey_snd hT h4 hkv hE hfd w
          cases q' with
          | some _ => exact g2.elim
          | none =>
            have hE2 : ERels m (es ++ [(kv, j.zero, clock)]) (es' ++ [⟨kv, j.zero, clock⟩]) := hE.append (.cons (keyOk_self hkv) (plainD_rel h5) .nil)
            have key := map_put R hm hg hp hE2
            refine ⟨{ w with heap := w.heap.setIfInBounds l.blk (.map ⟨es' ++ [⟨kv, j.zero, clock⟩]⟩ (clock + 1)) }, m, .tuple #[j.zero, goInt clock], .inl ?_,
              .tuple (.cons (plainD_rel h5) (.cons (.same rfl) .nil)), key.1, ⟨key.2, ⟨rfl, rfl, rfl⟩⟩⟩
            simp [execOp, hx, Instr.mapEntry, K.und, h2, hy, hgo, r2, hck, g1, Kj.zero, run_setObj_of hh rfl]
        · cases hv
    · cases hv
  · cases hv

theorem ERels.setBorn {es es2 : List (Value × Value × Nat)} {es' : List MapEntry} (hE : ERels m es es') {s : Int} {u u' : Value} (hu : VRel m u u') : setBorn es s u = some es2 →
    ∃ i, (es'.findIdx? fun e => (e.born : Int) == s) = some i ∧ ERels m es2 (es'.modify i fun e => { e with val := u' }) := by
  induction hE generalizing es2 with
  | nil => intro h; simp [Am.setBorn] at h
  | @cons k v k' v' b1 l l' hk hv t ih =>
    intro h
    simp only [Am.setBorn] at h
    split at h
    · rename_i hb
      cases h
      rw [eqI_eq] at hb
      refine ⟨0, ?_, ?_⟩
      · rw [List.findIdx?_cons]
        have : ((b1 : Int) == s) = true := hb
        simp [this]
      · simp only [List.modify_zero_cons]; exact .cons hk hu t
    · rename_i hb
      rw [eqI_eq] at hb
      split at h
      · rename_i r hr
        cases h
        obtain ⟨i, h1, h2⟩ := ih hr
        refine ⟨i + 1, ?_, ?_⟩
        · rw [List.findIdx?_cons]
          have : ((b1 : Int) == s) = false := hb
          simp [this, h1]
        · simp only [List.modify_succ_cons]; exact .cons hk hv h2
      · cases h

theorem est_snd (he : ERel m e a.tmps) (R : Rel m h w.heap) {t : TypeId} {y z q : Operand} {c d f : CO} (hx : x.op = .entryStore t y z q) (hc : coOf n y = some c) (hd : coOf n z = some d)
    (hf : coOf n q = some f) (hv : (WO.est c d f).ev e h = some (v, h')) : DSnd P m h h' w a x v := by
  simp only [WO.ev] at hv
  split at hv
  · rename_i r kk s u e1 e2 e3
    obtain ⟨l, hm, hy⟩ := (coOf_rel he hc e1).map_inv
    have rs := (coOf_rel he hd e2).int_inv
    have ru := coOf_rel he hf e3
    split at hv
    · rename_i es clock hg
      split at hv
      · rename_i es2 hsb
        split at hv
        · rename_i h1' hp
          cases hv
          obtain ⟨es', hh, hE, h0⟩ := map_read R hm hg
          have hgo := run_getObj_of (P := P) hh rfl
          obtain ⟨i, g1, g2⟩ := hE.setBorn ru hsb
          have key := map_put R hm hg hp g2
          refine ⟨{ w with heap := w.heap.setIfInBounds l.blk (.map ⟨es'.modify i fun e => { e with val := a.eval q }⟩ clock) }, m, undef, .inr ⟨?_, rfl⟩, .tuple .nil, key.1, ⟨key.2, ⟨rfl, rfl, rfl⟩⟩⟩
          simp [execOp, hx, Instr.entryStore, hy, hgo, rs, asInt, asIntOf, g1, run_setObj_of hh rfl]
        · cases hv
      · cases hv
    · cases hv
  · cases hv

theorem ERels.delAt {es : List (Value × Value × Nat)} {es' : List MapEntry} (hE : ERels m es es') : ∀ (i : Nat), ERels m (Am.delAt es i) (es'.eraseIdx i) := by
  induction hE with
  | nil => intro i; exact .nil
  | cons hk hv t ih =>
    intro i
    cases i with
    | zero => exact t
    | succ i => exact .cons hk hv (ih i)

theorem del_snd (hT : TyOk P ty) (he : ERel m e a.tmps) (R : Rel m h w.heap) {cl : Call} {t tx kt el : TypeId} {c d : CO} {i : TI} {kn : Ky} (hx : x.op = .call cl) (hb : cl.callee = .builtin .delete)
    (hat : cl.argTypes.toList = [t, tx]) (h1 : ty t = some i) (h2 : i.d = .map kt el) (h4 : keyType ty kt = some kn) (ha : cosOf n cl.args.toList = some [c, d])
    (hv : (WO.del kn c d).ev e h = some (v, h')) : DSnd P m h h' w a x v := by
  obtain ⟨y, z, hyz, hc, hd⟩ := cosOf_two ha
  have hargs : cl.args = #[y, z] := by apply Array.ext'; simp [hyz]
  have hats : cl.argTypes = #[t, tx] := by apply Array.ext'; simp [hat]
  have K := hT.knows h1
  have hex : ∀ (v' : Value) (w' : World), (Builtin.delete_ #[t, tx] x.type #[a.eval y, a.eval z]).run P w = .ok v' w' → (execOp a.eval x).run P w = .ok (.value v') w' := by
    intro v' w' hr
    rw [builtin_exec hx hb, hargs, hats]
    simp [builtin, hr]
  simp only [WO.ev] at hv
  split at hv
  · rename_i kv e1 e2
    split at hv
    · rename_i hkv
      cases hv
      have hy := (coOf_rel he hc e1).nilm_inv
      have r2 := keyOk_rel hkv (coOf_rel he hd e2)
      refine ⟨w, m, .tuple #[], .inl (hex _ _ ?_), .tuple .nil, R, Fwd.refl _ _ _⟩
      simp [Builtin.delete_, K.und, h2, hy, r2, checkKey_snd hT h4 hkv]
    · cases hv
  · rename_i r kv e1 e2
    obtain ⟨l, hm, hy⟩ := (coOf_rel he hc e1).map_inv
    split at hv
    · rename_i es clock hkv hg
      have r2 := keyOk_rel hkv (coOf_rel he hd e2)
      obtain ⟨es', hh, hE, h0⟩ := map_read R hm hg
      have hgo := run_getObj_of (P := P) hh rfl
      have hck := fun b => checkKey_snd hT h4 hkv b w
      split at hv
      · cases hv
      · rename_i j u0 hfd
        split at hv
        · rename_i h1' hp
          cases hv
          obtain ⟨q', g1, g2⟩ := findKey_snd hT h4 hkv hE hfd w
          cases q' with
          | none => exact g2.elim
          | some p =>
            obtain ⟨j', u'⟩ := p
            obtain ⟨rfl, _⟩ := g2
            have key := map_put R hm hg hp (hE.delAt j)
            refine ⟨{ w with heap := w.heap.setIfInBounds l.blk (.map ⟨es'.eraseIdx j⟩ clock) }, m, .tuple #[], .inl (hex _ _ ?_), .tuple .nil, key.1, ⟨key.2, ⟨rfl, rfl, rfl⟩⟩⟩
            simp [Builtin.delete_, K.und, h2, hy, hgo, r2, hck, g1, run_setObj_of hh rfl]
        · cases hv
      · rename_i hfd
        cases hv
        obtain ⟨q', g1, g2⟩ := findKey_snd hT h4 hkv hE hfd w
        cases q' with
        | some _ => exact g2.elim
        | none =>
          have key := R.turn (hp' := w.heap.setIfInBounds l.blk (.map ⟨es'⟩ clock)) hm (own_of hg rfl) (by simp) (fun b hb => set_off b hb) (fun o ho => by
            rw [hg] at ho; cases ho
            exact ⟨h0, es', set_at hh, hE⟩)
          refine ⟨{ w with heap := w.heap.setIfInBounds l.blk (.map ⟨es'⟩ clock) }, m, .tuple #[], .inl (hex _ _ ?_), .tuple .nil, key.1, ⟨key.2, ⟨rfl, rfl, rfl⟩⟩⟩
          simp [Builtin.delete_, K.und, h2, hy, hgo, r2, hck, g1, run_setObj_of hh rfl]
    · cases hv
  · cases hv

theorem rgM_snd (hT : TyOk P ty) (he : ERel m e a.tmps) (R : Rel m h w.heap) {t kt el : TypeId} {y : Operand} {c : CO} {i : TI} (hx : x.op = .range t y) (h1 : ty t = some i) (h2 : i.d = .map kt el)
    (hc : coOf n y = some c) (hv : (WO.rgM c).ev e h = some (v, h')) : DSnd P m h h' w a x v := by
  have K := hT.knows h1
  simp only [WO.ev] at hv
  split at hv
  · rename_i e1
    split at hv
    · rename_i h1' id hn
      cases hv
      have hid := (H.new_next hn).1
      have r := (coOf_rel he hc e1).nilm_inv
      have := R.alloc (room := 0) hn (w.heap.push (.mapIter none 0 #[] 0)) rfl ⟨rfl, by simp⟩
      refine ⟨{ w with heap := w.heap.push (.mapIter none 0 #[] 0) }, _, .pointer (some ⟨w.heap.size, 0, none⟩), .inl ?_, ?_, this.1, ⟨this.2, ⟨rfl, rfl, rfl⟩⟩⟩
      · simp [execOp, hx, Instr.range, K.und, h2, r]
      · exact VRel.ptr (l := ⟨w.heap.size, 0, 0⟩) (put_same _ _ _)
    · cases hv
  · rename_i r e1
    obtain ⟨l, hm, hy⟩ := (coOf_rel he hc e1).map_inv
    split at hv
    · rename_i es clock hg
      split at hv
      · rename_i h1' id hn
        cases hv
        have hid := (H.new_next hn).1
        have hnone : m id = none := by rw [hid]; exact R.none_next
        obtain ⟨es', hh, hE, h0⟩ := map_read R hm hg
        have hgo := run_getObj_of (P := P) hh rfl
        have := R.alloc (room := 0) hn (w.heap.push (.mapIter (some l.blk) clock #[] clock)) rfl ⟨rfl, l, put_sub hnone _ _ hm, by simp⟩
        refine ⟨{ w with heap := w.heap.push (.mapIter (some l.blk) clock #[] clock) }, _, .pointer (some ⟨w.heap.size, 0, none⟩), .inl ?_, ?_, this.1, ⟨this.2, ⟨rfl, rfl, rfl⟩⟩⟩
        · simp [execOp, hx, Instr.range, K.und, h2, hy, hgo]
        · exact VRel.ptr (l := ⟨w.heap.size, 0, 0⟩) (put_same _ _ _)
      · cases hv
    · cases hv
  · cases hv

theorem nxS_snd (he : ERel m e a.tmps) (R : Rel m h w.heap) {y : Operand} {c : CO} (hx : x.op = .next y true) (hc : coOf n y = some c) (hv : (WO.nxS c).ev e h = some (v, h')) : DSnd P m h h' w a x v := by
  simp only [WO.ev] at hv
  split at hv
  · rename_i r hp
    obtain ⟨b, o, l, hbo, hm, hy⟩ := (coOf_rel he hc hp).ptr_inv
    cases hbo
    split at hv
    · rename_i s pos hg
      obtain ⟨h0, hh⟩ := R.obj _ l _ hm hg
      have hgo := run_getObj_of (P := P) hh rfl
      split at hv
      · rename_i hlt
        have hlt' : pos < s.size := by
          have := Nat.le_of_ble_eq_true hlt
          rw [len8_eq, ← size_sl] at this; omega
        split at hv
        · rename_i bb hb
          split at hv
          · rename_i hasc
            split at hv
            · rename_i h1' hp'
              cases hv
              have hbb : (s[pos]'hlt') = bb := by
                obtain ⟨hq, e⟩ := List.getElem?_eq_some_iff.1 hb
                rw [← e]; rfl
              have hdec := decode_ascii s pos hlt' (by rw [hbb]; have := Nat.le_of_ble_eq_true hasc; omega)
              have key := R.putObj (hp' := w.heap.setIfInBounds l.blk (.stringIter s (pos + 1))) hm (own_of hg rfl) hp' (by simp) (fun b hb => set_off b hb) (fun o ho => by
                cases ho; exact ⟨h0, set_at hh⟩)
              refine ⟨{ w with heap := w.heap.setIfInBounds l.blk (.stringIter s (pos + 1)) }, m, .tuple #[.bool true, goInt pos, .int .i32 bb.toNat], .inl ?_,
                .tuple (.cons (.same rfl) (.cons (.same rfl) (.cons (.same rfl) .nil))), key.1, ⟨key.2, ⟨rfl, rfl, rfl⟩⟩⟩
              simp [execOp, hx, Instr.next, hy, h0, hgo, hlt', hdec, hbb, run_setObj_of hh rfl]
            · cases hv
          · cases hv
        · cases hv
      · rename_i hlt
        cases hv
        have hlt' : ¬ pos < s.size := fun hh => by
          have : Nat.ble (pos + 1) (len8 (sl s) 0) = true := by rw [len8_eq, ← size_sl, Nat.ble_eq]; omega
          rw [this] at hlt; cases hlt
        refine ⟨w, m, .tuple #[.bool false], .inl ?_, .tuple (.cons (.same rfl) .nil), R, Fwd.refl _ _ _⟩
        simp [execOp, hx, Instr.next, hy, h0, hgo, hlt']
    · cases hv
  · cases hv

theorem mrk_snd (hT : TyOk P ty) (he : ERel m e a.tmps) (R : Rel m h w.heap) {s el el2 : TypeId} {y : Operand} {c : CO} {i k : TI} (hx : x.op = .convert s s y) (h1 : ty s = some i)
    (h3 : i.d = .slice el) (h5 : ty el = some k) (h6 : k.d = .int .u8) (hc : coOf n y = some c) (hv : (WO.mrk c).ev e h = some (v, h')) : DSnd P m h h' w a x v := by
  have _ := el2
  have K := hT.knows h1
  have K3 := hT.knows h5
  simp only [WO.ev] at hv
  split at hv
  · rename_i b o len cc hp
    obtain ⟨b', o', l, a', cap, hbo, hm, hy, hlc, haa, hcap⟩ := (coOf_rel he hc hp).slice_inv
    cases hbo
    split at hv
    · rename_i cl hlen hg
      cases hv
      have hlen' := Nat.le_of_ble_eq_true hlen
      have ha' : a' = ⟨l.blk, l.off + o, none⟩ := by
        rcases haa with haa | haa
        · omega
        · exact haa
      obtain ⟨cs, tt, fz, k1, k2, k3, k4⟩ := R.obj b l _ hm hg
      obtain ⟨hroom, hfz⟩ := k2 rfl
      have hsh : w.shape? l.blk = some (tt, cs.size) := by simp [World.shape?, k1]
      have hfr : (w.freeze ⟨l.blk, cs.size, none⟩ 1).heap[l.blk]? = some (.cells cs tt (if fz.1 == fz.2 then (cs.size, cs.size + 1) else (min fz.1 cs.size, max fz.2 (cs.size + 1)))) := by
        simp [World.freeze, Array.getElem?_modify, k1]
      have key := R.turn (hp' := (w.freeze ⟨l.blk, cs.size, none⟩ 1).heap) hm (own_of hg rfl) (by simp [World.freeze]) (fun b hb => by simp [World.freeze, Array.getElem?_modify, Ne.symm hb]) (fun o ho => by
        rw [hg] at ho; cases ho
        refine ⟨cs, tt, _, hfr, fun _ => ⟨hroom, ?_⟩, k3, k4⟩
        right
        split
        · exact Nat.le_refl _
        · rename_i hne
          rcases hfz with hfz | hfz
          · exact absurd (by simpa using hfz) hne
          · simp only; omega)
      refine ⟨w.freeze ⟨l.blk, cs.size, none⟩ 1, m, .slice (some a') len cap, .inl ?_, by rw [← hy]; exact coOf_rel he hc hp, key.1, ⟨key.2, ⟨rfl, rfl, rfl⟩⟩⟩
      have hcv : (convert s s (.slice (some a') len cap)).run P w = .ok (.slice (some a') len cap) (w.freeze ⟨l.blk, cs.size, none⟩ 1) := by
        unfold convert
        simp [K.und, h3, K3.und, h6, markStringish, ha', hsh]
      simp [execOp, hx, hy, hcv]
    · cases hv
  · cases hv

theorem cpy_snd (hT : TyOk P ty) (he : ERel m e a.tmps) (R : Rel m h w.heap) {cl : Call} {t tx el : TypeId} {c d : CO} {i k : TI} (hx : x.op = .call cl) (hb : cl.callee = .builtin .copy)
    (hat : cl.argTypes.toList = [t, tx]) (h1 : ty t = some i) (h2 : i.d = .slice el) (h3 : ty el = some k) (ha : cosOf n cl.args.toList = some [c, d])
    (hv : (WO.cpy k.size c d).ev e h = some (v, h')) : DSnd P m h h' w a x v := by
  obtain ⟨y, z, hyz, hc, hd⟩ := cosOf_two ha
  have hargs : cl.args = #[y, z] := by apply Array.ext'; simp [hyz]
  have hats : cl.argTypes = #[t, tx] := by apply Array.ext'; simp [hat]
  have K := hT.knows h1
  have Kk := hT.knows h3
  have hex : ∀ (v' : Value) (w' : World), (Builtin.copy_ #[t, tx] x.type #[a.eval y, a.eval z]).run P w = .ok v' w' → (execOp a.eval x).run P w = .ok (.value v') w' := by
    intro v' w' hr
    rw [builtin_exec hx hb, hargs, hats]
    simp [builtin, hr]
  simp only [WO.ev] at hv
  split at hv
  · rename_i dv sv e1 e2
    have r1 := coOf_rel he hc e1
    have r2 := coOf_rel he hd e2
    split at hv
    · rename_i q hq
      cases hv
      obtain ⟨hy, _, _⟩ := r1.nils_inv
      have hl := lenOf_run (P := P) r2 hq w
      refine ⟨w, m, .int .i64 0, .inl (hex _ _ ?_), .same rfl, R, Fwd.refl _ _ _⟩
      have hfc : (Builtin.firstCells k.size 0 (a.eval z)).run P w = .ok #[] w := by
        rcases lenOf_snd r2 hq with ⟨ad, cc, hz⟩ | ⟨s, hz, _, _⟩
        · rw [hz]; cases ad <;> simp [Builtin.firstCells, loadCells, loadCellsFrom]
        · rw [hz]; simp [Builtin.firstCells]
      simp [Builtin.copy_, K.und, h2, hy, hl, Kk.size, hfc, goInt]
    · rename_i b o len cc q hq
      obtain ⟨b', o', l, a', cap, hbo, hm, hy, hlc, haa, hcap⟩ := r1.slice_inv
      cases hbo
      have hl := lenOf_run (P := P) r2 hq w
      split at hv
      · cases hv
      · rename_i xs hxs
        obtain ⟨vs, hrun, hvs⟩ := elems_snd (P := P) R r2 hxs
        have hxl := elems_length hxs
        have hrunw := hrun w rfl
        split at hv
        · cases hv
          have hvs0 : vs = [] := by
            have := hvs.length
            exact List.eq_nil_of_length_eq_zero (by simpa using this.symm)
          subst hvs0
          refine ⟨w, m, .int .i64 ((min q len : Nat) : Int), .inl (hex _ _ ?_), .same rfl, R, Fwd.refl _ _ _⟩
          simp [Builtin.copy_, K.und, h2, hy, hl, Kk.size, hrunw, goInt, storeCells]
        · rename_i hne
          split at hv
          · rename_i h1' hst
            cases hv
            have hpos : 0 < min q len := by
              rcases Nat.eq_zero_or_pos (min q len) with h0 | h0
              · rw [h0] at hxl
                simp at hxl
                exact absurd hxl hne
              · exact h0
            have ha' : a' = ⟨l.blk, l.off + o, none⟩ := by
              rcases haa with haa | haa
              · omega
              · exact haa
            obtain ⟨w', g1, g2, g3⟩ := storeE_snd (P := P) R hm hst hvs
            refine ⟨w', m, .int .i64 ((min q len : Nat) : Int), .inl (hex _ _ ?_), .same rfl, g2, g3⟩
            simp [Builtin.copy_, K.und, h2, hy, hl, Kk.size, hrunw, goInt, ha', g1]
          · cases hv
    · cases hv
  · cases hv

theorem clr_snd (hT : TyOk P ty) (he : ERel m e a.tmps) (R : Rel m h w.heap) {cl : Call} {t el : TypeId} {c : CO} {i k : TI} (hx : x.op = .call cl) (hb : cl.callee = .builtin .clear)
    (hat : cl.argTypes.toList = [t]) (h1 : ty t = some i) (h2 : i.d = .slice el) (h3 : ty el = some k) (hz : plainD k.zero = true) (hs : 1 ≤ k.size) (ha : cosOf n cl.args.toList = some [c])
    (hv : (WO.clr k.size (cellsOf k.zero) c).ev e h = some (v, h')) : DSnd P m h h' w a x v := by
  obtain ⟨y, hy1, hc⟩ := cosOf_one ha
  have hargs : cl.args = #[y] := by apply Array.ext'; simp [hy1]
  have hats : cl.argTypes = #[t] := by apply Array.ext'; simp [hat]
  have K := hT.knows h1
  have Kk := hT.knows h3
  have hex : ∀ (v' : Value) (w' : World), (Builtin.clear_ #[t] x.type #[a.eval y]).run P w = .ok v' w' → (execOp a.eval x).run P w = .ok (.value v') w' := by
    intro v' w' hr
    rw [builtin_exec hx hb, hargs, hats]
    simp [builtin, hr]
  simp only [WO.ev] at hv
  split at hv
  · rename_i e1
    cases hv
    obtain ⟨hy, _, _⟩ := (coOf_rel he hc e1).nils_inv
    refine ⟨w, m, .tuple #[], .inl (hex _ _ ?_), .tuple .nil, R, Fwd.refl _ _ _⟩
    simp [Builtin.clear_, K.und, h2, hy]
  · rename_i b o len cc e1
    obtain ⟨b', o', l, a', cap, hbo, hm, hy, hlc, haa, hcap⟩ := (coOf_rel he hc e1).slice_inv
    cases hbo
    split at hv
    · cases hv
      refine ⟨w, m, .tuple #[], .inl (hex _ _ ?_), .tuple .nil, R, Fwd.refl _ _ _⟩
      simp [Builtin.clear_, K.und, h2, hy]
    · rename_i hl0
      have hl1 : len ≠ 0 := fun e => hl0 e
      split at hv
      · rename_i hzl
        split at hv
        · rename_i h1' hst
          cases hv
          have hzr : VRels m (cellsOf k.zero) k.zero.cells.toList := cells_rel (plainD_rel hz)
          have hzs : k.zero.cells.size = k.size := by
            have := hzr.length
            have hq := Nat.eq_of_beq_eq_true hzl
            rw [lenN_eq] at hq
            simp at this; omega
          have ha' : a' = ⟨l.blk, l.off + o, none⟩ := by
            rcases haa with haa | haa
            · omega
            · exact haa
          obtain ⟨w', g1, g2, g3⟩ := storeE_snd (P := P) R hm hst (repN_rels hzr len)
          refine ⟨w', m, .tuple #[], .inl (hex _ _ ?_), .tuple .nil, g2, g3⟩
          have hzc : (Builtin.zeroCells k.zero.cells len).toList = repN len k.zero.cells.toList := rangeMod k.zero.cells len (by omega)
          unfold Builtin.clear_
          cases len with
          | zero => exact absurd rfl hl1
          | succ len' => simp [K.und, h2, hy, Kk.zero, hzc, ha', g1]
        · cases hv
      · cases hv
  · cases hv

end Am
end Go.Proofs.YtbfbaofhnnnohaaGreatDoor

/- The abstract machine, part 19: each compiled operation does what the model's does. -/
namespace Go.Proofs.YtbfbaofhnnnohaaGreatDoor
namespace Am
variable {P : Program} {ty : Ty} {m : M} {e : Env} {a : Act} {n : Nat} {x : Oper} {v : Value} {w : World} {h h' : H}

/-- What is known of a compiled operation. -/
def CSpec (P : Program) (m : M) (h : H) (w : World) (a : Act) (x : Oper) (e : Env) (n : Nat) : COp → Prop
  | .p o => ∀ v, o.ev e = some v → PSnd P m w a x v
  | .r o => ∀ v, o.ev e h = some v → PSnd P m w a x v
  | .a o => ∀ ob v h' id, o.ev e h.next = some (ob, v) → h.new ob = some (h', id) → DSnd P m h h' w a x v
  | .w o => ∀ v h', o.ev e h = some (v, h') → DSnd P m h h' w a x v
  | .nxM c => ∃ y, x.op = .next y false ∧ coOf n y = some c
  | .call f as => ∃ c, x.op = .call c ∧ c.callee = .value (.func f) ∧ cosOf n c.args.toList = some as
  | .callv f as => ∃ c g, x.op = .call c ∧ c.callee = .value g ∧ coOf n g = some f ∧ cosOf n c.args.toList = some as

theorem call_spec (hT : TyOk P ty) (he : ERel m e a.tmps) (R : Rel m h w.heap) {c : Call} {cop : COp} (hx : x.op = .call c) (hc : compCall ty n c = some cop) : CSpec P m h w a x e n cop := by
  unfold compCall at hc
  split at hc
  · rename_i f hf
    split at hc
    · rename_i as ha
      cases hc
      exact ⟨c, hx, hf, ha⟩
    · cases hc
  · rename_i g hng hg
    split at hc
    · rename_i f as h1 h2
      cases hc
      exact ⟨c, g, hx, hg, h1, h2⟩
    · cases hc
  · cases hc
  · rename_i b hb
    split at hc
    · rename_i y t ha ht
      split at hc
      · rename_i i hi
        split at hc
        · rename_i hd
          cases hc
          exact fun v hv => lenP_snd hT he hx hb ht hi (.inl ⟨rfl, hd⟩) ha hv
        · rename_i el hd
          cases hc
          exact fun v hv => lenP_snd hT he hx hb ht hi (.inr ⟨rfl, el, hd⟩) ha hv
        · rename_i k el hd
          cases hc
          exact fun v hv => lenA_snd hT hx hb ht hi hd ha hv
        · rename_i kt el hd
          cases hc
          exact fun v hv => lenM_snd hT he R hx hb ht hi hd ha hv
        · cases hc
      · rename_i i hi
        split at hc
        · rename_i el hd
          split at hc
          · rename_i k hk
            split at hc
            · rename_i hz hs
              cases hc
              exact fun v h' hv => clr_snd hT he R hx hb ht hi hd hk hz (Nat.le_of_ble_eq_true hs) ha hv
            · cases hc
          · cases hc
        · cases hc
      · cases hc
    · rename_i y z t u ha ht
      split at hc
      · rename_i i j hi hj
        split at hc
        · rename_i el el' hd hd'
          split at hc
          · rename_i k hk
            split at hc
            · rename_i hz
              cases hc
              exact fun v h' hv => app_snd hT he R hx hb ht hi hd hk hj (.inl ⟨el', hd'⟩) (Nat.eq_of_beq_eq_true hz) ha hv
            · cases hc
          · cases hc
        · rename_i el hd hd'
          split at hc
          · rename_i k hk
            split at hc
            · rename_i hz
              cases hc
              exact fun v h' hv => app_snd hT he R hx hb ht hi hd hk hj (.inr hd') (Nat.eq_of_beq_eq_true hz) ha hv
            · cases hc
          · cases hc
        · cases hc
      · rename_i i j hi hj
        split at hc
        · rename_i el hd
          split at hc
          · rename_i k hk
            cases hc
            exact fun v h' hv => cpy_snd hT he R hx hb ht hi hd hk ha hv
          · cases hc
        · cases hc
      · rename_i i j hi hj
        split at hc
        · rename_i kt el hd
          split at hc
          · rename_i kn hk
            cases hc
            exact fun v h' hv => del_snd hT he R hx hb ht hi hd hk ha hv
          · cases hc
        · cases hc
      · cases hc
        exact fun v hv => mm_snd he (mx := true) hx hb ha hv
      · cases hc
        exact fun v hv => mm_snd he (mx := false) hx hb ha hv
      · cases hc
    · cases hc

theorem comp_spec (hT : TyOk P ty) (he : ERel m e a.tmps) (R : Rel m h w.heap) {op : Op} {cop : COp} (hx : x.op = op) (hc : compOp ty n op = some cop) : CSpec P m h w a x e n cop := by
  cases op
  case makeFunc fn p q =>
    cases fn with
    | func f =>
      simp only [compOp] at hc
      split at hc
      · rename_i p' q' h1 h2; cases hc; exact fun v hv => mkf_snd he hx h1 h2 hv
      · cases hc
    | _ => simp only [compOp] at hc; cases hc
  case makeMap t r =>
    cases r with
    | none => simp only [compOp] at hc; cases hc; exact fun ob v h' id hv hn => mkm_snd R hx hv hn
    | some r => simp only [compOp] at hc; cases hc
  all_goals simp only [compOp] at hc
  case move y =>
    split at hc
    · rename_i c h1; cases hc; exact fun v hv => mv_snd he (.inl hx) h1 hv
    · cases hc
  case assign y =>
    split at hc
    · rename_i c h1; cases hc; exact fun v hv => mv_snd he (.inr hx) h1 hv
    · cases hc
  case pick c y z =>
    split at hc
    · rename_i c' y' z' h1 h2 h3; cases hc; exact fun v hv => pick_snd he hx h1 h2 h3 hv
    · cases hc
  case alloc t =>
    split at hc
    · rename_i i hi
      split at hc
      · rename_i hz; cases hc; exact fun ob v h' id hv hn => alc_snd hT R hx hi hz hv hn
      · cases hc
    · cases hc
  case box t y =>
    split at hc
    · rename_i i c hi h1; cases hc; exact fun ob v h' id hv hn => box_snd he R hx h1 hv hn
    · cases hc
  case build t parts =>
    split at hc
    · rename_i i hi
      split at hc
      · rename_i fs hz hd
        split at hc
        · rename_i ps hp
          split at hc
          · rename_i l hl; cases hc
            exact fun v hv => bld_op_snd hT he hx hi hz (.inl ⟨fs, ps, hd, hp, hl⟩) hv
          · cases hc
        · cases hc
      · rename_i k el hz hd
        split at hc
        · rename_i j hj
          split at hc
          · rename_i l hl; cases hc
            exact fun v hv => bld_op_snd hT he hx hi hz (.inr ⟨k, el, j, hd, hj, hl⟩) hv
          · cases hc
        · cases hc
      · cases hc
    · cases hc
  case buildSlice t len parts =>
    split at hc
    · rename_i i hi
      split at hc
      · rename_i el hd
        split at hc
        · rename_i k hk
          split at hc
          · rename_i l b1 b2 b3 b4 hl
            cases hc
            exact fun ob v h' id hv hn => bsl_snd hT he R hx hi hd hk b1 (Nat.eq_of_beq_eq_true b2) (Nat.le_of_ble_eq_true b3) (Nat.le_of_ble_eq_true b4) hl hv hn
          · cases hc
        · cases hc
      · cases hc
    · cases hc
  case load t y =>
    split at hc
    · rename_i i c hi h1; cases hc; exact fun v hv => ld_snd hT he R hx hi h1 hv
    · cases hc
  case store t y z =>
    split at hc
    · rename_i i c d hi h1 h2; cases hc; exact fun v h' hv => st_snd hT he R hx hi h1 h2 hv
    · cases hc
  case nilCheck y =>
    split at hc
    · rename_i c h1; cases hc; exact fun v hv => nck_snd he hx h1 hv
    · cases hc
  case binOp op t y z u =>
    split at hc
    · rename_i i c d hi h1 h2
      split at hc
      · rename_i kd hk; cases hc; exact fun v hv => bin_op_snd hT he hx hi hk h1 h2 hv
      · split at hc
        · rename_i ks hf; cases hc; exact fun v hv => eqA_op_snd hT he (neg := false) hx hi hf rfl h1 h2 hv
        · rename_i ks hf; cases hc; exact fun v hv => eqA_op_snd hT he (neg := true) hx hi hf rfl h1 h2 hv
        · cases hc
    · cases hc
  case unOp op t y =>
    split at hc
    · rename_i c h1; cases hc; exact fun v hv => un_op_snd he hx h1 hv
    · cases hc
  case convert s d y =>
    split at hc
    · rename_i i j c hi hj h1
      split at hc
      · rename_i k k' hd hd'; cases hc; exact fun v hv => conv_snd hT he hx hi hj hd hd' h1 hv
      · rename_i hd hd'; cases hc; exact fun v hv => convS_snd hT he hx hi hj hd hd' h1 hv
      · rename_i el hd hd'
        split at hc
        · rename_i k hk
          split at hc
          · rename_i hk8; cases hc; exact fun v hv => b2s_snd hT he R hx hi hj hd hd' hk hk8 h1 hv
          · cases hc
        · cases hc
      · rename_i el hd hd'
        split at hc
        · rename_i k hk
          split at hc
          · rename_i hk8; cases hc; exact fun ob v h' id hv hn => s2b_snd hT he R hx hi hj hd hd' hk hk8 h1 hv hn
          · cases hc
        · cases hc
      · rename_i el0 el hd hd'
        split at hc
        · rename_i k hk
          split at hc
          · rename_i hk8 hsd; cases hc
            have := Nat.eq_of_beq_eq_true hsd
            subst this
            rw [hi] at hj; cases hj
            exact fun v h' hv => mrk_snd (el2 := el) hT he R hx hi hd' hk hk8 h1 hv
          · cases hc
        · cases hc
      · cases hc
    · cases hc
  case makeSlice t y z =>
    split at hc
    · rename_i i c d hi h1 h2
      split at hc
      · rename_i el hd
        split at hc
        · rename_i k hk
          split at hc
          · rename_i hz hs; cases hc; exact fun ob v h' id hv hn => mks_snd hT he R hx hi hd hk hz (Nat.le_of_ble_eq_true hs) h1 h2 hv hn
          · cases hc
        · cases hc
      · cases hc
    · cases hc
  case slice t y lo hi mx =>
    split at hc
    · rename_i i c lo' hi' mx' hti h1 h2 h3 h4
      split at hc
      · rename_i hd
        cases hc
        cases mx with
        | none => exact fun v hv => slS_snd hT he hx hti hd h1 h2 h3 hv
        | some o => simp only [coOpt] at h4; split at h4 <;> cases h4
      · rename_i el hd
        split at hc
        · rename_i k hk
          cases hc
          cases mx with
          | none => exact fun v hv => slL_snd hT he R hx hti hd hk h1 h2 h3 h4 (.inl rfl) hv
          | some o => simp only [coOpt] at h4; split at h4 <;> cases h4
        · cases hc
      · rename_i el mxc hd
        split at hc
        · rename_i k hic hk
          cases hc
          cases hi with
          | none => simp only [coOpt] at h3; cases h3
          | some o => exact fun v hv => slL_snd hT he R hx hti hd hk h1 h2 h3 h4 (.inr ⟨o, rfl⟩) hv
        · cases hc
      · rename_i k el hd
        split at hc
        · rename_i j hj
          cases hc
          cases mx with
          | none => exact fun v hv => slA_snd hT he hx hti hd hj h1 h2 h3 hv
          | some o => simp only [coOpt] at h4; split at h4 <;> cases h4
        · cases hc
      · cases hc
    · cases hc
  case fieldAddr t y f =>
    split at hc
    · rename_i i c hi h1
      split at hc
      · rename_i fs hd
        split at hc
        · rename_i fd hf
          split at hc
          · rename_i j hj
            split at hc
            · rename_i hs; cases hc; exact fun v hv => fa_snd hT he hx hi hd hf hj (Nat.le_of_ble_eq_true hs) h1 hv
            · cases hc
          · cases hc
        · cases hc
      · cases hc
    · cases hc
  case field t y f =>
    split at hc
    · rename_i i c hi h1
      split at hc
      · rename_i fs hd
        split at hc
        · rename_i fd hf
          split at hc
          · rename_i j hj; cases hc; exact fun v hv => fld_snd hT he hx hi hd hf hj h1 hv
          · cases hc
        · cases hc
      · cases hc
    · cases hc
  case indexAddr t y z =>
    split at hc
    · rename_i i c d hi h1 h2
      split at hc
      · rename_i el hd
        split at hc
        · rename_i k hk; cases hc; exact fun v hv => iaL_snd hT he hx hi hd hk h1 h2 hv
        · cases hc
      · rename_i mm el hd
        split at hc
        · rename_i k hk; cases hc; exact fun v hv => iaA_snd hT he hx hi hd hk h1 h2 hv
        · cases hc
      · cases hc
    · cases hc
  case index t y z =>
    split at hc
    · rename_i i c d hi h1 h2
      split at hc
      · rename_i hd; cases hc; exact fun v hv => ixS_snd hT he hx hi hd h1 h2 hv
      · rename_i mm el hd
        split at hc
        · rename_i k hk; cases hc; exact fun v hv => ixA_snd hT he hx hi hd hk h1 h2 hv
        · cases hc
      · cases hc
    · cases hc
  case lookup t y z ok =>
    split at hc
    · rename_i i c d hi h1 h2
      split at hc
      · rename_i kt el hd
        split at hc
        · rename_i j hj
          split at hc
          · rename_i kn hk hz; cases hc; exact fun v hv => look_snd hT he R hx hi hd hj hk hz h1 h2 hv
          · cases hc
        · cases hc
      · cases hc
    · cases hc
  case mapUpdate t y z q =>
    split at hc
    · rename_i i c d f hi h1 h2 h3
      split at hc
      · rename_i kt el hd
        split at hc
        · rename_i kn hk; cases hc; exact fun v h' hv => mup_snd hT he R hx hi hd hk h1 h2 h3 hv
        · cases hc
      · cases hc
    · cases hc
  case mapEntry t y z =>
    split at hc
    · rename_i i c d hi h1 h2
      split at hc
      · rename_i kt el hd
        split at hc
        · rename_i j hj
          split at hc
          · rename_i kn hk hz; cases hc; exact fun v h' hv => men_snd hT he R hx hi hd hj hz hk h1 h2 hv
          · cases hc
        · cases hc
      · cases hc
    · cases hc
  case entryStore t y z q =>
    split at hc
    · rename_i c d f h1 h2 h3; cases hc; exact fun v h' hv => est_snd he R hx h1 h2 h3 hv
    · cases hc
  case range t y =>
    split at hc
    · rename_i i c hi h1
      split at hc
      · rename_i hd; cases hc; exact fun ob v h' id hv hn => rgS_snd hT he R hx hi hd h1 hv hn
      · rename_i kt el hd; cases hc; exact fun v h' hv => rgM_snd hT he R hx hi hd h1 hv
      · cases hc
    · cases hc
  case next y isString =>
    split at hc
    · rename_i c h1
      split at hc
      · cases hc; exact fun v h' hv => nxS_snd he R hx h1 hv
      · cases hc; exact ⟨y, hx, h1⟩
    · cases hc
  case entry y =>
    split at hc
    · rename_i c h1; cases hc; exact fun v hv => ent_snd he R hx h1 hv
    · cases hc
  case extract y i =>
    split at hc
    · rename_i c h1; cases hc; exact fun v hv => ext_snd he hx h1 hv
    · cases hc
  case call c => exact call_spec hT he R hx hc
  all_goals cases hc

end Am
end Go.Proofs.YtbfbaofhnnnohaaGreatDoor
