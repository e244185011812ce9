/- The abstract machine: a reflective evaluator for closed runs, and its soundness (texts 20 to 32 of it). -/
import Derived.Test.YtbfbaofhnnnohaaGreatDoorAmB
import Derived.Tactics
import Derived.LoopN
import Derived.Scope
import Derived.Orders
set_option linter.unusedVariables false
/- The abstract machine, part 20: a step of a walk over a map; one operation of a region. -/
namespace Go.Proofs.YtbfbaofhnnnohaaGreatDoor
namespace Am
variable {P : Program} {ty : Ty} {m : M} {e : Env} {a : Act} {n : Nat} {x : Oper} {v : Value} {w : World} {h h' : H}

/-- What the machine may hand back here is what the model may. -/
def OSnd (P : Program) (m : M) (h : H) (w : World) (a : Act) (x : Oper) (o : Out (Value × H)) : Prop :=
  ∀ Q : Value × H → Prop, o.Sat Q → ∃ v h', Q (v, h') ∧ DSnd P m h h' w a x v

theorem any_contains (l : List Nat) (b : Nat) : (l.any fun s => Nat.beq s b) = l.contains b := by
  induction l with
  | nil => rfl
  | cons s l ih =>
    rw [List.any_cons, List.contains_cons, ih]
    congr 1
    rw [Bool.eq_iff_iff, Nat.beq_eq, beq_iff_eq]
    exact eq_comm

theorem leftE_rel {seen : List Nat} {es : List (Value × Value × Nat)} {es' : List MapEntry} (hE : ERels m es es') :
    ERels m (leftE seen es) (es'.filter fun e => !seen.contains e.born) := by
  induction hE with
  | nil => exact .nil
  | @cons k v k' v' b l l' hk hv t ih =>
    have hb : (seen.any fun s => Nat.beq s b) = seen.contains b := by
      exact any_contains seen b
    simp only [leftE, hb]
    cases hc : seen.contains b
    · simp only [List.filter_cons, hc, Bool.not_false, if_true]
      exact .cons hk hv ih
    · simp only [List.filter_cons, hc, Bool.not_true, Bool.false_eq_true, if_false]
      exact ih

theorem bornsOk_spec {since : Nat} {es : List (Value × Value × Nat)} {es' : List MapEntry} (hE : ERels m es es') (hb : bornsOk since es = true) : ∀ e ∈ es', e.born < since := by
  induction hE with
  | nil => intro e he; cases he
  | cons hk hv t ih =>
    simp only [bornsOk] at hb
    split at hb
    · rename_i h1
      intro e he
      cases he with
      | head => exact Nat.le_of_ble_eq_true h1
      | tail _ he => exact ih hb e he
    · cases hb

theorem filter_all {α : Type} (p : α → Bool) (l : List α) (h : ∀ e ∈ l, p e = true) : (⟨l⟩ : Array α).filter p = ⟨l⟩ := by
  simpa using h

theorem filter_none {α : Type} (p : α → Bool) (l : List α) (h : ∀ e ∈ l, p e = false) : (⟨l⟩ : Array α).filter p = #[] := by
  simpa using h

/-- What the model's step of a walk over a map does where nothing was put into the map since the walk began. -/
theorem next_run {r q since : Nat} {seen : List Nat} {es : List MapEntry} {left : List MapEntry} {t : TypeId} (hi : w.heap[r]? = some (.mapIter (some q) since ⟨seen⟩ since)) (hq : w.heap[q]? = some (.map ⟨es⟩ since))
    (hb : ∀ e ∈ es, e.born < since) (hl : es.filter (fun e => !seen.contains e.born) = left) :
    (Instr.next (.pointer (some ⟨r, 0, none⟩)) false t).run P w = match (generalizing := false) left with
      | [] => .ok (.tuple #[.bool false]) w
      | [e] => .ok (.tuple #[.bool true, e.key, e.val]) { w with heap := w.heap.setIfInBounds r (.mapIter (some q) since ⟨seen ++ [e.born]⟩ since) }
      | l => match l[w.tape w.drawn (.mapNext l.length) % l.length]? with
        | some e => .ok (.tuple #[.bool true, e.key, e.val]) { w with drawn := w.drawn + 1, heap := w.heap.setIfInBounds r (.mapIter (some q) since ⟨seen ++ [e.born]⟩ since) }
        | none => .halt (.stuck "Next: no such candidate") { w with drawn := w.drawn + 1 } := by
  have hbad : (!(⟨seen⟩ : Array Nat).isEmpty && !(⟨es⟩ : Array MapEntry).isEmpty && (⟨es⟩ : Array MapEntry).all (·.born ≥ since)) = false := by
    cases es with
    | nil => simp
    | cons e0 l0 =>
      have := hb e0 (by simp)
      have hn : (decide (e0.born ≥ since)) = false := by simp; omega
      simp [hn]
  have hold : ((⟨es⟩ : Array MapEntry).filter (fun e => !(⟨seen⟩ : Array Nat).contains e.born)) = ⟨left⟩ := by
    rw [← hl]; simp
  have hbl : ∀ e ∈ left, e.born < since := by
    intro e he'
    rw [← hl] at he'
    exact hb e (List.mem_filter.1 he').1
  have h1 := filter_all (fun e : MapEntry => decide (e.born < since)) left (fun e he => by simpa using hbl e he)
  have h2 := filter_none (fun e : MapEntry => decide (e.born ≥ since)) left (fun e he => by have := hbl e he; simp; omega)
  unfold Instr.next
  simp only [Sem.run_bind, run_getObj_of hi rfl, run_getObj_of hq rfl, Result.andThen_ok, hbad, hold, h1, h2, Bool.false_eq_true, if_false]
  match left with
  | [] => simp [run_choose, Question.forced]
  | [e] => simp [run_choose, Question.forced, run_setObj_of hi rfl]
  | a :: b :: l =>
    have hf : Question.forced (.mapNext ((a :: b :: l).length)) = false := by simp [Question.forced]
    have hcand : ((if (⟨a :: b :: l⟩ : Array MapEntry).isEmpty = true then #[none] else #[]) ++ ((⟨a :: b :: l⟩ : Array MapEntry) ++ #[]).map some) = ⟨(a :: b :: l).map some⟩ := by simp
    have hsz : (⟨(a :: b :: l).map some⟩ : Array (Option MapEntry)).size = (a :: b :: l).length := by simp
    rw [hcand, hsz]
    simp only [run_choose, hf, Bool.false_eq_true, if_false, Result.andThen_ok, Question.cut]
    generalize w.tape w.drawn (.mapNext (a :: b :: l).length) % (a :: b :: l).length = i
    have hget : (⟨(a :: b :: l).map some⟩ : Array (Option MapEntry))[i]? = ((a :: b :: l)[i]?).map some := by
      rw [List.getElem?_toArray, List.getElem?_map]
    rw [hget]
    cases (a :: b :: l)[i]? with
    | none => rfl
    | some e =>
      have hi' : ({ w with drawn := w.drawn + 1 } : World).heap[r]? = some (.mapIter (some q) since ⟨seen⟩ since) := hi
      simp only [Option.map_some, Sem.run_bind, run_setObj_of hi' rfl, Result.andThen_ok, Sem.run_pure]
      simp

theorem ERels.getE {es : List (Value × Value × Nat)} {es' : List MapEntry} (hE : ERels m es es') : ∀ {i : Nat} {e' : MapEntry}, es'[i]? = some e' →
    ∃ k v, es[i]? = some (k, v, e'.born) ∧ VRel m k e'.key ∧ VRel m v e'.val := by
  induction hE with
  | nil => intro i e' h; simp at h
  | cons hk hv t ih =>
    intro i e' h
    cases i with
    | zero => simp at h; subst h; exact ⟨_, _, rfl, hk, hv⟩
    | succ i => simpa using ih (by simpa using h)

theorem nextM_snd (he : ERel m e a.tmps) (R : Rel m h w.heap) {y : Operand} {c : CO} (hx : x.op = .next y false) (hc : coOf n y = some c) {it : Value} (hv : c.ev e = some it) :
    OSnd P m h w a x (nextM h it) := by
  intro Q hQ
  have hr := coOf_rel he hc hv
  unfold nextM at hQ
  split at hQ
  · rename_i r
    obtain ⟨b, o, l, hbo, hm, hy⟩ := hr.ptr_inv
    cases hbo
    split at hQ
    · rename_i hg
      obtain ⟨h0, hh⟩ := R.obj _ l _ hm hg
      refine ⟨_, _, hQ, w, m, .tuple #[.bool false], .inl ?_, .tuple (.cons (.same rfl) .nil), R, Fwd.refl _ _ _⟩
      simp [execOp, hx, Instr.next, hy, h0, run_getObj_of (P := P) hh rfl]
    · rename_i mm since seen stepped hg
      obtain ⟨h0, kl, hmm, hh⟩ := R.obj _ l _ hm hg
      split at hQ
      · rename_i es clock hgm
        obtain ⟨es', hh2, hE, _⟩ := map_read R hmm hgm
        split at hQ
        · exact hQ.elim
        · rename_i hcond
          simp only [Bool.and_eq_true, Nat.beq_eq] at hcond
          obtain ⟨hc1, hc2, hc3⟩ := hcond
          subst hc1
          subst hc2
          have hborn := bornsOk_spec hE hc3
          have hL := leftE_rel (seen := seen) hE
          have hstep : ∀ (e' : MapEntry) (k u : Value) (h2 : H), VRel m k e'.key → VRel m u e'.val →
              h.put r (some (.miter (some mm) stepped (seen ++ [e'.born]) stepped)) = some h2 → ∀ w1 : World, w1.heap = w.heap → SameW w w1 →
              (execOp a.eval x).run P w = .ok (.value (.tuple #[.bool true, e'.key, e'.val])) { w1 with heap := w1.heap.setIfInBounds l.blk (.mapIter (some kl.blk) stepped ⟨seen ++ [e'.born]⟩ stepped) } →
              DSnd P m h h2 w a x (.tuple ⟨[.bool true, k, u]⟩) := by
            intro e' k u h2 g1 g2 hp w1 hw1 hww hrun
            have key := R.putObj (hp' := w.heap.setIfInBounds l.blk (.mapIter (some kl.blk) stepped ⟨seen ++ [e'.born]⟩ stepped)) hm (own_of hg rfl) hp (by simp) (fun b hb => set_off b hb) (fun o ho => by
              cases ho; exact ⟨h0, kl, hmm, set_at hh⟩)
            refine ⟨_, m, _, .inl hrun, .tuple (.cons (.same rfl) (.cons g1 (.cons g2 .nil))), ?_, ?_⟩
            · simpa [hw1] using key.1
            · exact ⟨by simpa [hw1] using key.2, ⟨hww.os, hww.tape, hww.output⟩⟩
          generalize hLe : (es'.filter fun e => !seen.contains e.born) = left' at *
          generalize leftE seen es = left at *
          have hN := next_run (P := P) (t := x.type) hh hh2 hborn hLe
          have hX : (execOp a.eval x).run P w = Result.andThen ((Instr.next (.pointer (some ⟨l.blk, 0, none⟩)) false x.type).run P w) (fun v w => .ok (.value v) w) := by
            simp only [execOp, hx, hy, h0, Nat.zero_add, Sem.run_bind, Sem.run_pure]
          rw [hN] at hX
          cases hL with
          | nil =>
            exact ⟨_, _, hQ, w, m, .tuple #[.bool false], .inl (by simpa using hX), .tuple (.cons (.same rfl) .nil), R, Fwd.refl _ _ _⟩
          | @cons k u k' u' b l1 l1' g1 g2 g3 =>
            cases g3 with
            | nil =>
              simp only [] at hQ
              cases hp : h.put r (some (.miter (some mm) stepped (seen ++ [b]) stepped)) with
              | none => rw [hp] at hQ; exact hQ.elim
              | some h2 =>
                rw [hp] at hQ
                exact ⟨_, _, hQ, hstep ⟨k', u', b⟩ k u h2 g1 g2 hp w rfl (SameW.refl w) (by simpa using hX)⟩
            | @cons k2 u2 k2' u2' b2 l2 l2' f1 f2 f3 =>
              simp only [] at hQ hX
              have hE2 : ERels m ((k, u, b) :: (k2, u2, b2) :: l2) (⟨k', u', b⟩ :: ⟨k2', u2', b2⟩ :: l2') := .cons g1 g2 (.cons f1 f2 f3)
              have hlen := hE2.length
              rw [← hlen] at hX
              generalize hq : ((k, u, b) :: (k2, u2, b2) :: l2) = lq at *
              generalize hq' : ((⟨k', u', b⟩ : MapEntry) :: ⟨k2', u2', b2⟩ :: l2') = lq' at *
              have hpos : 0 < lq.length := by rw [← hq]; simp
              have hlt : w.tape w.drawn (.mapNext lq.length) % lq.length < lq.length := Nat.mod_lt _ hpos
              generalize w.tape w.drawn (.mapNext lq.length) % lq.length = i at *
              have hQi := hQ i hlt
              obtain ⟨e', he'⟩ : ∃ e', lq'[i]? = some e' := ⟨_, List.getElem?_eq_getElem (by omega)⟩
              obtain ⟨k3, u3, hk3, q1, q2⟩ := ERels.getE hE2 he'
              rw [he'] at hX
              simp only [hk3] at hQi
              cases hp : h.put r (some (.miter (some mm) stepped (seen ++ [e'.born]) stepped)) with
              | none => rw [hp] at hQi; exact hQi.elim
              | some h2 =>
                rw [hp] at hQi
                exact ⟨_, _, hQi, hstep e' k3 u3 h2 q1 q2 hp { w with drawn := w.drawn + 1 } rfl ⟨rfl, rfl, rfl⟩ (by simpa using hX)⟩
      · exact hQ.elim
    · exact hQ.elim
  · exact hQ.elim

end Am
end Go.Proofs.YtbfbaofhnnnohaaGreatDoor

/- The abstract machine, part 21: operations of a region, calls among them; regions in the order of the text. -/
namespace Go.Proofs.YtbfbaofhnnnohaaGreatDoor
namespace Am
variable {P : Program} {L0 : M} {ty : Ty} {m : M} {e : Env} {a : Act} {n : Nat} {x : Oper} {v : Value} {w : World} {h h' : H}

/-- A call comes back so. -/
def CallUpon (P : Program) (f : FuncId) (args : Array Value) (w : World) (R : Value → World → Prop) : Prop :=
  match (callFunc f args).run P w with
  | .ok (.value v) w' => R v w'
  | .ok (.enter g as) w' => Calls P g as w' fun
    | .returned v, w'' => R v w''
    | _, _ => False
  | _ => False

/-- The machine's end of a piece of work, carried over to the model's. -/
def Ends (m : M) (h : H) (w : World) (Q : Value × H → Prop) (v' : Value) (w' : World) : Prop :=
  ∃ v h' m', Q (v, h') ∧ VRel m' v v' ∧ Rel m' h' w'.heap ∧ Fwd m m' h h' w w'

/-- What the machine's calls hand back, the model's do. -/
def CallsAs (P : Program) (L0 : M) (call : CallF) : Prop :=
  ∀ f args h (Q : Value × H → Prop), (call f args h).Sat Q → ∀ (m : M) (w : World) (args' : List Value), Sub L0 m → Rel m h w.heap → VRels m args args' →
    CallUpon P f ⟨args'⟩ w (Ends m h w Q)

theorem upon_call {next : Act → World → Prop} {Qx : Exit → Act → World → Prop} {f : FuncId} {args : Array Value} {R : Value → World → Prop}
    (hc : CallUpon P f args w R) (hn : ∀ v' w', R v' w' → next (a.put x.dst v') w') : x.upon P a next Qx ((callFunc f args).run P w) := by
  unfold CallUpon at hc
  split at hc
  · rename_i v w' hr; rw [hr]; exact hn _ _ hc
  · rename_i g as w' hr
    rw [hr]
    refine Calls.mono hc fun e w'' he => ?_
    cases e with
    | returned v => exact hn _ _ he
    | panicked c => exact he.elim
    | outgrown => exact he.elim
  · exact hc.elim

theorem wp_does {next : Act → World → Prop} {Qx : Exit → Act → World → Prop} {Q : Value × H → Prop} (hd : DSnd P m h h' w a x v) (hq : Q (v, h'))
    (hn : ∀ v' w', Ends m h w Q v' w' → next (a.put x.dst v') w') : x.wp P a w next Qx := by
  obtain ⟨w', m', v', hrun, hv, hR, hE⟩ := hd
  have he : Ends m h w Q v' w' := ⟨v, h', m', hq, hv, hR, hE⟩
  unfold Oper.wp
  rcases hrun with hrun | ⟨hrun, hu⟩
  · rw [hrun]; exact hn _ _ he
  · rw [hrun]; subst hu; exact hn _ _ he

theorem cop_wp {call : CallF} {next : Act → World → Prop} {Qx : Exit → Act → World → Prop} {Q : Value × H → Prop} {cop : COp} (hcall : CallsAs P L0 call) (hL : Sub L0 m) (he : ERel m e a.tmps) (R : Rel m h w.heap)
    (hc : CSpec P m h w a x e n cop) (hs : (runCOp call e h cop).Sat Q) (hn : ∀ v' w', Ends m h w Q v' w' → next (a.put x.dst v') w') : x.wp P a w next Qx := by
  cases cop with
  | p o =>
    simp only [runCOp] at hs
    split at hs
    · rename_i v hv; exact wp_does ((hc v hv).does R) hs hn
    · exact hs.elim
  | r o =>
    simp only [runCOp] at hs
    split at hs
    · rename_i v hv; exact wp_does ((hc v hv).does R) hs hn
    · exact hs.elim
  | a o =>
    simp only [runCOp] at hs
    split at hs
    · rename_i ob v hv
      split at hs
      · rename_i h2 id hnew; exact wp_does (hc ob v h2 id hv hnew) hs hn
      · exact hs.elim
    · exact hs.elim
  | w o =>
    simp only [runCOp] at hs
    split at hs
    · rename_i r hv; exact wp_does (hc r.1 r.2 hv) hs hn
    · exact hs.elim
  | nxM c =>
    obtain ⟨y, hx, hy⟩ := hc
    simp only [runCOp] at hs
    split at hs
    · rename_i v hv
      obtain ⟨v, h2, hq, hd⟩ := nextM_snd he R hx hy hv Q hs
      exact wp_does hd hq hn
    · exact hs.elim
  | call f as =>
    obtain ⟨c, hx, hf, has⟩ := hc
    simp only [runCOp] at hs
    split at hs
    · rename_i vs hvs
      have hr := cosOf_rel he has hvs
      have hu := hcall f vs h Q hs m w _ hL R hr
      have hE : execOp a.eval x = callFunc f (⟨c.args.toList.map a.eval⟩) := by
        have hm : (⟨c.args.toList.map a.eval⟩ : Array Value) = c.args.map a.eval := by apply Array.ext'; simp
        rw [hm]
        simp only [execOp, hx, resolve, hf, Act.eval, Deferred.ofValue]
        show callFunc f (#[] ++ c.args.map a.eval ++ #[]) = _
        simp
      unfold Oper.wp
      rw [hE]
      exact upon_call hu hn
    · exact hs.elim
  | callv f as =>
    obtain ⟨c, g, hx, hg, hf, has⟩ := hc
    simp only [runCOp] at hs
    split at hs
    · rename_i fn first captured vs hfv hvs
      have hr := cosOf_rel he has hvs
      obtain ⟨f', c', hfe, hr1, hr2⟩ := (coOf_rel he hf hfv).func_inv
      have hu := hcall fn _ h Q hs m w _ hL R ((hr1.append hr).append hr2)
      have hE : execOp a.eval x = callFunc fn (⟨f'.toList ++ c.args.toList.map a.eval ++ c'.toList⟩) := by
        have hm : (⟨f'.toList ++ c.args.toList.map a.eval ++ c'.toList⟩ : Array Value) = f' ++ c.args.map a.eval ++ c' := by apply Array.ext'; simp
        rw [hm]
        simp only [execOp, hx, resolve, hg, hfe, Deferred.ofValue]
        rfl
      unfold Oper.wp
      rw [hE]
      exact upon_call hu hn
    · exact hs.elim

/-- A state of the machine's and one of the model's. -/
structure RS (L0 m : M) (s : St) (n : Nat) (ds : List Deferred) (a : Act) (w : World) : Prop where
  e : ERel m s.e a.tmps
  n : n ≤ a.tmps.size
  r : Rel m s.h w.heap
  l : Sub L0 m
  d : a.defers = ds

theorem RS.put {m : M} {s : St} {n : Nat} {ds : List Deferred} {a : Act} {w : World} (r : RS L0 m s n ds a w) {d : Option Tmp} {p : Option Pa} (hd : compDst n d = some p) {m' : M} {h' : H} {w' : World} {v v' : Value}
    (hv : VRel m' v v') (hR : Rel m' h' w'.heap) (hs : Sub m m') : RS L0 m' ⟨putDst s.e p v, h'⟩ n ds (a.put d v') w' := by
  cases d with
  | none =>
    simp only [compDst] at hd; cases hd
    exact ⟨r.e.sub hs, r.n, hR, r.l.trans hs, r.d⟩
  | some t =>
    simp only [compDst] at hd
    split at hd
    · rename_i q hq
      cases hd
      have ⟨h1, h2⟩ := paOf_spec hq
      refine ⟨?_, by simpa [Act.put] using r.n, hR, r.l.trans hs, r.d⟩
      have := (r.e.sub hs).put (p := q) hv (by rw [h1]; exact Nat.lt_of_lt_of_le h2 r.n)
      rw [h1] at this
      exact this
    · cases hd

theorem wanted_spec {ops : Array Oper} {o : Oper} {g : Option (Pa × Bool)} {b : Bool} (he : ERel m e a.tmps) (hg : compGuard n ops.toList o.guard = some g) (hw : wantedE e g = some b) :
    Region.wanted o (yielded ops a.tmps) = b := by
  unfold Region.wanted
  cases hgd : o.guard with
  | none => rw [hgd] at hg; simp only [compGuard] at hg; cases hg; simp only [wantedE] at hw; cases hw; rfl
  | some jb =>
    obtain ⟨j, want⟩ := jb
    rw [hgd] at hg
    simp only [compGuard] at hg
    split at hg
    · rename_i o' ho'
      split at hg
      · rename_i t ht
        split at hg
        · rename_i p hp
          cases hg
          have ⟨h1, h2⟩ := paOf_spec hp
          simp only [wantedE] at hw
          have hj : ops[j]? = some o' := by simpa using ho'
          split at hw
          · rename_i y hy
            cases hw
            have ⟨h3, h4⟩ := he _ _ hy
            have h5 := h4.bool_inv
            rw [h1] at h5 h3
            simp only [yielded, hj, Option.bind_some, ht]
            have : a.tmps[t]? = some (.bool y) := by
              rw [Array.getD_eq_getD_getElem?, Array.getElem?_eq_getElem h3] at h5
              rw [Array.getElem?_eq_getElem h3]; simpa using h5
            rw [this]
            cases y <;> cases want <;> rfl
          · rename_i y hy
            cases hw
            have ⟨h3, h4⟩ := he _ _ hy
            obtain ⟨c', h5, _⟩ := h4.tuple_inv
            rw [h1] at h5 h3
            simp only [yielded, hj, Option.bind_some, ht]
            have : a.tmps[t]? = some (.tuple c') := by
              rw [Array.getD_eq_getD_getElem?, Array.getElem?_eq_getElem h3] at h5
              rw [Array.getElem?_eq_getElem h3]; simpa using h5
            rw [this]
            rfl
          · cases hw
        · cases hg
      · cases hg
    · cases hg

theorem undef_rel (m : M) : VRel m undefV undef := .tuple .nil

/-- Onward from a start. -/
structure From (m0 : M) (h0 : H) (w0 : World) (m : M) (h : H) (w : World) : Prop where
  x : Ext m0 m h0 h w0.heap w.heap
  o : SameW w0 w
  dom : ∀ i l, m0 i = some l → i < h0.next

theorem From.trans {m0 m1 m2 : M} {h0 h1 h2 : H} {w0 w1 w2 : World} (a : From m0 h0 w0 m1 h1 w1) (b : Fwd m1 m2 h1 h2 w1 w2) : From m0 h0 w0 m2 h2 w2 :=
  ⟨a.x.trans b.x a.dom, a.o.trans b.o, a.dom⟩

theorem opers_wp {call : CallF} {ops : Array Oper} (hT : TyOk P ty) (hcall : CallsAs P L0 call) {ds : List Deferred} {Qx : Exit → Act → World → Prop} {Q : St → Prop} {m0 : M} {h0 : H} {w0 : World} : ∀ {l : List Oper} {cs : List COper} {s : St} {m : M} {a : Act} {w : World},
    compOpers ty n ops.toList l = some cs → RS L0 m s n ds a w → From m0 h0 w0 m s.h w → (runCOpers call cs s).Sat Q →
    (∀ m' s' a' w', Q s' → RS L0 m' s' n ds a' w' → From m0 h0 w0 m' s'.h w' → Qx .normal a' w') → wpList P ops Qx l a w
  | [], cs, s, m, a, w, hc, hr, hf, hs, hn => by
    simp only [compOpers] at hc; cases hc
    exact hn m s a w hs hr hf
  | o :: l, cs, s, m, a, w, hc, hr, hf, hs, hn => by
    simp only [compOpers] at hc
    split at hc
    · rename_i c cs' hco hcs
      cases hc
      simp only [compOper] at hco
      split at hco
      · rename_i d g cop hd hg hop
        cases hco
        simp only [runCOpers] at hs
        have hs := Out.sat_bind hs
        simp only [runCOper] at hs
        simp only [wpList]
        split at hs
        · rename_i hw
          have hw' := wanted_spec hr.e hg hw
          simp only [hw', if_true]
          left
          have hs := Out.sat_bind hs
          refine cop_wp hcall hr.l hr.e hr.r (comp_spec hT hr.e hr.r rfl hop) hs ?_
          rintro v' w' ⟨v, h', m', hq, hv, hR, hE⟩
          exact opers_wp hT hcall hcs (hr.put hd hv hR hE.x.sub) (hf.trans hE) hq hn
        · rename_i hw
          have hw' := wanted_spec hr.e hg hw
          simp only [hw', Bool.false_eq_true, if_false]
          exact opers_wp hT hcall hcs (hr.put hd (undef_rel _) hr.r (Sub.refl _)) hf hs hn
        · exact hs.elim
      · cases hco
    · cases hc

end Am
end Go.Proofs.YtbfbaofhnnnohaaGreatDoor

/- The abstract machine, part 22: code. -/
namespace Go.Proofs.YtbfbaofhnnnohaaGreatDoor
namespace Am
variable {P : Program} {L0 : M} {ty : Ty} {n : Nat}

def exOf : Ex → Exit
  | .normal => .normal
  | .exit id => .exit id
  | .ret => .ret

/-- What is needed of regions. -/
def RegAs (P : Program) (L0 : M) (ty : Ty) (n : Nat) (call : CallF) : Prop :=
  ∀ (ops : List Oper) (id : Nat) (ds : List Deferred) (Qx : Exit → Act → World → Prop) (Q : St → Prop) (m0 : M) (h0 : H) (w0 : World) (cs : List COper) (prs : List (List Nat)) (s : St) (m : M) (a : Act) (w : World),
    compReg ty n ops true = .dreg cs prs → RS L0 m s n ds a w → From m0 h0 w0 m s.h w → (runDreg call cs prs [] s).Sat Q →
    (∀ m' s' a' w', Q s' → RS L0 m' s' n ds a' w' → From m0 h0 w0 m' s'.h w' → Qx .normal a' w') → (Code.region id ⟨ops⟩ true).wp P Qx a w

def Onto (L0 m0 : M) (h0 : H) (w0 : World) (n : Nat) (ds : List Deferred) (Q : Ex × St → Prop) (Qx : Exit → Act → World → Prop) : Prop :=
  ∀ x m' s' a' w', Q (x, s') → RS L0 m' s' n ds a' w' → From m0 h0 w0 m' s'.h w' → Qx (exOf x) a' w'

theorem iter_wp {f : St → Out (Ex × St)} {c : Code} {ds : List Deferred} {m0 : M} {h0 : H} {w0 : World}
    (hf : ∀ {s : St} {m : M} {a : Act} {w : World} {Q : Ex × St → Prop} {Qx : Exit → Act → World → Prop}, RS L0 m s n ds a w → From m0 h0 w0 m s.h w → (f s).Sat Q → Onto L0 m0 h0 w0 n ds Q Qx → c.wp P Qx a w) :
    ∀ (k : Nat) {s : St} {m : M} {a : Act} {w : World} {Q : Ex × St → Prop} {Qx : Exit → Act → World → Prop}, RS L0 m s n ds a w → From m0 h0 w0 m s.h w → (iterE f k s).Sat Q → Onto L0 m0 h0 w0 n ds Q Qx → Code.rounds P c Qx k a w
  | 0, s, m, a, w, Q, Qx, hr, hfr, hs, hn => hs.elim
  | k + 1, s, m, a, w, Q, Qx, hr, hfr, hs, hn => by
    rw [rounds_succ]
    have hs := Out.sat_bind (o := f s) hs
    refine hf hr hfr hs ?_
    intro x m' s' a' w' hq hr' hf'
    cases x with
    | normal => exact iter_wp hf k hr' hf' hq hn
    | exit id => exact hn _ m' s' a' w' hq hr' hf'
    | ret => exact hn _ m' s' a' w' hq hr' hf'

theorem exec_wp {call : CallF} (hT : TyOk P ty) (hcall : CallsAs P L0 call) (hreg : RegAs P L0 ty n call) (lf : Nat) {ds : List Deferred} {m0 : M} {h0 : H} {w0 : World} (c : Code) :
    ∀ {s : St} {m : M} {a : Act} {w : World} {Q : Ex × St → Prop} {Qx : Exit → Act → World → Prop}, RS L0 m s n ds a w → From m0 h0 w0 m s.h w → (exec call lf (compCode ty n c) s).Sat Q → Onto L0 m0 h0 w0 n ds Q Qx → c.wp P Qx a w := by
  induction c with
  | skip => intro s m a w Q Qx hr hf hs hn; exact wp_skip (hn .normal m s a w hs hr hf)
  | label l => intro s m a w Q Qx hr hf hs hn; exact wp_label (hn .normal m s a w hs hr hf)
  | region id ops draw =>
    intro s m a w Q Qx hr hf hs hn
    simp only [compCode] at hs
    cases draw with
    | false =>
      simp only [compReg] at hs
      split at hs
      · exact hs.elim
      · rename_i cs hcs
        simp only [exec] at hs
        have hs := Out.sat_bind hs
        refine wp_region_list ?_
        exact opers_wp hT hcall hcs hr hf hs (fun m' s' a' w' hq hr' hf' => hn .normal m' s' a' w' hq hr' hf')
    | true =>
      cases hc : compReg ty n ops.toList true with
      | dreg cs prs =>
        rw [hc] at hs
        simp only [exec] at hs
        have hs := Out.sat_bind hs
        exact hreg ops.toList id ds Qx _ m0 h0 w0 cs prs s m a w hc hr hf hs (fun m' s' a' w' hq hr' hf' => hn .normal m' s' a' w' hq hr' hf')
      | bad => rw [hc] at hs; exact hs.elim
      | _ =>
        exfalso
        simp only [compReg, compDreg] at hc
        split at hc
        · cases hc
        · split at hc <;> cases hc
  | seq x y ihx ihy =>
    intro s m a w Q Qx hr hf hs hn
    simp only [compCode, exec] at hs
    have hs := Out.sat_bind hs
    refine wp_seq (ihx hr hf hs ?_)
    intro e m' s' a' w' hq hr' hf'
    cases e with
    | normal => exact ihy hr' hf' hq hn
    | exit id => exact hn _ m' s' a' w' hq hr' hf'
    | ret => exact hn _ m' s' a' w' hq hr' hf'
  | cond c x y ihx ihy =>
    intro s m a w Q Qx hr hf hs hn
    simp only [compCode] at hs
    split at hs
    · rename_i co hco
      simp only [exec] at hs
      split at hs
      · rename_i hv
        exact wp_cond_true (coOf_rel hr.e hco hv).bool_inv (ihx hr hf hs hn)
      · rename_i hv
        exact wp_cond_false (coOf_rel hr.e hco hv).bool_inv (ihy hr hf hs hn)
      · exact hs.elim
    · exact hs.elim
  | block id x ih =>
    intro s m a w Q Qx hr hf hs hn
    simp only [compCode, exec] at hs
    have hs := Out.sat_bind hs
    refine wp_block (ih hr hf hs ?_)
    intro e m' s' a' w' hq hr' hf'
    cases e with
    | normal => exact hn .normal m' s' a' w' hq hr' hf'
    | exit i =>
      simp only [] at hq
      cases hb : Nat.beq i id with
      | true =>
        rw [hb] at hq
        have := Nat.eq_of_beq_eq_true hb
        subst this
        simp only [exOf, Exit.inBlock, if_true]
        exact hn .normal m' s' a' w' hq hr' hf'
      | false =>
        rw [hb] at hq
        have : i ≠ id := Nat.ne_of_beq_eq_false hb
        simp only [exOf, Exit.inBlock, this, if_false]
        exact hn (.exit i) m' s' a' w' hq hr' hf'
    | ret => exact hn .ret m' s' a' w' hq hr' hf'
  | loop x ih =>
    intro s m a w Q Qx hr hf hs hn
    simp only [compCode, exec] at hs
    exact wp_loop_rounds lf (iter_wp (fun hr hf hs hn => ih hr hf hs hn) lf hr hf hs hn)
  | exit id => intro s m a w Q Qx hr hf hs hn; exact wp_exit (hn (.exit id) m s a w hs hr hf)
  | scope x ih =>
    intro s m a w Q Qx hr hf hs hn
    simp only [compCode, exec] at hs
    refine wp_scope_straight (ih hr hf hs ?_)
    intro e m' s' a' w' hq hr' hf'
    cases e with
    | normal => exact hn .normal m' s' a' w' hq hr' hf'
    | exit i => exact hn (.exit i) m' s' a' w' hq hr' hf'
    | ret => exact hn .ret m' s' a' w' hq hr' hf'
  | ret => intro s m a w Q Qx hr hf hs hn; exact wp_ret (hn .ret m s a w hs hr hf)
  | rangeFunc => intro s m a w Q Qx hr hf hs hn; simp only [compCode, exec] at hs; exact hs.elim
  | goto => intro s m a w Q Qx hr hf hs hn; simp only [compCode, exec] at hs; exact hs.elim
  | refuse => intro s m a w Q Qx hr hf hs hn; simp only [compCode, exec] at hs; exact hs.elim

end Am
end Go.Proofs.YtbfbaofhnnnohaaGreatDoor

/- The abstract machine, part 23: calls. -/
namespace Go.Proofs.YtbfbaofhnnnohaaGreatDoor
namespace Am
variable {P : Program} {L0 : M} {ty : Ty} {n : Nat} {m : M} {h : H} {w : World}

theorem Pa.mk_of : ∀ (d n : Nat), n + 1 < 2 ^ d → (Pa.mk d n).of = n
  | 0, n, h => by simp at h
  | d + 1, n, h => by
    have hp : 2 ^ (d + 1) = 2 * 2 ^ d := by rw [Nat.pow_succ]; omega
    cases n with
    | zero => rfl
    | succ k =>
      unfold Pa.mk
      cases hb : Nat.beq (k % 2) 0
      · have hk : k % 2 ≠ 0 := Nat.ne_of_beq_eq_false hb
        simp only [hb, Pa.of]
        rw [Pa.mk_of d (k / 2) (by omega)]
        omega
      · have hk : k % 2 = 0 := Nat.eq_of_beq_eq_true hb
        simp only [hb, Pa.of]
        rw [Pa.mk_of d (k / 2) (by omega)]
        omega

theorem envOf_rel : ∀ {l l' pre : List Value} {e : Env} {rest : Array Value}, VRels m l l' → ERel m e (⟨pre ++ l'⟩ ++ rest) → ERel m (envOf l pre.length e) (⟨pre ++ l'⟩ ++ rest)
  | [], l', pre, e, rest, hr, he => he
  | v :: l, l', pre, e, rest, hr, he => by
    cases hr with
    | @cons _ v' _ t' hv ht =>
      simp only [envOf]
      split
      · rename_i hb
        have hle := Nat.le_of_ble_eq_true hb
        have hof : (Pa.mk 12 pre.length).of = pre.length := Pa.mk_of 12 _ (by have : 2 ^ 12 = 4096 := rfl; omega)
        have h1 : ERel m (e.setP (Pa.mk 12 pre.length) v) (⟨pre ++ v' :: t'⟩ ++ rest) := by
          have hlt : (Pa.mk 12 pre.length).of < ((⟨pre ++ v' :: t'⟩ : Array Value) ++ rest).size := by
            rw [hof]; simp; omega
          have := he.put (p := Pa.mk 12 pre.length) hv hlt
          rw [hof] at this
          have heq : ((⟨pre ++ v' :: t'⟩ : Array Value) ++ rest).setIfInBounds pre.length v' = (⟨pre ++ v' :: t'⟩ : Array Value) ++ rest := by
            apply Array.ext'
            simp
          rw [heq] at this
          exact this
        have h2 := envOf_rel (l := l) (l' := t') (pre := pre ++ [v']) (e := e.setP (Pa.mk 12 pre.length) v) (rest := rest) ht (by simpa using h1)
        simpa using h2
      · exact he

theorem resAll_snd (hT : TyOk P ty) {e : Env} {a : Act} (he : ERel m e a.tmps) (R : Rel m h w.heap) : ∀ {rs : List ResultVar} {cs : List CRes} {vs : List Value}, compRes ty n rs = some cs → resAll e h cs = some vs →
    ∃ vs', (rs.mapM (m := Sem) fun
    | .tmp t => pure (a.tmps.getD t undef)
    | .cell a' t => do loadVar t (← asAddr (a.tmps.getD a' undef))).run P w = .ok vs' w ∧ VRels m vs vs'
  | [], cs, vs, hc, hv => by
    simp only [compRes] at hc; cases hc
    simp only [resAll] at hv; cases hv
    exact ⟨[], by simp, .nil⟩
  | .tmp t :: rs, cs, vs, hc, hv => by
    simp only [compRes] at hc
    split at hc
    · rename_i p r hp hr
      cases hc
      simp only [resAll] at hv
      split at hv
      · cases hv
      · rename_i v hv1
        split at hv
        · cases hv
        · rename_i vs2 hv2
          cases hv
          obtain ⟨vs', h1, h2⟩ := resAll_snd hT he R hr hv2
          have ⟨g1, _⟩ := paOf_spec hp
          have hq := (he p v hv1).2
          rw [g1] at hq
          refine ⟨a.tmps.getD t undef :: vs', ?_, .cons hq h2⟩
          simp only [List.mapM_cons, Sem.run_bind, Sem.run_pure, Result.andThen_ok, h1]
    · cases hc
  | .cell b t :: rs, cs, vs, hc, hv => by
    simp only [compRes] at hc
    split at hc
    · rename_i p i r hp hi hr
      cases hc
      simp only [resAll] at hv
      split at hv
      · cases hv
      · rename_i v hv1
        split at hv
        · cases hv
        · rename_i vs2 hv2
          cases hv
          obtain ⟨vs', h1, h2⟩ := resAll_snd hT he R hr hv2
          have ⟨g1, _⟩ := paOf_spec hp
          simp only [CRes.ev] at hv1
          split at hv1
          · rename_i pv hpv
            have hq := (he p pv hpv).2
            rw [g1] at hq
            cases pv with
            | pointer ad =>
              cases ad with
              | none => simp [loadE] at hv1
              | some ad =>
                obtain ⟨b', o, l, rfl, hm, hy⟩ := hq.ptr_inv
                obtain ⟨v', k1, k2⟩ := loadVar_snd (hT.knows hi) R hm hv1
                refine ⟨v' :: vs', ?_, .cons k2 h2⟩
                have ha : (asAddr (a.tmps.getD b undef)).run P w = .ok ⟨l.blk, l.off + o, none⟩ w := by rw [hy]; simp [asAddr]
                simp only [List.mapM_cons, Sem.run_bind, ha, Sem.run_pure, Result.andThen_ok, k1, h1]
            | _ => simp [loadE] at hv1
          · cases hv1
    · cases hc

/-- What is known of a compiled function. -/
structure FnOk (P : Program) (ty : Ty) (f : FuncId) (cf : CFunc) : Prop where
  fn : ∃ fn, P.funcs[f]? = some fn ∧ compFn ty fn = some cf
  call : ∀ args w, (callFunc f args).run P w = .ok (.enter f args) w

abbrev Sums := FuncId → Option (List Value → H → Option (Value × H))

def SumsOk (P : Program) (L0 : M) (sums : Sums) : Prop :=
  ∀ f g, sums f = some g → ∀ args h v h', g args h = some (v, h') → ∀ (m : M) (w : World) (args' : List Value), Sub L0 m → Rel m h w.heap → VRels m args args' →
    CallUpon P f ⟨args'⟩ w (Ends m h w (fun r => r = (v, h')))

theorem Ends.mono {Q Q' : Value × H → Prop} {v' : Value} {w' : World} (hq : ∀ r, Q r → Q' r) (he : Ends m h w Q v' w') : Ends m h w Q' v' w' :=
  let ⟨v, h', m', q, r⟩ := he; ⟨v, h', m', hq _ q, r⟩

theorem CallUpon.mono {f : FuncId} {args : Array Value} {R R' : Value → World → Prop} (hr : ∀ v w, R v w → R' v w) (h : CallUpon P f args w R) : CallUpon P f args w R' := by
  unfold CallUpon at *
  split at h
  · exact hr _ _ h
  · exact Calls.mono h fun e w he => by cases e <;> first | exact hr _ _ he | exact he
  · exact h.elim

theorem results_snd (hT : TyOk P ty) {fn : Func} {e : Env} {a : Act} (he : ERel m e a.tmps) (R : Rel m h w.heap) {cs : List CRes} {vs : List Value} (hc : compRes ty n fn.results.toList = some cs) (hv : resAll e h cs = some vs) :
    ∃ v', (results fn a.tmps).run P w = .ok v' w ∧ VRel m (oneOf vs) v' := by
  obtain ⟨vs', h1, h2⟩ := resAll_snd hT he R hc hv
  refine ⟨if hh : (⟨vs'⟩ : Array Value).size = 1 then (⟨vs'⟩ : Array Value)[0] else .tuple ⟨vs'⟩, ?_, ?_⟩
  · unfold results
    rw [Array.mapM_eq_mapM_toList]
    simp only [map_eq_pure_bind, bind_assoc, pure_bind, Sem.run_bind]
    exact (congrArg (fun r => Result.andThen r _) h1).trans (by simp only [Result.andThen_ok, Sem.run_pure])
  · cases h2 with
    | nil => simp [oneOf]; exact .tuple .nil
    | cons g1 g2 => cases g2 with
      | nil => simpa [oneOf] using g1
      | cons g3 g4 => simp [oneOf]; exact .tuple (.cons g1 (.cons g3 g4))

theorem callE_as {prog : T CFunc} {sums : Sums} (hT : TyOk P ty) (hP : ∀ f cf, prog.get f = some cf → FnOk P ty f cf) (hS : SumsOk P L0 sums) (lf : Nat)
    (hreg : ∀ n call, CallsAs P L0 call → RegAs P L0 ty n call) : ∀ k, CallsAs P L0 (callE prog sums lf k)
  | 0 => fun f args h Q hs => hs.elim
  | k + 1 => by
    intro f args h Q hs m w args' hL R hr
    have ih := callE_as hT hP hS lf hreg k
    simp only [callE] at hs
    split at hs
    · rename_i g hg
      cases hga : g args h with
      | none => rw [hga] at hs; exact hs.elim
      | some r =>
        rw [hga] at hs
        exact (hS f g hg args h r.1 r.2 hga m w args' hL R hr).mono fun v' w' he => he.mono fun q hq => by subst hq; exact hs
    · split at hs
      · exact hs.elim
      · rename_i cf hcf
        obtain ⟨⟨fn, hfn, hcomp⟩, hcall⟩ := hP f cf hcf
        have hs := Out.sat_bind hs
        unfold CallUpon
        rw [hcall]
        simp only
        unfold compFn at hcomp
        split at hcomp
        · rename_i c rs hb hrs
          cases hcomp
          refine calls_of_wp hfn hb ?_
          have he0 : ERel m (envOf args 0 .leaf) (⟨args'⟩ ++ Array.replicate (fn.ntmps - args'.length) undef) := by
            have := envOf_rel (m := m) (l := args) (l' := args') (pre := []) (e := .leaf) (rest := Array.replicate (fn.ntmps - args'.length) undef) hr (fun p v g => by simp [T.getP] at g)
            simpa using this
          have hRS : RS L0 m ⟨envOf args 0 .leaf, h⟩ fn.ntmps [] { tmps := ⟨args'⟩ ++ Array.replicate (fn.ntmps - args'.length) undef, defers := [] } w :=
            ⟨he0, by simp; omega, R, hL, rfl⟩
          refine exec_wp hT ih (hreg _ _ ih) lf c hRS ⟨Ext.refl _ _ _, SameW.refl _, R.dom⟩ hs ?_
          intro x m' s' a' w' hq hr' hf'
          have fin : ∀ vs, resAll s'.e s'.h rs = some vs → Q (oneOf vs, s'.h) →
              a'.defers = [] ∧ ∃ v, (results fn a'.tmps).run P w' = .ok v w' ∧ Ends m h w Q v w' := by
            intro vs hvs hQ
            obtain ⟨v', h1, h2⟩ := results_snd hT hr'.e hr'.r hrs hvs
            exact ⟨hr'.d, v', h1, _, _, _, hQ, h2, hr'.r, ⟨hf'.x, hf'.o⟩⟩
          cases x with
          | exit id => exact hq.elim
          | normal =>
            simp only at hq
            split at hq
            · rename_i vs hvs; exact fin vs hvs hq
            · exact hq.elim
          | ret =>
            simp only at hq
            split at hq
            · rename_i vs hvs; exact fin vs hvs hq
            · exact hq.elim
        · cases hcomp

end Am
end Go.Proofs.YtbfbaofhnnnohaaGreatDoor

/- The abstract machine, part 24: an operation looks at its own slots alone. -/
namespace Go.Proofs.YtbfbaofhnnnohaaGreatDoor
namespace Am

theorem partsE_congr {e e' : Env} : ∀ (l : List (Nat × Nat × CO)), (∀ c ∈ partCos l, c.ev e = c.ev e') → partsE e l = partsE e' l
  | [], _ => rfl
  | (i, k, c) :: l, h => by
    simp only [partCos, List.mem_cons, forall_eq_or_imp] at h
    simp only [partsE, h.1, partsE_congr l h.2]

theorem evs_congr {e e' : Env} : ∀ (l : List CO), (∀ c ∈ l, c.ev e = c.ev e') → CO.evs e l = CO.evs e' l
  | [], _ => rfl
  | c :: l, h => by
    simp only [List.mem_cons, forall_eq_or_imp] at h
    simp only [CO.evs, h.1, evs_congr l h.2]

theorem boundE_congr {e e' : Env} (d : Nat) (o : Option CO) (h : ∀ c ∈ optCos o, c.ev e = c.ev e') : boundE e d o = boundE e' d o := by
  cases o with
  | none => rfl
  | some c => simp only [optCos, List.mem_singleton, forall_eq] at h; simp only [boundE, h]

theorem PO_congr {e e' : Env} (o : PO) (h : ∀ c ∈ o.cos, c.ev e = c.ev e') : o.ev e = o.ev e' := by
  cases o with
  | bld z l => simp only [PO.ev, partsE_congr l h]
  | mkf f a b =>
    simp only [PO.cos, List.mem_append] at h
    simp only [PO.ev, evs_congr a (fun c hc => h c (.inl hc)), evs_congr b (fun c hc => h c (.inr hc))]
  | slS x lo hi =>
    simp only [PO.cos, List.mem_cons, List.mem_append, forall_eq_or_imp] at h
    have h1 := fun d => boundE_congr d lo (fun c hc => h.2 c (.inl hc))
    have h2 := fun d => boundE_congr d hi (fun c hc => h.2 c (.inr hc))
    simp only [PO.ev, h.1, h1, h2]
  | slA k es x lo hi =>
    simp only [PO.cos, List.mem_cons, List.mem_append, forall_eq_or_imp] at h
    have h1 := fun d => boundE_congr d lo (fun c hc => h.2 c (.inl hc))
    have h2 := fun d => boundE_congr d hi (fun c hc => h.2 c (.inr hc))
    simp only [PO.ev, h.1, h1, h2]
  | _ =>
    simp only [PO.cos, List.mem_cons, List.not_mem_nil, or_false, forall_eq_or_imp, forall_eq] at h
    simp only [PO.ev, h]

theorem RO_congr {e e' : Env} (g : H) (o : RO) (h : ∀ c ∈ o.cos, c.ev e = c.ev e') : o.ev e g = o.ev e' g := by
  cases o with
  | slL es x lo hi mx =>
    simp only [RO.cos, List.mem_cons, List.mem_append, forall_eq_or_imp] at h
    have h1 := fun d => boundE_congr d lo (fun c hc => h.2 c (.inl hc))
    have h2 := fun d => boundE_congr d hi (fun c hc => h.2 c (.inr (.inl hc)))
    have h3 := fun d => boundE_congr d mx (fun c hc => h.2 c (.inr (.inr hc)))
    simp only [RO.ev, h.1, h1, h2]
    cases mx with
    | none => rfl
    | some c => simp only [h3]
  | _ =>
    simp only [RO.cos, List.mem_cons, List.not_mem_nil, or_false, forall_eq_or_imp, forall_eq] at h
    simp only [RO.ev, h]

theorem AO_congr {e e' : Env} (g : Nat) (o : AO) (h : ∀ c ∈ o.cos, c.ev e = c.ev e') : o.ev e g = o.ev e' g := by
  cases o with
  | bsl es len z l => simp only [AO.ev, partsE_congr l h]
  | _ =>
    simp only [AO.cos, List.mem_cons, List.not_mem_nil, or_false, forall_eq_or_imp, forall_eq] at h
    simp only [AO.ev, h]

theorem WO_congr {e e' : Env} (g : H) (o : WO) (h : ∀ c ∈ o.cos, c.ev e = c.ev e') : o.ev e g = o.ev e' g := by
  cases o <;>
  · simp only [WO.cos, List.mem_cons, List.not_mem_nil, or_false, forall_eq_or_imp, forall_eq] at h
    simp only [WO.ev, h]

theorem COp_congr {e e' : Env} {call : CallF} (g : H) (o : COp) (h : ∀ c ∈ o.cos, c.ev e = c.ev e') : runCOp call e g o = runCOp call e' g o := by
  cases o with
  | p o => simp only [runCOp, PO_congr o h]
  | r o => simp only [runCOp, RO_congr g o h]
  | a o => simp only [runCOp, AO_congr g.next o h]
  | w o => simp only [runCOp, WO_congr g o h]
  | nxM c => simp only [COp.cos, List.mem_singleton, forall_eq] at h; simp only [runCOp, h]
  | call f l => simp only [runCOp, evs_congr l h]
  | callv f l =>
    simp only [COp.cos, List.mem_cons, forall_eq_or_imp] at h
    simp only [runCOp, h.1, evs_congr l h.2]

/-- The slots alone. -/
def only (e : Env) : List Pa → Env
  | [] => .leaf
  | p :: l => match e.getP p with
    | some v => (only e l).setP p v
    | none => only e l

theorem only_get {e : Env} {p : Pa} : ∀ {l : List Pa} {v : Value}, (only e l).getP p = some v → p ∈ l ∧ e.getP p = some v
  | [], v, h => by simp [only, T.getP] at h
  | q :: l, v, h => by
    simp only [only] at h
    split at h
    · rename_i u hu
      by_cases hq : q = p
      · subst hq
        rw [T.getP_setP_same] at h; cases h
        exact ⟨by simp, hu⟩
      · rw [T.getP_setP_other _ _ _ _ hq] at h
        have ⟨h1, h2⟩ := only_get h
        exact ⟨by simp [h1], h2⟩
    · have ⟨h1, h2⟩ := only_get h
      exact ⟨by simp [h1], h2⟩

theorem only_mem {e : Env} {p : Pa} : ∀ {l : List Pa}, p ∈ l → (only e l).getP p = e.getP p
  | q :: l, h => by
    simp only [only]
    by_cases hq : q = p
    · subst hq
      split
      · rename_i u hu; rw [T.getP_setP_same, hu]
      · rename_i hu
        rw [hu]
        cases hg : (only e l).getP q with
        | none => rfl
        | some v => rw [(only_get hg).2] at hu; cases hu
    · have hl : p ∈ l := by
        cases h with
        | head => exact absurd rfl hq
        | tail _ h => exact h
      split
      · rw [T.getP_setP_other _ _ _ _ hq]; exact only_mem hl
      · exact only_mem hl

theorem coSlots_mem {p : Pa} : ∀ {l : List CO}, CO.t p ∈ l → p ∈ coSlots l
  | c :: l, h => by
    cases h with
    | head => simp [coSlots]
    | tail _ h => cases c <;> simp [coSlots, coSlots_mem h]

theorem only_cos {e : Env} {o : COper} : ∀ c ∈ o.op.cos, c.ev e = c.ev (only e (slotsOf o)) := by
  intro c hc
  cases c with
  | c v => rfl
  | t p =>
    have hp := coSlots_mem hc
    have hm : p ∈ slotsOf o := by unfold slotsOf; split <;> simp [hp]
    simp only [CO.ev, only_mem hm]

theorem only_wanted {e : Env} {o : COper} : wantedE (only e (slotsOf o)) o.g = wantedE e o.g := by
  cases hg : o.g with
  | none => rfl
  | some pb =>
    obtain ⟨p, b⟩ := pb
    have hm : p ∈ slotsOf o := by unfold slotsOf; rw [hg]; simp
    simp only [wantedE, only_mem hm]

end Am
end Go.Proofs.YtbfbaofhnnnohaaGreatDoor

/- The abstract machine, part 25: a drawn region's run in one order, and what is kept in every order. -/
namespace Go.Proofs.YtbfbaofhnnnohaaGreatDoor
namespace Am

def cut (m : M) (k : Nat) : M := fun i => if i < k then m i else none

theorem cut_some {m : M} {k i : Nat} {l : Loc} : cut m k i = some l ↔ i < k ∧ m i = some l := by
  unfold cut; split <;> simp [*]

theorem cut_sub {m m' : M} (s : Sub m m') {j k : Nat} (h : j ≤ k) : Sub (cut m j) (cut m' k) := by
  intro i l e
  rw [cut_some] at *
  exact ⟨by omega, s _ _ e.2⟩

theorem cut_eq {m : M} {k : Nat} (h : ∀ i l, m i = some l → i < k) : cut m k = m := by
  funext i
  unfold cut
  split
  · rfl
  · cases hm : m i with
    | none => rfl
    | some l => exact absurd (h i l hm) (by assumption)

/-- What becomes of the machine's heap. -/
structure Abs (h h' : H) : Prop where
  nxt : h.next ≤ h'.next
  ownd : ∀ i, i < h.next → own h' i → own h i
  low : h'.low ≤ h.low
  kept : ∀ i, i < h.next → i < h'.low → h'.get i = h.get i

theorem Abs.refl (h : H) : Abs h h := ⟨Nat.le_refl _, fun _ _ h => h, Nat.le_refl _, fun _ _ _ => rfl⟩

theorem Abs.trans {h h' h'' : H} (a : Abs h h') (b : Abs h' h'') : Abs h h'' where
  nxt := Nat.le_trans a.nxt b.nxt
  ownd := fun i hi ho => a.ownd i hi (b.ownd i (Nat.lt_of_lt_of_le hi a.nxt) ho)
  low := Nat.le_trans b.low a.low
  kept := fun i hi hl => by rw [b.kept i (Nat.lt_of_lt_of_le hi a.nxt) hl, a.kept i hi (Nat.lt_of_lt_of_le hl b.low)]

theorem Rel.congr {m : M} {h h' : H} {hp : Array Obj} (r : Rel m h hp) (hn : h'.next = h.next) (hg : ∀ i, h'.get i = h.get i) : Rel m h' hp where
  obj := fun i l o e g => r.obj i l o e (by rw [← hg]; exact g)
  bnd := r.bnd
  dom := fun i l e => by rw [hn]; exact r.dom i l e
  sep := fun i j l k hne hi hj ⟨o, ho, hio⟩ ⟨o', ho'⟩ => r.sep i j l k hne hi hj ⟨o, by rw [← hg]; exact ho, hio⟩ ⟨o', by rw [← hg]; exact ho'⟩

theorem Rel.grow {m : M} {h h' : H} {hp : Array Obj} {ob : AObj} {id : Nat} (r : Rel m h hp) (e : h.new ob = some (h', id)) : Rel m h' hp := by
  obtain ⟨rfl, hn, _⟩ := H.new_next e
  have hne : ∀ i l, m i = some l → i ≠ h.next := fun i l hm => by have := r.dom i l hm; omega
  exact {
    obj := fun i l o hm hg => r.obj i l o hm (by rw [← H.new_get_other e (hne i l hm)]; exact hg)
    bnd := r.bnd
    dom := fun i l hm => by have := r.dom i l hm; omega
    sep := fun i j l k hij hi hj ⟨o, ho, hio⟩ ⟨o', ho'⟩ => r.sep i j l k hij hi hj ⟨o, by rw [← H.new_get_other e (hne i l hi)]; exact ho, hio⟩ ⟨o', by rw [← H.new_get_other e (hne j k hj)]; exact ho'⟩ }

/-- The bare heap: nothing is known of any object. -/
def bare (n : Nat) : H := { next := n, low := 0, t := .leaf }

theorem Rel.ofBare {m : M} {n : Nat} {hp : Array Obj} (hb : ∀ i l, m i = some l → l.blk < hp.size) (hd : ∀ i l, m i = some l → i < n) : Rel m (bare n) hp where
  obj := fun i l o _ g => by simp [bare, H.get, T.get] at g
  bnd := hb
  dom := hd
  sep := fun i j l k _ _ _ ⟨o, ho, _⟩ _ => by simp [bare, H.get, T.get] at ho

/-- One operation of the run. -/
structure CStep (call : CallF) (o : COper) (s s' : St) (b : Snap) : Prop where
  env : s'.e = putDst s.e o.dst b.v
  be : b.e = s.e
  bh0 : b.h0 = s.h
  bh1 : b.h1 = s'.h
  bop : b.op = o.op
  abs : Abs s.h s'.h
  ran : b.ran = true → wantedE s.e o.g = some true
  not : b.ran = false → wantedE s.e o.g = some false ∧ b.v = undefV ∧ s'.h = s.h
  det : o.op.changes = false → runSnap call o s = .ret (s', b)
  quiet : o.op.changes = false → b.wrote = false
  kept : b.wrote = false → ∀ i, i < s.h.next → s'.h.get i = s.h.get i
  stw : ∀ k A X bb oo, b.ran = true → o.op = .w (.st k A X) → A.ev s.e = some (.pointer (some ⟨bb, oo, none⟩)) → ∀ i, i ≠ bb → s'.h.get i = s.h.get i

variable {cs : List COper} {call : CallF}

/-- The slots, in whatever order. -/
def Tm (cs : List COper) (S : Nat → Prop) (K : Nat) (f : Nat → St) (m : M) (ts : Array Value) : Prop :=
  ∀ p x, x ≤ K → (∀ i o, cs[i]? = some o → o.dst = some p → (S i ↔ i < x)) → ∀ v, (f x).e.getP p = some v →
    p.of < ts.size ∧ VRel (cut m (f x).h.next) v (ts.getD p.of undef)

theorem putDst_other {e : Env} {d : Option Pa} {v : Value} {p : Pa} (h : d ≠ some p) : (putDst e d v).getP p = e.getP p := by
  cases d with
  | none => rfl
  | some q => exact T.getP_setP_other _ _ _ _ (fun e => h (by rw [e]))

theorem Tm.adv {S : Nat → Prop} {K : Nat} {f f' : Nat → St} {m : M} {ts : Array Value} {o : COper} {b : Snap} (h : Tm cs S K f m ts) (hS : ∀ x, S x → x < K) (ho : cs[K]? = some o) (hf : ∀ x, x ≤ K → f' x = f x)
    (hc : CStep call o (f' K) (f' (K + 1)) b) : Tm cs S (K + 1) f' m ts := by
  intro p x hx hs v hv
  by_cases hxT : x ≤ K
  · rw [hf x hxT] at hv ⊢
    exact h p x hxT hs v hv
  · have hxe : x = K + 1 := by omega
    subst hxe
    have hd : o.dst ≠ some p := fun hd => by
      have := (hs K o ho hd).2 (by omega)
      have := hS K this
      omega
    rw [hc.env, putDst_other hd] at hv
    rw [hf K (Nat.le_refl _)] at hv
    have hs' : ∀ i o, cs[i]? = some o → o.dst = some p → (S i ↔ i < K) := by
      intro i o' ho' hd'
      rw [hs i o' ho' hd']
      constructor
      · intro hi
        rcases Nat.lt_or_ge i K with h1 | h1
        · exact h1
        · have : i = K := by omega
          subst this
          rw [ho] at ho'; cases ho'
          exact absurd hd' hd
      · intro hi; omega
    have ⟨h1, h2⟩ := h p K (Nat.le_refl _) hs' v hv
    refine ⟨h1, h2.sub (cut_sub (Sub.refl m) ?_)⟩
    have := hc.abs.nxt
    rw [hf K (Nat.le_refl _)] at this
    exact this

theorem Tm.put {n : Nat} {S : Nat → Prop} {K : Nat} {f : Nat → St} {m m' : M} {a : Act} {o : COper} {g : Nat → Snap} {j : Nat} {d : Option Tmp} {v' : Value} (h : Tm cs S K f m a.tmps) (hj : j < K) (ho : cs[j]? = some o)
    (hst : ∀ x, x < K → ∀ o, cs[x]? = some o → CStep call o (f x) (f (x + 1)) (g x)) (hlen : K ≤ cs.length)
    (hord : ∀ i o', cs[i]? = some o' → o.dst.isSome = true → o'.dst = o.dst → (i < j → S i) ∧ (j < i → ¬ S i)) (hs : Sub m m')
    (hv : VRel (cut m' (f (j + 1)).h.next) (g j).v v') (hd : compDst n d = some o.dst) (hn : n ≤ a.tmps.size) :
    Tm cs (fun i => S i ∨ i = j) K f m' (a.put d v').tmps := by
  intro p x hx hsync v hvv
  by_cases hp : o.dst = some p
  · cases d with
    | none => simp only [compDst] at hd; rw [hp] at hd; cases hd
    | some t =>
      simp only [compDst] at hd
      split at hd
      · rename_i q hq
        have ⟨h1, h2⟩ := paOf_spec hq
        rw [hp] at hd; cases hd
        have hjx : j < x := (hsync j o ho hp).1 (.inr rfl)
        have hsame : ∀ y, j + 1 ≤ y → y ≤ x → (f y).e.getP p = some (g j).v ∧ (f (j + 1)).h.next ≤ (f y).h.next := by
          intro y hy
          induction y with
          | zero => omega
          | succ y ih =>
            intro hyx
            by_cases hyj : y = j
            · subst hyj
              rw [(hst y hj o ho).env, hp]
              exact ⟨T.getP_setP_same _ _ _, Nat.le_refl _⟩
            · have ⟨i1, i2⟩ := ih (by omega) (by omega)
              obtain ⟨oy, hoy⟩ : ∃ oy, cs[y]? = some oy := ⟨_, List.getElem?_eq_getElem (by omega)⟩
              have hcs := hst y (by omega) oy hoy
              have hne : oy.dst ≠ some p := fun e => by
                have h3 := (hord y oy hoy (by rw [hp]; rfl) (by rw [e, hp])).2 (by omega)
                have h4 := (hsync y oy hoy e).2 (by omega)
                rcases h4 with h4 | h4
                · exact h3 h4
                · omega
              rw [hcs.env, putDst_other hne]
              exact ⟨i1, Nat.le_trans i2 hcs.abs.nxt⟩
        have ⟨k1, k2⟩ := hsame x hjx (Nat.le_refl _)
        rw [k1] at hvv; cases hvv
        have hlt : t < a.tmps.size := Nat.lt_of_lt_of_le h2 hn
        rw [h1]
        refine ⟨by simpa [Act.put] using hlt, ?_⟩
        simp only [Act.put, Array.getD_eq_getD_getElem?, Array.getElem?_setIfInBounds_self_of_lt hlt, Option.getD_some]
        exact hv.sub (cut_sub (Sub.refl _) k2)
      · cases hd
  · have hs' : ∀ i o', cs[i]? = some o' → o'.dst = some p → (S i ↔ i < x) := by
      intro i o' ho' hd'
      rw [← hsync i o' ho' hd']
      constructor
      · exact .inl
      · rintro (h1 | h1)
        · exact h1
        · subst h1; rw [ho] at ho'; cases ho'; exact absurd hd' hp
    have ⟨h1, h2⟩ := h p x hx hs' v hvv
    cases d with
    | none => exact ⟨h1, h2.sub (cut_sub hs (Nat.le_refl _))⟩
    | some t =>
      simp only [compDst] at hd
      split at hd
      · rename_i q hq
        have ⟨g1, g2⟩ := paOf_spec hq
        have hne : t ≠ p.of := fun e => hp (by rw [← Option.some.inj hd]; rw [Pa.of_inj q p (by rw [g1, e])])
        refine ⟨by simpa [Act.put] using h1, ?_⟩
        simp only [Act.put, Array.getD_eq_getD_getElem?, Array.getElem?_setIfInBounds_ne hne]
        rw [Array.getD_eq_getD_getElem?] at h2
        exact h2.sub (cut_sub hs (Nat.le_refl _))
      · cases hd

end Am
end Go.Proofs.YtbfbaofhnnnohaaGreatDoor

/- The abstract machine, part 26: drawn regions: the heap. -/
namespace Go.Proofs.YtbfbaofhnnnohaaGreatDoor
namespace Am
variable {cs : List COper} {call : CallF} {o : COper} {s s' : St} {b : Snap}

def Alike (h h' : H) : Prop := h'.next = h.next ∧ ∀ i, h'.get i = h.get i

/-- An operation that changes nothing old. -/
inductive Calm (o : COper) (s s' : St) (b : Snap) : Prop
  | not (hr : b.ran = false) (hw : wantedE s.e o.g = some false) (hv : b.v = undefV) (hh : Alike s.h s'.h)
  | p (po : PO) (hr : b.ran = true) (hw : wantedE s.e o.g = some true) (ho : o.op = .p po) (hv : po.ev s.e = some b.v) (hh : Alike s.h s'.h)
  | r (ro : RO) (hr : b.ran = true) (hw : wantedE s.e o.g = some true) (ho : o.op = .r ro) (hv : ro.ev s.e { s.h with low := s.h.next } = some b.v) (hh : Alike s.h s'.h)
  | a (ao : AO) (ob : AObj) (h2 : H) (hr : b.ran = true) (hw : wantedE s.e o.g = some true) (ho : o.op = .a ao) (hv : ao.ev s.e s.h.next = some (ob, b.v))
      (hn : s.h.new ob = some (h2, s.h.next)) (hh : Alike h2 s'.h)

theorem new_low {h h2 : H} {ob : AObj} {id l : Nat} (e : ({ h with low := l } : H).new ob = some (h2, id)) : ∃ h3, h.new ob = some (h3, h.next) ∧ Alike h3 h2 ∧ h2.low = l := by
  unfold H.new at e ⊢
  simp only at e
  cases hb : Nat.ble h.next 1000000 <;> rw [hb] at e <;> simp at e
  obtain ⟨rfl, rfl⟩ := e
  exact ⟨_, rfl, ⟨rfl, fun _ => rfl⟩, rfl⟩

theorem snap_det (hn : o.op.changes = false) {R : St × Snap → Prop} (hs : (runSnap call o s).Sat R) : ∃ s' b, R (s', b) ∧ CStep call o s s' b := by
  have hs0 := hs
  unfold runSnap at hs
  split at hs
  · rename_i hw
    cases ho : o.op with
    | p po =>
      rw [ho] at hs
      simp only [runCOp] at hs
      split at hs
      · rename_i v hv
        refine ⟨_, _, hs, ?_⟩
        exact {
          env := rfl, be := rfl, bh0 := rfl, bh1 := rfl, bop := ho.symm
          abs := ⟨Nat.le_refl _, fun _ _ h => h, Nat.min_le_left _ _, fun _ _ _ => rfl⟩
          ran := fun _ => hw
          not := fun h => by cases h
          det := fun _ => by unfold runSnap; rw [hw, ho]; simp only [runCOp, hv]; rfl
          quiet := fun _ => by simp
          kept := fun _ _ _ => rfl
          stw := fun k A X bb oo _ h => by rw [ho] at h; cases h }
      · exact hs.elim
    | r po =>
      rw [ho] at hs
      simp only [runCOp] at hs
      split at hs
      · rename_i v hv
        refine ⟨_, _, hs, ?_⟩
        exact {
          env := rfl, be := rfl, bh0 := rfl, bh1 := rfl, bop := ho.symm
          abs := ⟨Nat.le_refl _, fun _ _ h => h, Nat.min_le_left _ _, fun _ _ _ => rfl⟩
          ran := fun _ => hw
          not := fun h => by cases h
          det := fun _ => by unfold runSnap; rw [hw, ho]; simp only [runCOp, hv]; rfl
          quiet := fun _ => by simp
          kept := fun _ _ _ => rfl
          stw := fun k A X bb oo _ h => by rw [ho] at h; cases h }
      · exact hs.elim
    | a ao =>
      rw [ho] at hs
      simp only [runCOp] at hs
      split at hs
      · rename_i ob v hv
        split at hs
        · rename_i h2 id hnew
          refine ⟨_, _, hs, ?_⟩
          obtain ⟨h3, e3, al, hl⟩ := new_low hnew
          obtain ⟨_, hnx, _⟩ := H.new_next e3
          have hget : ∀ i, i < s.h.next → h2.get i = s.h.get i := fun i hi => by rw [al.2, H.new_get_other e3 (by omega)]
          exact {
            env := rfl, be := rfl, bh0 := rfl, bh1 := rfl, bop := ho.symm
            abs := ⟨by show s.h.next ≤ h2.next; rw [al.1]; omega, fun i hi ⟨x, hx, hy⟩ => ⟨x, by rw [← hget i hi]; exact hx, hy⟩, Nat.min_le_left _ _, fun i hi _ => hget i hi⟩
            ran := fun _ => hw
            not := fun h => by cases h
            det := fun _ => by unfold runSnap; rw [hw, ho]; simp only [runCOp, hv, hnew]; rfl
            quiet := fun _ => by simp [hl]
            kept := fun _ i hi => hget i hi
            stw := fun k A X bb oo _ h => by rw [ho] at h; cases h }
        · exact hs.elim
      · exact hs.elim
    | w _ => rw [ho] at hn; cases hn
    | nxM _ => rw [ho] at hn; cases hn
    | call _ _ => rw [ho] at hn; cases hn
    | callv _ _ => rw [ho] at hn; cases hn
  · rename_i hw
    refine ⟨_, _, hs, ?_⟩
    exact {
      env := rfl, be := rfl, bh0 := rfl, bh1 := rfl, bop := rfl
      abs := Abs.refl _
      ran := fun h => by cases h
      not := fun _ => ⟨hw, rfl, rfl⟩
      det := fun _ => by unfold runSnap; rw [hw]
      quiet := fun _ => rfl
      kept := fun _ _ _ => rfl
      stw := fun k A X bb oo h => by cases h }
  · exact hs.elim

theorem CStep.calm (hc : CStep call o s s' b) (hn : o.op.changes = false) : Calm o s s' b := by
  have hd := hc.det hn
  unfold runSnap at hd
  split at hd
  · rename_i hw
    cases ho : o.op with
    | p po =>
      rw [ho] at hd
      simp only [runCOp] at hd
      split at hd
      · rename_i v hv
        simp only [Out.bind, Out.ret.injEq, Prod.mk.injEq] at hd
        obtain ⟨h1, h2⟩ := hd
        subst h1; subst h2
        exact .p po rfl hw ho hv ⟨rfl, fun _ => rfl⟩
      · cases hd
    | r po =>
      rw [ho] at hd
      simp only [runCOp] at hd
      split at hd
      · rename_i v hv
        simp only [Out.bind, Out.ret.injEq, Prod.mk.injEq] at hd
        obtain ⟨h1, h2⟩ := hd
        subst h1; subst h2
        exact .r po rfl hw ho hv ⟨rfl, fun _ => rfl⟩
      · cases hd
    | a ao =>
      rw [ho] at hd
      simp only [runCOp] at hd
      split at hd
      · rename_i ob v hv
        split at hd
        · rename_i h2 id hnew
          simp only [Out.bind, Out.ret.injEq, Prod.mk.injEq] at hd
          obtain ⟨h1, h2'⟩ := hd
          subst h1; subst h2'
          obtain ⟨h3, e3, al, hl⟩ := new_low hnew
          exact .a ao ob h3 rfl hw ho hv e3 ⟨al.1, al.2⟩
        · cases hd
      · cases hd
    | w _ => rw [ho] at hn; cases hn
    | nxM _ => rw [ho] at hn; cases hn
    | call _ _ => rw [ho] at hn; cases hn
    | callv _ _ => rw [ho] at hn; cases hn
  · rename_i hw
    simp only [Out.ret.injEq, Prod.mk.injEq] at hd
    obtain ⟨h1, h2⟩ := hd
    subst h1; subst h2
    exact .not rfl hw rfl ⟨rfl, fun _ => rfl⟩
  · cases hd

/-- The heap, in whatever order. -/
def RelS (cs : List COper) (K : Nat) (f : Nat → St) (g : Nat → Snap) (m : M) (hp : Array Obj) : Prop :=
  ∀ x, x ≤ K → (∀ k o, k < K → cs[k]? = some o → o.op.changes = true → (g k).ran = true → k < x) → Rel (cut m (f x).h.next) (f x).h hp

theorem Rel.step {m : M} {hp : Array Obj} (r : Rel (cut m s.h.next) s.h hp) (hc : CStep call o s s' b) (hn : o.op.changes = true → b.ran = false) (hd : ∀ i l, m i = some l → i < s.h.next) :
    Rel (cut m s'.h.next) s'.h hp := by
  have hx := hc.abs.nxt
  rw [cut_eq (fun i l h => Nat.lt_of_lt_of_le (hd i l h) hx)]
  rw [cut_eq hd] at r
  cases hch : o.op.changes with
  | true => rw [(hc.not (hn hch)).2.2]; exact r
  | false =>
    cases hc.calm hch with
    | not hr hw hv hh => exact r.congr hh.1 hh.2
    | p po hr hw ho hv hh => exact r.congr hh.1 hh.2
    | r po hr hw ho hv hh => exact r.congr hh.1 hh.2
    | a ao ob h2 hr hw _ hv hnew hh => exact (r.grow hnew).congr hh.1 hh.2

theorem RelS.adv {K : Nat} {f f' : Nat → St} {g g' : Nat → Snap} {m : M} {hp : Array Obj} (h : RelS cs K f g m hp) (hf : ∀ x, x ≤ K → f' x = f x) (hg : ∀ x, x < K → g' x = g x)
    (hc : CStep call o (f' K) (f' (K + 1)) (g' K)) (hn : o.op.changes = true → (g' K).ran = false) (hd : ∀ i l, m i = some l → i < (f K).h.next) : RelS cs (K + 1) f' g' m hp := by
  intro x hx hcond
  by_cases hxK : x ≤ K
  · rw [hf x hxK]
    refine h x hxK fun k o' hk ho' hch hr => hcond k o' (by omega) ho' hch (by rw [hg k hk]; exact hr)
  · have hxe : x = K + 1 := by omega
    subst hxe
    have hK := h K (Nat.le_refl _) fun k o' hk _ _ _ => hk
    rw [← hf K (Nat.le_refl _)] at hK hd
    exact hK.step hc hn hd

/-- A new object, made late. -/
theorem RelS.alloc {K : Nat} {f : Nat → St} {g : Nat → Snap} {m m1 : M} {hp hp' : Array Obj} {h1 : H} {ob : AObj} {id : Nat} (h : RelS cs K f g m hp) (hnone : m id = none)
    (hnew : (bare id).new ob = some (h1, id)) (R1 : Rel m1 h1 hp') (E1 : Ext (cut m id) m1 (bare id) h1 hp hp')
    (hget : ∀ x, x ≤ K → (∀ k o, k < K → cs[k]? = some o → o.op.changes = true → (g k).ran = true → k < x) → id < (f x).h.next → (f x).h.get id = some ob) :
    RelS cs K f g (fun i => if i = id then m1 i else m i) hp' := by
  have hold : ∀ b, b < hp.size → hp'[b]? = hp[b]? := fun b hb => E1.frame b hb (fun j k _ ⟨o, ho, _⟩ => by simp [bare, H.get, T.get] at ho)
  have hdom1 : ∀ i l, m1 i = some l → i ≤ id := fun i l e => by have := R1.dom i l e; have := (H.new_next hnew).2.1; simp [bare] at this; omega
  have hm1 : ∀ i l, m1 i = some l → i ≠ id → m i = some l := by
    intro i l e hne
    rcases E1.new i l e with h2 | ⟨_, h2⟩
    · exact (cut_some.1 h2).2
    · have := hdom1 i l e; simp [bare] at h2; omega
  have hblk : ∀ l, m1 id = some l → hp.size ≤ l.blk := by
    intro l e
    rcases E1.blk id l e (by simp [cut]) with h2 | ⟨j, k, _, ⟨o, ho, _⟩, _⟩
    · exact h2
    · simp [bare, H.get, T.get] at ho
  have hsub : Sub m (fun i => if i = id then m1 i else m i) := by
    intro i l e
    by_cases hi : i = id
    · subst hi; rw [hnone] at e; cases e
    · simp [hi, e]
  have hsub1 : ∀ {k}, id < k → Sub m1 (cut (fun i => if i = id then m1 i else m i) k) := by
    intro k hk i l e
    rw [cut_some]
    refine ⟨by have := hdom1 i l e; omega, ?_⟩
    by_cases hi : i = id
    · subst hi; simpa using e
    · simp only [hi, if_false]; exact hm1 i l e hi
  intro x hx hcond
  have r := h x hx hcond
  have hs := cut_sub hsub (Nat.le_refl (f x).h.next)
  have cases_of : ∀ {i l}, cut (fun i => if i = id then m1 i else m i) (f x).h.next i = some l → (i ≠ id ∧ cut m (f x).h.next i = some l) ∨ (i = id ∧ i < (f x).h.next ∧ m1 id = some l) := by
    intro i l e
    rw [cut_some] at e
    by_cases hi : i = id
    · subst hi; right; simpa using e
    · left; simp only [hi, if_false] at e; exact ⟨hi, cut_some.2 e⟩
  constructor
  · intro i l o hm hg
    rcases cases_of hm with ⟨hi, hm⟩ | ⟨rfl, hlt, hm⟩
    · exact ((r.obj i l o hm hg).sub hs).at (hold _ (r.bnd i l hm))
    · rw [hget x hx hcond hlt] at hg; cases hg
      exact (R1.obj i l _ hm (H.new_get_same hnew)).sub (hsub1 hlt)
  · intro i l hm
    rcases cases_of hm with ⟨hi, hm⟩ | ⟨rfl, hlt, hm⟩
    · exact Nat.lt_of_lt_of_le (r.bnd i l hm) E1.size
    · exact R1.bnd _ _ hm
  · intro i l hm; exact (cut_some.1 hm).1
  · intro i j l k hne hi hj hown hoj
    rcases cases_of hi with ⟨hi1, hi2⟩ | ⟨rfl, hlt, hi2⟩
    · rcases cases_of hj with ⟨hj1, hj2⟩ | ⟨rfl, hlt, hj2⟩
      · exact r.sep i j l k hne hi2 hj2 hown hoj
      · have := hblk _ hj2; have := r.bnd _ _ hi2; omega
    · rcases cases_of hj with ⟨hj1, hj2⟩ | ⟨rfl, hlt', hj2⟩
      · have := hblk _ hi2; have := r.bnd _ _ hj2; omega
      · exact absurd rfl hne

end Am
end Go.Proofs.YtbfbaofhnnnohaaGreatDoor

/- The abstract machine, part 27: what the compilation of a drawn region has checked. -/
namespace Go.Proofs.YtbfbaofhnnnohaaGreatDoor
namespace Am

theorem allBelow_spec {n : Nat} {f : Nat → Bool} (h : allBelow n f = true) {i : Nat} (hi : i < n) : f i = true := by
  unfold allBelow at h
  rw [List.all_eq_true] at h
  exact h i (by simpa using hi)

theorem pick_get {ops : List Oper} : ∀ {l : List Nat}, (∀ i ∈ l, i < ops.length) → ∀ t : Nat, (pick ops l)[t]? = (l[t]?).bind (fun i : Nat => ops[i]?)
  | [], _, t => by simp [pick]
  | i :: l, h, t => by
    have hi := h i (by simp)
    simp only [pick, List.getElem?_eq_getElem hi]
    cases t with
    | zero => simp [hi]
    | succ t => simpa using pick_get (fun j hj => h j (by simp [hj])) t

theorem compOpers_get {ty : Ty} {n : Nat} {ops : List Oper} : ∀ {l : List Oper} {cs : List COper}, compOpers ty n ops l = some cs → cs.length = l.length ∧ ∀ (t : Nat) (o : Oper), l[t]? = some o → ∃ c, cs[t]? = some c ∧ compOper ty n ops o = some c
  | [], cs, h => by simp only [compOpers] at h; cases h; simp
  | o :: l, cs, h => by
    simp only [compOpers] at h
    split at h
    · rename_i c cs' h1 h2
      cases h
      obtain ⟨i1, i2⟩ := compOpers_get h2
      refine ⟨by simp [i1], fun t o' ho => ?_⟩
      cases t with
      | zero => simp at ho; subst ho; exact ⟨c, rfl, h1⟩
      | succ t => simpa using i2 t o' (by simpa using ho)
    · cases h

theorem fold_bits {f g : Nat → Nat} {k : Nat} : ∀ {l : List Nat} {s : Nat}, (l.foldl (fun s i => s ||| (2 ^ f i ||| g i)) s).testBit k = true → s.testBit k = true ∨ ∃ i ∈ l, k = f i ∨ (g i).testBit k = true
  | [], s, h => .inl h
  | i :: l, s, h => by
    rcases fold_bits (l := l) h with h1 | ⟨j, hj, h1⟩
    · simp only [Nat.testBit_or, Bool.or_eq_true, Nat.testBit_two_pow, decide_eq_true_eq] at h1
      rcases h1 with h1 | h1 | h1
      · exact .inl h1
      · exact .inr ⟨i, by simp, .inl h1.symm⟩
      · exact .inr ⟨i, by simp, .inr h1⟩
    · exact .inr ⟨j, by simp [hj], h1⟩

theorem paEq_spec : ∀ (p q : Pa), paEq p q = true ↔ p = q
  | .e, .e => by simp [paEq]
  | .e, .l q => by simp [paEq]
  | .e, .r q => by simp [paEq]
  | .l p, .e => by simp [paEq]
  | .r p, .e => by simp [paEq]
  | .l p, .l q => by simp [paEq, paEq_spec p q]
  | .r p, .r q => by simp [paEq, paEq_spec p q]
  | .l p, .r q => by simp [paEq]
  | .r p, .l q => by simp [paEq]

/-- What is known of a drawn region. -/
structure Drawn (ty : Ty) (n : Nat) (ops : List Oper) (old pos : Nat → Nat) (B : Nat → Nat → Prop) (cs : List COper) (chk : List (List Nat)) : Prop where
  len : cs.length = ops.length
  oldLt : ∀ t : Nat, t < ops.length → old t < ops.length
  posLt : ∀ i, i < ops.length → pos i < ops.length
  oldPos : ∀ i, i < ops.length → old (pos i) = i
  posOld : ∀ t, t < ops.length → pos (old t) = t
  op : ∀ t : Nat, t < ops.length → ∃ o c, ops[old t]? = some o ∧ cs[t]? = some c ∧ compOper ty n ops o = some c ∧ (∀ i ∈ bindsOf o, i < ops.length ∧ pos i < t) ∧
    ∀ k, B t k → ∃ i ∈ bindsOf o, k = pos i ∨ B (pos i) k
  chg : ∀ (j i : Nat) (a : COper), i < j → j < ops.length → cs[i]? = some a → a.op.changes = true → B j i
  clash : ∀ (j i : Nat) (a b : COper), i < j → j < ops.length → cs[i]? = some a → cs[j]? = some b → B j i ∨ clash a b = false
  chkLen : chk.length = ops.length
  chkIn : ∀ (k : Nat) (b : COper) (i : Nat) (a : COper), k < ops.length → cs[k]? = some b → b.op.changes = true → i < k → ¬ B k i → cs[i]? = some a → heapy a.op = true → i ∈ chk.getD k []

theorem drawn_of {ty : Ty} {n : Nat} {ops : List Oper} {cs : List COper} {chk : List (List Nat)} (h : compReg ty n ops true = .dreg cs chk) : ∃ old pos B, Drawn ty n ops old pos B cs chk := by
  simp only [compReg] at h
  generalize orderGo ops ops.length [] (List.range ops.length) = ord at h
  generalize invOf ord = inv at h
  generalize hp : pick ops ord = pops at h
  generalize behindGo inv pops [] = bs at h
  unfold compDreg at h
  split at h
  · cases h
  · rename_i cs' hcs
    split at h
    · rename_i hchk
      simp only [CCode.dreg.injEq] at h
      obtain ⟨h1, h2⟩ := h
      subst h1; subst h2
      simp only [Bool.and_eq_true] at hchk
      obtain ⟨hperm, hedges, hsets, hchg, hcl⟩ := hchk
      unfold permOk at hperm
      simp only [Bool.and_eq_true, Nat.beq_eq] at hperm
      obtain ⟨hl1, hl2, hinv⟩ := hperm
      have hinv' : ∀ i, i < ops.length → ord.getD (inv.getD i ops.length) ops.length = i ∧ inv.getD (ord.getD i ops.length) ops.length = i := by
        intro i hi
        have := allBelow_spec hinv hi
        simpa [Nat.beq_eq] using this
      have hold : ∀ t, t < ops.length → ord.getD t ops.length < ops.length := by
        intro t ht
        rcases Nat.lt_or_ge (ord.getD t ops.length) ops.length with h1 | h1
        · exact h1
        · have h2 := (hinv' t ht).2
          have h3 : inv.getD (ord.getD t ops.length) ops.length = ops.length := by
            rw [List.getD_eq_getElem?_getD, List.getElem?_eq_none (by omega)]; rfl
          omega
      have hpos : ∀ t, t < ops.length → inv.getD t ops.length < ops.length := by
        intro t ht
        rcases Nat.lt_or_ge (inv.getD t ops.length) ops.length with h1 | h1
        · exact h1
        · have h2 := (hinv' t ht).1
          have h3 : ord.getD (inv.getD t ops.length) ops.length = ops.length := by
            rw [List.getD_eq_getElem?_getD, List.getElem?_eq_none (by omega)]; rfl
          omega
      have hmem : ∀ i ∈ ord, i < ops.length := by
        intro i hi
        obtain ⟨t, ht, e⟩ := List.getElem_of_mem hi
        have := hold t (by omega)
        rw [List.getD_eq_getElem?_getD, List.getElem?_eq_getElem ht] at this
        simpa [e] using this
      have hpg : ∀ t, t < ops.length → ∃ o, ops[ord.getD t ops.length]? = some o ∧ pops[t]? = some o := by
        intro t ht
        refine ⟨_, List.getElem?_eq_getElem (hold t ht), ?_⟩
        rw [← hp, pick_get hmem t, List.getElem?_eq_getElem (by omega)]
        simp only [Option.bind_some]
        have : ord.getD t ops.length = ord[t] := by rw [List.getD_eq_getElem?_getD, List.getElem?_eq_getElem (by omega)]; rfl
        rw [List.getElem?_eq_getElem (hmem _ (by simp))]
        congr 1
        congr 1
        exact this.symm
      obtain ⟨hcl1, hcg⟩ := compOpers_get hcs
      have hplen : pops.length = ops.length := by
        rcases Nat.lt_trichotomy pops.length ops.length with h1 | h1 | h1
        · obtain ⟨o, _, h3⟩ := hpg _ h1
          rw [List.getElem?_eq_none (Nat.le_refl _)] at h3; cases h3
        · exact h1
        · have h3 : pops[ops.length]? = none := by rw [← hp, pick_get hmem, List.getElem?_eq_none (by omega)]; rfl
          rw [List.getElem?_eq_getElem h1] at h3; cases h3
      refine ⟨fun t => ord.getD t ops.length, fun i => inv.getD i ops.length, fun t i => (bs.getD t 0).testBit i = true, ?_⟩
      exact {
        len := by omega
        oldLt := hold
        posLt := hpos
        oldPos := fun i hi => (hinv' i hi).1
        posOld := fun i hi => (hinv' i hi).2
        op := fun t ht => by
          obtain ⟨o, h1, h2⟩ := hpg t ht
          obtain ⟨c, h3, h4⟩ := hcg t o h2
          refine ⟨o, c, h1, h3, h4, ?_, ?_⟩
          · have := allBelow_spec hedges ht
            simp only [h2, List.all_eq_true, Bool.and_eq_true] at this
            intro i hi
            have ⟨g1, g2⟩ := this i hi
            exact ⟨Nat.le_of_ble_eq_true g1, Nat.le_of_ble_eq_true g2⟩
          · intro k hk
            have := allBelow_spec hsets ht
            simp only [h2, Nat.beq_eq] at this
            rw [this] at hk
            rcases fold_bits (f := fun i => inv.getD i ops.length) (g := fun i => bs.getD (inv.getD i ops.length) 0) hk with h5 | h5
            · simp at h5
            · exact h5
        chg := fun j i a hij hj ha hch => by
          have := allBelow_spec (allBelow_spec hchg hj) hij
          simp only [Bool.or_eq_true, ha, hch, Bool.not_true, Bool.false_eq_true, or_false] at this
          exact this
        clash := fun j i a b hij hj ha hb => by
          have := allBelow_spec (allBelow_spec hcl hj) hij
          simp only [Bool.or_eq_true, ha, hb, Bool.not_eq_true'] at this
          exact this
        chkLen := by simp [pairsOf]; omega
        chkIn := fun k b i a hk hb hch hik hB ha hh => by
          have hk' : k < cs'.length := by omega
          have : (pairsOf bs cs').getD k [] = (List.range k).filter fun i => !((bs.getD k 0).testBit i) && (match cs'[i]? with
            | some a => heapy a.op
            | none => false) := by
            rw [List.getD_eq_getElem?_getD]
            unfold pairsOf
            rw [List.getElem?_map, List.getElem?_range hk']
            simp only [hb, hch, Option.map_some, Option.getD_some]
            rfl
          rw [this]
          simp only [List.mem_filter, List.mem_range, Bool.and_eq_true, Bool.not_eq_true', ha, hh]
          exact ⟨hik, by simpa using hB, trivial⟩ }
    · cases h

end Am
end Go.Proofs.YtbfbaofhnnnohaaGreatDoor

/- The abstract machine, part 28: what holds at each moment of a drawn region's run. -/
namespace Go.Proofs.YtbfbaofhnnnohaaGreatDoor
namespace Am

/-- What becomes of the real heap. -/
structure ExtR (ms m : M) (hs : H) (hps hp : Array Obj) : Prop where
  sub : Sub ms m
  new : ∀ i l, m i = some l → ms i = some l ∨ (ms i = none ∧ hs.next ≤ i)
  blk : ∀ i l, m i = some l → ms i = none → hps.size ≤ l.blk ∨ ∃ j k, ms j = some k ∧ own hs j ∧ k.blk = l.blk
  size : hps.size ≤ hp.size
  frame : ∀ b, b < hps.size → (∀ j k, ms j = some k → own hs j → k.blk ≠ b) → hp[b]? = hps[b]?

theorem ExtR.full {ms m : M} {hs h : H} {hps hp : Array Obj} (e : ExtR ms m hs hps hp) (a : Abs hs h) : Ext ms m hs h hps hp :=
  { sub := e.sub, nxt := a.nxt, new := e.new, blk := e.blk, size := e.size, frame := e.frame, ownd := a.ownd, low := a.low, kept := a.kept }

theorem ExtR.of {ms m : M} {hs h : H} {hps hp : Array Obj} (e : Ext ms m hs h hps hp) : ExtR ms m hs hps hp :=
  { sub := e.sub, new := e.new, blk := e.blk, size := e.size, frame := e.frame }

structure ExtRW (ms m : M) (hs : H) (ws w : World) : Prop where
  r : ExtR ms m hs ws.heap w.heap
  o : SameW ws w

section
variable (call : CallF) (cs : List COper) (chk : List (List Nat)) (B : Nat → Nat → Prop) (n : Nat) (ds : List Deferred) (ms : M) (hps : World) (s0 : St) (Q : St → Prop)

structure Inv (S : Nat → Prop) (K : Nat) (f : Nat → St) (g : Nat → Snap) (m : M) (a : Act) (w : World) : Prop where
  le : K ≤ cs.length
  f0 : f 0 = s0
  step : ∀ x, x < K → ∀ o, cs[x]? = some o → CStep call o (f x) (f (x + 1)) (g x)
  sub : ∀ x, S x → x < K
  chg : ∀ x o, x < K → cs[x]? = some o → o.op.changes = true → S x
  down : ∀ x, S x → ∀ i, B x i → S i
  pairs : ∀ (k : Nat) (b : COper), k < K → cs[k]? = some b → b.op.changes = true → ∀ i, i < k → i ∈ chk.getD k [] → pairOk (g i) (g k) = true
  tm : Tm cs S K f m a.tmps
  rel : RelS cs K f g m w.heap
  bnd : ∀ i l, m i = some l → l.blk < w.heap.size
  dom : ∀ i l, m i = some l → i < s0.h.next ∨ ∃ j, S j ∧ (f j).h.next ≤ i ∧ i < (f (j + 1)).h.next
  ext : ExtRW ms m s0.h hps w
  msd : ∀ i l, ms i = some l → i < s0.h.next
  rest : (runDreg call (cs.drop K) (chk.drop K) ((List.range K).map g) (f K)).Sat Q
  sz : n ≤ a.tmps.size
  df : a.defers = ds
end

section
variable {P : Program} {ty : Ty} {ops : List Oper} {old pos : Nat → Nat} {call : CallF} {cs : List COper} {chk : List (List Nat)} {B : Nat → Nat → Prop} {n : Nat} {ds : List Deferred} {ms : M} {hps : World} {s0 : St} {Q : St → Prop}
  {S : Nat → Prop} {K : Nat} {f : Nat → St} {g : Nat → Snap} {m : M} {a : Act} {w : World}

theorem Inv.abs (I : Inv call cs chk B n ds ms hps s0 Q S K f g m a w) {x : Nat} : ∀ {y : Nat}, x ≤ y → y ≤ K → Abs (f x).h (f y).h
  | 0, hxy, _ => by have : x = 0 := by omega
                    subst this; exact Abs.refl _
  | y + 1, hxy, hy => by
    by_cases hx : x = y + 1
    · subst hx; exact Abs.refl _
    · have hlt : y < cs.length := by have := I.le; omega
      exact (I.abs (by omega) (by omega)).trans (I.step y (by omega) _ (List.getElem?_eq_getElem hlt)).abs

theorem Inv.domLt (I : Inv call cs chk B n ds ms hps s0 Q S K f g m a w) {i : Nat} {l : Loc} (e : m i = some l) : i < (f K).h.next := by
  rcases I.dom i l e with h1 | ⟨j, h1, h2, h3⟩
  · have := (I.abs (Nat.zero_le K) (Nat.le_refl K)).nxt
    rw [I.f0] at this; omega
  · have := I.sub j h1
    have := (I.abs (x := j + 1) (by omega) (Nat.le_refl K)).nxt
    omega

theorem Inv.free (I : Inv call cs chk B n ds ms hps s0 Q S K f g m a w) {j : Nat} (hj : j < K) (hS : ¬ S j) (hn : (f j).h.next < (f (j + 1)).h.next) : m (f j).h.next = none := by
  cases e : m (f j).h.next with
  | none => rfl
  | some l =>
    rcases I.dom _ l e with h1 | ⟨i, h1, h2, h3⟩
    · have := (I.abs (Nat.zero_le j) (by omega)).nxt
      rw [I.f0] at this; omega
    · have hi := I.sub i h1
      rcases Nat.lt_trichotomy i j with h4 | h4 | h4
      · have := (I.abs (x := i + 1) (y := j) (by omega) (by omega)).nxt; omega
      · subst h4; exact absurd h1 hS
      · have := (I.abs (x := j + 1) (y := i) (by omega) (by omega)).nxt; omega

def ext1 {α : Type} (f : Nat → α) (k : Nat) (v : α) : Nat → α := fun x => if x = k then v else f x

theorem ext1_at {α : Type} (f : Nat → α) (k : Nat) (v : α) : ext1 f k v k = v := by simp [ext1]
theorem ext1_off {α : Type} (f : Nat → α) {k x : Nat} (v : α) (h : x ≠ k) : ext1 f k v x = f x := by simp [ext1, h]

theorem map_ext1 {α : Type} (g : Nat → α) (k : Nat) (b : α) : (List.range (k + 1)).map (ext1 g k b) = (List.range k).map g ++ [b] := by
  rw [List.range_succ, List.map_append, List.map_singleton, ext1_at]
  congr 1
  apply List.map_congr_left
  intro x hx
  simp at hx
  exact ext1_off _ _ (by omega)

theorem Inv.adv (D : Drawn ty n ops old pos B cs chk) (I : Inv call cs chk B n ds ms hps s0 Q S K f g m a w) {o : COper} (ho : cs[K]? = some o) (hn : o.op.changes = false) :
    ∃ f' g', Inv call cs chk B n ds ms hps s0 Q S (K + 1) f' g' m a w := by
  have hK : K < cs.length := by rcases Nat.lt_or_ge K cs.length with h | h
                                · exact h
                                · rw [List.getElem?_eq_none h] at ho; cases ho
  have hKc : K < chk.length := by have := D.chkLen; have := D.len; omega
  have hrest := I.rest
  have hoe : cs[K] = o := by rw [List.getElem?_eq_getElem hK] at ho; exact Option.some.inj ho
  rw [List.drop_eq_getElem_cons hK, List.drop_eq_getElem_cons hKc, hoe] at hrest
  simp only [runDreg] at hrest
  obtain ⟨s', b, hR, hc⟩ := snap_det hn (Out.sat_bind hrest)
  simp only at hR
  split at hR
  · rename_i hp
    refine ⟨ext1 f (K + 1) s', ext1 g K b, ?_⟩
    have hf : ∀ x, x ≤ K → ext1 f (K + 1) s' x = f x := fun x hx => ext1_off _ _ (by omega)
    have hg : ∀ x, x < K → ext1 g K b x = g x := fun x hx => ext1_off _ _ (by omega)
    have hc' : CStep call o (ext1 f (K + 1) s' K) (ext1 f (K + 1) s' (K + 1)) (ext1 g K b K) := by
      rw [hf K (Nat.le_refl _), ext1_at, ext1_at]; exact hc
    exact {
      le := hK
      f0 := by rw [hf 0 (Nat.zero_le _)]; exact I.f0
      step := fun x hx o' ho' => by
        by_cases hxK : x = K
        · subst hxK; rw [ho] at ho'; cases ho'; exact hc'
        · rw [hf x (by omega), hf (x + 1) (by omega), hg x (by omega)]; exact I.step x (by omega) o' ho'
      sub := fun x hx => by have := I.sub x hx; omega
      chg := fun x o' hx ho' hch => by
        by_cases hxK : x = K
        · subst hxK; rw [ho] at ho'; cases ho'; rw [hn] at hch; cases hch
        · exact I.chg x o' (by omega) ho' hch
      down := I.down
      pairs := fun k b' hk hb' hch i hik hi => by
        by_cases hkK : k = K
        · subst hkK; rw [ho] at hb'; cases hb'; rw [hn] at hch; cases hch
        · rw [hg k (by omega), hg i (by omega)]
          exact I.pairs k b' (by omega) hb' hch i hik hi
      tm := I.tm.adv I.sub ho hf hc'
      rel := I.rel.adv hf hg hc' (fun h => by rw [hn] at h; cases h) (fun i l e => I.domLt e)
      bnd := I.bnd
      dom := fun i l e => by
        rcases I.dom i l e with h1 | ⟨j, h1, h2, h3⟩
        · exact .inl h1
        · have := I.sub j h1
          exact .inr ⟨j, h1, by rw [hf j (by omega)]; exact h2, by rw [hf (j + 1) (by omega)]; exact h3⟩
      ext := I.ext
      msd := I.msd
      rest := by rw [map_ext1, ext1_at]; exact hR
      sz := I.sz
      df := I.df }
  · exact hR.elim

end
end Am
end Go.Proofs.YtbfbaofhnnnohaaGreatDoor

/- The abstract machine, part 29: an operation of a drawn region that comes late. -/
namespace Go.Proofs.YtbfbaofhnnnohaaGreatDoor
namespace Am
variable {P : Program} {ty : Ty} {ops : List Oper} {old pos : Nat → Nat} {call : CallF} {cs : List COper} {chk : List (List Nat)} {B : Nat → Nat → Prop} {n : Nat} {ds : List Deferred} {ms : M} {hps : World} {s0 : St} {Q : St → Prop}
  {S : Nat → Prop} {K : Nat} {f : Nat → St} {g : Nat → Snap} {m : M} {a : Act} {w : World}

theorem Inv.top (D : Drawn ty n ops old pos B cs chk) : ∀ (k : Nat) {K : Nat} {f : Nat → St} {g : Nat → Snap}, cs.length ≤ K + k → Inv call cs chk B n ds ms hps s0 Q S K f g m a w →
    ∃ K' f' g', Inv call cs chk B n ds ms hps s0 Q S K' f' g' m a w ∧ (K' = cs.length ∨ ∃ o, cs[K']? = some o ∧ o.op.changes = true)
  | k, K, f, g, hk, I => by
    rcases Nat.lt_or_ge K cs.length with h1 | h1
    · cases hch : (cs[K]).op.changes with
      | true => exact ⟨K, f, g, I, .inr ⟨_, List.getElem?_eq_getElem h1, hch⟩⟩
      | false =>
        obtain ⟨f', g', I'⟩ := I.adv D (List.getElem?_eq_getElem h1) hch
        cases k with
        | zero => omega
        | succ k => exact Inv.top D k (by omega) I'
    · exact ⟨K, f, g, I, .inl (by have := I.le; omega)⟩

theorem Inv.ready (D : Drawn ty n ops old pos B cs chk) (I : Inv call cs chk B n ds ms hps s0 Q S K f g m a w) {t : Nat} {o : Oper} (ht : t < ops.length) (ho : ops[old t]? = some o) (hr : ∀ i ∈ bindsOf o, S (pos i)) :
    ∀ k, B t k → S k := by
  intro k hk
  obtain ⟨o', c, h1, _, _, _, h2⟩ := D.op t ht
  rw [ho] at h1; cases h1
  obtain ⟨i, hi, h3 | h3⟩ := h2 k hk
  · rw [h3]; exact hr i hi
  · exact I.down _ (hr i hi) k h3

theorem dstIn_mem {d : Option Pa} {p : Pa} {l : List Pa} (hd : d = some p) (h : p ∈ l) : dstIn d l = true := by
  subst hd
  simp only [dstIn, List.any_eq_true]
  exact ⟨p, h, (paEq_spec p p).2 rfl⟩

/-- All that clashes with it and stands ahead is done, and nothing that stands behind. -/
theorem Inv.order (D : Drawn ty n ops old pos B cs chk) (I : Inv call cs chk B n ds ms hps s0 Q S K f g m a w) {t : Nat} {c : COper} (ht : t < ops.length) (hc : cs[t]? = some c) (hS : ¬ S t) (hB : ∀ k, B t k → S k)
    {i : Nat} {o : COper} (ho : cs[i]? = some o) (hcl : clash o c = true ∧ clash c o = true) : (i < t → S i) ∧ (t < i → ¬ S i) := by
  have hi : i < ops.length := by
    rw [← D.len]
    rcases Nat.lt_or_ge i cs.length with h | h
    · exact h
    · rw [List.getElem?_eq_none h] at ho; cases ho
  constructor
  · intro h
    rcases D.clash t i o c h ht ho hc with h1 | h1
    · exact hB i h1
    · rw [hcl.1] at h1; cases h1
  · intro h hSi
    rcases D.clash i t c o h hi hc ho with h1 | h1
    · exact hS (I.down i hSi t h1)
    · rw [hcl.2] at h1; cases h1

theorem clash_slot {o c : COper} {p : Pa} (hd : o.dst = some p) (hp : p ∈ slotsOf c) : clash o c = true ∧ clash c o = true := by
  have := dstIn_mem hd hp
  simp [clash, this]

theorem clash_dst {o c : COper} {p : Pa} (hd : o.dst = some p) (hp : c.dst = some p) : clash o c = true ∧ clash c o = true := by
  have : paEq p p = true := (paEq_spec p p).2 rfl
  simp [clash, hd, hp, sameDst, this]

theorem Inv.slots (D : Drawn ty n ops old pos B cs chk) (I : Inv call cs chk B n ds ms hps s0 Q S K f g m a w) {t : Nat} {c : COper} (ht : t < ops.length) (htK : t ≤ K) (hc : cs[t]? = some c) (hS : ¬ S t) (hB : ∀ k, B t k → S k) :
    ERel (cut m (f t).h.next) (only (f t).e (slotsOf c)) a.tmps := by
  intro p v hv
  have ⟨h1, h2⟩ := only_get hv
  refine I.tm p t htK ?_ v h2
  intro i o ho hd
  have ⟨g1, g2⟩ := I.order D ht hc hS hB ho (clash_slot hd h1)
  constructor
  · intro hSi
    rcases Nat.lt_trichotomy i t with h | h | h
    · exact h
    · subst h; exact absurd hSi hS
    · exact absurd hSi (g2 h)
  · exact g1

theorem VRel.cut1 {k : Nat} {v v' : Value} (h : VRel m v v') (hb : below1 k v = true) : VRel (cut m k) v v' := by
  unfold below1 at hb
  split at hb
  · obtain ⟨b, o, l, e, hm, hy⟩ := h.ptr_inv
    cases e; subst hy
    exact .ptr (cut_some.2 ⟨Nat.le_of_ble_eq_true hb, hm⟩)
  · obtain ⟨b, o, l, a', cap, e, hm, hy, h1, h2, h3⟩ := h.slice_inv
    cases e; subst hy
    exact .slice (cut_some.2 ⟨Nat.le_of_ble_eq_true hb, hm⟩) h1 h2 h3
  · obtain ⟨l, hm, hy⟩ := h.map_inv
    subst hy
    exact .map (cut_some.2 ⟨Nat.le_of_ble_eq_true hb, hm⟩)
  · cases h with
    | same h => exact .same h
    | _ => simp [plain] at hb

theorem VRels.cuts {k : Nat} : ∀ {l l' : List Value}, VRels m l l' → belows k l = true → VRels (cut m k) l l'
  | [], _, .nil, _ => .nil
  | v :: l, _, .cons h t, hb => by
    simp only [belows] at hb
    split at hb
    · rename_i h1; exact .cons (h.cut1 h1) (VRels.cuts t hb)
    · cases hb

theorem VRel.cutB {k : Nat} {v v' : Value} (h : VRel m v v') (hb : Am.below k v = true) : VRel (cut m k) v v' := by
  unfold Am.below at hb
  split at hb
  · rename_i c
    obtain ⟨c', e, hc⟩ := h.agg_inv
    subst e
    have := VRels.cuts hc hb
    cases c; cases c'
    exact .agg this
  · rename_i c
    obtain ⟨c', e, hc⟩ := h.tuple_inv
    subst e
    have := VRels.cuts hc hb
    cases c; cases c'
    exact .tuple this
  · exact h.cut1 hb

theorem valEq_spec {a b : Value} (h : valEq a b = true) : a = b := by
  unfold valEq at h
  split at h
  · simp at h; rw [h]
  · simp only [Bool.and_eq_true, sameK_eq, eqI_eq, decide_eq_true_eq, beq_iff_eq] at h
    rw [h.1, h.2]
  · rw [bytesEq_eq, beq_iff_eq] at h
    rename_i x y
    obtain ⟨⟨lx⟩⟩ := x
    obtain ⟨⟨ly⟩⟩ := y
    simp only [sl] at h
    rw [h]
  · rfl
  · simp only [Bool.and_eq_true, Nat.beq_eq] at h
    rw [h.1, h.2]
  · rfl
  · simp only [Bool.and_eq_true, Nat.beq_eq] at h
    rw [h.1, h.2.1, h.2.2.1, h.2.2.2]
  · rfl
  · simp only [Nat.beq_eq] at h
    rw [h]
  · rfl
  · cases h

theorem valsEq_spec : ∀ {a b : List Value}, valsEq a b = true → a = b
  | [], [], _ => rfl
  | [], _ :: _, h => by simp [valsEq] at h
  | _ :: _, [], h => by simp [valsEq] at h
  | x :: a, y :: b, h => by
    simp only [valsEq, Bool.and_eq_true] at h
    rw [valEq_spec h.1, valsEq_spec h.2]

theorem vEq_spec {a b : Value} (h : vEq a b = true) : a = b := by
  unfold vEq at h
  split at h
  · have := valsEq_spec h; simp only [Array.toList_inj] at this; rw [this]
  · have := valsEq_spec h; simp only [Array.toList_inj] at this; rw [this]
  · exact valEq_spec h

/-- The last one below. -/
theorem last_below (p : Nat → Prop) : ∀ K, (∀ k, k < K → ¬ p k) ∨ ∃ k, k < K ∧ p k ∧ ∀ k', k' < K → p k' → k' ≤ k
  | 0 => .inl fun k h => by omega
  | K + 1 => by
    by_cases hp : p K
    · exact .inr ⟨K, by omega, hp, fun k' h _ => by omega⟩
    · rcases last_below p K with h | ⟨k, h1, h2, h3⟩
      · left
        intro k hk
        by_cases e : k = K
        · subst e; exact hp
        · exact h k (by omega)
      · right
        refine ⟨k, by omega, h2, fun k' hk hp' => ?_⟩
        by_cases e : k' = K
        · subst e; exact absurd hp' hp
        · exact h3 k' (by omega) hp'

/-- A late operation is done. -/
theorem Inv.done (D : Drawn ty n ops old pos B cs chk) (I : Inv call cs chk B n ds ms hps s0 Q S K f g m a w) {t : Nat} {o : Oper} {c : COper} (ht : t < K) (hc : cs[t]? = some c) (hcomp : compDst n o.dst = some c.dst)
    (hS : ¬ S t) (hB : ∀ k, B t k → S k) {m' : M} {w' : World} {v' : Value} (hs : Sub m m') (hv : VRel (cut m' (f (t + 1)).h.next) (g t).v v') (hrel : RelS cs K f g m' w'.heap) (hbnd : ∀ i l, m' i = some l → l.blk < w'.heap.size)
    (hdom : ∀ i l, m' i = some l → m i = some l ∨ ((f t).h.next ≤ i ∧ i < (f (t + 1)).h.next)) (hext : ExtRW ms m' s0.h hps w') :
    Inv call cs chk B n ds ms hps s0 Q (fun i => S i ∨ i = t) K f g m' (a.put o.dst v') w' where
  le := I.le
  f0 := I.f0
  step := I.step
  sub := fun x hx => by
    rcases hx with h | h
    · exact I.sub x h
    · omega
  chg := fun x o' hx ho' hch => .inl (I.chg x o' hx ho' hch)
  down := fun x hx i hi => by
    rcases hx with h | h
    · exact .inl (I.down x h i hi)
    · subst h; exact .inl (hB i hi)
  pairs := I.pairs
  tm := by
    have htl : t < ops.length := by have := I.le; have := D.len; omega
    refine I.tm.put ht hc I.step I.le ?_ hs hv hcomp I.sz
    intro i o' ho' hsome hd
    cases hdc : c.dst with
    | none => rw [hdc] at hsome; cases hsome
    | some p => rw [hdc] at hd; exact I.order D htl hc hS hB ho' (clash_dst hd hdc)
  rel := hrel
  bnd := hbnd
  dom := fun i l e => by
    rcases hdom i l e with h | h
    · rcases I.dom i l h with h1 | ⟨j, h1, h2⟩
      · exact .inl h1
      · exact .inr ⟨j, .inl h1, h2⟩
    · exact .inr ⟨t, .inr rfl, h⟩
  ext := hext
  msd := I.msd
  rest := I.rest
  sz := by
    have := I.sz
    unfold Act.put
    split
    · simpa using this
    · exact this
  df := by
    have := I.df
    unfold Act.put
    split <;> exact this

end Am
end Go.Proofs.YtbfbaofhnnnohaaGreatDoor

/- The abstract machine, part 30: an operation of a drawn region that comes late, whatever it is. -/
namespace Go.Proofs.YtbfbaofhnnnohaaGreatDoor
namespace Am
variable {P : Program} {ty : Ty} {ops : List Oper} {old pos : Nat → Nat} {call : CallF} {cs : List COper} {chk : List (List Nat)} {B : Nat → Nat → Prop} {n : Nat} {ds : List Deferred} {ms : M} {hps : World} {s0 : St} {Q : St → Prop}
  {S : Nat → Prop} {K : Nat} {f : Nat → St} {g : Nat → Snap} {m : M} {a : Act} {w : World}

theorem compOper_inv {o : Oper} {c : COper} (h : compOper ty n ops o = some c) : compDst n o.dst = some c.dst ∧ compGuard n ops o.guard = some c.g ∧ compOp ty n o.op = some c.op := by
  unfold compOper at h
  split at h
  · rename_i d g' x h1 h2 h3; cases h; exact ⟨h1, h2, h3⟩
  · cases h

theorem wp_pure {o : Oper} {v : Value} {next : Act → World → Prop} {Qx : Exit → Act → World → Prop} (hp : PSnd P m w a o v) (hn : ∀ v', VRel m v v' → next (a.put o.dst v') w) : o.wp P a w next Qx := by
  obtain ⟨v', h1, h2⟩ := hp
  unfold Oper.wp
  rw [h1]
  exact hn v' h2

/-- A new object stays what it is until it is made. -/
theorem Inv.stays (D : Drawn ty n ops old pos B cs chk) (I : Inv call cs chk B n ds ms hps s0 Q S K f g m a w) {t : Nat} {c : COper} (ht : t < K) (hc : cs[t]? = some c) (hS : ¬ S t) {ao : AO} (hao : c.op = .a ao) (hran : (g t).ran = true)
    (hlt : (f t).h.next < (f (t + 1)).h.next) : ∀ {y : Nat}, t + 1 ≤ y → y ≤ K → (f y).h.get (f t).h.next = (f (t + 1)).h.get (f t).h.next := by
  intro y hy hyK
  induction y with
  | zero => omega
  | succ y ih =>
    by_cases hyt : y = t
    · subst hyt; rfl
    · have ih := ih (by omega) (by omega)
      have hyl : y < cs.length := by have := I.le; omega
      have hst := I.step y (by omega) _ (List.getElem?_eq_getElem hyl)
      have hnx : (f t).h.next < (f y).h.next := by
        have := (I.abs (x := t + 1) (y := y) (by omega) (by omega)).nxt; omega
      rw [← ih]
      cases hw : (g y).wrote with
      | false => exact hst.kept hw _ hnx
      | true =>
        cases hch : (cs[y]).op.changes with
        | false => rw [hst.quiet hch] at hw; cases hw
        | true =>
          cases hr : (g y).ran with
          | false => rw [(hst.not hr).2.2]
          | true =>
            have hSy := I.chg y _ (by omega) (List.getElem?_eq_getElem hyl) hch
            have hBt : ¬ B y t := fun hb => hS (I.down y hSy t hb)
            have hin := D.chkIn y _ t c (by rw [← D.len]; exact hyl) (List.getElem?_eq_getElem hyl) hch (by omega) hBt hc (by rw [hao]; rfl)
            have hpair := I.pairs y _ (by omega) (List.getElem?_eq_getElem hyl) hch t (by omega) hin
            have hst' := I.step t ht c hc
            unfold pairOk at hpair
            rw [hran, hr, hst'.bop, hao] at hpair
            simp only [Bool.and_self, aloof, hw] at hpair
            split at hpair
            · rename_i k A X hop
              split at hpair
              · rename_i bb oo hA
                have hne : (f t).h.next ≠ bb := by
                  intro e
                  rw [hst'.bh0, e] at hpair
                  simp at hpair
                rw [hst.be] at hA
                exact hst.stw k A X bb oo hr (by rw [← hst.bop]; exact hop) hA _ hne
              · cases hpair
            · cases hpair

/-- Where a late operation may read. -/
theorem Inv.reads (D : Drawn ty n ops old pos B cs chk) (I : Inv call cs chk B n ds ms hps s0 Q S K f g m a w) {t : Nat} {c : COper} (ht : t < K) (hc : cs[t]? = some c) (hS : ¬ S t) {ro : RO} (hro : c.op = .r ro) (hran : (g t).ran = true)
    (hv : ro.ev (f t).e { (f t).h with low := (f t).h.next } = some (g t).v) :
    ∃ (x : Nat) (h' : H), x ≤ K ∧ (f t).h.next ≤ (f x).h.next ∧ Rel (cut m (f x).h.next) h' w.heap ∧ ro.ev (f t).e h' = some (g t).v ∧ (x = t ∨ Am.below (f t).h.next (g t).v = true) := by
  rcases last_below (fun k => t < k ∧ (g k).ran = true ∧ ∃ o, cs[k]? = some o ∧ o.op.changes = true) K with h | ⟨k, hk, ⟨htk, hr, o, ho, hch⟩, hlast⟩
  · refine ⟨t, _, by omega, Nat.le_refl _, ?_, hv, .inl rfl⟩
    have hR := I.rel t (by omega) (fun k o hk ho hch hr => by
      rcases Nat.lt_trichotomy k t with h1 | h1 | h1
      · exact h1
      · subst h1; rw [hc] at ho; cases ho; rw [hro] at hch; cases hch
      · exact absurd ⟨h1, hr, o, ho, hch⟩ (h k hk))
    exact hR.congr rfl (fun _ => rfl)
  · have hSk := I.chg k o hk ho hch
    have hBt : ¬ B k t := fun hb => hS (I.down k hSk t hb)
    have hkl : k < ops.length := by have := I.le; have := D.len; omega
    have hin := D.chkIn k o t c hkl ho hch htk hBt hc (by rw [hro]; rfl)
    have hpair := I.pairs k o hk ho hch t htk hin
    have hst' := I.step t ht c hc
    have hstk := I.step k hk o ho
    unfold pairOk at hpair
    rw [hran, hr, hst'.bop, hro] at hpair
    simp only [Bool.and_self, Bool.and_eq_true, readsEq, hst'.bop, hro, hst'.be, hst'.bh0, hstk.bh1] at hpair
    obtain ⟨h1, h2⟩ := hpair
    refine ⟨k + 1, (f (k + 1)).h, by omega, (I.abs (by omega) (by omega)).nxt, ?_, ?_, .inr h2⟩
    · refine I.rel (k + 1) (by omega) fun k' o' hk' ho' hch' hr' => ?_
      rcases Nat.lt_or_ge t k' with h3 | h3
      · have := hlast k' hk' ⟨h3, hr', o', ho', hch'⟩; omega
      · omega
    · split at h1
      · rename_i u hu
        rw [hu, vEq_spec h1]
      · cases h1

theorem Inv.late (hT : TyOk P ty) (D : Drawn ty n ops old pos B cs chk) (I : Inv call cs chk B n ds ms hps s0 Q S K f g m a w) {t : Nat} {o : Oper} {c : COper} (ht : t < K) (hc : cs[t]? = some c) (hcomp : compOper ty n ops o = some c)
    (hch : c.op.changes = false) (hS : ¬ S t) (hB : ∀ k, B t k → S k) {Kx : Act → World → Prop} {Qx : Exit → Act → World → Prop}
    (hn : ∀ m' a' w', Inv call cs chk B n ds ms hps s0 Q (fun i => S i ∨ i = t) K f g m' a' w' → Kx a' w') :
    if Region.wanted o (yielded ⟨ops⟩ a.tmps) then o.wp P a w Kx Qx ∨ (o.asks P a w ∧ LetsOut Qx) else Kx (a.put o.dst undef) w := by
  have htl : t < ops.length := by have := I.le; have := D.len; omega
  obtain ⟨hd, hg, hop⟩ := compOper_inv hcomp
  have hst := I.step t ht c hc
  have hE := I.slots D htl (by omega) hc hS hB
  have hcos := only_cos (e := (f t).e) (o := c)
  have hnx := hst.abs.nxt
  have hcutle : ∀ i l, cut m (f t).h.next i = some l → l.blk < w.heap.size := fun i l e => I.bnd i l (cut_some.1 e).2
  have hbare : Rel (cut m (f t).h.next) (bare (f t).h.next) w.heap := Rel.ofBare hcutle (fun i l e => (cut_some.1 e).1)
  have stay : ∀ v', VRel (cut m (f (t + 1)).h.next) (g t).v v' → Kx (a.put o.dst v') w := fun v' hv =>
    hn _ _ _ (I.done D ht hc hd hS hB (Sub.refl m) hv I.rel I.bnd (fun i l e => .inl e) I.ext)
  cases hst.calm hch with
  | not hr hw hv hh =>
    have hw' := wanted_spec (ops := ⟨ops⟩) (o := o) hE hg (by rw [only_wanted]; exact hw)
    rw [hw']
    simp only [Bool.false_eq_true, if_false]
    exact stay undef (by rw [hv]; exact undef_rel _)
  | p po hr hw hpo hv hh =>
    have hw' := wanted_spec (ops := ⟨ops⟩) (o := o) hE hg (by rw [only_wanted]; exact hw)
    rw [hw']
    simp only [if_true]
    left
    rw [hpo] at hop hcos
    have hspec := comp_spec (x := o) hT hE hbare rfl hop
    rw [PO_congr po hcos] at hv
    exact wp_pure (hspec _ hv) fun v' h => stay v' (h.sub (cut_sub (Sub.refl m) hnx))
  | r ro hr hw hro hv hh =>
    have hw' := wanted_spec (ops := ⟨ops⟩) (o := o) hE hg (by rw [only_wanted]; exact hw)
    rw [hw']
    simp only [if_true]
    left
    obtain ⟨x, h', hx, hxn, hR, hv', hbel⟩ := I.reads D ht hc hS hro hr hv
    rw [hro] at hop hcos
    have hspec := comp_spec (x := o) hT (hE.sub (cut_sub (Sub.refl m) hxn)) hR rfl hop
    rw [RO_congr h' ro hcos] at hv'
    refine wp_pure (hspec _ hv') fun v' h => stay v' ?_
    rcases hbel with rfl | hb
    · exact h.sub (cut_sub (Sub.refl m) hnx)
    · exact ((h.cutB hb).sub (fun i l e => cut_some.2 ⟨by have := (cut_some.1 e).1; omega, (cut_some.1 (cut_some.1 e).2).2⟩))
  | a ao ob h2 hr hw hao hv hnew hh =>
    have hw' := wanted_spec (ops := ⟨ops⟩) (o := o) hE hg (by rw [only_wanted]; exact hw)
    rw [hw']
    simp only [if_true]
    left
    obtain ⟨_, hn2, _⟩ := H.new_next hnew
    have hnext : (f (t + 1)).h.next = (f t).h.next + 1 := by rw [hh.1, hn2]
    have hlt : (f t).h.next < (f (t + 1)).h.next := by omega
    have hnone := I.free ht hS hlt
    obtain ⟨h1, hnew1⟩ : ∃ h1, (bare (f t).h.next).new ob = some (h1, (f t).h.next) := by
      unfold H.new at hnew ⊢
      simp only [bare]
      cases hb : Nat.ble (f t).h.next 1000000 with
      | true => exact ⟨_, rfl⟩
      | false => rw [hb] at hnew; cases hnew
    have hcos' := hcos
    rw [hao] at hop hcos
    have hspec := comp_spec (x := o) hT hE hbare rfl hop
    rw [AO_congr _ ao hcos] at hv
    have hDS := hspec ob _ h1 _ hv hnew1
    have hget : (f (t + 1)).h.get (f t).h.next = some ob := by rw [hh.2]; exact H.new_get_same hnew
    refine wp_does (Q := fun r => r = ((g t).v, h1)) hDS rfl ?_
    rintro v' w' ⟨v, h1', m1, hq, hv', hR1, ⟨hE1, hO1⟩⟩
    cases hq
    have hrel := I.rel.alloc hnone hnew1 hR1 hE1 (fun x hx _ hlt' => by
      have hxt : t + 1 ≤ x := by
        rcases Nat.lt_or_ge t x with h | h
        · exact h
        · have := (I.abs (x := x) (y := t) h (by omega)).nxt; omega
      rw [I.stays D ht hc hS hao hr hlt hxt hx]; exact hget)
    have hdom1 : ∀ i l, m1 i = some l → i < (f (t + 1)).h.next := fun i l e => by
      have := hR1.dom i l e
      have := (H.new_next hnew1).2.1
      simp only [bare] at this
      omega
    have hm1 : ∀ i l, m1 i = some l → i ≠ (f t).h.next → m i = some l := by
      intro i l e hne
      rcases hE1.new i l e with h2 | ⟨_, h2⟩
      · exact (cut_some.1 h2).2
      · have := hdom1 i l e; simp only [bare] at h2; omega
    have hblk : ∀ l, m1 (f t).h.next = some l → w.heap.size ≤ l.blk := by
      intro l e
      rcases hE1.blk _ l e (by simp [cut]) with h2 | ⟨j, k, _, ⟨o, ho, _⟩, _⟩
      · exact h2
      · simp [bare, H.get, T.get] at ho
    have hsub : Sub m (fun i => if i = (f t).h.next then m1 i else m i) := by
      intro i l e
      by_cases hi : i = (f t).h.next
      · subst hi; rw [hnone] at e; cases e
      · simp [hi, e]
    have hwhat : ∀ i l, (if i = (f t).h.next then m1 i else m i) = some l → m i = some l ∨ (i = (f t).h.next ∧ m1 (f t).h.next = some l) := by
      intro i l e
      split at e
      · rename_i hi; subst hi; exact .inr ⟨rfl, e⟩
      · exact .inl e
    refine hn _ _ _ (I.done D ht hc hd hS hB hsub (hv'.sub ?_) hrel ?_ ?_ ?_)
    · intro i l e
      rw [cut_some]
      refine ⟨hdom1 i l e, ?_⟩
      by_cases hi : i = (f t).h.next
      · subst hi; simpa using e
      · simp only [hi, if_false]; exact hm1 i l e hi
    · intro i l e
      rcases hwhat i l e with h | ⟨rfl, h⟩
      · exact Nat.lt_of_lt_of_le (I.bnd i l h) hE1.size
      · exact hR1.bnd _ _ h
    · intro i l e
      rcases hwhat i l e with h | ⟨rfl, h⟩
      · exact .inl h
      · exact .inr ⟨Nat.le_refl _, hlt⟩
    · have hs0 : s0.h.next ≤ (f t).h.next := by
        have := (I.abs (Nat.zero_le t) (by omega)).nxt
        rw [I.f0] at this; exact this
      exact ⟨{
        sub := I.ext.r.sub.trans hsub
        new := fun i l e => by
          rcases hwhat i l e with h | ⟨rfl, h⟩
          · exact I.ext.r.new i l h
          · refine .inr ⟨?_, hs0⟩
            cases hms : ms (f t).h.next with
            | none => rfl
            | some k => have := I.msd _ _ hms; omega
        blk := fun i l e hms => by
          rcases hwhat i l e with h | ⟨rfl, h⟩
          · exact I.ext.r.blk i l h hms
          · exact .inl (Nat.le_trans I.ext.r.size (hblk l h))
        size := Nat.le_trans I.ext.r.size hE1.size
        frame := fun b hb hno => by
          rw [hE1.frame b (Nat.lt_of_lt_of_le hb I.ext.r.size) (fun j k _ ⟨o, ho, _⟩ => by simp [bare, H.get, T.get] at ho)]
          exact I.ext.r.frame b hb hno }, I.ext.o.trans hO1⟩

end Am
end Go.Proofs.YtbfbaofhnnnohaaGreatDoor

/- The abstract machine, part 31: an operation of a drawn region that may change the heap; the whole region. -/
namespace Go.Proofs.YtbfbaofhnnnohaaGreatDoor
namespace Am
variable {P : Program} {L0 : M} {ty : Ty} {ops : List Oper} {old pos : Nat → Nat} {call : CallF} {cs : List COper} {chk : List (List Nat)} {B : Nat → Nat → Prop} {n : Nat} {ds : List Deferred} {ms : M} {hps : World} {s0 : St} {Q : St → Prop}
  {S : Nat → Prop} {K : Nat} {f : Nat → St} {g : Nat → Snap} {m : M} {a : Act} {w : World}

theorem Inv.more (D : Drawn ty n ops old pos B cs chk) (I : Inv call cs chk B n ds ms hps s0 Q S K f g m a w) {o : Oper} {c : COper} (hc : cs[K]? = some c) (hcomp : compDst n o.dst = some c.dst)
    (hB : ∀ k, B K k → S k) {s' : St} {b : Snap} (hst : CStep call c (f K) s' b) (hpairs : ∀ i, i < K → i ∈ chk.getD K [] → pairOk (g i) b = true)
    (hrest : (runDreg call (cs.drop (K + 1)) (chk.drop (K + 1)) ((List.range K).map g ++ [b]) s').Sat Q) {m' : M} {w' : World} {v' : Value} (hs : Sub m m') (hv : VRel (cut m' s'.h.next) b.v v')
    (hrel : RelS cs (K + 1) (ext1 f (K + 1) s') (ext1 g K b) m' w'.heap) (hbnd : ∀ i l, m' i = some l → l.blk < w'.heap.size)
    (hdom : ∀ i l, m' i = some l → m i = some l ∨ ((f K).h.next ≤ i ∧ i < s'.h.next)) (hext : ExtRW ms m' s0.h hps w') :
    Inv call cs chk B n ds ms hps s0 Q (fun i => S i ∨ i = K) (K + 1) (ext1 f (K + 1) s') (ext1 g K b) m' (a.put o.dst v') w' := by
  have hK : K < cs.length := by rcases Nat.lt_or_ge K cs.length with h | h
                                · exact h
                                · rw [List.getElem?_eq_none h] at hc; cases hc
  have hSK : ¬ S K := fun h => by have := I.sub K h; omega
  have hf : ∀ x, x ≤ K → ext1 f (K + 1) s' x = f x := fun x hx => ext1_off _ _ (by omega)
  have hg : ∀ x, x < K → ext1 g K b x = g x := fun x hx => ext1_off _ _ (by omega)
  have hc' : CStep call c (ext1 f (K + 1) s' K) (ext1 f (K + 1) s' (K + 1)) (ext1 g K b K) := by
    rw [hf K (Nat.le_refl _), ext1_at, ext1_at]; exact hst
  have hstep : ∀ x, x < K + 1 → ∀ o, cs[x]? = some o → CStep call o (ext1 f (K + 1) s' x) (ext1 f (K + 1) s' (x + 1)) (ext1 g K b x) := fun x hx o' ho' => by
    by_cases hxK : x = K
    · subst hxK; rw [hc] at ho'; cases ho'; exact hc'
    · rw [hf x (by omega), hf (x + 1) (by omega), hg x (by omega)]; exact I.step x (by omega) o' ho'
  have hKl : K < ops.length := by rw [← D.len]; exact hK
  exact {
    le := hK
    f0 := by rw [hf 0 (Nat.zero_le _)]; exact I.f0
    step := hstep
    sub := fun x hx => by
      rcases hx with h | h
      · have := I.sub x h; omega
      · omega
    chg := fun x o' hx ho' hch => by
      by_cases hxK : x = K
      · exact .inr hxK
      · exact .inl (I.chg x o' (by omega) ho' hch)
    down := fun x hx i hi => by
      rcases hx with h | h
      · exact .inl (I.down x h i hi)
      · subst h; exact .inl (hB i hi)
    pairs := fun k b' hk hb' hch i hik hi => by
      by_cases hkK : k = K
      · subst hkK
        rw [hg i hik, ext1_at]; exact hpairs i hik hi
      · rw [hg k (by omega), hg i (by omega)]
        exact I.pairs k b' (by omega) hb' hch i hik hi
    tm := by
      refine (I.tm.adv I.sub hc hf hc').put (Nat.lt_succ_self K) hc hstep hK ?_ hs (by rw [ext1_at, ext1_at]; exact hv) hcomp I.sz
      intro i o' ho' hsome hd
      cases hdc : c.dst with
      | none => rw [hdc] at hsome; cases hsome
      | some p => rw [hdc] at hd; exact I.order D hKl hc hSK hB ho' (clash_dst hd hdc)
    rel := hrel
    bnd := hbnd
    dom := fun i l e => by
      rcases hdom i l e with h | h
      · rcases I.dom i l h with h1 | ⟨j, h1, h2, h3⟩
        · exact .inl h1
        · have := I.sub j h1
          exact .inr ⟨j, .inl h1, by rw [hf j (by omega)]; exact h2, by rw [hf (j + 1) (by omega)]; exact h3⟩
      · exact .inr ⟨K, .inr rfl, by rw [hf K (Nat.le_refl _)]; exact h.1, by rw [ext1_at]; exact h.2⟩
    ext := hext
    msd := I.msd
    rest := by rw [map_ext1]; rw [ext1_at]; exact hrest
    sz := by
      have := I.sz
      unfold Act.put
      split
      · simpa using this
      · exact this
    df := by
      have := I.df
      unfold Act.put
      split <;> exact this }

theorem pairsOk_spec {pre : Nat → Snap} {K : Nat} {b : Snap} : ∀ {l : List Nat}, pairsOk ((List.range K).map pre) b l = true → ∀ i, i < K → i ∈ l → pairOk (pre i) b = true
  | [], _, i, _, hi => by cases hi
  | j :: l, h, i, hK, hi => by
    simp only [pairsOk] at h
    split at h
    · rename_i a ha
      split at h
      · rename_i hp
        cases hi with
        | head =>
          rw [List.getElem?_map, List.getElem?_range hK] at ha
          simp only [Option.map_some, Option.some.injEq] at ha
          rw [ha]; exact hp
        | tail _ hi => exact pairsOk_spec h i hK hi
      · cases h
    · cases h

theorem st_off {e : Env} {h : H} {c : COp} {R : Value × H → Prop} (hs : (runCOp call e h c).Sat R) :
    (runCOp call e h c).Sat (fun r => R r ∧ ∀ k A X bb oo, c = .w (.st k A X) → A.ev e = some (.pointer (some ⟨bb, oo, none⟩)) → ∀ i, i ≠ bb → r.2.get i = h.get i) := by
  by_cases hc : ∃ k A X, c = .w (.st k A X)
  · obtain ⟨k, A, X, rfl⟩ := hc
    simp only [runCOp] at hs ⊢
    split at hs
    · rename_i r hr
      refine ⟨hs, ?_⟩
      intro k' A' X' bb oo hop hA i hi
      cases hop
      simp only [WO.ev, hA] at hr
      split at hr
      · rename_i hp he
        cases hp
        split at hr
        · split at hr
          · rename_i h' hst
            cases hr
            unfold storeE at hst
            split at hst
            · split at hst
              · exact H.put_get_other hst hi
              · cases hst
            · cases hst
          · cases hr
        · cases hr
      · cases hr
    · exact hs.elim
  · exact hs.mono fun r hr => ⟨hr, fun k A X bb oo hop => absurd ⟨k, A, X, hop⟩ hc⟩

theorem Inv.head (hT : TyOk P ty) (hcall : CallsAs P L0 call) (hL : Sub L0 ms) (D : Drawn ty n ops old pos B cs chk) (I : Inv call cs chk B n ds ms hps s0 Q S K f g m a w) {o : Oper} {c : COper} (hc : cs[K]? = some c) (hcomp : compOper ty n ops o = some c)
    (hch : c.op.changes = true) (hB : ∀ k, B K k → S k) {Kx : Act → World → Prop} {Qx : Exit → Act → World → Prop}
    (hn : ∀ f' g' m' a' w', Inv call cs chk B n ds ms hps s0 Q (fun i => S i ∨ i = K) (K + 1) f' g' m' a' w' → Kx a' w') :
    if Region.wanted o (yielded ⟨ops⟩ a.tmps) then o.wp P a w Kx Qx ∨ (o.asks P a w ∧ LetsOut Qx) else Kx (a.put o.dst undef) w := by
  have hK : K < cs.length := by rcases Nat.lt_or_ge K cs.length with h | h
                                · exact h
                                · rw [List.getElem?_eq_none h] at hc; cases hc
  have hKl : K < ops.length := by rw [← D.len]; exact hK
  have hSK : ¬ S K := fun h => by have := I.sub K h; omega
  have hKc : K < chk.length := by have := D.chkLen; omega
  obtain ⟨hd, hg, hop⟩ := compOper_inv hcomp
  have hE := I.slots D hKl (Nat.le_refl K) hc hSK hB
  have hcos := only_cos (e := (f K).e) (o := c)
  have hrest := I.rest
  have hce : cs[K] = c := by rw [List.getElem?_eq_getElem hK] at hc; exact Option.some.inj hc
  rw [List.drop_eq_getElem_cons hK, List.drop_eq_getElem_cons hKc, hce] at hrest
  have hchk : chk.getD K [] = chk[K] := by rw [List.getD_eq_getElem?_getD, List.getElem?_eq_getElem hKc]; rfl
  simp only [runDreg] at hrest
  have hrest := Out.sat_bind hrest
  have hcut : cut m (f K).h.next = m := cut_eq (fun i l e => I.domLt e)
  have hRK := I.rel K (Nat.le_refl _) (fun k o hk _ _ _ => hk)
  rw [hcut] at hRK hE
  unfold runSnap at hrest
  split at hrest
  · rename_i hw
    have hw' := wanted_spec (ops := ⟨ops⟩) (o := o) hE hg (by rw [only_wanted]; exact hw)
    rw [hw']
    simp only [if_true]
    left
    have hR : Rel m { (f K).h with low := (f K).h.next } w.heap := hRK.congr rfl (fun _ => rfl)
    have hspec := comp_spec (x := o) hT hE hR rfl hop
    have hs := st_off (Out.sat_bind hrest)
    rw [COp_congr _ c.op hcos] at hs
    refine cop_wp hcall (hL.trans I.ext.r.sub) hE hR hspec hs ?_
    rintro v' w' ⟨v, h', m', ⟨hq, hoff⟩, hv, hR', ⟨hX, hXo⟩⟩
    simp only [Out.Sat] at hq
    split at hq
    · rename_i hp
      have hst : CStep call c (f K) ⟨putDst (f K).e c.dst v, { h' with low := min (f K).h.low h'.low }⟩
          { ran := true, wrote := !(Nat.ble (f K).h.next h'.low), e := (f K).e, v := v, h0 := (f K).h, h1 := { h' with low := min (f K).h.low h'.low }, op := c.op } := {
        env := rfl, be := rfl, bh0 := rfl, bh1 := rfl, bop := rfl
        abs := ⟨hX.nxt, fun i hi ho => hX.ownd i hi ho, Nat.min_le_left _ _, fun i hi hl => hX.kept i hi (Nat.lt_of_lt_of_le hl (Nat.min_le_right _ _))⟩
        ran := fun _ => hw
        not := fun h => by cases h
        det := fun h => by simp [hch] at h
        quiet := fun h => by simp [hch] at h
        kept := fun h i hi => by
          simp only [Bool.not_eq_false'] at h
          exact hX.kept i hi (Nat.lt_of_lt_of_le hi (Nat.le_of_ble_eq_true h))
        stw := fun k A X bb oo _ hopc hA i hi => by
          exact hoff k A X bb oo hopc hA i hi }
      have hX' : Ext m m' (f K).h { h' with low := min (f K).h.low h'.low } w.heap w'.heap :=
        { sub := hX.sub, nxt := hX.nxt, new := hX.new, blk := hX.blk, size := hX.size, frame := hX.frame, ownd := hX.ownd, low := Nat.min_le_left _ _
          kept := fun i hi hl => hX.kept i hi (Nat.lt_of_lt_of_le hl (Nat.min_le_right _ _)) }
      have habs := I.abs (Nat.zero_le K) (Nat.le_refl K)
      rw [I.f0] at habs
      have hcut' : cut m' h'.next = m' := cut_eq (fun i l e => hR'.dom i l e)
      refine hn _ _ _ _ _ (I.more D hc hd hB hst (fun i hi hm => pairsOk_spec hp i hi (by rw [← hchk]; exact hm)) hq hX.sub ?_ ?_ ?_ ?_ ?_)
      · show VRel (cut m' h'.next) v v'
        rw [hcut']; exact hv
      · intro x hx hcond
        have hx1 := hcond K c (Nat.lt_succ_self K) hc hch (by rw [ext1_at])
        have : x = K + 1 := by omega
        subst this
        rw [ext1_at]
        show Rel (cut m' h'.next) _ w'.heap
        rw [hcut']
        exact hR'.congr rfl (fun _ => rfl)
      · exact fun i l e => hR'.bnd i l e
      · intro i l e
        rcases hX.new i l e with h1 | ⟨_, h1⟩
        · exact .inl h1
        · exact .inr ⟨h1, hR'.dom i l e⟩
      · exact ⟨ExtR.of ((I.ext.r.full habs).trans hX' I.msd), I.ext.o.trans hXo⟩
    · exact hq.elim
  · rename_i hw
    have hw' := wanted_spec (ops := ⟨ops⟩) (o := o) hE hg (by rw [only_wanted]; exact hw)
    rw [hw']
    simp only [Bool.false_eq_true, if_false]
    simp only [Out.Sat] at hrest
    split at hrest
    · rename_i hp
      have hst : CStep call c (f K) ⟨putDst (f K).e c.dst undefV, (f K).h⟩
          { ran := false, wrote := false, e := (f K).e, v := undefV, h0 := (f K).h, h1 := (f K).h, op := c.op } := {
        env := rfl, be := rfl, bh0 := rfl, bh1 := rfl, bop := rfl
        abs := Abs.refl _
        ran := fun h => by cases h
        not := fun _ => ⟨hw, rfl, rfl⟩
        det := fun h => by simp [hch] at h
        quiet := fun h => by simp [hch] at h
        kept := fun _ _ _ => rfl
        stw := fun k A X bb oo h => by cases h }
      refine hn _ _ _ _ _ (I.more D hc hd hB hst (fun i hi hm => pairsOk_spec hp i hi (by rw [← hchk]; exact hm)) hrest (Sub.refl m) (undef_rel _) ?_ I.bnd (fun i l e => .inl e) I.ext)
      refine I.rel.adv (call := call) (o := c) (fun x hx => ext1_off _ _ (by omega)) (fun x hx => ext1_off _ _ (by omega)) ?_ ?_ (fun i l e => I.domLt e)
      · rw [ext1_off f _ (show K ≠ K + 1 by omega), ext1_at, ext1_at]; exact hst
      · intro _; rw [ext1_at]
    · exact hrest.elim
  · exact hrest.elim

end Am
end Go.Proofs.YtbfbaofhnnnohaaGreatDoor

/- The abstract machine, part 32: drawn regions, and with them all calls. -/
namespace Go.Proofs.YtbfbaofhnnnohaaGreatDoor
namespace Am
variable {P : Program} {L0 : M} {ty : Ty} {ops : List Oper} {old pos : Nat → Nat} {call : CallF} {cs : List COper} {chk : List (List Nat)} {B : Nat → Nat → Prop} {n : Nat} {ds : List Deferred} {ms : M} {hps : World} {s0 : St} {Q : St → Prop}
  {S : Nat → Prop} {K : Nat} {f : Nat → St} {g : Nat → Snap} {m : M} {a : Act} {w : World}

theorem count_set : ∀ (l : List Bool) (i : Nat), l[i]? = some false → (l.set i true).count false + 1 = l.count false
  | [], i, h => by simp at h
  | b :: l, 0, h => by simp at h; subst h; simp
  | b :: l, i + 1, h => by
    have := count_set l i (by simpa using h)
    simp only [List.set_cons_succ, List.count_cons]
    omega

theorem count_zero {l : List Bool} (h : l.count false = 0) {i : Nat} (hi : i < l.length) : l[i]? = some true := by
  rw [List.count_eq_zero] at h
  rw [List.getElem?_eq_getElem hi]
  cases e : l[i] with
  | true => rfl
  | false => exact absurd (e ▸ List.getElem_mem hi) h

theorem mem_ready {listed : Array Bool} {i : Nat} : i ∈ Region.ready .any ⟨ops⟩ listed ↔
    i < ops.length ∧ listed.getD i true = false ∧ ∃ o, ops[i]? = some o ∧ ∀ j ∈ bindsOf o, listed.getD j false = true := by
  unfold Region.ready
  simp only [List.mem_filter, List.mem_range, Bool.and_eq_true, Bool.not_eq_true']
  refine and_congr Iff.rfl (and_congr Iff.rfl ?_)
  have : (⟨ops⟩ : Array Oper)[i]? = ops[i]? := by simp
  rw [this]
  cases ops[i]? with
  | none => simp
  | some o =>
    simp only [Option.map_some, Option.getD_some, Option.some.injEq, exists_eq_left']
    unfold bindsOf
    rw [← Array.all_toList, List.all_eq_true]
    simp only [List.mem_map, List.mem_filter, forall_exists_index, and_imp, Bool.or_eq_true, Bool.not_eq_true']
    constructor
    · intro h j e he hb hj
      subst hj
      rcases h e he with h1 | h1
      · rw [hb] at h1; cases h1
      · exact h1
    · intro h e he
      cases hb : Region.binds .any e with
      | false => exact .inl rfl
      | true => exact .inr (h _ e he hb rfl)

/-- Which ones are done. -/
def Listed (N : Nat) (pos : Nat → Nat) (S : Nat → Prop) (listed : Array Bool) : Prop :=
  listed.size = N ∧ ∀ i, i < N → (listed.getD i false = true ↔ S (pos i))

theorem getD_both {listed : Array Bool} {i : Nat} (h : i < listed.size) : listed.getD i true = listed.getD i false := by
  simp [Array.getD_eq_getD_getElem?, h]

theorem all_done (D : Drawn ty n ops old pos B cs chk) {listed : Array Bool} (L : Listed ops.length pos S listed) (h : Region.ready .any ⟨ops⟩ listed = []) : ∀ t, t < ops.length → S t := by
  intro t
  induction t using Nat.strongRecOn with
  | _ t ih =>
    intro ht
    obtain ⟨o, c, ho, _, _, hb, _⟩ := D.op t ht
    have hi := D.oldLt t ht
    have hpo := D.posOld t ht
    cases hS : listed.getD (old t) false with
    | true => rw [← hpo]; exact (L.2 _ hi).1 hS
    | false =>
      exfalso
      have : old t ∈ Region.ready .any ⟨ops⟩ listed := by
        rw [mem_ready]
        refine ⟨hi, by rw [getD_both (by rw [L.1]; exact hi)]; exact hS, o, ho, fun j hj => ?_⟩
        have ⟨h1, h2⟩ := hb j hj
        exact (L.2 j h1).2 (ih (pos j) h2 (D.posLt j h1))
      rw [h] at this; cases this

theorem dreg_main (hT : TyOk P ty) (hcall : CallsAs P L0 call) (hL : Sub L0 ms) (D : Drawn ty n ops old pos B cs chk) {Qx : Exit → Act → World → Prop}
    (hfin : ∀ m' s' a' w', Q s' → RS L0 m' s' n ds a' w' → Fwd ms m' s0.h s'.h hps w' → Qx .normal a' w') :
    ∀ (fuel : Nat) {listed : Array Bool} {S : Nat → Prop} {K : Nat} {f : Nat → St} {g : Nat → Snap} {m : M} {a : Act} {w : World}, listed.toList.count false ≤ fuel → Listed ops.length pos S listed →
      Inv call cs chk B n ds ms hps s0 Q S K f g m a w → wpAny P .any ⟨ops⟩ Qx fuel listed a w := by
  intro fuel
  have fin : ∀ {listed : Array Bool} {S : Nat → Prop} {K : Nat} {f : Nat → St} {g : Nat → Snap} {m : M} {a : Act} {w : World}, Listed ops.length pos S listed →
      Inv call cs chk B n ds ms hps s0 Q S K f g m a w → Region.ready .any ⟨ops⟩ listed = [] → Qx .normal a w := by
    intro listed S K f g m a w L I hr
    have hall := all_done D L hr
    have hKN : K = cs.length := by
      have := I.le
      rcases Nat.lt_or_ge K cs.length with h | h
      · have := I.sub K (hall K (by rw [← D.len]; exact h)); omega
      · omega
    subst hKN
    have hrest := I.rest
    rw [List.drop_eq_nil_of_le (Nat.le_refl _)] at hrest
    simp only [runDreg] at hrest
    have hcut : cut m (f cs.length).h.next = m := cut_eq (fun i l e => I.domLt e)
    have habs := I.abs (Nat.zero_le cs.length) (Nat.le_refl _)
    rw [I.f0] at habs
    refine hfin m (f cs.length) a w hrest ⟨?_, I.sz, ?_, hL.trans I.ext.r.sub, I.df⟩ ⟨I.ext.r.full habs, I.ext.o⟩
    · intro p v hv
      have := I.tm p cs.length (Nat.le_refl _) (fun i o ho _ => by
        have hi : i < cs.length := by rcases Nat.lt_or_ge i cs.length with h | h
                                      · exact h
                                      · rw [List.getElem?_eq_none h] at ho; cases ho
        exact ⟨fun _ => hi, fun _ => hall i (by rw [← D.len]; exact hi)⟩) v hv
      rw [hcut] at this
      exact this
    · have := I.rel cs.length (Nat.le_refl _) (fun k o hk _ _ _ => hk)
      rw [hcut] at this
      exact this
  induction fuel with
  | zero =>
    intro listed S K f g m a w hcnt L I
    have hr : Region.ready .any ⟨ops⟩ listed = [] := by
      rw [List.eq_nil_iff_forall_not_mem]
      intro i hi
      rw [mem_ready] at hi
      have := count_zero (l := listed.toList) (by omega) (i := i) (by rw [Array.length_toList, L.1]; exact hi.1)
      have h2 := hi.2.1
      rw [Array.getD_eq_getD_getElem?] at h2
      rw [Array.getElem?_toList] at this
      rw [this] at h2; cases h2
    exact ⟨hr, fin L I hr⟩
  | succ fuel ih =>
    intro listed S K0 f0 g0 m a w hcnt L I0
    refine ⟨fin L I0, ?_⟩
    obtain ⟨K, f, g, I, htop⟩ := Inv.top D cs.length (by omega) I0
    intro i hi
    rw [mem_ready] at hi
    obtain ⟨hi1, hi2, o, ho, hbs⟩ := hi
    have hpos := D.posLt i hi1
    obtain ⟨o', c, h1, hc, hcomp, hb, _⟩ := D.op (pos i) hpos
    rw [D.oldPos i hi1] at h1
    rw [ho] at h1; cases h1
    have hSi : ¬ S (pos i) := fun h => by
      have := (L.2 i hi1).2 h
      rw [getD_both (by rw [L.1]; exact hi1)] at hi2
      rw [hi2] at this; cases this
    have hB := I.ready D hpos (by rw [D.oldPos i hi1]; exact ho) (fun j hj => (L.2 j (hb j hj).1).1 (hbs j hj))
    have hle : pos i ≤ K := by
      rcases Nat.lt_or_ge K (pos i) with h | h
      · exfalso
        rcases htop with h2 | ⟨o2, h2, h3⟩
        · have := D.len; omega
        · have h4 := hB K (D.chg (pos i) K o2 h hpos h2 h3)
          have := I.sub K h4; omega
      · exact h
    have hsz : i < listed.size := by rw [L.1]; exact hi1
    have hfalse : listed.toList[i]? = some false := by
      rw [Array.getD_eq_getD_getElem?, Array.getElem?_eq_getElem hsz] at hi2
      rw [Array.getElem?_toList, Array.getElem?_eq_getElem hsz]
      simpa using hi2
    have hcnt' : (listed.setIfInBounds i true).toList.count false ≤ fuel := by
      rw [Array.toList_setIfInBounds]
      have := count_set _ _ hfalse; omega
    have L' : Listed ops.length pos (fun j => S j ∨ j = pos i) (listed.setIfInBounds i true) := by
      refine ⟨by simpa using L.1, fun j hj => ?_⟩
      by_cases hji : i = j
      · subst hji
        simp [Array.getD_eq_getD_getElem?, hsz]
      · rw [Array.getD_eq_getD_getElem?, Array.getElem?_setIfInBounds_ne hji, ← Array.getD_eq_getD_getElem?, L.2 j hj]
        constructor
        · exact .inl
        · rintro (h | h)
          · exact h
          · exfalso
            apply hji
            rw [← D.oldPos i hi1, ← D.oldPos j hj, h]
    have hopx : (⟨ops⟩ : Array Oper)[i]? = some o := by simpa using ho
    unfold wpOp
    rw [hopx]
    simp only
    by_cases hlt : pos i < K
    · have hch : c.op.changes = false := by
        cases h : c.op.changes with
        | false => rfl
        | true => exact absurd (I.chg (pos i) c hlt hc h) hSi
      exact I.late hT D hlt hc hcomp hch hSi hB (fun m' a' w' I' => ih hcnt' L' I')
    · have hKe : K = pos i := by omega
      subst hKe
      have hch : c.op.changes = true := by
        rcases htop with h2 | ⟨o2, h2, h3⟩
        · have := D.len; omega
        · rw [hc] at h2; cases h2; exact h3
      exact I.head hT hcall hL D hc hcomp hch hB (fun f' g' m' a' w' I' => ih hcnt' L' I')

theorem reg_as (hT : TyOk P ty) (hm : P.follows .mixedOrders = true) {call : CallF} (hcall : CallsAs P L0 call) (n : Nat) : RegAs P L0 ty n call := by
  intro ops id ds Qx Q m0 h0 w0 cs prs s m a w hc hr hf hs hn
  obtain ⟨old, pos, B, D⟩ := drawn_of hc
  refine wp_region_any hm ?_
  have hcut : cut m s.h.next = m := cut_eq (fun i l e => hr.r.dom i l e)
  have hsz : (⟨ops⟩ : Array Oper).size = ops.length := rfl
  rw [hsz]
  refine dreg_main (Q := Q) (ms := m) (hps := w) (s0 := s) (ds := ds) (S := fun _ => False) (K := 0) (f := fun _ => s)
    (g := fun _ => { ran := false, wrote := false, e := s.e, v := undefV, h0 := s.h, h1 := s.h, op := .p (.mv (.c undefV)) }) (m := m) hT hcall hr.l D ?_ ops.length ?_ ?_ ?_
  · intro m' s' a' w' hq hr' hX
    exact hn m' s' a' w' hq hr' (hf.trans hX)
  · simp
  · refine ⟨by simp, fun i hi => ?_⟩
    simp [Array.getD_eq_getD_getElem?, hi]
  · exact {
      le := Nat.zero_le _
      f0 := rfl
      step := fun x hx => by omega
      sub := fun x hx => hx.elim
      chg := fun x o hx => by omega
      down := fun x hx => hx.elim
      pairs := fun k b hk => by omega
      tm := fun p x hx _ v hv => by
        have : x = 0 := by omega
        subst this
        simp only [hcut]
        exact hr.e p v hv
      rel := fun x hx _ => by simp only [hcut]; exact hr.r
      bnd := fun i l e => hr.r.bnd i l e
      dom := fun i l e => .inl (hr.r.dom i l e)
      ext := ⟨ExtR.of (Ext.refl m s.h w.heap), ⟨rfl, rfl, rfl⟩⟩
      msd := fun i l e => hr.r.dom i l e
      rest := hs
      sz := hr.n
      df := hr.d }

/-- What the machine's calls hand back, the model's do. -/
theorem calls_as {prog : T CFunc} {sums : Sums} (hT : TyOk P ty) (hm : P.follows .mixedOrders = true) (hP : ∀ f cf, prog.get f = some cf → FnOk P ty f cf) (hS : SumsOk P L0 sums) (lf k : Nat) : CallsAs P L0 (callE prog sums lf k) :=
  callE_as hT hP hS lf (fun n _ hcall => reg_as hT hm hcall n) k

end Am
end Go.Proofs.YtbfbaofhnnnohaaGreatDoor
