/- The abstract machine: a reflective evaluator for closed runs, and its soundness (texts 0 to 11 of it). -/
import Derived.Calls
import Derived.Laws.World
import Derived.Laws.Sem
import Derived.Laws.Strings
import Derived.Laws.BitsAllLaws
import GoSem.Dispatch
import Derived.Laws.StructEq
set_option linter.unusedVariables false
/- The abstract machine, part 0: tries, the abstract heap, and when an abstract value or heap stands for a real one. -/
namespace Go.Proofs.YtbfbaofhnnnohaaGreatDoor
namespace Am

/-! ### tries -/

inductive T (α : Type) where
  | leaf
  | node (l : T α) (v : Option α) (r : T α)

def T.get {α : Type} : T α → Nat → Option α
  | .leaf, _ => none
  | .node l v r, n => match n with
    | 0 => v
    | k + 1 => match Nat.beq (k % 2) 0 with
      | true => l.get (k / 2)
      | false => r.get (k / 2)

def T.set {α : Type} : Nat → T α → Nat → Option α → T α
  | 0, t, _, _ => t
  | d + 1, t, n, x => match t with
    | .leaf => match n with
      | 0 => .node .leaf x .leaf
      | k + 1 => match Nat.beq (k % 2) 0 with
        | true => .node (T.set d .leaf (k / 2) x) none .leaf
        | false => .node .leaf none (T.set d .leaf (k / 2) x)
    | .node l v r => match n with
      | 0 => .node l x r
      | k + 1 => match Nat.beq (k % 2) 0 with
        | true => .node (T.set d l (k / 2) x) v r
        | false => .node l v (T.set d r (k / 2) x)

theorem T.get_leaf {α : Type} (n : Nat) : (T.leaf : T α).get n = none := rfl

theorem T.get_set_same {α : Type} (d : Nat) : ∀ (t : T α) (n : Nat) (x : Option α), n + 1 < 2 ^ d → (t.set d n x).get n = x := by
  induction d with
  | zero => intro t n x h; simp at h
  | succ d ih =>
    intro t n x h
    have hp : 2 ^ (d + 1) = 2 * 2 ^ d := by rw [Nat.pow_succ]; omega
    cases t with
    | leaf =>
      cases n with
      | zero => rfl
      | succ k =>
        unfold T.set
        cases hb : Nat.beq (k % 2) 0 <;> simp only [T.get, hb] <;> exact ih _ _ _ (by omega)
    | node l v r =>
      cases n with
      | zero => rfl
      | succ k =>
        unfold T.set
        cases hb : Nat.beq (k % 2) 0 <;> simp only [T.get, hb] <;> exact ih _ _ _ (by omega)

theorem T.half_ne {k j : Nat} {x : Bool} (hb : Nat.beq (k % 2) 0 = x) (hc : Nat.beq (j % 2) 0 = x) (h : k + 1 ≠ j + 1) : k / 2 ≠ j / 2 := by
  cases x
  · have h1 : k % 2 ≠ 0 := fun e => by rw [e] at hb; cases hb
    have h2 : j % 2 ≠ 0 := fun e => by rw [e] at hc; cases hc
    omega
  · have h1 : k % 2 = 0 := Nat.eq_of_beq_eq_true hb
    have h2 : j % 2 = 0 := Nat.eq_of_beq_eq_true hc
    omega

theorem T.get_set_other {α : Type} (d : Nat) : ∀ (t : T α) (n j : Nat) (x : Option α), n ≠ j → (t.set d n x).get j = t.get j := by
  induction d with
  | zero => intro t n j x _; rfl
  | succ d ih =>
    intro t n j x h
    cases t with
    | leaf =>
      cases n with
      | zero =>
        cases j with
        | zero => exact absurd rfl h
        | succ j => cases hb : Nat.beq (j % 2) 0 <;> simp only [T.set, T.get, hb]
      | succ k =>
        cases j with
        | zero => cases hb : Nat.beq (k % 2) 0 <;> simp only [T.set, hb, T.get]
        | succ j =>
          cases hb : Nat.beq (k % 2) 0 <;> cases hc : Nat.beq (j % 2) 0 <;> simp only [T.set, hb, T.get, hc]
          · rw [ih _ _ _ _ (T.half_ne hb hc h)]; rfl
          · rw [ih _ _ _ _ (T.half_ne hb hc h)]; rfl
    | node l v r =>
      cases n with
      | zero =>
        cases j with
        | zero => exact absurd rfl h
        | succ j => cases hb : Nat.beq (j % 2) 0 <;> simp only [T.set, T.get, hb]
      | succ k =>
        cases j with
        | zero => cases hb : Nat.beq (k % 2) 0 <;> simp only [T.set, hb, T.get]
        | succ j =>
          cases hb : Nat.beq (k % 2) 0 <;> cases hc : Nat.beq (j % 2) 0 <;> simp only [T.set, hb, T.get, hc]
          · exact ih _ _ _ _ (T.half_ne hb hc h)
          · exact ih _ _ _ _ (T.half_ne hb hc h)

/-! ### paths: the names of a frame's slots -/

inductive Pa where
  | e
  | l (p : Pa)
  | r (p : Pa)

def Pa.of : Pa → Nat
  | .e => 0
  | .l p => 2 * p.of + 1
  | .r p => 2 * p.of + 2

theorem Pa.of_inj : ∀ (p q : Pa), p.of = q.of → p = q
  | .e, .e, _ => rfl
  | .e, .l _, h => by simp [Pa.of] at h
  | .e, .r _, h => by simp [Pa.of] at h
  | .l _, .e, h => by simp [Pa.of] at h
  | .r _, .e, h => by simp [Pa.of] at h
  | .l p, .l q, h => by rw [Pa.of_inj p q (by simp [Pa.of] at h; omega)]
  | .r p, .r q, h => by rw [Pa.of_inj p q (by simp [Pa.of] at h; omega)]
  | .l p, .r q, h => by simp [Pa.of] at h; omega
  | .r p, .l q, h => by simp [Pa.of] at h; omega

def Pa.mk : Nat → Nat → Pa
  | 0, _ => .e
  | d + 1, n => match n with
    | 0 => .e
    | k + 1 => match Nat.beq (k % 2) 0 with
      | true => .l (Pa.mk d (k / 2))
      | false => .r (Pa.mk d (k / 2))

def T.getP {α : Type} : T α → Pa → Option α
  | .leaf, _ => none
  | .node l v r, p => match p with
    | .e => v
    | .l p => l.getP p
    | .r p => r.getP p

def T.setP {α : Type} (t : T α) (p : Pa) (x : α) : T α :=
  match p with
  | .e => match t with
    | .leaf => .node .leaf (some x) .leaf
    | .node l _ r => .node l (some x) r
  | .l p => match t with
    | .leaf => .node (T.setP .leaf p x) none .leaf
    | .node l v r => .node (l.setP p x) v r
  | .r p => match t with
    | .leaf => .node .leaf none (T.setP .leaf p x)
    | .node l v r => .node l v (r.setP p x)

theorem T.getP_setP_same {α : Type} (x : α) : ∀ (p : Pa) (t : T α), (t.setP p x).getP p = some x
  | .e, .leaf => rfl
  | .e, .node _ _ _ => rfl
  | .l p, .leaf => by simp only [T.setP, T.getP]; exact T.getP_setP_same x p _
  | .l p, .node _ _ _ => by simp only [T.setP, T.getP]; exact T.getP_setP_same x p _
  | .r p, .leaf => by simp only [T.setP, T.getP]; exact T.getP_setP_same x p _
  | .r p, .node _ _ _ => by simp only [T.setP, T.getP]; exact T.getP_setP_same x p _

theorem T.getP_setP_other {α : Type} (x : α) : ∀ (p q : Pa) (t : T α), p ≠ q → (t.setP p x).getP q = t.getP q
  | .e, .e, _, h => absurd rfl h
  | .e, .l q, .leaf, _ => by simp [T.setP, T.getP]
  | .e, .l q, .node _ _ _, _ => by simp [T.setP, T.getP]
  | .e, .r q, .leaf, _ => by simp [T.setP, T.getP]
  | .e, .r q, .node _ _ _, _ => by simp [T.setP, T.getP]
  | .l p, .e, .leaf, _ => by simp [T.setP, T.getP]
  | .l p, .e, .node _ _ _, _ => by simp [T.setP, T.getP]
  | .r p, .e, .leaf, _ => by simp [T.setP, T.getP]
  | .r p, .e, .node _ _ _, _ => by simp [T.setP, T.getP]
  | .l p, .l q, .leaf, h => by
    simp only [T.setP, T.getP]; rw [T.getP_setP_other x p q .leaf (fun e => h (by rw [e]))]; rfl
  | .l p, .l q, .node l _ _, h => by
    simp only [T.setP, T.getP]; exact T.getP_setP_other x p q l (fun e => h (by rw [e]))
  | .r p, .r q, .leaf, h => by
    simp only [T.setP, T.getP]; rw [T.getP_setP_other x p q .leaf (fun e => h (by rw [e]))]; rfl
  | .r p, .r q, .node _ _ r, h => by
    simp only [T.setP, T.getP]; exact T.getP_setP_other x p q r (fun e => h (by rw [e]))
  | .l p, .r q, .leaf, _ => by simp [T.setP, T.getP]
  | .l p, .r q, .node _ _ _, _ => by simp [T.setP, T.getP]
  | .r p, .l q, .leaf, _ => by simp [T.setP, T.getP]
  | .r p, .l q, .node _ _ _, _ => by simp [T.setP, T.getP]

/-! ### the abstract heap -/

inductive AObj where
  | cells (c : List Value) (own : Bool)
  | map (es : List (Value × Value × Nat)) (clock : Nat)
  | siter (s : ByteArray) (pos : Nat)
  | miter (m : Option Nat) (since : Nat) (seen : List Nat) (stepped : Nat)

structure H where
  next : Nat
  low : Nat
  t : T AObj

abbrev depth : Nat := 20

def H.get (h : H) (i : Nat) : Option AObj := h.t.get i

/-- A new object. -/
def H.new (h : H) (o : AObj) : Option (H × Nat) :=
  match Nat.ble h.next 1000000 with
  | true => some ({ next := h.next + 1, low := h.low, t := h.t.set depth h.next (some o) }, h.next)
  | false => none

/-- An object that is there is another one from now on (or dead: none). -/
def H.put (h : H) (i : Nat) (o : Option AObj) : Option H :=
  match Nat.ble i 1000000 with
  | true => some { next := h.next, low := min h.low i, t := h.t.set depth i o }
  | false => none

theorem H.new_get_same {h h' : H} {o : AObj} {i : Nat} (e : h.new o = some (h', i)) : h'.get i = some o := by
  unfold H.new at e
  cases hb : Nat.ble h.next 1000000 <;> rw [hb] at e <;> simp at e
  obtain ⟨rfl, rfl⟩ := e
  have := Nat.le_of_ble_eq_true hb
  exact T.get_set_same _ _ _ _ (by have : 2 ^ depth = 1048576 := rfl; omega)

theorem H.new_get_other {h h' : H} {o : AObj} {i j : Nat} (e : h.new o = some (h', i)) (hj : j ≠ i) : h'.get j = h.get j := by
  unfold H.new at e
  cases hb : Nat.ble h.next 1000000 <;> rw [hb] at e <;> simp at e
  obtain ⟨rfl, rfl⟩ := e
  exact T.get_set_other _ _ _ _ _ (Ne.symm hj)

theorem H.new_next {h h' : H} {o : AObj} {i : Nat} (e : h.new o = some (h', i)) : i = h.next ∧ h'.next = h.next + 1 ∧ h'.low = h.low := by
  unfold H.new at e
  cases hb : Nat.ble h.next 1000000 <;> rw [hb] at e <;> simp at e
  obtain ⟨rfl, rfl⟩ := e
  exact ⟨rfl, rfl, rfl⟩

theorem H.put_get_same {h h' : H} {o : Option AObj} {i : Nat} (e : h.put i o = some h') : h'.get i = o := by
  unfold H.put at e
  cases hb : Nat.ble i 1000000 <;> rw [hb] at e <;> simp at e
  subst e
  have := Nat.le_of_ble_eq_true hb
  exact T.get_set_same _ _ _ _ (by have : 2 ^ depth = 1048576 := rfl; omega)

theorem H.put_get_other {h h' : H} {o : Option AObj} {i j : Nat} (e : h.put i o = some h') (hj : j ≠ i) : h'.get j = h.get j := by
  unfold H.put at e
  cases hb : Nat.ble i 1000000 <;> rw [hb] at e <;> simp at e
  subst e
  exact T.get_set_other _ _ _ _ _ (Ne.symm hj)

theorem H.put_next {h h' : H} {o : Option AObj} {i : Nat} (e : h.put i o = some h') : h'.next = h.next ∧ h'.low = min h.low i := by
  unfold H.put at e
  cases hb : Nat.ble i 1000000 <;> rw [hb] at e <;> simp at e
  subst e
  exact ⟨rfl, rfl⟩

/-! ### when values are alike -/

/-- Where an abstract block lies: the real block, from which cell on, how many cells there are from there on. -/
structure Loc where
  blk : Nat
  off : Nat
  room : Nat

abbrev M := Nat → Option Loc

/-- A value that stands for itself. -/
def plain : Value → Bool
  | .bool _ | .int _ _ | .float _ _ | .complex _ _ _ | .string _ | .pointer none | .slice none 0 0 | .map none | .chan none | .nilFunc | .nilIface => true
  | _ => false

/-- What an abstract slice's third number says of the real capacity: odd: exactly so many; even: it reaches to the end of its block, elements of so many cells. -/
def CapOk (cc o room cap : Nat) : Prop :=
  if cc % 2 = 1 then cap = cc / 2 else 0 < cc / 2 ∧ o + cap * (cc / 2) = room

mutual
inductive VRel (m : M) : Value → Value → Prop
  | same {v : Value} (h : plain v = true) : VRel m v v
  | ptr {b o : Nat} {l : Loc} (h : m b = some l) : VRel m (.pointer (some ⟨b, o, none⟩)) (.pointer (some ⟨l.blk, l.off + o, none⟩))
  | slice {b o len cc cap : Nat} {a : Addr} {l : Loc} (h : m b = some l) (hl : len ≤ cap) (ha : cap = 0 ∨ a = ⟨l.blk, l.off + o, none⟩)
      (hc : CapOk cc o l.room cap) : VRel m (.slice (some ⟨b, o, none⟩) len cc) (.slice (some a) len cap)
  | map {r : Nat} {l : Loc} (h : m r = some l) : VRel m (.map (some r)) (.map (some l.blk))
  | func {fn : Fn} {f c f' c' : List Value} (hf : VRels m f f') (hc : VRels m c c') : VRel m (.func fn ⟨f⟩ ⟨c⟩) (.func fn ⟨f'⟩ ⟨c'⟩)
  | iface {t : TypeId} {v v' : Value} (h : VRel m v v') : VRel m (.iface t v) (.iface t v')
  | agg {c c' : List Value} (h : VRels m c c') : VRel m (.agg ⟨c⟩) (.agg ⟨c'⟩)
  | tuple {c c' : List Value} (h : VRels m c c') : VRel m (.tuple ⟨c⟩) (.tuple ⟨c'⟩)
inductive VRels (m : M) : List Value → List Value → Prop
  | nil : VRels m [] []
  | cons {v v' : Value} {l l' : List Value} (h : VRel m v v') (t : VRels m l l') : VRels m (v :: l) (v' :: l')
end

def Sub (m m' : M) : Prop := ∀ i l, m i = some l → m' i = some l

theorem Sub.refl (m : M) : Sub m m := fun _ _ h => h
theorem Sub.trans {a b c : M} (h : Sub a b) (g : Sub b c) : Sub a c := fun i l e => g i l (h i l e)

mutual
theorem VRel.sub {m m' : M} (s : Sub m m') : ∀ {v v' : Value}, VRel m v v' → VRel m' v v'
  | _, _, .same h => .same h
  | _, _, .ptr h => .ptr (s _ _ h)
  | _, _, .slice h hl ha hc => .slice (s _ _ h) hl ha hc
  | _, _, .map h => .map (s _ _ h)
  | _, _, .func hf hc => .func (VRels.sub s hf) (VRels.sub s hc)
  | _, _, .iface h => .iface (VRel.sub s h)
  | _, _, .agg h => .agg (VRels.sub s h)
  | _, _, .tuple h => .tuple (VRels.sub s h)
theorem VRels.sub {m m' : M} (s : Sub m m') : ∀ {v v' : List Value}, VRels m v v' → VRels m' v v'
  | _, _, .nil => .nil
  | _, _, .cons h t => .cons (VRel.sub s h) (VRels.sub s t)
end

namespace VRels
variable {m : M}
theorem length {a b : List Value} : VRels m a b → a.length = b.length := by
  induction a generalizing b with
  | nil => intro h; cases h; rfl
  | cons x a ih => intro h; cases h with | cons _ t => simp [ih t]
theorem get {a b : List Value} (h : VRels m a b) {i : Nat} {v : Value} (e : a[i]? = some v) : ∃ v', b[i]? = some v' ∧ VRel m v v' := by
  induction a generalizing b i with
  | nil => simp at e
  | cons x a ih =>
    cases h with
    | cons hx t =>
      cases i with
      | zero => simp at e; subst e; exact ⟨_, by simp, hx⟩
      | succ i => simp at e; obtain ⟨v', h1, h2⟩ := ih t e; exact ⟨v', by simpa using h1, h2⟩
theorem append {a b c d : List Value} (h : VRels m a b) (g : VRels m c d) : VRels m (a ++ c) (b ++ d) := by
  induction a generalizing b with
  | nil => cases h; exact g
  | cons x a ih => cases h with | cons hx t => exact .cons hx (ih t)
theorem take {a b : List Value} (h : VRels m a b) (n : Nat) : VRels m (a.take n) (b.take n) := by
  induction a generalizing b n with
  | nil => cases h; simp; exact .nil
  | cons x a ih => cases h with | cons hx t => cases n with
    | zero => simp; exact .nil
    | succ n => simp; exact .cons hx (ih t n)
theorem drop {a b : List Value} (h : VRels m a b) (n : Nat) : VRels m (a.drop n) (b.drop n) := by
  induction a generalizing b n with
  | nil => cases h; simp; exact .nil
  | cons x a ih => cases h with | cons hx t => cases n with
    | zero => simp; exact .cons hx t
    | succ n => simp; exact ih t n
theorem set {a b : List Value} (h : VRels m a b) {v v' : Value} (hv : VRel m v v') (n : Nat) : VRels m (a.set n v) (b.set n v') := by
  induction a generalizing b n with
  | nil => cases h; simp; exact .nil
  | cons x a ih => cases h with | cons hx t => cases n with
    | zero => simp; exact .cons hv t
    | succ n => simp; exact .cons hx (ih t n)
theorem of_get {a b : List Value} (hl : a.length = b.length) (h : ∀ (i : Nat) (v : Value), a[i]? = some v → ∃ v', b[i]? = some v' ∧ VRel m v v') : VRels m a b := by
  induction a generalizing b with
  | nil => cases b with | nil => exact .nil | cons _ _ => simp at hl
  | cons x a ih => cases b with
    | nil => simp at hl
    | cons y b =>
      obtain ⟨v', h1, h2⟩ := h 0 x rfl
      simp at h1; subst h1
      refine .cons h2 (ih (by simpa using hl) fun i v e => ?_)
      exact h (i + 1) v (by simpa using e)
theorem same_all {a : List Value} (h : ∀ v ∈ a, plain v = true) : VRels m a a := by
  induction a with
  | nil => exact .nil
  | cons x a ih => exact .cons (.same (h x (by simp))) (ih fun v hv => h v (by simp [hv]))
end VRels

end Am
end Go.Proofs.YtbfbaofhnnnohaaGreatDoor

/- The abstract machine, part 1: its operations, its code, its runs. -/
namespace Go.Proofs.YtbfbaofhnnnohaaGreatDoor
namespace Am

/-! ### small functions, quick for the kernel -/

def nth : List Value → Nat → Option Value
  | [], _ => none
  | v :: l, n => match n with
    | 0 => some v
    | k + 1 => nth l k

def setN : List Value → Nat → Value → List Value
  | [], _, _ => []
  | v :: l, n, x => match n with
    | 0 => x :: l
    | k + 1 => v :: setN l k x

def lenN : List Value → Nat → Nat
  | [], n => n
  | _ :: l, n => lenN l (n + 1)

def ltI (a b : Int) : Bool :=
  match a, b with
  | .ofNat a, .ofNat b => Nat.ble (a + 1) b
  | .ofNat _, .negSucc _ => false
  | .negSucc _, .ofNat _ => true
  | .negSucc a, .negSucc b => Nat.ble (b + 1) a

def eqI (a b : Int) : Bool :=
  match a, b with
  | .ofNat a, .ofNat b => Nat.beq a b
  | .ofNat _, .negSucc _ => false
  | .negSucc _, .ofNat _ => false
  | .negSucc a, .negSucc b => Nat.beq a b

def topN : IntKind → Nat
  | .i8 => 128 | .u8 => 256 | .i16 => 32768 | .u16 => 65536 | .i32 => 2147483648 | .u32 => 4294967296
  | .i64 => 9223372036854775808 | .u64 => 18446744073709551616

/-- k.wrap, quick where the number fits and is not below 0. -/
def wrapQ (k : IntKind) (n : Int) : Int :=
  match n with
  | .ofNat m => match Nat.ble (m + 1) (topN k) with
    | true => .ofNat m
    | false => k.wrap (.ofNat m)
  | .negSucc m => k.wrap (.negSucc m)

def sameK : IntKind → IntKind → Bool
  | .i8, .i8 | .i16, .i16 | .i32, .i32 | .i64, .i64 | .u8, .u8 | .u16, .u16 | .u32, .u32 | .u64, .u64 => true
  | _, _ => false

def bytesEq : List UInt8 → List UInt8 → Bool
  | [], [] => true
  | [], _ :: _ => false
  | _ :: _, [] => false
  | a :: x, b :: y => match Nat.beq a.toNat b.toNat with
    | true => bytesEq x y
    | false => false

def bytesLt : List UInt8 → List UInt8 → Bool
  | _, [] => false
  | [], _ :: _ => true
  | a :: x, b :: y => match Nat.ble (a.toNat + 1) b.toNat with
    | true => true
    | false => match Nat.beq a.toNat b.toNat with
      | true => bytesLt x y
      | false => false

def sl (s : ByteArray) : List UInt8 := s.data.toList
def strOf (l : List UInt8) : Value := .string ⟨⟨l⟩⟩

def len8 : List UInt8 → Nat → Nat
  | [], n => n
  | _ :: l, n => len8 l (n + 1)

/-- The bits of two numbers that are not below 0, of an unsigned kind (or small). -/
def bitsQ (op : BinOp) (a b : Nat) : Nat :=
  match op with
  | .and => Nat.land a b
  | .or => Nat.lor a b
  | .xor => Nat.xor a b
  | _ => Nat.xor a (Nat.land a b)

def bitsN (op : BinOp) (k : IntKind) (x y : Int) : Option Value :=
  match x, y with
  | .ofNat a, .ofNat b => match Nat.ble (a + 1) (topN k), Nat.ble (b + 1) (topN k) with
    | true, true => some (.int k (.ofNat (bitsQ op a b)))
    | _, _ => none
  | _, _ => none

/-- An operation on two integers of one kind. -/
def intE (op : BinOp) (k : IntKind) (x y : Int) : Option Value :=
  match op with
  | .add => some (.int k (wrapQ k (x + y)))
  | .sub => some (.int k (wrapQ k (x - y)))
  | .mul => some (.int k (wrapQ k (x * y)))
  | .quo => match eqI y 0 with
    | true => none
    | false => some (.int k (wrapQ k (x.tdiv y)))
  | .rem => match eqI y 0 with
    | true => none
    | false => some (.int k (x.tmod y))
  | .and | .or | .xor | .andNot => bitsN op k x y
  | .eql => some (.bool (eqI x y))
  | .neq => some (.bool (!(eqI x y)))
  | .lss => some (.bool (ltI x y))
  | .leq => some (.bool (!(ltI y x)))
  | .gtr => some (.bool (ltI y x))
  | .geq => some (.bool (!(ltI x y)))
  | .shl | .shr => none

def kbits : IntKind → Nat
  | .i8 | .u8 => 8 | .i16 | .u16 => 16 | .i32 | .u32 => 32 | .i64 | .u64 => 64

def shiftE (op : BinOp) (k : IntKind) (x y : Int) : Option Value :=
  match x, y with
  | .ofNat a, .ofNat n => match Nat.ble n (kbits k) with
    | true => match op with
      | .shl => some (.int k (wrapQ k (.ofNat (a * 2 ^ n))))
      | _ => some (.int k (.ofNat (a / 2 ^ n)))
    | false => none
  | _, _ => none

def strE (op : BinOp) (x y : List UInt8) : Option Value :=
  match op with
  | .add => match Nat.ble (len8 x 0 + len8 y 0) 1000000000 with
    | true => some (strOf (x ++ y))
    | false => none
  | .eql => some (.bool (bytesEq x y))
  | .neq => some (.bool (!(bytesEq x y)))
  | .lss => some (.bool (bytesLt x y))
  | .leq => some (.bool (bytesLt x y || bytesEq x y))
  | .gtr => some (.bool (!(bytesLt x y || bytesEq x y)))
  | .geq => some (.bool (!(bytesLt x y)))
  | _ => none

def boolE (op : BinOp) (x y : Bool) : Option Value :=
  match op with
  | .eql => some (.bool (x == y))
  | .neq => some (.bool (!(x == y)))
  | _ => none

def negB (op : BinOp) (b : Bool) : Option Value :=
  match op with
  | .eql => some (.bool b)
  | .neq => some (.bool (!b))
  | _ => none

/-- Two cells, as keys and in structs: integers, strings, bools. -/
def cellEq (a b : Value) : Option Bool :=
  match a, b with
  | .int j x, .int k y => match sameK j k with
    | true => some (eqI x y)
    | false => none
  | .string x, .string y => some (bytesEq (sl x) (sl y))
  | .bool x, .bool y => some (x == y)
  | _, _ => none

def cellsEq : List Value → List Value → Option Bool
  | [], [] => some true
  | a :: x, b :: y => match cellEq a b with
    | some true => cellsEq x y
    | some false => some false
    | none => none
  | _, _ => none

def fitCell (k : Nat) (v : Value) : Bool :=
  match v with
  | .int _ _ => Nat.beq k 0
  | .string _ => Nat.beq k 1
  | .bool _ => Nat.beq k 2
  | _ => false

def fitAll : List Nat → List Value → Bool
  | [], [] => true
  | k :: ks, v :: l => match fitCell k v with
    | true => fitAll ks l
    | false => false
  | _, _ => false

/-- The kinds of types that an operation of two operands may have (structs apart). -/
inductive Kd where
  | i | s | b | p | f | m | l

/-- Operations of two operands on values that are no structs. -/
def binE (kd : Kd) (op : BinOp) (a b : Value) : Option Value :=
  match kd with
  | .i => match a, b with
    | .int j x, .int k y => match op with
      | .shl => shiftE .shl j x y
      | .shr => shiftE .shr j x y
      | op => match sameK j k with
        | true => intE op j x y
        | false => none
    | _, _ => none
  | .s => match a, b with
    | .string x, .string y => strE op (sl x) (sl y)
    | _, _ => none
  | .b => match a, b with
    | .bool x, .bool y => boolE op x y
    | _, _ => none
  | .p => match a, b with
    | .pointer none, .pointer none => negB op true
    | .pointer (some _), .pointer none => negB op false
    | .pointer none, .pointer (some _) => negB op false
    | _, _ => none
  | .f => match a, b with
    | .nilFunc, .nilFunc => negB op true
    | .func _ _ _, .nilFunc => negB op false
    | _, _ => none
  | .m => match a, b with
    | .map none, .map none => negB op true
    | .map (some _), .map none => negB op false
    | _, _ => none
  | .l => match a, b with
    | .slice none _ _, .slice none _ _ => negB op true
    | .slice (some _) _ _, .slice none _ _ => negB op false
    | _, _ => none

def unE (op : UnOp) (a : Value) : Option Value :=
  match op, a with
  | .not, .bool b => some (.bool (!b))
  | .neg, .int k n => some (.int k (wrapQ k (0 - n)))
  | _, _ => none

def cellsOf : Value → List Value
  | .agg cs => cs.toList
  | v => [v]

def oneCellB : Value → Bool
  | .agg _ | .tuple _ => false
  | _ => true

def allOne : List Value → Bool
  | [] => true
  | v :: l => match oneCellB v with
    | true => allOne l
    | false => false

def putAt : List Value → Nat → List Value → List Value
  | [], _, _ => []
  | v :: l, o, xs => match o with
    | 0 => match xs with
      | [] => v :: l
      | x :: xs => x :: putAt l 0 xs
    | o + 1 => v :: putAt l o xs

def repN : Nat → List Value → List Value
  | 0, _ => []
  | n + 1, z => z ++ repN n z

/-! ### operations -/

/-- What may be compared: a cell (0: an integer, 1: a string, 2: a bool), a struct of cells. -/
inductive Ky where
  | one (k : Nat)
  | str (ks : List Nat)

inductive CO where
  | t (p : Pa)
  | c (v : Value)

abbrev Env := T Value

def CO.ev (e : Env) : CO → Option Value
  | .t p => e.getP p
  | .c v => some v

def CO.evs (e : Env) : List CO → Option (List Value)
  | [] => some []
  | x :: l => match x.ev e with
    | none => none
    | some v => match CO.evs e l with
      | none => none
      | some vs => some (v :: vs)

/-- Pure operations. -/
inductive PO where
  | mv (x : CO)
  | pick (c a b : CO)
  | bld (z : List Value) (parts : List (Nat × Nat × CO))
  | nck (x : CO)
  | bin (kd : Kd) (op : BinOp) (x y : CO)
  | eqA (ks : List Nat) (neg : Bool) (x y : CO)
  | un (op : UnOp) (x : CO)
  | conv (k : IntKind) (x : CO)
  | cstr (x : CO)
  | mkf (fn : FuncId) (first captured : List CO)
  | slS (x : CO) (lo hi : Option CO)
  | slA (n es : Nat) (x : CO) (lo hi : Option CO)
  | fa (off : Nat) (x : CO)
  | fld (off n : Nat) (agg : Bool) (x : CO)
  | iaL (es : Nat) (x i : CO)
  | iaA (n es : Nat) (x i : CO)
  | ixA (n es : Nat) (agg : Bool) (x i : CO)
  | ixS (x i : CO)
  | ext (i : Nat) (x : CO)
  | lenP (str : Bool) (x : CO)
  | mm (mx : Bool) (x y : CO)

/-- Operations that read the heap. -/
inductive RO where
  | ld (n : Nat) (agg : Bool) (x : CO)
  | slL (es : Nat) (x : CO) (lo hi mx : Option CO)
  | look (z : Value) (ok : Bool) (kn : Ky) (m k : CO)
  | lenM (m : CO)
  | b2s (x : CO)
  | ent (it : CO)

/-- Operations that make memory, and read none. -/
inductive AO where
  | alc (z : List Value)
  | box (n : Nat) (x : CO)
  | bsl (es len : Nat) (z : List Value) (parts : List (Nat × Nat × CO))
  | mkm
  | mks (es bytes : Nat) (z : List Value) (l c : CO)
  | s2b (x : CO)
  | rgS (x : CO)

/-- Operations that write the heap. -/
inductive WO where
  | st (n : Nat) (a x : CO)
  | mup (kn : Ky) (m k v : CO)
  | men (z : Value) (kn : Ky) (m k : CO)
  | est (m s v : CO)
  | del (kn : Ky) (m k : CO)
  | cpy (es : Nat) (d s : CO)
  | app (es bytes : Nat) (s x : CO)
  | rgM (x : CO)
  | nxS (it : CO)
  | mrk (x : CO)
  | clr (es : Nat) (z : List Value) (x : CO)

inductive COp where
  | p (o : PO)
  | r (o : RO)
  | a (o : AO)
  | w (o : WO)
  | nxM (it : CO)
  | call (f : FuncId) (args : List CO)
  | callv (f : CO) (args : List CO)

def optCos : Option CO → List CO
  | none => []
  | some c => [c]

def partCos : List (Nat × Nat × CO) → List CO
  | [] => []
  | (_, _, c) :: l => c :: partCos l

/-- The operands. -/
def PO.cos : PO → List CO
  | .mv x => [x]
  | .pick c a b => [c, a, b]
  | .bld _ parts => partCos parts
  | .nck x => [x]
  | .bin _ _ x y => [x, y]
  | .eqA _ _ x y => [x, y]
  | .un _ x => [x]
  | .conv _ x => [x]
  | .cstr x => [x]
  | .mkf _ first captured => first ++ captured
  | .slS x lo hi => x :: (optCos lo ++ optCos hi)
  | .slA _ _ x lo hi => x :: (optCos lo ++ optCos hi)
  | .fa _ x => [x]
  | .fld _ _ _ x => [x]
  | .iaL _ x i => [x, i]
  | .iaA _ _ x i => [x, i]
  | .ixA _ _ _ x i => [x, i]
  | .ixS x i => [x, i]
  | .ext _ x => [x]
  | .lenP _ x => [x]
  | .mm _ x y => [x, y]

def RO.cos : RO → List CO
  | .ld _ _ x => [x]
  | .slL _ x lo hi mx => x :: (optCos lo ++ (optCos hi ++ optCos mx))
  | .look _ _ _ m k => [m, k]
  | .lenM m => [m]
  | .b2s x => [x]
  | .ent it => [it]

def AO.cos : AO → List CO
  | .alc _ => []
  | .box _ x => [x]
  | .bsl _ _ _ parts => partCos parts
  | .mkm => []
  | .mks _ _ _ l c => [l, c]
  | .s2b x => [x]
  | .rgS x => [x]

def WO.cos : WO → List CO
  | .st _ a x => [a, x]
  | .mup _ m k v => [m, k, v]
  | .men _ _ m k => [m, k]
  | .est m s v => [m, s, v]
  | .del _ m k => [m, k]
  | .cpy _ d s => [d, s]
  | .app _ _ s x => [s, x]
  | .rgM x => [x]
  | .nxS it => [it]
  | .mrk x => [x]
  | .clr _ _ x => [x]

def COp.cos : COp → List CO
  | .p o => o.cos
  | .r o => o.cos
  | .a o => o.cos
  | .w o => o.cos
  | .nxM it => [it]
  | .call _ args => args
  | .callv f args => f :: args

structure COper where
  dst : Option Pa
  g : Option (Pa × Bool)
  op : COp

inductive CCode where
  | skip
  | reg (ops : List COper)
  | dreg (ops : List COper) (pairs : List (List Nat))
  | seq (a b : CCode)
  | cond (c : CO) (a b : CCode)
  | block (id : Nat) (b : CCode)
  | loop (b : CCode)
  | exit (id : Nat)
  | scope (b : CCode)
  | ret
  | bad

inductive CRes where
  | t (p : Pa)
  | cell (p : Pa) (n : Nat) (agg : Bool)

structure CFunc where
  res : List CRes
  body : CCode

/-! ### what the operations do -/

def fillE : List Value → List (Nat × List Value) → Option (List Value)
  | z, [] => some z
  | z, (off, c) :: rest => match Nat.ble (off + lenN c 0) (lenN z 0) with
    | true => fillE (putAt z off c) rest
    | false => none

def partsE (e : Env) : List (Nat × Nat × CO) → Option (List (Nat × List Value))
  | [] => some []
  | (off, n, x) :: l => match x.ev e with
    | none => none
    | some v => match Nat.beq (lenN (cellsOf v) 0) n with
      | false => none
      | true => match partsE e l with
        | none => none
        | some r => some ((off, cellsOf v) :: r)

def natOf : Value → Option Nat
  | .int _ (.ofNat n) => some n
  | _ => none

def boundE (e : Env) (d : Nat) : Option CO → Option Nat
  | none => some d
  | some x => match x.ev e with
    | none => none
    | some v => natOf v

def capLeft (es cc lo : Nat) : Option Nat :=
  match Nat.beq (cc % 2) 1 with
  | true => some (cc - 2 * lo)
  | false => match Nat.beq (cc / 2) es with
    | true => some cc
    | false => none

def sliceE (es : Nat) (v : Value) (sure lo hi : Nat) (mx : Option Nat) : Option Value :=
  match v with
  | .slice none 0 0 => match Nat.beq lo 0, Nat.beq hi 0, mx with
    | true, true, none => some (.slice none 0 0)
    | _, _, _ => none
  | .slice (some ⟨b, o, none⟩) _ cc =>
    match Nat.ble lo hi, Nat.ble hi sure with
    | true, true => match mx with
      | none => match capLeft es cc lo with
        | some cc' => some (.slice (some ⟨b, o + lo * es, none⟩) (hi - lo) cc')
        | none => none
      | some m => match Nat.ble hi m, Nat.ble m sure with
        | true, true => some (.slice (some ⟨b, o + lo * es, none⟩) (hi - lo) (2 * (m - lo) + 1))
        | _, _ => none
    | _, _ => none
  | _ => none

def lenOfV : Value → Option Nat
  | .slice _ n _ => some n
  | .string s => some (len8 (sl s) 0)
  | _ => none

def PO.ev (e : Env) : PO → Option Value
  | .mv x => x.ev e
  | .pick c a b => match c.ev e with
    | some (.bool true) => a.ev e
    | some (.bool false) => b.ev e
    | _ => none
  | .bld z parts => match partsE e parts with
    | none => none
    | some l => match fillE z l with
      | none => none
      | some cs => some (.agg ⟨cs⟩)
  | .nck x => match x.ev e with
    | some (.pointer (some a)) => some (.pointer (some a))
    | some (.func (.func f) a b) => some (.func (.func f) a b)
    | _ => none
  | .bin kd op x y => match x.ev e, y.ev e with
    | some a, some b => binE kd op a b
    | _, _ => none
  | .eqA ks neg x y => match x.ev e, y.ev e with
    | some (.agg a), some (.agg b) => match fitAll ks a.toList, cellsEq a.toList b.toList with
      | true, some r => some (.bool (match neg with | true => !r | false => r))
      | _, _ => none
    | _, _ => none
  | .un op x => match x.ev e with
    | some a => unE op a
    | none => none
  | .conv k x => match x.ev e with
    | some (.int _ n) => some (.int k (wrapQ k n))
    | _ => none
  | .cstr x => match x.ev e with
    | some (.string s) => some (.string s)
    | _ => none
  | .mkf fn first captured => match CO.evs e first, CO.evs e captured with
    | some a, some b => some (.func (.func fn) ⟨a⟩ ⟨b⟩)
    | _, _ => none
  | .slS x lo hi => match x.ev e with
    | some (.string s) => match boundE e 0 lo, boundE e (len8 (sl s) 0) hi with
      | some l, some h => match Nat.ble l h, Nat.ble h (len8 (sl s) 0) with
        | true, true => some (strOf (((sl s).drop l).take (h - l)))
        | _, _ => none
      | _, _ => none
    | _ => none
  | .slA n es x lo hi => match x.ev e with
    | some (.pointer (some ⟨b, o, none⟩)) => match boundE e 0 lo, boundE e n hi with
      | some l, some h => match Nat.ble l h, Nat.ble h n with
        | true, true => some (.slice (some ⟨b, o + l * es, none⟩) (h - l) (2 * (n - l) + 1))
        | _, _ => none
      | _, _ => none
    | _ => none
  | .fa off x => match x.ev e with
    | some (.pointer (some ⟨b, o, none⟩)) => some (.pointer (some ⟨b, o + off, none⟩))
    | _ => none
  | .fld off n agg x => match x.ev e with
    | some (.agg cs) => match agg with
      | true => match Nat.ble (off + n) (lenN cs.toList 0) with
        | true => some (.agg ⟨(cs.toList.drop off).take n⟩)
        | false => none
      | false => nth cs.toList off
    | _ => none
  | .iaL es x i => match x.ev e, i.ev e with
    | some (.slice (some ⟨b, o, none⟩) len _), some (.int _ (.ofNat j)) => match Nat.ble (j + 1) len with
      | true => some (.pointer (some ⟨b, o + j * es, none⟩))
      | false => none
    | _, _ => none
  | .iaA n es x i => match x.ev e, i.ev e with
    | some (.pointer (some ⟨b, o, none⟩)), some (.int _ (.ofNat j)) => match Nat.ble (j + 1) n with
      | true => some (.pointer (some ⟨b, o + j * es, none⟩))
      | false => none
    | _, _ => none
  | .ixA n es agg x i => match x.ev e, i.ev e with
    | some (.agg cs), some (.int _ (.ofNat j)) => match Nat.ble (j + 1) n with
      | true => match agg with
        | true => match Nat.ble (j * es + es) (lenN cs.toList 0) with
          | true => some (.agg ⟨(cs.toList.drop (j * es)).take es⟩)
          | false => none
        | false => nth cs.toList (j * es)
      | false => none
    | _, _ => none
  | .ixS x i => match x.ev e, i.ev e with
    | some (.string s), some (.int _ (.ofNat j)) => match (sl s)[j]? with
      | some b => some (.int .u8 (.ofNat b.toNat))
      | none => none
    | _, _ => none
  | .ext i x => match x.ev e with
    | some (.tuple vs) => nth vs.toList i
    | _ => none
  | .lenP str x => match x.ev e with
    | some v => match str with
      | true => match v with
        | .string s => some (.int .i64 (.ofNat (len8 (sl s) 0)))
        | _ => none
      | false => match v with
        | .slice _ n _ => some (.int .i64 (.ofNat n))
        | _ => none
    | none => none
  | .mm mx x y => match x.ev e, y.ev e with
    | some (.int k a), some (.int _ b) => match mx with
      | true => some (.int k (match ltI a b with | true => b | false => a))
      | false => some (.int k (match ltI b a with | true => b | false => a))
    | _, _ => none

/-- Are two keys one? -/
def keyEq (a b : Value) : Option Bool :=
  match a with
  | .agg x => match b with
    | .agg y => cellsEq x.toList y.toList
    | _ => none
  | a => match b with
    | .agg _ => none
    | b => cellEq a b

/-- A key among a map's entries: which one. -/
def findE (k : Value) : List (Value × Value × Nat) → Nat → Option (Option (Nat × Value))
  | [], _ => some none
  | (k', v, _) :: es, i => match keyEq k k' with
    | some true => some (some (i, v))
    | some false => findE k es (i + 1)
    | none => none

/-- A key of the right make. -/
def keyOk (kn : Ky) (v : Value) : Bool :=
  match kn with
  | .one k => fitCell k v
  | .str ks => match v with
    | .agg x => fitAll ks x.toList
    | _ => false

def loadE (h : H) (n : Nat) (agg : Bool) (v : Value) : Option Value :=
  match v with
  | .pointer (some ⟨b, o, none⟩) => match h.get b with
    | some (.cells c _) => match agg with
      | true => match Nat.ble (o + n) (lenN c 0) with
        | true => some (.agg ⟨(c.drop o).take n⟩)
        | false => none
      | false => nth c o
    | _ => none
  | _ => none

/-- The cells that a slice's elements lie in; a string's bytes. -/
def elemsE (h : H) (es n : Nat) (v : Value) : Option (List Value) :=
  match v with
  | .slice none 0 0 => match n with
    | 0 => some []
    | _ => none
  | .slice (some ⟨b, o, none⟩) len _ => match Nat.ble n len with
    | false => none
    | true => match n with
      | 0 => some []
      | _ => match h.get b with
        | some (.cells c _) => match Nat.ble (o + n * es) (lenN c 0) with
          | true => some ((c.drop o).take (n * es))
          | false => none
        | _ => none
  | .string s => match Nat.beq es 1 with
    | true => match Nat.ble n (len8 (sl s) 0) with
      | true => some (((sl s).take n).map fun b => .int .u8 (.ofNat b.toNat))
      | false => none
    | false => none
  | _ => none

def bytesOf : List Value → Option (List UInt8)
  | [] => some []
  | .int .u8 (.ofNat n) :: l => match bytesOf l with
    | some r => some (UInt8.ofNat n :: r)
    | none => none
  | _ => none

/-- Up to where a slice may be sliced surely. -/
def sureE (h : H) (es hi : Nat) (v : Value) : Option Nat :=
  match v with
  | .slice (some ⟨b, o, none⟩) len cc => match Nat.beq (cc % 2) 1 with
    | true => some (cc / 2)
    | false => match Nat.ble hi len with
      | true => some len
      | false => match Nat.beq (cc / 2) es, h.get b with
        | true, some (.cells c _) => match Nat.ble (o + hi * es) (lenN c 0) with
          | true => some hi
          | false => none
        | _, _ => none
  | .slice none 0 0 => some 0
  | _ => none

/-- A key in a map. -/
def searchE (h : H) (mv kv : Value) : Option (Option (Nat × Value)) :=
  match mv with
  | .map none => some none
  | .map (some r) => match h.get r with
    | some (.map es _) => findE kv es 0
    | _ => none
  | _ => none

def lookRes (ok : Bool) (z : Value) (q : Option (Nat × Value)) : Value :=
  match q with
  | none => match ok with
    | true => .tuple ⟨[z, .bool false]⟩
    | false => z
  | some (_, v) => match ok with
    | true => .tuple ⟨[v, .bool true]⟩
    | false => v

def RO.ev (e : Env) (h : H) : RO → Option Value
  | .ld n agg x => match x.ev e with
    | some v => loadE h n agg v
    | none => none
  | .slL es x lo hi mx => match x.ev e with
    | some v => match lenOfV v with
      | none => none
      | some n => match boundE e 0 lo, boundE e n hi with
        | some l, some r => match mx with
          | none => match sureE h es r v with
            | some s => sliceE es v s l r none
            | none => none
          | some m => match boundE e 0 (some m) with
            | some m => match sureE h es m v with
              | some s => sliceE es v s l r (some m)
              | none => none
            | none => none
        | _, _ => none
    | none => none
  | .look z ok kn m k => match m.ev e, k.ev e with
    | some mv, some kv => match keyOk kn kv with
      | false => none
      | true => match searchE h mv kv with
        | none => none
        | some q => some (lookRes ok z q)
    | _, _ => none
  | .lenM m => match m.ev e with
    | some (.map none) => some (.int .i64 0)
    | some (.map (some r)) => match h.get r with
      | some (.map es _) => some (.int .i64 (.ofNat es.length))
      | _ => none
    | _ => none
  | .b2s x => match x.ev e with
    | some (.slice a n c) => match elemsE h 1 n (.slice a n c) with
      | some l => match bytesOf l with
        | some b => some (strOf b)
        | none => none
      | none => none
    | _ => none
  | .ent it => match it.ev e with
    | some (.pointer (some ⟨r, 0, none⟩)) => match h.get r with
      | some (.miter (some m) _ seen stepped) => match seen.getLast?, h.get m with
        | some stamp, some (.map es clock) => match Nat.beq clock stepped with
          | true => match es.find? (fun e => Nat.beq e.2.2 stamp) with
            | some (k, v, _) => some (.tuple ⟨[k, v]⟩)
            | none => none
          | false => none
        | _, _ => none
      | _ => none
    | _ => none

/-- What is made, and the value that stands for it. -/
def AO.ev (e : Env) (id : Nat) : AO → Option (AObj × Value)
  | .alc z => some (.cells z true, .pointer (some ⟨id, 0, none⟩))
  | .box n x => match x.ev e with
    | some v => match Nat.beq (lenN (cellsOf v) 0) n with
      | true => some (.cells (cellsOf v) true, .pointer (some ⟨id, 0, none⟩))
      | false => none
    | none => none
  | .bsl es len z parts => match partsE e parts with
    | none => none
    | some l => match fillE (repN len z) l with
      | none => none
      | some cs => match Nat.beq (lenN cs 0) (len * es) with
        | true => some (.cells cs true, .slice (some ⟨id, 0, none⟩) len (2 * len + 1))
        | false => none
  | .mkm => some (.map [] 0, .map (some id))
  | .mks es bytes z l c => match l.ev e, c.ev e with
    | some (.int .i64 (.ofNat l)), some (.int .i64 (.ofNat c)) => match Nat.ble l c, Nat.ble c 1000000, Nat.ble bytes 100000 with
      | true, true, true => match Nat.beq (lenN z 0) es with
        | true => some (.cells (repN c z) true, .slice (some ⟨id, 0, none⟩) l (2 * c + 1))
        | false => none
      | _, _, _ => none
    | _, _ => none
  | .s2b x => match x.ev e with
    | some (.string s) => some (.cells ((sl s).map fun b => .int .u8 (.ofNat b.toNat)) true, .slice (some ⟨id, 0, none⟩) (len8 (sl s) 0) 2)
    | _ => none
  | .rgS x => match x.ev e with
    | some (.string s) => some (.siter s 0, .pointer (some ⟨id, 0, none⟩))
    | _ => none

def undefV : Value := .tuple ⟨[]⟩

/-- Cells are written into a block of the machine's own. -/
def storeE (h : H) (b o : Nat) (xs : List Value) : Option H :=
  match h.get b with
  | some (.cells c true) => match Nat.ble (o + lenN xs 0) (lenN c 0), allOne xs with
    | true, true => h.put b (some (.cells (putAt c o xs) true))
    | _, _ => none
  | _ => none

def appE (h : H) (es bytes : Nat) (s x : Value) : Option (Value × H) :=
  match lenOfV x with
  | none => none
  | some n => match elemsE h es n x with
    | none => none
    | some xs => match Nat.ble bytes 100000, Nat.ble 1 es, allOne xs with
      | true, true, true => match s with
        | .slice none 0 0 => match n with
          | 0 => some (.slice none 0 0, h)
          | _ => match Nat.ble n 1000000 with
            | false => none
            | true => match h.new (.cells xs true) with
              | none => none
              | some (h', id) => some (.slice (some ⟨id, 0, none⟩) n (2 * es), h')
        | .slice (some ⟨b, o, none⟩) len cc => match n with
          | 0 => some (.slice (some ⟨b, o, none⟩) len cc, h)
          | _ => match Nat.ble (len + n) 1000000 with
            | false => none
            | true => match Nat.beq (cc % 2) 1 with
              | true => match Nat.ble (len + n) (cc / 2) with
                | true => match storeE h b (o + len * es) xs with
                  | some h' => some (.slice (some ⟨b, o, none⟩) (len + n) cc, h')
                  | none => none
                | false => match elemsE h es len (.slice (some ⟨b, o, none⟩) len cc) with
                  | none => none
                  | some old => match h.new (.cells (old ++ xs) true) with
                    | none => none
                    | some (h', id) => some (.slice (some ⟨id, 0, none⟩) (len + n) (2 * es), h')
              | false => match Nat.beq (cc / 2) es, h.get b with
                | true, some (.cells c true) => match Nat.beq (lenN c 0) (o + len * es) with
                  | false => match Nat.ble (o + (len + n) * es) (lenN c 0) with
                    | true => match storeE h b (o + len * es) xs with
                      | some h' => some (.slice (some ⟨b, o, none⟩) (len + n) cc, h')
                      | none => none
                    | false => none
                  | true => match h.put b none with
                    | none => none
                    | some h1 => match h1.new (.cells (c.drop o ++ xs) true) with
                      | none => none
                      | some (h', id) => some (.slice (some ⟨id, 0, none⟩) (len + n) (2 * es), h')
                | _, _ => none
        | _ => none
      | _, _, _ => none

def setVal : List (Value × Value × Nat) → Nat → Value → List (Value × Value × Nat)
  | [], _, _ => []
  | (k, v, b) :: l, i, x => match i with
    | 0 => (k, x, b) :: l
    | i + 1 => (k, v, b) :: setVal l i x

def delAt : List (Value × Value × Nat) → Nat → List (Value × Value × Nat)
  | [], _ => []
  | e :: l, i => match i with
    | 0 => l
    | i + 1 => e :: delAt l i

def bornAt : List (Value × Value × Nat) → Nat → Option (Nat × Value)
  | [], _ => none
  | (_, v, b) :: l, i => match i with
    | 0 => some (b, v)
    | i + 1 => bornAt l i

def setBorn : List (Value × Value × Nat) → Int → Value → Option (List (Value × Value × Nat))
  | [], _, _ => none
  | (k, v, b) :: l, s, x => match eqI (.ofNat b) s with
    | true => some ((k, x, b) :: l)
    | false => match setBorn l s x with
      | some r => some ((k, v, b) :: r)
      | none => none

def WO.ev (e : Env) (h : H) : WO → Option (Value × H)
  | .st n a x => match a.ev e, x.ev e with
    | some (.pointer (some ⟨b, o, none⟩)), some v => match Nat.beq (lenN (cellsOf v) 0) n with
      | true => match storeE h b o (cellsOf v) with
        | some h' => some (undefV, h')
        | none => none
      | false => none
    | _, _ => none
  | .mup kn m k v => match m.ev e, k.ev e, v.ev e with
    | some (.map (some r)), some kv, some v => match keyOk kn kv, h.get r with
      | true, some (.map es clock) => match findE kv es 0 with
        | none => none
        | some (some (i, _)) => match h.put r (some (.map (setVal es i v) clock)) with
          | some h' => some (undefV, h')
          | none => none
        | some none => match h.put r (some (.map (es ++ [(kv, v, clock)]) (clock + 1))) with
          | some h' => some (undefV, h')
          | none => none
      | _, _ => none
    | _, _, _ => none
  | .men z kn m k => match m.ev e, k.ev e with
    | some (.map (some r)), some kv => match keyOk kn kv, h.get r with
      | true, some (.map es clock) => match findE kv es 0 with
        | none => none
        | some (some (i, v)) => match bornAt es i with
          | some (b, _) => match h.put r (some (.map es clock)) with
            | some h' => some (.tuple ⟨[v, .int .i64 (.ofNat b)]⟩, h')
            | none => none
          | none => none
        | some none => match h.put r (some (.map (es ++ [(kv, z, clock)]) (clock + 1))) with
          | some h' => some (.tuple ⟨[z, .int .i64 (.ofNat clock)]⟩, h')
          | none => none
      | _, _ => none
    | _, _ => none
  | .est m s v => match m.ev e, s.ev e, v.ev e with
    | some (.map (some r)), some (.int _ s), some v => match h.get r with
      | some (.map es clock) => match setBorn es s v with
        | some es' => match h.put r (some (.map es' clock)) with
          | some h' => some (undefV, h')
          | none => none
        | none => none
      | _ => none
    | _, _, _ => none
  | .del kn m k => match m.ev e, k.ev e with
    | some (.map none), some kv => match keyOk kn kv with
      | true => some (undefV, h)
      | false => none
    | some (.map (some r)), some kv => match keyOk kn kv, h.get r with
      | true, some (.map es clock) => match findE kv es 0 with
        | none => none
        | some (some (i, _)) => match h.put r (some (.map (delAt es i) clock)) with
          | some h' => some (undefV, h')
          | none => none
        | some none => some (undefV, h)
      | _, _ => none
    | _, _ => none
  | .cpy es d s => match d.ev e, s.ev e with
    | some dv, some sv => match dv, lenOfV sv with
      | .slice none 0 0, some _ => some (.int .i64 0, h)
      | .slice (some ⟨b, o, none⟩) len _, some n => match elemsE h es (min n len) sv with
        | none => none
        | some xs => match xs with
          | [] => some (.int .i64 (.ofNat (min n len)), h)
          | _ => match storeE h b o xs with
            | some h' => some (.int .i64 (.ofNat (min n len)), h')
            | none => none
      | _, _ => none
    | _, _ => none
  | .app es bytes s x => match s.ev e, x.ev e with
    | some s, some x => appE h es bytes s x
    | _, _ => none
  | .rgM x => match x.ev e with
    | some (.map none) => match h.new (.miter none 0 [] 0) with
      | some (h', id) => some (.pointer (some ⟨id, 0, none⟩), h')
      | none => none
    | some (.map (some r)) => match h.get r with
      | some (.map _ clock) => match h.new (.miter (some r) clock [] clock) with
        | some (h', id) => some (.pointer (some ⟨id, 0, none⟩), h')
        | none => none
      | _ => none
    | _ => none
  | .nxS it => match it.ev e with
    | some (.pointer (some ⟨r, 0, none⟩)) => match h.get r with
      | some (.siter s pos) => match Nat.ble (pos + 1) (len8 (sl s) 0) with
        | true => match (sl s)[pos]? with
          | some b => match Nat.ble (b.toNat + 1) 128 with
            | true => match h.put r (some (.siter s (pos + 1))) with
              | some h' => some (.tuple ⟨[.bool true, .int .i64 (.ofNat pos), .int .i32 (.ofNat b.toNat)]⟩, h')
              | none => none
            | false => none
          | none => none
        | false => some (.tuple ⟨[.bool false]⟩, h)
      | _ => none
    | _ => none

  | .mrk x => match x.ev e with
    | some (.slice (some ⟨b, o, none⟩) len cc) => match Nat.ble 1 len, h.get b with
      | true, some (.cells _ true) => some (.slice (some ⟨b, o, none⟩) len cc, h)
      | _, _ => none
    | _ => none
  | .clr es z x => match x.ev e with
    | some (.slice none 0 0) => some (undefV, h)
    | some (.slice (some ⟨b, o, none⟩) len _) => match len with
      | 0 => some (undefV, h)
      | _ => match Nat.beq (lenN z 0) es with
        | true => match storeE h b o (repN len z) with
          | some h' => some (undefV, h')
          | none => none
        | false => none
    | _ => none

/-! ### runs -/

inductive Out (α : Type) where
  | ret (a : α)
  | fail
  | pick (n : Nat) (k : Nat → Out α)

def Out.bind {α β : Type} : Out α → (α → Out β) → Out β
  | .ret a, f => f a
  | .fail, _ => .fail
  | .pick n k, f => .pick n fun i => (k i).bind f

def Out.of {α : Type} : Option α → Out α
  | some a => .ret a
  | none => .fail

/-- All ways come to an end, and each end is as is asked. -/
def Out.Sat {α : Type} : Out α → (α → Prop) → Prop
  | .ret a, Q => Q a
  | .fail, _ => False
  | .pick n k, Q => ∀ i, i < n → (k i).Sat Q

theorem Out.Sat.mono {α : Type} {Q R : α → Prop} (hr : ∀ a, Q a → R a) : ∀ {o : Out α}, o.Sat Q → o.Sat R
  | .ret a, h => hr a h
  | .fail, h => h
  | .pick _ _, h => fun i hi => Out.Sat.mono hr (h i hi)

theorem Out.sat_bind {α β : Type} {f : α → Out β} {Q : β → Prop} : ∀ {o : Out α}, (o.bind f).Sat Q → o.Sat (fun a => (f a).Sat Q)
  | .ret _, h => h
  | .fail, h => h
  | .pick _ _, h => fun i hi => Out.sat_bind (h i hi)

inductive Ex where
  | normal
  | exit (id : Nat)
  | ret

structure St where
  e : Env
  h : H

abbrev CallF := FuncId → List Value → H → Out (Value × H)

/-- Which entries may come next. -/
def leftE (seen : List Nat) : List (Value × Value × Nat) → List (Value × Value × Nat)
  | [] => []
  | (k, v, b) :: l => match seen.any (fun s => Nat.beq s b) with
    | true => leftE seen l
    | false => (k, v, b) :: leftE seen l

/-- All were there when the walk began. -/
def bornsOk (since : Nat) : List (Value × Value × Nat) → Bool
  | [] => true
  | (_, _, b) :: l => match Nat.ble (b + 1) since with
    | true => bornsOk since l
    | false => false

def nextM (h : H) (v : Value) : Out (Value × H) :=
  match v with
  | .pointer (some ⟨r, 0, none⟩) => match h.get r with
    | some (.miter none _ _ _) => .ret (.tuple ⟨[.bool false]⟩, h)
    | some (.miter (some m) since seen stepped) => match h.get m with
      | some (.map es clock) => match Nat.beq clock since && (Nat.beq stepped since && bornsOk since es) with
        | false => .fail
        | true => match leftE seen es with
          | [] => .ret (.tuple ⟨[.bool false]⟩, h)
          | [(k, v, b)] => Out.of (match h.put r (some (.miter (some m) since (seen ++ [b]) clock)) with
            | some h' => some (.tuple ⟨[.bool true, k, v]⟩, h')
            | none => none)
          | l => .pick l.length fun i => match l[i]? with
            | some (k, v, b) => Out.of (match h.put r (some (.miter (some m) since (seen ++ [b]) clock)) with
              | some h' => some (.tuple ⟨[.bool true, k, v]⟩, h')
              | none => none)
            | none => .fail
      | _ => .fail
    | _ => .fail
  | _ => .fail

def runCOp (call : CallF) (e : Env) (h : H) : COp → Out (Value × H)
  | .p o => match o.ev e with
    | some v => .ret (v, h)
    | none => .fail
  | .r o => match o.ev e h with
    | some v => .ret (v, h)
    | none => .fail
  | .a o => match o.ev e h.next with
    | some (ob, v) => match h.new ob with
      | some (h', _) => .ret (v, h')
      | none => .fail
    | none => .fail
  | .w o => match o.ev e h with
    | some r => .ret r
    | none => .fail
  | .nxM it => match it.ev e with
    | some v => nextM h v
    | none => .fail
  | .call f args => match CO.evs e args with
    | some vs => call f vs h
    | none => .fail
  | .callv f args => match f.ev e, CO.evs e args with
    | some (.func (.func f) first captured), some vs => call f (first.toList ++ vs ++ captured.toList) h
    | _, _ => .fail

def putDst (e : Env) (d : Option Pa) (v : Value) : Env :=
  match d with
  | some p => e.setP p v
  | none => e

def wantedE (e : Env) : Option (Pa × Bool) → Option Bool
  | none => some true
  | some (p, b) => match e.getP p with
    | some (.bool x) => some (x == b)
    | some (.tuple _) => some false
    | _ => none

def runCOper (call : CallF) (o : COper) (s : St) : Out St :=
  match wantedE s.e o.g with
  | some true => (runCOp call s.e s.h o.op).bind fun r => .ret ⟨putDst s.e o.dst r.1, r.2⟩
  | some false => .ret ⟨putDst s.e o.dst undefV, s.h⟩
  | none => .fail

def runCOpers (call : CallF) : List COper → St → Out St
  | [], s => .ret s
  | o :: l, s => (runCOper call o s).bind fun s => runCOpers call l s

/-! regions whose order is drawn -/

def valEq : Value → Value → Bool
  | .bool a, .bool b => a == b
  | .int j x, .int k y => sameK j k && eqI x y
  | .string a, .string b => bytesEq (sl a) (sl b)
  | .pointer none, .pointer none => true
  | .pointer (some ⟨b, o, none⟩), .pointer (some ⟨c, p, none⟩) => Nat.beq b c && Nat.beq o p
  | .slice none 0 0, .slice none 0 0 => true
  | .slice (some ⟨b, o, none⟩) l c, .slice (some ⟨b', o', none⟩) l' c' => Nat.beq b b' && (Nat.beq o o' && (Nat.beq l l' && Nat.beq c c'))
  | .map none, .map none => true
  | .map (some a), .map (some b) => Nat.beq a b
  | .nilFunc, .nilFunc => true
  | _, _ => false

def valsEq : List Value → List Value → Bool
  | [], [] => true
  | a :: x, b :: y => valEq a b && valsEq x y
  | _, _ => false

/-- Surely the same value. -/
def vEq (a b : Value) : Bool :=
  match a, b with
  | .agg x, .agg y => valsEq x.toList y.toList
  | .tuple x, .tuple y => valsEq x.toList y.toList
  | a, b => valEq a b

structure Snap where
  ran : Bool
  wrote : Bool
  e : Env
  v : Value
  h0 : H
  h1 : H
  op : COp

/-- The value names only objects that are older. -/
def below1 (n : Nat) (v : Value) : Bool :=
  match v with
  | .pointer (some ⟨b, _, none⟩) => Nat.ble (b + 1) n
  | .slice (some ⟨b, _, none⟩) _ _ => Nat.ble (b + 1) n
  | .map (some b) => Nat.ble (b + 1) n
  | v => plain v

def belows (n : Nat) : List Value → Bool
  | [] => true
  | v :: l => match below1 n v with
    | true => belows n l
    | false => false

def below (n : Nat) (v : Value) : Bool :=
  match v with
  | .agg c => belows n c.toList
  | .tuple c => belows n c.toList
  | v => below1 n v

/-- What is read is the same behind the other. -/
def readsEq (k r : Snap) : Bool :=
  match r.op with
  | .r o => match o.ev r.e k.h1 with
    | some a => vEq a r.v
    | none => false
  | _ => false

/-- A new object is not touched by a later one of the region. -/
def aloof (n k : Snap) : Bool :=
  match k.wrote with
  | false => true
  | true => match k.op with
    | .w (.st _ a _) => match a.ev k.e with
      | some (.pointer (some ⟨b, _, none⟩)) => !(Nat.beq b n.h0.next)
      | _ => false
    | _ => false

/-- It may change the heap other than by one new object. -/
def COp.changes : COp → Bool
  | .p _ => false
  | .r _ => false
  | .a _ => false
  | _ => true

/-- Two operations of which neither must stand ahead of the other; the first one is run first here, the second one may change the heap. -/
def pairOk (a b : Snap) : Bool :=
  match a.ran && b.ran with
  | false => true
  | true => match a.op with
    | .p _ => true
    | .r _ => readsEq b a && below a.h0.next a.v
    | .a _ => aloof a b
    | _ => false

def pairsOk (pre : List Snap) (b : Snap) : List Nat → Bool
  | [] => true
  | i :: l => match pre[i]? with
    | some a => match pairOk a b with
      | true => pairsOk pre b l
      | false => false
    | none => false

def runSnap (call : CallF) (o : COper) (s : St) : Out (St × Snap) :=
  match wantedE s.e o.g with
  | some true => (runCOp call s.e { s.h with low := s.h.next } o.op).bind fun r =>
      .ret (⟨putDst s.e o.dst r.1, { r.2 with low := min s.h.low r.2.low }⟩,
        { ran := true, wrote := !(Nat.ble s.h.next r.2.low), e := s.e, v := r.1, h0 := s.h, h1 := { r.2 with low := min s.h.low r.2.low }, op := o.op })
  | some false => .ret (⟨putDst s.e o.dst undefV, s.h⟩, { ran := false, wrote := false, e := s.e, v := undefV, h0 := s.h, h1 := s.h, op := o.op })
  | none => .fail

def runDreg (call : CallF) : List COper → List (List Nat) → List Snap → St → Out St
  | [], _, _, s => .ret s
  | o :: l, ps, pre, s => (runSnap call o s).bind fun r => match ps with
    | [] => .fail
    | p :: ps => match pairsOk pre r.2 p with
      | true => runDreg call l ps (pre ++ [r.2]) r.1
      | false => .fail

def iterE (f : St → Out (Ex × St)) : Nat → St → Out (Ex × St)
  | 0, _ => .fail
  | n + 1, s => (f s).bind fun r => match r.1 with
    | .normal => iterE f n r.2
    | e => .ret (e, r.2)

def exec (call : CallF) (lf : Nat) : CCode → St → Out (Ex × St)
  | .skip, s => .ret (.normal, s)
  | .reg ops, s => (runCOpers call ops s).bind fun s => .ret (.normal, s)
  | .dreg ops pairs, s => (runDreg call ops pairs [] s).bind fun s => .ret (.normal, s)
  | .seq a b, s => (exec call lf a s).bind fun r => match r.1 with
    | .normal => exec call lf b r.2
    | e => .ret (e, r.2)
  | .cond c a b, s => match c.ev s.e with
    | some (.bool true) => exec call lf a s
    | some (.bool false) => exec call lf b s
    | _ => .fail
  | .block id b, s => (exec call lf b s).bind fun r => match r.1 with
    | .exit i => match Nat.beq i id with
      | true => .ret (.normal, r.2)
      | false => .ret (.exit i, r.2)
    | e => .ret (e, r.2)
  | .loop b, s => iterE (exec call lf b) lf s
  | .exit id, s => .ret (.exit id, s)
  | .scope b, s => exec call lf b s
  | .ret, s => .ret (.ret, s)
  | .bad, _ => .fail

def CRes.ev (e : Env) (h : H) : CRes → Option Value
  | .t p => e.getP p
  | .cell p n agg => match e.getP p with
    | some v => loadE h n agg v
    | none => none

def resAll (e : Env) (h : H) : List CRes → Option (List Value)
  | [] => some []
  | x :: l => match x.ev e h with
    | none => none
    | some v => match resAll e h l with
      | none => none
      | some vs => some (v :: vs)

def oneOf : List Value → Value
  | [v] => v
  | l => .tuple ⟨l⟩

/-- The frame's first slots are the arguments. -/
def envOf : List Value → Nat → Env → Env
  | [], _, e => e
  | v :: l, i, e => match Nat.ble i 4000 with
    | true => envOf l (i + 1) (e.setP (Pa.mk 12 i) v)
    | false => e

def callE (prog : T CFunc) (sums : FuncId → Option (List Value → H → Option (Value × H))) (lf : Nat) : Nat → CallF
  | 0, _, _, _ => .fail
  | n + 1, f, args, h => match sums f with
    | some g => Out.of (g args h)
    | none => match prog.get f with
      | none => .fail
      | some cf => (exec (callE prog sums lf n) lf cf.body ⟨envOf args 0 .leaf, h⟩).bind fun r => match r.1 with
        | .exit _ => .fail
        | _ => match resAll r.2.e r.2.h cf.res with
          | some vs => .ret (oneOf vs, r.2.h)
          | none => .fail

/-- Each way's end passes a test. -/
def Out.all {α : Type} (p : α → Bool) : Out α → Bool
  | .ret a => p a
  | .fail => false
  | .pick n k => (List.range n).all fun i => (k i).all p

theorem Out.sat_of_all {α : Type} {p : α → Bool} : ∀ {o : Out α}, o.all p = true → o.Sat (fun a => p a = true)
  | .ret _, h => h
  | .fail, h => by simp [Out.all] at h
  | .pick n k, h => fun i hi => Out.sat_of_all (by simp [Out.all] at h; exact h i hi)

end Am
end Go.Proofs.YtbfbaofhnnnohaaGreatDoor

/- The abstract machine, part 2: the elaborated code is compiled. -/
namespace Go.Proofs.YtbfbaofhnnnohaaGreatDoor
namespace Am

/-- What the compilation knows of a type. -/
structure TI where
  size : Nat
  bytes : Nat
  zero : Value
  agg : Bool
  stood : Bool
  guard : Bool
  d : TypeDesc

def isAggD : TypeDesc → Bool
  | .struct _ | .array _ _ => true
  | _ => false

def tiOf (p : Program) (t : TypeId) : Option TI :=
  match p.info? t, p.underlying t with
  | some i, some d => match i.zero with
    | some z => some { size := i.size, bytes := i.bytes, zero := z, agg := isAggD d, stood := p.stoodInHeld t, guard := p.eqGuardType p.depth t, d := d }
    | none => none
  | _, _ => none

abbrev Ty := TypeId → Option TI

def plains : List Value → Bool
  | [] => true
  | v :: l => match plain v with
    | true => plains l
    | false => false

/-- A value of which each cell stands for itself. -/
def plainD (v : Value) : Bool :=
  match v with
  | .agg cs => plains cs.toList
  | v => plain v

def paOf (n : Nat) (t : Nat) : Option Pa :=
  match Nat.beq (Pa.mk 12 t).of t, Nat.ble (t + 1) n with
  | true, true => some (Pa.mk 12 t)
  | _, _ => none

def coOf (n : Nat) : Operand → Option CO
  | .tmp t => match paOf n t with
    | some p => some (.t p)
    | none => none
  | .const v => match plainD v with
    | true => some (.c v)
    | false => none
  | .func f => some (.c (.func (.func f) ⟨[]⟩ ⟨[]⟩))
  | .global _ => none

def cosOf (n : Nat) : List Operand → Option (List CO)
  | [] => some []
  | x :: l => match coOf n x, cosOf n l with
    | some c, some cs => some (c :: cs)
    | _, _ => none

def coOpt (n : Nat) : Option Operand → Option (Option CO)
  | none => some none
  | some x => match coOf n x with
    | some c => some (some c)
    | none => none

/-- Types whose values are compared by their bits. -/
def flatScalar : TypeDesc → Option Nat
  | .int _ => some 0
  | .string => some 1
  | .bool => some 2
  | _ => none

def flatFields (ty : Ty) : List Field → Nat → Option (List Nat)
  | [], _ => some []
  | f :: l, off => match ty f.type with
    | some i => match flatScalar i.d, Nat.beq f.offset off && !(f.name == "_"), flatFields ty l (off + 1) with
      | some k, true, some ks => some (k :: ks)
      | _, _, _ => none
    | none => none

/-- A struct of integers, strings, bools, one cell each; how many. -/
def flatStruct (ty : Ty) (i : TI) : Option (List Nat) :=
  match i.d with
  | .struct fs => match i.stood || i.guard with
    | true => none
    | false => flatFields ty fs.toList 0
  | _ => none

def kdOf : TypeDesc → Option Kd
  | .int _ => some .i
  | .string => some .s
  | .bool => some .b
  | .pointer _ => some .p
  | .func _ _ _ => some .f
  | .map _ _ => some .m
  | .slice _ => some .l
  | _ => none

/-- A key's type. -/
def keyType (ty : Ty) (t : TypeId) : Option Ky :=
  match ty t with
  | some i => match flatScalar i.d with
    | some k => some (.one k)
    | none => match flatStruct ty i with
      | some ks => some (.str ks)
      | none => none
  | none => none

def partsOf (n : Nat) (place : Nat → Option (Nat × Nat)) : List (Nat × Operand) → Option (List (Nat × Nat × CO))
  | [] => some []
  | (i, x) :: l => match place i, coOf n x, partsOf n place l with
    | some (o, s), some c, some r => some ((o, s, c) :: r)
    | _, _, _ => none

def placesOf (ty : Ty) : List Field → Option (List (Nat × Nat))
  | [] => some []
  | f :: l => match ty f.type, placesOf ty l with
    | some i, some r => some ((f.offset, i.size) :: r)
    | _, _ => none

def compCall (ty : Ty) (n : Nat) (c : Call) : Option COp :=
  match c.callee with
  | .value (.func f) => match cosOf n c.args.toList with
    | some as => some (.call f as)
    | none => none
  | .value x => match coOf n x, cosOf n c.args.toList with
    | some f, some as => some (.callv f as)
    | _, _ => none
  | .invoke _ _ => none
  | .builtin b => match cosOf n c.args.toList, c.argTypes.toList with
    | some [x], [t] => match b, ty t with
      | .len, some i => match i.d with
        | .string => some (.p (.lenP true x))
        | .slice _ => some (.p (.lenP false x))
        | .array k _ => some (.p (.mv (.c (.int .i64 (.ofNat k)))))
        | .map _ _ => some (.r (.lenM x))
        | _ => none
      | .clear, some i => match i.d with
        | .slice e => match ty e with
          | some k => match plainD k.zero, Nat.ble 1 k.size with
            | true, true => some (.w (.clr k.size (cellsOf k.zero) x))
            | _, _ => none
          | none => none
        | _ => none
      | _, _ => none
    | some [x, y], [t, u] => match b, ty t, ty u with
      | .append, some i, some j => match i.d, j.d with
        | .slice e, .slice _ => match ty e with
          | some k => match Nat.beq (lenN (cellsOf k.zero) 0) k.size with
            | true => some (.w (.app k.size k.bytes x y))
            | false => none
          | none => none
        | .slice e, .string => match ty e with
          | some k => match Nat.beq (lenN (cellsOf k.zero) 0) k.size with
            | true => some (.w (.app k.size k.bytes x y))
            | false => none
          | none => none
        | _, _ => none
      | .copy, some i, some _ => match i.d with
        | .slice e => match ty e with
          | some k => some (.w (.cpy k.size x y))
          | none => none
        | _ => none
      | .delete, some i, some _ => match i.d with
        | .map k _ => match keyType ty k with
          | some kn => some (.w (.del kn x y))
          | none => none
        | _ => none
      | .max, some _, some _ => some (.p (.mm true x y))
      | .min, some _, some _ => some (.p (.mm false x y))
      | _, _, _ => none
    | _, _ => none

def compOp (ty : Ty) (n : Nat) : Op → Option COp
  | .move x => match coOf n x with | some c => some (.p (.mv c)) | none => none
  | .assign x => match coOf n x with | some c => some (.p (.mv c)) | none => none
  | .pick c a b => match coOf n c, coOf n a, coOf n b with
    | some c, some a, some b => some (.p (.pick c a b))
    | _, _, _ => none
  | .alloc t => match ty t with
    | some i => match plainD i.zero with
      | true => some (.a (.alc (cellsOf i.zero)))
      | false => none
    | none => none
  | .box t x => match ty t, coOf n x with
    | some i, some c => some (.a (.box i.size c))
    | _, _ => none
  | .build t parts => match ty t with
    | some i => match plainD i.zero, i.d with
      | true, .struct fs => match placesOf ty fs.toList with
        | some ps => match partsOf n (fun j => ps[j]?) parts.toList with
          | some l => some (.p (.bld (cellsOf i.zero) l))
          | none => none
        | none => none
      | true, .array _ e => match ty e with
        | some k => match partsOf n (fun j => some (j * k.size, k.size)) parts.toList with
          | some l => some (.p (.bld (cellsOf i.zero) l))
          | none => none
        | none => none
      | _, _ => none
    | none => none
  | .buildSlice t len parts => match ty t with
    | some i => match i.d with
      | .slice e => match ty e with
        | some k => match plainD k.zero, Nat.beq (lenN (cellsOf k.zero) 0) k.size, Nat.ble 1 k.size, Nat.ble (len * k.size) 100000,
            partsOf n (fun j => some (j * k.size, k.size)) parts.toList with
          | true, true, true, true, some l => some (.a (.bsl k.size len (cellsOf k.zero) l))
          | _, _, _, _, _ => none
        | none => none
      | _ => none
    | none => none
  | .load t a => match ty t, coOf n a with
    | some i, some c => some (.r (.ld i.size i.agg c))
    | _, _ => none
  | .store t a x => match ty t, coOf n a, coOf n x with
    | some i, some a, some x => some (.w (.st i.size a x))
    | _, _, _ => none
  | .nilCheck x => match coOf n x with | some c => some (.p (.nck c)) | none => none
  | .binOp op t x y _ => match ty t, coOf n x, coOf n y with
    | some i, some x, some y => match kdOf i.d with
      | some kd => some (.p (.bin kd op x y))
      | none => match flatStruct ty i, op with
        | some n, .eql => some (.p (.eqA n false x y))
        | some n, .neq => some (.p (.eqA n true x y))
        | _, _ => none
    | _, _, _ => none
  | .unOp op _ x => match coOf n x with | some c => some (.p (.un op c)) | none => none
  | .convert s d x => match ty s, ty d, coOf n x with
    | some i, some j, some c => match i.d, j.d with
      | .int _, .int k => some (.p (.conv k c))
      | .string, .string => some (.p (.cstr c))
      | .slice e, .string => match ty e with
        | some k => match k.d with
          | .int .u8 => some (.r (.b2s c))
          | _ => none
        | none => none
      | .string, .slice e => match ty e with
        | some k => match k.d with
          | .int .u8 => some (.a (.s2b c))
          | _ => none
        | none => none
      | .slice _, .slice e => match ty e with
        | some k => match k.d, Nat.beq s d with
          | .int .u8, true => some (.w (.mrk c))
          | _, _ => none
        | none => none
      | _, _ => none
    | _, _, _ => none
  | .makeFunc (.func f) first captured => match cosOf n first.toList, cosOf n captured.toList with
    | some a, some b => some (.p (.mkf f a b))
    | _, _ => none
  | .makeMap _ none => some (.a .mkm)
  | .makeSlice t l c => match ty t, coOf n l, coOf n c with
    | some i, some l, some c => match i.d with
      | .slice e => match ty e with
        | some k => match plainD k.zero, Nat.ble 1 k.size with
          | true, true => some (.a (.mks k.size k.bytes (cellsOf k.zero) l c))
          | _, _ => none
        | none => none
      | _ => none
    | _, _, _ => none
  | .slice t x lo hi mx => match ty t, coOf n x, coOpt n lo, coOpt n hi, coOpt n mx with
    | some i, some x, some lo, some hi, some mx => match i.d, mx with
      | .string, none => some (.p (.slS x lo hi))
      | .slice e, none => match ty e with
        | some k => some (.r (.slL k.size x lo hi none))
        | none => none
      | .slice e, some m => match ty e, hi with
        | some k, some h => some (.r (.slL k.size x lo (some h) (some m)))
        | _, _ => none
      | .array k e, none => match ty e with
        | some j => some (.p (.slA k j.size x lo hi))
        | none => none
      | _, _ => none
    | _, _, _, _, _ => none
  | .fieldAddr t x f => match ty t, coOf n x with
    | some i, some c => match i.d with
      | .struct fs => match fs.toList[f]? with
        | some fd => match ty fd.type with
          | some j => match Nat.ble 1 j.size with
            | true => some (.p (.fa fd.offset c))
            | false => none
          | none => none
        | none => none
      | _ => none
    | _, _ => none
  | .field t x f => match ty t, coOf n x with
    | some i, some c => match i.d with
      | .struct fs => match fs.toList[f]? with
        | some fd => match ty fd.type with
          | some j => some (.p (.fld fd.offset j.size j.agg c))
          | none => none
        | none => none
      | _ => none
    | _, _ => none
  | .indexAddr t x j => match ty t, coOf n x, coOf n j with
    | some i, some x, some j => match i.d with
      | .slice e => match ty e with
        | some k => some (.p (.iaL k.size x j))
        | none => none
      | .array m e => match ty e with
        | some k => some (.p (.iaA m k.size x j))
        | none => none
      | _ => none
    | _, _, _ => none
  | .index t x j => match ty t, coOf n x, coOf n j with
    | some i, some x, some j => match i.d with
      | .string => some (.p (.ixS x j))
      | .array m e => match ty e with
        | some k => some (.p (.ixA m k.size k.agg x j))
        | none => none
      | _ => none
    | _, _, _ => none
  | .lookup t m k ok => match ty t, coOf n m, coOf n k with
    | some i, some m, some k => match i.d with
      | .map kt e => match ty e with
        | some j => match keyType ty kt, plainD j.zero with
          | some kn, true => some (.r (.look j.zero ok kn m k))
          | _, _ => none
        | none => none
      | _ => none
    | _, _, _ => none
  | .mapUpdate t m k v => match ty t, coOf n m, coOf n k, coOf n v with
    | some i, some m, some k, some v => match i.d with
      | .map kt _ => match keyType ty kt with
        | some kn => some (.w (.mup kn m k v))
        | none => none
      | _ => none
    | _, _, _, _ => none
  | .mapEntry t m k => match ty t, coOf n m, coOf n k with
    | some i, some m, some k => match i.d with
      | .map kt e => match ty e with
        | some j => match keyType ty kt, plainD j.zero with
          | some kn, true => some (.w (.men j.zero kn m k))
          | _, _ => none
        | none => none
      | _ => none
    | _, _, _ => none
  | .entryStore _ m s v => match coOf n m, coOf n s, coOf n v with
    | some m, some s, some v => some (.w (.est m s v))
    | _, _, _ => none
  | .range t x => match ty t, coOf n x with
    | some i, some c => match i.d with
      | .string => some (.a (.rgS c))
      | .map _ _ => some (.w (.rgM c))
      | _ => none
    | _, _ => none
  | .next it isString => match coOf n it with
    | some c => match isString with
      | true => some (.w (.nxS c))
      | false => some (.nxM c)
    | none => none
  | .entry it => match coOf n it with | some c => some (.r (.ent c)) | none => none
  | .extract x i => match coOf n x with | some c => some (.p (.ext i c)) | none => none
  | .call c => compCall ty n c
  | _ => none

def compDst (n : Nat) : Option Tmp → Option (Option Pa)
  | none => some none
  | some t => match paOf n t with
    | some p => some (some p)
    | none => none

def compGuard (n : Nat) (ops : List Oper) : Option (Nat × Bool) → Option (Option (Pa × Bool))
  | none => some none
  | some (j, b) => match ops[j]? with
    | some o => match o.dst with
      | some t => match paOf n t with
        | some p => some (some (p, b))
        | none => none
      | none => none
    | none => none

def compOper (ty : Ty) (n : Nat) (ops : List Oper) (o : Oper) : Option COper :=
  match compDst n o.dst, compGuard n ops o.guard, compOp ty n o.op with
  | some d, some g, some c => some { dst := d, g := g, op := c }
  | _, _, _ => none

def compOpers (ty : Ty) (n : Nat) (ops : List Oper) : List Oper → Option (List COper)
  | [] => some []
  | o :: l => match compOper ty n ops o, compOpers ty n ops l with
    | some c, some cs => some (c :: cs)
    | _, _ => none

/-! regions whose order is drawn: what is ordered -/

def coSlots : List CO → List Pa
  | [] => []
  | .t p :: l => p :: coSlots l
  | .c _ :: l => coSlots l

/-- The slots that an operation names. -/
def slotsOf (o : COper) : List Pa :=
  match o.g with
  | some (p, _) => p :: coSlots o.op.cos
  | none => coSlots o.op.cos

def paEq : Pa → Pa → Bool
  | .e, .e => true
  | .l p, .l q => paEq p q
  | .r p, .r q => paEq p q
  | _, _ => false

def dstIn (d : Option Pa) (l : List Pa) : Bool :=
  match d with
  | some p => l.any (paEq p)
  | none => false

def sameDst (d f : Option Pa) : Bool :=
  match d, f with
  | some p, some q => paEq p q
  | _, _ => false

/-- Does one of them write a slot that the other one names? -/
def clash (a b : COper) : Bool := dstIn a.dst (slotsOf b) || (dstIn b.dst (slotsOf a) || sameDst a.dst b.dst)

/-- What must stand ahead. -/
def bindsOf (o : Oper) : List Nat := (o.after.toList.filter (Region.binds .any)).map (·.on)

/-- Likely to change the heap. -/
def lateOp : Op → Bool
  | .call c => match c.callee with
    | .builtin .len | .builtin .cap | .builtin .min | .builtin .max => false
    | _ => true
  | .store .. | .mapUpdate .. | .mapEntry .. | .entryStore .. | .range .. | .next .. | .insert .. => true
  | _ => false

/-- An order in which what changes the heap stands as late as may be. -/
def orderGo (ops : List Oper) : Nat → List Nat → List Nat → List Nat
  | 0, done, _ => done
  | k + 1, done, left =>
    let free := fun i => match ops[i]? with
      | some o => (bindsOf o).all fun j => done.any (Nat.beq j)
      | none => false
    match left.find? (fun i => free i && match ops[i]? with | some o => !(lateOp o.op) | none => false) with
    | some i => orderGo ops k (done ++ [i]) (left.filter fun j => !(Nat.beq i j))
    | none => match left.find? free with
      | some i => orderGo ops k (done ++ [i]) (left.filter fun j => !(Nat.beq i j))
      | none => done

def invOf (ord : List Nat) : List Nat := (List.range ord.length).map fun i => ord.findIdx (Nat.beq i)

/-- Of each operation the set of the places of those that must stand ahead of it. -/
def behindGo (inv : List Nat) : List Oper → List Nat → List Nat
  | [], acc => acc
  | o :: l, acc => behindGo inv l (acc ++ [(bindsOf o).foldl (fun s i => s ||| (2 ^ inv.getD i 0 ||| acc.getD (inv.getD i 0) 0)) 0])

def allBelow (n : Nat) (f : Nat → Bool) : Bool := (List.range n).all f

def permOk (n : Nat) (ord inv : List Nat) : Bool :=
  Nat.beq ord.length n && (Nat.beq inv.length n && allBelow n fun i => Nat.beq (ord.getD (inv.getD i n) n) i && Nat.beq (inv.getD (ord.getD i n) n) i)

/-- What must stand ahead does. -/
def edgesOk (n : Nat) (inv : List Nat) (ops : List Oper) : Bool :=
  allBelow n fun t => match ops[t]? with
    | some o => (bindsOf o).all fun i => Nat.ble (i + 1) n && Nat.ble (inv.getD i n + 1) t
    | none => false

/-- The sets hold nothing else. -/
def setsOk (n : Nat) (inv bs : List Nat) (ops : List Oper) : Bool :=
  allBelow n fun t => match ops[t]? with
    | some o => Nat.beq (bs.getD t 0) ((bindsOf o).foldl (fun s i => s ||| (2 ^ inv.getD i n ||| bs.getD (inv.getD i n) 0)) 0)
    | none => false

def clashesOk (n : Nat) (bs : List Nat) (cs : List COper) : Bool :=
  allBelow n fun j => allBelow j fun i =>
    (bs.getD j 0).testBit i || (match cs[i]?, cs[j]? with
      | some a, some b => !(clash a b)
      | _, _ => false)

def heapy : COp → Bool
  | .p _ => false
  | _ => true

/-- What may change the heap stands ahead of all that is behind it here. -/
def changersOk (n : Nat) (bs : List Nat) (cs : List COper) : Bool :=
  allBelow n fun j => allBelow j fun i =>
    (bs.getD j 0).testBit i || (match cs[i]? with
      | some a => !a.op.changes
      | none => false)

/-- With which ones each operation is to be compared. -/
def pairsOf (bs : List Nat) (cs : List COper) : List (List Nat) :=
  (List.range cs.length).map fun j => match cs[j]? with
    | some b => match b.op.changes with
      | true => (List.range j).filter fun i => !((bs.getD j 0).testBit i) && (match cs[i]? with
        | some a => heapy a.op
        | none => false)
      | false => []
    | none => []

def compDreg (ty : Ty) (n : Nat) (ops : List Oper) (ord inv bs : List Nat) (pops : List Oper) : CCode :=
  match compOpers ty n ops pops with
  | none => .bad
  | some cs => match permOk ops.length ord inv && (edgesOk ops.length inv pops && (setsOk ops.length inv bs pops && (changersOk ops.length bs cs && clashesOk ops.length bs cs))) with
    | true => .dreg cs (pairsOf bs cs)
    | false => .bad

def pick (ops : List Oper) : List Nat → List Oper
  | [] => []
  | i :: l => match ops[i]? with
    | some o => o :: pick ops l
    | none => []

def compReg (ty : Ty) (n : Nat) (ops : List Oper) (draw : Bool) : CCode :=
  match draw with
  | false => match compOpers ty n ops ops with
    | none => .bad
    | some cs => .reg cs
  | true =>
    let ord := orderGo ops ops.length [] (List.range ops.length)
    let inv := invOf ord
    let pops := pick ops ord
    compDreg ty n ops ord inv (behindGo inv pops []) pops

def compCode (ty : Ty) (n : Nat) : Code → CCode
  | .skip => .skip
  | .label _ => .skip
  | .region _ ops draw => compReg ty n ops.toList draw
  | .seq a b => .seq (compCode ty n a) (compCode ty n b)
  | .cond c a b => match coOf n c with
    | some c => .cond c (compCode ty n a) (compCode ty n b)
    | none => .bad
  | .block id b => .block id (compCode ty n b)
  | .loop b => .loop (compCode ty n b)
  | .exit id => .exit id
  | .scope b => .scope (compCode ty n b)
  | .ret => .ret
  | .rangeFunc _ _ _ _ => .bad
  | .goto _ => .bad
  | .refuse _ => .bad

def compRes (ty : Ty) (n : Nat) : List ResultVar → Option (List CRes)
  | [] => some []
  | .tmp t :: l => match paOf n t, compRes ty n l with
    | some p, some r => some (.t p :: r)
    | _, _ => none
  | .cell a t :: l => match paOf n a, ty t, compRes ty n l with
    | some p, some i, some r => some (.cell p i.size i.agg :: r)
    | _, _, _ => none

def compFn (ty : Ty) (fn : Func) : Option CFunc :=
  match fn.body, compRes ty fn.ntmps fn.results.toList with
  | some c, some r => some { res := r, body := compCode ty fn.ntmps c }
  | _, _ => none

end Am
end Go.Proofs.YtbfbaofhnnnohaaGreatDoor

/- The abstract machine, part 3: library functions that are told by what they answer. -/
namespace Go.Proofs.YtbfbaofhnnnohaaGreatDoor
namespace Am

def insS (k : List UInt8) : List (List UInt8) → List (List UInt8)
  | [] => [k]
  | a :: l => match bytesLt k a with
    | true => k :: a :: l
    | false => a :: insS k l

def insI (k : Int) : List Int → List Int
  | [] => [k]
  | a :: l => match ltI k a with
    | true => k :: a :: l
    | false => a :: insI k l

def keysOf (h : H) (v : Value) : Option (List Value) :=
  match v with
  | .func (.func _) _ c => match c.toList with
    | [p] => match loadE h 1 false p with
      | some (.map (some r)) => match h.get r with
        | some (.map es _) => some (es.map (fun e => e.1))
        | _ => none
      | some (.map none) => some []
      | _ => none
    | _ => none
  | _ => none

def strsOf : List Value → Option (List (List UInt8))
  | [] => some []
  | .string s :: l => match strsOf l with
    | some r => some (sl s :: r)
    | none => none
  | _ => none

def intsOf (k : IntKind) : List Value → Option (List Int)
  | [] => some []
  | .int j n :: l => match sameK j k, intsOf k l with
    | true, some r => some (n :: r)
    | _, _ => none
  | _ => none

def sortS : List (List UInt8) → List (List UInt8)
  | [] => []
  | a :: l => insS a (sortS l)

def sortI : List Int → List Int
  | [] => []
  | a :: l => insI a (sortI l)

def rowOf (h : H) (r : List Value) : Option (Value × H) :=
  match r with
  | [] => some (.slice none 0 0, h)
  | _ => match h.new (.cells r true) with
    | some (h', id) => some (.slice (some ⟨id, 0, none⟩) (lenN r 0) 2, h')
    | none => none

def sumSortedS (args : List Value) (h : H) : Option (Value × H) :=
  match args with
  | [f] => match keysOf h f with
    | some l => match strsOf l with
      | some l => rowOf h ((sortS l).map strOf)
      | none => none
    | none => none
  | _ => none

def sumSortedU (args : List Value) (h : H) : Option (Value × H) :=
  match args with
  | [f] => match keysOf h f with
    | some l => match intsOf .u32 l with
      | some l => rowOf h ((sortI l).map fun n => .int .u32 n)
      | none => none
    | none => none
  | _ => none

def joinL (sep : List UInt8) : List (List UInt8) → List UInt8
  | [] => []
  | a :: l => match l with
    | [] => a
    | _ => a ++ (sep ++ joinL sep l)

def sumJoin (args : List Value) (h : H) : Option (Value × H) :=
  match args with
  | [.slice none 0 0, .string _] => some (strOf [], h)
  | [.slice (some ⟨b, o, none⟩) len _, .string sep] => match len with
    | 0 => some (strOf [], h)
    | _ => match h.get b with
      | some (.cells c _) => match strsOf ((c.drop o).take len) with
        | some l => match Nat.beq l.length len, Nat.ble len 1000000, Nat.ble (len8 (joinL (sl sep) l) 0) 1000000 with
          | true, true, true => some (strOf (joinL (sl sep) l), h)
          | _, _, _ => none
        | none => none
      | _ => none
  | _ => none

def repl1 (a : UInt8) (b : List UInt8) : List UInt8 → List UInt8
  | [] => []
  | c :: l => match Nat.beq c.toNat a.toNat with
    | true => b ++ l
    | false => c :: repl1 a b l

def sumReplace (args : List Value) (h : H) : Option (Value × H) :=
  match args with
  | [.string s, .string o, .string n, .int .i64 k] => match sl o, sl n, eqI k 1, Nat.ble (len8 (sl s) 0) 1000000, h.get 0 with
    | [a], [b], true, true, some (.cells [.int .i64 _] _) => some (strOf (repl1 a [b] (sl s)), h)
    | _, _, _, _, _ => none
  | _ => none

def idxB (c : Nat) : List UInt8 → Nat → Int
  | [], _ => -1
  | a :: l, i => match Nat.beq a.toNat c with
    | true => .ofNat i
    | false => idxB c l (i + 1)

def sumIdx (args : List Value) (h : H) : Option (Value × H) :=
  match args with
  | [.string s, .int .u8 (.ofNat c)] => match Nat.ble c 255 with
    | true => some (.int .i64 (idxB c (sl s) 0), h)
    | false => none
  | _ => none

def cntB (c : Nat) : List UInt8 → Nat → Nat
  | [], n => n
  | a :: l, n => match Nat.beq a.toNat c with
    | true => cntB c l (n + 1)
    | false => cntB c l n

def sumCnt (args : List Value) (h : H) : Option (Value × H) :=
  match args with
  | [.string s, .int .u8 (.ofNat c)] => match Nat.ble c 255 with
    | true => some (.int .i64 (.ofNat (cntB c (sl s) 0)), h)
    | false => none
  | _ => none

end Am
end Go.Proofs.YtbfbaofhnnnohaaGreatDoor

/- The abstract machine, part 4: when an abstract heap stands for a real one, and what keeps it so. -/
namespace Go.Proofs.YtbfbaofhnnnohaaGreatDoor
namespace Am

inductive ERels (m : M) : List (Value × Value × Nat) → List MapEntry → Prop
  | nil : ERels m [] []
  | cons {k v : Value} {k' v' : Value} {b : Nat} {l : List (Value × Value × Nat)} {l' : List MapEntry} (hk : VRel m k k') (hv : VRel m v v')
      (t : ERels m l l') : ERels m ((k, v, b) :: l) (⟨k', v', b⟩ :: l')

theorem ERels.sub {m m' : M} (s : Sub m m') {a : List (Value × Value × Nat)} {b : List MapEntry} (h : ERels m a b) : ERels m' a b := by
  induction h with
  | nil => exact .nil
  | cons hk hv _ ih => exact .cons (hk.sub s) (hv.sub s) ih

theorem ERels.length {m : M} {a : List (Value × Value × Nat)} {b : List MapEntry} (h : ERels m a b) : a.length = b.length := by
  induction h with
  | nil => rfl
  | cons _ _ _ ih => simp [ih]

theorem ERels.append {m : M} {a c : List (Value × Value × Nat)} {b d : List MapEntry} (h : ERels m a b) (g : ERels m c d) : ERels m (a ++ c) (b ++ d) := by
  induction h with
  | nil => exact g
  | cons hk hv _ ih => exact .cons hk hv ih

def isOwn : AObj → Bool
  | .cells _ b => b
  | _ => true

def own (h : H) (i : Nat) : Prop := ∃ o, h.get i = some o ∧ isOwn o = true

/-- Cells from a place on. -/
def Cells (m : M) (c : List Value) (cs : Array Value) (off : Nat) : Prop :=
  ∀ j v, c[j]? = some v → ∃ v', cs[off + j]? = some v' ∧ VRel m v v'

def ORel (m : M) (l : Loc) (hp : Array Obj) : AObj → Prop
  | .cells c ow => ∃ cs e fz, hp[l.blk]? = some (.cells cs e fz) ∧ (ow = true → l.off + l.room = cs.size ∧ (fz.1 = fz.2 ∨ cs.size ≤ fz.1)) ∧
      c.length ≤ l.room ∧ Cells m c cs l.off
  | .map es clock => l.off = 0 ∧ ∃ es', hp[l.blk]? = some (.map ⟨es'⟩ clock) ∧ ERels m es es'
  | .siter s pos => l.off = 0 ∧ hp[l.blk]? = some (.stringIter s pos)
  | .miter none since seen st => l.off = 0 ∧ hp[l.blk]? = some (.mapIter none since ⟨seen⟩ st)
  | .miter (some r) since seen st => l.off = 0 ∧ ∃ k, m r = some k ∧ hp[l.blk]? = some (.mapIter (some k.blk) since ⟨seen⟩ st)

structure Rel (m : M) (h : H) (hp : Array Obj) : Prop where
  obj : ∀ i l o, m i = some l → h.get i = some o → ORel m l hp o
  bnd : ∀ i l, m i = some l → l.blk < hp.size
  dom : ∀ i l, m i = some l → i < h.next
  sep : ∀ i j l k, i ≠ j → m i = some l → m j = some k → own h i → (∃ o, h.get j = some o) → l.blk ≠ k.blk

structure Ext (m m' : M) (h h' : H) (hp hp' : Array Obj) : Prop where
  sub : Sub m m'
  nxt : h.next ≤ h'.next
  new : ∀ i l, m' i = some l → m i = some l ∨ (m i = none ∧ h.next ≤ i)
  blk : ∀ i l, m' i = some l → m i = none → hp.size ≤ l.blk ∨ ∃ j k, m j = some k ∧ own h j ∧ k.blk = l.blk
  size : hp.size ≤ hp'.size
  frame : ∀ b, b < hp.size → (∀ j k, m j = some k → own h j → k.blk ≠ b) → hp'[b]? = hp[b]?
  ownd : ∀ i, i < h.next → own h' i → own h i
  low : h'.low ≤ h.low
  kept : ∀ i, i < h.next → i < h'.low → h'.get i = h.get i

theorem Cells.sub {m m' : M} (s : Sub m m') {c : List Value} {cs : Array Value} {o : Nat} (h : Cells m c cs o) : Cells m' c cs o :=
  fun j v e => let ⟨v', h1, h2⟩ := h j v e; ⟨v', h1, h2.sub s⟩

theorem ORel.sub {m m' : M} (s : Sub m m') {l : Loc} {hp : Array Obj} {o : AObj} (h : ORel m l hp o) : ORel m' l hp o := by
  cases o with
  | cells c ow => obtain ⟨cs, e, fz, h1, h2, h3, h4⟩ := h; exact ⟨cs, e, fz, h1, h2, h3, h4.sub s⟩
  | map es clock => obtain ⟨h0, es', h1, h2⟩ := h; exact ⟨h0, es', h1, h2.sub s⟩
  | siter s' pos => exact h
  | miter r since seen st =>
    cases r with
    | none => exact h
    | some r => obtain ⟨h0, k, h1, h2⟩ := h; exact ⟨h0, k, s _ _ h1, h2⟩

/-- An object reads off its block alone. -/
theorem ORel.at {m : M} {l : Loc} {hp hp' : Array Obj} {o : AObj} (e : hp'[l.blk]? = hp[l.blk]?) (h : ORel m l hp o) : ORel m l hp' o := by
  cases o with
  | cells c ow => simpa only [ORel, e] using h
  | map es clock => simpa only [ORel, e] using h
  | siter s' pos => simpa only [ORel, e] using h
  | miter r since seen st => cases r <;> simpa only [ORel, e] using h

theorem own_of {h : H} {i : Nat} {o : AObj} (e : h.get i = some o) (ho : isOwn o = true) : own h i := ⟨o, e, ho⟩

theorem Ext.refl (m : M) (h : H) (hp : Array Obj) : Ext m m h h hp hp where
  sub := Sub.refl m
  nxt := Nat.le_refl _
  new := fun i l e => .inl e
  blk := fun i l e g => by rw [g] at e; cases e
  size := Nat.le_refl _
  frame := fun _ _ _ => rfl
  ownd := fun _ _ h => h
  low := Nat.le_refl _
  kept := fun _ _ _ => rfl

theorem Ext.trans {m m' m'' : M} {h h' h'' : H} {hp hp' hp'' : Array Obj} (a : Ext m m' h h' hp hp') (b : Ext m' m'' h' h'' hp' hp'') (hd : ∀ i l, m i = some l → i < h.next) :
    Ext m m'' h h'' hp hp'' where
  sub := a.sub.trans b.sub
  nxt := Nat.le_trans a.nxt b.nxt
  new := fun i l e => by
    rcases b.new i l e with e' | ⟨e', hn⟩
    · exact a.new i l e'
    · refine .inr ⟨?_, Nat.le_trans a.nxt hn⟩
      cases hm : m i with
      | none => rfl
      | some k => rw [a.sub i k hm] at e'; cases e'
  blk := fun i l e g => by
    cases hm : m' i with
    | none =>
      rcases b.blk i l e hm with hs | ⟨j, k, hj, ho, hb⟩
      · exact .inl (Nat.le_trans a.size hs)
      · cases hmj : m j with
        | none => rcases a.blk j k hj hmj with hs | ⟨j', k', h1, h2, h3⟩
                  · exact .inl (hb ▸ hs)
                  · exact .inr ⟨j', k', h1, h2, h3.trans hb⟩
        | some k' =>
          have := a.sub j k' hmj
          rw [hj] at this; cases this
          exact .inr ⟨j, k, hmj, a.ownd j (hd j k hmj) ho, hb⟩
    | some l' =>
      have := b.sub i l' hm
      rw [e] at this; cases this
      exact a.blk i l hm g
  size := Nat.le_trans a.size b.size
  frame := fun x hx hn => by
    rw [b.frame x (Nat.lt_of_lt_of_le hx a.size) ?_, a.frame x hx hn]
    intro j k hj ho
    cases hmj : m j with
    | none =>
      rcases a.blk j k hj hmj with hs | ⟨j', k', h1, h2, h3⟩
      · omega
      · exact fun e => hn j' k' h1 h2 (h3.trans e)
    | some k' =>
      have := a.sub j k' hmj
      rw [hj] at this; cases this
      exact hn j k hmj (a.ownd j (hd j k hmj) ho)
  ownd := fun i hi ho => a.ownd i hi (b.ownd i (Nat.lt_of_lt_of_le hi a.nxt) ho)
  low := Nat.le_trans b.low a.low
  kept := fun i hi hl => by
    rw [b.kept i (Nat.lt_of_lt_of_le hi a.nxt) hl, a.kept i hi (Nat.lt_of_lt_of_le hl b.low)]

/-- Another real heap that is the same. -/
theorem Rel.same {m : M} {h : H} {hp hp' : Array Obj} (e : hp' = hp) (r : Rel m h hp) : Rel m h hp' := e ▸ r

def put (m : M) (i : Nat) (l : Loc) : M := fun j => if j = i then some l else m j

theorem put_same (m : M) (i : Nat) (l : Loc) : put m i l i = some l := by simp [put]
theorem put_other (m : M) (i : Nat) (l : Loc) {j : Nat} (h : j ≠ i) : put m i l j = m j := by simp [put, h]
theorem put_sub {m : M} {i : Nat} {l : Loc} (h : m i = none) : Sub m (put m i l) := by
  intro j k e
  unfold put
  split
  · rename_i hj; subst hj; rw [h] at e; cases e
  · exact e

theorem Rel.none_next {m : M} {h : H} {hp : Array Obj} (r : Rel m h hp) : m h.next = none := by
  cases e : m h.next with
  | none => rfl
  | some l => have := r.dom _ _ e; omega

/-- A new object behind all. -/
theorem Rel.alloc {m : M} {h h' : H} {hp : Array Obj} {ob : AObj} {id : Nat} (r : Rel m h hp) (e : h.new ob = some (h', id)) {ro : Obj} {room : Nat}
    (hp' : Array Obj) (hpe : hp' = hp.push ro)
    (ho : ORel (put m id ⟨hp.size, 0, room⟩) ⟨hp.size, 0, room⟩ hp' ob) :
    Rel (put m id ⟨hp.size, 0, room⟩) h' hp' ∧ Ext m (put m id ⟨hp.size, 0, room⟩) h h' hp hp' := by
  obtain ⟨rfl, hn, hlow⟩ := H.new_next e
  have hnone := r.none_next
  have hs := put_sub (l := ⟨hp.size, 0, room⟩) hnone
  have hsz : hp'.size = hp.size + 1 := by rw [hpe]; simp
  have hat : ∀ b, b < hp.size → hp'[b]? = hp[b]? := by
    intro b hb; rw [hpe]; rw [Array.getElem?_push]; simp [Nat.ne_of_lt hb]
  constructor
  · constructor
    · intro i l o hm hg
      by_cases hi : i = h.next
      · subst hi
        rw [put_same] at hm; cases hm
        rw [H.new_get_same e] at hg; cases hg
        exact ho
      · rw [put_other _ _ _ hi] at hm
        rw [H.new_get_other e hi] at hg
        exact ((r.obj i l o hm hg).sub hs).at (hat _ (r.bnd i l hm))
    · intro i l hm
      by_cases hi : i = h.next
      · subst hi; rw [put_same] at hm; cases hm; simp [hsz]
      · rw [put_other _ _ _ hi] at hm; have := r.bnd i l hm; omega
    · intro i l hm
      by_cases hi : i = h.next
      · omega
      · rw [put_other _ _ _ hi] at hm; have := r.dom i l hm; omega
    · intro i j l k hne hi hj hown ⟨o, hoj⟩
      by_cases ei : i = h.next
      · subst ei
        rw [put_same] at hi; cases hi
        rw [put_other _ _ _ (Ne.symm hne)] at hj
        have := r.bnd j k hj
        simp; omega
      · by_cases ej : j = h.next
        · subst ej
          rw [put_same] at hj; cases hj
          rw [put_other _ _ _ ei] at hi
          have := r.bnd i l hi
          simp; omega
        · rw [put_other _ _ _ ei] at hi
          rw [put_other _ _ _ ej] at hj
          obtain ⟨oi, hoi, hio⟩ := hown
          rw [H.new_get_other e ei] at hoi
          rw [H.new_get_other e ej] at hoj
          exact r.sep i j l k hne hi hj ⟨oi, hoi, hio⟩ ⟨o, hoj⟩
  · constructor
    · exact hs
    · omega
    · intro i l hm
      by_cases hi : i = h.next
      · exact .inr ⟨hi ▸ hnone, by omega⟩
      · rw [put_other _ _ _ hi] at hm; exact .inl hm
    · intro i l hm hmn
      by_cases hi : i = h.next
      · subst hi; rw [put_same] at hm; cases hm; exact .inl (Nat.le_refl _)
      · rw [put_other _ _ _ hi] at hm; rw [hm] at hmn; cases hmn
    · omega
    · intro b hb _; exact hat b hb
    · intro i hi ⟨o, hg, ho'⟩
      rw [H.new_get_other e (by omega)] at hg
      exact ⟨o, hg, ho'⟩
    · omega
    · intro i hi _; exact H.new_get_other e (by omega)

/-- An object of the machine's own is another one from now on (or dead). -/
theorem Rel.putObj {m : M} {h h' : H} {hp hp' : Array Obj} {ob : Option AObj} {i : Nat} {l : Loc} (r : Rel m h hp) (hm : m i = some l) (hown : own h i)
    (e : h.put i ob = some h') (hsz : hp'.size = hp.size) (hat : ∀ b, b ≠ l.blk → hp'[b]? = hp[b]?) (ho : ∀ o, ob = some o → ORel m l hp' o) :
    Rel m h' hp' ∧ Ext m m h h' hp hp' := by
  obtain ⟨hn, hlow⟩ := H.put_next e
  have hlt := r.dom i l hm
  constructor
  · constructor
    · intro j k o hj hg
      by_cases hji : j = i
      · subst hji
        rw [hm] at hj; cases hj
        rw [H.put_get_same e] at hg
        exact ho o hg
      · rw [H.put_get_other e hji] at hg
        exact (r.obj j k o hj hg).at (hat _ (Ne.symm (r.sep i j l k (Ne.symm hji) hm hj hown ⟨o, hg⟩)))
    · intro j k hj; rw [hsz]; exact r.bnd j k hj
    · intro j k hj; rw [hn]; exact r.dom j k hj
    · intro j1 j2 k1 k2 hne h1 h2 ⟨o1, hg1, ho1⟩ ⟨o2, hg2⟩
      have g1 : own h j1 := by
        by_cases hji : j1 = i
        · subst hji; exact hown
        · rw [H.put_get_other e hji] at hg1; exact ⟨o1, hg1, ho1⟩
      have g2 : ∃ o, h.get j2 = some o := by
        by_cases hji : j2 = i
        · subst hji; obtain ⟨o, ho, _⟩ := hown; exact ⟨o, ho⟩
        · rw [H.put_get_other e hji] at hg2; exact ⟨o2, hg2⟩
      exact r.sep j1 j2 k1 k2 hne h1 h2 g1 g2
  · constructor
    · exact Sub.refl m
    · omega
    · intro j k hj; exact .inl hj
    · intro j k hj hmn; rw [hj] at hmn; cases hmn
    · omega
    · intro b hb hnb; exact hat b (Ne.symm (hnb i l hm hown))
    · intro j hj ⟨o, hg, ho'⟩
      by_cases hji : j = i
      · subst hji; exact hown
      · rw [H.put_get_other e hji] at hg; exact ⟨o, hg, ho'⟩
    · omega
    · intro j hj hjl
      exact H.put_get_other e (by omega)

end Am
end Go.Proofs.YtbfbaofhnnnohaaGreatDoor

/- The abstract machine, part 5: its small functions are the model's. -/
namespace Go.Proofs.YtbfbaofhnnnohaaGreatDoor
namespace Am

theorem nth_eq : ∀ (l : List Value) (n : Nat), nth l n = l[n]?
  | [], n => by simp [nth]
  | v :: l, 0 => by simp [nth]
  | v :: l, n + 1 => by simp [nth, nth_eq l n]

theorem lenN_eq : ∀ (l : List Value) (n : Nat), lenN l n = n + l.length
  | [], n => by simp [lenN]
  | v :: l, n => by simp [lenN, lenN_eq l (n + 1)]; omega

theorem len8_eq : ∀ (l : List UInt8) (n : Nat), len8 l n = n + l.length
  | [], n => by simp [len8]
  | v :: l, n => by simp [len8, len8_eq l (n + 1)]; omega

theorem ltI_eq (a b : Int) : ltI a b = decide (a < b) := by
  cases a <;> cases b <;> rw [Bool.eq_iff_iff] <;> simp [ltI, Nat.ble_eq] <;> omega

theorem eqI_eq (a b : Int) : eqI a b = (a == b) := by
  cases a <;> cases b <;> rw [Bool.eq_iff_iff] <;> simp [eqI]
  omega

theorem sameK_eq (a b : IntKind) : sameK a b = decide (a = b) := by
  cases a <;> cases b <;> rfl

theorem wrap_fits (k : IntKind) (n : Nat) (h : n < topN k) : k.wrap (.ofNat n) = .ofNat n := by
  have e : ((Int.ofNat n) : Int) = (n : Int) := rfl
  rw [e]
  cases k <;> simp only [topN] at h <;> simp [IntKind.wrap, IntKind.bits, IntKind.signed] <;> (try split) <;> omega

theorem wrapQ_eq (k : IntKind) (n : Int) : wrapQ k n = k.wrap n := by
  cases n with
  | ofNat m =>
    simp only [wrapQ]
    cases hb : Nat.ble (m + 1) (topN k) with
    | true => exact (wrap_fits k m (by have := Nat.le_of_ble_eq_true hb; omega)).symm
    | false => rfl
  | negSucc m => rfl

theorem bytesEq_eq : ∀ (x y : List UInt8), bytesEq x y = (x == y)
  | [], [] => rfl
  | [], _ :: _ => rfl
  | _ :: _, [] => rfl
  | a :: x, b :: y => by
    have ih := bytesEq_eq x y
    unfold bytesEq
    cases hb : Nat.beq a.toNat b.toNat with
    | true =>
      have : a = b := UInt8.toNat_inj.1 (Nat.eq_of_beq_eq_true hb)
      subst this
      simp [ih]
    | false =>
      have : a ≠ b := fun e => by subst e; simp at hb
      simp [this]

theorem bytesLt_eq : ∀ (x y : List UInt8), bytesLt x y = Op.bytesLess x y
  | [], [] => rfl
  | [], _ :: _ => rfl
  | _ :: _, [] => rfl
  | a :: x, b :: y => by
    have ih := bytesLt_eq x y
    unfold bytesLt Op.bytesLess
    cases hb : Nat.ble (a.toNat + 1) b.toNat with
    | true =>
      have : a < b := UInt8.lt_iff_toNat_lt.2 (by have := Nat.le_of_ble_eq_true hb; omega)
      simp [this]
    | false =>
      have h1 : ¬ a < b := fun e => by
        have h2 := UInt8.lt_iff_toNat_lt.1 e
        have : Nat.ble (a.toNat + 1) b.toNat = true := by rw [Nat.ble_eq]; exact h2
        rw [hb] at this; cases this
      cases hc : Nat.beq a.toNat b.toNat with
      | true =>
        have : a = b := UInt8.toNat_inj.1 (Nat.eq_of_beq_eq_true hc)
        subst this
        simp [ih]
      | false =>
        have : a ≠ b := fun e => by subst e; simp at hc
        simp [this, h1]

theorem strOf_sl (s : ByteArray) : (⟨⟨sl s⟩⟩ : ByteArray) = s := by cases s; rfl

theorem size_sl (s : ByteArray) : s.size = (sl s).length := by
  cases s; rfl

theorem append_sl (x y : ByteArray) : x ++ y = ⟨⟨sl x ++ sl y⟩⟩ := by
  apply ByteArray.ext
  simp [sl]

theorem extract_sl (s : ByteArray) (l h : Nat) : s.extract l h = ⟨⟨((sl s).drop l).take (h - l)⟩⟩ := by
  apply ByteArray.ext
  rw [ByteArray.data_extract]
  apply Array.ext'
  simp [sl, List.take_drop]

theorem putAt_get : ∀ (c : List Value) (o : Nat) (xs : List Value) (j : Nat), o + xs.length ≤ c.length →
    (putAt c o xs)[j]? = if o ≤ j ∧ j < o + xs.length then xs[j - o]? else c[j]?
  | [], o, xs, j, h => by
    have : xs = [] := by cases xs with | nil => rfl | cons _ _ => simp at h
    subst this
    simp [putAt]
  | v :: c, 0, [], j, _ => by simp [putAt]
  | v :: c, 0, x :: xs, 0, _ => by simp [putAt]
  | v :: c, 0, x :: xs, j + 1, h => by
    simp only [putAt, List.getElem?_cons_succ]
    rw [putAt_get c 0 xs j (by simp at h ⊢; omega)]
    simp
  | v :: c, o + 1, xs, 0, _ => by simp [putAt]
  | v :: c, o + 1, xs, j + 1, h => by
    simp only [putAt, List.getElem?_cons_succ]
    rw [putAt_get c o xs j (by simp at h ⊢; omega)]
    have e : j + 1 - (o + 1) = j - o := by omega
    by_cases hh : o ≤ j ∧ j < o + xs.length
    · rw [if_pos hh, if_pos (by omega), e]
    · rw [if_neg hh, if_neg (by omega)]

theorem putAt_length : ∀ (c : List Value) (o : Nat) (xs : List Value), (putAt c o xs).length = c.length
  | [], _, _ => by simp [putAt]
  | v :: c, 0, [] => by simp [putAt]
  | v :: c, 0, x :: xs => by simp [putAt, putAt_length c 0 xs]
  | v :: c, o + 1, xs => by simp [putAt, putAt_length c o xs]

end Am
end Go.Proofs.YtbfbaofhnnnohaaGreatDoor

/- The abstract machine, part 6: its pure operations are the model's. -/
namespace Go.Proofs.YtbfbaofhnnnohaaGreatDoor
namespace Am
variable {P : Program}

def TyOk (P : Program) (ty : Ty) : Prop := ∀ t i, ty t = some i → tiOf P t = some i

/-- What a row of the table of types says. -/
structure Knows (P : Program) (t : TypeId) (i : TI) : Prop where
  und (w : World) : (underlying t).run P w = .ok i.d w
  undp : P.underlying t = some i.d
  size (w : World) : (sizeOf t).run P w = .ok i.size w
  zero (w : World) : (zeroValue t).run P w = .ok i.zero w
  agg (w : World) : (isAgg t).run P w = .ok i.agg w
  stood : P.stoodInHeld t = i.stood
  guard : P.eqGuardType P.depth t = i.guard
  info (w : World) : ∃ x, (typeInfo t).run P w = .ok x w ∧ x.bytes = i.bytes ∧ x.size = i.size ∧ x.zero = some i.zero

theorem TyOk.knows {ty : Ty} (h : TyOk P ty) {t : TypeId} {i : TI} (e : ty t = some i) : Knows P t i := by
  have h1 := h t i e
  unfold tiOf at h1
  split at h1
  · rename_i x d hx hd
    split at h1
    · rename_i z hz
      cases h1
      have hu : ∀ w, (underlying t).run P w = .ok d w := fun w => by simp [underlying, hd]
      refine ⟨hu, hd, fun w => ?_, fun w => ?_, fun w => ?_, rfl, rfl, fun w => ⟨x, ?_, rfl, rfl, hz⟩⟩
      · simp [sizeOf, typeInfo, hx]
      · simp [zeroValue, typeInfo, hx, hz]
      · simp only [isAgg, Sem.run_bind, hu, Result.andThen_ok]
        cases d <;> rfl
      · simp [typeInfo, hx]
    · cases h1
  · cases h1

/-! ### operands -/

def ERel (m : M) (e : Env) (ts : Array Value) : Prop :=
  ∀ p v, e.getP p = some v → p.of < ts.size ∧ VRel m v (ts.getD p.of undef)

theorem ERel.sub {m m' : M} (s : Sub m m') {e : Env} {ts : Array Value} (h : ERel m e ts) : ERel m' e ts :=
  fun p v g => ⟨(h p v g).1, (h p v g).2.sub s⟩

theorem ERel.put {m : M} {e : Env} {ts : Array Value} (h : ERel m e ts) {p : Pa} {v v' : Value} (hv : VRel m v v') (hp : p.of < ts.size) :
    ERel m (e.setP p v) (ts.setIfInBounds p.of v') := by
  intro q u g
  by_cases hq : p = q
  · subst hq
    rw [T.getP_setP_same] at g; cases g
    refine ⟨by simpa using hp, ?_⟩
    simp only [Array.getD_eq_getD_getElem?, Array.getElem?_setIfInBounds_self_of_lt hp]
    exact hv
  · rw [T.getP_setP_other _ _ _ _ hq] at g
    have ⟨h1, h2⟩ := h q u g
    refine ⟨by simpa using h1, ?_⟩
    have hne : p.of ≠ q.of := fun e => hq (Pa.of_inj _ _ e)
    simp only [Array.getD_eq_getD_getElem?, Array.getElem?_setIfInBounds_ne hne] at h2 ⊢
    exact h2

theorem plains_rel {m : M} : ∀ {l : List Value}, plains l = true → VRels m l l
  | [], _ => .nil
  | v :: l, h => by
    unfold plains at h
    cases hv : plain v <;> rw [hv] at h
    · cases h
    · exact .cons (.same hv) (plains_rel h)

theorem plainD_rel {m : M} {v : Value} (h : plainD v = true) : VRel m v v := by
  unfold plainD at h
  split at h
  · rename_i cs
    have := plains_rel (m := m) h
    cases cs with | mk l => exact .agg this
  · exact .same h

theorem paOf_spec {n t : Nat} {p : Pa} (h : paOf n t = some p) : p.of = t ∧ t < n := by
  unfold paOf at h
  split at h
  · rename_i h1 h2
    cases h
    exact ⟨Nat.eq_of_beq_eq_true h1, Nat.le_of_ble_eq_true h2⟩
  · cases h

theorem coOf_rel {m : M} {e : Env} {a : Act} {n : Nat} {x : Operand} {c : CO} {v : Value} (he : ERel m e a.tmps) (hc : coOf n x = some c) (hv : c.ev e = some v) :
    VRel m v (a.eval x) := by
  cases x with
  | tmp t =>
    simp only [coOf] at hc
    split at hc
    · rename_i p hp
      cases hc
      have ⟨h1, _⟩ := paOf_spec hp
      have := (he p v hv).2
      rw [h1] at this
      exact this
    · cases hc
  | const u =>
    simp only [coOf] at hc
    split at hc
    · rename_i hp
      cases hc; cases hv
      exact plainD_rel hp
    · cases hc
  | func f => simp only [coOf] at hc; cases hc; cases hv; exact .func .nil .nil
  | global g => simp [coOf] at hc

theorem cosOf_rel {m : M} {e : Env} {a : Act} {n : Nat} (he : ERel m e a.tmps) : ∀ {xs : List Operand} {cs : List CO} {vs : List Value}, cosOf n xs = some cs → CO.evs e cs = some vs →
    VRels m vs (xs.map a.eval)
  | [], cs, vs, hc, hv => by simp only [cosOf] at hc; cases hc; simp only [CO.evs] at hv; cases hv; exact .nil
  | x :: xs, cs, vs, hc, hv => by
    simp only [cosOf] at hc
    split at hc
    · rename_i c cs' h1 h2
      cases hc
      simp only [CO.evs] at hv
      split at hv
      · cases hv
      · rename_i v h3
        split at hv
        · cases hv
        · rename_i vs' h4
          cases hv
          exact .cons (coOf_rel he h1 h3) (cosOf_rel he h2 h4)
    · cases hc

/-- An operation of the model's that hands back a value and leaves the world alone. -/
def Gives (P : Program) (m : M) (w : World) (s : Sem Value) (v : Value) : Prop := ∃ v', s.run P w = .ok v' w ∧ VRel m v v'

/-! inversion of values that are alike -/
section inv
variable {m : M} {v : Value}
theorem VRel.int_inv {k : IntKind} {n : Int} (h : VRel m (.int k n) v) : v = .int k n := by cases h; rfl
theorem VRel.bool_inv {b : Bool} (h : VRel m (.bool b) v) : v = .bool b := by cases h; rfl
theorem VRel.string_inv {s : ByteArray} (h : VRel m (.string s) v) : v = .string s := by cases h; rfl
theorem VRel.agg_inv {c : Array Value} (h : VRel m (.agg c) v) : ∃ c', v = .agg c' ∧ VRels m c.toList c'.toList := by
  cases h with
  | same h => simp [plain] at h
  | agg h => exact ⟨_, rfl, h⟩
theorem VRel.tuple_inv {c : Array Value} (h : VRel m (.tuple c) v) : ∃ c', v = .tuple c' ∧ VRels m c.toList c'.toList := by
  cases h with
  | same h => simp [plain] at h
  | tuple h => exact ⟨_, rfl, h⟩
theorem VRel.nilp_inv (h : VRel m (.pointer none) v) : v = .pointer none := by cases h; rfl
theorem VRel.ptr_inv {a : Addr} (h : VRel m (.pointer (some a)) v) : ∃ b o l, a = ⟨b, o, none⟩ ∧ m b = some l ∧ v = .pointer (some ⟨l.blk, l.off + o, none⟩) := by
  cases h with
  | same h => simp [plain] at h
  | ptr h => exact ⟨_, _, _, rfl, h, rfl⟩
theorem VRel.map_inv {r : Nat} (h : VRel m (.map (some r)) v) : ∃ l, m r = some l ∧ v = .map (some l.blk) := by
  cases h with
  | same h => simp [plain] at h
  | map h => exact ⟨_, h, rfl⟩
theorem VRel.nilm_inv (h : VRel m (.map none) v) : v = .map none := by cases h; rfl
theorem VRel.func_inv {fn : Fn} {f c : Array Value} (h : VRel m (.func fn f c) v) : ∃ f' c', v = .func fn f' c' ∧ VRels m f.toList f'.toList ∧ VRels m c.toList c'.toList := by
  cases h with
  | same h => simp [plain] at h
  | func h g => exact ⟨_, _, rfl, h, g⟩
theorem VRel.nilf_inv (h : VRel m .nilFunc v) : v = .nilFunc := by cases h; rfl
theorem VRel.nils_inv {l c : Nat} (h : VRel m (.slice none l c) v) : v = .slice none l c ∧ l = 0 ∧ c = 0 := by
  cases h with
  | same h =>
    unfold plain at h
    split at h <;> first | cases h | skip
    all_goals first | (rename_i e; cases e; done) | (rename_i e; cases e; exact ⟨rfl, rfl, rfl⟩) | simp_all
theorem VRel.slice_inv {a : Addr} {len cc : Nat} (h : VRel m (.slice (some a) len cc) v) :
    ∃ b o l a' cap, a = ⟨b, o, none⟩ ∧ m b = some l ∧ v = .slice (some a') len cap ∧ len ≤ cap ∧ (cap = 0 ∨ a' = ⟨l.blk, l.off + o, none⟩) ∧ CapOk cc o l.room cap := by
  cases h with
  | same h => simp [plain] at h
  | slice h hl ha hc => exact ⟨_, _, _, _, _, rfl, h, rfl, hl, ha, hc⟩
end inv

end Am
end Go.Proofs.YtbfbaofhnnnohaaGreatDoor

/- The abstract machine, part 7: operations of two operands, of one. -/
namespace Go.Proofs.YtbfbaofhnnnohaaGreatDoor
namespace Am
variable {P : Program}

theorem top_bits (k : IntKind) : topN k ≤ 2 ^ k.bits := by cases k <;> simp [topN, IntKind.bits]

theorem ofInt_nat (n a : Nat) : BitVec.ofInt n (.ofNat a) = BitVec.ofNat n a := by
  apply BitVec.eq_of_toNat_eq
  simp

theorem andNot_xor {n : Nat} (a b : BitVec n) : a &&& ~~~b = a ^^^ (a &&& b) := by
  ext i hi
  simp
  cases a[i] <;> cases b[i] <;> rfl

theorem pow_top (k : IntKind) : ∃ n, topN k = 2 ^ n := by
  cases k <;> first | exact ⟨7, rfl⟩ | exact ⟨8, rfl⟩ | exact ⟨15, rfl⟩ | exact ⟨16, rfl⟩ | exact ⟨31, rfl⟩ | exact ⟨32, rfl⟩ | exact ⟨63, rfl⟩ | exact ⟨64, rfl⟩

theorem bits_snd (op : BinOp) (k : IntKind) (a b : Nat) (ha : a < topN k) (hb : b < topN k) (ho : op = .and ∨ op = .or ∨ op = .xor ∨ op = .andNot) (w : World) :
    (Op.intBits op k (.ofNat a) (.ofNat b)).run P w = .ok (.int k (.ofNat (bitsQ op a b))) w := by
  obtain ⟨n, hn⟩ := pow_top k
  have ht := top_bits k
  have e1 : (BitVec.ofNat k.bits a).toNat = a := by rw [BitVec.toNat_ofNat]; exact Nat.mod_eq_of_lt (Nat.lt_of_lt_of_le ha ht)
  have e2 : (BitVec.ofNat k.bits b).toNat = b := by rw [BitVec.toNat_ofNat]; exact Nat.mod_eq_of_lt (Nat.lt_of_lt_of_le hb ht)
  have f : ∀ r : Nat, r < topN k → (k.wrap (r : Int)) = .ofNat r := fun r hr => wrap_fits k r hr
  have h1 : a &&& b < topN k := Nat.lt_of_le_of_lt Nat.and_le_left ha
  have h2 : a ||| b < topN k := by rw [hn] at ha hb ⊢; exact Nat.or_lt_two_pow ha hb
  have h3 : a ^^^ b < topN k := by rw [hn] at ha hb ⊢; exact Nat.xor_lt_two_pow ha hb
  have h4 : a ^^^ (a &&& b) < topN k := by rw [hn] at ha h1 ⊢; exact Nat.xor_lt_two_pow ha h1
  have g1 : (k.wrap ((BitVec.ofNat k.bits a &&& BitVec.ofNat k.bits b).toNat : Int)) = .ofNat (a &&& b) := by rw [BitVec.toNat_and, e1, e2]; exact f _ h1
  have g2 : (k.wrap ((BitVec.ofNat k.bits a ||| BitVec.ofNat k.bits b).toNat : Int)) = .ofNat (a ||| b) := by rw [BitVec.toNat_or, e1, e2]; exact f _ h2
  have g3 : (k.wrap ((BitVec.ofNat k.bits a ^^^ BitVec.ofNat k.bits b).toNat : Int)) = .ofNat (a ^^^ b) := by rw [BitVec.toNat_xor, e1, e2]; exact f _ h3
  have g4 : (k.wrap ((BitVec.ofNat k.bits a &&& ~~~BitVec.ofNat k.bits b).toNat : Int)) = .ofNat (a ^^^ (a &&& b)) := by
    rw [andNot_xor, BitVec.toNat_xor, BitVec.toNat_and, e1, e2]; exact f _ h4
  rcases ho with rfl | rfl | rfl | rfl
  · simp only [Op.intBits, ofInt_nat, Sem.run_pure, g1, bitsQ]; rfl
  · simp only [Op.intBits, ofInt_nat, Sem.run_pure, g2, bitsQ]; rfl
  · simp only [Op.intBits, ofInt_nat, Sem.run_pure, g3, bitsQ]; rfl
  · simp only [Op.intBits, ofInt_nat, Sem.run_pure, g4, bitsQ]; rfl

theorem bitsN_snd {op : BinOp} {k : IntKind} {x y : Int} {v : Value} (ho : op = .and ∨ op = .or ∨ op = .xor ∨ op = .andNot) (h : bitsN op k x y = some v) (w : World) :
    (Op.intBits op k x y).run P w = .ok v w := by
  unfold bitsN at h
  split at h
  · split at h
    · rename_i a b h1 h2
      cases h
      exact bits_snd op k _ _ (by have := Nat.le_of_ble_eq_true h1; omega) (by have := Nat.le_of_ble_eq_true h2; omega) ho w
    · cases h
  · cases h

theorem intE_snd {op : BinOp} {k : IntKind} {x y : Int} {v : Value} (t : TypeId) (h : intE op k x y = some v) (w : World) :
    (binOp op t (.int k x) (.int k y)).run P w = .ok v w := by
  cases op <;> simp only [intE] at h
  case add => cases h; simp [binOp, Op.intArith, wrapQ_eq]
  case sub => cases h; simp [binOp, Op.intArith, wrapQ_eq]
  case mul => cases h; simp [binOp, Op.intArith, wrapQ_eq]
  case quo =>
    rw [eqI_eq] at h
    split at h
    · cases h
    · rename_i hy; cases h; simp at hy; simp [binOp, Op.intDiv, hy, wrapQ_eq]
  case rem =>
    rw [eqI_eq] at h
    split at h
    · cases h
    · rename_i hy; cases h; simp at hy; simp [binOp, Op.intDiv, hy]
  case and => simp [binOp]; exact bitsN_snd (by simp) h w
  case or => simp [binOp]; exact bitsN_snd (by simp) h w
  case xor => simp [binOp]; exact bitsN_snd (by simp) h w
  case andNot => simp [binOp]; exact bitsN_snd (by simp) h w
  case eql => cases h; simp [binOp, Op.intCmp, eqI_eq]
  case neq => cases h; simp [binOp, Op.intCmp, eqI_eq, bne]
  case lss => cases h; simp [binOp, Op.intCmp, ltI_eq]
  case leq => cases h; simp [binOp, Op.intCmp, ltI_eq, ← decide_not]
  case gtr => cases h; simp [binOp, Op.intCmp, ltI_eq]
  case geq => cases h; simp [binOp, Op.intCmp, ltI_eq, ← decide_not]
  case shl => cases h
  case shr => cases h

theorem kbits_eq (k : IntKind) : kbits k = k.bits := by cases k <;> rfl

theorem shiftE_snd {op : BinOp} {j k : IntKind} {x y : Int} {v : Value} (t : TypeId) (ho : op = .shl ∨ op = .shr) (h : shiftE op j x y = some v) (w : World) :
    (binOp op t (.int j x) (.int k y)).run P w = .ok v w := by
  unfold shiftE at h
  split at h
  · split at h
    · rename_i a n _ hn
      have hle : n ≤ j.bits := by rw [← kbits_eq]; exact Nat.le_of_ble_eq_true hn
      have hm : min n j.bits = n := by omega
      rcases ho with rfl | rfl
      · simp only at h; cases h
        simp [binOp, Op.shift, hm, wrapQ_eq]
        intro hneg; omega
      · simp only at h; cases h
        simp only [binOp, Op.shift]
        rw [if_neg (by simp)]
        simp [hm]
        have : ((2 : Int) ^ n) = ((2 ^ n : Nat) : Int) := by simp
        rw [this, Int.fdiv_eq_ediv_of_nonneg _ (Int.natCast_nonneg _)]
    · cases h
  · cases h

theorem strE_snd {op : BinOp} {x y : ByteArray} {v : Value} (t : TypeId) (h : strE op (sl x) (sl y) = some v) (w : World) :
    (binOp op t (.string x) (.string y)).run P w = .ok v w := by
  have he : (x.toList == y.toList) = bytesEq (sl x) (sl y) := by rw [bytesEq_eq, ByteArray.toList_eq, ByteArray.toList_eq]; rfl
  have hl : Op.bytesLess x.toList y.toList = bytesLt (sl x) (sl y) := by rw [bytesLt_eq, ByteArray.toList_eq, ByteArray.toList_eq]; rfl
  cases op <;> simp only [strE] at h
  case add =>
    split at h
    · rename_i hb
      cases h
      have := Nat.le_of_ble_eq_true hb
      rw [len8_eq, len8_eq, ← size_sl, ← size_sl] at this
      simp only [binOp, Op.stringOp, strOf, append_sl]
      rw [if_neg]
      · rfl
      · simp [IntKind.max, IntKind.signed, IntKind.bits]; omega
    · cases h
  case eql => cases h; simp [binOp, Op.stringOp, he]
  case neq => cases h; simp [binOp, Op.stringOp, he]
  case lss => cases h; simp [binOp, Op.stringOp, hl]
  case leq => cases h; simp [binOp, Op.stringOp, hl, he]
  case gtr => cases h; simp [binOp, Op.stringOp, hl, he]
  case geq => cases h; simp [binOp, Op.stringOp, hl]
  all_goals cases h

/-- What '==' and '!=' hand back. -/
theorem eqn_snd {op : BinOp} {t : TypeId} {x y v : Value} {r : Bool} {w : World} (hr : (Op.equal t x y).run P w = .ok r w)
    (h1 : binOp .eql t x y = (do pure (.bool (← Op.equal t x y)))) (h2 : binOp .neq t x y = (do pure (.bool (!(← Op.equal t x y))))) (h : negB op r = some v) :
    (binOp op t x y).run P w = .ok v w := by
  cases op <;> simp only [negB] at h <;> cases h
  · rw [h1]; simp [hr]
  · rw [h2]; simp [hr]

theorem kd_spec {d : TypeDesc} {kd : Kd} (h : kdOf d = some kd) : match kd with
    | .i => ∃ k, d = .int k
    | .s => d = .string
    | .b => d = .bool
    | .p => ∃ e, d = .pointer e
    | .f => ∃ a b c, d = .func a b c
    | .m => ∃ a b, d = .map a b
    | .l => ∃ a, d = .slice a := by
  cases d <;> simp only [kdOf] at h <;> cases h <;> simp

theorem depth_succ : ∃ d, Op.maxDepth = d + 1 := ⟨9999, rfl⟩

/-- A guard of '==' that says nothing. -/
theorem eqGuard_idle {op : BinOp} {t : TypeId} {X Y : Operand} {a b : Value} (h : match a, b with
    | .nilIface, .nilIface => False
    | .agg _, .agg _ => False
    | _, _ => True) (w : World) : (eqGuard op t X Y a b).run P w = .ok () w := by
  unfold eqGuard
  cases op <;> simp
  all_goals (split <;> first | exact (h : False).elim | rfl)

theorem binE_snd {m : M} {t : TypeId} {i : TI} {kd : Kd} {op : BinOp} {x y x' y' v : Value} {X Y : Operand} (K : Knows P t i) (hk : kdOf i.d = some kd) (h : binE kd op x y = some v)
    (hx : VRel m x x') (hy : VRel m y y') (w : World) : Gives P m w (do eqGuard op t X Y x' y'; binOp op t x' y') v := by
  have hkd := kd_spec hk
  obtain ⟨d, hd⟩ := depth_succ
  unfold binE at h
  cases kd with
  | i =>
    simp only at h
    split at h
    · rename_i j a k b
      cases hx.int_inv; cases hy.int_inv
      have hi : ∀ w, (eqGuard op t X Y (.int j a) (.int k b)).run P w = .ok () w := eqGuard_idle (by simp)
      have key : (binOp op t (.int j a) (.int k b)).run P w = .ok v w ∧ plain v = true := by
        have hp : plain v = true := by
          cases op <;> simp only [shiftE, intE, bitsN] at h <;> (repeat' split at h) <;> cases h <;> rfl
        refine ⟨?_, hp⟩
        split at h
        · exact shiftE_snd t (.inl rfl) h w
        · exact shiftE_snd t (.inr rfl) h w
        · split at h
          · rename_i hs
            rw [sameK_eq] at hs
            have : j = k := by simpa using hs
            subst this
            exact intE_snd t h w
          · cases h
      exact ⟨v, by simp [hi, key.1], .same key.2⟩
    · cases h
  | s =>
    simp only at h
    split at h
    · cases hx.string_inv; cases hy.string_inv
      rename_i a b
      have hi : ∀ w, (eqGuard op t X Y (.string a) (.string b)).run P w = .ok () w := eqGuard_idle (by simp)
      have hp : plain v = true := by
        cases op <;> simp only [strE, strOf] at h <;> (repeat' split at h) <;> cases h <;> rfl
      exact ⟨v, by simp [hi, strE_snd t h w], .same hp⟩
    · cases h
  | b =>
    simp only at h
    split at h
    · cases hx.bool_inv; cases hy.bool_inv
      rename_i a b
      have hi : ∀ w, (eqGuard op t X Y (.bool a) (.bool b)).run P w = .ok () w := eqGuard_idle (by simp)
      have he : (Op.equal t (.bool a) (.bool b)).run P w = .ok (a == b) w := by
        simp only [Op.equal, hd, Op.equalIn, Sem.run_bind, K.und, Result.andThen_ok, hkd]; rfl
      have h' : negB op (a == b) = some v := by cases op <;> simp only [boolE, negB] at h ⊢ <;> exact h
      have hp : plain v = true := by cases op <;> simp only [negB] at h' <;> cases h' <;> rfl
      exact ⟨v, by simp only [Sem.run_bind, hi, Result.andThen_ok]; exact eqn_snd he rfl rfl h', .same hp⟩
    · cases h
  | p =>
    obtain ⟨e, hde⟩ := hkd
    simp only at h
    have hp : plain v = true := by
      (repeat' split at h) <;> first | cases h | (cases op <;> simp only [negB] at h <;> cases h <;> rfl)
    split at h
    · cases hx.nilp_inv; cases hy.nilp_inv
      have he : (Op.equal t (.pointer none) (.pointer none)).run P w = .ok true w := by
        simp only [Op.equal, hd, Op.equalIn, Sem.run_bind, K.und, Result.andThen_ok, hde]; rfl
      exact ⟨v, by simp only [Sem.run_bind, eqGuard_idle, Result.andThen_ok]; exact eqn_snd he rfl rfl h, .same hp⟩
    · cases hy.nilp_inv
      obtain ⟨b, o, l, rfl, _, rfl⟩ := hx.ptr_inv
      have he : (Op.equal t (.pointer (some ⟨l.blk, l.off + o, none⟩)) (.pointer none)).run P w = .ok false w := by
        simp only [Op.equal, hd, Op.equalIn, Sem.run_bind, K.und, Result.andThen_ok, hde]; rfl
      exact ⟨v, by simp only [Sem.run_bind, eqGuard_idle, Result.andThen_ok]; exact eqn_snd he rfl rfl h, .same hp⟩
    · cases hx.nilp_inv
      obtain ⟨b, o, l, rfl, _, rfl⟩ := hy.ptr_inv
      have he : (Op.equal t (.pointer none) (.pointer (some ⟨l.blk, l.off + o, none⟩))).run P w = .ok false w := by
        simp only [Op.equal, hd, Op.equalIn, Sem.run_bind, K.und, Result.andThen_ok, hde]; rfl
      exact ⟨v, by simp only [Sem.run_bind, eqGuard_idle, Result.andThen_ok]; exact eqn_snd he rfl rfl h, .same hp⟩
    · cases h
  | f =>
    obtain ⟨e1, e2, e3, hde⟩ := hkd
    simp only at h
    have hp : plain v = true := by
      (repeat' split at h) <;> first | cases h | (cases op <;> simp only [negB] at h <;> cases h <;> rfl)
    split at h
    · cases hx.nilf_inv; cases hy.nilf_inv
      have he : (Op.equal t .nilFunc .nilFunc).run P w = .ok true w := by
        simp only [Op.equal, hd, Op.equalIn, Sem.run_bind, K.und, Result.andThen_ok, hde]; rfl
      exact ⟨v, by simp only [Sem.run_bind, eqGuard_idle, Result.andThen_ok]; exact eqn_snd he rfl rfl h, .same hp⟩
    · cases hy.nilf_inv
      obtain ⟨f', c', rfl, _, _⟩ := hx.func_inv
      refine ⟨v, ?_, .same hp⟩
      simp only [Sem.run_bind, eqGuard_idle, Result.andThen_ok]
      refine eqn_snd (r := false) ?_ rfl rfl h
      simp only [Op.equal, hd, Op.equalIn, Sem.run_bind, K.und, Result.andThen_ok, hde]; rfl
    · cases h
  | m =>
    obtain ⟨e1, e2, hde⟩ := hkd
    simp only at h
    have hp : plain v = true := by
      (repeat' split at h) <;> first | cases h | (cases op <;> simp only [negB] at h <;> cases h <;> rfl)
    split at h
    · cases hx.nilm_inv; cases hy.nilm_inv
      have he : (Op.equal t (.map none) (.map none)).run P w = .ok true w := by
        simp only [Op.equal, hd, Op.equalIn, Sem.run_bind, K.und, Result.andThen_ok, hde]; rfl
      exact ⟨v, by simp only [Sem.run_bind, eqGuard_idle, Result.andThen_ok]; exact eqn_snd he rfl rfl h, .same hp⟩
    · cases hy.nilm_inv
      obtain ⟨l, _, rfl⟩ := hx.map_inv
      have he : (Op.equal t (.map (some l.blk)) (.map none)).run P w = .ok false w := by
        simp only [Op.equal, hd, Op.equalIn, Sem.run_bind, K.und, Result.andThen_ok, hde]; rfl
      exact ⟨v, by simp only [Sem.run_bind, eqGuard_idle, Result.andThen_ok]; exact eqn_snd he rfl rfl h, .same hp⟩
    · cases h
  | l =>
    obtain ⟨e1, hde⟩ := hkd
    simp only at h
    have hp : plain v = true := by
      (repeat' split at h) <;> first | cases h | (cases op <;> simp only [negB] at h <;> cases h <;> rfl)
    split at h
    · obtain ⟨rfl, _, _⟩ := hx.nils_inv; obtain ⟨rfl, _, _⟩ := hy.nils_inv
      refine ⟨v, ?_, .same hp⟩
      simp only [Sem.run_bind, eqGuard_idle, Result.andThen_ok]
      refine eqn_snd (r := true) ?_ rfl rfl h
      simp only [Op.equal, hd, Op.equalIn, Sem.run_bind, K.und, Result.andThen_ok, hde]; rfl
    · obtain ⟨rfl, _, _⟩ := hy.nils_inv
      obtain ⟨b, o, l, a', cap, rfl, _, rfl, _⟩ := hx.slice_inv
      refine ⟨v, ?_, .same hp⟩
      simp only [Sem.run_bind, eqGuard_idle, Result.andThen_ok]
      refine eqn_snd (r := false) ?_ rfl rfl h
      simp only [Op.equal, hd, Op.equalIn, Sem.run_bind, K.und, Result.andThen_ok, hde]; rfl
    · cases h

theorem unE_snd {m : M} {op : UnOp} {x x' v : Value} (h : unE op x = some v) (hx : VRel m x x') (w : World) : Gives P m w (Op.unary op x') v := by
  unfold unE at h
  split at h
  · cases hx.bool_inv; cases h; exact ⟨_, rfl, .same rfl⟩
  · cases hx.int_inv; cases h; exact ⟨_, by simp [Op.unary, Op.intArith, wrapQ_eq], .same rfl⟩
  · cases h

end Am
end Go.Proofs.YtbfbaofhnnnohaaGreatDoor

/- The abstract machine, part 8: keys, structs compared. -/
namespace Go.Proofs.YtbfbaofhnnnohaaGreatDoor
namespace Am
variable {P : Program}

theorem fitCell_plain {k : Nat} {v : Value} (h : fitCell k v = true) : plain v = true := by
  cases v <;> simp_all [fitCell, plain]

theorem fitCell_rel {m : M} {k : Nat} {v v' : Value} (h : fitCell k v = true) (r : VRel m v v') : v' = v := by
  cases v <;> simp only [fitCell] at h <;> first | cases h; done | skip
  · exact r.bool_inv
  · exact r.int_inv
  · exact r.string_inv

theorem fitAll_rel {m : M} : ∀ {ks : List Nat} {l l' : List Value}, fitAll ks l = true → VRels m l l' → l' = l
  | [], [], _, _, r => by cases r; rfl
  | k :: ks, v :: l, _, h, r => by
    unfold fitAll at h
    cases hv : fitCell k v <;> rw [hv] at h
    · cases h
    · cases r with
      | cons hx t => rw [fitCell_rel hv hx, fitAll_rel h t]
  | [], _ :: _, _, h, _ => by simp [fitAll] at h
  | _ :: _, [], _, h, _ => by simp [fitAll] at h

/-- Of two cells that can be compared each is of the same make. -/
theorem cellEq_fit {a b : Value} {r : Bool} {k : Nat} (h : cellEq a b = some r) (hk : fitCell k a = true) : fitCell k b = true := by
  unfold cellEq at h
  split at h
  · exact hk
  · exact hk
  · exact hk
  · cases h

theorem cellsEq_fit : ∀ {ks : List Nat} {a b : List Value}, cellsEq a b = some true → fitAll ks a = true → fitAll ks b = true
  | [], [], [], _, h => h
  | k :: ks, v :: l, u :: l', e, h => by
    unfold fitAll at h ⊢
    cases hv : fitCell k v <;> rw [hv] at h
    · cases h
    · simp only [cellsEq] at e
      split at e
      · rename_i hc
        rw [cellEq_fit hc hv]
        exact cellsEq_fit e h
      · cases e
      · cases e
  | _, [], _ :: _, e, _ => by simp [cellsEq] at e
  | _, _ :: _, [], e, _ => by simp [cellsEq] at e
  | [], _ :: _, _ :: _, _, h => by simp [fitAll] at h
  | _ :: _, [], [], _, h => by simp [fitAll] at h

/-- Two cells of a plain type, compared by the model. -/
theorem cell_equal {t : TypeId} {d : TypeDesc} {k : Nat} (hu : P.underlying t = some d) (hs : flatScalar d = some k) {a b : Value} {r : Bool} (h : cellEq a b = some r)
    (hk : fitCell k a = true) (n : Nat) (w : World) : (Op.equalIn (n + 1) t a b).run P w = .ok r w := by
  unfold cellEq at h
  split at h
  · rename_i j x j' y
    split at h
    · rename_i hj
      cases h
      rw [sameK_eq] at hj
      have : j = j' := by simpa using hj
      subst this
      have : ∃ q, d = .int q := by
        cases d <;> simp only [flatScalar] at hs <;> cases hs <;> simp_all [fitCell]
      obtain ⟨q, rfl⟩ := this
      rw [run_equalIn_int w n t _ _ _ _ hu, eqI_eq]
    · cases h
  · cases h
    have : d = .string := by
      cases d <;> simp only [flatScalar] at hs <;> cases hs <;> simp_all [fitCell]
    subst this
    rw [run_equalIn_string w n t _ _ hu, bytesEq_eq, ByteArray.toList_eq, ByteArray.toList_eq]; rfl
  · cases h
    have : d = .bool := by
      cases d <;> simp only [flatScalar] at hs <;> cases hs <;> simp_all [fitCell]
    subst this
    rw [run_equalIn_bool' w n t _ _ hu]
  · cases h

theorem flat_not_agg {d : TypeDesc} {k : Nat} (h : flatScalar d = some k) : isAggD d = false := by
  cases d <;> simp only [flatScalar] at h <;> first | rfl | cases h

theorem part_cell {t : TypeId} {i : TI} {k : Nat} (K : Knows P t i) (hs : flatScalar i.d = some k) {cs : Array Value} {off : Nat} {v : Value} (h : cs[off]? = some v) (w : World) :
    (part t cs off).run P w = .ok v w := by
  have ha : i.agg = false ∨ True := .inr trivial
  have hg : (isAgg t).run P w = .ok false w := by
    simp only [isAgg, Sem.run_bind, K.und, Result.andThen_ok]
    have := flat_not_agg hs
    revert this
    cases i.d <;> intro this <;> first | rfl | cases this
  simp [part, hg, h]

theorem drop_get {α : Type} {l : List α} {n : Nat} {x : α} {r : List α} (h : l.drop n = x :: r) : l[n]? = some x ∧ l.drop (n + 1) = r := by
  constructor
  · have := List.getElem?_drop (xs := l) (i := n) (j := 0)
    rw [h] at this
    simpa using this.symm
  · have : l.drop (n + 1) = (l.drop n).drop 1 := by simp [List.drop_drop]
    rw [this, h]; rfl

/-- The fields of a plain struct, compared by the model. -/
theorem fields_equal {ty : Ty} (hT : TyOk P ty) (xs ys : Array Value) (n : Nat) : ∀ (fs : List Field) (off : Nat) (ks : List Nat) (a b : List Value) (r : Bool) (w : World),
    flatFields ty fs off = some ks → xs.toList.drop off = a → ys.toList.drop off = b → fitAll ks a = true → cellsEq a b = some r →
    (Op.eqFields (n + 1) xs ys fs).run P w = .ok r w
  | [], off, ks, a, b, r, w, hf, ha, hb, hk, hc => by
    simp only [flatFields] at hf; cases hf
    cases a with
    | nil =>
      cases b with
      | nil => simp only [cellsEq] at hc; cases hc; rfl
      | cons _ _ => simp [cellsEq] at hc
    | cons _ _ => simp [fitAll] at hk
  | f :: fs, off, ks, a, b, r, w, hf, ha, hb, hk, hc => by
    simp only [flatFields] at hf
    split at hf
    · rename_i i hi
      split at hf
      · rename_i k' ks' h1 h2 h3
        cases hf
        simp only [Bool.and_eq_true, Bool.not_eq_true'] at h2
        have hoff := Nat.eq_of_beq_eq_true h2.1
        have hname : f.name ≠ "_" := by simpa using h2.2
        cases a with
        | nil => simp [fitAll] at hk
        | cons x a =>
          cases b with
          | nil => simp [cellsEq] at hc
          | cons y b =>
            have ⟨gx, dx⟩ := drop_get ha
            have ⟨gy, dy⟩ := drop_get hb
            have K := hT.knows hi
            have px : ∀ w, (part f.type xs f.offset).run P w = .ok x w := fun w => part_cell K h1 (by rw [hoff]; simpa using gx) w
            have py : ∀ w, (part f.type ys f.offset).run P w = .ok y w := fun w => part_cell K h1 (by rw [hoff]; simpa using gy) w
            unfold fitAll at hk
            cases hv : fitCell k' x <;> rw [hv] at hk
            · cases hk
            · simp only [cellsEq] at hc
              simp only [Op.eqFields, hname, ne_eq, not_false_eq_true, if_true, Sem.run_bind, px, py, Result.andThen_ok]
              split at hc
              · rename_i hce
                rw [cell_equal K.undp h1 hce hv n w]
                simp only [Result.andThen_ok, Bool.not_true, Bool.false_eq_true, if_false]
                exact fields_equal hT xs ys n fs (off + 1) ks' a b r w h3 dx dy hk hc
              · rename_i hce
                cases hc
                rw [cell_equal K.undp h1 hce hv n w]
                rfl
              · cases hc
      · cases hf
    · cases hf

theorem struct_equal {ty : Ty} (hT : TyOk P ty) {t : TypeId} {i : TI} {ks : List Nat} (K : Knows P t i) (hf : flatStruct ty i = some ks) {xs ys : Array Value} {r : Bool}
    (hk : fitAll ks xs.toList = true) (hc : cellsEq xs.toList ys.toList = some r) (n : Nat) (w : World) : (Op.equalIn (n + 2) t (.agg xs) (.agg ys)).run P w = .ok r w := by
  unfold flatStruct at hf
  split at hf
  · rename_i fs hd
    split at hf
    · cases hf
    · rename_i hs
      simp only [Bool.or_eq_false_iff] at hs
      have hu : P.underlying t = some (.struct fs) := by rw [K.undp, hd]
      have hfo : P.fieldsOf t = fs := by simp [Program.fieldsOf, hu]
      rw [run_equalIn_struct w (n + 1) t xs ys (by rw [hfo]; exact hu) (by rw [K.stood]; exact hs.1), hfo]
      exact fields_equal hT xs ys n fs.toList 0 ks _ _ r w hf (by simp) (by simp) hk hc
  · cases hf

/-- A key of the right make stands for itself. -/
theorem keyOk_rel {m : M} {kn : Ky} {v v' : Value} (h : keyOk kn v = true) (r : VRel m v v') : v' = v := by
  unfold keyOk at h
  split at h
  · exact fitCell_rel h r
  · split at h
    · rename_i x
      obtain ⟨c', rfl, hc⟩ := r.agg_inv
      have := fitAll_rel h hc
      cases c'; cases x; simp at this; rw [this]
    · cases h

/-- Two keys, compared by the model. -/
theorem key_equal {ty : Ty} (hT : TyOk P ty) {t : TypeId} {kn : Ky} (hk : keyType ty t = some kn) {a b : Value} {r : Bool} (ha : keyOk kn a = true) (h : keyEq a b = some r) (w : World) :
    (Op.equal t a b).run P w = .ok r w := by
  have hd : Op.maxDepth = 9998 + 2 := rfl
  unfold Op.equal
  generalize 9998 = n at hd
  rw [hd]
  unfold keyType at hk
  split at hk
  · rename_i i hi
    have K := hT.knows hi
    split at hk
    · rename_i k hs
      cases hk
      unfold keyEq at h
      split at h
      · simp [keyOk, fitCell] at ha
      · split at h
        · cases h
        · exact cell_equal K.undp hs h ha (n + 1) w
    · split at hk
      · rename_i ks hf
        cases hk
        unfold keyEq at h
        split at h
        · split at h
          · exact struct_equal hT K hf ha h n w
          · cases h
        · rename_i hna
          simp only [keyOk] at ha
          cases ha
      · cases hk
  · cases hk

end Am
end Go.Proofs.YtbfbaofhnnnohaaGreatDoor

/- The abstract machine, part 9: cells put together. -/
namespace Go.Proofs.YtbfbaofhnnnohaaGreatDoor
namespace Am
variable {P : Program}

theorem cells_rel {m : M} {v v' : Value} (h : VRel m v v') : VRels m (cellsOf v) v'.cells.toList := by
  cases h with
  | same h =>
    cases v <;> first | exact .cons (.same h) .nil | (simp [plain] at h)
  | ptr h => exact .cons (.ptr h) .nil
  | slice h hl ha hc => exact .cons (.slice h hl ha hc) .nil
  | map h => exact .cons (.map h) .nil
  | func hf hc => exact .cons (.func hf hc) .nil
  | iface h => exact .cons (.iface h) .nil
  | agg h => exact h
  | tuple h => exact .cons (.tuple h) .nil

theorem VRels.putAt {m : M} {a b x y : List Value} (h : VRels m a b) (g : VRels m x y) {o : Nat} (ho : o + x.length ≤ a.length) :
    VRels m (putAt a o x) (putAt b o y) := by
  have hl := h.length
  have gl := g.length
  refine VRels.of_get (by rw [putAt_length, putAt_length, hl]) fun i v e => ?_
  rw [putAt_get _ _ _ _ ho] at e
  rw [putAt_get _ _ _ _ (by omega)]
  by_cases hi : o ≤ i ∧ i < o + x.length
  · rw [if_pos hi] at e
    rw [if_pos (by omega)]
    exact g.get e
  · rw [if_neg hi] at e
    rw [if_neg (by omega)]
    exact h.get e

theorem putAt_cons : ∀ (c : List Value) (o : Nat) (x : Value) (xs : List Value), o + (xs.length + 1) ≤ c.length → putAt c o (x :: xs) = putAt (c.set o x) (o + 1) xs
  | [], o, x, xs, h => by simp at h
  | v :: c, 0, x, xs, h => by simp [putAt]
  | v :: c, o + 1, x, xs, h => by
    simp only [putAt, List.set_cons_succ]
    rw [putAt_cons c o x xs (by simp at h; omega)]

theorem putAt_nil : ∀ (c : List Value) (o : Nat), putAt c o [] = c
  | [], _ => rfl
  | v :: c, 0 => rfl
  | v :: c, o + 1 => by simp [putAt, putAt_nil c o]

theorem fold_put (off : Nat) : ∀ (l : List Value) (k : Nat) (cs : Array Value), off + k + l.length ≤ cs.size →
    ((l.zipIdx k).foldl (fun (cs : Array Value) (x : Value × Nat) => cs.setIfInBounds (off + x.2) x.1) cs).toList = putAt cs.toList (off + k) l
  | [], k, cs, _ => by simp [putAt_nil]
  | x :: l, k, cs, h => by
    simp only [List.zipIdx_cons, List.foldl_cons]
    rw [fold_put off l (k + 1) _ (by simp at h ⊢; omega), putAt_cons _ _ _ _ (by simp at h ⊢; omega)]
    simp [Nat.add_assoc]

theorem fill_step (off : Nat) (c cs : Array Value) (h : off + c.size ≤ cs.size) :
    (c.zipIdx.foldl (fun (cs : Array Value) (x : Value × Nat) => cs.setIfInBounds (off + x.2) x.1) cs).toList = putAt cs.toList off c.toList := by
  have := fold_put off c.toList 0 cs (by simpa using h)
  rw [← Array.foldl_toList, Array.toList_zipIdx]
  simpa using this

theorem fill_snd {m : M} {e : Env} {a : Act} {n : Nat} {place : Nat → Option (Nat × Nat)} (he : ERel m e a.tmps) : ∀ {parts : List (Nat × Operand)} {l : List (Nat × Nat × CO)}
    {pl : List (Nat × List Value)} {z cs : List Value} {z' : Array Value}, partsOf n place parts = some l → partsE e l = some pl → fillE z pl = some cs → VRels m z z'.toList →
    ∃ cs', Instr.fill place z' (parts.map fun x => (x.1, a.eval x.2)) = some cs' ∧ VRels m cs cs'.toList
  | [], l, pl, z, cs, z', h1, h2, h3, hz => by
    simp only [partsOf] at h1; cases h1
    simp only [partsE] at h2; cases h2
    simp only [fillE] at h3; cases h3
    exact ⟨z', rfl, hz⟩
  | (i, x) :: parts, l, pl, z, cs, z', h1, h2, h3, hz => by
    simp only [partsOf] at h1
    split at h1
    · rename_i o s c r hp hc hr
      cases h1
      simp only [partsE] at h2
      split at h2
      · cases h2
      · rename_i v hv
        split at h2
        · cases h2
        · rename_i hs
          split at h2
          · cases h2
          · rename_i pr hpr
            cases h2
            simp only [fillE] at h3
            split at h3
            · rename_i hb
              have hv' := coOf_rel he hc hv
              have hcr := cells_rel hv'
              have hln := Nat.eq_of_beq_eq_true hs
              have hle := Nat.le_of_ble_eq_true hb
              rw [lenN_eq] at hln
              rw [lenN_eq, lenN_eq] at hle
              have hcl := hcr.length
              have hzl := hz.length
              have hc1 : (a.eval x).cells.toList.length = (a.eval x).cells.size := Array.length_toList
              have hz1 : z'.toList.length = z'.size := Array.length_toList
              have hsz : (a.eval x).cells.size = s := by omega
              have hof : ¬ (o + (a.eval x).cells.size > z'.size) := by omega
              have hst := fill_step o (a.eval x).cells z' (by omega)
              obtain ⟨cs', hf, hcs⟩ := fill_snd he (z' := (a.eval x).cells.zipIdx.foldl (fun (cs : Array Value) (x : Value × Nat) => cs.setIfInBounds (o + x.2) x.1) z') hr hpr h3
                (by rw [hst]; exact hz.putAt hcr (by omega))
              refine ⟨cs', ?_, hcs⟩
              simp only [List.map_cons, Instr.fill, hp]
              have hcond : (decide ((a.eval x).cells.size ≠ s) || decide (o + (a.eval x).cells.size > z'.size)) = false := by
                simp only [Bool.or_eq_false_iff, decide_eq_false_iff_not, ne_eq, Decidable.not_not]
                exact ⟨hsz, hof⟩
              simp only [hcond, Bool.false_eq_true, if_false]
              exact hf
            · cases h3
    · cases h1

theorem places_snd {ty : Ty} (hT : TyOk P ty) : ∀ {fs : List Field} {ps : List (Nat × Nat)}, placesOf ty fs = some ps → ∀ w,
    (fs.mapM fun f => (do pure (f.offset, ← sizeOf f.type) : Sem (Nat × Nat))).run P w = .ok ps w
  | [], ps, h, w => by simp only [placesOf] at h; cases h; rfl
  | f :: fs, ps, h, w => by
    simp only [placesOf] at h
    split at h
    · rename_i i r hi hr
      cases h
      have K := hT.knows hi
      have ih := places_snd hT hr
      simp only [List.mapM_cons, Sem.run_bind, K.size, Result.andThen_ok, Sem.run_pure, ih]
    · cases h

theorem mapM_array {α β : Type} (f : α → Sem β) (xs : Array α) : xs.mapM f = List.toArray <$> xs.toList.mapM f := Array.mapM_eq_mapM_toList

/-- A struct, or an array, that is put together. -/
theorem bld_snd {ty : Ty} (hT : TyOk P ty) {m : M} {e : Env} {a : Act} {n : Nat} (he : ERel m e a.tmps) {t : TypeId} {i : TI} (K : Knows P t i) (hz : plainD i.zero = true)
    {parts : List (Nat × Operand)} {l : List (Nat × Nat × CO)} {pl : List (Nat × List Value)} {cs : List Value} (h2 : partsE e l = some pl) (h3 : fillE (cellsOf i.zero) pl = some cs)
    (hd : (∃ fs ps, i.d = .struct fs ∧ placesOf ty fs.toList = some ps ∧ partsOf n (fun j => ps[j]?) parts = some l) ∨
      (∃ k el j, i.d = .array k el ∧ ty el = some j ∧ partsOf n (fun q => some (q * j.size, j.size)) parts = some l)) (w : World) :
    Gives P m w (Instr.build t ((parts.map fun x => (x.1, a.eval x.2)).toArray)) (.agg ⟨cs⟩) := by
  have hzr : VRels m (cellsOf i.zero) i.zero.cells.toList := cells_rel (plainD_rel hz)
  rcases hd with ⟨fs, ps, hd, hp, hl⟩ | ⟨k, el, j, hd, hj, hl⟩
  · obtain ⟨cs', hf, hcs⟩ := fill_snd he hl h2 h3 hzr
    refine ⟨.agg cs', ?_, by cases cs'; exact .agg hcs⟩
    have hps := places_snd hT hp
    simp only [Instr.build, Sem.run_bind, K.zero, Result.andThen_ok, K.und, hd, mapM_array, Sem.run_map, hps]
    have hfn : (fun x => (ps.toArray)[x]? : Nat → Option (Nat × Nat)) = fun j => ps[j]? := by funext x; simp
    rw [show (fun x => (List.toArray ps)[x]?) = fun j => ps[j]? from hfn]
    simp [hf]
  · obtain ⟨cs', hf, hcs⟩ := fill_snd he hl h2 h3 hzr
    refine ⟨.agg cs', ?_, by cases cs'; exact .agg hcs⟩
    have Kj := hT.knows hj
    simp only [Instr.build, Sem.run_bind, K.zero, Result.andThen_ok, K.und, hd, Kj.size]
    simp [hf]

end Am
end Go.Proofs.YtbfbaofhnnnohaaGreatDoor

/- The abstract machine, part 10: its pure operations are the model's. -/
namespace Go.Proofs.YtbfbaofhnnnohaaGreatDoor
namespace Am
variable {P : Program}

theorem add_none (b o n : Nat) : (⟨b, o, none⟩ : Addr).add n = ⟨b, o + n, none⟩ := by
  unfold Addr.add
  split
  · rename_i h; subst h; rfl
  · rfl

/-- What an operation that computes hands back. -/
def PSnd (P : Program) (m : M) (w : World) (a : Act) (x : Oper) (v : Value) : Prop := ∃ v', (execOp a.eval x).run P w = .ok (.value v') w ∧ VRel m v v'

theorem psnd_of {m : M} {w : World} {a : Act} {x : Oper} {v : Value} {s : Sem Value} (h : Gives P m w s v) (e : execOp a.eval x = (do pure (.value (← s)))) : PSnd P m w a x v := by
  obtain ⟨v', h1, h2⟩ := h
  exact ⟨v', by rw [e]; simp [h1], h2⟩

/-! bounds of slices -/

def IsBound (d : Nat) (n : Nat) : Option Value → Prop
  | none => n = d
  | some v => ∃ k, v = .int k (.ofNat n)

theorem natOf_spec {v : Value} {n : Nat} (h : natOf v = some n) : ∃ k, v = .int k (.ofNat n) := by
  unfold natOf at h
  split at h
  · cases h; exact ⟨_, rfl⟩
  · cases h

theorem bound_snd {m : M} {e : Env} {a : Act} {n d k : Nat} (he : ERel m e a.tmps) {x : Option Operand} {c : Option CO} (hc : coOpt n x = some c) (hv : boundE e d c = some k) :
    IsBound d k (x.map a.eval) := by
  cases x with
  | none => simp only [coOpt] at hc; cases hc; simp only [boundE] at hv; cases hv; rfl
  | some x =>
    simp only [coOpt] at hc
    split at hc
    · rename_i c' h1
      cases hc
      simp only [boundE] at hv
      split at hv
      · cases hv
      · rename_i v h2
        obtain ⟨kk, rfl⟩ := natOf_spec hv
        have := coOf_rel he h1 h2
        exact ⟨kk, this.int_inv⟩
    · cases hc

theorem sliceBound_snd (k : IntKind) (i y : Nat) (code : BoundsCode) (h : i ≤ y) (w : World) : (Instr.sliceBound (.int k (i : Int)) y code).run P w = .ok i w := by
  have h1 : (0 : Int) ≤ (i : Int) ∧ (i : Int) ≤ (y : Int) := ⟨Int.natCast_nonneg i, Int.ofNat_le.2 h⟩
  simp only [Instr.sliceBound, asIntOf, Sem.run_bind, Sem.run_pure, Result.andThen_ok]
  rw [if_pos h1]; rfl

theorem bounds_snd {b : Bool} {len cap l h : Nat} {lo hi : Option Value} (hl : IsBound 0 l lo) (hh : IsBound len h hi) (h1 : l ≤ h) (h2 : h ≤ cap) (w : World) :
    (Instr.sliceBounds b len cap lo hi none).run P w = .ok (l, h, cap) w := by
  unfold Instr.sliceBounds
  cases hi with
  | none =>
    cases hh
    cases lo with
    | none => cases hl; rfl
    | some v => obtain ⟨k, rfl⟩ := hl; simp [sliceBound_snd _ _ _ _ h1]
  | some v =>
    obtain ⟨k, rfl⟩ := hh
    cases lo with
    | none => cases hl; simp [sliceBound_snd _ _ _ _ h2]
    | some v => obtain ⟨k', rfl⟩ := hl; simp [sliceBound_snd _ _ _ _ h1, sliceBound_snd _ _ _ _ h2]

theorem bounds_max_snd {b : Bool} {len cap l h mx : Nat} {lo : Option Value} {hv mv : Value} (hl : IsBound 0 l lo) (hh : IsBound len h (some hv)) (hm : IsBound 0 mx (some mv)) (h1 : l ≤ h)
    (h2 : h ≤ mx) (h3 : mx ≤ cap) (w : World) : (Instr.sliceBounds b len cap lo (some hv) (some mv)).run P w = .ok (l, h, mx) w := by
  unfold Instr.sliceBounds
  obtain ⟨k, rfl⟩ := hh
  obtain ⟨k', rfl⟩ := hm
  cases lo with
  | none => cases hl; simp [sliceBound_snd _ _ _ _ h2, sliceBound_snd _ _ _ _ h3]
  | some v => obtain ⟨k'', rfl⟩ := hl; simp [sliceBound_snd _ _ _ _ h1, sliceBound_snd _ _ _ _ h2, sliceBound_snd _ _ _ _ h3]

theorem lenN_ble {l : List Value} {n : Nat} (h : Nat.ble n (lenN l 0) = true) : n ≤ l.length := by
  have := Nat.le_of_ble_eq_true h
  rw [lenN_eq] at this; omega

theorem cut_rels {m : M} {l l' : List Value} (h : VRels m l l') (o n : Nat) : VRels m ((l.drop o).take n) ((l'.drop o).take n) := (h.drop o).take n

theorem part_snd {ty : Ty} (hT : TyOk P ty) {m : M} {t : TypeId} {i : TI} (K : Knows P t i) {c : List Value} {cs : Array Value} (hc : VRels m c cs.toList) {off : Nat} {v : Value}
    (h : (match i.agg with
      | true => match Nat.ble (off + i.size) (lenN c 0) with
        | true => some (.agg ⟨(c.drop off).take i.size⟩)
        | false => none
      | false => nth c off) = some v) (w : World) : Gives P m w (part t cs off) v := by
  have _ := hT
  cases ha : i.agg <;> rw [ha] at h
  · simp only [nth_eq] at h
    obtain ⟨v', h1, h2⟩ := hc.get h
    refine ⟨v', ?_, h2⟩
    have : cs[off]? = some v' := by simpa using h1
    simp [part, K.agg, ha, this]
  · simp only at h
    split at h
    · cases h
      refine ⟨.agg (cs.extract off (off + i.size)), by simp [part, K.agg, ha, K.size], ?_⟩
      have e : cs.extract off (off + i.size) = ⟨(cs.toList.drop off).take i.size⟩ := by
        apply Array.ext'
        simp [List.take_drop]
      rw [e]
      exact .agg (cut_rels hc _ _)
    · cases h

end Am
end Go.Proofs.YtbfbaofhnnnohaaGreatDoor

/- The abstract machine, part 11: all pure operations. -/
namespace Go.Proofs.YtbfbaofhnnnohaaGreatDoor
namespace Am
variable {P : Program} {ty : Ty} {m : M} {e : Env} {a : Act} {n : Nat} {x : Oper} {v : Value} {w : World}

theorem mv_snd (he : ERel m e a.tmps) {y : Operand} {c : CO} (hx : x.op = .move y ∨ x.op = .assign y) (hc : coOf n y = some c) (hv : c.ev e = some v) : PSnd P m w a x v := by
  refine ⟨a.eval y, ?_, coOf_rel he hc hv⟩
  rcases hx with hx | hx <;> simp [execOp, hx]

theorem pick_snd (he : ERel m e a.tmps) {c y z : Operand} {c' y' z' : CO} (hx : x.op = .pick c y z) (h1 : coOf n c = some c') (h2 : coOf n y = some y') (h3 : coOf n z = some z')
    (hv : (PO.pick c' y' z').ev e = some v) : PSnd P m w a x v := by
  simp only [PO.ev] at hv
  split at hv
  · rename_i hc
    have := (coOf_rel he h1 hc).bool_inv
    exact ⟨a.eval y, by simp [execOp, hx, this, asBool], coOf_rel he h2 hv⟩
  · rename_i hc
    have := (coOf_rel he h1 hc).bool_inv
    exact ⟨a.eval z, by simp [execOp, hx, this, asBool], coOf_rel he h3 hv⟩
  · cases hv

theorem nck_snd (he : ERel m e a.tmps) {y : Operand} {c : CO} (hx : x.op = .nilCheck y) (hc : coOf n y = some c) (hv : (PO.nck c).ev e = some v) : PSnd P m w a x v := by
  simp only [PO.ev] at hv
  split at hv
  · rename_i ad h
    cases hv
    have r := coOf_rel he hc h
    obtain ⟨b, o, l, rfl, hm, hy⟩ := r.ptr_inv
    exact ⟨_, by simp [execOp, hx, hy], .ptr hm⟩
  · rename_i f p q h
    cases hv
    have r := coOf_rel he hc h
    obtain ⟨f', c', hy, h1, h2⟩ := r.func_inv
    refine ⟨.func (.func f) f' c', by simp [execOp, hx, hy], ?_⟩
    cases p; cases q; cases f'; cases c'; exact .func h1 h2
  · cases hv

theorem conv_snd (hT : TyOk P ty) (he : ERel m e a.tmps) {s d : TypeId} {y : Operand} {c : CO} {i j : TI} {k k' : IntKind} (hx : x.op = .convert s d y) (h1 : ty s = some i) (h2 : ty d = some j)
    (h3 : i.d = .int k') (h4 : j.d = .int k) (hc : coOf n y = some c) (hv : (PO.conv k c).ev e = some v) : PSnd P m w a x v := by
  simp only [PO.ev] at hv
  split at hv
  · rename_i q z h
    cases hv
    have r := (coOf_rel he hc h).int_inv
    refine ⟨.int k (k.wrap z), ?_, by rw [wrapQ_eq]; exact .same rfl⟩
    have K1 := hT.knows h1
    have K2 := hT.knows h2
    simp [execOp, hx, convert, K1.und, K2.und, h3, h4, r, Conv.intToInt]
  · cases hv

theorem convS_snd (hT : TyOk P ty) (he : ERel m e a.tmps) {s d : TypeId} {y : Operand} {c : CO} {i j : TI} (hx : x.op = .convert s d y) (h1 : ty s = some i) (h2 : ty d = some j)
    (h3 : i.d = .string) (h4 : j.d = .string) (hc : coOf n y = some c) (hv : (PO.cstr c).ev e = some v) : PSnd P m w a x v := by
  simp only [PO.ev] at hv
  split at hv
  · rename_i s h
    cases hv
    have r := (coOf_rel he hc h).string_inv
    refine ⟨.string s, ?_, .same rfl⟩
    have K1 := hT.knows h1
    have K2 := hT.knows h2
    simp [execOp, hx, convert, K1.und, K2.und, h3, h4, r]
  · cases hv

theorem mkf_snd (he : ERel m e a.tmps) {f : FuncId} {p q : Array Operand} {p' q' : List CO} (hx : x.op = .makeFunc (.func f) p q) (h1 : cosOf n p.toList = some p') (h2 : cosOf n q.toList = some q')
    (hv : (PO.mkf f p' q').ev e = some v) : PSnd P m w a x v := by
  simp only [PO.ev] at hv
  split at hv
  · rename_i vs us e1 e2
    cases hv
    have r1 := cosOf_rel he h1 e1
    have r2 := cosOf_rel he h2 e2
    refine ⟨.func (.func f) (p.map a.eval) (q.map a.eval), by simp [execOp, hx, Instr.makeFunc], ?_⟩
    have g1 : p.map a.eval = ⟨p.toList.map a.eval⟩ := by apply Array.ext'; simp
    have g2 : q.map a.eval = ⟨q.toList.map a.eval⟩ := by apply Array.ext'; simp
    rw [g1, g2]
    exact .func r1 r2
  · cases hv

theorem slS_snd (hT : TyOk P ty) (he : ERel m e a.tmps) {t : TypeId} {y : Operand} {lo hi : Option Operand} {c : CO} {lo' hi' : Option CO} {i : TI} (hx : x.op = .slice t y lo hi none) (h1 : ty t = some i)
    (h2 : i.d = .string) (hc : coOf n y = some c) (hl : coOpt n lo = some lo') (hh : coOpt n hi = some hi') (hv : (PO.slS c lo' hi').ev e = some v) : PSnd P m w a x v := by
  simp only [PO.ev] at hv
  split at hv
  · rename_i s hs
    split at hv
    · rename_i l h e1 e2
      split at hv
      · rename_i b1 b2
        cases hv
        have r := (coOf_rel he hc hs).string_inv
        have hl' := bound_snd he hl e1
        have hh' := bound_snd he hh e2
        have hle := Nat.le_of_ble_eq_true b1
        have hhe := Nat.le_of_ble_eq_true b2
        rw [len8_eq, ← size_sl] at hhe hh'
        simp only [Nat.zero_add] at hhe hh'
        have K := hT.knows h1
        refine ⟨.string (s.extract l h), ?_, by rw [extract_sl]; exact .same rfl⟩
        have hb := fun w => bounds_snd (P := P) (b := false) (len := s.size) (cap := s.size) hl' hh' hle hhe w
        simp only [execOp, hx, Instr.sliceAt, Sem.run_bind, K.und, h2, Result.andThen_ok, Instr.slice, r, Option.map_none, Option.isSome_none, Bool.false_eq_true, if_false, hb, Sem.run_pure]
      · cases hv
    · cases hv
  · cases hv

theorem slA_snd (hT : TyOk P ty) (he : ERel m e a.tmps) {t el : TypeId} {y : Operand} {lo hi : Option Operand} {c : CO} {lo' hi' : Option CO} {i j : TI} {k : Nat} (hx : x.op = .slice t y lo hi none)
    (h1 : ty t = some i) (h2 : i.d = .array k el) (h3 : ty el = some j) (hc : coOf n y = some c) (hl : coOpt n lo = some lo') (hh : coOpt n hi = some hi')
    (hv : (PO.slA k j.size c lo' hi').ev e = some v) : PSnd P m w a x v := by
  simp only [PO.ev] at hv
  split at hv
  · rename_i b o hs
    split at hv
    · rename_i l h e1 e2
      split at hv
      · rename_i b1 b2
        cases hv
        have r := coOf_rel he hc hs
        obtain ⟨b', o', ll, hbo, hm, hy⟩ := r.ptr_inv
        cases hbo
        have hl' := bound_snd he hl e1
        have hh' := bound_snd he hh e2
        have hle := Nat.le_of_ble_eq_true b1
        have hhe := Nat.le_of_ble_eq_true b2
        have K := hT.knows h1
        have Kj := hT.knows h3
        have hb := fun w => bounds_snd (P := P) (b := false) (len := k) (cap := k) hl' hh' hle hhe w
        refine ⟨.slice (some (if k = l then ⟨ll.blk, ll.off + o, none⟩ else (⟨ll.blk, ll.off + o, none⟩ : Addr).add (l * j.size))) (h - l) (k - l), ?_, ?_⟩
        · simp only [execOp, hx, Instr.sliceAt, Sem.run_bind, K.und, h2, Result.andThen_ok, hy, Instr.sureAddr, Sem.run_pure, Option.map_none, hb, Kj.size]
        · refine .slice hm (by omega) ?_ ?_
          · by_cases hk : k = l
            · left; omega
            · right; rw [if_neg hk, add_none, Nat.add_assoc]
          · unfold CapOk; rw [if_pos (by omega)]; omega
      · cases hv
    · cases hv
  · cases hv

theorem fa_snd (hT : TyOk P ty) (he : ERel m e a.tmps) {t : TypeId} {y : Operand} {f : Nat} {c : CO} {i j : TI} {fs : Array Field} {fd : Field} (hx : x.op = .fieldAddr t y f) (h1 : ty t = some i)
    (h2 : i.d = .struct fs) (h3 : fs.toList[f]? = some fd) (h4 : ty fd.type = some j) (h5 : 1 ≤ j.size) (hc : coOf n y = some c) (hv : (PO.fa fd.offset c).ev e = some v) : PSnd P m w a x v := by
  simp only [PO.ev] at hv
  split at hv
  · rename_i b o hs
    cases hv
    have r := coOf_rel he hc hs
    obtain ⟨b', o', ll, hbo, hm, hy⟩ := r.ptr_inv
    cases hbo
    have K := hT.knows h1
    have Kj := hT.knows h4
    have hf : fs[f]? = some fd := by simpa using h3
    refine ⟨.pointer (some ⟨ll.blk, ll.off + (o + fd.offset), none⟩), ?_, .ptr hm⟩
    have hne : ¬ j.size = 0 := by omega
    simp [execOp, hx, Instr.fieldAt, K.und, h2, hf, hy, Instr.sureAddr, fieldPlace, Kj.size, hne, add_none, Nat.add_assoc]
  · cases hv

theorem fld_snd (hT : TyOk P ty) (he : ERel m e a.tmps) {t : TypeId} {y : Operand} {f : Nat} {c : CO} {i j : TI} {fs : Array Field} {fd : Field} (hx : x.op = .field t y f) (h1 : ty t = some i)
    (h2 : i.d = .struct fs) (h3 : fs.toList[f]? = some fd) (h4 : ty fd.type = some j) (hc : coOf n y = some c) (hv : (PO.fld fd.offset j.size j.agg c).ev e = some v) : PSnd P m w a x v := by
  simp only [PO.ev] at hv
  split at hv
  · rename_i cs hs
    obtain ⟨cs', hy, hcs⟩ := (coOf_rel he hc hs).agg_inv
    have K := hT.knows h1
    have Kj := hT.knows h4
    have hf : fs[f]? = some fd := by simpa using h3
    obtain ⟨v', g1, g2⟩ := part_snd hT Kj hcs (off := fd.offset) hv w
    refine ⟨v', ?_, g2⟩
    simp [execOp, hx, Instr.field, K.und, h2, hf, hy, asAgg, g1]
  · cases hv

theorem iaL_snd (hT : TyOk P ty) (he : ERel m e a.tmps) {t el : TypeId} {y z : Operand} {c d : CO} {i j : TI} (hx : x.op = .indexAddr t y z) (h1 : ty t = some i)
    (h2 : i.d = .slice el) (h3 : ty el = some j) (hc : coOf n y = some c) (hd : coOf n z = some d) (hv : (PO.iaL j.size c d).ev e = some v) : PSnd P m w a x v := by
  simp only [PO.ev] at hv
  split at hv
  · rename_i b o len cc kk q hs hq
    split at hv
    · rename_i hlt
      cases hv
      have hl := Nat.le_of_ble_eq_true hlt
      have r := coOf_rel he hc hs
      have rq := (coOf_rel he hd hq).int_inv
      obtain ⟨b', o', ll, a', cap, hbo, hm, hy, hlc, ha, hcap⟩ := r.slice_inv
      cases hbo
      have K := hT.knows h1
      have Kj := hT.knows h3
      have ha' : a' = ⟨ll.blk, ll.off + o, none⟩ := by rcases ha with ha | ha; omega; exact ha
      refine ⟨.pointer (some ⟨ll.blk, ll.off + (o + q * j.size), none⟩), ?_, .ptr hm⟩
      have hlt' : (0 : Int) ≤ (q : Int) ∧ (q : Int) < (len : Int) := by omega
      simp [execOp, hx, Instr.indexAt, K.und, h2, hy, rq, asIntOf, Kj.size, hlt', ha', add_none, Nat.add_assoc]
      intro hneg; omega
    · cases hv
  · cases hv

theorem iaA_snd (hT : TyOk P ty) (he : ERel m e a.tmps) {t el : TypeId} {y z : Operand} {c d : CO} {i j : TI} {k : Nat} (hx : x.op = .indexAddr t y z) (h1 : ty t = some i)
    (h2 : i.d = .array k el) (h3 : ty el = some j) (hc : coOf n y = some c) (hd : coOf n z = some d) (hv : (PO.iaA k j.size c d).ev e = some v) : PSnd P m w a x v := by
  simp only [PO.ev] at hv
  split at hv
  · rename_i b o kk q hs hq
    split at hv
    · rename_i hlt
      cases hv
      have hl := Nat.le_of_ble_eq_true hlt
      have r := coOf_rel he hc hs
      have rq := (coOf_rel he hd hq).int_inv
      obtain ⟨b', o', ll, hbo, hm, hy⟩ := r.ptr_inv
      cases hbo
      have K := hT.knows h1
      have Kj := hT.knows h3
      refine ⟨.pointer (some ⟨ll.blk, ll.off + (o + q * j.size), none⟩), ?_, .ptr hm⟩
      have hlt' : (0 : Int) ≤ (q : Int) ∧ (q : Int) < (k : Int) := by omega
      simp [execOp, hx, Instr.indexAt, K.und, h2, hy, rq, asIntOf, Kj.size, hlt', Instr.sureAddr, add_none, Nat.add_assoc]
      intro hneg; omega
    · cases hv
  · cases hv

theorem ixA_snd (hT : TyOk P ty) (he : ERel m e a.tmps) {t el : TypeId} {y z : Operand} {c d : CO} {i j : TI} {k : Nat} (hx : x.op = .index t y z) (h1 : ty t = some i)
    (h2 : i.d = .array k el) (h3 : ty el = some j) (hc : coOf n y = some c) (hd : coOf n z = some d) (hv : (PO.ixA k j.size j.agg c d).ev e = some v) : PSnd P m w a x v := by
  simp only [PO.ev] at hv
  split at hv
  · rename_i cs kk q hs hq
    split at hv
    · rename_i hlt
      have hl := Nat.le_of_ble_eq_true hlt
      obtain ⟨cs', hy, hcs⟩ := (coOf_rel he hc hs).agg_inv
      have rq := (coOf_rel he hd hq).int_inv
      have K := hT.knows h1
      have Kj := hT.knows h3
      obtain ⟨v', g1, g2⟩ := part_snd hT Kj hcs (off := q * j.size) hv w
      refine ⟨v', ?_, g2⟩
      have hlt' : (0 : Int) ≤ (q : Int) ∧ (q : Int) < (k : Int) := by omega
      simp [execOp, hx, Instr.index, K.und, h2, hy, rq, asIntOf, Kj.size, hlt', g1]
      intro hneg; omega
    · cases hv
  · cases hv

theorem ixS_snd (hT : TyOk P ty) (he : ERel m e a.tmps) {t : TypeId} {y z : Operand} {c d : CO} {i : TI} (hx : x.op = .index t y z) (h1 : ty t = some i)
    (h2 : i.d = .string) (hc : coOf n y = some c) (hd : coOf n z = some d) (hv : (PO.ixS c d).ev e = some v) : PSnd P m w a x v := by
  simp only [PO.ev] at hv
  split at hv
  · rename_i s kk q hs hq
    split at hv
    · rename_i b hb
      cases hv
      have r := (coOf_rel he hc hs).string_inv
      have rq := (coOf_rel he hd hq).int_inv
      have K := hT.knows h1
      have hb' : s[q]? = some b := by
        obtain ⟨hq, e⟩ := List.getElem?_eq_some_iff.1 hb
        have hq' : q < s.size := by rw [size_sl]; exact hq
        rw [getElem?_pos s q hq', ← e]
        rfl
      refine ⟨.int .u8 b.toNat, ?_, .same rfl⟩
      simp [execOp, hx, Instr.index, K.und, h2, r, rq, asIntOf, hb']
    · cases hv
  · cases hv

theorem ext_snd (he : ERel m e a.tmps) {y : Operand} {c : CO} {i : Nat} (hx : x.op = .extract y i) (hc : coOf n y = some c) (hv : (PO.ext i c).ev e = some v) : PSnd P m w a x v := by
  simp only [PO.ev] at hv
  split at hv
  · rename_i vs hs
    obtain ⟨vs', hy, hvs⟩ := (coOf_rel he hc hs).tuple_inv
    rw [nth_eq] at hv
    obtain ⟨v', g1, g2⟩ := hvs.get hv
    have g : vs'[i]? = some v' := by simpa using g1
    exact ⟨v', by simp [execOp, hx, Instr.extract, hy, g], g2⟩
  · cases hv

theorem bld_op_snd (hT : TyOk P ty) (he : ERel m e a.tmps) {t : TypeId} {i : TI} {parts : Array (Nat × Operand)} {l : List (Nat × Nat × CO)} (hx : x.op = .build t parts) (h1 : ty t = some i)
    (hz : plainD i.zero = true)
    (hd : (∃ fs ps, i.d = .struct fs ∧ placesOf ty fs.toList = some ps ∧ partsOf n (fun j => ps[j]?) parts.toList = some l) ∨
      (∃ k el j, i.d = .array k el ∧ ty el = some j ∧ partsOf n (fun q => some (q * j.size, j.size)) parts.toList = some l))
    (hv : (PO.bld (cellsOf i.zero) l).ev e = some v) : PSnd P m w a x v := by
  simp only [PO.ev] at hv
  split at hv
  · cases hv
  · rename_i pl hpl
    split at hv
    · cases hv
    · rename_i cs hcs
      cases hv
      refine psnd_of (bld_snd hT he (hT.knows h1) hz hpl hcs hd w) ?_
      have : (parts.map fun x => (x.1, a.eval x.2)) = (parts.toList.map fun x => (x.1, a.eval x.2)).toArray := by apply Array.ext'; simp
      simp only [execOp, hx]
      rw [← this]

theorem bin_op_snd (hT : TyOk P ty) (he : ERel m e a.tmps) {t u : TypeId} {op : BinOp} {y z : Operand} {c d : CO} {i : TI} {kd : Kd} (hx : x.op = .binOp op t y z u) (h1 : ty t = some i)
    (hk : kdOf i.d = some kd) (hc : coOf n y = some c) (hd : coOf n z = some d) (hv : (PO.bin kd op c d).ev e = some v) : PSnd P m w a x v := by
  simp only [PO.ev] at hv
  split at hv
  · rename_i p q hp hq
    refine psnd_of (binE_snd (X := y) (Y := z) (hT.knows h1) hk hv (coOf_rel he hc hp) (coOf_rel he hd hq) w) ?_
    simp only [execOp, hx]
  · cases hv

theorem cellsEq_rel {m : M} : ∀ {p q q' : List Value} {r : Bool}, cellsEq p q = some r → VRels m q q' → cellsEq p q' = some r
  | [], [], _, _, h, hq => by cases hq; exact h
  | [], _ :: _, _, _, h, _ => by simp [cellsEq] at h
  | _ :: _, [], _, _, h, _ => by simp [cellsEq] at h
  | a :: p, b :: q, _, r, h, hq => by
    cases hq with
    | cons hb t =>
      rename_i b' q'
      simp only [cellsEq] at h
      have hbb : ∀ s, cellEq a b = some s → b' = b := by
        intro s hs
        unfold cellEq at hs
        split at hs
        · exact hb.int_inv
        · exact hb.string_inv
        · exact hb.bool_inv
        · cases hs
      split at h
      · rename_i hc
        rw [hbb _ hc]
        simp only [cellsEq, hc]
        exact cellsEq_rel h t
      · rename_i hc
        rw [hbb _ hc]
        simp only [cellsEq, hc]
        exact h
      · cases h

theorem eqA_op_snd (hT : TyOk P ty) (he : ERel m e a.tmps) {t u : TypeId} {op : BinOp} {y z : Operand} {c d : CO} {i : TI} {ks : List Nat} {neg : Bool} (hx : x.op = .binOp op t y z u) (h1 : ty t = some i)
    (hk : flatStruct ty i = some ks) (ho : op = if neg then .neq else .eql) (hc : coOf n y = some c) (hd : coOf n z = some d) (hv : (PO.eqA ks neg c d).ev e = some v) : PSnd P m w a x v := by
  simp only [PO.ev] at hv
  split at hv
  · rename_i p q hp hq
    split at hv
    · rename_i r hf hce
      cases hv
      have K := hT.knows h1
      obtain ⟨p', hy, hp'⟩ := (coOf_rel he hc hp).agg_inv
      obtain ⟨q', hz, hq'⟩ := (coOf_rel he hd hq).agg_inv
      have ep := fitAll_rel hf hp'
      have hg : P.eqGuardType P.depth t = false := by
        rw [K.guard]
        unfold flatStruct at hk
        split at hk
        · split at hk
          · cases hk
          · rename_i hs
            simp only [Bool.or_eq_false_iff] at hs
            exact hs.2
        · cases hk
      have hce' : cellsEq p'.toList q'.toList = some r := by rw [ep]; exact cellsEq_rel hce hq'
      have hf' : fitAll ks p'.toList = true := by rw [ep]; exact hf
      have he' : (Op.equal t (.agg p') (.agg q')).run P w = .ok r w := by
        have hd : Op.maxDepth = 9998 + 2 := rfl
        unfold Op.equal
        generalize 9998 = d at hd
        rw [hd]
        exact struct_equal hT K hk hf' hce' d w
      cases neg
      · simp only [Bool.false_eq_true, if_false] at ho
        subst ho
        refine ⟨.bool r, ?_, .same rfl⟩
        simp only [execOp, hx, Sem.run_bind, hy, hz, run_eqGuard_agg w .eql t y z p' q' hg, Result.andThen_ok]
        have : binOp .eql t (.agg p') (.agg q') = (do pure (.bool (← Op.equal t (.agg p') (.agg q')))) := rfl
        simp [this, he']
      · simp only [if_true] at ho
        subst ho
        refine ⟨.bool (!r), ?_, .same rfl⟩
        simp only [execOp, hx, Sem.run_bind, hy, hz, run_eqGuard_agg w .neq t y z p' q' hg, Result.andThen_ok]
        have : binOp .neq t (.agg p') (.agg q') = (do pure (.bool (!(← Op.equal t (.agg p') (.agg q'))))) := rfl
        simp [this, he']
    · cases hv
  · cases hv

theorem un_op_snd (he : ERel m e a.tmps) {t : TypeId} {op : UnOp} {y : Operand} {c : CO} (hx : x.op = .unOp op t y) (hc : coOf n y = some c) (hv : (PO.un op c).ev e = some v) : PSnd P m w a x v := by
  simp only [PO.ev] at hv
  split at hv
  · rename_i p hp
    refine psnd_of (unE_snd hv (coOf_rel he hc hp) w) ?_
    simp only [execOp, hx]
  · cases hv

/-! builtins -/

theorem lenOf_snd {v v' : Value} {k : Nat} (h : VRel m v v') (hl : lenOfV v = some k) : (∃ ad c, v' = .slice ad k c) ∨ (∃ s, v' = .string s ∧ s.size = k ∧ v = .string s) := by
  unfold lenOfV at hl
  split at hl
  · rename_i ad k' c
    cases hl
    left
    cases ad with
    | none => obtain ⟨rfl, _, _⟩ := h.nils_inv; exact ⟨_, _, rfl⟩
    | some ad => obtain ⟨b, o, l, a', cap, _, _, rfl, _⟩ := h.slice_inv; exact ⟨_, _, rfl⟩
  · rename_i s
    cases hl
    right
    exact ⟨s, h.string_inv, by rw [len8_eq, size_sl]; omega, rfl⟩
  · cases hl

theorem cosOf_one {xs : List Operand} {c : CO} (h : cosOf n xs = some [c]) : ∃ y, xs = [y] ∧ coOf n y = some c := by
  cases xs with
  | nil => simp [cosOf] at h
  | cons y ys =>
    simp only [cosOf] at h
    split at h
    · rename_i c' cs' h1 h2
      cases h
      cases ys with
      | nil => exact ⟨y, rfl, h1⟩
      | cons z zs =>
        simp only [cosOf] at h2
        split at h2 <;> cases h2
    · cases h

theorem cosOf_two {xs : List Operand} {c d : CO} (h : cosOf n xs = some [c, d]) : ∃ y z, xs = [y, z] ∧ coOf n y = some c ∧ coOf n z = some d := by
  cases xs with
  | nil => simp [cosOf] at h
  | cons y ys =>
    simp only [cosOf] at h
    split at h
    · rename_i c' cs' h1 h2
      cases h
      obtain ⟨z, rfl, hz⟩ := cosOf_one h2
      exact ⟨y, z, rfl, h1, hz⟩
    · cases h

theorem builtin_exec {c : Call} {b : Builtin} (hx : x.op = .call c) (hb : c.callee = .builtin b) :
    execOp a.eval x = builtin b c.argTypes x.type (c.args.map fun | .const _ => true | _ => false) (c.args.map a.eval) := by
  simp only [execOp, hx, resolve, hb]
  rfl

theorem args_one {c : Call} {z : Operand} (hz : c.args.toList = [z]) : (c.args.map a.eval)[0]? = some (a.eval z) := by
  have : c.args = #[z] := by apply Array.ext'; simp [hz]
  simp [this]

theorem lenP_snd (hT : TyOk P ty) (he : ERel m e a.tmps) {c : Call} {t : TypeId} {y : CO} {i : TI} {str : Bool} (hx : x.op = .call c) (hb : c.callee = .builtin .len) (ht : c.argTypes.toList = [t]) (h1 : ty t = some i)
    (hd : (str = true ∧ i.d = .string) ∨ (str = false ∧ ∃ el, i.d = .slice el)) (ha : cosOf n c.args.toList = some [y]) (hv : (PO.lenP str y).ev e = some v) : PSnd P m w a x v := by
  obtain ⟨z, hz, hc⟩ := cosOf_one ha
  have K := hT.knows h1
  have ht0 : c.argTypes[0]? = some t := by
    have : c.argTypes = #[t] := by apply Array.ext'; simp [ht]
    simp [this]
  have hz0 := args_one (a := a) hz
  simp only [PO.ev] at hv
  split at hv
  · rename_i p hp
    have r := coOf_rel he hc hp
    rcases hd with ⟨rfl, hd⟩ | ⟨rfl, el, hd⟩
    · simp only at hv
      split at hv
      · rename_i s
        cases hv
        have hs := r.string_inv
        refine ⟨.int .i64 (s.size : Int), ?_, ?_⟩
        · rw [builtin_exec hx hb]
          simp [builtin, Builtin.len_, ht0, hz0, K.und, hd, hs, goInt]
        · rw [len8_eq, ← size_sl, Nat.zero_add]; exact .same rfl
      · cases hv
    · simp only at hv
      split at hv
      · rename_i ad k cc
        cases hv
        have hs : ∃ ad' c', a.eval z = .slice ad' k c' := by
          cases ad with
          | none => obtain ⟨h, _, _⟩ := r.nils_inv; exact ⟨_, _, h⟩
          | some ad => obtain ⟨b, o, l, a', cap, _, _, h, _⟩ := r.slice_inv; exact ⟨_, _, h⟩
        obtain ⟨ad', c', hs⟩ := hs
        refine ⟨.int .i64 (k : Int), ?_, .same rfl⟩
        rw [builtin_exec hx hb]
        simp [builtin, Builtin.len_, ht0, hz0, K.und, hd, hs, goInt]
      · cases hv
  · cases hv

theorem lenA_snd (hT : TyOk P ty) {c : Call} {t el : TypeId} {y : CO} {i : TI} {k : Nat} (hx : x.op = .call c) (hb : c.callee = .builtin .len) (ht : c.argTypes.toList = [t]) (h1 : ty t = some i)
    (hd : i.d = .array k el) (ha : cosOf n c.args.toList = some [y]) (hv : (PO.mv (.c (.int .i64 (.ofNat k)))).ev e = some v) : PSnd P m w a x v := by
  obtain ⟨z, hz, hc⟩ := cosOf_one ha
  have K := hT.knows h1
  have ht0 : c.argTypes[0]? = some t := by
    have : c.argTypes = #[t] := by apply Array.ext'; simp [ht]
    simp [this]
  have hz0 := args_one (a := a) hz
  simp only [PO.ev, CO.ev] at hv
  cases hv
  refine ⟨.int .i64 (k : Int), ?_, .same rfl⟩
  rw [builtin_exec hx hb]
  simp [builtin, Builtin.len_, ht0, hz0, K.und, hd, goInt]

theorem mm_snd (he : ERel m e a.tmps) {c : Call} {y z : CO} {mx : Bool} (hx : x.op = .call c) (hb : c.callee = .builtin (if mx then .max else .min)) (ha : cosOf n c.args.toList = some [y, z])
    (hv : (PO.mm mx y z).ev e = some v) : PSnd P m w a x v := by
  obtain ⟨p, q, hpq, hp, hq⟩ := cosOf_two ha
  have hargs : c.args = #[p, q] := by apply Array.ext'; simp [hpq]
  simp only [PO.ev] at hv
  split at hv
  · rename_i k x1 k' x2 e1 e2
    have r1 := (coOf_rel he hp e1).int_inv
    have r2 := (coOf_rel he hq e2).int_inv
    cases mx
    · simp only at hv; cases hv
      refine ⟨.int k (if x2 < x1 then x2 else x1), ?_, ?_⟩
      · rw [builtin_exec hx hb, hargs]
        simp [builtin, Builtin.min_, r1, r2, Builtin.min2]
      · rw [ltI_eq]
        by_cases h : x2 < x1
        · simp only [h, decide_true, if_true]; exact .same rfl
        · simp only [h, decide_false, if_false]; exact .same rfl
    · simp only at hv; cases hv
      refine ⟨.int k (if x2 > x1 then x2 else x1), ?_, ?_⟩
      · rw [builtin_exec hx hb, hargs]
        simp [builtin, Builtin.max_, r1, r2, Builtin.max2]
      · rw [ltI_eq]
        by_cases h : x1 < x2
        · simp only [h, decide_true, if_true, GT.gt]; exact .same rfl
        · simp only [h, decide_false, if_false, GT.gt]; exact .same rfl
  · cases hv

end Am
end Go.Proofs.YtbfbaofhnnnohaaGreatDoor
