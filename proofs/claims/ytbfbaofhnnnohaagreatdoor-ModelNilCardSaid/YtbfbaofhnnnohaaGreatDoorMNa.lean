/- ModelNil's callees: a model that is not there. -/
import Derived.Test.YtbfbaofhnnnohaaGreatDoorProg
import Derived.WalkKit
import Derived.ProofKit
import Derived.Below
import Derived.Deep.RegionHeld3
import Derived.Deep.DeepCutAuto
import Derived.KernelRfl
namespace Go.Proofs.YtbfbaofhnnnohaaGreatDoor.modelNil
open Go.ChangeShapes Go.WideShapes Go.ChangeAt Go.RowKit

theorem stop_nil (i : Value) (w : World) : Calls Tryz.prog 10 #[.pointer none, i] w fun e w' => e = .returned (.tuple #[]) ∧ w = w' := by
  go_enter Tryz.func10, Tryz.ntmps10
  go_wp2
  go_end0
  exact ⟨rfl, rfl⟩

theorem see_nil (i b a : Value) (o : Array Value) (w : World) : Calls Tryz.prog 11 #[.pointer none, i, .agg o, b, a] w fun e w' => e = .returned (.bool false) ∧ Below w.heap.size w w' := by
  go_enter Tryz.func11, Tryz.ntmps11
  go_wp2
  go_ret
  exact ⟨rfl, (Below.refl _ _).alloc (Nat.le_refl _) _⟩

theorem end_nil (i : Value) (o r : Array Value) (w : World) : Calls Tryz.prog 12 #[.pointer none, i, .agg o, .agg r] w fun e w' => e = .returned (.bool false) ∧ Below w.heap.size w w' := by
  go_enter Tryz.func12, Tryz.ntmps12
  go_wp2
  go_ret
  exact ⟨rfl, ((Below.refl _ _).alloc (Nat.le_refl _) _).alloc (by simp) _⟩

theorem given_nil (w : World) : Calls Tryz.prog 13 #[.pointer none] w fun e w' => e = .returned (.map none) ∧ w = w' := by
  go_enter Tryz.func13, Tryz.ntmps13
  go_wp2
  go_ret
  exact ⟨rfl, rfl⟩

/-- What the three blocks hold. -/
def at3 (w : World) (k n nb : Int) (addr na : Int) (node handle : ByteArray) (a0 : Option Addr) (len cap : Nat) (b1 b2 : Bool) : World :=
  ((w.alloc (.cells #[.int .i64 k, .string node, .string handle, .int .u32 addr, .slice a0 len cap, .int .i64 n, .bool b1, .bool b2, .int .u32 na, .int .i64 nb] 27)).alloc (.cells #[.int .i64 0, .string ByteArray.empty, .string ByteArray.empty, .int .u32 0, .slice none 0 0, .int .i64 0, .bool false, .bool false, .int .u32 0, .int .i64 0] 31)).alloc (.cells #[.int .i64 0, .string ByteArray.empty, .string ByteArray.empty, .int .u32 0, .slice none 0 0, .int .i64 0, .bool false, .bool false, .int .u32 0, .int .i64 0] 27)
theorem at3_def (w : World) (k n nb : Int) (addr na : Int) (node handle : ByteArray) (a0 : Option Addr) (len cap : Nat) (b1 b2 : Bool) : at3 w k n nb addr na node handle a0 len cap b1 b2 =
  ((w.alloc (.cells #[.int .i64 k, .string node, .string handle, .int .u32 addr, .slice a0 len cap, .int .i64 n, .bool b1, .bool b2, .int .u32 na, .int .i64 nb] 27)).alloc (.cells #[.int .i64 0, .string ByteArray.empty, .string ByteArray.empty, .int .u32 0, .slice none 0 0, .int .i64 0, .bool false, .bool false, .int .u32 0, .int .i64 0] 31)).alloc (.cells #[.int .i64 0, .string ByteArray.empty, .string ByteArray.empty, .int .u32 0, .slice none 0 0, .int .i64 0, .bool false, .bool false, .int .u32 0, .int .i64 0] 27) := rfl

/-- What comes back: texts and a slice that are cut, the rest as it was. -/
def OursSays (k n nb : Int) (addr na : Int) (a0 : Option Addr) (cap : Nat) (b1 b2 : Bool) (e : Ending) : Prop := ∃ (node' handle' : ByteArray) (len' : Nat),
  e = .returned (.tuple #[.agg #[.int .i64 k, .string node', .string handle', .int .u32 addr, .slice a0 len' cap, .int .i64 n, .bool b1, .bool b2, .int .u32 na, .int .i64 nb], .agg #[.int .i64 k, .string node', .string handle', .int .u32 addr, .slice a0 len' cap, .int .i64 n, .bool b1, .bool b2, .int .u32 na, .int .i64 nb]])

set_option maxRecDepth 100000 in
set_option maxHeartbeats 1600000 in
theorem ours (k n nb : Int) (addr na : Int) (node handle : ByteArray) (a0 : Option Addr) (len cap : Nat) (b1 b2 : Bool) (hl : len ≤ cap) (hm : cap ≤ maxLen) (h1 : node.size ≤ maxLen) (h2 : handle.size ≤ maxLen) (w : World) :
    Calls Tryz.prog 9 #[.agg #[.int .i64 k, .string node, .string handle, .int .u32 addr, .slice a0 len cap, .int .i64 n, .bool b1, .bool b2, .int .u32 na, .int .i64 nb]] w
      fun e w' => OursSays k n nb addr na a0 cap b1 b2 e ∧ Below w.heap.size w w' := by
  unfold maxLen at hm h1 h2
  go_enter Tryz.func9, Tryz.ntmps9
  go_upto_if 7 with (fail)
  go_cut [] (fun wc => ∃ node' : ByteArray, wc = at3 w k n nb addr na node' handle a0 len cap b1 b2)
  case first =>
    go_wp2
    all_goals go_meet
    all_goals exact ⟨_, rfl⟩
  case rest =>
    obtain ⟨node', rfl⟩ := hcut
    simp only [at3_def]
    go_upto_if 15 with (fail)
    go_cut [] (fun wc => ∃ handle' : ByteArray, wc = at3 w k n nb addr na node' handle' a0 len cap b1 b2)
    case first =>
      go_wp2
      all_goals go_meet
      all_goals exact ⟨_, rfl⟩
    case rest =>
      obtain ⟨handle', rfl⟩ := hcut
      simp only [at3_def]
      go_upto_if 23 with (fail)
      go_cut [] (fun wc => ∃ (len' : Nat), wc = at3 w k n nb addr na node' handle' a0 len' cap b1 b2)
      case first =>
        go_wp2
        all_goals go_meet
        all_goals exact ⟨_, rfl⟩
      case rest =>
        obtain ⟨len', rfl⟩ := hcut
        simp only [at3_def]
        go_wp2
        go_region_held3 (fun w' => w'.cell? ⟨w.heap.size, 0, none⟩ = some (.int .i64 k) ∧ w'.cell? ⟨w.heap.size, 1, none⟩ = some (.string node') ∧ w'.cell? ⟨w.heap.size, 2, none⟩ = some (.string handle') ∧ w'.cell? ⟨w.heap.size, 3, none⟩ = some (.int .u32 addr) ∧ w'.cell? ⟨w.heap.size, 4, none⟩ = some (.slice a0 len' cap) ∧ w'.cell? ⟨w.heap.size, 5, none⟩ = some (.int .i64 n) ∧ w'.cell? ⟨w.heap.size, 6, none⟩ = some (.bool b1) ∧ w'.cell? ⟨w.heap.size, 7, none⟩ = some (.bool b2) ∧ w'.cell? ⟨w.heap.size, 8, none⟩ = some (.int .u32 na) ∧ w'.cell? ⟨w.heap.size, 9, none⟩ = some (.int .i64 nb)) (go_keep) (fail)
        rename_i hHeld
        clear hHeld
        go_wp2
        exact bodyPost_ret (v := .tuple #[.agg #[.int .i64 k, .string node', .string handle', .int .u32 addr, .slice a0 len' cap, .int .i64 n, .bool b1, .bool b2, .int .u32 na, .int .i64 nb], .agg #[.int .i64 k, .string node', .string handle', .int .u32 addr, .slice a0 len' cap, .int .i64 n, .bool b1, .bool b2, .int .u32 na, .int .i64 nb]]) (by simp [results, Tryz.results9, go_sem]) rfl
          ⟨⟨_, _, _, rfl⟩, ((((Below.refl _ _).alloc (Nat.le_refl _) _).alloc (by simp) _).alloc (by simp; omega) _).drew⟩
end Go.Proofs.YtbfbaofhnnnohaaGreatDoor.modelNil
