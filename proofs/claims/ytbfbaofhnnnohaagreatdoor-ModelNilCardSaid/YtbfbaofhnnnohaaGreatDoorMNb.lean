/- ModelNil's walk. -/
import Derived.Test.YtbfbaofhnnnohaaGreatDoorMNa
import Derived.Test.YtbfbaofhnnnohaaGreatDoorL32Q14
namespace Go.Proofs.YtbfbaofhnnnohaaGreatDoor.modelNil
open Go.ChangeShapes Go.WideShapes Go.ChangeAt Go.RowKit

theorem bcell {W w1 : World} (hb : Below W.heap.size W w1) : (∀ b o, b < W.heap.size → w1.cell? ⟨b, o, none⟩ = W.cell? ⟨b, o, none⟩) ∧ (∀ b o, b < W.heap.size → w1.frozen? ⟨b, o, none⟩ = W.frozen? ⟨b, o, none⟩) :=
  ⟨fun b o h => hb.cell (p := ⟨b, o, none⟩) h, fun b o h => hb.frozen (p := ⟨b, o, none⟩) h⟩

set_option maxRecDepth 100000 in
set_option maxHeartbeats 1600000 in
theorem walk (k n nb : Int) (addr na : Int) (node handle : ByteArray) (a0 : Option Addr) (len cap : Nat) (b1 b2 : Bool) (hl : len ≤ cap) (hm : cap ≤ maxLen) (h1 : node.size ≤ maxLen) (h2 : handle.size ≤ maxLen) (x : Int) (w : World)
    (hw : w.cell? ⟨0, 0, none⟩ = some (.int .i64 x)) (hz : 0 < w.heap.size) :
    Calls Tryz.prog 3 #[.agg #[.int .i64 k, .string node, .string handle, .int .u32 addr, .slice a0 len cap, .int .i64 n, .bool b1, .bool b2, .int .u32 na, .int .i64 nb]] w
      fun e w' => e = .returned (.bool true) ∧ Below w.heap.size w w' := by
  go_enter Tryz.func3, Tryz.ntmps3
  go_wp2_with (first
    | (go_at_call 9; refine (ours k n nb addr na node handle a0 len cap b1 b2 hl hm h1 h2 _).mono ?_; rintro e w1 ⟨⟨node', handle', len', rfl⟩, hb⟩)
    | (go_at_call 10; refine (stop_nil _ _).mono ?_; rintro e w' ⟨rfl, rfl⟩)
    | (go_at_call 11; refine (see_nil _ _ _ _ _).mono ?_; rintro e w2 ⟨rfl, hb2⟩; obtain ⟨hc2, hf2⟩ := bcell hb2)
    | (go_at_call 12; refine (end_nil _ _ _ _).mono ?_; rintro e w3 ⟨rfl, hb3⟩)
    | (go_at_call 13; refine (given_nil _).mono ?_; rintro e w' ⟨rfl, rfl⟩))
  have hz1 := hb.size
  have hz2 := hb2.size
  have hz3 := hb3.size
  simp only [World.size_alloc] at hz1 hz2
  have bel : Below w.heap.size w w3 := ((((((Below.refl _ _).alloc (Nat.le_refl _) _).trans (hb.mono (by simp))).alloc (by omega) _).alloc (by simp; omega) _).trans (hb2.mono (by simp; omega))).trans (hb3.mono (by omega))
  clear hb hb2 hb3 hc2 hf2
  have hw3 : w3.cell? ⟨0, 0, none⟩ = some (.int .i64 x) := (bel.cell (p := ⟨0, 0, none⟩) hz).trans hw
  go_at_call 14
  refine (Am.true14 x w3 hw3).mono ?_
  rintro e w4 ⟨rfl, hb4⟩
  clear hw3
  go_wp2
  go_ret
  exact ⟨rfl, bel.trans (hb4.mono (by omega))⟩
end Go.Proofs.YtbfbaofhnnnohaaGreatDoor.modelNil
