import Derived.Test.YtbfbaofhnnnohaaGreatDoorL33P21
import Derived.Test.YtbfbaofhnnnohaaGreatDoorL33S
set_option maxRecDepth 100000
namespace Go.Proofs.YtbfbaofhnnnohaaGreatDoor
namespace Am
open Go
noncomputable def l21_0 (x : Int) : List St := [s21_0 x 0 0]
noncomputable def l21_1 (x : Int) : List St := [s21_1_0 x 0 0]
noncomputable def l21_2 (x : Int) : List St := [s21_2_0 x 0 0]
theorem p21_0 (x : Int) (n : Nat) : Piece Tryz.prog ty n L0 q21_0 (fun s => s ∈ l21_0 x) (fun r => r.1 = .normal ∧ r.2 ∈ l21_1 x) :=
  piece_list (lf := 200) (k := 200) tyOk mixed fnsOk sumsOk (List.forall_mem_cons.2 ⟨⟨[(s21_1_0 x 0 0)], rs21_0 x 0 0, by simp [l21_1]⟩,
    fun _ h => nomatch h⟩)
theorem p21_1 (x : Int) (n : Nat) : Piece Tryz.prog ty n L0 q21_1 (fun s => s ∈ l21_1 x) (fun r => r.1 = .normal ∧ r.2 ∈ l21_2 x) :=
  piece_list (lf := 200) (k := 200) tyOk mixed fnsOk sumsOk (List.forall_mem_cons.2 ⟨⟨[(s21_2_0 x 0 0)], rs21_1_0 x 0 0, by simp [l21_2]⟩,
    fun _ h => nomatch h⟩)
theorem p21_z (x : Int) (n : Nat) : Piece Tryz.prog ty n L0 (.seq q21_2 q21_3) (fun s => s ∈ l21_2 x) (fun r => okR c21.res r = true) :=
  piece_all (lf := 200) (k := 200) tyOk mixed fnsOk sumsOk (List.forall_mem_cons.2 ⟨z21_0 x, fun _ h => nomatch h⟩)
theorem true21 : TrueAt Tryz.prog 21 0 := true_at tyOk fk21 (fun x fn _ => by
  rw [split21]
  exact piece_from (seq_list (p21_0 x fn.ntmps) (seq_list (p21_1 x fn.ntmps) (p21_z x fn.ntmps))) (fun s h => List.mem_singleton.2 h)) okR_fin
#print axioms true21
end Am
end Go.Proofs.YtbfbaofhnnnohaaGreatDoor
