import Derived.Test.YtbfbaofhnnnohaaGreatDoorL26P29
import Derived.Test.YtbfbaofhnnnohaaGreatDoorL26S
set_option maxRecDepth 100000
namespace Go.Proofs.YtbfbaofhnnnohaaGreatDoor
namespace Am
open Go
noncomputable def l29_0 (x : Int) : List St := [s29_0 x 0 0]
noncomputable def l29_1 (x : Int) : List St := [s29_1_0 x 0 0]
noncomputable def l29_2 (x : Int) : List St := [s29_2_0 x 0 0]
noncomputable def l29_3 (x : Int) : List St := [s29_3_0 x 0 0]
noncomputable def l29_4 (x : Int) : List St := [s29_4_0 x 0 0]
noncomputable def l29_5 (x : Int) : List St := [s29_5_0 x 0 0]
noncomputable def l29_6 (x : Int) : List St := [s29_6_0 x 0 0]
noncomputable def l29_7 (x : Int) : List St := [s29_7_0 x 0 0]
noncomputable def l29_8 (x : Int) : List St := [s29_8_0 x 0 0]
theorem p29_0 (x : Int) (n : Nat) : Piece Tryz.prog ty n L0 q29_0 (fun s => s ∈ l29_0 x) (fun r => r.1 = .normal ∧ r.2 ∈ l29_1 x) :=
  piece_list (lf := 200) (k := 200) tyOk mixed fnsOk sumsOk (List.forall_mem_cons.2 ⟨⟨[(s29_1_0 x 0 0)], rs29_0 x 0 0, by simp [l29_1]⟩,
    fun _ h => nomatch h⟩)
theorem p29_1 (x : Int) (n : Nat) : Piece Tryz.prog ty n L0 q29_1 (fun s => s ∈ l29_1 x) (fun r => r.1 = .normal ∧ r.2 ∈ l29_2 x) :=
  piece_list (lf := 200) (k := 200) tyOk mixed fnsOk sumsOk (List.forall_mem_cons.2 ⟨⟨[(s29_2_0 x 0 0)], rs29_1_0 x 0 0, by simp [l29_2]⟩,
    fun _ h => nomatch h⟩)
theorem p29_2 (x : Int) (n : Nat) : Piece Tryz.prog ty n L0 q29_2 (fun s => s ∈ l29_2 x) (fun r => r.1 = .normal ∧ r.2 ∈ l29_3 x) :=
  piece_list (lf := 200) (k := 200) tyOk mixed fnsOk sumsOk (List.forall_mem_cons.2 ⟨⟨[(s29_3_0 x 0 0)], rs29_2_0 x 0 0, by simp [l29_3]⟩,
    fun _ h => nomatch h⟩)
theorem p29_3 (x : Int) (n : Nat) : Piece Tryz.prog ty n L0 q29_3 (fun s => s ∈ l29_3 x) (fun r => r.1 = .normal ∧ r.2 ∈ l29_4 x) :=
  piece_list (lf := 200) (k := 200) tyOk mixed fnsOk sumsOk (List.forall_mem_cons.2 ⟨⟨[(s29_4_0 x 0 0)], rs29_3_0 x 0 0, by simp [l29_4]⟩,
    fun _ h => nomatch h⟩)
theorem p29_4 (x : Int) (n : Nat) : Piece Tryz.prog ty n L0 q29_4 (fun s => s ∈ l29_4 x) (fun r => r.1 = .normal ∧ r.2 ∈ l29_5 x) :=
  piece_list (lf := 200) (k := 200) tyOk mixed fnsOk sumsOk (List.forall_mem_cons.2 ⟨⟨[(s29_5_0 x 0 0)], rs29_4_0 x 0 0, by simp [l29_5]⟩,
    fun _ h => nomatch h⟩)
theorem p29_5 (x : Int) (n : Nat) : Piece Tryz.prog ty n L0 q29_5 (fun s => s ∈ l29_5 x) (fun r => r.1 = .normal ∧ r.2 ∈ l29_6 x) :=
  piece_list (lf := 200) (k := 200) tyOk mixed fnsOk sumsOk (List.forall_mem_cons.2 ⟨⟨[(s29_6_0 x 0 0)], rs29_5_0 x 0 0, by simp [l29_6]⟩,
    fun _ h => nomatch h⟩)
theorem p29_6 (x : Int) (n : Nat) : Piece Tryz.prog ty n L0 q29_6 (fun s => s ∈ l29_6 x) (fun r => r.1 = .normal ∧ r.2 ∈ l29_7 x) :=
  piece_list (lf := 200) (k := 200) tyOk mixed fnsOk sumsOk (List.forall_mem_cons.2 ⟨⟨[(s29_7_0 x 0 0)], rs29_6_0 x 0 0, by simp [l29_7]⟩,
    fun _ h => nomatch h⟩)
theorem p29_7 (x : Int) (n : Nat) : Piece Tryz.prog ty n L0 q29_7 (fun s => s ∈ l29_7 x) (fun r => r.1 = .normal ∧ r.2 ∈ l29_8 x) :=
  piece_list (lf := 200) (k := 200) tyOk mixed fnsOk sumsOk (List.forall_mem_cons.2 ⟨⟨[(s29_8_0 x 0 0)], rs29_7_0 x 0 0, by simp [l29_8]⟩,
    fun _ h => nomatch h⟩)
theorem p29_z (x : Int) (n : Nat) : Piece Tryz.prog ty n L0 (.seq q29_8 q29_9) (fun s => s ∈ l29_8 x) (fun r => okR c29.res r = true) :=
  piece_all (lf := 200) (k := 200) tyOk mixed fnsOk sumsOk (List.forall_mem_cons.2 ⟨z29_0 x, fun _ h => nomatch h⟩)
theorem true29 : TrueAt Tryz.prog 29 0 := true_at tyOk fk29 (fun x fn _ => by
  rw [split29]
  exact piece_from (seq_list (p29_0 x fn.ntmps) (seq_list (p29_1 x fn.ntmps) (seq_list (p29_2 x fn.ntmps) (seq_list (p29_3 x fn.ntmps) (seq_list (p29_4 x fn.ntmps) (seq_list (p29_5 x fn.ntmps) (seq_list (p29_6 x fn.ntmps) (seq_list (p29_7 x fn.ntmps) (p29_z x fn.ntmps))))))))) (fun s h => List.mem_singleton.2 h)) okR_fin
#print axioms true29
end Am
end Go.Proofs.YtbfbaofhnnnohaaGreatDoor
