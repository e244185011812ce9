import Derived.Test.YtbfbaofhnnnohaaGreatDoorL32P14
import Derived.Test.YtbfbaofhnnnohaaGreatDoorL32S
set_option maxRecDepth 100000
namespace Go.Proofs.YtbfbaofhnnnohaaGreatDoor
namespace Am
open Go
noncomputable def l14_0 (x : Int) : List St := [s14_0 x 0 0]
noncomputable def l14_1 (x : Int) : List St := [s14_1_0 x 0 0]
noncomputable def l14_2 (x : Int) : List St := [s14_2_0 x 0 0]
noncomputable def l14_3 (x : Int) : List St := [s14_3_0 x 0 0]
noncomputable def l14_4 (x : Int) : List St := [s14_4_0 x 0 0]
noncomputable def l14_5 (x : Int) : List St := [s14_5_0 x 0 0]
noncomputable def l14_6 (x : Int) : List St := [s14_6_0 x 0 0]
noncomputable def l14_7 (x : Int) : List St := [s14_7_0 x 167772160 167772161, s14_7_0 x 167772161 167772160]
noncomputable def l14_8 (x : Int) : List St := [s14_8_0 x 167772160 167772161, s14_8_0 x 167772161 167772160, s14_8_1 x 167772160 167772161, s14_8_1 x 167772161 167772160, s14_8_2 x 167772160 167772161, s14_8_2 x 167772161 167772160, s14_8_3 x 167772160 167772161, s14_8_3 x 167772161 167772160]
theorem p14_0 (x : Int) (n : Nat) : Piece Tryz.prog ty n L0 q14_0 (fun s => s ∈ l14_0 x) (fun r => r.1 = .normal ∧ r.2 ∈ l14_1 x) :=
  piece_list (lf := 200) (k := 200) tyOk mixed fnsOk sumsOk (List.forall_mem_cons.2 ⟨⟨[(s14_1_0 x 0 0)], rs14_0 x 0 0, by simp [l14_1]⟩,
    fun _ h => nomatch h⟩)
theorem p14_1 (x : Int) (n : Nat) : Piece Tryz.prog ty n L0 q14_1 (fun s => s ∈ l14_1 x) (fun r => r.1 = .normal ∧ r.2 ∈ l14_2 x) :=
  piece_list (lf := 200) (k := 200) tyOk mixed fnsOk sumsOk (List.forall_mem_cons.2 ⟨⟨[(s14_2_0 x 0 0)], rs14_1_0 x 0 0, by simp [l14_2]⟩,
    fun _ h => nomatch h⟩)
theorem p14_2 (x : Int) (n : Nat) : Piece Tryz.prog ty n L0 q14_2 (fun s => s ∈ l14_2 x) (fun r => r.1 = .normal ∧ r.2 ∈ l14_3 x) :=
  piece_list (lf := 200) (k := 200) tyOk mixed fnsOk sumsOk (List.forall_mem_cons.2 ⟨⟨[(s14_3_0 x 0 0)], rs14_2_0 x 0 0, by simp [l14_3]⟩,
    fun _ h => nomatch h⟩)
theorem p14_3 (x : Int) (n : Nat) : Piece Tryz.prog ty n L0 q14_3 (fun s => s ∈ l14_3 x) (fun r => r.1 = .normal ∧ r.2 ∈ l14_4 x) :=
  piece_list (lf := 200) (k := 200) tyOk mixed fnsOk sumsOk (List.forall_mem_cons.2 ⟨⟨[(s14_4_0 x 0 0)], rs14_3_0 x 0 0, by simp [l14_4]⟩,
    fun _ h => nomatch h⟩)
theorem p14_4 (x : Int) (n : Nat) : Piece Tryz.prog ty n L0 q14_4 (fun s => s ∈ l14_4 x) (fun r => r.1 = .normal ∧ r.2 ∈ l14_5 x) :=
  piece_list (lf := 200) (k := 200) tyOk mixed fnsOk sumsOk (List.forall_mem_cons.2 ⟨⟨[(s14_5_0 x 0 0)], rs14_4_0 x 0 0, by simp [l14_5]⟩,
    fun _ h => nomatch h⟩)
theorem p14_5 (x : Int) (n : Nat) : Piece Tryz.prog ty n L0 q14_5 (fun s => s ∈ l14_5 x) (fun r => r.1 = .normal ∧ r.2 ∈ l14_6 x) :=
  piece_list (lf := 200) (k := 200) tyOk mixed fnsOk sumsOk (List.forall_mem_cons.2 ⟨⟨[(s14_6_0 x 0 0)], rs14_5_0 x 0 0, by simp [l14_6]⟩,
    fun _ h => nomatch h⟩)
theorem p14_6 (x : Int) (n : Nat) : Piece Tryz.prog ty n L0 q14_6 (fun s => s ∈ l14_6 x) (fun r => r.1 = .normal ∧ r.2 ∈ l14_7 x) :=
  piece_list (lf := 200) (k := 200) tyOk mixed fnsOk sumsOk (List.forall_mem_cons.2 ⟨⟨[(s14_7_0 x 167772160 167772161), (s14_7_0 x 167772161 167772160)], rs14_6_0 x 0 0, by simp [l14_7]⟩,
    fun _ h => nomatch h⟩)
theorem p14_7 (x : Int) (n : Nat) : Piece Tryz.prog ty n L0 q14_7 (fun s => s ∈ l14_7 x) (fun r => r.1 = .normal ∧ r.2 ∈ l14_8 x) :=
  piece_list (lf := 200) (k := 200) tyOk mixed fnsOk sumsOk (List.forall_mem_cons.2 ⟨⟨[(s14_8_0 x 167772160 167772161), (s14_8_1 x 167772160 167772161), (s14_8_2 x 167772160 167772161), (s14_8_3 x 167772160 167772161)], rs14_7_0 x 167772160 167772161, by simp [l14_8]⟩,
    List.forall_mem_cons.2 ⟨⟨[(s14_8_0 x 167772161 167772160), (s14_8_1 x 167772161 167772160), (s14_8_2 x 167772161 167772160), (s14_8_3 x 167772161 167772160)], rs14_7_0 x 167772161 167772160, by simp [l14_8]⟩,
    fun _ h => nomatch h⟩⟩)
theorem p14_z (x : Int) (n : Nat) : Piece Tryz.prog ty n L0 (.seq q14_8 q14_9) (fun s => s ∈ l14_8 x) (fun r => okR c14.res r = true) :=
  piece_all (lf := 200) (k := 200) tyOk mixed fnsOk sumsOk (List.forall_mem_cons.2 ⟨z14_0 x, List.forall_mem_cons.2 ⟨z14_1 x, List.forall_mem_cons.2 ⟨z14_2 x, List.forall_mem_cons.2 ⟨z14_3 x, List.forall_mem_cons.2 ⟨z14_4 x, List.forall_mem_cons.2 ⟨z14_5 x, List.forall_mem_cons.2 ⟨z14_6 x, List.forall_mem_cons.2 ⟨z14_7 x, fun _ h => nomatch h⟩⟩⟩⟩⟩⟩⟩⟩)
theorem true14 : TrueAt Tryz.prog 14 0 := true_at tyOk fk14 (fun x fn _ => by
  rw [split14]
  exact piece_from (seq_list (p14_0 x fn.ntmps) (seq_list (p14_1 x fn.ntmps) (seq_list (p14_2 x fn.ntmps) (seq_list (p14_3 x fn.ntmps) (seq_list (p14_4 x fn.ntmps) (seq_list (p14_5 x fn.ntmps) (seq_list (p14_6 x fn.ntmps) (seq_list (p14_7 x fn.ntmps) (p14_z x fn.ntmps))))))))) (fun s h => List.mem_singleton.2 h)) okR_fin
#print axioms true14
end Am
end Go.Proofs.YtbfbaofhnnnohaaGreatDoor
