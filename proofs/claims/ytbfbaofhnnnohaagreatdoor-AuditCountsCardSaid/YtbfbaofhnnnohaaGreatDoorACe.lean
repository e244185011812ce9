/- Two arrays of twelve integers that are the same. -/
import Derived.Test.YtbfbaofhnnnohaaGreatDoorProg
import Derived.ChangeKeysEq
import Derived.Laws.StructEq
import Derived.KernelRfl
namespace Go.Proofs.YtbfbaofhnnnohaaGreatDoor.auditCounts
open Go

theorem cells3 : Tryz.prog.cellsOf 3 = 1 := by kernel_rfl
theorem info56 : ∃ i, Tryz.prog.info? 3 = some i := by
  cases h : Tryz.prog.info? 3 with
  | some i => exact ⟨i, rfl⟩
  | none => exact absurd (show (Tryz.prog.info? 3).isSome = true by kernel_rfl) (by rw [h]; decide)

theorem part3 (xs : Array Value) (i : Nat) (n : Int) (h : xs[i]? = some (.int .i64 n)) (w : World) : (part 3 xs i).run Tryz.prog w = .ok (.int .i64 n) w := by
  simp [part, Tryz.isAgg3, h]

theorem items (xs : Array Value) (w : World) : ∀ (is : List Nat), (∀ i ∈ is, ∃ n, xs[i]? = some (.int .i64 n)) → (Op.eqItems 9999 3 1 xs xs is).run Tryz.prog w = .ok true w
  | [], _ => by simp [Op.eqItems]
  | i :: is, h => by
    obtain ⟨n, hn⟩ := h i (by simp)
    have ih := items xs w is (fun j hj => h j (by simp [hj]))
    simp only [Op.eqItems, Sem.run_bind, Nat.mul_one, part3 xs i n hn, Result.andThen_ok, run_equalIn_int w 9998 3 .i64 .i64 n n Tryz.underlying3]
    simpa using ih

theorem eq12 (xs : Array Value) (h : ∀ i, i < 12 → ∃ n, xs[i]? = some (.int .i64 n)) (w : World) : (Op.equalIn 10000 56 (.agg xs) (.agg xs)).run Tryz.prog w = .ok true w := by
  obtain ⟨i, hi⟩ := info56
  rw [run_equalIn_array (P := Tryz.prog) (w := w) 9999 xs xs Tryz.underlying56 hi, cells3]
  exact items xs w _ (fun j hj => h j (List.mem_range.1 hj))
end Go.Proofs.YtbfbaofhnnnohaaGreatDoor.auditCounts
