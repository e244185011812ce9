import Derived.Test.YtbfbaofhnnnohaaGreatDoorProg
import Derived.KernelRfl
import Derived.Test.YtbfbaofhnnnohaaGreatDoorAmD
set_option maxRecDepth 100000
namespace Go.Proofs.YtbfbaofhnnnohaaGreatDoor
namespace Am
open Go
noncomputable def ti2 : TI := ⟨Tryz.t2.size, Tryz.t2.bytes, (Tryz.t2.zero).getD undefV, false, false, false, Tryz.t2.desc⟩
theorem tk2 : tiOf Tryz.prog 2 = some ti2 := by kernel_rfl
noncomputable def ti3 : TI := ⟨Tryz.t3.size, Tryz.t3.bytes, (Tryz.t3.zero).getD undefV, false, false, false, Tryz.t3.desc⟩
theorem tk3 : tiOf Tryz.prog 3 = some ti3 := by kernel_rfl
noncomputable def ti4 : TI := ⟨Tryz.t4.size, Tryz.t4.bytes, (Tryz.t4.zero).getD undefV, false, false, false, Tryz.t4.desc⟩
theorem tk4 : tiOf Tryz.prog 4 = some ti4 := by kernel_rfl
noncomputable def ti5 : TI := ⟨Tryz.t5.size, Tryz.t5.bytes, (Tryz.t5.zero).getD undefV, false, false, false, Tryz.t5.desc⟩
theorem tk5 : tiOf Tryz.prog 5 = some ti5 := by kernel_rfl
noncomputable def ti9 : TI := ⟨Tryz.t9.size, Tryz.t9.bytes, (Tryz.t9.zero).getD undefV, false, false, false, Tryz.t9.desc⟩
theorem tk9 : tiOf Tryz.prog 9 = some ti9 := by kernel_rfl
noncomputable def ti21 : TI := ⟨Tryz.t21.size, Tryz.t21.bytes, (Tryz.t21.zero).getD undefV, false, false, false, Tryz.t21.desc⟩
theorem tk21 : tiOf Tryz.prog 21 = some ti21 := by kernel_rfl
noncomputable def ti22 : TI := ⟨Tryz.t22.size, Tryz.t22.bytes, (Tryz.t22.zero).getD undefV, false, false, false, Tryz.t22.desc⟩
theorem tk22 : tiOf Tryz.prog 22 = some ti22 := by kernel_rfl
noncomputable def ti29 : TI := ⟨Tryz.t29.size, Tryz.t29.bytes, (Tryz.t29.zero).getD undefV, true, false, false, Tryz.t24.desc⟩
theorem tk29 : tiOf Tryz.prog 29 = some ti29 := by kernel_rfl
noncomputable def ti37 : TI := ⟨Tryz.t37.size, Tryz.t37.bytes, (Tryz.t37.zero).getD undefV, false, false, false, Tryz.t3.desc⟩
theorem tk37 : tiOf Tryz.prog 37 = some ti37 := by kernel_rfl
noncomputable def ti55 : TI := ⟨Tryz.t55.size, Tryz.t55.bytes, (Tryz.t55.zero).getD undefV, false, false, false, Tryz.t55.desc⟩
theorem tk55 : tiOf Tryz.prog 55 = some ti55 := by kernel_rfl
noncomputable def ti59 : TI := ⟨Tryz.t59.size, Tryz.t59.bytes, (Tryz.t59.zero).getD undefV, true, false, false, Tryz.t57.desc⟩
theorem tk59 : tiOf Tryz.prog 59 = some ti59 := by kernel_rfl
noncomputable def ti87 : TI := ⟨Tryz.t87.size, Tryz.t87.bytes, (Tryz.t87.zero).getD undefV, false, false, false, Tryz.t87.desc⟩
theorem tk87 : tiOf Tryz.prog 87 = some ti87 := by kernel_rfl
noncomputable def ti88 : TI := ⟨Tryz.t88.size, Tryz.t88.bytes, (Tryz.t88.zero).getD undefV, false, false, false, Tryz.t88.desc⟩
theorem tk88 : tiOf Tryz.prog 88 = some ti88 := by kernel_rfl
noncomputable def ti89 : TI := ⟨Tryz.t89.size, Tryz.t89.bytes, (Tryz.t89.zero).getD undefV, false, false, false, Tryz.t89.desc⟩
theorem tk89 : tiOf Tryz.prog 89 = some ti89 := by kernel_rfl
noncomputable def ti90 : TI := ⟨Tryz.t90.size, Tryz.t90.bytes, (Tryz.t90.zero).getD undefV, false, false, false, Tryz.t90.desc⟩
theorem tk90 : tiOf Tryz.prog 90 = some ti90 := by kernel_rfl
noncomputable def ti91 : TI := ⟨Tryz.t91.size, Tryz.t91.bytes, (Tryz.t91.zero).getD undefV, false, false, false, Tryz.t91.desc⟩
theorem tk91 : tiOf Tryz.prog 91 = some ti91 := by kernel_rfl
noncomputable def ti92 : TI := ⟨Tryz.t92.size, Tryz.t92.bytes, (Tryz.t92.zero).getD undefV, false, false, false, Tryz.t92.desc⟩
theorem tk92 : tiOf Tryz.prog 92 = some ti92 := by kernel_rfl
noncomputable def ti94 : TI := ⟨Tryz.t94.size, Tryz.t94.bytes, (Tryz.t94.zero).getD undefV, true, false, false, Tryz.t93.desc⟩
theorem tk94 : tiOf Tryz.prog 94 = some ti94 := by kernel_rfl
noncomputable def ti99 : TI := ⟨Tryz.t99.size, Tryz.t99.bytes, (Tryz.t99.zero).getD undefV, true, false, false, Tryz.t98.desc⟩
theorem tk99 : tiOf Tryz.prog 99 = some ti99 := by kernel_rfl
noncomputable def ti144 : TI := ⟨Tryz.t144.size, Tryz.t144.bytes, (Tryz.t144.zero).getD undefV, true, false, false, Tryz.t143.desc⟩
theorem tk144 : tiOf Tryz.prog 144 = some ti144 := by kernel_rfl
noncomputable def ti157 : TI := ⟨Tryz.t157.size, Tryz.t157.bytes, (Tryz.t157.zero).getD undefV, false, false, false, Tryz.t157.desc⟩
theorem tk157 : tiOf Tryz.prog 157 = some ti157 := by kernel_rfl
noncomputable def ti160 : TI := ⟨Tryz.t160.size, Tryz.t160.bytes, (Tryz.t160.zero).getD undefV, true, false, false, Tryz.t160.desc⟩
theorem tk160 : tiOf Tryz.prog 160 = some ti160 := by kernel_rfl
noncomputable def ti161 : TI := ⟨Tryz.t161.size, Tryz.t161.bytes, (Tryz.t161.zero).getD undefV, false, false, false, Tryz.t161.desc⟩
theorem tk161 : tiOf Tryz.prog 161 = some ti161 := by kernel_rfl
noncomputable def ti162 : TI := ⟨Tryz.t162.size, Tryz.t162.bytes, (Tryz.t162.zero).getD undefV, false, false, false, Tryz.t162.desc⟩
theorem tk162 : tiOf Tryz.prog 162 = some ti162 := by kernel_rfl
noncomputable def ti164 : TI := ⟨Tryz.t164.size, Tryz.t164.bytes, (Tryz.t164.zero).getD undefV, true, false, false, Tryz.t163.desc⟩
theorem tk164 : tiOf Tryz.prog 164 = some ti164 := by kernel_rfl
noncomputable def ti191 : TI := ⟨Tryz.t191.size, Tryz.t191.bytes, (Tryz.t191.zero).getD undefV, true, false, false, Tryz.t190.desc⟩
theorem tk191 : tiOf Tryz.prog 191 = some ti191 := by kernel_rfl
noncomputable def ti218 : TI := ⟨Tryz.t218.size, Tryz.t218.bytes, (Tryz.t218.zero).getD undefV, false, false, false, Tryz.t218.desc⟩
theorem tk218 : tiOf Tryz.prog 218 = some ti218 := by kernel_rfl
noncomputable def ti231 : TI := ⟨Tryz.t231.size, Tryz.t231.bytes, (Tryz.t231.zero).getD undefV, false, false, false, Tryz.t231.desc⟩
theorem tk231 : tiOf Tryz.prog 231 = some ti231 := by kernel_rfl
noncomputable def ti233 : TI := ⟨Tryz.t233.size, Tryz.t233.bytes, (Tryz.t233.zero).getD undefV, true, false, false, Tryz.t232.desc⟩
theorem tk233 : tiOf Tryz.prog 233 = some ti233 := by kernel_rfl
noncomputable def ti237 : TI := ⟨Tryz.t237.size, Tryz.t237.bytes, (Tryz.t237.zero).getD undefV, false, false, false, Tryz.t237.desc⟩
theorem tk237 : tiOf Tryz.prog 237 = some ti237 := by kernel_rfl
noncomputable def ti253 : TI := ⟨Tryz.t253.size, Tryz.t253.bytes, (Tryz.t253.zero).getD undefV, true, false, false, Tryz.t252.desc⟩
theorem tk253 : tiOf Tryz.prog 253 = some ti253 := by kernel_rfl
noncomputable def ti256 : TI := ⟨Tryz.t256.size, Tryz.t256.bytes, (Tryz.t256.zero).getD undefV, false, false, false, Tryz.t256.desc⟩
theorem tk256 : tiOf Tryz.prog 256 = some ti256 := by kernel_rfl
noncomputable def ti258 : TI := ⟨Tryz.t258.size, Tryz.t258.bytes, (Tryz.t258.zero).getD undefV, true, false, false, Tryz.t257.desc⟩
theorem tk258 : tiOf Tryz.prog 258 = some ti258 := by kernel_rfl
noncomputable def ti263 : TI := ⟨Tryz.t263.size, Tryz.t263.bytes, (Tryz.t263.zero).getD undefV, false, false, false, Tryz.t263.desc⟩
theorem tk263 : tiOf Tryz.prog 263 = some ti263 := by kernel_rfl
noncomputable def ti269 : TI := ⟨Tryz.t269.size, Tryz.t269.bytes, (Tryz.t269.zero).getD undefV, false, false, false, Tryz.t269.desc⟩
theorem tk269 : tiOf Tryz.prog 269 = some ti269 := by kernel_rfl
noncomputable def ti284 : TI := ⟨Tryz.t284.size, Tryz.t284.bytes, (Tryz.t284.zero).getD undefV, false, false, false, Tryz.t284.desc⟩
theorem tk284 : tiOf Tryz.prog 284 = some ti284 := by kernel_rfl
noncomputable def ti307 : TI := ⟨Tryz.t307.size, Tryz.t307.bytes, (Tryz.t307.zero).getD undefV, false, false, false, Tryz.t307.desc⟩
theorem tk307 : tiOf Tryz.prog 307 = some ti307 := by kernel_rfl
noncomputable def ti327 : TI := ⟨Tryz.t327.size, Tryz.t327.bytes, (Tryz.t327.zero).getD undefV, false, false, false, Tryz.t327.desc⟩
theorem tk327 : tiOf Tryz.prog 327 = some ti327 := by kernel_rfl
noncomputable def ti336 : TI := ⟨Tryz.t336.size, Tryz.t336.bytes, (Tryz.t336.zero).getD undefV, true, false, false, Tryz.t335.desc⟩
theorem tk336 : tiOf Tryz.prog 336 = some ti336 := by kernel_rfl
noncomputable def ti340 : TI := ⟨Tryz.t340.size, Tryz.t340.bytes, (Tryz.t340.zero).getD undefV, false, false, false, Tryz.t3.desc⟩
theorem tk340 : tiOf Tryz.prog 340 = some ti340 := by kernel_rfl
noncomputable def ti375 : TI := ⟨Tryz.t375.size, Tryz.t375.bytes, (Tryz.t375.zero).getD undefV, false, false, false, Tryz.t375.desc⟩
theorem tk375 : tiOf Tryz.prog 375 = some ti375 := by kernel_rfl
noncomputable def ti379 : TI := ⟨Tryz.t379.size, Tryz.t379.bytes, (Tryz.t379.zero).getD undefV, false, false, false, Tryz.t379.desc⟩
theorem tk379 : tiOf Tryz.prog 379 = some ti379 := by kernel_rfl
noncomputable def ti382 : TI := ⟨Tryz.t382.size, Tryz.t382.bytes, (Tryz.t382.zero).getD undefV, true, false, false, Tryz.t381.desc⟩
theorem tk382 : tiOf Tryz.prog 382 = some ti382 := by kernel_rfl
noncomputable def ti384 : TI := ⟨Tryz.t384.size, Tryz.t384.bytes, (Tryz.t384.zero).getD undefV, false, false, false, Tryz.t284.desc⟩
theorem tk384 : tiOf Tryz.prog 384 = some ti384 := by kernel_rfl
noncomputable def ti386 : TI := ⟨Tryz.t386.size, Tryz.t386.bytes, (Tryz.t386.zero).getD undefV, false, false, false, Tryz.t284.desc⟩
theorem tk386 : tiOf Tryz.prog 386 = some ti386 := by kernel_rfl
noncomputable def ti390 : TI := ⟨Tryz.t390.size, Tryz.t390.bytes, (Tryz.t390.zero).getD undefV, false, false, false, Tryz.t390.desc⟩
theorem tk390 : tiOf Tryz.prog 390 = some ti390 := by kernel_rfl
noncomputable def ti449 : TI := ⟨Tryz.t449.size, Tryz.t449.bytes, (Tryz.t449.zero).getD undefV, false, false, false, Tryz.t449.desc⟩
theorem tk449 : tiOf Tryz.prog 449 = some ti449 := by kernel_rfl
noncomputable def ti457 : TI := ⟨Tryz.t457.size, Tryz.t457.bytes, (Tryz.t457.zero).getD undefV, true, false, false, Tryz.t457.desc⟩
theorem tk457 : tiOf Tryz.prog 457 = some ti457 := by kernel_rfl
noncomputable def ti482 : TI := ⟨Tryz.t482.size, Tryz.t482.bytes, (Tryz.t482.zero).getD undefV, true, false, false, Tryz.t482.desc⟩
theorem tk482 : tiOf Tryz.prog 482 = some ti482 := by kernel_rfl
noncomputable def ti484 : TI := ⟨Tryz.t484.size, Tryz.t484.bytes, (Tryz.t484.zero).getD undefV, true, false, false, Tryz.t483.desc⟩
theorem tk484 : tiOf Tryz.prog 484 = some ti484 := by kernel_rfl
noncomputable def ti485 : TI := ⟨Tryz.t485.size, Tryz.t485.bytes, (Tryz.t485.zero).getD undefV, true, false, false, Tryz.t485.desc⟩
theorem tk485 : tiOf Tryz.prog 485 = some ti485 := by kernel_rfl
noncomputable def tab : T TI := (.node (.node (.node (.node (.node (.node (.node .leaf none (.node .leaf (some ti191) .leaf)) none .leaf) none .leaf) none (.node (.node (.node (.node (.node .leaf (some ti263) .leaf) none .leaf) none (.node (.node .leaf (some ti327) .leaf) none .leaf)) none (.node .leaf none (.node .leaf (some ti231) .leaf))) none (.node (.node .leaf (some ti87) .leaf) (some ti55) (.node .leaf none (.node (.node .leaf (some ti375) .leaf) none .leaf))))) (some ti3) (.node (.node (.node .leaf none (.node .leaf (some ti99) .leaf)) none (.node .leaf none (.node (.node (.node .leaf (some ti307) .leaf) none .leaf) none .leaf))) none (.node .leaf none (.node (.node .leaf (some ti91) .leaf) (some ti59) (.node .leaf none (.node (.node .leaf (some ti379) .leaf) none .leaf)))))) none (.node (.node (.node (.node (.node .leaf none (.node .leaf none (.node .leaf (some ti449) .leaf))) none (.node (.node .leaf (some ti161) .leaf) none .leaf)) none .leaf) (some ti9) (.node (.node (.node .leaf none (.node .leaf none (.node .leaf (some ti457) .leaf))) none (.node .leaf none (.node .leaf (some ti233) .leaf))) none (.node (.node .leaf (some ti89) .leaf) none .leaf))) (some ti5) (.node (.node (.node .leaf (some ti37) (.node .leaf none (.node .leaf none (.node .leaf (some ti485) .leaf)))) (some ti21) .leaf) none (.node (.node (.node (.node (.node .leaf (some ti269) .leaf) none .leaf) none .leaf) none (.node .leaf none (.node .leaf (some ti237) .leaf))) (some ti29) (.node (.node (.node .leaf (some ti157) .leaf) none .leaf) none (.node .leaf none (.node .leaf (some ti253) .leaf))))))) none (.node (.node (.node (.node (.node (.node (.node (.node .leaf (some ti256) .leaf) none (.node .leaf (some ti384) .leaf)) none .leaf) none (.node (.node .leaf (some ti160) .leaf) none .leaf)) none (.node (.node (.node .leaf (some ti144) .leaf) none (.node (.node .leaf (some ti336) .leaf) none .leaf)) none .leaf)) none (.node .leaf none (.node (.node .leaf (some ti88) .leaf) none .leaf))) (some ti4) (.node (.node (.node .leaf none (.node (.node .leaf (some ti164) .leaf) none (.node .leaf none (.node .leaf (some ti484) .leaf)))) none (.node (.node .leaf none (.node (.node .leaf (some ti340) .leaf) none .leaf)) none .leaf)) none (.node .leaf none (.node (.node (.node (.node .leaf (some ti284) .leaf) none .leaf) (some ti92) .leaf) none .leaf)))) (some ti2) (.node (.node (.node (.node (.node (.node (.node .leaf (some ti258) .leaf) none (.node .leaf (some ti386) .leaf)) none .leaf) none (.node (.node .leaf (some ti162) .leaf) none (.node .leaf none (.node .leaf (some ti482) .leaf)))) none .leaf) none (.node .leaf none (.node (.node .leaf (some ti90) (.node .leaf (some ti218) .leaf)) none .leaf))) none (.node (.node (.node (.node (.node .leaf none (.node .leaf (some ti390) .leaf)) none .leaf) none .leaf) (some ti22) .leaf) none (.node .leaf none (.node (.node .leaf (some ti94) .leaf) none (.node .leaf none (.node (.node .leaf (some ti382) .leaf) none .leaf))))))))
noncomputable def ty : Ty := fun t => tab.get t
theorem tyOk : TyOk Tryz.prog ty := T.all_get (p := fun t i => tiOf Tryz.prog t = some i) (t := tab) (ix := fun n => n) ⟨⟨⟨⟨⟨⟨⟨trivial, trivial, ⟨trivial, tk191, trivial⟩⟩, trivial, trivial⟩, trivial, trivial⟩, trivial, ⟨⟨⟨⟨⟨trivial, tk263, trivial⟩, trivial, trivial⟩, trivial, ⟨⟨trivial, tk327, trivial⟩, trivial, trivial⟩⟩, trivial, ⟨trivial, trivial, ⟨trivial, tk231, trivial⟩⟩⟩, trivial, ⟨⟨trivial, tk87, trivial⟩, tk55, ⟨trivial, trivial, ⟨⟨trivial, tk375, trivial⟩, trivial, trivial⟩⟩⟩⟩⟩, tk3, ⟨⟨⟨trivial, trivial, ⟨trivial, tk99, trivial⟩⟩, trivial, ⟨trivial, trivial, ⟨⟨⟨trivial, tk307, trivial⟩, trivial, trivial⟩, trivial, trivial⟩⟩⟩, trivial, ⟨trivial, trivial, ⟨⟨trivial, tk91, trivial⟩, tk59, ⟨trivial, trivial, ⟨⟨trivial, tk379, trivial⟩, trivial, trivial⟩⟩⟩⟩⟩⟩, trivial, ⟨⟨⟨⟨⟨trivial, trivial, ⟨trivial, trivial, ⟨trivial, tk449, trivial⟩⟩⟩, trivial, ⟨⟨trivial, tk161, trivial⟩, trivial, trivial⟩⟩, trivial, trivial⟩, tk9, ⟨⟨⟨trivial, trivial, ⟨trivial, trivial, ⟨trivial, tk457, trivial⟩⟩⟩, trivial, ⟨trivial, trivial, ⟨trivial, tk233, trivial⟩⟩⟩, trivial, ⟨⟨trivial, tk89, trivial⟩, trivial, trivial⟩⟩⟩, tk5, ⟨⟨⟨trivial, tk37, ⟨trivial, trivial, ⟨trivial, trivial, ⟨trivial, tk485, trivial⟩⟩⟩⟩, tk21, trivial⟩, trivial, ⟨⟨⟨⟨⟨trivial, tk269, trivial⟩, trivial, trivial⟩, trivial, trivial⟩, trivial, ⟨trivial, trivial, ⟨trivial, tk237, trivial⟩⟩⟩, tk29, ⟨⟨⟨trivial, tk157, trivial⟩, trivial, trivial⟩, trivial, ⟨trivial, trivial, ⟨trivial, tk253, trivial⟩⟩⟩⟩⟩⟩⟩, trivial, ⟨⟨⟨⟨⟨⟨⟨⟨trivial, tk256, trivial⟩, trivial, ⟨trivial, tk384, trivial⟩⟩, trivial, trivial⟩, trivial, ⟨⟨trivial, tk160, trivial⟩, trivial, trivial⟩⟩, trivial, ⟨⟨⟨trivial, tk144, trivial⟩, trivial, ⟨⟨trivial, tk336, trivial⟩, trivial, trivial⟩⟩, trivial, trivial⟩⟩, trivial, ⟨trivial, trivial, ⟨⟨trivial, tk88, trivial⟩, trivial, trivial⟩⟩⟩, tk4, ⟨⟨⟨trivial, trivial, ⟨⟨trivial, tk164, trivial⟩, trivial, ⟨trivial, trivial, ⟨trivial, tk484, trivial⟩⟩⟩⟩, trivial, ⟨⟨trivial, trivial, ⟨⟨trivial, tk340, trivial⟩, trivial, trivial⟩⟩, trivial, trivial⟩⟩, trivial, ⟨trivial, trivial, ⟨⟨⟨⟨trivial, tk284, trivial⟩, trivial, trivial⟩, tk92, trivial⟩, trivial, trivial⟩⟩⟩⟩, tk2, ⟨⟨⟨⟨⟨⟨⟨trivial, tk258, trivial⟩, trivial, ⟨trivial, tk386, trivial⟩⟩, trivial, trivial⟩, trivial, ⟨⟨trivial, tk162, trivial⟩, trivial, ⟨trivial, trivial, ⟨trivial, tk482, trivial⟩⟩⟩⟩, trivial, trivial⟩, trivial, ⟨trivial, trivial, ⟨⟨trivial, tk90, ⟨trivial, tk218, trivial⟩⟩, trivial, trivial⟩⟩⟩, trivial, ⟨⟨⟨⟨⟨trivial, trivial, ⟨trivial, tk390, trivial⟩⟩, trivial, trivial⟩, trivial, trivial⟩, tk22, trivial⟩, trivial, ⟨trivial, trivial, ⟨⟨trivial, tk94, trivial⟩, trivial, ⟨trivial, trivial, ⟨⟨trivial, tk382, trivial⟩, trivial, trivial⟩⟩⟩⟩⟩⟩⟩⟩
end Am
end Go.Proofs.YtbfbaofhnnnohaaGreatDoor
