import Derived.Test.YtbfbaofhnnnohaaGreatDoorProg
import Derived.KernelRfl
import Derived.Test.YtbfbaofhnnnohaaGreatDoorAmD
set_option maxRecDepth 100000
namespace Go.Proofs.YtbfbaofhnnnohaaGreatDoor
namespace Am
open Go
noncomputable def ti2 : TI := ⟨Tryz.t2.size, Tryz.t2.bytes, (Tryz.t2.zero).getD undefV, false, false, false, Tryz.t2.desc⟩
theorem tk2 : tiOf Tryz.prog 2 = some ti2 := by kernel_rfl
noncomputable def ti3 : TI := ⟨Tryz.t3.size, Tryz.t3.bytes, (Tryz.t3.zero).getD undefV, false, false, false, Tryz.t3.desc⟩
theorem tk3 : tiOf Tryz.prog 3 = some ti3 := by kernel_rfl
noncomputable def ti4 : TI := ⟨Tryz.t4.size, Tryz.t4.bytes, (Tryz.t4.zero).getD undefV, false, false, false, Tryz.t4.desc⟩
theorem tk4 : tiOf Tryz.prog 4 = some ti4 := by kernel_rfl
noncomputable def ti5 : TI := ⟨Tryz.t5.size, Tryz.t5.bytes, (Tryz.t5.zero).getD undefV, false, false, false, Tryz.t5.desc⟩
theorem tk5 : tiOf Tryz.prog 5 = some ti5 := by kernel_rfl
noncomputable def ti9 : TI := ⟨Tryz.t9.size, Tryz.t9.bytes, (Tryz.t9.zero).getD undefV, false, false, false, Tryz.t9.desc⟩
theorem tk9 : tiOf Tryz.prog 9 = some ti9 := by kernel_rfl
noncomputable def ti21 : TI := ⟨Tryz.t21.size, Tryz.t21.bytes, (Tryz.t21.zero).getD undefV, false, false, false, Tryz.t21.desc⟩
theorem tk21 : tiOf Tryz.prog 21 = some ti21 := by kernel_rfl
noncomputable def ti22 : TI := ⟨Tryz.t22.size, Tryz.t22.bytes, (Tryz.t22.zero).getD undefV, false, false, false, Tryz.t22.desc⟩
theorem tk22 : tiOf Tryz.prog 22 = some ti22 := by kernel_rfl
noncomputable def ti23 : TI := ⟨Tryz.t23.size, Tryz.t23.bytes, (Tryz.t23.zero).getD undefV, false, false, false, Tryz.t23.desc⟩
theorem tk23 : tiOf Tryz.prog 23 = some ti23 := by kernel_rfl
noncomputable def ti25 : TI := ⟨Tryz.t25.size, Tryz.t25.bytes, (Tryz.t25.zero).getD undefV, true, false, false, Tryz.t24.desc⟩
theorem tk25 : tiOf Tryz.prog 25 = some ti25 := by kernel_rfl
noncomputable def ti28 : TI := ⟨Tryz.t28.size, Tryz.t28.bytes, (Tryz.t28.zero).getD undefV, false, false, false, Tryz.t28.desc⟩
theorem tk28 : tiOf Tryz.prog 28 = some ti28 := by kernel_rfl
noncomputable def ti29 : TI := ⟨Tryz.t29.size, Tryz.t29.bytes, (Tryz.t29.zero).getD undefV, true, false, false, Tryz.t24.desc⟩
theorem tk29 : tiOf Tryz.prog 29 = some ti29 := by kernel_rfl
noncomputable def ti31 : TI := ⟨Tryz.t31.size, Tryz.t31.bytes, (Tryz.t31.zero).getD undefV, true, false, false, Tryz.t30.desc⟩
theorem tk31 : tiOf Tryz.prog 31 = some ti31 := by kernel_rfl
noncomputable def ti37 : TI := ⟨Tryz.t37.size, Tryz.t37.bytes, (Tryz.t37.zero).getD undefV, false, false, false, Tryz.t3.desc⟩
theorem tk37 : tiOf Tryz.prog 37 = some ti37 := by kernel_rfl
noncomputable def ti39 : TI := ⟨Tryz.t39.size, Tryz.t39.bytes, (Tryz.t39.zero).getD undefV, true, false, false, Tryz.t38.desc⟩
theorem tk39 : tiOf Tryz.prog 39 = some ti39 := by kernel_rfl
noncomputable def ti40 : TI := ⟨Tryz.t40.size, Tryz.t40.bytes, (Tryz.t40.zero).getD undefV, false, false, false, Tryz.t40.desc⟩
theorem tk40 : tiOf Tryz.prog 40 = some ti40 := by kernel_rfl
noncomputable def ti84 : TI := ⟨Tryz.t84.size, Tryz.t84.bytes, (Tryz.t84.zero).getD undefV, false, false, false, Tryz.t84.desc⟩
theorem tk84 : tiOf Tryz.prog 84 = some ti84 := by kernel_rfl
noncomputable def ti86 : TI := ⟨Tryz.t86.size, Tryz.t86.bytes, (Tryz.t86.zero).getD undefV, true, false, false, Tryz.t85.desc⟩
theorem tk86 : tiOf Tryz.prog 86 = some ti86 := by kernel_rfl
noncomputable def ti87 : TI := ⟨Tryz.t87.size, Tryz.t87.bytes, (Tryz.t87.zero).getD undefV, false, false, false, Tryz.t87.desc⟩
theorem tk87 : tiOf Tryz.prog 87 = some ti87 := by kernel_rfl
noncomputable def ti88 : TI := ⟨Tryz.t88.size, Tryz.t88.bytes, (Tryz.t88.zero).getD undefV, false, false, false, Tryz.t88.desc⟩
theorem tk88 : tiOf Tryz.prog 88 = some ti88 := by kernel_rfl
noncomputable def ti89 : TI := ⟨Tryz.t89.size, Tryz.t89.bytes, (Tryz.t89.zero).getD undefV, false, false, false, Tryz.t89.desc⟩
theorem tk89 : tiOf Tryz.prog 89 = some ti89 := by kernel_rfl
noncomputable def ti90 : TI := ⟨Tryz.t90.size, Tryz.t90.bytes, (Tryz.t90.zero).getD undefV, false, false, false, Tryz.t90.desc⟩
theorem tk90 : tiOf Tryz.prog 90 = some ti90 := by kernel_rfl
noncomputable def ti91 : TI := ⟨Tryz.t91.size, Tryz.t91.bytes, (Tryz.t91.zero).getD undefV, false, false, false, Tryz.t91.desc⟩
theorem tk91 : tiOf Tryz.prog 91 = some ti91 := by kernel_rfl
noncomputable def ti92 : TI := ⟨Tryz.t92.size, Tryz.t92.bytes, (Tryz.t92.zero).getD undefV, false, false, false, Tryz.t92.desc⟩
theorem tk92 : tiOf Tryz.prog 92 = some ti92 := by kernel_rfl
noncomputable def ti94 : TI := ⟨Tryz.t94.size, Tryz.t94.bytes, (Tryz.t94.zero).getD undefV, true, false, false, Tryz.t93.desc⟩
theorem tk94 : tiOf Tryz.prog 94 = some ti94 := by kernel_rfl
noncomputable def ti99 : TI := ⟨Tryz.t99.size, Tryz.t99.bytes, (Tryz.t99.zero).getD undefV, true, false, false, Tryz.t98.desc⟩
theorem tk99 : tiOf Tryz.prog 99 = some ti99 := by kernel_rfl
noncomputable def ti100 : TI := ⟨Tryz.t100.size, Tryz.t100.bytes, (Tryz.t100.zero).getD undefV, false, false, false, Tryz.t100.desc⟩
theorem tk100 : tiOf Tryz.prog 100 = some ti100 := by kernel_rfl
noncomputable def ti104 : TI := ⟨Tryz.t104.size, Tryz.t104.bytes, (Tryz.t104.zero).getD undefV, true, false, false, Tryz.t103.desc⟩
theorem tk104 : tiOf Tryz.prog 104 = some ti104 := by kernel_rfl
noncomputable def ti106 : TI := ⟨Tryz.t106.size, Tryz.t106.bytes, (Tryz.t106.zero).getD undefV, true, false, false, Tryz.t105.desc⟩
theorem tk106 : tiOf Tryz.prog 106 = some ti106 := by kernel_rfl
noncomputable def ti109 : TI := ⟨Tryz.t109.size, Tryz.t109.bytes, (Tryz.t109.zero).getD undefV, false, false, false, Tryz.t109.desc⟩
theorem tk109 : tiOf Tryz.prog 109 = some ti109 := by kernel_rfl
noncomputable def ti111 : TI := ⟨Tryz.t111.size, Tryz.t111.bytes, (Tryz.t111.zero).getD undefV, true, false, false, Tryz.t110.desc⟩
theorem tk111 : tiOf Tryz.prog 111 = some ti111 := by kernel_rfl
noncomputable def ti112 : TI := ⟨Tryz.t112.size, Tryz.t112.bytes, (Tryz.t112.zero).getD undefV, true, false, false, Tryz.t112.desc⟩
theorem tk112 : tiOf Tryz.prog 112 = some ti112 := by kernel_rfl
noncomputable def ti114 : TI := ⟨Tryz.t114.size, Tryz.t114.bytes, (Tryz.t114.zero).getD undefV, true, false, false, Tryz.t113.desc⟩
theorem tk114 : tiOf Tryz.prog 114 = some ti114 := by kernel_rfl
noncomputable def ti116 : TI := ⟨Tryz.t116.size, Tryz.t116.bytes, (Tryz.t116.zero).getD undefV, true, false, false, Tryz.t115.desc⟩
theorem tk116 : tiOf Tryz.prog 116 = some ti116 := by kernel_rfl
noncomputable def ti117 : TI := ⟨Tryz.t117.size, Tryz.t117.bytes, (Tryz.t117.zero).getD undefV, false, false, false, Tryz.t117.desc⟩
theorem tk117 : tiOf Tryz.prog 117 = some ti117 := by kernel_rfl
noncomputable def ti134 : TI := ⟨Tryz.t134.size, Tryz.t134.bytes, (Tryz.t134.zero).getD undefV, true, false, false, Tryz.t133.desc⟩
theorem tk134 : tiOf Tryz.prog 134 = some ti134 := by kernel_rfl
noncomputable def ti144 : TI := ⟨Tryz.t144.size, Tryz.t144.bytes, (Tryz.t144.zero).getD undefV, true, false, false, Tryz.t143.desc⟩
theorem tk144 : tiOf Tryz.prog 144 = some ti144 := by kernel_rfl
noncomputable def ti157 : TI := ⟨Tryz.t157.size, Tryz.t157.bytes, (Tryz.t157.zero).getD undefV, false, false, false, Tryz.t157.desc⟩
theorem tk157 : tiOf Tryz.prog 157 = some ti157 := by kernel_rfl
noncomputable def ti160 : TI := ⟨Tryz.t160.size, Tryz.t160.bytes, (Tryz.t160.zero).getD undefV, true, false, false, Tryz.t160.desc⟩
theorem tk160 : tiOf Tryz.prog 160 = some ti160 := by kernel_rfl
noncomputable def ti161 : TI := ⟨Tryz.t161.size, Tryz.t161.bytes, (Tryz.t161.zero).getD undefV, false, false, false, Tryz.t161.desc⟩
theorem tk161 : tiOf Tryz.prog 161 = some ti161 := by kernel_rfl
noncomputable def ti162 : TI := ⟨Tryz.t162.size, Tryz.t162.bytes, (Tryz.t162.zero).getD undefV, false, false, false, Tryz.t162.desc⟩
theorem tk162 : tiOf Tryz.prog 162 = some ti162 := by kernel_rfl
noncomputable def ti164 : TI := ⟨Tryz.t164.size, Tryz.t164.bytes, (Tryz.t164.zero).getD undefV, true, false, false, Tryz.t163.desc⟩
theorem tk164 : tiOf Tryz.prog 164 = some ti164 := by kernel_rfl
noncomputable def ti172 : TI := ⟨Tryz.t172.size, Tryz.t172.bytes, (Tryz.t172.zero).getD undefV, true, false, false, Tryz.t171.desc⟩
theorem tk172 : tiOf Tryz.prog 172 = some ti172 := by kernel_rfl
noncomputable def ti191 : TI := ⟨Tryz.t191.size, Tryz.t191.bytes, (Tryz.t191.zero).getD undefV, true, false, false, Tryz.t190.desc⟩
theorem tk191 : tiOf Tryz.prog 191 = some ti191 := by kernel_rfl
noncomputable def ti218 : TI := ⟨Tryz.t218.size, Tryz.t218.bytes, (Tryz.t218.zero).getD undefV, false, false, false, Tryz.t218.desc⟩
theorem tk218 : tiOf Tryz.prog 218 = some ti218 := by kernel_rfl
noncomputable def ti219 : TI := ⟨Tryz.t219.size, Tryz.t219.bytes, (Tryz.t219.zero).getD undefV, false, false, false, Tryz.t219.desc⟩
theorem tk219 : tiOf Tryz.prog 219 = some ti219 := by kernel_rfl
noncomputable def ti221 : TI := ⟨Tryz.t221.size, Tryz.t221.bytes, (Tryz.t221.zero).getD undefV, true, false, false, Tryz.t220.desc⟩
theorem tk221 : tiOf Tryz.prog 221 = some ti221 := by kernel_rfl
noncomputable def ti222 : TI := ⟨Tryz.t222.size, Tryz.t222.bytes, (Tryz.t222.zero).getD undefV, false, false, false, Tryz.t222.desc⟩
theorem tk222 : tiOf Tryz.prog 222 = some ti222 := by kernel_rfl
noncomputable def ti225 : TI := ⟨Tryz.t225.size, Tryz.t225.bytes, (Tryz.t225.zero).getD undefV, true, false, false, Tryz.t143.desc⟩
theorem tk225 : tiOf Tryz.prog 225 = some ti225 := by kernel_rfl
noncomputable def ti237 : TI := ⟨Tryz.t237.size, Tryz.t237.bytes, (Tryz.t237.zero).getD undefV, false, false, false, Tryz.t237.desc⟩
theorem tk237 : tiOf Tryz.prog 237 = some ti237 := by kernel_rfl
noncomputable def ti253 : TI := ⟨Tryz.t253.size, Tryz.t253.bytes, (Tryz.t253.zero).getD undefV, true, false, false, Tryz.t252.desc⟩
theorem tk253 : tiOf Tryz.prog 253 = some ti253 := by kernel_rfl
noncomputable def ti256 : TI := ⟨Tryz.t256.size, Tryz.t256.bytes, (Tryz.t256.zero).getD undefV, false, false, false, Tryz.t256.desc⟩
theorem tk256 : tiOf Tryz.prog 256 = some ti256 := by kernel_rfl
noncomputable def ti258 : TI := ⟨Tryz.t258.size, Tryz.t258.bytes, (Tryz.t258.zero).getD undefV, true, false, false, Tryz.t257.desc⟩
theorem tk258 : tiOf Tryz.prog 258 = some ti258 := by kernel_rfl
noncomputable def ti263 : TI := ⟨Tryz.t263.size, Tryz.t263.bytes, (Tryz.t263.zero).getD undefV, false, false, false, Tryz.t263.desc⟩
theorem tk263 : tiOf Tryz.prog 263 = some ti263 := by kernel_rfl
noncomputable def ti269 : TI := ⟨Tryz.t269.size, Tryz.t269.bytes, (Tryz.t269.zero).getD undefV, false, false, false, Tryz.t269.desc⟩
theorem tk269 : tiOf Tryz.prog 269 = some ti269 := by kernel_rfl
noncomputable def ti272 : TI := ⟨Tryz.t272.size, Tryz.t272.bytes, (Tryz.t272.zero).getD undefV, false, false, false, Tryz.t272.desc⟩
theorem tk272 : tiOf Tryz.prog 272 = some ti272 := by kernel_rfl
noncomputable def ti284 : TI := ⟨Tryz.t284.size, Tryz.t284.bytes, (Tryz.t284.zero).getD undefV, false, false, false, Tryz.t284.desc⟩
theorem tk284 : tiOf Tryz.prog 284 = some ti284 := by kernel_rfl
noncomputable def ti327 : TI := ⟨Tryz.t327.size, Tryz.t327.bytes, (Tryz.t327.zero).getD undefV, false, false, false, Tryz.t327.desc⟩
theorem tk327 : tiOf Tryz.prog 327 = some ti327 := by kernel_rfl
noncomputable def ti336 : TI := ⟨Tryz.t336.size, Tryz.t336.bytes, (Tryz.t336.zero).getD undefV, true, false, false, Tryz.t335.desc⟩
theorem tk336 : tiOf Tryz.prog 336 = some ti336 := by kernel_rfl
noncomputable def ti340 : TI := ⟨Tryz.t340.size, Tryz.t340.bytes, (Tryz.t340.zero).getD undefV, false, false, false, Tryz.t3.desc⟩
theorem tk340 : tiOf Tryz.prog 340 = some ti340 := by kernel_rfl
noncomputable def ti349 : TI := ⟨Tryz.t349.size, Tryz.t349.bytes, (Tryz.t349.zero).getD undefV, true, false, false, Tryz.t348.desc⟩
theorem tk349 : tiOf Tryz.prog 349 = some ti349 := by kernel_rfl
noncomputable def ti352 : TI := ⟨Tryz.t352.size, Tryz.t352.bytes, (Tryz.t352.zero).getD undefV, true, false, false, Tryz.t182.desc⟩
theorem tk352 : tiOf Tryz.prog 352 = some ti352 := by kernel_rfl
noncomputable def ti358 : TI := ⟨Tryz.t358.size, Tryz.t358.bytes, (Tryz.t358.zero).getD undefV, true, false, false, Tryz.t98.desc⟩
theorem tk358 : tiOf Tryz.prog 358 = some ti358 := by kernel_rfl
noncomputable def ti362 : TI := ⟨Tryz.t362.size, Tryz.t362.bytes, (Tryz.t362.zero).getD undefV, true, false, false, Tryz.t335.desc⟩
theorem tk362 : tiOf Tryz.prog 362 = some ti362 := by kernel_rfl
noncomputable def ti375 : TI := ⟨Tryz.t375.size, Tryz.t375.bytes, (Tryz.t375.zero).getD undefV, false, false, false, Tryz.t375.desc⟩
theorem tk375 : tiOf Tryz.prog 375 = some ti375 := by kernel_rfl
noncomputable def ti382 : TI := ⟨Tryz.t382.size, Tryz.t382.bytes, (Tryz.t382.zero).getD undefV, true, false, false, Tryz.t381.desc⟩
theorem tk382 : tiOf Tryz.prog 382 = some ti382 := by kernel_rfl
noncomputable def ti384 : TI := ⟨Tryz.t384.size, Tryz.t384.bytes, (Tryz.t384.zero).getD undefV, false, false, false, Tryz.t284.desc⟩
theorem tk384 : tiOf Tryz.prog 384 = some ti384 := by kernel_rfl
noncomputable def ti386 : TI := ⟨Tryz.t386.size, Tryz.t386.bytes, (Tryz.t386.zero).getD undefV, false, false, false, Tryz.t284.desc⟩
theorem tk386 : tiOf Tryz.prog 386 = some ti386 := by kernel_rfl
noncomputable def ti390 : TI := ⟨Tryz.t390.size, Tryz.t390.bytes, (Tryz.t390.zero).getD undefV, false, false, false, Tryz.t390.desc⟩
theorem tk390 : tiOf Tryz.prog 390 = some ti390 := by kernel_rfl
noncomputable def ti392 : TI := ⟨Tryz.t392.size, Tryz.t392.bytes, (Tryz.t392.zero).getD undefV, true, false, false, Tryz.t207.desc⟩
theorem tk392 : tiOf Tryz.prog 392 = some ti392 := by kernel_rfl
noncomputable def ti457 : TI := ⟨Tryz.t457.size, Tryz.t457.bytes, (Tryz.t457.zero).getD undefV, true, false, false, Tryz.t457.desc⟩
theorem tk457 : tiOf Tryz.prog 457 = some ti457 := by kernel_rfl
noncomputable def ti482 : TI := ⟨Tryz.t482.size, Tryz.t482.bytes, (Tryz.t482.zero).getD undefV, true, false, false, Tryz.t482.desc⟩
theorem tk482 : tiOf Tryz.prog 482 = some ti482 := by kernel_rfl
noncomputable def ti484 : TI := ⟨Tryz.t484.size, Tryz.t484.bytes, (Tryz.t484.zero).getD undefV, true, false, false, Tryz.t483.desc⟩
theorem tk484 : tiOf Tryz.prog 484 = some ti484 := by kernel_rfl
noncomputable def ti485 : TI := ⟨Tryz.t485.size, Tryz.t485.bytes, (Tryz.t485.zero).getD undefV, true, false, false, Tryz.t485.desc⟩
theorem tk485 : tiOf Tryz.prog 485 = some ti485 := by kernel_rfl
noncomputable def tab : T TI := (.node (.node (.node (.node (.node (.node (.node .leaf none (.node .leaf (some ti191) .leaf)) (some ti31) .leaf) none (.node .leaf none (.node .leaf (some ti111) .leaf))) none (.node (.node (.node (.node (.node .leaf (some ti263) .leaf) none .leaf) none (.node (.node .leaf (some ti327) .leaf) none .leaf)) (some ti39) .leaf) (some ti23) (.node (.node .leaf (some ti87) .leaf) none (.node .leaf none (.node (.node .leaf (some ti375) .leaf) none .leaf))))) (some ti3) (.node (.node (.node .leaf none (.node .leaf (some ti99) .leaf)) none .leaf) none (.node .leaf none (.node (.node .leaf (some ti91) (.node .leaf (some ti219) .leaf)) none .leaf)))) none (.node (.node (.node (.node .leaf none (.node (.node .leaf (some ti161) .leaf) none (.node .leaf (some ti225) .leaf))) none .leaf) (some ti9) (.node (.node (.node .leaf none (.node .leaf none (.node .leaf (some ti457) .leaf))) none .leaf) (some ti25) (.node (.node .leaf (some ti89) .leaf) none .leaf))) (some ti5) (.node (.node (.node .leaf (some ti37) (.node .leaf none (.node .leaf none (.node .leaf (some ti485) .leaf)))) (some ti21) (.node .leaf none (.node .leaf (some ti117) .leaf))) none (.node (.node (.node (.node (.node .leaf (some ti269) .leaf) none .leaf) none .leaf) none (.node .leaf (some ti109) (.node .leaf (some ti237) .leaf))) (some ti29) (.node (.node (.node .leaf (some ti157) .leaf) none (.node (.node .leaf (some ti349) .leaf) (some ti221) .leaf)) none (.node .leaf none (.node .leaf (some ti253) .leaf))))))) none (.node (.node (.node (.node (.node (.node (.node (.node .leaf (some ti256) .leaf) none (.node .leaf (some ti384) .leaf)) none .leaf) none (.node (.node .leaf (some ti160) .leaf) none (.node (.node .leaf (some ti352) .leaf) none .leaf))) none (.node (.node (.node (.node .leaf (some ti272) .leaf) (some ti144) .leaf) none (.node (.node .leaf (some ti336) .leaf) none .leaf)) none (.node .leaf (some ti112) .leaf))) none (.node (.node (.node (.node .leaf none (.node .leaf (some ti392) .leaf)) none .leaf) (some ti40) (.node .leaf (some ti104) .leaf)) none (.node (.node .leaf (some ti88) .leaf) none .leaf))) (some ti4) (.node (.node (.node .leaf none (.node (.node .leaf (some ti164) .leaf) (some ti100) (.node .leaf none (.node .leaf (some ti484) .leaf)))) none (.node (.node .leaf (some ti84) (.node (.node .leaf (some ti340) .leaf) none .leaf)) none (.node .leaf (some ti116) .leaf))) none (.node (.node .leaf none (.node (.node .leaf (some ti172) .leaf) none .leaf)) (some ti28) (.node (.node (.node (.node .leaf (some ti284) .leaf) none .leaf) (some ti92) .leaf) none .leaf)))) (some ti2) (.node (.node (.node (.node (.node (.node (.node .leaf (some ti258) .leaf) none (.node .leaf (some ti386) .leaf)) none .leaf) none (.node (.node .leaf (some ti162) .leaf) none (.node .leaf none (.node .leaf (some ti482) .leaf)))) none (.node .leaf none (.node .leaf (some ti114) .leaf))) none (.node (.node .leaf none (.node .leaf (some ti106) (.node (.node .leaf (some ti362) .leaf) none .leaf))) none (.node (.node .leaf (some ti90) (.node .leaf (some ti218) .leaf)) none .leaf))) none (.node (.node (.node (.node (.node .leaf (some ti134) (.node .leaf (some ti390) .leaf)) none .leaf) none (.node .leaf none (.node (.node .leaf (some ti358) .leaf) none .leaf))) (some ti22) (.node (.node .leaf (some ti86) .leaf) none .leaf)) none (.node .leaf none (.node (.node .leaf (some ti94) (.node .leaf (some ti222) .leaf)) none (.node .leaf none (.node (.node .leaf (some ti382) .leaf) none .leaf))))))))
noncomputable def ty : Ty := fun t => tab.get t
theorem tyOk : TyOk Tryz.prog ty := T.all_get (p := fun t i => tiOf Tryz.prog t = some i) (t := tab) (ix := fun n => n) ⟨⟨⟨⟨⟨⟨⟨trivial, trivial, ⟨trivial, tk191, trivial⟩⟩, tk31, trivial⟩, trivial, ⟨trivial, trivial, ⟨trivial, tk111, trivial⟩⟩⟩, trivial, ⟨⟨⟨⟨⟨trivial, tk263, trivial⟩, trivial, trivial⟩, trivial, ⟨⟨trivial, tk327, trivial⟩, trivial, trivial⟩⟩, tk39, trivial⟩, tk23, ⟨⟨trivial, tk87, trivial⟩, trivial, ⟨trivial, trivial, ⟨⟨trivial, tk375, trivial⟩, trivial, trivial⟩⟩⟩⟩⟩, tk3, ⟨⟨⟨trivial, trivial, ⟨trivial, tk99, trivial⟩⟩, trivial, trivial⟩, trivial, ⟨trivial, trivial, ⟨⟨trivial, tk91, ⟨trivial, tk219, trivial⟩⟩, trivial, trivial⟩⟩⟩⟩, trivial, ⟨⟨⟨⟨trivial, trivial, ⟨⟨trivial, tk161, trivial⟩, trivial, ⟨trivial, tk225, trivial⟩⟩⟩, trivial, trivial⟩, tk9, ⟨⟨⟨trivial, trivial, ⟨trivial, trivial, ⟨trivial, tk457, trivial⟩⟩⟩, trivial, trivial⟩, tk25, ⟨⟨trivial, tk89, trivial⟩, trivial, trivial⟩⟩⟩, tk5, ⟨⟨⟨trivial, tk37, ⟨trivial, trivial, ⟨trivial, trivial, ⟨trivial, tk485, trivial⟩⟩⟩⟩, tk21, ⟨trivial, trivial, ⟨trivial, tk117, trivial⟩⟩⟩, trivial, ⟨⟨⟨⟨⟨trivial, tk269, trivial⟩, trivial, trivial⟩, trivial, trivial⟩, trivial, ⟨trivial, tk109, ⟨trivial, tk237, trivial⟩⟩⟩, tk29, ⟨⟨⟨trivial, tk157, trivial⟩, trivial, ⟨⟨trivial, tk349, trivial⟩, tk221, trivial⟩⟩, trivial, ⟨trivial, trivial, ⟨trivial, tk253, trivial⟩⟩⟩⟩⟩⟩⟩, trivial, ⟨⟨⟨⟨⟨⟨⟨⟨trivial, tk256, trivial⟩, trivial, ⟨trivial, tk384, trivial⟩⟩, trivial, trivial⟩, trivial, ⟨⟨trivial, tk160, trivial⟩, trivial, ⟨⟨trivial, tk352, trivial⟩, trivial, trivial⟩⟩⟩, trivial, ⟨⟨⟨⟨trivial, tk272, trivial⟩, tk144, trivial⟩, trivial, ⟨⟨trivial, tk336, trivial⟩, trivial, trivial⟩⟩, trivial, ⟨trivial, tk112, trivial⟩⟩⟩, trivial, ⟨⟨⟨⟨trivial, trivial, ⟨trivial, tk392, trivial⟩⟩, trivial, trivial⟩, tk40, ⟨trivial, tk104, trivial⟩⟩, trivial, ⟨⟨trivial, tk88, trivial⟩, trivial, trivial⟩⟩⟩, tk4, ⟨⟨⟨trivial, trivial, ⟨⟨trivial, tk164, trivial⟩, tk100, ⟨trivial, trivial, ⟨trivial, tk484, trivial⟩⟩⟩⟩, trivial, ⟨⟨trivial, tk84, ⟨⟨trivial, tk340, trivial⟩, trivial, trivial⟩⟩, trivial, ⟨trivial, tk116, trivial⟩⟩⟩, trivial, ⟨⟨trivial, trivial, ⟨⟨trivial, tk172, trivial⟩, trivial, trivial⟩⟩, tk28, ⟨⟨⟨⟨trivial, tk284, trivial⟩, trivial, trivial⟩, tk92, trivial⟩, trivial, trivial⟩⟩⟩⟩, tk2, ⟨⟨⟨⟨⟨⟨⟨trivial, tk258, trivial⟩, trivial, ⟨trivial, tk386, trivial⟩⟩, trivial, trivial⟩, trivial, ⟨⟨trivial, tk162, trivial⟩, trivial, ⟨trivial, trivial, ⟨trivial, tk482, trivial⟩⟩⟩⟩, trivial, ⟨trivial, trivial, ⟨trivial, tk114, trivial⟩⟩⟩, trivial, ⟨⟨trivial, trivial, ⟨trivial, tk106, ⟨⟨trivial, tk362, trivial⟩, trivial, trivial⟩⟩⟩, trivial, ⟨⟨trivial, tk90, ⟨trivial, tk218, trivial⟩⟩, trivial, trivial⟩⟩⟩, trivial, ⟨⟨⟨⟨⟨trivial, tk134, ⟨trivial, tk390, trivial⟩⟩, trivial, trivial⟩, trivial, ⟨trivial, trivial, ⟨⟨trivial, tk358, trivial⟩, trivial, trivial⟩⟩⟩, tk22, ⟨⟨trivial, tk86, trivial⟩, trivial, trivial⟩⟩, trivial, ⟨trivial, trivial, ⟨⟨trivial, tk94, ⟨trivial, tk222, trivial⟩⟩, trivial, ⟨trivial, trivial, ⟨⟨trivial, tk382, trivial⟩, trivial, trivial⟩⟩⟩⟩⟩⟩⟩⟩
end Am
end Go.Proofs.YtbfbaofhnnnohaaGreatDoor
