import Derived.Test.YtbfbaofhnnnohaaGreatDoorProg
import Derived.KernelRfl
import Derived.Test.YtbfbaofhnnnohaaGreatDoorAmD
set_option maxRecDepth 100000
namespace Go.Proofs.YtbfbaofhnnnohaaGreatDoor
namespace Am
open Go
noncomputable def ti2 : TI := ⟨Tryz.t2.size, Tryz.t2.bytes, (Tryz.t2.zero).getD undefV, false, false, false, Tryz.t2.desc⟩
theorem tk2 : tiOf Tryz.prog 2 = some ti2 := by kernel_rfl
noncomputable def ti3 : TI := ⟨Tryz.t3.size, Tryz.t3.bytes, (Tryz.t3.zero).getD undefV, false, false, false, Tryz.t3.desc⟩
theorem tk3 : tiOf Tryz.prog 3 = some ti3 := by kernel_rfl
noncomputable def ti4 : TI := ⟨Tryz.t4.size, Tryz.t4.bytes, (Tryz.t4.zero).getD undefV, false, false, false, Tryz.t4.desc⟩
theorem tk4 : tiOf Tryz.prog 4 = some ti4 := by kernel_rfl
noncomputable def ti5 : TI := ⟨Tryz.t5.size, Tryz.t5.bytes, (Tryz.t5.zero).getD undefV, false, false, false, Tryz.t5.desc⟩
theorem tk5 : tiOf Tryz.prog 5 = some ti5 := by kernel_rfl
noncomputable def ti9 : TI := ⟨Tryz.t9.size, Tryz.t9.bytes, (Tryz.t9.zero).getD undefV, false, false, false, Tryz.t9.desc⟩
theorem tk9 : tiOf Tryz.prog 9 = some ti9 := by kernel_rfl
noncomputable def ti21 : TI := ⟨Tryz.t21.size, Tryz.t21.bytes, (Tryz.t21.zero).getD undefV, false, false, false, Tryz.t21.desc⟩
theorem tk21 : tiOf Tryz.prog 21 = some ti21 := by kernel_rfl
noncomputable def ti22 : TI := ⟨Tryz.t22.size, Tryz.t22.bytes, (Tryz.t22.zero).getD undefV, false, false, false, Tryz.t22.desc⟩
theorem tk22 : tiOf Tryz.prog 22 = some ti22 := by kernel_rfl
noncomputable def ti23 : TI := ⟨Tryz.t23.size, Tryz.t23.bytes, (Tryz.t23.zero).getD undefV, false, false, false, Tryz.t23.desc⟩
theorem tk23 : tiOf Tryz.prog 23 = some ti23 := by kernel_rfl
noncomputable def ti25 : TI := ⟨Tryz.t25.size, Tryz.t25.bytes, (Tryz.t25.zero).getD undefV, true, false, false, Tryz.t24.desc⟩
theorem tk25 : tiOf Tryz.prog 25 = some ti25 := by kernel_rfl
noncomputable def ti29 : TI := ⟨Tryz.t29.size, Tryz.t29.bytes, (Tryz.t29.zero).getD undefV, true, false, false, Tryz.t24.desc⟩
theorem tk29 : tiOf Tryz.prog 29 = some ti29 := by kernel_rfl
noncomputable def ti37 : TI := ⟨Tryz.t37.size, Tryz.t37.bytes, (Tryz.t37.zero).getD undefV, false, false, false, Tryz.t3.desc⟩
theorem tk37 : tiOf Tryz.prog 37 = some ti37 := by kernel_rfl
noncomputable def ti51 : TI := ⟨Tryz.t51.size, Tryz.t51.bytes, (Tryz.t51.zero).getD undefV, false, false, false, Tryz.t51.desc⟩
theorem tk51 : tiOf Tryz.prog 51 = some ti51 := by kernel_rfl
noncomputable def ti73 : TI := ⟨Tryz.t73.size, Tryz.t73.bytes, (Tryz.t73.zero).getD undefV, false, false, false, Tryz.t73.desc⟩
theorem tk73 : tiOf Tryz.prog 73 = some ti73 := by kernel_rfl
noncomputable def ti80 : TI := ⟨Tryz.t80.size, Tryz.t80.bytes, (Tryz.t80.zero).getD undefV, true, false, false, Tryz.t79.desc⟩
theorem tk80 : tiOf Tryz.prog 80 = some ti80 := by kernel_rfl
noncomputable def ti82 : TI := ⟨Tryz.t82.size, Tryz.t82.bytes, (Tryz.t82.zero).getD undefV, false, false, false, Tryz.t82.desc⟩
theorem tk82 : tiOf Tryz.prog 82 = some ti82 := by kernel_rfl
noncomputable def ti87 : TI := ⟨Tryz.t87.size, Tryz.t87.bytes, (Tryz.t87.zero).getD undefV, false, false, false, Tryz.t87.desc⟩
theorem tk87 : tiOf Tryz.prog 87 = some ti87 := by kernel_rfl
noncomputable def ti99 : TI := ⟨Tryz.t99.size, Tryz.t99.bytes, (Tryz.t99.zero).getD undefV, true, false, false, Tryz.t98.desc⟩
theorem tk99 : tiOf Tryz.prog 99 = some ti99 := by kernel_rfl
noncomputable def ti109 : TI := ⟨Tryz.t109.size, Tryz.t109.bytes, (Tryz.t109.zero).getD undefV, false, false, false, Tryz.t109.desc⟩
theorem tk109 : tiOf Tryz.prog 109 = some ti109 := by kernel_rfl
noncomputable def ti111 : TI := ⟨Tryz.t111.size, Tryz.t111.bytes, (Tryz.t111.zero).getD undefV, true, false, false, Tryz.t110.desc⟩
theorem tk111 : tiOf Tryz.prog 111 = some ti111 := by kernel_rfl
noncomputable def ti112 : TI := ⟨Tryz.t112.size, Tryz.t112.bytes, (Tryz.t112.zero).getD undefV, true, false, false, Tryz.t112.desc⟩
theorem tk112 : tiOf Tryz.prog 112 = some ti112 := by kernel_rfl
noncomputable def ti114 : TI := ⟨Tryz.t114.size, Tryz.t114.bytes, (Tryz.t114.zero).getD undefV, true, false, false, Tryz.t113.desc⟩
theorem tk114 : tiOf Tryz.prog 114 = some ti114 := by kernel_rfl
noncomputable def ti116 : TI := ⟨Tryz.t116.size, Tryz.t116.bytes, (Tryz.t116.zero).getD undefV, true, false, false, Tryz.t115.desc⟩
theorem tk116 : tiOf Tryz.prog 116 = some ti116 := by kernel_rfl
noncomputable def ti117 : TI := ⟨Tryz.t117.size, Tryz.t117.bytes, (Tryz.t117.zero).getD undefV, false, false, false, Tryz.t117.desc⟩
theorem tk117 : tiOf Tryz.prog 117 = some ti117 := by kernel_rfl
noncomputable def ti122 : TI := ⟨Tryz.t122.size, Tryz.t122.bytes, (Tryz.t122.zero).getD undefV, false, false, false, Tryz.t122.desc⟩
theorem tk122 : tiOf Tryz.prog 122 = some ti122 := by kernel_rfl
noncomputable def ti126 : TI := ⟨Tryz.t126.size, Tryz.t126.bytes, (Tryz.t126.zero).getD undefV, false, false, false, Tryz.t126.desc⟩
theorem tk126 : tiOf Tryz.prog 126 = some ti126 := by kernel_rfl
noncomputable def ti130 : TI := ⟨Tryz.t130.size, Tryz.t130.bytes, (Tryz.t130.zero).getD undefV, false, false, false, Tryz.t130.desc⟩
theorem tk130 : tiOf Tryz.prog 130 = some ti130 := by kernel_rfl
noncomputable def ti134 : TI := ⟨Tryz.t134.size, Tryz.t134.bytes, (Tryz.t134.zero).getD undefV, true, false, false, Tryz.t133.desc⟩
theorem tk134 : tiOf Tryz.prog 134 = some ti134 := by kernel_rfl
noncomputable def ti144 : TI := ⟨Tryz.t144.size, Tryz.t144.bytes, (Tryz.t144.zero).getD undefV, true, false, false, Tryz.t143.desc⟩
theorem tk144 : tiOf Tryz.prog 144 = some ti144 := by kernel_rfl
noncomputable def ti147 : TI := ⟨Tryz.t147.size, Tryz.t147.bytes, (Tryz.t147.zero).getD undefV, false, false, false, Tryz.t147.desc⟩
theorem tk147 : tiOf Tryz.prog 147 = some ti147 := by kernel_rfl
noncomputable def ti149 : TI := ⟨Tryz.t149.size, Tryz.t149.bytes, (Tryz.t149.zero).getD undefV, true, false, false, Tryz.t148.desc⟩
theorem tk149 : tiOf Tryz.prog 149 = some ti149 := by kernel_rfl
noncomputable def ti151 : TI := ⟨Tryz.t151.size, Tryz.t151.bytes, (Tryz.t151.zero).getD undefV, true, false, false, Tryz.t150.desc⟩
theorem tk151 : tiOf Tryz.prog 151 = some ti151 := by kernel_rfl
noncomputable def ti155 : TI := ⟨Tryz.t155.size, Tryz.t155.bytes, (Tryz.t155.zero).getD undefV, false, false, false, Tryz.t154.desc⟩
theorem tk155 : tiOf Tryz.prog 155 = some ti155 := by kernel_rfl
noncomputable def ti157 : TI := ⟨Tryz.t157.size, Tryz.t157.bytes, (Tryz.t157.zero).getD undefV, false, false, false, Tryz.t157.desc⟩
theorem tk157 : tiOf Tryz.prog 157 = some ti157 := by kernel_rfl
noncomputable def ti160 : TI := ⟨Tryz.t160.size, Tryz.t160.bytes, (Tryz.t160.zero).getD undefV, true, false, false, Tryz.t160.desc⟩
theorem tk160 : tiOf Tryz.prog 160 = some ti160 := by kernel_rfl
noncomputable def ti161 : TI := ⟨Tryz.t161.size, Tryz.t161.bytes, (Tryz.t161.zero).getD undefV, false, false, false, Tryz.t161.desc⟩
theorem tk161 : tiOf Tryz.prog 161 = some ti161 := by kernel_rfl
noncomputable def ti162 : TI := ⟨Tryz.t162.size, Tryz.t162.bytes, (Tryz.t162.zero).getD undefV, false, false, false, Tryz.t162.desc⟩
theorem tk162 : tiOf Tryz.prog 162 = some ti162 := by kernel_rfl
noncomputable def ti164 : TI := ⟨Tryz.t164.size, Tryz.t164.bytes, (Tryz.t164.zero).getD undefV, true, false, false, Tryz.t163.desc⟩
theorem tk164 : tiOf Tryz.prog 164 = some ti164 := by kernel_rfl
noncomputable def ti172 : TI := ⟨Tryz.t172.size, Tryz.t172.bytes, (Tryz.t172.zero).getD undefV, true, false, false, Tryz.t171.desc⟩
theorem tk172 : tiOf Tryz.prog 172 = some ti172 := by kernel_rfl
noncomputable def ti183 : TI := ⟨Tryz.t183.size, Tryz.t183.bytes, (Tryz.t183.zero).getD undefV, true, false, false, Tryz.t182.desc⟩
theorem tk183 : tiOf Tryz.prog 183 = some ti183 := by kernel_rfl
noncomputable def ti185 : TI := ⟨Tryz.t185.size, Tryz.t185.bytes, (Tryz.t185.zero).getD undefV, true, false, false, Tryz.t184.desc⟩
theorem tk185 : tiOf Tryz.prog 185 = some ti185 := by kernel_rfl
noncomputable def ti187 : TI := ⟨Tryz.t187.size, Tryz.t187.bytes, (Tryz.t187.zero).getD undefV, false, false, false, Tryz.t187.desc⟩
theorem tk187 : tiOf Tryz.prog 187 = some ti187 := by kernel_rfl
noncomputable def ti203 : TI := ⟨Tryz.t203.size, Tryz.t203.bytes, (Tryz.t203.zero).getD undefV, true, false, false, Tryz.t202.desc⟩
theorem tk203 : tiOf Tryz.prog 203 = some ti203 := by kernel_rfl
noncomputable def ti208 : TI := ⟨Tryz.t208.size, Tryz.t208.bytes, (Tryz.t208.zero).getD undefV, true, false, false, Tryz.t207.desc⟩
theorem tk208 : tiOf Tryz.prog 208 = some ti208 := by kernel_rfl
noncomputable def ti212 : TI := ⟨Tryz.t212.size, Tryz.t212.bytes, (Tryz.t212.zero).getD undefV, false, false, false, Tryz.t212.desc⟩
theorem tk212 : tiOf Tryz.prog 212 = some ti212 := by kernel_rfl
noncomputable def ti214 : TI := ⟨Tryz.t214.size, Tryz.t214.bytes, (Tryz.t214.zero).getD undefV, true, false, false, Tryz.t213.desc⟩
theorem tk214 : tiOf Tryz.prog 214 = some ti214 := by kernel_rfl
noncomputable def ti218 : TI := ⟨Tryz.t218.size, Tryz.t218.bytes, (Tryz.t218.zero).getD undefV, false, false, false, Tryz.t218.desc⟩
theorem tk218 : tiOf Tryz.prog 218 = some ti218 := by kernel_rfl
noncomputable def ti219 : TI := ⟨Tryz.t219.size, Tryz.t219.bytes, (Tryz.t219.zero).getD undefV, false, false, false, Tryz.t219.desc⟩
theorem tk219 : tiOf Tryz.prog 219 = some ti219 := by kernel_rfl
noncomputable def ti221 : TI := ⟨Tryz.t221.size, Tryz.t221.bytes, (Tryz.t221.zero).getD undefV, true, false, false, Tryz.t220.desc⟩
theorem tk221 : tiOf Tryz.prog 221 = some ti221 := by kernel_rfl
noncomputable def ti222 : TI := ⟨Tryz.t222.size, Tryz.t222.bytes, (Tryz.t222.zero).getD undefV, false, false, false, Tryz.t222.desc⟩
theorem tk222 : tiOf Tryz.prog 222 = some ti222 := by kernel_rfl
noncomputable def ti225 : TI := ⟨Tryz.t225.size, Tryz.t225.bytes, (Tryz.t225.zero).getD undefV, true, false, false, Tryz.t143.desc⟩
theorem tk225 : tiOf Tryz.prog 225 = some ti225 := by kernel_rfl
noncomputable def ti237 : TI := ⟨Tryz.t237.size, Tryz.t237.bytes, (Tryz.t237.zero).getD undefV, false, false, false, Tryz.t237.desc⟩
theorem tk237 : tiOf Tryz.prog 237 = some ti237 := by kernel_rfl
noncomputable def ti239 : TI := ⟨Tryz.t239.size, Tryz.t239.bytes, (Tryz.t239.zero).getD undefV, true, false, false, Tryz.t238.desc⟩
theorem tk239 : tiOf Tryz.prog 239 = some ti239 := by kernel_rfl
noncomputable def ti256 : TI := ⟨Tryz.t256.size, Tryz.t256.bytes, (Tryz.t256.zero).getD undefV, false, false, false, Tryz.t256.desc⟩
theorem tk256 : tiOf Tryz.prog 256 = some ti256 := by kernel_rfl
noncomputable def ti258 : TI := ⟨Tryz.t258.size, Tryz.t258.bytes, (Tryz.t258.zero).getD undefV, true, false, false, Tryz.t257.desc⟩
theorem tk258 : tiOf Tryz.prog 258 = some ti258 := by kernel_rfl
noncomputable def ti263 : TI := ⟨Tryz.t263.size, Tryz.t263.bytes, (Tryz.t263.zero).getD undefV, false, false, false, Tryz.t263.desc⟩
theorem tk263 : tiOf Tryz.prog 263 = some ti263 := by kernel_rfl
noncomputable def ti269 : TI := ⟨Tryz.t269.size, Tryz.t269.bytes, (Tryz.t269.zero).getD undefV, false, false, false, Tryz.t269.desc⟩
theorem tk269 : tiOf Tryz.prog 269 = some ti269 := by kernel_rfl
noncomputable def ti272 : TI := ⟨Tryz.t272.size, Tryz.t272.bytes, (Tryz.t272.zero).getD undefV, false, false, false, Tryz.t272.desc⟩
theorem tk272 : tiOf Tryz.prog 272 = some ti272 := by kernel_rfl
noncomputable def ti284 : TI := ⟨Tryz.t284.size, Tryz.t284.bytes, (Tryz.t284.zero).getD undefV, false, false, false, Tryz.t284.desc⟩
theorem tk284 : tiOf Tryz.prog 284 = some ti284 := by kernel_rfl
noncomputable def ti322 : TI := ⟨Tryz.t322.size, Tryz.t322.bytes, (Tryz.t322.zero).getD undefV, false, false, false, Tryz.t322.desc⟩
theorem tk322 : tiOf Tryz.prog 322 = some ti322 := by kernel_rfl
noncomputable def ti324 : TI := ⟨Tryz.t324.size, Tryz.t324.bytes, (Tryz.t324.zero).getD undefV, true, false, false, Tryz.t323.desc⟩
theorem tk324 : tiOf Tryz.prog 324 = some ti324 := by kernel_rfl
noncomputable def ti326 : TI := ⟨Tryz.t326.size, Tryz.t326.bytes, (Tryz.t326.zero).getD undefV, true, false, false, Tryz.t325.desc⟩
theorem tk326 : tiOf Tryz.prog 326 = some ti326 := by kernel_rfl
noncomputable def ti327 : TI := ⟨Tryz.t327.size, Tryz.t327.bytes, (Tryz.t327.zero).getD undefV, false, false, false, Tryz.t327.desc⟩
theorem tk327 : tiOf Tryz.prog 327 = some ti327 := by kernel_rfl
noncomputable def ti336 : TI := ⟨Tryz.t336.size, Tryz.t336.bytes, (Tryz.t336.zero).getD undefV, true, false, false, Tryz.t335.desc⟩
theorem tk336 : tiOf Tryz.prog 336 = some ti336 := by kernel_rfl
noncomputable def ti340 : TI := ⟨Tryz.t340.size, Tryz.t340.bytes, (Tryz.t340.zero).getD undefV, false, false, false, Tryz.t3.desc⟩
theorem tk340 : tiOf Tryz.prog 340 = some ti340 := by kernel_rfl
noncomputable def ti349 : TI := ⟨Tryz.t349.size, Tryz.t349.bytes, (Tryz.t349.zero).getD undefV, true, false, false, Tryz.t348.desc⟩
theorem tk349 : tiOf Tryz.prog 349 = some ti349 := by kernel_rfl
noncomputable def ti352 : TI := ⟨Tryz.t352.size, Tryz.t352.bytes, (Tryz.t352.zero).getD undefV, true, false, false, Tryz.t182.desc⟩
theorem tk352 : tiOf Tryz.prog 352 = some ti352 := by kernel_rfl
noncomputable def ti358 : TI := ⟨Tryz.t358.size, Tryz.t358.bytes, (Tryz.t358.zero).getD undefV, true, false, false, Tryz.t98.desc⟩
theorem tk358 : tiOf Tryz.prog 358 = some ti358 := by kernel_rfl
noncomputable def ti362 : TI := ⟨Tryz.t362.size, Tryz.t362.bytes, (Tryz.t362.zero).getD undefV, true, false, false, Tryz.t335.desc⟩
theorem tk362 : tiOf Tryz.prog 362 = some ti362 := by kernel_rfl
noncomputable def ti375 : TI := ⟨Tryz.t375.size, Tryz.t375.bytes, (Tryz.t375.zero).getD undefV, false, false, false, Tryz.t375.desc⟩
theorem tk375 : tiOf Tryz.prog 375 = some ti375 := by kernel_rfl
noncomputable def ti382 : TI := ⟨Tryz.t382.size, Tryz.t382.bytes, (Tryz.t382.zero).getD undefV, true, false, false, Tryz.t381.desc⟩
theorem tk382 : tiOf Tryz.prog 382 = some ti382 := by kernel_rfl
noncomputable def ti384 : TI := ⟨Tryz.t384.size, Tryz.t384.bytes, (Tryz.t384.zero).getD undefV, false, false, false, Tryz.t284.desc⟩
theorem tk384 : tiOf Tryz.prog 384 = some ti384 := by kernel_rfl
noncomputable def ti386 : TI := ⟨Tryz.t386.size, Tryz.t386.bytes, (Tryz.t386.zero).getD undefV, false, false, false, Tryz.t284.desc⟩
theorem tk386 : tiOf Tryz.prog 386 = some ti386 := by kernel_rfl
noncomputable def ti390 : TI := ⟨Tryz.t390.size, Tryz.t390.bytes, (Tryz.t390.zero).getD undefV, false, false, false, Tryz.t390.desc⟩
theorem tk390 : tiOf Tryz.prog 390 = some ti390 := by kernel_rfl
noncomputable def ti392 : TI := ⟨Tryz.t392.size, Tryz.t392.bytes, (Tryz.t392.zero).getD undefV, true, false, false, Tryz.t207.desc⟩
theorem tk392 : tiOf Tryz.prog 392 = some ti392 := by kernel_rfl
noncomputable def ti402 : TI := ⟨Tryz.t402.size, Tryz.t402.bytes, (Tryz.t402.zero).getD undefV, false, false, false, Tryz.t401.desc⟩
theorem tk402 : tiOf Tryz.prog 402 = some ti402 := by kernel_rfl
noncomputable def ti449 : TI := ⟨Tryz.t449.size, Tryz.t449.bytes, (Tryz.t449.zero).getD undefV, false, false, false, Tryz.t449.desc⟩
theorem tk449 : tiOf Tryz.prog 449 = some ti449 := by kernel_rfl
noncomputable def ti457 : TI := ⟨Tryz.t457.size, Tryz.t457.bytes, (Tryz.t457.zero).getD undefV, true, false, false, Tryz.t457.desc⟩
theorem tk457 : tiOf Tryz.prog 457 = some ti457 := by kernel_rfl
noncomputable def ti492 : TI := ⟨Tryz.t492.size, Tryz.t492.bytes, (Tryz.t492.zero).getD undefV, true, false, false, Tryz.t492.desc⟩
theorem tk492 : tiOf Tryz.prog 492 = some ti492 := by kernel_rfl
noncomputable def ti494 : TI := ⟨Tryz.t494.size, Tryz.t494.bytes, (Tryz.t494.zero).getD undefV, false, false, false, Tryz.t494.desc⟩
theorem tk494 : tiOf Tryz.prog 494 = some ti494 := by kernel_rfl
noncomputable def ti496 : TI := ⟨Tryz.t496.size, Tryz.t496.bytes, (Tryz.t496.zero).getD undefV, true, false, false, Tryz.t495.desc⟩
theorem tk496 : tiOf Tryz.prog 496 = some ti496 := by kernel_rfl
noncomputable def tab : T TI := (.node (.node (.node (.node (.node .leaf none (.node .leaf none (.node .leaf (some ti111) (.node .leaf (some ti239) .leaf)))) none (.node (.node (.node (.node (.node .leaf (some ti263) .leaf) none .leaf) none (.node (.node .leaf (some ti327) .leaf) none .leaf)) none .leaf) (some ti23) (.node (.node (.node .leaf (some ti151) .leaf) (some ti87) .leaf) none (.node (.node .leaf (some ti183) .leaf) none (.node (.node .leaf (some ti375) .leaf) none .leaf))))) (some ti3) (.node (.node (.node .leaf none (.node .leaf (some ti99) .leaf)) none (.node (.node (.node .leaf (some ti147) .leaf) none .leaf) (some ti51) .leaf)) none (.node (.node (.node .leaf none (.node .leaf (some ti203) .leaf)) none .leaf) none (.node (.node (.node .leaf (some ti155) .leaf) none (.node .leaf (some ti219) .leaf)) none (.node (.node .leaf (some ti187) .leaf) none .leaf))))) none (.node (.node (.node (.node (.node .leaf none (.node .leaf none (.node .leaf (some ti449) .leaf))) none (.node (.node .leaf (some ti161) .leaf) none (.node .leaf (some ti225) .leaf))) none .leaf) (some ti9) (.node (.node (.node .leaf (some ti73) (.node .leaf none (.node .leaf (some ti457) .leaf))) none .leaf) (some ti25) (.node .leaf none (.node (.node .leaf (some ti185) .leaf) none .leaf)))) (some ti5) (.node (.node (.node .leaf (some ti37) .leaf) (some ti21) (.node (.node (.node .leaf (some ti149) .leaf) none .leaf) none (.node .leaf (some ti117) .leaf))) none (.node (.node (.node (.node (.node .leaf (some ti269) .leaf) none .leaf) none .leaf) none (.node .leaf (some ti109) (.node .leaf (some ti237) .leaf))) (some ti29) (.node (.node (.node .leaf (some ti157) .leaf) none (.node (.node .leaf (some ti349) .leaf) (some ti221) .leaf)) none .leaf))))) none (.node (.node (.node (.node (.node (.node (.node (.node .leaf (some ti256) .leaf) none (.node .leaf (some ti384) .leaf)) none .leaf) none (.node (.node .leaf (some ti160) .leaf) none (.node (.node .leaf (some ti352) .leaf) none .leaf))) none (.node (.node (.node (.node .leaf (some ti272) .leaf) (some ti144) .leaf) (some ti80) (.node (.node .leaf (some ti336) .leaf) (some ti208) .leaf)) none (.node .leaf (some ti112) (.node .leaf none (.node .leaf (some ti496) .leaf))))) none (.node (.node (.node (.node .leaf none (.node .leaf (some ti392) .leaf)) none .leaf) none .leaf) none .leaf)) (some ti4) (.node (.node (.node (.node .leaf none (.node (.node .leaf (some ti324) .leaf) none .leaf)) none (.node (.node .leaf (some ti164) .leaf) none .leaf)) none (.node (.node .leaf none (.node (.node .leaf (some ti340) .leaf) (some ti212) .leaf)) none (.node .leaf (some ti116) .leaf))) none (.node (.node .leaf none (.node (.node .leaf (some ti172) .leaf) none (.node .leaf none (.node .leaf (some ti492) .leaf)))) none (.node (.node (.node (.node .leaf (some ti284) .leaf) none .leaf) none .leaf) none .leaf)))) (some ti2) (.node (.node (.node (.node (.node (.node (.node .leaf (some ti258) .leaf) (some ti130) (.node .leaf (some ti386) .leaf)) none (.node (.node .leaf (some ti322) .leaf) none .leaf)) none (.node (.node .leaf (some ti162) .leaf) none .leaf)) none (.node (.node (.node .leaf none (.node .leaf (some ti402) .leaf)) (some ti82) .leaf) none (.node .leaf (some ti114) .leaf))) none (.node (.node .leaf none (.node .leaf none (.node (.node .leaf (some ti362) .leaf) none .leaf))) none (.node (.node .leaf none (.node .leaf (some ti218) .leaf)) none (.node .leaf (some ti122) .leaf)))) none (.node (.node (.node (.node (.node .leaf (some ti134) (.node .leaf (some ti390) .leaf)) none (.node (.node .leaf (some ti326) .leaf) none .leaf)) none (.node .leaf none (.node (.node .leaf (some ti358) .leaf) none .leaf))) (some ti22) (.node (.node .leaf none (.node .leaf (some ti214) .leaf)) none .leaf)) none (.node (.node .leaf none (.node .leaf none (.node .leaf none (.node .leaf (some ti494) .leaf)))) none (.node (.node .leaf none (.node .leaf (some ti222) .leaf)) none (.node .leaf (some ti126) (.node (.node .leaf (some ti382) .leaf) none .leaf))))))))
noncomputable def ty : Ty := fun t => tab.get t
theorem tyOk : TyOk Tryz.prog ty := T.all_get (p := fun t i => tiOf Tryz.prog t = some i) (t := tab) (ix := fun n => n) ⟨⟨⟨⟨⟨trivial, trivial, ⟨trivial, trivial, ⟨trivial, tk111, ⟨trivial, tk239, trivial⟩⟩⟩⟩, trivial, ⟨⟨⟨⟨⟨trivial, tk263, trivial⟩, trivial, trivial⟩, trivial, ⟨⟨trivial, tk327, trivial⟩, trivial, trivial⟩⟩, trivial, trivial⟩, tk23, ⟨⟨⟨trivial, tk151, trivial⟩, tk87, trivial⟩, trivial, ⟨⟨trivial, tk183, trivial⟩, trivial, ⟨⟨trivial, tk375, trivial⟩, trivial, trivial⟩⟩⟩⟩⟩, tk3, ⟨⟨⟨trivial, trivial, ⟨trivial, tk99, trivial⟩⟩, trivial, ⟨⟨⟨trivial, tk147, trivial⟩, trivial, trivial⟩, tk51, trivial⟩⟩, trivial, ⟨⟨⟨trivial, trivial, ⟨trivial, tk203, trivial⟩⟩, trivial, trivial⟩, trivial, ⟨⟨⟨trivial, tk155, trivial⟩, trivial, ⟨trivial, tk219, trivial⟩⟩, trivial, ⟨⟨trivial, tk187, trivial⟩, trivial, trivial⟩⟩⟩⟩⟩, trivial, ⟨⟨⟨⟨⟨trivial, trivial, ⟨trivial, trivial, ⟨trivial, tk449, trivial⟩⟩⟩, trivial, ⟨⟨trivial, tk161, trivial⟩, trivial, ⟨trivial, tk225, trivial⟩⟩⟩, trivial, trivial⟩, tk9, ⟨⟨⟨trivial, tk73, ⟨trivial, trivial, ⟨trivial, tk457, trivial⟩⟩⟩, trivial, trivial⟩, tk25, ⟨trivial, trivial, ⟨⟨trivial, tk185, trivial⟩, trivial, trivial⟩⟩⟩⟩, tk5, ⟨⟨⟨trivial, tk37, trivial⟩, tk21, ⟨⟨⟨trivial, tk149, trivial⟩, trivial, trivial⟩, trivial, ⟨trivial, tk117, trivial⟩⟩⟩, trivial, ⟨⟨⟨⟨⟨trivial, tk269, trivial⟩, trivial, trivial⟩, trivial, trivial⟩, trivial, ⟨trivial, tk109, ⟨trivial, tk237, trivial⟩⟩⟩, tk29, ⟨⟨⟨trivial, tk157, trivial⟩, trivial, ⟨⟨trivial, tk349, trivial⟩, tk221, trivial⟩⟩, trivial, trivial⟩⟩⟩⟩⟩, trivial, ⟨⟨⟨⟨⟨⟨⟨⟨trivial, tk256, trivial⟩, trivial, ⟨trivial, tk384, trivial⟩⟩, trivial, trivial⟩, trivial, ⟨⟨trivial, tk160, trivial⟩, trivial, ⟨⟨trivial, tk352, trivial⟩, trivial, trivial⟩⟩⟩, trivial, ⟨⟨⟨⟨trivial, tk272, trivial⟩, tk144, trivial⟩, tk80, ⟨⟨trivial, tk336, trivial⟩, tk208, trivial⟩⟩, trivial, ⟨trivial, tk112, ⟨trivial, trivial, ⟨trivial, tk496, trivial⟩⟩⟩⟩⟩, trivial, ⟨⟨⟨⟨trivial, trivial, ⟨trivial, tk392, trivial⟩⟩, trivial, trivial⟩, trivial, trivial⟩, trivial, trivial⟩⟩, tk4, ⟨⟨⟨⟨trivial, trivial, ⟨⟨trivial, tk324, trivial⟩, trivial, trivial⟩⟩, trivial, ⟨⟨trivial, tk164, trivial⟩, trivial, trivial⟩⟩, trivial, ⟨⟨trivial, trivial, ⟨⟨trivial, tk340, trivial⟩, tk212, trivial⟩⟩, trivial, ⟨trivial, tk116, trivial⟩⟩⟩, trivial, ⟨⟨trivial, trivial, ⟨⟨trivial, tk172, trivial⟩, trivial, ⟨trivial, trivial, ⟨trivial, tk492, trivial⟩⟩⟩⟩, trivial, ⟨⟨⟨⟨trivial, tk284, trivial⟩, trivial, trivial⟩, trivial, trivial⟩, trivial, trivial⟩⟩⟩⟩, tk2, ⟨⟨⟨⟨⟨⟨⟨trivial, tk258, trivial⟩, tk130, ⟨trivial, tk386, trivial⟩⟩, trivial, ⟨⟨trivial, tk322, trivial⟩, trivial, trivial⟩⟩, trivial, ⟨⟨trivial, tk162, trivial⟩, trivial, trivial⟩⟩, trivial, ⟨⟨⟨trivial, trivial, ⟨trivial, tk402, trivial⟩⟩, tk82, trivial⟩, trivial, ⟨trivial, tk114, trivial⟩⟩⟩, trivial, ⟨⟨trivial, trivial, ⟨trivial, trivial, ⟨⟨trivial, tk362, trivial⟩, trivial, trivial⟩⟩⟩, trivial, ⟨⟨trivial, trivial, ⟨trivial, tk218, trivial⟩⟩, trivial, ⟨trivial, tk122, trivial⟩⟩⟩⟩, trivial, ⟨⟨⟨⟨⟨trivial, tk134, ⟨trivial, tk390, trivial⟩⟩, trivial, ⟨⟨trivial, tk326, trivial⟩, trivial, trivial⟩⟩, trivial, ⟨trivial, trivial, ⟨⟨trivial, tk358, trivial⟩, trivial, trivial⟩⟩⟩, tk22, ⟨⟨trivial, trivial, ⟨trivial, tk214, trivial⟩⟩, trivial, trivial⟩⟩, trivial, ⟨⟨trivial, trivial, ⟨trivial, trivial, ⟨trivial, trivial, ⟨trivial, tk494, trivial⟩⟩⟩⟩, trivial, ⟨⟨trivial, trivial, ⟨trivial, tk222, trivial⟩⟩, trivial, ⟨trivial, tk126, ⟨⟨trivial, tk382, trivial⟩, trivial, trivial⟩⟩⟩⟩⟩⟩⟩⟩
end Am
end Go.Proofs.YtbfbaofhnnnohaaGreatDoor
