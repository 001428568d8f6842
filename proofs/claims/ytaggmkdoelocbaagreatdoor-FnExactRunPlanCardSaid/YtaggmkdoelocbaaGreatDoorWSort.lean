/- Sorting: the kit's bodies lie in this program. No condition. -/
import Derived.Test.YtaggmkdoelocbaaGreatDoorWRep
import Derived.Test.YtaggmkdoelocbaaGreatDoorEc
import Derived.Shelf.SlGeneric
namespace Go.Proofs
open Go.Shelf
def Tryz.vSort156_ren:Go.Shelf.Ren:=⟨fun | 6=>156 | 15=>206 | 14=>205 | 28=>260 | 29=>261 | 20=>252 | 21=>253 | 22=>254 | 23=>255 | 24=>256 | 25=>257 | 26=>258 | 27=>259 | 46=>291 | 47=>292 | 48=>293 | 49=>294 | 50=>295 | 57=>320 | n=>n,fun | 22=>39 | 24=>95 | 25=>204 | 3=>3 | 39=>249 | 0=>0 | 53=>301 | 55=>303 | 4=>4 | 46=>295 | 45=>294 | 50=>111 | 5=>5 | 9=>9 | 66=>329 | 70=>333 | 76=>356 | 77=>280 | n=>n,fun | n=>n⟩
theorem Tryz.vSort156:Go.Proofs.SlLaysF0.n6 Tryz.prog Tryz.vSort156_ren:={
  mixed:=by kernel_rfl
  f6:=⟨Tryz.f156.name,by decide,Tryz.func156.trans (congrArg some (by kernel_rfl))⟩
  f14:=⟨Tryz.f205.name,by decide,Tryz.func205.trans (congrArg some (by kernel_rfl))⟩
  f15:=Tryz.func206.trans (congrArg some (by kernel_rfl))
  f20:=⟨Tryz.f252.name,by decide,Tryz.func252.trans (congrArg some (by kernel_rfl))⟩
  f21:=⟨Tryz.f253.name,by decide,Tryz.func253.trans (congrArg some (by kernel_rfl))⟩
  f22:=⟨Tryz.f254.name,by decide,Tryz.func254.trans (congrArg some (by kernel_rfl))⟩
  f23:=⟨Tryz.f255.name,by decide,Tryz.func255.trans (congrArg some (by kernel_rfl))⟩
  f24:=⟨Tryz.f256.name,by decide,Tryz.func256.trans (congrArg some (by kernel_rfl))⟩
  f25:=⟨Tryz.f257.name,by decide,Tryz.func257.trans (congrArg some (by kernel_rfl))⟩
  f26:=⟨Tryz.f258.name,by decide,Tryz.func258.trans (congrArg some (by kernel_rfl))⟩
  f27:=⟨Tryz.f259.name,by decide,Tryz.func259.trans (congrArg some (by kernel_rfl))⟩
  f28:=Tryz.func260.trans (congrArg some (by kernel_rfl))
  f29:=Tryz.func261.trans (congrArg some (by kernel_rfl))
  f46:=⟨Tryz.f291.name,by decide,Tryz.func291.trans (congrArg some (by kernel_rfl))⟩
  f47:=Tryz.func292.trans (congrArg some (by kernel_rfl))
  f48:=Tryz.func293.trans (congrArg some (by kernel_rfl))
  f49:=⟨Tryz.f294.name,by decide,Tryz.func294.trans (congrArg some (by kernel_rfl))⟩
  f50:=⟨Tryz.f295.name,by decide,Tryz.func295.trans (congrArg some (by kernel_rfl))⟩
  f57:=⟨Tryz.f320.name,by decide,Tryz.func320.trans (congrArg some (by kernel_rfl))⟩
  t0:=Tryz.underlying0
  a0:=Tryz.isAgg0
  z0:=Tryz.sizeOf0
  v0:=Tryz.zeroValue0
  t3:=Tryz.underlying3
  a3:=Tryz.isAgg3
  z3:=Tryz.sizeOf3
  v3:=Tryz.zeroValue3
  t4:=Tryz.underlying4
  a4:=Tryz.isAgg4
  z4:=Tryz.sizeOf4
  v4:=Tryz.zeroValue4
  t5:=Tryz.underlying5
  a5:=Tryz.isAgg5
  z5:=Tryz.sizeOf5
  v5:=Tryz.zeroValue5
  t9:=Tryz.underlying9
  a9:=Tryz.isAgg9
  z9:=Tryz.sizeOf9
  v9:=Tryz.zeroValue9
  t22:=Tryz.underlying39
  a22:=Tryz.isAgg39
  z22:=Tryz.sizeOf39
  v22:=Tryz.zeroValue39
  t25:=Tryz.underlying204
  a25:=Tryz.isAgg204
  z25:=Tryz.sizeOf204
  v25:=Tryz.zeroValue204
  t39:=Tryz.underlying249
  a39:=Tryz.isAgg249
  z39:=Tryz.sizeOf249
  v39:=Tryz.zeroValue249
  t45:=Tryz.underlying294
  a45:=Tryz.isAgg294
  z45:=Tryz.sizeOf294
  v45:=Tryz.zeroValue294
  t46:=Tryz.underlying295
  a46:=Tryz.isAgg295
  z46:=Tryz.sizeOf295
  v46:=Tryz.zeroValue295
  t50:=Tryz.underlying111
  a50:=Tryz.isAgg111
  z50:=Tryz.sizeOf111
  v50:=Tryz.zeroValue111
  t53:=Tryz.underlying301
  a53:=Tryz.isAgg301
  z53:=Tryz.sizeOf301
  v53:=Tryz.zeroValue301
  t55:=Tryz.underlying303
  a55:=Tryz.isAgg303
  z55:=Tryz.sizeOf303
  v55:=Tryz.zeroValue303
  t66:=Tryz.underlying329
  a66:=Tryz.isAgg329
  z66:=Tryz.sizeOf329
  v66:=Tryz.zeroValue329
  t70:=Tryz.underlying333
  a70:=Tryz.isAgg333
  z70:=Tryz.sizeOf333
  v70:=Tryz.zeroValue333
  t76:=Tryz.underlying356
  a76:=Tryz.isAgg356
  z76:=Tryz.sizeOf356
  v76:=Tryz.zeroValue356
  t77:=Tryz.underlying280
  a77:=Tryz.isAgg280
  z77:=Tryz.sizeOf280
  v77:=Tryz.zeroValue280}
theorem Tryz.vSort156_fn : ∃ fn, Tryz.prog.funcs[156]? = some fn ∧ fn.body.isSome = true ∧ fn.name ≠ "runtime.NumGoroutine" := ⟨_, Tryz.func156, by kernel_rfl, by decide⟩
end Go.Proofs
