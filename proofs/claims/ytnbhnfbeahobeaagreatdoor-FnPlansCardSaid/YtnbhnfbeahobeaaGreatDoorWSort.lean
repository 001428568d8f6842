/- Sorting: the kit's bodies lie in this program. No condition. -/
import Derived.Test.YtnbhnfbeahobeaaGreatDoorWRep
import Derived.Test.YtnbhnfbeahobeaaGreatDoorEd
import Derived.Shelf.SlGeneric
namespace Go.Proofs
open Go.Shelf
def Tryz.vSort111_ren:Go.Shelf.Ren:=⟨fun | 6=>111 | 15=>156 | 14=>155 | 28=>204 | 29=>205 | 20=>196 | 21=>197 | 22=>198 | 23=>199 | 24=>200 | 25=>201 | 26=>202 | 27=>203 | 46=>225 | 47=>226 | 48=>227 | 49=>228 | 50=>229 | 57=>244 | n=>n,fun | 22=>31 | 24=>76 | 25=>145 | 3=>3 | 39=>177 | 0=>0 | 53=>219 | 55=>221 | 4=>4 | 46=>213 | 45=>212 | 50=>77 | 5=>5 | 9=>9 | 66=>232 | 70=>236 | 76=>252 | 77=>253 | n=>n,fun | n=>n⟩
theorem Tryz.vSort111:Go.Proofs.SlLaysF0.n6 Tryz.prog Tryz.vSort111_ren:={
  mixed:=by kernel_rfl
  f6:=⟨Tryz.f111.name,by decide,Tryz.func111.trans (congrArg some (by kernel_rfl))⟩
  f14:=⟨Tryz.f155.name,by decide,Tryz.func155.trans (congrArg some (by kernel_rfl))⟩
  f15:=Tryz.func156.trans (congrArg some (by kernel_rfl))
  f20:=⟨Tryz.f196.name,by decide,Tryz.func196.trans (congrArg some (by kernel_rfl))⟩
  f21:=⟨Tryz.f197.name,by decide,Tryz.func197.trans (congrArg some (by kernel_rfl))⟩
  f22:=⟨Tryz.f198.name,by decide,Tryz.func198.trans (congrArg some (by kernel_rfl))⟩
  f23:=⟨Tryz.f199.name,by decide,Tryz.func199.trans (congrArg some (by kernel_rfl))⟩
  f24:=⟨Tryz.f200.name,by decide,Tryz.func200.trans (congrArg some (by kernel_rfl))⟩
  f25:=⟨Tryz.f201.name,by decide,Tryz.func201.trans (congrArg some (by kernel_rfl))⟩
  f26:=⟨Tryz.f202.name,by decide,Tryz.func202.trans (congrArg some (by kernel_rfl))⟩
  f27:=⟨Tryz.f203.name,by decide,Tryz.func203.trans (congrArg some (by kernel_rfl))⟩
  f28:=Tryz.func204.trans (congrArg some (by kernel_rfl))
  f29:=Tryz.func205.trans (congrArg some (by kernel_rfl))
  f46:=⟨Tryz.f225.name,by decide,Tryz.func225.trans (congrArg some (by kernel_rfl))⟩
  f47:=Tryz.func226.trans (congrArg some (by kernel_rfl))
  f48:=Tryz.func227.trans (congrArg some (by kernel_rfl))
  f49:=⟨Tryz.f228.name,by decide,Tryz.func228.trans (congrArg some (by kernel_rfl))⟩
  f50:=⟨Tryz.f229.name,by decide,Tryz.func229.trans (congrArg some (by kernel_rfl))⟩
  f57:=⟨Tryz.f244.name,by decide,Tryz.func244.trans (congrArg some (by kernel_rfl))⟩
  t0:=Tryz.underlying0
  a0:=Tryz.isAgg0
  z0:=Tryz.sizeOf0
  v0:=Tryz.zeroValue0
  t3:=Tryz.underlying3
  a3:=Tryz.isAgg3
  z3:=Tryz.sizeOf3
  v3:=Tryz.zeroValue3
  t4:=Tryz.underlying4
  a4:=Tryz.isAgg4
  z4:=Tryz.sizeOf4
  v4:=Tryz.zeroValue4
  t5:=Tryz.underlying5
  a5:=Tryz.isAgg5
  z5:=Tryz.sizeOf5
  v5:=Tryz.zeroValue5
  t9:=Tryz.underlying9
  a9:=Tryz.isAgg9
  z9:=Tryz.sizeOf9
  v9:=Tryz.zeroValue9
  t22:=Tryz.underlying31
  a22:=Tryz.isAgg31
  z22:=Tryz.sizeOf31
  v22:=Tryz.zeroValue31
  t25:=Tryz.underlying145
  a25:=Tryz.isAgg145
  z25:=Tryz.sizeOf145
  v25:=Tryz.zeroValue145
  t39:=Tryz.underlying177
  a39:=Tryz.isAgg177
  z39:=Tryz.sizeOf177
  v39:=Tryz.zeroValue177
  t45:=Tryz.underlying212
  a45:=Tryz.isAgg212
  z45:=Tryz.sizeOf212
  v45:=Tryz.zeroValue212
  t46:=Tryz.underlying213
  a46:=Tryz.isAgg213
  z46:=Tryz.sizeOf213
  v46:=Tryz.zeroValue213
  t50:=Tryz.underlying77
  a50:=Tryz.isAgg77
  z50:=Tryz.sizeOf77
  v50:=Tryz.zeroValue77
  t53:=Tryz.underlying219
  a53:=Tryz.isAgg219
  z53:=Tryz.sizeOf219
  v53:=Tryz.zeroValue219
  t55:=Tryz.underlying221
  a55:=Tryz.isAgg221
  z55:=Tryz.sizeOf221
  v55:=Tryz.zeroValue221
  t66:=Tryz.underlying232
  a66:=Tryz.isAgg232
  z66:=Tryz.sizeOf232
  v66:=Tryz.zeroValue232
  t70:=Tryz.underlying236
  a70:=Tryz.isAgg236
  z70:=Tryz.sizeOf236
  v70:=Tryz.zeroValue236
  t76:=Tryz.underlying252
  a76:=Tryz.isAgg252
  z76:=Tryz.sizeOf252
  v76:=Tryz.zeroValue252
  t77:=Tryz.underlying253
  a77:=Tryz.isAgg253
  z77:=Tryz.sizeOf253
  v77:=Tryz.zeroValue253}
theorem Tryz.vSort111_fn : ∃ fn, Tryz.prog.funcs[111]? = some fn /\ fn.body.isSome = true /\ fn.name ≠ "runtime.NumGoroutine" := ⟨_, Tryz.func111, by kernel_rfl, by decide⟩
end Go.Proofs
