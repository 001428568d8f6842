/- strings.Repeat, laid for this seat's program. No condition. -/
import Derived.Test.YtnbhnfbeahobeaaGreatDoorWLib
import Derived.Shelf.Strings.Repeat
namespace Go.Proofs
open Go.Shelf Go.RowKit
def Tryz.vRepeat_ren : Go.Shelf.Ren := ⟨fun | 105 => 208 | 212 => 231 | 99 => 232 | 165 => 233 | 166 => 234 | 170 => 235 | 169 => 236 | 263 => 245 | 264 => 246 | 206 => 247 | 240 => 248 | 241 => 249 | 276 => 256 | 277 => 257 | n => n, fun | 9 => 9 | 3 => 3 | 4 => 4 | 20 => 20 | 0 => 0 | 46 => 177 | 109 => 238 | 5 => 5 | 72 => 243 | 76 => 247 | 51 => 219 | 146 => 255 | 53 => 221 | 148 => 257 | 70 => 241 | 37 => 22 | 75 => 246 | 127 => 259 | 164 => 266 | 80 => 93 | n => n, fun | n => n⟩
theorem Tryz.vRepeat : Go.Proofs.Lays.n105 Tryz.prog Tryz.vRepeat_ren := {
  mixed := by kernel_rfl
  f99 := Tryz.func232.trans (congrArg some (by kernel_rfl))
  f105 := Tryz.func208.trans (congrArg some (by kernel_rfl))
  f165 := Tryz.func233.trans (congrArg some (by kernel_rfl))
  f166 := Tryz.func234.trans (congrArg some (by kernel_rfl))
  f169 := Tryz.func236.trans (congrArg some (by kernel_rfl))
  f170 := Tryz.func235.trans (congrArg some (by kernel_rfl))
  f206 := Tryz.func247.trans (congrArg some (by kernel_rfl))
  f212 := Tryz.func231.trans (congrArg some (by kernel_rfl))
  f240 := Tryz.func248.trans (congrArg some (by kernel_rfl))
  f241 := Tryz.func249.trans (congrArg some (by kernel_rfl))
  f263 := Tryz.func245.trans (congrArg some (by kernel_rfl))
  f264 := Tryz.func246.trans (congrArg some (by kernel_rfl))
  f276 := Tryz.func256.trans (congrArg some (by kernel_rfl))
  f277 := Tryz.func257.trans (congrArg some (by kernel_rfl))
  t0 := Tryz.underlying0
  a0 := Tryz.isAgg0
  z0 := Tryz.sizeOf0
  v0 := Tryz.zeroValue0
  t3 := Tryz.underlying3
  a3 := Tryz.isAgg3
  z3 := Tryz.sizeOf3
  v3 := Tryz.zeroValue3
  t4 := Tryz.underlying4
  a4 := Tryz.isAgg4
  z4 := Tryz.sizeOf4
  v4 := Tryz.zeroValue4
  t5 := Tryz.underlying5
  a5 := Tryz.isAgg5
  z5 := Tryz.sizeOf5
  v5 := Tryz.zeroValue5
  t9 := Tryz.underlying9
  a9 := Tryz.isAgg9
  z9 := Tryz.sizeOf9
  v9 := Tryz.zeroValue9
  t20 := Tryz.underlying20
  a20 := Tryz.isAgg20
  z20 := Tryz.sizeOf20
  v20 := Tryz.zeroValue20
  t37 := Tryz.underlying22
  a37 := Tryz.isAgg22
  z37 := Tryz.sizeOf22
  v37 := Tryz.zeroValue22
  t46 := Tryz.underlying177
  a46 := Tryz.isAgg177
  z46 := Tryz.sizeOf177
  v46 := Tryz.zeroValue177
  t51 := Tryz.underlying219
  a51 := Tryz.isAgg219
  z51 := Tryz.sizeOf219
  v51 := Tryz.zeroValue219
  t53 := Tryz.underlying221
  a53 := Tryz.isAgg221
  z53 := Tryz.sizeOf221
  v53 := Tryz.zeroValue221
  t70 := Tryz.underlying241
  a70 := Tryz.isAgg241
  z70 := Tryz.sizeOf241
  v70 := Tryz.zeroValue241
  t72 := Tryz.underlying243
  a72 := Tryz.isAgg243
  z72 := Tryz.sizeOf243
  v72 := Tryz.zeroValue243
  t75 := Tryz.underlying246
  a75 := Tryz.isAgg246
  z75 := Tryz.sizeOf246
  v75 := Tryz.zeroValue246
  t76 := Tryz.underlying247
  a76 := Tryz.isAgg247
  z76 := Tryz.sizeOf247
  v76 := Tryz.zeroValue247
  t109 := Tryz.underlying238
  a109 := Tryz.isAgg238
  z109 := Tryz.sizeOf238
  v109 := Tryz.zeroValue238
  t127 := Tryz.underlying259
  a127 := Tryz.isAgg259
  z127 := Tryz.sizeOf259
  v127 := Tryz.zeroValue259
  t146 := Tryz.underlying255
  a146 := Tryz.isAgg255
  z146 := Tryz.sizeOf255
  v146 := Tryz.zeroValue255
  t148 := Tryz.underlying257
  a148 := Tryz.isAgg257
  z148 := Tryz.sizeOf257
  v148 := Tryz.zeroValue257
  t164 := Tryz.underlying266
  a164 := Tryz.isAgg266
  z164 := Tryz.sizeOf266
  v164 := Tryz.zeroValue266 }
theorem Tryz.vExtra : Builder.Extra Tryz.prog Tryz.vRepeat_ren where
  sizeBuilder := by kernel_rfl
  liesBuilder := by kernel_rfl
  t5 := Tryz.vRepeat.t5
  a5 := Tryz.vRepeat.a5
  z5 := Tryz.vRepeat.z5
  v5 := Tryz.vRepeat.v5
  infoByte := by kernel_rfl
  cellsByte := by kernel_rfl
  sizeByte := by kernel_rfl
  neB5 := by decide
theorem Tryz.vRepeat_calls (s : ByteArray) (c : Nat) (w : World) (hc : c <= 9223372036854775807) (hlen : s.size * c <= 140737488355328) :
    Calls Tryz.prog 208 #[.string s, .int .i64 c] w fun e w' => e = .returned (.string ⟨(Lib.repeatL s.data.toList c).toArray⟩) /\ Below w.heap.size w w' :=
  Any.strings_Repeat Tryz.vRepeat Tryz.vExtra s c w hc hlen
end Go.Proofs
namespace Go.V
open Go.Proofs
noncomputable def fO (s : List UInt8) (c : Int) : Option (List UInt8 × Unit) :=
  gd (decide (0 <= c)) (gd (decide (c <= 9223372036854775807)) (gd (decide (s.length * c.toNat <= 140737488355328)) (some (Lib.repeatL s c.toNat, ()))))
noncomputable def rO : Av := ⟨[.ro .str, .ro (.int .i64)], [(.str, .z)], fun z => fO z.1 z.2.1⟩
theorem jL : Aa Tryz.prog 208 rO := by
  refine ⟨⟨Tryz.f208, Tryz.func208, rfl, by decide⟩, ?_⟩
  intro w O z vs r _ h hr
  obtain ⟨v, vs', cs, rfl, hv, hrep, v2, vs2, cs2, rfl, hv2, hrep2, h3⟩ := h
  rw [show vs2 = [] from h3, MK hv hrep, UV hv2 hrep2]
  have hr : fO z.1 z.2.1 = some r := hr
  generalize z.1 = s at hr ⊢
  have : ∃ c : Int, c = z.2.1 := ⟨_, rfl⟩
  obtain ⟨c, hc⟩ := this
  rw [<- hc] at hr ⊢
  unfold fO gd at hr
  split at hr
  case h_2 => cases hr
  case h_1 h0 =>
    split at hr
    case h_2 => cases hr
    case h_1 h1 =>
      split at hr
      case h_2 => cases hr
      case h_1 h2 =>
        simp only [Ajg] at h0 h1 h2
        injection hr with hr
        subst hr
        obtain ⟨n, rfl⟩ : ∃ n : Nat, c = n := ⟨c.toNat, by omega⟩
        have hs : (ByteArray.mk (Lk s).toArray).size = (Lk s).length := by simp [ByteArray.size]
        refine (Tryz.vRepeat_calls ⟨(Lk s).toArray⟩ n w (by omega) (by rw [hs]; simpa using h2)).mono ?_
        rintro e w' ⟨rfl, B⟩
        refine ⟨[.string ⟨(Lib.repeatL s n).toArray⟩], ?_, ⟨B.os, B.tape, B.output, B.size, fun b hb _ => B.block b hb⟩, jH _⟩
        simp [CY]
end Go.V
