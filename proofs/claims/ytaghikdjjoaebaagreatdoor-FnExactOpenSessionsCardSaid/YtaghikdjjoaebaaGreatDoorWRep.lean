/- strings.Repeat, laid for this seat's program. No condition. -/
import Derived.Test.YtaghikdjjoaebaaGreatDoorWLib
import Derived.Shelf.Strings.Repeat
namespace Go.Proofs
open Go.Shelf Go.RowKit
def Tryz.vRepeat_ren : Go.Shelf.Ren := ⟨fun | 105 => 227 | 212 => 236 | 99 => 237 | 165 => 238 | 166 => 239 | 170 => 240 | 169 => 241 | 263 => 244 | 264 => 245 | 206 => 246 | 240 => 247 | 241 => 248 | 276 => 249 | 277 => 250 | n => n, fun | 9 => 9 | 3 => 3 | 4 => 4 | 20 => 20 | 0 => 0 | 46 => 294 | 109 => 296 | 5 => 5 | 72 => 301 | 76 => 305 | 51 => 313 | 146 => 314 | 53 => 317 | 148 => 318 | 70 => 299 | 37 => 135 | 75 => 304 | 127 => 320 | 164 => 321 | 80 => 308 | n => n, fun | n => n⟩
theorem Tryz.vRepeat : Go.Proofs.Lays.n105 Tryz.prog Tryz.vRepeat_ren := {
  mixed := by kernel_rfl
  f99 := Tryz.func237.trans (congrArg some (by kernel_rfl))
  f105 := Tryz.func227.trans (congrArg some (by kernel_rfl))
  f165 := Tryz.func238.trans (congrArg some (by kernel_rfl))
  f166 := Tryz.func239.trans (congrArg some (by kernel_rfl))
  f169 := Tryz.func241.trans (congrArg some (by kernel_rfl))
  f170 := Tryz.func240.trans (congrArg some (by kernel_rfl))
  f206 := Tryz.func246.trans (congrArg some (by kernel_rfl))
  f212 := Tryz.func236.trans (congrArg some (by kernel_rfl))
  f240 := Tryz.func247.trans (congrArg some (by kernel_rfl))
  f241 := Tryz.func248.trans (congrArg some (by kernel_rfl))
  f263 := Tryz.func244.trans (congrArg some (by kernel_rfl))
  f264 := Tryz.func245.trans (congrArg some (by kernel_rfl))
  f276 := Tryz.func249.trans (congrArg some (by kernel_rfl))
  f277 := Tryz.func250.trans (congrArg some (by kernel_rfl))
  t0 := Tryz.underlying0
  a0 := Tryz.isAgg0
  z0 := Tryz.sizeOf0
  v0 := Tryz.zeroValue0
  t3 := Tryz.underlying3
  a3 := Tryz.isAgg3
  z3 := Tryz.sizeOf3
  v3 := Tryz.zeroValue3
  t4 := Tryz.underlying4
  a4 := Tryz.isAgg4
  z4 := Tryz.sizeOf4
  v4 := Tryz.zeroValue4
  t5 := Tryz.underlying5
  a5 := Tryz.isAgg5
  z5 := Tryz.sizeOf5
  v5 := Tryz.zeroValue5
  t9 := Tryz.underlying9
  a9 := Tryz.isAgg9
  z9 := Tryz.sizeOf9
  v9 := Tryz.zeroValue9
  t20 := Tryz.underlying20
  a20 := Tryz.isAgg20
  z20 := Tryz.sizeOf20
  v20 := Tryz.zeroValue20
  t37 := Tryz.underlying135
  a37 := Tryz.isAgg135
  z37 := Tryz.sizeOf135
  v37 := Tryz.zeroValue135
  t46 := Tryz.underlying294
  a46 := Tryz.isAgg294
  z46 := Tryz.sizeOf294
  v46 := Tryz.zeroValue294
  t51 := Tryz.underlying313
  a51 := Tryz.isAgg313
  z51 := Tryz.sizeOf313
  v51 := Tryz.zeroValue313
  t53 := Tryz.underlying317
  a53 := Tryz.isAgg317
  z53 := Tryz.sizeOf317
  v53 := Tryz.zeroValue317
  t70 := Tryz.underlying299
  a70 := Tryz.isAgg299
  z70 := Tryz.sizeOf299
  v70 := Tryz.zeroValue299
  t72 := Tryz.underlying301
  a72 := Tryz.isAgg301
  z72 := Tryz.sizeOf301
  v72 := Tryz.zeroValue301
  t75 := Tryz.underlying304
  a75 := Tryz.isAgg304
  z75 := Tryz.sizeOf304
  v75 := Tryz.zeroValue304
  t76 := Tryz.underlying305
  a76 := Tryz.isAgg305
  z76 := Tryz.sizeOf305
  v76 := Tryz.zeroValue305
  t109 := Tryz.underlying296
  a109 := Tryz.isAgg296
  z109 := Tryz.sizeOf296
  v109 := Tryz.zeroValue296
  t127 := Tryz.underlying320
  a127 := Tryz.isAgg320
  z127 := Tryz.sizeOf320
  v127 := Tryz.zeroValue320
  t146 := Tryz.underlying314
  a146 := Tryz.isAgg314
  z146 := Tryz.sizeOf314
  v146 := Tryz.zeroValue314
  t148 := Tryz.underlying318
  a148 := Tryz.isAgg318
  z148 := Tryz.sizeOf318
  v148 := Tryz.zeroValue318
  t164 := Tryz.underlying321
  a164 := Tryz.isAgg321
  z164 := Tryz.sizeOf321
  v164 := Tryz.zeroValue321 }
theorem Tryz.vExtra : Builder.Extra Tryz.prog Tryz.vRepeat_ren where
  sizeBuilder := by kernel_rfl
  liesBuilder := by kernel_rfl
  t5 := Tryz.vRepeat.t5
  a5 := Tryz.vRepeat.a5
  z5 := Tryz.vRepeat.z5
  v5 := Tryz.vRepeat.v5
  infoByte := by kernel_rfl
  cellsByte := by kernel_rfl
  sizeByte := by kernel_rfl
  neB5 := by decide
theorem Tryz.vRepeat_calls (s : ByteArray) (c : Nat) (w : World) (hc : c ≤ 9223372036854775807) (hlen : s.size * c ≤ 140737488355328) :
    Calls Tryz.prog 227 #[.string s, .int .i64 c] w fun e w' => e = .returned (.string ⟨(Lib.repeatL s.data.toList c).toArray⟩) ∧ Below w.heap.size w w' :=
  Any.strings_Repeat Tryz.vRepeat Tryz.vExtra s c w hc hlen
end Go.Proofs
namespace Go.V
open Go.Proofs
noncomputable def F227 (s : List UInt8) (c : Int) : Option (List UInt8 × Unit) :=
  gd (decide (0 ≤ c)) (gd (decide (c ≤ 9223372036854775807)) (gd (decide (s.length * c.toNat ≤ 140737488355328)) (some (Lib.repeatL s c.toNat, ()))))
noncomputable def C227 : Fun := ⟨[.ro .str, .ro (.int .i64)], [(.str, .z)], fun z => F227 z.1 z.2.1⟩
theorem C227_ok : QuietOk Tryz.prog 227 C227 := by
  refine ⟨⟨Tryz.f227, Tryz.func227, rfl, by decide⟩, ?_⟩
  intro w O z vs r _ h hr
  obtain ⟨v, vs', cs, rfl, hv, hrep, v2, vs2, cs2, rfl, hv2, hrep2, h3⟩ := h
  rw [show vs2 = [] from h3, val_str hv hrep, val_int hv2 hrep2]
  have hr : F227 z.1 z.2.1 = some r := hr
  generalize z.1 = s at hr ⊢
  have : ∃ c : Int, c = z.2.1 := ⟨_, rfl⟩
  obtain ⟨c, hc⟩ := this
  rw [← hc] at hr ⊢
  unfold F227 gd at hr
  split at hr
  case h_2 => cases hr
  case h_1 h0 =>
    split at hr
    case h_2 => cases hr
    case h_1 h1 =>
      split at hr
      case h_2 => cases hr
      case h_1 h2 =>
        simp only [decide_eq_true_eq] at h0 h1 h2
        injection hr with hr
        subst hr
        obtain ⟨n, rfl⟩ : ∃ n : Nat, c = n := ⟨c.toNat, by omega⟩
        have hs : (ByteArray.mk (asS s).toArray).size = (asS s).length := by simp [ByteArray.size]
        refine (Tryz.vRepeat_calls ⟨(asS s).toArray⟩ n w (by omega) (by rw [hs]; simpa using h2)).mono ?_
        rintro e w' ⟨rfl, B⟩
        refine ⟨[.string ⟨(Lib.repeatL s n).toArray⟩], ?_, ⟨B.os, B.tape, B.output, B.size, fun b hb _ => B.block b hb⟩, res_str _⟩
        simp [valOf]
end Go.V
