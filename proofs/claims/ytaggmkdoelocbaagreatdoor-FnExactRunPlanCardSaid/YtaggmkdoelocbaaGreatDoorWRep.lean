/- strings.Repeat, laid for this seat's program. No condition. -/
import Derived.Test.YtaggmkdoelocbaaGreatDoorWLib
import Derived.Shelf.Strings.Repeat
namespace Go.Proofs
open Go.Shelf Go.RowKit
def Tryz.vRepeat_ren : Go.Shelf.Ren := ⟨fun | 105 => 264 | 212 => 297 | 99 => 298 | 165 => 299 | 166 => 300 | 170 => 301 | 169 => 302 | 263 => 321 | 264 => 322 | 206 => 323 | 240 => 324 | 241 => 325 | 276 => 334 | 277 => 335 | n => n, fun | 9 => 9 | 3 => 3 | 4 => 4 | 20 => 20 | 0 => 0 | 46 => 249 | 109 => 335 | 5 => 5 | 72 => 340 | 76 => 344 | 51 => 301 | 146 => 358 | 53 => 303 | 148 => 360 | 70 => 338 | 37 => 172 | 75 => 343 | 127 => 362 | 164 => 368 | 80 => 347 | n => n, fun | n => n⟩
theorem Tryz.vRepeat : Go.Proofs.Lays.n105 Tryz.prog Tryz.vRepeat_ren := {
  mixed := by kernel_rfl
  f99 := Tryz.func298.trans (congrArg some (by kernel_rfl))
  f105 := Tryz.func264.trans (congrArg some (by kernel_rfl))
  f165 := Tryz.func299.trans (congrArg some (by kernel_rfl))
  f166 := Tryz.func300.trans (congrArg some (by kernel_rfl))
  f169 := Tryz.func302.trans (congrArg some (by kernel_rfl))
  f170 := Tryz.func301.trans (congrArg some (by kernel_rfl))
  f206 := Tryz.func323.trans (congrArg some (by kernel_rfl))
  f212 := Tryz.func297.trans (congrArg some (by kernel_rfl))
  f240 := Tryz.func324.trans (congrArg some (by kernel_rfl))
  f241 := Tryz.func325.trans (congrArg some (by kernel_rfl))
  f263 := Tryz.func321.trans (congrArg some (by kernel_rfl))
  f264 := Tryz.func322.trans (congrArg some (by kernel_rfl))
  f276 := Tryz.func334.trans (congrArg some (by kernel_rfl))
  f277 := Tryz.func335.trans (congrArg some (by kernel_rfl))
  t0 := Tryz.underlying0
  a0 := Tryz.isAgg0
  z0 := Tryz.sizeOf0
  v0 := Tryz.zeroValue0
  t3 := Tryz.underlying3
  a3 := Tryz.isAgg3
  z3 := Tryz.sizeOf3
  v3 := Tryz.zeroValue3
  t4 := Tryz.underlying4
  a4 := Tryz.isAgg4
  z4 := Tryz.sizeOf4
  v4 := Tryz.zeroValue4
  t5 := Tryz.underlying5
  a5 := Tryz.isAgg5
  z5 := Tryz.sizeOf5
  v5 := Tryz.zeroValue5
  t9 := Tryz.underlying9
  a9 := Tryz.isAgg9
  z9 := Tryz.sizeOf9
  v9 := Tryz.zeroValue9
  t20 := Tryz.underlying20
  a20 := Tryz.isAgg20
  z20 := Tryz.sizeOf20
  v20 := Tryz.zeroValue20
  t37 := Tryz.underlying172
  a37 := Tryz.isAgg172
  z37 := Tryz.sizeOf172
  v37 := Tryz.zeroValue172
  t46 := Tryz.underlying249
  a46 := Tryz.isAgg249
  z46 := Tryz.sizeOf249
  v46 := Tryz.zeroValue249
  t51 := Tryz.underlying301
  a51 := Tryz.isAgg301
  z51 := Tryz.sizeOf301
  v51 := Tryz.zeroValue301
  t53 := Tryz.underlying303
  a53 := Tryz.isAgg303
  z53 := Tryz.sizeOf303
  v53 := Tryz.zeroValue303
  t70 := Tryz.underlying338
  a70 := Tryz.isAgg338
  z70 := Tryz.sizeOf338
  v70 := Tryz.zeroValue338
  t72 := Tryz.underlying340
  a72 := Tryz.isAgg340
  z72 := Tryz.sizeOf340
  v72 := Tryz.zeroValue340
  t75 := Tryz.underlying343
  a75 := Tryz.isAgg343
  z75 := Tryz.sizeOf343
  v75 := Tryz.zeroValue343
  t76 := Tryz.underlying344
  a76 := Tryz.isAgg344
  z76 := Tryz.sizeOf344
  v76 := Tryz.zeroValue344
  t109 := Tryz.underlying335
  a109 := Tryz.isAgg335
  z109 := Tryz.sizeOf335
  v109 := Tryz.zeroValue335
  t127 := Tryz.underlying362
  a127 := Tryz.isAgg362
  z127 := Tryz.sizeOf362
  v127 := Tryz.zeroValue362
  t146 := Tryz.underlying358
  a146 := Tryz.isAgg358
  z146 := Tryz.sizeOf358
  v146 := Tryz.zeroValue358
  t148 := Tryz.underlying360
  a148 := Tryz.isAgg360
  z148 := Tryz.sizeOf360
  v148 := Tryz.zeroValue360
  t164 := Tryz.underlying368
  a164 := Tryz.isAgg368
  z164 := Tryz.sizeOf368
  v164 := Tryz.zeroValue368 }
theorem Tryz.vExtra : Builder.Extra Tryz.prog Tryz.vRepeat_ren where
  sizeBuilder := by kernel_rfl
  liesBuilder := by kernel_rfl
  t5 := Tryz.vRepeat.t5
  a5 := Tryz.vRepeat.a5
  z5 := Tryz.vRepeat.z5
  v5 := Tryz.vRepeat.v5
  infoByte := by kernel_rfl
  cellsByte := by kernel_rfl
  sizeByte := by kernel_rfl
  neB5 := by decide
theorem Tryz.vRepeat_calls (s : ByteArray) (c : Nat) (w : World) (hc : c ≤ 9223372036854775807) (hlen : s.size * c ≤ 140737488355328) :
    Calls Tryz.prog 264 #[.string s, .int .i64 c] w fun e w' => e = .returned (.string ⟨(Lib.repeatL s.data.toList c).toArray⟩) ∧ Below w.heap.size w w' :=
  Any.strings_Repeat Tryz.vRepeat Tryz.vExtra s c w hc hlen
end Go.Proofs
namespace Go.V
open Go.Proofs
noncomputable def F264 (s : List UInt8) (c : Int) : Option (List UInt8 × Unit) :=
  gd (decide (0 ≤ c)) (gd (decide (c ≤ 9223372036854775807)) (gd (decide (s.length * c.toNat ≤ 140737488355328)) (some (Lib.repeatL s c.toNat, ()))))
noncomputable def C264 : Fun := ⟨[.ro .str, .ro (.int .i64)], [(.str, .z)], fun z => F264 z.1 z.2.1⟩
theorem C264_ok : QuietOk Tryz.prog 264 C264 := by
  refine ⟨⟨Tryz.f264, Tryz.func264, rfl, by decide⟩, ?_⟩
  intro w O z vs r _ h hr
  obtain ⟨v, vs', cs, rfl, hv, hrep, v2, vs2, cs2, rfl, hv2, hrep2, h3⟩ := h
  rw [show vs2 = [] from h3, val_str hv hrep, val_int hv2 hrep2]
  have hr : F264 z.1 z.2.1 = some r := hr
  generalize z.1 = s at hr ⊢
  have : ∃ c : Int, c = z.2.1 := ⟨_, rfl⟩
  obtain ⟨c, hc⟩ := this
  rw [← hc] at hr ⊢
  unfold F264 gd at hr
  split at hr
  case h_2 => cases hr
  case h_1 h0 =>
    split at hr
    case h_2 => cases hr
    case h_1 h1 =>
      split at hr
      case h_2 => cases hr
      case h_1 h2 =>
        simp only [decide_eq_true_eq] at h0 h1 h2
        injection hr with hr
        subst hr
        obtain ⟨n, rfl⟩ : ∃ n : Nat, c = n := ⟨c.toNat, by omega⟩
        have hs : (ByteArray.mk (asS s).toArray).size = (asS s).length := by simp [ByteArray.size]
        refine (Tryz.vRepeat_calls ⟨(asS s).toArray⟩ n w (by omega) (by rw [hs]; simpa using h2)).mono ?_
        rintro e w' ⟨rfl, B⟩
        refine ⟨[.string ⟨(Lib.repeatL s n).toArray⟩], ?_, ⟨B.os, B.tape, B.output, B.size, fun b hb _ => B.block b hb⟩, res_str _⟩
        simp [valOf]
end Go.V
