/- strings.Repeat, laid for this seat's program. No condition. -/
import Derived.Test.YtajpnkedfdcggaaGreatDoorWLib
import Derived.Shelf.Strings.Repeat
namespace Go.Proofs
open Go.Shelf Go.RowKit
def Tryz.vRepeat_ren : Go.Shelf.Ren := ⟨fun | 105 => 215 | 212 => 224 | 99 => 225 | 165 => 226 | 166 => 227 | 170 => 228 | 169 => 229 | 263 => 232 | 264 => 233 | 206 => 234 | 240 => 235 | 241 => 236 | 276 => 237 | 277 => 238 | n => n, fun | 9 => 9 | 3 => 3 | 4 => 4 | 20 => 20 | 0 => 0 | 46 => 283 | 109 => 285 | 5 => 5 | 72 => 290 | 76 => 294 | 51 => 301 | 146 => 302 | 53 => 305 | 148 => 306 | 70 => 288 | 37 => 282 | 75 => 293 | 127 => 308 | 164 => 309 | 80 => 296 | n => n, fun | n => n⟩
theorem Tryz.vRepeat : Go.Proofs.Lays.n105 Tryz.prog Tryz.vRepeat_ren := {
  mixed := by kernel_rfl
  f99 := Tryz.func225.trans (congrArg some (by kernel_rfl))
  f105 := Tryz.func215.trans (congrArg some (by kernel_rfl))
  f165 := Tryz.func226.trans (congrArg some (by kernel_rfl))
  f166 := Tryz.func227.trans (congrArg some (by kernel_rfl))
  f169 := Tryz.func229.trans (congrArg some (by kernel_rfl))
  f170 := Tryz.func228.trans (congrArg some (by kernel_rfl))
  f206 := Tryz.func234.trans (congrArg some (by kernel_rfl))
  f212 := Tryz.func224.trans (congrArg some (by kernel_rfl))
  f240 := Tryz.func235.trans (congrArg some (by kernel_rfl))
  f241 := Tryz.func236.trans (congrArg some (by kernel_rfl))
  f263 := Tryz.func232.trans (congrArg some (by kernel_rfl))
  f264 := Tryz.func233.trans (congrArg some (by kernel_rfl))
  f276 := Tryz.func237.trans (congrArg some (by kernel_rfl))
  f277 := Tryz.func238.trans (congrArg some (by kernel_rfl))
  t0 := Tryz.underlying0
  a0 := Tryz.isAgg0
  z0 := Tryz.sizeOf0
  v0 := Tryz.zeroValue0
  t3 := Tryz.underlying3
  a3 := Tryz.isAgg3
  z3 := Tryz.sizeOf3
  v3 := Tryz.zeroValue3
  t4 := Tryz.underlying4
  a4 := Tryz.isAgg4
  z4 := Tryz.sizeOf4
  v4 := Tryz.zeroValue4
  t5 := Tryz.underlying5
  a5 := Tryz.isAgg5
  z5 := Tryz.sizeOf5
  v5 := Tryz.zeroValue5
  t9 := Tryz.underlying9
  a9 := Tryz.isAgg9
  z9 := Tryz.sizeOf9
  v9 := Tryz.zeroValue9
  t20 := Tryz.underlying20
  a20 := Tryz.isAgg20
  z20 := Tryz.sizeOf20
  v20 := Tryz.zeroValue20
  t37 := Tryz.underlying282
  a37 := Tryz.isAgg282
  z37 := Tryz.sizeOf282
  v37 := Tryz.zeroValue282
  t46 := Tryz.underlying283
  a46 := Tryz.isAgg283
  z46 := Tryz.sizeOf283
  v46 := Tryz.zeroValue283
  t51 := Tryz.underlying301
  a51 := Tryz.isAgg301
  z51 := Tryz.sizeOf301
  v51 := Tryz.zeroValue301
  t53 := Tryz.underlying305
  a53 := Tryz.isAgg305
  z53 := Tryz.sizeOf305
  v53 := Tryz.zeroValue305
  t70 := Tryz.underlying288
  a70 := Tryz.isAgg288
  z70 := Tryz.sizeOf288
  v70 := Tryz.zeroValue288
  t72 := Tryz.underlying290
  a72 := Tryz.isAgg290
  z72 := Tryz.sizeOf290
  v72 := Tryz.zeroValue290
  t75 := Tryz.underlying293
  a75 := Tryz.isAgg293
  z75 := Tryz.sizeOf293
  v75 := Tryz.zeroValue293
  t76 := Tryz.underlying294
  a76 := Tryz.isAgg294
  z76 := Tryz.sizeOf294
  v76 := Tryz.zeroValue294
  t109 := Tryz.underlying285
  a109 := Tryz.isAgg285
  z109 := Tryz.sizeOf285
  v109 := Tryz.zeroValue285
  t127 := Tryz.underlying308
  a127 := Tryz.isAgg308
  z127 := Tryz.sizeOf308
  v127 := Tryz.zeroValue308
  t146 := Tryz.underlying302
  a146 := Tryz.isAgg302
  z146 := Tryz.sizeOf302
  v146 := Tryz.zeroValue302
  t148 := Tryz.underlying306
  a148 := Tryz.isAgg306
  z148 := Tryz.sizeOf306
  v148 := Tryz.zeroValue306
  t164 := Tryz.underlying309
  a164 := Tryz.isAgg309
  z164 := Tryz.sizeOf309
  v164 := Tryz.zeroValue309 }
theorem Tryz.vExtra : Builder.Extra Tryz.prog Tryz.vRepeat_ren where
  sizeBuilder := by kernel_rfl
  liesBuilder := by kernel_rfl
  t5 := Tryz.vRepeat.t5
  a5 := Tryz.vRepeat.a5
  z5 := Tryz.vRepeat.z5
  v5 := Tryz.vRepeat.v5
  infoByte := by kernel_rfl
  cellsByte := by kernel_rfl
  sizeByte := by kernel_rfl
  neB5 := by decide
theorem Tryz.vRepeat_calls (s : ByteArray) (c : Nat) (w : World) (hc : c ≤ 9223372036854775807) (hlen : s.size * c ≤ 140737488355328) :
    Calls Tryz.prog 215 #[.string s, .int .i64 c] w fun e w' => e = .returned (.string ⟨(Lib.repeatL s.data.toList c).toArray⟩) ∧ Below w.heap.size w w' :=
  Any.strings_Repeat Tryz.vRepeat Tryz.vExtra s c w hc hlen
end Go.Proofs
namespace Go.V
open Go.Proofs
noncomputable def F215 (s : List UInt8) (c : Int) : Option (List UInt8 × Unit) :=
  gd (decide (0 ≤ c)) (gd (decide (c ≤ 9223372036854775807)) (gd (decide (s.length * c.toNat ≤ 140737488355328)) (some (Lib.repeatL s c.toNat, ()))))
noncomputable def C215 : Fun := ⟨[.ro .str, .ro (.int .i64)], [(.str, .z)], fun z => F215 z.1 z.2.1⟩
theorem C215_ok : QuietOk Tryz.prog 215 C215 := by
  refine ⟨⟨Tryz.f215, Tryz.func215, rfl, by decide⟩, ?_⟩
  intro w O z vs r _ h hr
  obtain ⟨v, vs', cs, rfl, hv, hrep, v2, vs2, cs2, rfl, hv2, hrep2, h3⟩ := h
  rw [show vs2 = [] from h3, val_str hv hrep, val_int hv2 hrep2]
  have hr : F215 z.1 z.2.1 = some r := hr
  generalize z.1 = s at hr ⊢
  have : ∃ c : Int, c = z.2.1 := ⟨_, rfl⟩
  obtain ⟨c, hc⟩ := this
  rw [← hc] at hr ⊢
  unfold F215 gd at hr
  split at hr
  case h_2 => cases hr
  case h_1 h0 =>
    split at hr
    case h_2 => cases hr
    case h_1 h1 =>
      split at hr
      case h_2 => cases hr
      case h_1 h2 =>
        simp only [decide_eq_true_eq] at h0 h1 h2
        injection hr with hr
        subst hr
        obtain ⟨n, rfl⟩ : ∃ n : Nat, c = n := ⟨c.toNat, by omega⟩
        have hs : (ByteArray.mk (asS s).toArray).size = (asS s).length := by simp [ByteArray.size]
        refine (Tryz.vRepeat_calls ⟨(asS s).toArray⟩ n w (by omega) (by rw [hs]; simpa using h2)).mono ?_
        rintro e w' ⟨rfl, B⟩
        refine ⟨[.string ⟨(Lib.repeatL s n).toArray⟩], ?_, ⟨B.os, B.tape, B.output, B.size, fun b hb _ => B.block b hb⟩, res_str _⟩
        simp [valOf]
end Go.V
