/- strings.Repeat, laid for this seat's program. No condition. -/
import Derived.Test.YtmdhdagmebffjaaGreatDoorWLib
import Derived.Shelf.Strings.Repeat
namespace Go.Proofs
open Go.Shelf Go.RowKit
def Tryz.vRepeat_ren : Go.Shelf.Ren := ⟨fun | 105 => 220 | 212 => 229 | 99 => 230 | 165 => 231 | 166 => 232 | 170 => 233 | 169 => 234 | 263 => 237 | 264 => 238 | 206 => 239 | 240 => 240 | 241 => 241 | 276 => 242 | 277 => 243 | n => n, fun | 9 => 9 | 3 => 3 | 4 => 4 | 20 => 20 | 0 => 0 | 46 => 288 | 109 => 290 | 5 => 5 | 72 => 295 | 76 => 299 | 51 => 307 | 146 => 308 | 53 => 311 | 148 => 312 | 70 => 293 | 37 => 287 | 75 => 298 | 127 => 314 | 164 => 315 | 80 => 302 | n => n, fun | n => n⟩
theorem Tryz.vRepeat : Go.Proofs.Lays.n105 Tryz.prog Tryz.vRepeat_ren := {
  mixed := by kernel_rfl
  f99 := Tryz.func230.trans (congrArg some (by kernel_rfl))
  f105 := Tryz.func220.trans (congrArg some (by kernel_rfl))
  f165 := Tryz.func231.trans (congrArg some (by kernel_rfl))
  f166 := Tryz.func232.trans (congrArg some (by kernel_rfl))
  f169 := Tryz.func234.trans (congrArg some (by kernel_rfl))
  f170 := Tryz.func233.trans (congrArg some (by kernel_rfl))
  f206 := Tryz.func239.trans (congrArg some (by kernel_rfl))
  f212 := Tryz.func229.trans (congrArg some (by kernel_rfl))
  f240 := Tryz.func240.trans (congrArg some (by kernel_rfl))
  f241 := Tryz.func241.trans (congrArg some (by kernel_rfl))
  f263 := Tryz.func237.trans (congrArg some (by kernel_rfl))
  f264 := Tryz.func238.trans (congrArg some (by kernel_rfl))
  f276 := Tryz.func242.trans (congrArg some (by kernel_rfl))
  f277 := Tryz.func243.trans (congrArg some (by kernel_rfl))
  t0 := Tryz.underlying0
  a0 := Tryz.isAgg0
  z0 := Tryz.sizeOf0
  v0 := Tryz.zeroValue0
  t3 := Tryz.underlying3
  a3 := Tryz.isAgg3
  z3 := Tryz.sizeOf3
  v3 := Tryz.zeroValue3
  t4 := Tryz.underlying4
  a4 := Tryz.isAgg4
  z4 := Tryz.sizeOf4
  v4 := Tryz.zeroValue4
  t5 := Tryz.underlying5
  a5 := Tryz.isAgg5
  z5 := Tryz.sizeOf5
  v5 := Tryz.zeroValue5
  t9 := Tryz.underlying9
  a9 := Tryz.isAgg9
  z9 := Tryz.sizeOf9
  v9 := Tryz.zeroValue9
  t20 := Tryz.underlying20
  a20 := Tryz.isAgg20
  z20 := Tryz.sizeOf20
  v20 := Tryz.zeroValue20
  t37 := Tryz.underlying287
  a37 := Tryz.isAgg287
  z37 := Tryz.sizeOf287
  v37 := Tryz.zeroValue287
  t46 := Tryz.underlying288
  a46 := Tryz.isAgg288
  z46 := Tryz.sizeOf288
  v46 := Tryz.zeroValue288
  t51 := Tryz.underlying307
  a51 := Tryz.isAgg307
  z51 := Tryz.sizeOf307
  v51 := Tryz.zeroValue307
  t53 := Tryz.underlying311
  a53 := Tryz.isAgg311
  z53 := Tryz.sizeOf311
  v53 := Tryz.zeroValue311
  t70 := Tryz.underlying293
  a70 := Tryz.isAgg293
  z70 := Tryz.sizeOf293
  v70 := Tryz.zeroValue293
  t72 := Tryz.underlying295
  a72 := Tryz.isAgg295
  z72 := Tryz.sizeOf295
  v72 := Tryz.zeroValue295
  t75 := Tryz.underlying298
  a75 := Tryz.isAgg298
  z75 := Tryz.sizeOf298
  v75 := Tryz.zeroValue298
  t76 := Tryz.underlying299
  a76 := Tryz.isAgg299
  z76 := Tryz.sizeOf299
  v76 := Tryz.zeroValue299
  t109 := Tryz.underlying290
  a109 := Tryz.isAgg290
  z109 := Tryz.sizeOf290
  v109 := Tryz.zeroValue290
  t127 := Tryz.underlying314
  a127 := Tryz.isAgg314
  z127 := Tryz.sizeOf314
  v127 := Tryz.zeroValue314
  t146 := Tryz.underlying308
  a146 := Tryz.isAgg308
  z146 := Tryz.sizeOf308
  v146 := Tryz.zeroValue308
  t148 := Tryz.underlying312
  a148 := Tryz.isAgg312
  z148 := Tryz.sizeOf312
  v148 := Tryz.zeroValue312
  t164 := Tryz.underlying315
  a164 := Tryz.isAgg315
  z164 := Tryz.sizeOf315
  v164 := Tryz.zeroValue315 }
theorem Tryz.vExtra : Builder.Extra Tryz.prog Tryz.vRepeat_ren where
  sizeBuilder := by kernel_rfl
  liesBuilder := by kernel_rfl
  t5 := Tryz.vRepeat.t5
  a5 := Tryz.vRepeat.a5
  z5 := Tryz.vRepeat.z5
  v5 := Tryz.vRepeat.v5
  infoByte := by kernel_rfl
  cellsByte := by kernel_rfl
  sizeByte := by kernel_rfl
  neB5 := by decide
theorem Tryz.vRepeat_calls (s : ByteArray) (c : Nat) (w : World) (hc : c ≤ 9223372036854775807) (hlen : s.size * c ≤ 140737488355328) :
    Calls Tryz.prog 220 #[.string s, .int .i64 c] w fun e w' => e = .returned (.string ⟨(Lib.repeatL s.data.toList c).toArray⟩) ∧ Below w.heap.size w w' :=
  Any.strings_Repeat Tryz.vRepeat Tryz.vExtra s c w hc hlen
end Go.Proofs
namespace Go.V
open Go.Proofs
noncomputable def F220 (s : List UInt8) (c : Int) : Option (List UInt8 × Unit) :=
  gd (decide (0 ≤ c)) (gd (decide (c ≤ 9223372036854775807)) (gd (decide (s.length * c.toNat ≤ 140737488355328)) (some (Lib.repeatL s c.toNat, ()))))
noncomputable def C220 : Fun := ⟨[.ro .str, .ro (.int .i64)], [(.str, .z)], fun z => F220 z.1 z.2.1⟩
theorem C220_ok : QuietOk Tryz.prog 220 C220 := by
  refine ⟨⟨Tryz.f220, Tryz.func220, rfl, by decide⟩, ?_⟩
  intro w O z vs r _ h hr
  obtain ⟨v, vs', cs, rfl, hv, hrep, v2, vs2, cs2, rfl, hv2, hrep2, h3⟩ := h
  rw [show vs2 = [] from h3, val_str hv hrep, val_int hv2 hrep2]
  have hr : F220 z.1 z.2.1 = some r := hr
  generalize z.1 = s at hr ⊢
  have : ∃ c : Int, c = z.2.1 := ⟨_, rfl⟩
  obtain ⟨c, hc⟩ := this
  rw [← hc] at hr ⊢
  unfold F220 gd at hr
  split at hr
  case h_2 => cases hr
  case h_1 h0 =>
    split at hr
    case h_2 => cases hr
    case h_1 h1 =>
      split at hr
      case h_2 => cases hr
      case h_1 h2 =>
        simp only [decide_eq_true_eq] at h0 h1 h2
        injection hr with hr
        subst hr
        obtain ⟨n, rfl⟩ : ∃ n : Nat, c = n := ⟨c.toNat, by omega⟩
        have hs : (ByteArray.mk (asS s).toArray).size = (asS s).length := by simp [ByteArray.size]
        refine (Tryz.vRepeat_calls ⟨(asS s).toArray⟩ n w (by omega) (by rw [hs]; simpa using h2)).mono ?_
        rintro e w' ⟨rfl, B⟩
        refine ⟨[.string ⟨(Lib.repeatL s n).toArray⟩], ?_, ⟨B.os, B.tape, B.output, B.size, fun b hb _ => B.block b hb⟩, res_str _⟩
        simp [valOf]
end Go.V
