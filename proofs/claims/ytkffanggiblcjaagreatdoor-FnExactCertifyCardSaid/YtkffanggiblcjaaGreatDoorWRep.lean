/- strings.Repeat, laid for this seat's program. No condition. -/
import Derived.Test.YtkffanggiblcjaaGreatDoorWLib
import Derived.Shelf.Strings.Repeat
namespace Go.Proofs
open Go.Shelf Go.RowKit
def Tryz.vRepeat_ren : Go.Shelf.Ren := ⟨fun | 105 => 249 | 212 => 265 | 99 => 266 | 165 => 267 | 166 => 268 | 170 => 269 | 169 => 270 | 263 => 275 | 264 => 276 | 206 => 277 | 240 => 278 | 241 => 279 | 276 => 284 | 277 => 285 | n => n, fun | 9 => 9 | 3 => 3 | 4 => 4 | 20 => 20 | 0 => 0 | 46 => 222 | 109 => 278 | 5 => 5 | 72 => 283 | 76 => 287 | 51 => 262 | 146 => 295 | 53 => 264 | 148 => 297 | 70 => 281 | 37 => 152 | 75 => 286 | 127 => 299 | 164 => 303 | 80 => 290 | n => n, fun | n => n⟩
theorem Tryz.vRepeat : Go.Proofs.Lays.n105 Tryz.prog Tryz.vRepeat_ren := {
  mixed := by kernel_rfl
  f99 := Tryz.func266.trans (congrArg some (by kernel_rfl))
  f105 := Tryz.func249.trans (congrArg some (by kernel_rfl))
  f165 := Tryz.func267.trans (congrArg some (by kernel_rfl))
  f166 := Tryz.func268.trans (congrArg some (by kernel_rfl))
  f169 := Tryz.func270.trans (congrArg some (by kernel_rfl))
  f170 := Tryz.func269.trans (congrArg some (by kernel_rfl))
  f206 := Tryz.func277.trans (congrArg some (by kernel_rfl))
  f212 := Tryz.func265.trans (congrArg some (by kernel_rfl))
  f240 := Tryz.func278.trans (congrArg some (by kernel_rfl))
  f241 := Tryz.func279.trans (congrArg some (by kernel_rfl))
  f263 := Tryz.func275.trans (congrArg some (by kernel_rfl))
  f264 := Tryz.func276.trans (congrArg some (by kernel_rfl))
  f276 := Tryz.func284.trans (congrArg some (by kernel_rfl))
  f277 := Tryz.func285.trans (congrArg some (by kernel_rfl))
  t0 := Tryz.underlying0
  a0 := Tryz.isAgg0
  z0 := Tryz.sizeOf0
  v0 := Tryz.zeroValue0
  t3 := Tryz.underlying3
  a3 := Tryz.isAgg3
  z3 := Tryz.sizeOf3
  v3 := Tryz.zeroValue3
  t4 := Tryz.underlying4
  a4 := Tryz.isAgg4
  z4 := Tryz.sizeOf4
  v4 := Tryz.zeroValue4
  t5 := Tryz.underlying5
  a5 := Tryz.isAgg5
  z5 := Tryz.sizeOf5
  v5 := Tryz.zeroValue5
  t9 := Tryz.underlying9
  a9 := Tryz.isAgg9
  z9 := Tryz.sizeOf9
  v9 := Tryz.zeroValue9
  t20 := Tryz.underlying20
  a20 := Tryz.isAgg20
  z20 := Tryz.sizeOf20
  v20 := Tryz.zeroValue20
  t37 := Tryz.underlying152
  a37 := Tryz.isAgg152
  z37 := Tryz.sizeOf152
  v37 := Tryz.zeroValue152
  t46 := Tryz.underlying222
  a46 := Tryz.isAgg222
  z46 := Tryz.sizeOf222
  v46 := Tryz.zeroValue222
  t51 := Tryz.underlying262
  a51 := Tryz.isAgg262
  z51 := Tryz.sizeOf262
  v51 := Tryz.zeroValue262
  t53 := Tryz.underlying264
  a53 := Tryz.isAgg264
  z53 := Tryz.sizeOf264
  v53 := Tryz.zeroValue264
  t70 := Tryz.underlying281
  a70 := Tryz.isAgg281
  z70 := Tryz.sizeOf281
  v70 := Tryz.zeroValue281
  t72 := Tryz.underlying283
  a72 := Tryz.isAgg283
  z72 := Tryz.sizeOf283
  v72 := Tryz.zeroValue283
  t75 := Tryz.underlying286
  a75 := Tryz.isAgg286
  z75 := Tryz.sizeOf286
  v75 := Tryz.zeroValue286
  t76 := Tryz.underlying287
  a76 := Tryz.isAgg287
  z76 := Tryz.sizeOf287
  v76 := Tryz.zeroValue287
  t109 := Tryz.underlying278
  a109 := Tryz.isAgg278
  z109 := Tryz.sizeOf278
  v109 := Tryz.zeroValue278
  t127 := Tryz.underlying299
  a127 := Tryz.isAgg299
  z127 := Tryz.sizeOf299
  v127 := Tryz.zeroValue299
  t146 := Tryz.underlying295
  a146 := Tryz.isAgg295
  z146 := Tryz.sizeOf295
  v146 := Tryz.zeroValue295
  t148 := Tryz.underlying297
  a148 := Tryz.isAgg297
  z148 := Tryz.sizeOf297
  v148 := Tryz.zeroValue297
  t164 := Tryz.underlying303
  a164 := Tryz.isAgg303
  z164 := Tryz.sizeOf303
  v164 := Tryz.zeroValue303 }
theorem Tryz.vExtra : Builder.Extra Tryz.prog Tryz.vRepeat_ren where
  sizeBuilder := by kernel_rfl
  liesBuilder := by kernel_rfl
  t5 := Tryz.vRepeat.t5
  a5 := Tryz.vRepeat.a5
  z5 := Tryz.vRepeat.z5
  v5 := Tryz.vRepeat.v5
  infoByte := by kernel_rfl
  cellsByte := by kernel_rfl
  sizeByte := by kernel_rfl
  neB5 := by decide
theorem Tryz.vRepeat_calls (s : ByteArray) (c : Nat) (w : World) (hc : c ≤ 9223372036854775807) (hlen : s.size * c ≤ 140737488355328) :
    Calls Tryz.prog 249 #[.string s, .int .i64 c] w fun e w' => e = .returned (.string ⟨(Lib.repeatL s.data.toList c).toArray⟩) ∧ Below w.heap.size w w' :=
  Any.strings_Repeat Tryz.vRepeat Tryz.vExtra s c w hc hlen
end Go.Proofs
namespace Go.V
open Go.Proofs
noncomputable def F249 (s : List UInt8) (c : Int) : Option (List UInt8 × Unit) :=
  gd (decide (0 ≤ c)) (gd (decide (c ≤ 9223372036854775807)) (gd (decide (s.length * c.toNat ≤ 140737488355328)) (some (Lib.repeatL s c.toNat, ()))))
noncomputable def C249 : Fun := ⟨[.ro .str, .ro (.int .i64)], [(.str, .z)], fun z => F249 z.1 z.2.1⟩
theorem C249_ok : QuietOk Tryz.prog 249 C249 := by
  refine ⟨⟨Tryz.f249, Tryz.func249, rfl, by decide⟩, ?_⟩
  intro w O z vs r _ h hr
  obtain ⟨v, vs', cs, rfl, hv, hrep, v2, vs2, cs2, rfl, hv2, hrep2, h3⟩ := h
  rw [show vs2 = [] from h3, val_str hv hrep, val_int hv2 hrep2]
  have hr : F249 z.1 z.2.1 = some r := hr
  generalize z.1 = s at hr ⊢
  have : ∃ c : Int, c = z.2.1 := ⟨_, rfl⟩
  obtain ⟨c, hc⟩ := this
  rw [← hc] at hr ⊢
  unfold F249 gd at hr
  split at hr
  case h_2 => cases hr
  case h_1 h0 =>
    split at hr
    case h_2 => cases hr
    case h_1 h1 =>
      split at hr
      case h_2 => cases hr
      case h_1 h2 =>
        simp only [decide_eq_true_eq] at h0 h1 h2
        injection hr with hr
        subst hr
        obtain ⟨n, rfl⟩ : ∃ n : Nat, c = n := ⟨c.toNat, by omega⟩
        have hs : (ByteArray.mk (asS s).toArray).size = (asS s).length := by simp [ByteArray.size]
        refine (Tryz.vRepeat_calls ⟨(asS s).toArray⟩ n w (by omega) (by rw [hs]; simpa using h2)).mono ?_
        rintro e w' ⟨rfl, B⟩
        refine ⟨[.string ⟨(Lib.repeatL s n).toArray⟩], ?_, ⟨B.os, B.tape, B.output, B.size, fun b hb _ => B.block b hb⟩, res_str _⟩
        simp [valOf]
end Go.V
