/- An evaluator over the code of the model, on data without memory, and the proof that it is right. No condition. -/
import Derived.Test.YtmegollghdmpfaaGreatDoorEc
import Derived.Shelf.SlSortCmp.NoneTotal
/- Sorting by a comparison: slices.SortFunc, as the evaluator takes it. No condition. -/
namespace Go.V
open Go.Sort Go.Proofs Go.Shelf
set_option linter.unusedVariables false
variable {P : Program} {w w' : World} {O O' : Foot}
theorem Kept.grown (K : Kept Foot.none w w') (h : w.drawn ≤ w'.drawn) : ∃ q os, w' = grow (w.drewN q) os := by
 refine ⟨w'.drawn - w.drawn, w'.heap.extract w.heap.size w'.heap.size, ?_⟩
 obtain ⟨heap, tape, drawn, os, output⟩ := w
 obtain ⟨heap', tape', drawn', os', output'⟩ := w'
 have k1 : os' = os := K.os
 have k2 : tape' = tape := K.tape
 have k3 : output' = output := K.output
 have k4 : heap.size ≤ heap'.size := K.size
 have k5 := K.block
 subst k1 k2 k3
 dsimp only at h
 have e1 : drawn' = drawn + (drawn' - drawn) := by omega
 have e2 : heap' = heap ++ heap'.extract heap.size heap'.size := by
  apply Array.ext_getElem?
  intro i
  by_cases hi : i < heap.size
  ·rw [Array.getElem?_append_left hi]; exact k5 i hi fun h => h
  ·rw [Array.getElem?_append_right (by omega), Array.getElem?_extract]
   by_cases h2 : i < heap'.size
   ·rw [if_pos (by omega)]; congr 1; omega
   ·rw [if_neg (by omega), Array.getElem?_eq_none (by omega)]
 unfold grow World.drewN
 rw [← e1, ← e2]
theorem elsOf {α β : Type} {R : β → List Value → Foot → Prop} {k : Nat} (enc : α → List Value) (f : α → β) : ∀ (ds : List α) (cells : List Value), cells.length = ds.length * k →
  (∀ i d, ds[i]? = some d → ∀ c, c < k → cells[i * k + c]? = (enc d)[c]?) → (∀ d, d ∈ ds → (enc d).length = k ∧ R (f d) (enc d) Foot.none) → Els R (ds.map f) cells Foot.none
 | [], cells, hl, _, _ => by
  have : cells = [] := by simpa using hl
  subst this
  exact ⟨rfl, fun _ h => h⟩
 | d :: ds, cells, hl, hc, hr => by
  obtain ⟨h1, h2⟩ := hr d (by simp)
  have hl' : cells.length = ds.length * k + k := by rw [hl, List.length_cons, Nat.succ_mul]
  refine ⟨cells.take k, cells.drop k, Foot.none, Foot.none, (List.take_append_drop k cells).symm, ?_, elsOf enc f ds (cells.drop k) (by simp; omega) (fun i d' hd c hck => ?_) (fun d hd => hr d (by simp [hd])), fun _ => by simp [Foot.none], fun _ h => h.1⟩
  ·have : cells.take k = enc d := by
    apply List.ext_getElem?
    intro c
    by_cases hck : c < k
    ·rw [List.getElem?_take, if_pos hck]
     have := hc 0 d (by simp) c hck
     simpa using this
    ·rw [List.getElem?_take, if_neg hck, List.getElem?_eq_none (by omega)]
   rw [this]; exact h2
  ·rw [List.getElem?_drop]
   have := hc (i + 1) d' (by simpa using hd) c hck
   rw [← this]
   congr 1
   rw [Nat.succ_mul]; omega
theorem Els.at_ {β : Type} {R : β → List Value → Foot → Prop} {sz : Nat} (hR : ∀ x c F, R x c F → c.length = sz) (hN : ∀ x c F, R x c F → R x c Foot.none) {xs : List β} {cs : List Value} {F : Foot} (h : Els R xs cs F) {i : Nat} {x : β} (hx : xs[i]? = some x) :
  R x ((cs.drop (i * sz)).take sz) Foot.none := by
 obtain ⟨_, F', h1, _⟩ := Els.pick hR h hx
 exact hN _ _ _ h1
def cmpAt {α : Type} (G : α → α → Option Int) (l : List α) (i j : Fin l.length) : Int := (G l[i] l[j]).getD 0
open Classical in
noncomputable def sortF {α : Type} (G : α → α → Option Int) (l : List α) : Option (List α) :=
 if h : l.length ≤ lim ∧ (∀ i j : Fin l.length, G l[i] l[j] = some (cmpAt G l i j)) ∧ SWO (ltOf (cmpAt G l)) then
  if h0 : 0 < l.length then
   haveI : Inhabited (Fin l.length) := ⟨⟨0, h0⟩⟩
   some ((pdq (ltOf (cmpAt G l)) (Array.ofFn id : Array (Fin l.length)) 0 l.length (Lib.bitLen l.length) true true).toList.map fun i => l[i])
  else some []
 else none
def CmpOk (P : Program) (g : FuncId) (e : Ty) (ts : List Ty) (G : e.den → e.den → Tup ts → Option Int) : Prop :=
 (∃ fn, P.funcs[g]? = some fn ∧ fn.body.isSome = true ∧ fn.name ≠ "runtime.NumGoroutine") ∧
 ∀ (w : World) (O : Foot) (x y : e.den) (vx vy : Value) (cx cy : List Value) (xs : Tup ts) (cv : List Value) z, (∀ b, O b → b < w.heap.size) → Val e vx cx → Rep w O e .z x cx Foot.none → Val e vy cy → Rep w O e .z y cy Foot.none → PtrsOk w O ts xs cv → G x y xs = some z →
  Calls P g (#[vx, vy] ++ cv.toArray) w fun r w' => r = .returned (.int .i64 z) ∧ Kept Foot.none w w'
def rpArgs : (ts : List Ty) → Tup ts → Args (ts.map PM.rp)
 | [], _ => ()
 | _ :: ts, xs => (xs.1, rpArgs ts xs.2)
theorem rpArgs_ok : ∀ (ts : List Ty) (xs : Tup ts) (cv : List Value), PtrsOk w O ts xs cv → ArgsOk P w O (ts.map PM.rp) (rpArgs ts xs) cv
 | [], _, _, h => h
 | t :: ts, xs, _, ⟨v, vs, e, h1, h2⟩ => ⟨v, vs, e, h1, rpArgs_ok ts xs.2 vs h2⟩
theorem putCells_get (off : Nat) (F C : Array Value) {t : Nat} (h : t < F.size) (hc : off + t < C.size) : (putCells id off F C)[off + t]? = some F[t]! := by
 simp only [putCells, Array.getElem?_mapIdx, Array.getElem?_eq_getElem hc, Option.map_some]
 rw [if_pos ⟨by omega, by omega⟩, show off + t - off = t by omega]; rfl
theorem putCells_size (off : Nat) (F C : Array Value) : (putCells id off F C).size = C.size := by simp [putCells]
section
variable {α : Type} [Inhabited α] (enc : α → List Value) (k : Nat) (b off m : Nat) (d : Array α) (os : Array Obj)
theorem sw_other {j : Nat} (hj : j < w.heap.size) (hb : j ≠ b) : (sortWorldK enc k w b off m d os).heap[j]? = w.heap[j]? := by
 unfold sortWorldK grow putRowK putRow mapBlock Sort.ahead
 dsimp only
 rw [Array.getElem?_append_left (by simpa using hj), Array.getElem?_modify, if_neg fun h => hb h.symm]
theorem sw_block {C : Array Value} {tid : TypeId} {fr : Nat × Nat} (h : w.heap[b]? = some (.cells C tid fr)) : (sortWorldK enc k w b off m d os).heap[b]? = some (.cells (putCells id off (flatK enc k d) C) tid fr) := by
 have hb : b < w.heap.size := (Array.getElem?_eq_some_iff.1 h).1
 unfold sortWorldK grow putRowK putRow mapBlock Sort.ahead
 dsimp only
 rw [Array.getElem?_append_left (by simpa using hb), Array.getElem?_modify, if_pos rfl, h]
 rfl
theorem sw_size : w.heap.size ≤ (sortWorldK enc k w b off m d os).heap.size := by
 unfold sortWorldK grow putRowK putRow mapBlock Sort.ahead
 simp
theorem sw_kept {G : Foot} (hG : G b) : Kept G w (sortWorldK enc k w b off m d os) :=
 ⟨rfl, rfl, rfl, sw_size enc k b off m d os, fun j hj hn => sw_other enc k b off m d os hj fun e => hn (e ▸ hG)⟩
end
theorem res_i64 {r : Int} {rv : List Value} (h : ResVals w O [(.int .i64, .z)] [] (r, ()) rv) : valOf rv = .int .i64 r := by
 obtain ⟨v, vs', cs, rfl, hv, hr, rfl⟩ := h
 have e1 : cs = [v] := hv
 have e2 : cs = [.int .i64 r] := hr.1
 rw [e1] at e2
 exact (List.cons.inj e2).1
theorem cmp_ok0 {g : FuncId} {e : Ty} {F : Args [.ro e, .ro e] → Option (Int × Unit)} (Q : QuietOk P g ⟨[.ro e, .ro e], [(.int .i64, .z)], F⟩) : CmpOk P g e [] (fun x y _ => (F (x, y, ())).map (·.1)) := by
 refine ⟨Q.1, fun w O x y vx vy cx cy xs cv z hO h1 h2 h3 h4 hp hz => ?_⟩
 obtain ⟨r, hr, rfl⟩ := Option.map_eq_some_iff.1 hz
 have hp : cv = [] := hp
 subst hp
 refine (Q.2 w O (x, y, ()) [vx, vy] r hO ⟨vx, _, cx, rfl, h1, h2, vy, _, cy, rfl, h3, h4, rfl⟩ hr).mono ?_
 rintro _ w' ⟨rv, rfl, K, hv⟩
 exact ⟨congrArg _ (res_i64 hv), K⟩
theorem cmp_ok1 {g : FuncId} {e t : Ty} {F : Args [.ro e, .ro e, .rp t] → Option (Int × Unit)} (Q : QuietOk P g ⟨[.ro e, .ro e, .rp t], [(.int .i64, .z)], F⟩) : CmpOk P g e [t] (fun x y xs => (F (x, y, xs.1, ())).map (·.1)) := by
 refine ⟨Q.1, fun w O x y vx vy cx cy xs cv z hO h1 h2 h3 h4 hp hz => ?_⟩
 obtain ⟨r, hr, rfl⟩ := Option.map_eq_some_iff.1 hz
 obtain ⟨v, vs, rfl, h5, rfl⟩ := hp
 refine (Q.2 w O (x, y, xs.1, ()) [vx, vy, v] r hO ⟨vx, _, cx, rfl, h1, h2, vy, _, cy, rfl, h3, h4, v, _, rfl, h5, rfl⟩ hr).mono ?_
 rintro _ w' ⟨rv, rfl, K, hv⟩
 exact ⟨congrArg _ (res_i64 hv), K⟩
theorem sort_core {ρ : Ren} (L : SlLaysF0.n6 P ρ) {e : Ty} {g : FuncId} {ts : List Ty} {G : e.den → e.den → Tup ts → Option Int} (he : e.agg = true)
  (aE : ∀ w, (isAgg (ρ.t 24)).run P w = .ok true w) (zE : ∀ w, (Go.sizeOf (ρ.t 24)).run P w = .ok e.size w) (C : CmpOk P g e ts G)
  {x : List e.den} {xs : Tup ts} {cv : List Value} {b off cap : Nat} {Cb : Array Value} {tid : TypeId} {fr : Nat × Nat} {F' : Foot} (h0 : 0 < x.length) (hlim : x.length ≤ lim)
  (hcmp : ∀ i j : Fin x.length, G x[i] x[j] xs = some (cmpAt (fun x y => G x y xs) x i j)) (hswo : SWO (ltOf (cmpAt (fun x y => G x y xs) x))) (hp : PtrsOk w O ts xs cv)
  (hcap : x.length ≤ cap) (hb : w.heap[b]? = some (.cells Cb tid fr)) (hfr : ∀ i, i < Cb.size → ¬ (fr.1 ≤ i ∧ i < fr.2)) (hsz : off + cap * e.size ≤ Cb.size)
  (hels : Els (Rep w O e .z) x ((Cb.toList.drop off).take (x.length * e.size)) F') (hOb : O b) :
  haveI : Inhabited (Fin x.length) := ⟨⟨0, h0⟩⟩
  Calls P (ρ.f 6) #[.slice (some ⟨b, off, none⟩) x.length cap, .func (.func g) #[] cv.toArray] w fun r w' => r = .returned (.tuple #[]) ∧ Kept (fun c => c = b) w w' ∧
   ∃ C', w'.heap[b]? = some (.cells C' tid fr) ∧ C'.size = Cb.size ∧ ∀ O', (∀ c, c < w.heap.size → ¬ O c → ¬ O' c) →
    Els (Rep w' O' e .z) ((pdq (ltOf (cmpAt (fun x y => G x y xs) x)) (Array.ofFn id : Array (Fin x.length)) 0 x.length (Lib.bitLen x.length) true true).toList.map fun i => x[i]) ((C'.toList.drop off).take (x.length * e.size)) Foot.none := by
 letI : Inhabited (Fin x.length) := ⟨⟨0, h0⟩⟩
 have hlen := fun (y : e.den) (c : List Value) (F : Foot) (h : Rep w O e .z y c F) => h.len
 obtain ⟨cs, hcs⟩ : ∃ cs, (Cb.toList.drop off).take (x.length * e.size) = cs := ⟨_, rfl⟩
 rw [hcs] at hels
 obtain ⟨enc, henc⟩ : ∃ enc : Fin x.length → List Value, enc = fun i => (cs.drop (i.val * e.size)).take e.size := ⟨_, rfl⟩
 have hE : ∀ i, Rep w O e .z x[i] (enc i) Foot.none := fun i => by
  rw [henc]
  exact hels.at_ hlen (fun _ _ _ h => Rep.zN _ _ _ h) (by simp)
 have hk : ∀ i, (enc i).length = e.size := fun i => (hE i).len
 have h1 : ∀ i, ∀ v ∈ enc i, v.oneCell' = true := fun i => Rep.ones rfl (hE i)
 have hbw : b < w.heap.size := (Array.getElem?_eq_some_iff.1 hb).1
 have hfull : off + x.length * e.size ≤ Cb.size := by have := Nat.mul_le_mul_right e.size hcap; omega
 have hget : ∀ t, t < x.length * e.size → Cb[off + t]? = cs[t]? := fun t ht => by
  rw [← hcs, List.getElem?_take, if_pos ht, List.getElem?_drop, Array.getElem?_toList]
 have hcsl : cs.length = x.length * e.size := by rw [← hcs]; simp; omega
 have henc2 : ∀ i : Fin x.length, ∀ c, c < e.size → (enc i)[c]! = cs[i.val * e.size + c]! := fun i c hc => by
  rw [henc]
  simp only [List.getElem!_eq_getElem?_getD, List.getElem?_take, if_pos hc, List.getElem?_drop]
 have dv : ∀ t, t < x.length * e.size → t / e.size < x.length := fun t ht => Nat.div_lt_of_lt_mul (by rw [Nat.mul_comm]; exact ht)
 have hH : HoldsK enc e.size w b off (Array.ofFn (id : Fin x.length → Fin x.length)) := by
  intro t ht
  have ht : t < x.length * e.size := by simpa using ht
  have hpos : 0 < e.size := by
   rcases Nat.eq_zero_or_pos e.size with h | h
   ·rw [h] at ht; omega
   ·exact h
  have hq := dv t ht
  rw [get_flatK _ _ _ _ (by simpa using ht)]
  have e1 : (Array.ofFn (id : Fin x.length → Fin x.length))[t / e.size]! = ⟨t / e.size, hq⟩ := by
   rw [getElem!_pos _ _ (by simpa using hq)]; simp
  rw [e1, henc2 _ _ (Nat.mod_lt _ hpos), Nat.div_add_mod']
  constructor
  ·unfold World.cell?
   simp only [hb]
   rw [if_neg (by simp), hget t ht]
   rw [List.getElem!_eq_getElem?_getD, List.getElem?_eq_getElem (by omega)]; rfl
  ·unfold World.frozen?
   simp only [hb]
   have := hfr (off + t) (by omega)
   simpa using this
 have eg : ∀ args w, (callFunc g args).run P w = .ok (.enter g args) w := fun args w => by
  obtain ⟨fn, f1, f2, f3⟩ := C.1
  exact run_callFunc_enter f1 f2 f3 args w
 have hV : ∀ i, Val e (.agg (enc i).toArray) (enc i) := fun i => by unfold Val; rw [he]
 have hL : CmpLays P g cv.toArray enc e.size (cmpAt (fun x y => G x y xs) x) b off (Array.ofFn (id : Fin x.length → Fin x.length)).size w := by
  intro m os dk hs i j
  have K : Kept (fun c => c = b) w (sortWorldK enc e.size w b off m dk os) := sw_kept enc e.size b off m dk os rfl
  have fr2 : ∀ i, Rep (sortWorldK enc e.size w b off m dk os) Foot.none e .z x[i] (enc i) Foot.none := fun i =>
   Rep.frame K.size (fun c hc hn => K.block c hc fun ho => hn (ho ▸ hOb)) (fun _ h => h.elim) (fun _ _ _ h => h) (fun _ h => h.elim) (hE i)
  refine (calls_up (C.2 _ Foot.none x[i] x[j] _ _ _ _ xs cv _ (fun _ h => h.elim) (hV i) (fr2 i) (hV j) (fr2 j) (hp.kept K fun c hc => hc ▸ hOb) (hcmp i j))).mono ?_
  rintro r w' ⟨⟨rfl, K'⟩, hd⟩
  exact ⟨rfl, K'.grown (hd.resolve_left fun h => by cases h)⟩
 have main := AnyQ.slices_SortFunc_eq L e.size aE zE enc hk h1 _ hswo g cv.toArray b off cap (Array.ofFn (id : Fin x.length → Fin x.length)) w eg hL hH hbw (by simp [lim] at hlim ⊢; omega)
 rw [Array.size_ofFn] at main
 refine main.mono ?_
 rintro r w' ⟨rfl, m, os, rfl⟩
 obtain ⟨d', hd'⟩ : ∃ d', pdq (ltOf (cmpAt (fun x y => G x y xs) x)) (Array.ofFn id : Array (Fin x.length)) 0 x.length (Lib.bitLen x.length) true true = d' := ⟨_, rfl⟩
 rw [hd']
 have hds : d'.size = x.length := by
  have := (pdq_sorts (ltOf (cmpAt (fun x y => G x y xs) x)) hswo (Array.ofFn id : Array (Fin x.length)) 0 x.length (Lib.bitLen x.length) true true (Nat.zero_le _) (by simp) (Or.inl rfl)).1.1
  rw [hd'] at this
  simpa using this
 refine ⟨rfl, sw_kept enc e.size b off m d' os rfl, _, sw_block enc e.size b off m d' os hb, putCells_size _ _ _, fun O' hO' => ?_⟩
 have K : Kept (fun c => c = b) w (sortWorldK enc e.size w b off m d' os) := sw_kept enc e.size b off m d' os rfl
 refine elsOf (k := e.size) enc (fun i => x[i]) d'.toList _ (by simp [putCells_size, hds]; omega) (fun i d hd c hc => ?_) (fun d _ => ⟨hk d, Rep.frame K.size (fun c hc hn => K.block c hc fun ho => hn (ho ▸ hOb)) (fun _ h => h.elim) hO' (fun _ h => h.elim) (hE d)⟩)
 have hi : i < x.length := by
  have := (List.getElem?_eq_some_iff.1 hd).1
  simpa [hds] using this
 have ht : i * e.size + c < x.length * e.size := by
  have := Nat.mul_le_mul_right e.size (show i + 1 ≤ x.length from hi)
  rw [Nat.succ_mul] at this
  omega
 rw [List.getElem?_take, if_pos ht, List.getElem?_drop, Array.getElem?_toList, putCells_get off _ _ (by simpa [hds] using ht) (by omega), get_flatK _ _ _ _ (by rw [hds]; exact ht)]
 have q1 : (i * e.size + c) / e.size = i := (blk_iff e.size i _ (by omega)).1 ⟨by omega, by omega⟩
 have q2 : (i * e.size + c) % e.size = c := by rw [Nat.mod_eq_sub_div_mul, q1]; omega
 rw [q1, q2]
 have q3 : d'[i]! = d := by
  rw [getElem!_pos _ _ (by omega)]
  rw [Array.getElem?_toList] at hd
  exact (Array.getElem?_eq_some_iff.1 hd).2
 rw [q3, List.getElem!_eq_getElem?_getD, List.getElem?_eq_getElem (by rw [hk]; exact hc)]; rfl
theorem sort_ok {ρ : Ren} (L : SlLaysF0.n6 P ρ) {e : Ty} {g : FuncId} {ts : List Ty} {G : e.den → e.den → Tup ts → Option Int} (he : e.agg = true)
  (aE : ∀ w, (isAgg (ρ.t 24)).run P w = .ok true w) (zE : ∀ w, (Go.sizeOf (ρ.t 24)).run P w = .ok e.size w)
  (hf : ∃ fn, P.funcs[ρ.f 6]? = some fn ∧ fn.body.isSome = true ∧ fn.name ≠ "runtime.NumGoroutine") (C : CmpOk P g e ts G) :
  IoOk P (ρ.f 6) ⟨[.io (.slice e) (.own .z), .st g ts], [], fun ar => (sortF (fun x y => G x y ar.2.1) ar.1).map fun l => (l, ())⟩ := by
 refine ⟨hf, fun w O x v G0 ar vs r hO hrep hargs hF => ?_⟩
 obtain ⟨cv, vs', rfl, hp, rfl⟩ := hargs
 obtain ⟨l', hS, hlr⟩ := Option.map_eq_some_iff.1 hF
 clear hF
 subst hlr
 dsimp only at hS
 unfold sortF at hS
 split at hS
 ·rename_i hc
  obtain ⟨hlim, hcmp, hswo⟩ := hc
  have hown := fun b hb => (hrep.owned b hb).1
  have none_ : x = [] → ∀ a cap, v = .slice a 0 cap → Calls P (ρ.f 6) (v :: [.func (.func g) #[] cv.toArray]).toArray w fun e' w' => ∃ rv G', e' = .returned (valOf rv) ∧ Kept G0 w w' ∧ (∀ b, G' b → G0 b ∨ w.heap.size ≤ b) ∧
    Rep w' (fun b => (O b ∧ ¬ G0 b) ∨ G' b) (.slice e) (.own .z) l' [v] G' ∧ PvAll P w' [] rv := by
   intro hx a cap hv
   subst hx
   have : l' = [] := (Option.some.inj hS).symm
   subst this hv
   refine (AnyF.slices_SortFunc_none L a cap _ w).mono ?_
   rintro _ _ ⟨rfl, rfl⟩
   refine ⟨[], G0, rfl, Kept.refl _ _, fun b hb => .inl hb, ?_, trivial⟩
   exact Rep.frame (Nat.le_refl _) (fun _ _ _ => rfl) (fun _ _ => rfl) (fun b _ hn h => h.elim (fun h => hn h.1) fun h => hn (hown b h)) (fun b hb _ => .inr hb) hrep
  rcases hrep with ⟨hv, hx, hn⟩ | ⟨b, off, cap, Cb, tid, fr, F', hv, hcap, hb, hfr, hsz, hels, hU, hnb, hOb⟩
  ·exact none_ hx none 0 (by simpa using hv)
  ·have hv : v = .slice (some ⟨b, off, none⟩) (asL x).length cap := by simpa using hv
   by_cases h0 : 0 < List.length (α := e.den) x
   ·rw [dif_pos h0] at hS
    have hl' := Option.some.inj hS
    have core := sort_core L he aE zE C (x := x) h0 hlim hcmp hswo hp hcap hb hfr hsz hels hOb
    subst hv
    refine core.mono ?_
    rintro _ w' ⟨rfl, K, C', hb', hsz', hE⟩
    have hF' : ∀ c, ¬ F' c := fun c hc => els_free hels c hc
    have hG0 : ∀ c, G0 c ↔ c = b := fun c => (hU c).trans ⟨fun h => h.resolve_right (hF' c), .inl⟩
    refine ⟨[], G0, rfl, K.mono fun c _ h => (hG0 c).2 h, fun c hc => .inl hc, ?_, trivial⟩
    have hlen' : l'.length = List.length (α := e.den) x := by
     rw [← hl', List.length_map, Array.length_toList]
     have := (@pdq_sorts _ ⟨⟨0, h0⟩⟩ (ltOf (cmpAt (fun x y => G x y ar.1) x)) hswo (Array.ofFn id) 0 (List.length (α := e.den) x) (Lib.bitLen (List.length (α := e.den) x)) true true (Nat.zero_le _) (by simp) (Or.inl rfl)).1.1
     rw [this, Array.size_ofFn]
    have hE := hE (fun c => (O c ∧ ¬ G0 c) ∨ G0 c) (fun c _ hn h => h.elim (fun h => hn h.1) fun h => hn (hown c h))
    rw [hl'] at hE
    refine .inr ⟨b, off, cap, C', tid, fr, Foot.none, ?_, ?_, hb', fun i hi => hfr i (by omega), by omega, ?_, fun k => ⟨fun h => .inl ((hG0 k).1 h), fun h => (hG0 k).2 (h.resolve_right id)⟩, id, .inr ((hG0 b).2 rfl)⟩
    ·rw [show (asL (ioSplit [] e.slice (ios [PM.st g ts]) (l', ())).2).length = (asL x).length from hlen']
    ·rw [show (asL (ioSplit [] e.slice (ios [PM.st g ts]) (l', ())).2).length = (asL x).length from hlen']; exact hcap
    ·rw [show (asL (ioSplit [] e.slice (ios [PM.st g ts]) (l', ())).2).length = (asL x).length from hlen']; exact hE
   ·have hx : x = [] := List.eq_nil_of_length_eq_zero (by omega)
    exact none_ hx _ cap (by rw [hv, hx]; rfl)
 ·cases hS
end Go.V
