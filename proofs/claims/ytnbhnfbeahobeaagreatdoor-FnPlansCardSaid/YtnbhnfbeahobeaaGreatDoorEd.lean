/- An evaluator over the code of the model, on data Cp memory, and the proof that it is right. No condition. -/
import Derived.Test.YtnbhnfbeahobeaaGreatDoorEc
import Derived.Calls
import Derived.RunT
import Derived.Shelf.SlSortCmp.NoneTotal
namespace Go.V
set_option linter.unusedVariables false
set_option linter.unusedSimpArgs false
def fB {α:Type} (d:Nat):Result α->Prop
 |.ok _ w=>d<=w.drawn
 |.halt _ w=>d<=w.drawn
def Py (d:Nat):GStep->Prop
 |.go _ w _ | .comm _ _ _ _ w _ | .spawn _ _ w _ | .count _ w _ | .timer _ _ w _ | .alone _ _ w _ | .newcoro _ _ _ w _ | .coroswitch _ _ _ w _ | .collect _ w _ | .watch _ w _=>d<=w.drawn
 |.ended ..=>True
def qX (d:Nat):Stepped->Prop
 |.next m=>d<=m.world.drawn
 |.ended ..=>True
def yf (d:Nat):Move->Prop
 |.goroutine m _=>d<=m.world.drawn
 |.machine s _=>qX d s
theorem n_ {α:Type}:∀ (a:Ask α) (w:World) (d:Nat),d<=w.drawn->d<=(w.ask a).2.drawn:=by
 intro a;induction a with
 |done a=>intro w d h;exact h
 |ask what range k ih=>
  intro w d h;unfold World.ask;dsimp only;split
  ·exact ih _ _ _ h
  ·exact ih _ _ _ (Nat.le_succ_of_le h)
theorem oa (w:World) (c:Sys) {d:Nat} (h:d<=w.drawn):d<=(w.sys c).2.drawn:=by
 have:=n_ (Kernel.perform c w.os) w d h;unfold World.sys;split
 ·exact h
 ·rename_i e;rw [e] at this;exact this
theorem jw {p:Program} {w:World} {at_:Addr} {u:TypeId} {a:Addr} {v:Value} {b:Bool} {r:World×List Addr} (h:w.viewStore p at_ u a v b = .ok r):r.1.drawn=w.drawn:=by
 unfold World.viewStore at h;simp only [bind,Except.bind,pure,Except.pure,throw,throwThe,MonadExceptOf.throw] at h
 repeat' split at h
 all_goals first | (cases h;done) | (cases h;rfl) | skip
theorem oc {p:Program} {w:World} {a:Addr} {v:Value} {b:Bool} {r:World×List Addr} (h:w.farStore p a v b = .ok r):r.1.drawn=w.drawn:=by
 unfold World.farStore at h;split at h
 ·split at h
  ·rename_i e;cases h;exact jw e
  ·cases h
 ·cases h
theorem du (w:World) (a:Addr) (n:Nat):(w.freeze a n).drawn=w.drawn:=by unfold World.freeze;split<;>rfl
theorem HQ {α:Type} (p:Program):∀ (s:Sem α) (w:World) (es:Array Event) (d:Nat),d<=w.drawn->fB d (s.runT p w es).1:=by
 intro s;induction s with
 |pure a=>intro w es d h;exact h
 |load m a k ih=>
  intro w es d h;unfold Sem.runT;split
  ·exact ih _ _ _ _ h
  ·split
   ·exact ih _ _ _ _ h
   ·exact h
 |store m a v k ih=>
  intro w es d h
  cases v<;>first
   |exact h
   |(simp only [Sem.runT];split;(split;exact h;exact ih _ _ _ h);split;(rename_i e;exact ih _ _ _ (by have:=oc e;dsimp only at this;rw [this];exact h));exact h)
 |new o k ih=>intro w es d h;exact ih _ _ _ _ h
 |shape r k ih=>intro w es d h;exact ih _ _ _ _ h
 |freeze a n k ih=>intro w es d h;exact ih _ _ _ (by rw [du];exact h)
 |frozen a k ih=>intro w es d h;exact ih _ _ _ _ h
 |getObj r k ih=>
  intro w es d h;unfold Sem.runT;split
  ·exact h
  ·exact ih _ _ _ _ h
  ·exact h
 |setObj r o k ih=>
  intro w es d h;unfold Sem.runT;split
  ·exact h
  ·exact ih _ _ _ h
  ·exact h
 |choose q k ih=>
  intro w es d h;unfold Sem.runT;split
  ·exact ih _ _ _ _ h
  ·exact ih _ _ _ _ (Nat.le_succ_of_le h)
 |sys c k ih=>intro w es d h;exact ih _ _ _ _ (oa w c h)
 |program k ih=>intro w es d h;exact ih _ _ _ _ h
 |mark m k ih=>intro w es d h;exact ih _ _ _ h
 |halt x=>intro w es d h;exact h
theorem fC {α:Type} (p:Program) (s:Sem α) (w:World) (d:Nat) (h:d<=w.drawn):fB d (s.run p w):=by
 have:=HQ p s w #[] d h;rwa [Sem.runT_fst] at this
theorem Ej {α:Type} {p:Program} {s:Sem α} {w w':World} {a:α} {d:Nat} (e:s.run p w = .ok a w') (h:d<=w.drawn):d<=w'.drawn:=by
 have:=fC p s w d h;rw [e] at this;exact this
theorem jx {α:Type} {p:Program} {s:Sem α} {w w':World} {es es':Array Event} {a:α} {d:Nat} (e:s.runT p w es=(.ok a w',es')) (h:d<=w.drawn):d<=w'.drawn:=by
 have:=HQ p s w es d h;rw [e] at this;exact this
theorem dw {α:Type} {p:Program} {s:Sem α} {w w':World} {es es':Array Event} {a:Halt} {d:Nat} (e:s.runT p w es=(.halt a w',es')) (h:d<=w.drawn):d<=w'.drawn:=by
 have:=HQ p s w es d h;rw [e] at this;exact this
theorem J_ (d:Nat) (es:Array Event) (s:GStep):Py d (GStep.after es s)↔Py d s:=by cases s<;>exact Iff.rfl
theorem UP {c:Prop} [Decidable c] {a b:GStep} {d:Nat} (ha:Py d a) (hb:Py d b):Py d (if c then a else b):=by
 split
 ·exact ha
 ·exact hb
theorem jy {β:Type} {o:Option β} {a:GStep} {f:β->GStep} {d:Nat} (ha:Py d a) (hf:∀ x,Py d (f x)):Py d (o.elim a f):=by
 cases o
 ·exact ha
 ·exact hf _
theorem Ka {α:Type} {p:Program} {s:Sem α} {w w':World} {es:Array Event} {a:α} {d:Nat} (e:(s.runT p w es).1 = .ok a w') (h:d<=w.drawn):d<=w'.drawn:=by
 have:=HQ p s w es d h;rw [e] at this;exact this
theorem Rg {α:Type} {p:Program} {s:Sem α} {w w':World} {es:Array Event} {a:Halt} {d:Nat} (e:(s.runT p w es).1 = .halt a w') (h:d<=w.drawn):d<=w'.drawn:=by
 have:=HQ p s w es d h;rw [e] at this;exact this
theorem fD {fr:Frame} {a:List ByteArray} {m:String} {b:Bool} {w:World} {d:Nat} (h:d<=w.drawn):Py d (dieOf fr a m b w):=h
theorem Kb {fr:Frame} {m:String} {w:World} {d:Nat} (h:d<=w.drawn):Py d (endThrow fr m w):=h
theorem Kc {p:Program} {fr:Frame} {v:Value} {w:World} {d:Nat} (h:d<=w.drawn):Py d (endPrinting p fr v w):=by
 unfold endPrinting;dsimp only;split
 ·exact h
 ·trivial
theorem Zu {w:World} {fd:Nat} {t:ByteArray} {o:Outcome} {d:Nat}:Py d (endWith w fd t o):=by
 unfold endWith;dsimp only;split
 ·split<;>trivial
 ·trivial
 ·trivial
theorem OX {p:Program} {fr:Frame} {cs:List Frame} {dy:Option Dying} {m:String} {w:World} {d:Nat} (h:d<=w.drawn):Py d (endFatal p fr cs dy m w):=by
 unfold endFatal;dsimp only;split
 ·rename_i e;exact fD (Ej e h)
 ·trivial
 ·trivial
theorem Kd {p:Program} {main:Bool} {fr:Frame} {cs:List Frame} {dy:Option Dying} {v:Value} {w:World} {d:Nat} (h:d<=w.drawn):Py d (doReturn p main fr cs dy v w):=by
 unfold doReturn
 repeat' first
  |exact h
  |trivial
  |split
theorem Zv {p:Program} {fr:Frame} {dy:Dying} {f:Fatal} {w:World} {d:Nat} (h:d<=w.drawn):Py d (writeOn p fr dy f w):=by
 unfold writeOn;dsimp only;split
 ·trivial
 ·split
  ·rename_i e;exact jx e h
  ·rename_i e;exact dw e h
  ·trivial
  ·trivial
theorem od {p:Program} {fr:Frame} {dy:Dying} {w:World} {d:Nat} (h:d<=w.drawn):Py d (die p fr dy w):=by
 unfold die;split
 ·exact Zv h
 ·split
  ·split
   ·exact h
   ·exact Zu
  ·dsimp only;split
   ·exact h
   ·split
    ·rename_i e;exact Ej e h
    ·trivial
   ·rename_i t recv name _;have hr:=HQ p (invoke (.fn (.method name) #[]) #[.iface t recv]) w #[] d h;rw [J_];split
    ·rename_i e;rw [e] at hr;exact hr
    ·rename_i e;rw [e] at hr;exact hr
    ·trivial
    ·rename_i e;rw [e] at hr;exact Kc hr
    ·trivial
   ·trivial
theorem Pz {p:Program} {fr:Frame} {cs:List Frame} {dy:Option Dying} {df:Deferred} {w:World} {d:Nat} (h:d<=w.drawn):Py d (callDeferred p fr cs dy df w):=by
 unfold callDeferred;refine UP trivial ?_;have hr:=HQ p (invoke df.target df.args) w #[] d h;generalize (invoke df.target df.args).runT p w #[]=x at hr ⊢;obtain ⟨r,es⟩:=x;dsimp only at hr ⊢;rw [J_];split
 all_goals first
  |exact hr
  |trivial
  |exact OX hr
  |exact Kb hr
  |(split<;>exact hr)
theorem fE {p:Program} {fr:Frame} {cs:List Frame} {dy:Option Dying} {g:Nat} {w:World} {d:Nat} (h:d<=w.drawn):Py d (early p fr cs dy g w):=by
 have nY:∀ w:World,d<=w.drawn->Py d (match w.heap[g]? with
  |some (.pending c elem)=>.go {frame:=fr,callers:=cs,status:=.running,dying:=dy} {w with heap:=w.heap.setIfInBounds g (.cells c elem)}
  | _ => .ended (.stuck "early: the variable does not wait" (fr.pos p)) w) := by
  intro w h;split
  ·exact h
  ·trivial
 unfold early;dsimp only
 repeat' first
  |exact nY _ h
  |exact h
  |trivial
  |(rename_i e;exact nY _ (Ej e h))
  |(rename_i e;exact Ej e h)
  |(rename_i e _;exact Ej e h)
  |split
theorem Rh {p:Program} {l:Bool} {fr:Frame} {cs:List Frame} {dy:Option Dying} {s:Sem Next} {w:World} {d:Nat} (h:d<=w.drawn):Py d (stepG.apply p l fr cs dy s w):=by
 unfold stepG.apply;dsimp only;rw [J_]
 have hr:fB d (if l then s.runT p w #[] else (s.run p w,#[])).1:=by
  cases l
  ·exact fC p s w d h
  ·exact HQ p s w #[] d h
 generalize (if l then s.runT p w #[] else (s.run p w,#[])).1=r at hr;split
 all_goals first
  |exact hr
  |trivial
  |exact OX hr
  |exact Kb hr
  |exact fE hr
  |exact UP (Kb hr) hr
  |(split<;>exact hr)
theorem jz {p:Program} {l:Bool} {fr:Frame} {cs:List Frame} {dy:Option Dying} {w:World} {d:Nat} (h:d<=w.drawn):Py d (stepG.oper p l fr cs dy w):=by
 unfold stepG.oper;split
 ·trivial
 ·split<;>exact Rh h
theorem j0 {p:Program} {main l:Bool} {fr:Frame} {cs:List Frame} {dy:Option Dying} {w:World} {d:Nat} (h:d<=w.drawn):Py d (stepG.exec p main l fr cs dy w):=by
 unfold stepG.exec;dsimp only;split
 all_goals repeat' first
  |exact h
  |trivial
  |exact Rh h
  |exact jz h
  |rw [J_]
  |refine UP ?_ ?_
  |refine jy ?_ fun _=>?_
  |(rename_i e;exact Kd (Ka e h))
  |(rename_i e;exact Rh (Ka e h))
  |(rename_i e;exact Ej e h)
  |(rename_i e;exact Ka e h)
  |(rename_i e;exact Rg e h)
  |split
theorem dz {p:Program} {main:Bool} {fr:Frame} {cs:List Frame} {dy:Option Dying} {w:World} {d:Nat} (h:d<=w.drawn):Py d (unwind p main fr cs dy w):=by
 unfold unwind
 repeat' first
  |exact h
  |trivial
  |exact Pz h
  |exact Kc h
  |exact Kd h
  |dsimp only
  |rw [J_]
  |refine UP ?_ ?_
  |(rename_i e;exact Kd (Ka e h))
  |(rename_i e;exact Ej e h)
  |(rename_i e;exact Ka e h)
  |(rename_i e;exact Rg e h)
  |split
theorem fF {p:Program} {main l:Bool} {g:Goroutine} {w:World} {d:Nat} (h:d<=w.drawn):Py d (stepG p main g w l):=by
 unfold stepG;split
 ·split
  ·exact od h
  ·exact j0 h
  ·exact dz h
end Go.V
namespace Go.V
set_option linter.unusedVariables false
set_option linter.unusedSimpArgs false
theorem Ri {p:Program} {rest:Rest} {gs:Array Goroutine} {i:Nat} {g:Goroutine} {cases:Array CommCase} {blocking:Bool}
  {shape:CommShape} {w:World} {d:Nat} (h:d<=w.drawn):qX d (communicate p rest gs i g cases blocking shape w).1:=by
 have hw:∀ w',waitingAt rest cases w=some w' ->d<=w'.drawn:=by
  intro w' e;unfold waitingAt at e;split at e
  ·split at e
   ·cases e;exact h
   ·cases e
  ·cases e;exact h
 unfold communicate;dsimp only
 repeat' first
  |exact h
  |trivial
  |(rename_i e;exact hw _ e)
  |(rename_i e;exact Ej e h)
  |(rename_i e;have h:=Ej e h)
  |(rename_i e _ _;have h:=Ej e h)
  |split
theorem UQ {p:Program} {gs:Array Goroutine} {rest:Rest} {w:World} {d:Nat} (h:d<=w.drawn):qX d (Go.look p gs rest w):=by
 unfold Go.look;split
 ·dsimp only;split
  ·trivial
  ·split
   ·trivial
   ·split
    ·rename_i e;have:=Ej e h;exact this
    ·trivial
    ·trivial
 ·trivial
theorem fG {w:World} {c:Nat}:(drain w c).2.drawn=w.drawn:=by
 unfold drain;split<;>rfl
theorem TA {m:Machine} {k:Nat} {t:Timer} {a b:Nat}:(retime m k t a b).2.world.drawn=m.world.drawn:=by
 unfold retime;split;rename_i e;show _=_;split at e
 ·have:=congrArg (·.2.drawn) e;dsimp only at this ⊢;rw [<-this,fG]
 ·cases e;rfl
theorem Xq {m m':Machine} {var:Addr} {f:Nat->Timer->Value×Machine} {v:Value} {d:Nat} (hf:∀ k t,(f k t).2.world.drawn=d) (e:timerOp.named m var f = .ok (v,m')):m'.world.drawn=d:=by
 unfold timerOp.named at e;split at e
 ·have e:=Except.ok.inj e;have h2:=congrArg (fun x:Value×Machine=>x.2.world.drawn) e;exact h2.symm.trans (hf _ _)
 ·cases e
theorem Zw {m:Machine} {op:TimerOp} {v:Value} {m':Machine} (e:timerOp m op = .ok (v,m')):m'.world.drawn=m.world.drawn:=by
 cases op with
 |new t=>
  simp only [timerOp] at e
  repeat' first
   |(cases e;rfl)
   |(cases e;done)
   |split at e
 |stop var=>exact Xq (fun _ _=>TA) e
 |reset var a b=>
  simp only [timerOp] at e;split at e
  ·rename_i m1 e1
   have:m1.world.drawn=m.world.drawn:=by
    unfold timerOp.opened at e1
    repeat' first
     |(cases e1;rfl)
     |(cases e1;done)
     |split at e1
   exact Xq (fun _ _=>TA.trans this) e
  ·cases e
 |deadline c r wr a=>simp only [timerOp] at e;cases e;rfl
theorem fH {p:Program} {m:Machine} {i:Nat} {b:Bool} {d:Nat} (h:d<=m.world.drawn):qX d (runT p m i b).1:=by
 simp only [runT];generalize m.gs.swapAt! _ _=gg;have hs:Py d (stepG p (i==0) gg.1 m.world b):=fF h;generalize stepG p _ gg.1 m.world b=s at hs;cases s;all_goals dsimp only
 all_goals repeat' first
  |exact hs
  |trivial
  |exact Ri hs
  |exact UQ hs
  |(rename_i m1 e;have e2:=Zw e;exact (show d<=m1.world.drawn from e2▸hs))
  |split
theorem Xr {p:Program} {m:Machine} {k:Nat} {d:Nat} (h:d<=m.world.drawn):qX d (serve p m k):=by
 unfold serve
 repeat' first
  |exact h
  |trivial
  |dsimp only
  |split
theorem Rj {p:Program} {m:Machine} {d:Nat} (h:d<=m.world.drawn):yf d (askOn p m):=by
 unfold askOn;dsimp only
 repeat' first
  |exact h
  |trivial
  |exact Xr h
  |(rename_i e;have h:=Ej e h;exact h)
  |(rename_i e;have h:=Ej e h;exact Xr h)
  |(rename_i e;have h:=Ej e h)
  |split
theorem jA {p:Program} {m:Machine} {d:Nat} (h:d<=m.world.drawn):yf d (ask p m):=by
 unfold ask;split
 ·split
  ·trivial
  ·rename_i e;have h:=Ej e h;split
   ·rename_i e2;have:=UQ (p:=p) (gs:=m.gs) (rest:=m.rest) h;rw [e2] at this;exact Rj this
   ·rename_i e2;exact UQ h
  ·rename_i e;exact Rj (Ej e h)
 ·exact Rj h
theorem jB {p:Program} {m:Machine} {d:Nat} (h:d<=m.world.drawn):yf d (move p m):=by
 unfold move
 repeat' first
  |exact h
  |trivial
  |exact jA h
  |split
theorem jC {p:Program} {m m':Machine} (e:step p m = .next m'):m.world.drawn<=m'.world.drawn:=by
 have:qX m.world.drawn (step p m):=by
  unfold step stepT;have:=jB (p:=p) (Nat.le_refl m.world.drawn);split
  ·rename_i e;rw [e] at this;exact fH this
  ·rename_i e;rw [e] at this;exact this
 rw [e] at this;exact this
theorem UR {p:Program}:∀ {n:Nat} {m m':Machine},runN p n m = .next m' ->m.world.drawn<=m'.world.drawn
 |0,m,m',e=>by cases e;exact Nat.le_refl _
 |n+1,m,m',e=>by
  unfold runN at e;split at e
  ·rename_i e1;exact Nat.le_trans (jC e1) (UR e)
  ·rename_i h1;exact absurd e (by intro e;exact h1 _ e)
theorem fI {P:Program} {f:FuncId} {args:Array Value} {w:World} {R:Ending->World->Prop} (h:Calls P f args w R) :
  Calls P f args w fun e w' =>R e w' /\(e = .outgrown\/w.drawn<=w'.drawn):=by
 intro cs;obtain ⟨e,w',fr,hr,hc,hf,hl⟩:=h cs;refine ⟨e,w',fr,⟨hr,?_⟩,hc,hf,hl⟩;cases e with
 |outgrown=>exact .inl rfl
 |returned v=>obtain ⟨n,hn⟩:=hc;exact .inr (UR hn)
 |panicked c=>obtain ⟨n,hn⟩:=hc;exact .inr (UR hn)
end Go.V
namespace Go.V
open Go.Sort Go.Proofs Go.Shelf
set_option linter.unusedVariables false
variable {P:Program} {w w':World} {O O':Ab}
theorem AF.grown (K:AF Ab.none w w') (h:w.drawn<=w'.drawn):∃ q os,w'=grow (w.drewN q) os:=by
 refine ⟨w'.drawn-w.drawn,w'.heap.extract w.heap.size w'.heap.size,?_⟩;obtain ⟨heap,tape,drawn,os,output⟩:=w;obtain ⟨heap',tape',drawn',os',output'⟩:=w';have k1:os'=os:=K.os;have k2:tape'=tape:=K.tape;have k3:output'=output:=K.output;have k4:heap.size<=heap'.size:=K.size;have k5:=K.block;subst k1 k2 k3;dsimp only at h;have e1:drawn'=drawn+(drawn'-drawn):=by omega
 have e2:heap'=heap++heap'.extract heap.size heap'.size:=by
  apply Array.ext_getElem?;intro i;by_cases hi:i<heap.size
  ·rw [Array.getElem?_append_left hi];exact k5 i hi fun h=>h
  ·rw [Array.getElem?_append_right (by omega),Array.getElem?_extract];by_cases h2:i<heap'.size
   ·rw [if_pos (by omega)];congr 1;omega
   ·rw [if_neg (by omega),Array.getElem?_eq_none (by omega)]
 unfold grow World.drewN;rw [<-e1,<-e2]
theorem n3 {α β:Type} {R:β->List Value->Ab->Prop} {k:Nat} (enc:α->List Value) (f:α->β):∀ (ds:List α) (cells:List Value),cells.length=ds.length*k->
  (∀ i d,ds[i]? = some d->∀ c,c<k->cells[i*k+c]? = (enc d)[c]?)->(∀ d,d∈ds->(enc d).length=k/\R (f d) (enc d) Ab.none)->Els R (ds.map f) cells Ab.none
 |[],cells,hl,_,_=>by
  have:cells=[]:=by simpa using hl
  subst this;exact ⟨rfl,fun _ h=>h⟩
 |d::ds,cells,hl,hc,hr=>by
  obtain ⟨h1,h2⟩:=hr d (by simp);have hl':cells.length=ds.length*k+k:=by rw [hl,Aja,Nat.succ_mul]
  refine ⟨cells.take k,cells.drop k,Ab.none,Ab.none,(List.take_append_drop k cells).symm,?_,n3 enc f ds (cells.drop k) (by simp;omega) (fun i d' hd c hck=>?_) (fun d hd=>hr d (by simp [hd])),fun _=>by simp [Ab.none],fun _ h=>h.1⟩
  ·have:cells.take k=enc d:=by
    apply List.ext_getElem?;intro c;by_cases hck:c<k
    ·rw [List.getElem?_take,if_pos hck];have:=hc 0 d (by simp) c hck;simpa using this
    ·rw [List.getElem?_take,if_neg hck,List.getElem?_eq_none (by omega)]
   rw [this];exact h2
  ·rw [List.getElem?_drop];have:=hc (i+1) d' (by simpa using hd) c hck;rw [<-this];congr 1;rw [Nat.succ_mul];omega
theorem Els.at_ {β:Type} {R:β->List Value->Ab->Prop} {sz:Nat} (hR:∀ x c F,R x c F->c.length=sz) (hN:∀ x c F,R x c F->R x c Ab.none) {xs:List β} {cs:List Value} {F:Ab} (h:Els R xs cs F) {i:Nat} {x:β} (hx:xs[i]? = some x) :
  R x ((cs.drop (i*sz)).take sz) Ab.none:=by
 obtain ⟨_,F',h1,_⟩:=Els.pick hR h hx;exact hN _ _ _ h1
def Gy {α:Type} (G:α->α->Option Int) (l:List α) (i j:Fin l.length):Int:=(G l[i] l[j]).getD 0
open Classical in
noncomputable def TB {α:Type} (G:α->α->Option Int) (l:List α):Option (List α):=
 if h:l.length<=A_/\(∀ i j:Fin l.length,G l[i] l[j]=some (Gy G l i j))/\SWO (ltOf (Gy G l)) then
  if h0:0<l.length then
   haveI:Inhabited (Fin l.length):=⟨⟨0,h0⟩⟩
   some ((pdq (ltOf (Gy G l)) (Array.ofFn id:Array (Fin l.length)) 0 l.length (Lib.bitLen l.length) true true).toList.map fun i=>l[i])
  else some []
 else none
def fJ (P:Program) (g:FuncId) (e:Ty) (ts:List Ty) (G:e.den->e.den->CB ts->Option Int):Prop:=
 (∃ fn, P.funcs[g]? = some fn /\ fn.body.isSome = true /\ fn.name ≠ "runtime.NumGoroutine") /\
 ∀ (w:World) (O:Ab) (x y:e.den) (vx vy:Value) (cx cy:List Value) (xs:CB ts) (cv:List Value) z,(∀ b,O b->b<w.heap.size)->C_ e vx cx->Rep w O e .z x cx Ab.none->C_ e vy cy->Rep w O e .z y cy Ab.none->EC w O ts xs cv->G x y xs=some z->
  Calls P g (#[vx,vy]++cv.toArray) w fun r w' =>r = .returned (.int .i64 z)/\AF Ab.none w w'
theorem US (off:Nat) (F C:Array Value) {t:Nat} (h:t<F.size) (hc:off+t<C.size):(putCells id off F C)[off+t]? = some F[t]!:=by
 simp only [putCells,Array.getElem?_mapIdx,Array.getElem?_eq_getElem hc,Option.map_some];rw [if_pos ⟨by omega,by omega⟩,show off+t-off=t by omega];rfl
theorem Lp (off:Nat) (F C:Array Value):(putCells id off F C).size=C.size:=by simp [putCells]
section
variable {α:Type} [Inhabited α] (enc:α->List Value) (k:Nat) (b off m:Nat) (d:Array α) (os:Array Obj)
theorem fL {j:Nat} (hj:j<w.heap.size) (hb:j≠b):(sortWorldK enc k w b off m d os).heap[j]? = w.heap[j]?:=by
 unfold sortWorldK grow putRowK putRow mapBlock Sort.ahead;dsimp only;rw [Array.getElem?_append_left (by simpa using hj),Array.getElem?_modify,if_neg fun h=>hb h.symm]
theorem fM {C:Array Value} {tid:TypeId} {fr:Nat×Nat} (h:w.heap[b]? = some (.cells C tid fr)):(sortWorldK enc k w b off m d os).heap[b]? = some (.cells (putCells id off (flatK enc k d) C) tid fr):=by
 have hb:b<w.heap.size:=(Array.getElem?_eq_some_iff.1 h).1;unfold sortWorldK grow putRowK putRow mapBlock Sort.ahead;dsimp only;rw [Array.getElem?_append_left (by simpa using hb),Array.getElem?_modify,if_pos rfl,h];rfl
theorem jD:w.heap.size<=(sortWorldK enc k w b off m d os).heap.size:=by
 unfold sortWorldK grow putRowK putRow mapBlock Sort.ahead;simp
theorem UT {G:Ab} (hG:G b):AF G w (sortWorldK enc k w b off m d os):=
 ⟨rfl,rfl,rfl,jD enc k b off m d os,fun j hj hn=>fL enc k b off m d os hj fun e=>hn (e▸hG)⟩
end
theorem jE {r:Int} {rv:List Value} (h:Bc w O [(.int .i64,.z)] [] (r,()) rv):CY rv = .int .i64 r:=by
 obtain ⟨v,vs',cs,rfl,hv,hr,rfl⟩:=h;have e1:cs=[v]:=hv;have e2:cs=[.int .i64 r]:=hr.1;rw [e1] at e2;exact (List.cons.inj e2).1
theorem jF {g:FuncId} {e t:Ty} {F:Args [.ro e,.ro e,.rp t]->Option (Int×Unit)} (Q:Aa P g ⟨[.ro e,.ro e,.rp t],[(.int .i64,.z)],F⟩):fJ P g e [t] (fun x y xs=>(F (x,y,xs.1,())).map (·.1)):=by
 refine ⟨Q.1,fun w O x y vx vy cx cy xs cv z hO h1 h2 h3 h4 hp hz=>?_⟩;obtain ⟨r,hr,rfl⟩:=Option.map_eq_some_iff.1 hz;obtain ⟨v,vs,rfl,h5,rfl⟩:=hp;refine (Q.2 w O (x,y,xs.1,()) [vx,vy,v] r hO ⟨vx,_,cx,rfl,h1,h2,vy,_,cy,rfl,h3,h4,v,_,rfl,h5,rfl⟩ hr).mono ?_;rintro _ w' ⟨rv,rfl,K,hv⟩;exact ⟨congrArg _ (jE hv),K⟩
theorem d5 {ρ:Ren} (L:SlLaysF0.n6 P ρ) {e:Ty} {g:FuncId} {ts:List Ty} {G:e.den->e.den->CB ts->Option Int} (he:e.agg=true)
  (aE:∀ w,(isAgg (ρ.t 24)).run P w = .ok true w) (zE:∀ w,(Go.sizeOf (ρ.t 24)).run P w = .ok e.size w) (C:fJ P g e ts G)
  {x:List e.den} {xs:CB ts} {cv:List Value} {b off cap:Nat} {Cb:Array Value} {tid:TypeId} {fr:Nat×Nat} {F':Ab} (h0:0<x.length) (hlim:x.length<=A_)
  (hcmp:∀ i j:Fin x.length,G x[i] x[j] xs=some (Gy (fun x y=>G x y xs) x i j)) (hswo:SWO (ltOf (Gy (fun x y=>G x y xs) x))) (hp:EC w O ts xs cv)
  (hcap:x.length<=cap) (hb:w.heap[b]? = some (.cells Cb tid fr)) (hfr:∀ i,i<Cb.size->¬(fr.1<=i/\i<fr.2)) (hsz:off+cap*e.size<=Cb.size)
  (hels:Els (Rep w O e .z) x ((Cb.toList.drop off).take (x.length*e.size)) F') (hOb:O b) :
  haveI:Inhabited (Fin x.length):=⟨⟨0,h0⟩⟩
  Calls P (ρ.f 6) #[.slice (some ⟨b,off,none⟩) x.length cap,.func (.func g) #[] cv.toArray] w fun r w' =>r = .returned (.tuple #[])/\AF (fun c=>c=b) w w' /\
   ∃ C',w'.heap[b]? = some (.cells C' tid fr)/\C'.size=Cb.size/\∀ O',(∀ c,c<w.heap.size->¬O c->¬O' c)->
    Els (Rep w' O' e .z) ((pdq (ltOf (Gy (fun x y=>G x y xs) x)) (Array.ofFn id:Array (Fin x.length)) 0 x.length (Lib.bitLen x.length) true true).toList.map fun i=>x[i]) ((C'.toList.drop off).take (x.length*e.size)) Ab.none:=by
 letI:Inhabited (Fin x.length):=⟨⟨0,h0⟩⟩;have hlen:=fun (y:e.den) (c:List Value) (F:Ab) (h:Rep w O e .z y c F)=>h.len
 obtain ⟨cs,hcs⟩:∃ cs,(Cb.toList.drop off).take (x.length*e.size)=cs:=⟨_,rfl⟩;rw [hcs] at hels;obtain ⟨enc,henc⟩:∃ enc:Fin x.length->List Value,enc=fun i=>(cs.drop (i.val*e.size)).take e.size:=⟨_,rfl⟩
 have hE:∀ i,Rep w O e .z x[i] (enc i) Ab.none:=fun i=>by
  rw [henc];exact hels.at_ hlen (fun _ _ _ h=>Rep.zN _ _ _ h) (by simp)
 have hk:∀ i,(enc i).length=e.size:=fun i=>(hE i).len
 have h1:∀ i,∀ v∈enc i,v.oneCell'=true:=fun i=>Rep.ones rfl (hE i)
 have hbw:b<w.heap.size:=(Array.getElem?_eq_some_iff.1 hb).1;have hfull:off+x.length*e.size<=Cb.size:=by have:=Nat.mul_le_mul_right e.size hcap;omega
 have hget:∀ t,t<x.length*e.size->Cb[off+t]? = cs[t]?:=fun t ht=>by
  rw [<-hcs,List.getElem?_take,if_pos ht,List.getElem?_drop,Array.getElem?_toList]
 have hcsl:cs.length=x.length*e.size:=by rw [<-hcs];simp;omega
 have henc2:∀ i:Fin x.length,∀ c,c<e.size->(enc i)[c]! = cs[i.val*e.size+c]!:=fun i c hc=>by
  rw [henc];simp only [List.getElem!_eq_getElem?_getD,List.getElem?_take,if_pos hc,List.getElem?_drop]
 have dv:∀ t,t<x.length*e.size->t / e.size<x.length:=fun t ht=>Nat.div_lt_of_lt_mul (by rw [Nat.mul_comm];exact ht)
 have hH:HoldsK enc e.size w b off (Array.ofFn (id:Fin x.length->Fin x.length)):=by
  intro t ht;have ht:t<x.length*e.size:=by simpa using ht
  have hpos:0<e.size:=by
   rcases Nat.eq_zero_or_pos e.size with h | h
   ·rw [h] at ht;omega
   ·exact h
  have hq:=dv t ht;rw [get_flatK _ _ _ _ (by simpa using ht)]
  have e1:(Array.ofFn (id:Fin x.length->Fin x.length))[t / e.size]! = ⟨t / e.size,hq⟩:=by
   rw [getElem!_pos _ _ (by simpa using hq)];simp
  rw [e1,henc2 _ _ (Nat.mod_lt _ hpos),Nat.div_add_mod'];constructor
  ·unfold World.cell?;simp only [hb];rw [if_neg (by simp),hget t ht];rw [List.getElem!_eq_getElem?_getD,List.getElem?_eq_getElem (by omega)];rfl
  ·unfold World.frozen?;simp only [hb];have:=hfr (off+t) (by omega);simpa using this
 have eg:∀ args w,(callFunc g args).run P w = .ok (.enter g args) w:=fun args w=>by
  obtain ⟨fn,f1,f2,f3⟩:=C.1;exact ED f1 f2 f3 args w
 have hV:∀ i,C_ e (.agg (enc i).toArray) (enc i):=fun i=>by unfold C_;rw [he]
 have hL:CmpLays P g cv.toArray enc e.size (Gy (fun x y=>G x y xs) x) b off (Array.ofFn (id:Fin x.length->Fin x.length)).size w:=by
  intro m os dk hs i j;have K:AF (fun c=>c=b) w (sortWorldK enc e.size w b off m dk os):=UT enc e.size b off m dk os rfl
  have fr2:∀ i,Rep (sortWorldK enc e.size w b off m dk os) Ab.none e .z x[i] (enc i) Ab.none:=fun i=>
   Rep.frame K.size (fun c hc hn=>K.block c hc fun ho=>hn (ho▸hOb)) (fun _ h=>h.elim) (fun _ _ _ h=>h) (fun _ h=>h.elim) (hE i)
  refine (fI (C.2 _ Ab.none x[i] x[j] _ _ _ _ xs cv _ (fun _ h=>h.elim) (hV i) (fr2 i) (hV j) (fr2 j) (hp.kept K fun c hc=>hc▸hOb) (hcmp i j))).mono ?_;rintro r w' ⟨⟨rfl,K'⟩,hd⟩;exact ⟨rfl,K'.grown (hd.resolve_left fun h=>by cases h)⟩
 have main:=AnyQ.slices_SortFunc_eq L e.size aE zE enc hk h1 _ hswo g cv.toArray b off cap (Array.ofFn (id:Fin x.length->Fin x.length)) w eg hL hH hbw (by simp [A_] at hlim ⊢;omega);rw [Array.size_ofFn] at main;refine main.mono ?_;rintro r w' ⟨rfl,m,os,rfl⟩;obtain ⟨d',hd'⟩:∃ d',pdq (ltOf (Gy (fun x y=>G x y xs) x)) (Array.ofFn id:Array (Fin x.length)) 0 x.length (Lib.bitLen x.length) true true=d' :=⟨_,rfl⟩;rw [hd']
 have hds:d'.size=x.length:=by
  have:=(pdq_sorts (ltOf (Gy (fun x y=>G x y xs) x)) hswo (Array.ofFn id:Array (Fin x.length)) 0 x.length (Lib.bitLen x.length) true true (Nat.zero_le _) (by simp) (Or.inl rfl)).1.1;rw [hd'] at this;simpa using this
 refine ⟨rfl,UT enc e.size b off m d' os rfl,_,fM enc e.size b off m d' os hb,Lp _ _ _,fun O' hO' =>?_⟩;have K:AF (fun c=>c=b) w (sortWorldK enc e.size w b off m d' os):=UT enc e.size b off m d' os rfl;refine n3 (k:=e.size) enc (fun i=>x[i]) d'.toList _ (by simp [Lp,hds];omega) (fun i d hd c hc=>?_) (fun d _=>⟨hk d,Rep.frame K.size (fun c hc hn=>K.block c hc fun ho=>hn (ho▸hOb)) (fun _ h=>h.elim) hO' (fun _ h=>h.elim) (hE d)⟩)
 have hi:i<x.length:=by
  have:=(List.getElem?_eq_some_iff.1 hd).1;simpa [hds] using this
 have ht:i*e.size+c<x.length*e.size:=by
  have:=Nat.mul_le_mul_right e.size (show i+1<=x.length from hi);rw [Nat.succ_mul] at this;omega
 rw [List.getElem?_take,if_pos ht,List.getElem?_drop,Array.getElem?_toList,US off _ _ (by simpa [hds] using ht) (by omega),get_flatK _ _ _ _ (by rw [hds];exact ht)];have q1:(i*e.size+c) / e.size=i:=(blk_iff e.size i _ (by omega)).1 ⟨by omega,by omega⟩;have q2:(i*e.size+c) % e.size=c:=by rw [Nat.mod_eq_sub_div_mul,q1];omega
 rw [q1,q2]
 have q3:d'[i]! = d:=by
  rw [getElem!_pos _ _ (by omega)];rw [Array.getElem?_toList] at hd;exact (Array.getElem?_eq_some_iff.1 hd).2
 rw [q3,List.getElem!_eq_getElem?_getD,List.getElem?_eq_getElem (by rw [hk];exact hc)];rfl
theorem jG {ρ:Ren} (L:SlLaysF0.n6 P ρ) {e:Ty} {g:FuncId} {ts:List Ty} {G:e.den->e.den->CB ts->Option Int} (he:e.agg=true)
  (aE:∀ w,(isAgg (ρ.t 24)).run P w = .ok true w) (zE:∀ w,(Go.sizeOf (ρ.t 24)).run P w = .ok e.size w)
  (hf : ∃ fn, P.funcs[ρ.f 6]? = some fn /\ fn.body.isSome = true /\ fn.name ≠ "runtime.NumGoroutine") (C : fJ P g e ts G) :
  IoOk P (ρ.f 6) ⟨[.io (.slice e) (.own .z),.st g ts],[],fun ar=>(TB (fun x y=>G x y ar.2.1) ar.1).map fun l=>(l,())⟩:=by
 refine ⟨hf,fun w O x v G0 ar vs r hO hrep hargs hF=>?_⟩;obtain ⟨cv,vs',rfl,hp,rfl⟩:=hargs;obtain ⟨l',hS,hlr⟩:=Option.map_eq_some_iff.1 hF;clear hF;subst hlr;dsimp only at hS;unfold TB at hS;split at hS
 ·rename_i hc;obtain ⟨hlim,hcmp,hswo⟩:=hc;have hown:=fun b hb=>(hrep.owned b hb).1
  have none_:x=[]->∀ a cap,v = .slice a 0 cap->Calls P (ρ.f 6) (v::[.func (.func g) #[] cv.toArray]).toArray w fun e' w' =>∃ rv G',e' = .returned (CY rv)/\AF G0 w w' /\(∀ b,G' b->G0 b\/w.heap.size<=b)/\
    Rep w' (fun b=>(O b/\¬G0 b)\/G' b) (.slice e) (.own .z) l' [v] G' /\Ix P w' [] rv:=by
   intro hx a cap hv;subst hx;have:l'=[]:=(Option.some.inj hS).symm;subst this hv;refine (AnyF.slices_SortFunc_none L a cap _ w).mono ?_;rintro _ _ ⟨rfl,rfl⟩;refine ⟨[],G0,rfl,AF.refl _ _,fun b hb=>.inl hb,?_,trivial⟩;exact Rep.frame (Nat.le_refl _) (fun _ _ _=>rfl) (fun _ _=>rfl) (fun b _ hn h=>h.elim (fun h=>hn h.1) fun h=>hn (hown b h)) (fun b hb _=>.inr hb) hrep
  rcases hrep with ⟨hv,hx,hn⟩ | ⟨b,off,cap,Cb,tid,fr,F',hv,hcap,hb,hfr,hsz,hels,hU,hnb,hOb⟩
  ·exact none_ hx none 0 (by simpa using hv)
  ·have hv:v = .slice (some ⟨b,off,none⟩) (Bu x).length cap:=by simpa using hv
   by_cases h0:0<List.length (α:=e.den) x
   ·rw [dif_pos h0] at hS;have hl' :=Option.some.inj hS;have core:=d5 L he aE zE C (x:=x) h0 hlim hcmp hswo hp hcap hb hfr hsz hels hOb;subst hv;refine core.mono ?_;rintro _ w' ⟨rfl,K,C',hb',hsz',hE⟩;have hF':∀ c,¬F' c:=fun c hc=>MA hels c hc
    have hG0:∀ c,G0 c↔c=b:=fun c=>(hU c).trans ⟨fun h=>h.resolve_right (hF' c),.inl⟩
    refine ⟨[],G0,rfl,K.mono fun c _ h=>(hG0 c).2 h,fun c hc=>.inl hc,?_,trivial⟩
    have hlen':l'.length=List.length (α:=e.den) x:=by
     rw [<-hl',List.length_map,Array.length_toList];have:=(@pdq_sorts _ ⟨⟨0,h0⟩⟩ (ltOf (Gy (fun x y=>G x y ar.1) x)) hswo (Array.ofFn id) 0 (List.length (α:=e.den) x) (Lib.bitLen (List.length (α:=e.den) x)) true true (Nat.zero_le _) (by simp) (Or.inl rfl)).1.1;rw [this,Array.size_ofFn]
    have hE:=hE (fun c=>(O c/\¬G0 c)\/G0 c) (fun c _ hn h=>h.elim (fun h=>hn h.1) fun h=>hn (hown c h));rw [hl'] at hE;refine .inr ⟨b,off,cap,C',tid,fr,Ab.none,?_,?_,hb',fun i hi=>hfr i (by omega),by omega,?_,fun k=>⟨fun h=>.inl ((hG0 k).1 h),fun h=>(hG0 k).2 (h.resolve_right id)⟩,id,.inr ((hG0 b).2 rfl)⟩
    ·rw [show (Bu (BI [] e.slice (Bh [PM.st g ts]) (l',())).2).length=(Bu x).length from hlen']
    ·rw [show (Bu (BI [] e.slice (Bh [PM.st g ts]) (l',())).2).length=(Bu x).length from hlen'];exact hcap
    ·rw [show (Bu (BI [] e.slice (Bh [PM.st g ts]) (l',())).2).length=(Bu x).length from hlen'];exact hE
   ·have hx:x=[]:=List.eq_nil_of_length_eq_zero (by omega);exact none_ hx _ cap (by rw [hv,hx];rfl)
 ·cases hS
end Go.V
