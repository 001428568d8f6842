/- An evaluator over the code of the model, on data Cp memory, and the proof that it is right. No condition. -/
import Derived.Test.YtnbhnfbeahobeaaGreatDoorEa
import Derived.Deep.Upon
namespace Go.V
variable {α:Type}
variable {P:Program} {env:Bf} {w₀ w w':World} {O₀ O₁ W O O':Ab} {σ σ₀ σ' σ₁:St} {γ γ':Name->Src} {φ φ':Name->Ab} {a a':Act} {n:Name}
theorem DJ {t:Ty} {p:CH} {v:Value} (hs:Ak P w O σ γ (.ref t p) v) {b:Bool} {d:Hd} {sh:Sh} (hr:σ.root p.name=some (.data b d sh)) (hok:Be p.path sh=true)
  {d':Hd} (hget:AB p.path d.t d.x some=some d') {src:Src} (hg:goto w p.path d.t (γ p.name)=some (d'.t,src)) {cs:List Value} (hcs:Al w d'.t.size src=some cs):C_ d'.t v cs:=by
 have hlive:Da σ p:=⟨b,d,sh,d',hr,hok,hget⟩;generalize hss:(Slot.ref t p)=s at hs;cases hs with
 |ref t' p' _ src' hp hl=>
  injection hss with e1 e2
  subst e1 e2;obtain ⟨cs',hcs',hval⟩:=hl hlive;obtain ⟨bx,d₂,sh₂,h1,h2,h3⟩:=hp;rw [hr] at h1;injection h1 with h1
  injection h1 with _ h1 _
  subst h1;have:=h3 hlive;rw [hg] at this;injection this with this
  injection this with e1 e2
  subst e1 e2;rw [hcs] at hcs';injection hcs' with hcs'
  subst hcs';exact hval
 |_=>cases hss
theorem WT (S:Sim P env w₀ O₁ W σ γ φ O a w) (hl:Iv σ σ₀) {t:Ty} {s:Slot} {v:Value} (hs:Ak P w O σ₀ γ s v) {k:t.den->Sh->St->Option α} {r:α} (h:JN σ t s k=some r) :
  ∃ x sh σ₁ cs,∃ F O₂:Ab,k x sh σ₁=some r/\sh.whole=true/\C_ t v cs/\Rep w O t sh x cs F/\Sim P env w₀ O₂ W σ₁ γ φ O a w/\Iv σ₁ σ₀/\
   (∀ b,O₁ b->O₂ b)/\(∀ b,F b->O₂ b)/\(∀ b,F b->¬O₁ b/\(w₀.heap.size<=b\/W b)):=by
 have plain:∀ {s:Slot},Ak P w O σ₀ γ s v->Hf σ t s k=some r->∃ x sh σ₁ cs,∃ F O₂:Ab,k x sh σ₁=some r/\sh.whole=true/\C_ t v cs/\Rep w O t sh x cs F/\Sim P env w₀ O₂ W σ₁ γ φ O a w/\Iv σ₁ σ₀/\
   (∀ b,O₁ b->O₂ b)/\(∀ b,F b->O₂ b)/\(∀ b,F b->¬O₁ b/\(w₀.heap.size<=b\/W b)):=fun hs h=>by
  obtain ⟨x,sh,σ₁,cs,F,h1,h2,h3,h4,h5,h6,h7⟩:=PI S hl hs h;exact ⟨x,sh,σ₁,cs,F,_,h1,h2,h3,h4,h5,h6,fun _=>.inl,fun _=>.inr,h7⟩
 unfold JN at h;split at h
 ·rename_i u n;split at h
  ·rename_i d sh hr;split at h
   case h_2=>cases h
   case h_1 hwh=>
    obtain ⟨e,h⟩:=As h;obtain ⟨dt,x⟩:=d;dsimp only at e;subst e;obtain ⟨b,off,C,tid,fr,cs,F',hsrc,hb,hfr,hcs,hrep,hF',hOb,hU⟩:=S.roots n _ hr;have hv:C_ dt v cs:=DJ hs (p:=⟨n,[]⟩) (hl _ _ _ _ hr) rfl (d' :=⟨dt,x⟩) rfl (src:=γ n) rfl (by rw [hsrc];exact hcs);exact ⟨x,sh,_,cs,F',_,h,hwh,hv,hrep,S.drop hr,hl.drop n,fun _=>.inl,fun k hk=>.inr ((hU k).2 (.inr hk)),fun k hk=>⟨(S.fresh n _ hr k ((hU k).2 (.inr hk))).2,(S.fresh n _ hr k ((hU k).2 (.inr hk))).1⟩⟩
  ·exact plain hs h
 ·exact plain hs h
def nw (w:World) (O:Ab) (e:Ty) (deep:Bool) (x:e.den) (c:List Value) (F:Ab):Prop:=∃ sh,sh.whole=true/\(deep=true->sh=e.ownAll)/\Rep w O e sh x c F
theorem WU (S:Sim P env w₀ O₀ W σ γ φ O a w) {e:Ty} {deep:Bool} {r:α} :
  ∀ (l:List (Nat×Operand)) (i:Nat) {k:List e.den->St->Option α} {O₁:Ab} {σ₁:St},Sim P env w₀ O₁ W σ₁ γ φ O a w->Iv σ₁ σ->
   elemsK e deep i (l.map fun x=>(x.1,σ.val x.2)) σ₁ k=some r->
   ∃ xs σ₂ cs F O₂,k xs σ₂=some r/\Sim P env w₀ O₂ W σ₂ γ φ O a w/\((∀ b,O₁ b->O₂ b)/\∀ b,F b->O₂ b)/\
    (∀ b,F b->¬O₁ b/\(w₀.heap.size<=b\/W b))/\Els (nw w O e deep) xs cs F/\xs.length=l.length/\
    (l.map fun x=>(x.1,a.eval x.2))=((l.map fun x=>a.eval x.2).zipIdx i).map (fun x=>(x.2,x.1))/\(l.map fun x=>a.eval x.2).flatMap (fun v=>v.cells.toList)=cs/\
    ∀ v∈(l.map fun x=>a.eval x.2),v.cells.size=e.size
 |[],i,k,O₁,σ₁,S₁,hl,h=>⟨[],σ₁,[],Ab.none,O₁,h,S₁,⟨fun _ h=>h,fun _ h=>h.elim⟩,fun b hb=>hb.elim,⟨rfl,fun _ h=>h⟩,rfl,rfl,rfl,fun v hv=>by cases hv⟩
 |(j,q)::l,i,k,O₁,σ₁,S₁,hl,h=>by
  simp only [List.map_cons] at h;unfold elemsK at h;split at h
  case h_2=>cases h
  case h_1 hj=>
   have hj:j=i:=Nat.eq_of_beq_eq_true hj;subst hj;obtain ⟨y,shy,σ₂,cy,Fy,O₂,hk,hwh,hval,hry,S₂,hl₂,hle,hFO,hFy⟩:=WT S₁ hl (S.val q) h;split at hk
   case h_1=>cases hk
   case h_2 hd=>
    obtain ⟨xs,σ₃,cs,F,O₃,g1,g2,g3,g4,g5,g6,g7,g8,g9⟩:=WU S l (j+1) S₂ hl₂ hk;have hcells:=hval.cells (fun ha=>hry.notAgg (Sh.whole_gone hwh) hval ha);refine ⟨y::xs,σ₃,cy++cs,fun b=>Fy b\/F b,O₃,g1,g2,?_,?_,⟨cy,cs,Fy,F,rfl,⟨shy,hwh,?_,hry⟩,g5,fun _=>Iff.rfl,?_⟩,by simp [g6],?_,?_,?_⟩
    ·exact ⟨fun b hb=>g3.1 b (hle b hb),fun b hb=>hb.elim (fun h=>g3.1 b (hFO b h)) (g3.2 b)⟩
    ·rintro b (hb | hb)
     ·exact hFy b hb
     ·exact ⟨fun h=>(g4 b hb).1 (hle b h),(g4 b hb).2⟩
    ·intro hdp;rw [hdp] at hd;simpa using hd
    ·rintro b ⟨h1,h2⟩;exact (g4 b h2).1 (hFO b h1)
    ·simp only [List.map_cons,List.zipIdx_cons,g7]
    ·simp only [List.map_cons,List.flatMap_cons,g8,hcells]
    ·intro v hv;simp only [List.map_cons,List.mem_cons] at hv;rcases hv with hv | hv
     ·subst hv;rw [hcells];simpa using hry.len
     ·exact g9 v hv
theorem Els.freeze {e:Ty} {deep:Bool} (hO:∀ b,b<w.heap.size->¬O b->¬O' b):∀ (xs:List e.den) (cs:List Value) (F:Ab),(∀ b,F b->¬O' b)->Els (nw w O e deep) xs cs F->Els (Rep w O' e .z) xs cs Ab.none
 |[],cs,F,_,h=>⟨h.1,fun b hb=>hb⟩
 |x::xs,cs,F,hF,⟨c₁,c₂,F₁,F₂,hc,⟨sh,hwh,_,hx⟩,hxs,hU,hd⟩=>
  ⟨c₁,c₂,Ab.none,Ab.none,hc,Rep.freeze hO hwh (fun b hb=>hF b ((hU b).2 (.inl hb))) hx,Els.freeze hO xs c₂ F₂ (fun b hb=>hF b ((hU b).2 (.inr hb))) hxs,
   fun b=>by simp [Ab.none],fun b hb=>hb.1⟩
theorem Lm (S:Sim P env w₀ O₀ W σ γ φ O a w) (hty:env.TyOk P) {o:Oper} {t:TypeId} {m:Nat} {parts:Array (Nat×Operand)} (ho:o.op = .buildSlice t m parts) {k:Slot->St->Option α} {r:α} (h:Cj env σ o k=some r) :
  HM P env w₀ O₀ W a w (execOp a.eval o) k r:=by
 unfold Cj at h;rw [ho] at h;dsimp only at h;have hex:execOp a.eval o=(do pure (.value (<-Instr.buildSlice t m (parts.map fun (i,x)=>(i,a.eval x))))):=by unfold execOp;rw [ho]
 rw [hex];split at h
 case h_2=>cases h
 case h_1 e ht=>
  split at h
  case h_2=>cases h
  case h_1 hc=>
   simp only [Ajb] at hc;obtain ⟨hc1,hc2,hc3⟩:=hc;have hm:m=parts.size:=Nat.eq_of_beq_eq_true hc1;have hs0:0<e.size:=by simpa using hc2
   have hle:m*e.size<=16777216:=by simpa using hc3
   obtain ⟨⟨j,hu,_,ie,hie,hies,_,z,cz,hz,hvalz,hrepz⟩,_⟩:=hty.1 _ _ ht;obtain ⟨xs,σ₂,cs,F,O₂,hk,S₂,hO₂,hF,hels,hlen,hparts,hflat,hsize⟩:=WU S parts.toList 0 S (Iv.refl σ) h;have hsub:∀ b,O₀ b->O₂ b:=hO₂.1
   have hcl:cs.length=m*e.size:=by
    rw [Els.len (sz:=e.size) (fun x c F h=>by obtain ⟨_,_,_,h⟩:=h;exact h.len) hels,hlen,hm];simp
   have hxl:xs.length=m:=by rw [hlen,hm];simp
   have hrun:(Instr.buildSlice t m (parts.map fun (i,x)=>(i,a.eval x))).run P w = .ok (.slice (some ⟨w.heap.size,0,none⟩) m m) (w.alloc (.cells cs.toArray j)):=by
    by_cases h0:m*ie.size=0
    ·have hm0:m=0:=by rw [hies] at h0;exact (Nat.mul_eq_zero.1 h0).resolve_right (by omega)
     subst hm0;have hp0:parts = #[]:=Array.eq_empty_of_size_eq_zero hm.symm;subst hp0;have hc0:cs=[]:=List.eq_nil_of_length_eq_zero (by rw [hcl];simp);subst hc0;simp [Instr.buildSlice,run_underlying hu,sizeOf,typeInfo,hie,newRow,Instr.fill,Array.range_zero']
    ·refine run_buildSlice w t j m _ cs.toArray ie z hu hie hz (by rw [hies];omega) h0 ?_;rw [Array.toList_map,hies];have e1:(parts.toList.map fun (x:Nat×Operand)=>(x.1,a.eval x.2))=(((parts.toList.map fun x=>a.eval x.2).zipIdx 0).map fun x=>(x.2,x.1)):=hparts;refine (congrArg (Instr.fill _ _) e1).trans ?_;rw [Great.fill_whole hs0 _ _ hsize (by simp [hm]),hflat]
   have K:=AF.alloc w (.cells cs.toArray j);have hb:({w with heap:=w.heap.push (.cells cs.toArray j)}:World).heap[w.heap.size]? = some (.cells cs.toArray j (0,0)):=by simp
   have hFlt:∀ b,F b->b<w.heap.size:=fun b hb=>S₂.old b (hO₂.2 b hb)
   obtain ⟨O₃,S₃,hO₃⟩:=S₂.forget hsub
   have hF₃:∀ b,F b->¬O₃ b:=by
    intro b hb hn;rcases (S₃.own b).1 hn with h | ⟨q,r',h1,h2⟩
    ·exact (hF b hb).1 h
    ·exact (S₂.fresh q r' h1 b h2).2 (hO₂.2 b hb)
   have hfz:=Els.freeze (O' :=O₃) (fun b _=>hO₃ b) xs cs F hF₃ hels
   have hrun':(do pure (.value (<-Instr.buildSlice t m (parts.map fun (i,x)=>(i,a.eval x)))):Sem Next).run P w = .ok (.value (.slice (some ⟨w.heap.size,0,none⟩) m m)) {w with heap:=w.heap.push (.cells cs.toArray j)}:=by
    simp only [Sem.run_bind,Sem.run_pure,hrun,Result.andThen_ok];rfl
   have ecs:(cs.toArray.toList.drop 0).take (xs.length*e.size)=cs:=by
    rw [hxl,List.drop_zero];exact List.take_of_length_le (by simp [hcl])
   have hv:C_ (.slice e) (.slice (some ⟨w.heap.size,0,none⟩) m m) [.slice (some ⟨w.heap.size,0,none⟩) m m]:=rfl;split at hk
   ·-- for reading alone
    refine ⟨_,_,_,γ,φ,O₃,_,.inl hrun',S₃.grow K,.pv ⟨.slice e,xs⟩ _ _ hv ?_,hk⟩;refine ⟨fun _ h=>h,some ⟨w.heap.size,0,none⟩,m,by rw [<-hxl],by rw [<-hxl];exact Nat.le_refl _,(fun h=>by cases h),(fun a' ha=>by cases ha;rfl),.inr ⟨w.heap.size,0,cs,rfl,by simp,?_,?_,?_⟩⟩
    ·intro hn;exact absurd (S₃.bound _ hn) (by omega)
    ·exact hfz.mono fun x _ c F' hF' hx=>Rep.frame K.size (fun b hb _=>K.block b hb (fun h=>h)) (fun b hb=>(hF' b hb).elim) (fun _ _ h=>h) (fun b hb=>(hF' b hb).elim) hx
    ·intro i hi;simp [World.cell?]
   ·-- to be written too
    cases hd:env.deep with
    |false=>
     have he:env.esh e = .z:=by simp [Bf.esh,hd]
     rw [he] at hk
     obtain ⟨γ',φ',O',S',A,hγ,hφ⟩:=S₃.lay (n:=AD o) (O₀:=O₀) (r:=.data false ⟨.slice e,xs⟩ (.own .z)) (src:=.val [.slice (some ⟨w.heap.size,0,none⟩) m m])
      (F:=fun b=>b=w.heap.size) (K.mono fun _ _ h=>h.elim) (fun _ h=>h) (by rintro b rfl;exact .inl (Nat.le_refl _))
      (fun O' γ' φ' A hγ hO=>by
       refine ⟨_,rfl,.inr ⟨w.heap.size,0,m,cs.toArray,j,(0,0),Ab.none,by rw [hxl],by rw [hxl];exact Nat.le_refl _,hb,by intro i _;simp,by simp [hcl],?_,fun b=>by simp [Ab.none],fun h=>h,hO _ rfl⟩⟩;rw [ecs];exact hfz.mono fun x _ c F' hF' hx=>Rep.frame K.size (fun b hb _=>K.block b hb (fun h=>h)) (fun b hb=>(hF' b hb).elim) A.free (fun b hb=>(hF' b hb).elim) hx)
     refine ⟨_,_,_,γ',φ',O',_,.inl hrun',S',?_,hk⟩;refine .ref (.slice e) ⟨AD o,[]⟩ _ (.val [.slice (some ⟨w.heap.size,0,none⟩) m m]) ⟨false,_,_,by rw [St.root_lay,if_pos rfl],rfl,fun _=>?_⟩ fun _=>⟨_,rfl,hv⟩
     simp only [goto];rw [hγ]
    |true=>
     have he:env.esh e=e.ownAll:=by simp [Bf.esh,hd]
     rw [he] at hk
     obtain ⟨γ',φ',O',S',A,hγ,hφ⟩:=S₂.lay (n:=AD o) (O₀:=O₀) (r:=.data false ⟨.slice e,xs⟩ (.own e.ownAll)) (src:=.val [.slice (some ⟨w.heap.size,0,none⟩) m m])
      (F:=fun b=>b=w.heap.size\/F b) (K.mono fun _ _ h=>h.elim) hsub
      (by
       rintro b (rfl | hb)
       ·exact .inl (Nat.le_refl _)
       ·exact .inr (.inr ⟨hO₂.2 b hb,hF b hb⟩))
      (fun O' γ' φ' A hγ hO=>by
       refine ⟨_,rfl,.inr ⟨w.heap.size,0,m,cs.toArray,j,(0,0),F,by rw [hxl],by rw [hxl];exact Nat.le_refl _,hb,by intro i _;simp,by simp [hcl],?_,fun _=>Iff.rfl,?_,hO _ (.inl rfl)⟩⟩
       ·rw [ecs];refine hels.mono fun x _ c F' hF' hx=>?_
        obtain ⟨sh,_,hsh,hx⟩:=hx;rw [hsh hd] at hx;exact Rep.frame K.size (fun b hb _=>K.block b hb (fun h=>h)) (fun b hb=>K.block b (hFlt b (hF' b hb)) (fun h=>h)) A.free (fun b hb _=>hO b (.inr (hF' b hb))) hx
       ·intro h;exact absurd (hFlt _ h) (by omega))
     refine ⟨_,_,_,γ',φ',O',_,.inl hrun',S',?_,hk⟩;refine .ref (.slice e) ⟨AD o,[]⟩ _ (.val [.slice (some ⟨w.heap.size,0,none⟩) m m]) ⟨false,_,_,by rw [St.root_lay,if_pos rfl],rfl,fun _=>?_⟩ fun _=>⟨_,rfl,hv⟩
     simp only [goto];rw [hγ]
end Go.V
namespace Go.V
variable {α:Type}
variable {P:Program} {env:Bf} {w₀ w w':World} {O₀ O₁ W O O':Ab} {σ σ₀ σ' σ₁:St} {γ γ':Name->Src} {φ φ':Name->Ab} {a a':Act} {n:Name}
theorem Ja {g:Nat}:∀ (vs:List Value) (o:Nat) {w:World} (k:Nat),k≠g->(w.setCells g o vs).heap[k]? = w.heap[k]?
 |[],_,_,_,_=>rfl
 |v::r,o,w,k,hk=>by
  rw [World.setCells,Ja r (o+1) k hk];simp [World.setCell,Array.getElem?_modify,Ne.symm hk]
theorem Ln (g:Nat):∀ (vs:List Value) (o:Nat) (w:World),(w.setCells g o vs).os=w.os/\(w.setCells g o vs).tape=w.tape/\(w.setCells g o vs).output=w.output/\(w.setCells g o vs).heap.size=w.heap.size
 |[],_,_=>⟨rfl,rfl,rfl,rfl⟩
 |v::r,o,w=>by
  obtain ⟨h1,h2,h3,h4⟩:=Ln g r (o+1) (w.setCell ⟨g,o,none⟩ v);rw [World.setCells];exact ⟨h1,h2,h3,by rw [h4];simp [World.setCell]⟩
theorem GS {g:Nat} {e:TypeId} {fr:Nat×Nat}:∀ (vs:List Value) (o:Nat) (w:World) (C:Array Value),w.heap[g]? = some (.cells C e fr)->o+vs.length<=C.size->
  ∃ C',(w.setCells g o vs).heap[g]? = some (.cells C' e fr)/\C'.size=C.size/\∀ i,C'[i]? = if o<=i/\i<o+vs.length then vs[i-o]? else C[i]?
 |[],o,w,C,h,_=>⟨C,h,rfl,fun i=>by rw [if_neg (by simp only [Ajd];omega)]⟩
 |v::r,o,w,C,h,hl=>by
  have h2:(w.setCell ⟨g,o,none⟩ v).heap[g]? = some (.cells (C.setIfInBounds o v) e fr):=by
   simp [World.setCell,Array.getElem?_modify,h]
  simp only [Aja] at hl;obtain ⟨C',h3,h4,h5⟩:=GS r (o+1) (w.setCell ⟨g,o,none⟩ v) _ h2 (by simp;omega);refine ⟨C',h3,by rw [h4];simp,fun i=>?_⟩;rw [h5,Array.getElem?_setIfInBounds];simp only [Aja];by_cases hi:o=i
  ·subst hi;rw [if_neg (by omega),if_pos rfl,if_pos (by omega),if_pos (by omega)];simp
  ·by_cases h6:o+1<=i/\i<o+1+r.length
   ·rw [if_pos h6,if_pos (by omega)];have:i-o=(i-(o+1))+1:=by omega
    rw [this,List.getElem?_cons_succ]
   ·rw [if_neg h6,if_neg hi,if_neg (by omega)]
theorem JU {g:Nat} {e:TypeId} {fr:Nat×Nat} (vs:List Value) (o:Nat) (w:World) (C:Array Value) (h:w.heap[g]? = some (.cells C e fr)) (hl:o+vs.length<=C.size) (F:Ab) :
  Ch w (w.setCells g o vs) g o vs.length F/\Al (w.setCells g o vs) vs.length (.mem g o)=some vs/\AF (fun k=>k=g) w (w.setCells g o vs):=by
 obtain ⟨C',h1,h2,h3⟩:=GS vs o w C h hl;obtain ⟨s1,s2,s3,s4⟩:=Ln g vs o w;refine ⟨⟨by rw [s4];exact Nat.le_refl _,fun k _ hk _=>Ja vs o k hk,?_⟩,?_,⟨s1,s2,s3,by rw [s4];exact Nat.le_refl _,fun k _ hk=>Ja vs o k hk⟩⟩
 ·intro C₂ tid fr₂ h';rw [h] at h';injection h' with h'
  injection h' with e1 e2 e3
  subst e1 e2 e3;exact ⟨C',h1,h2,fun i hi=>by rw [h3,if_neg (by omega)]⟩
 ·rw [Cc h1 (by omega)];congr 1;apply List.ext_getElem?;intro i;by_cases hi:i<vs.length
  ·rw [List.getElem?_take_of_lt hi,List.getElem?_drop,Array.getElem?_toList,h3,if_pos (by omega),Nat.add_sub_cancel_left]
  ·rw [List.getElem?_take_eq_none (by omega),List.getElem?_eq_none (by omega)]
theorem Rep.clear:∀ {t:Ty} {sh:Sh} {x:t.den} {cs:List Value} {F:Ab},Rep w O t sh x cs F->∀ b,F b->∃ C tid fr,w.heap[b]? = some (.cells C tid fr)/\∀ i,i<C.size->¬(fr.1<=i/\i<fr.2):=by
 intro t;induction t with
 |int k=>intro sh x cs F h b hb;exact (h.2 b hb).elim
 |bool=>intro sh x cs F h b hb;exact (h.2 b hb).elim
 |str=>intro sh x cs F h b hb;exact (h.2 b hb).elim
 |unit=>intro sh x cs F h b hb;exact (h.2 b hb).elim
 |pair u v ihu ihv=>
  intro sh x cs F h b hb;obtain ⟨c₁,c₂,F₁,F₂,hc,h1,h2,hU,hd⟩:=h;rcases (hU b).1 hb with hb | hb
  ·exact ihu h1 b hb
  ·exact ihv h2 b hb
 |slice e ih=>
  intro sh x cs F h b hb;unfold Rep at h;cases sh with
  |own s=>
   rcases h with h | ⟨b',off,cap,C,tid,fr,F',hc,hl,hb',hfr,hsz',hel,hU,hd,hOb⟩
   ·exact (h.2.2 b hb).elim
   ·rcases (hU b).1 hb with rfl | hb
    ·exact ⟨C,tid,fr,hb',hfr⟩
    ·have:∀ (xs:List e.den) (cl:List Value) (G:Ab),Els (Rep w O e s) xs cl G->G b->∃ C tid fr,w.heap[b]? = some (.cells C tid fr)/\∀ i,i<C.size->¬(fr.1<=i/\i<fr.2):=by
      intro xs;induction xs with
      |nil=>intro cl G h hG;exact (h.2 b hG).elim
      |cons y ys ihl=>
       rintro cl G ⟨c₁,c₂,F₁,F₂,hc,hy,hys,hU,hd⟩ hG;rcases (hU b).1 hG with hG | hG
       ·exact ih hy b hG
       ·exact ihl _ _ hys hG
     exact this _ _ _ hel hb
  |gone=>exact (h.2 b hb).elim
  |z=>exact (h.1 b hb).elim
  |pr u v=>exact (h.1 b hb).elim
theorem Rep.det:∀ {t:Ty} {sh:Sh} {x:t.den} {cs:List Value} {F F':Ab},Rep w O t sh x cs F->Rep w O t sh x cs F' ->∀ b,F b↔F' b:=by
 intro t;induction t with
 |int k=>intro sh x cs F F' h h' b;exact ⟨fun hb=>(h.2 b hb).elim,fun hb=>(h'.2 b hb).elim⟩
 |bool=>intro sh x cs F F' h h' b;exact ⟨fun hb=>(h.2 b hb).elim,fun hb=>(h'.2 b hb).elim⟩
 |str=>intro sh x cs F F' h h' b;exact ⟨fun hb=>(h.2 b hb).elim,fun hb=>(h'.2 b hb).elim⟩
 |unit=>intro sh x cs F F' h h' b;exact ⟨fun hb=>(h.2 b hb).elim,fun hb=>(h'.2 b hb).elim⟩
 |pair u v ihu ihv=>
  intro sh x cs F F' h h' b;obtain ⟨c₁,c₂,F₁,F₂,hc,h1,h2,hU,hd⟩:=h;obtain ⟨c₁',c₂',F₁',F₂',hc',h1',h2',hU',hd'⟩:=h';obtain ⟨e1,e2⟩:=List.append_inj (hc.symm.trans hc') (by rw [h1.len,h1'.len]);subst e1 e2;rw [hU,hU',ihu h1 h1' b,ihv h2 h2' b]
 |slice e ih=>
  intro sh x cs F F' h h' b;unfold Rep at h h';cases sh with
  |own s=>
   rcases h with ⟨h1,h2,h3⟩ | ⟨b₁,off,cap,C,tid,fr,G,hc,hl,hb',hfr,hsz',hel,hU,hd,hOb⟩
   ·rcases h' with ⟨_,_,h3'⟩ | ⟨b₂,off',cap',C',tid',fr',G',hc',_⟩
    ·exact ⟨fun hb=>(h3 b hb).elim,fun hb=>(h3' b hb).elim⟩
    ·rw [h1] at hc';injection hc' with hc';injection hc' with hc';cases hc'
   ·rcases h' with ⟨h1',_,h3'⟩ | ⟨b₂,off',cap',C',tid',fr',G',hc',hl',hb'',hfr',hsz'',hel',hU',hd',hOb'⟩
    ·rw [hc] at h1';injection h1' with h1';injection h1' with h1';cases h1'
    ·rw [hc] at hc';injection hc' with hc'
     injection hc' with e1 e2 e3
     injection e1 with e1
     injection e1 with e1 e4
     subst e1 e4 e3;rw [hb'] at hb'';injection hb'' with hb''
     injection hb'' with e5
     subst e5
     have:∀ (xs:List e.den) (cl:List Value) (G G':Ab),Els (Rep w O e s) xs cl G->Els (Rep w O e s) xs cl G' ->(G b↔G' b):=by
      intro xs;induction xs with
      |nil=>intro cl G G' h h';exact ⟨fun hb=>(h.2 b hb).elim,fun hb=>(h'.2 b hb).elim⟩
      |cons y ys ihl=>
       rintro cl G G' ⟨c₁,c₂,F₁,F₂,hc,hy,hys,hU,hd⟩ ⟨c₁',c₂',F₁',F₂',hc',hy',hys',hU',hd'⟩;obtain ⟨e1,e2⟩:=List.append_inj (hc.symm.trans hc') (by rw [hy.len,hy'.len]);subst e1 e2;rw [hU,hU',ih hy hy' b,ihl _ _ _ hys hys']
     rw [hU,hU',this _ _ _ _ hel hel']
  |gone=>exact ⟨fun hb=>(h.2 b hb).elim,fun hb=>(h'.2 b hb).elim⟩
  |z=>exact ⟨fun hb=>(h.1 b hb).elim,fun hb=>(h'.1 b hb).elim⟩
  |pr u v=>exact ⟨fun hb=>(h.1 b hb).elim,fun hb=>(h'.1 b hb).elim⟩
theorem Gh:∀ (p:Bi) {t:Ty} {sh:Sh} {x:t.den} {cs:List Value} {F:Ab} {src:Src} {d:Hd} {r:Ty×Src},
  Rep w O t sh x cs F->Al w t.size src=some cs->Al w' t.size src=some cs->Be p sh=true->AB p t x some=some d->(∀ b,F b->w'.heap[b]? = w.heap[b]?)->
  goto w p t src=some r->goto w' p t src=some r/\Al w' r.1.size r.2=Al w r.1.size r.2
 |[],t,sh,x,cs,F,src,d,r,_,hcs,hcs',_,_,_,h=>by
  simp only [goto] at h ⊢;injection h with h
  subst h;exact ⟨rfl,hcs'.trans hcs.symm⟩
 |st::p,t,sh,x,cs,F,src,d,r,hrep,hcs,hcs',hok,hget,hF,h=>by
  cases t with
  |int k=>cases st<;>simp [AB] at hget
  |bool=>cases st<;>simp [AB] at hget
  |str=>cases st<;>simp [AB] at hget
  |unit=>cases st<;>simp [AB] at hget
  |pair u v=>
   have hlen:=hrep.len;obtain ⟨c₁,c₂,F₁,F₂,hc,h1,h2,hU,hd⟩:=hrep;have hl1:=h1.len
   have hsv:∀ c,src = .val c->c.length=u.size+v.size:=by
    rintro c rfl;simp [Al] at hcs;rw [hcs,hlen];rfl
   have e1:cs.take u.size=c₁:=by rw [hc,<-hl1];simp
   have e2:cs.drop u.size=c₂:=by rw [hc,<-hl1];simp
   cases st with
   | «at» n=>simp [AB] at hget
   |l=>exact Gh p h1 (e1▸Ec hcs hsv) (e1▸Ec hcs' hsv) hok hget (fun b hb=>hF b ((hU b).2 (.inl hb))) h
   |r=>exact Gh p h2 (e2▸DI hcs hsv) (e2▸DI hcs' hsv) hok hget (fun b hb=>hF b ((hU b).2 (.inr hb))) h
  |slice e=>
   cases st with
   |l=>simp [AB] at hget
   |r=>simp [AB] at hget
   | «at» n=>
    cases sh with
    |z=>simp [Be] at hok
    |gone=>simp [Be] at hok
    |pr u v=>simp [Be] at hok
    |own s=>
     simp only [Be] at hok;cases hx:(Bu x)[n]? with
     |none=>simp [AB,hx] at hget
     |some y₀=>
      simp only [AB,hx] at hget;have hn:n<(Bu x).length:=(List.getElem?_eq_some_iff.1 hx).1;rcases hrep with ⟨_,hnil,_⟩ | ⟨b,off,cap,C,tid,fr,G,hc,hl,hb,hfr,hsz,hel,hU,hdb,hOb⟩
      ·rw [show Bu x=[] from hnil] at hn;simp at hn
      ·obtain ⟨hlc,G',hy,hG',_⟩:=Els.pick (sz:=e.size) (fun _ _ _ h=>h.len) hel hx;have hmul:(Bu x).length*e.size<=cap*e.size:=Nat.mul_le_mul_right _ hl
       have hmul':n*e.size+e.size<=(Bu x).length*e.size:=by
        have:=Nat.mul_le_mul_right e.size (show n+1<=(Bu x).length from hn);rw [Nat.succ_mul] at this;omega
       have hcell:Al w e.size (.mem b (off+n*e.size))=some ((((C.toList.drop off).take ((Bu x).length*e.size)).drop (n*e.size)).take e.size):=by
        rw [Cc hb (by omega),List.drop_take,List.drop_drop,List.take_take,Nat.min_eq_left (by omega)]
       simp only [goto] at h ⊢;rw [show Al w' 1 src=some cs from hcs',hc];rw [show Al w 1 src=some cs from hcs,hc] at h;refine Gh p hy hcell ?_ hok hget (fun k hk=>hF k ((hU k).2 (.inr (hG' k hk)))) h;rw [Ci (w:=w)]
       ·exact hcell
       ·rintro k rfl;exact hF _ ((hU _).2 (.inl rfl))
end Go.V
namespace Go.V
variable {α:Type}
variable {P:Program} {env:Bf} {w₀ w w':World} {O₀ O₁ W O O':Ab} {σ σ₀ σ' σ₁:St} {γ γ':Name->Src} {φ φ':Name->Ab} {a a':Act} {n:Name}
theorem JV:∀ (p:Bi) {t:Ty} {src:Src},via p=false->goto w' p t src=goto w p t src
 |[],t,src,_=>rfl
 |.at _::_,t,src,h=>by simp [via] at h
 |.l::p,t,src,h=>by cases t<;>simp only [goto];exact JV p h
 |.r::p,t,src,h=>by cases t<;>simp only [goto];exact JV p h
theorem LE:∀ (p:Bi) {t tp:Ty} {b off:Nat} {s:Src},via p=false->goto w p t (.mem b off)=some (tp,s)->∃ o,s = .mem b o
 |[],t,tp,b,off,s,_,h=>by
  simp only [goto] at h;injection h with h
  injection h with _ h
  exact ⟨off,h.symm⟩
 |.at _::_,t,tp,b,off,s,hv,h=>by simp [via] at hv
 |.l::p,t,tp,b,off,s,hv,h=>by
  cases t<;>simp only [goto] at h<;>try (cases h;done)
  exact LE p hv h
 |.r::p,t,tp,b,off,s,hv,h=>by
  cases t<;>simp only [goto] at h<;>try (cases h;done)
  exact LE p hv h
theorem LF:∀ (p:Bi) {t tp:Ty} (x:t.den),via p=false->Gu p t=some tp->∃ d,AB p t x some=some d
 |[],t,tp,x,_,_=>⟨⟨t,x⟩,rfl⟩
 |.at _::_,t,tp,x,hv,h=>by simp [via] at hv
 |.l::p,t,tp,x,hv,h=>by
  cases t<;>simp only [Gu] at h<;>try (cases h;done)
  exact LF p x.1 hv h
 |.r::p,t,tp,x,hv,h=>by
  cases t<;>simp only [Gu] at h<;>try (cases h;done)
  exact LF p x.2 hv h
theorem KL:∀ (p:Bi) (sh:Sh),via p=false->Be p sh=true
 |[],_,_=>rfl
 |.at _::_,_,h=>by simp [via] at h
 |.l::p,sh,h=>KL p sh.l h
 |.r::p,sh,h=>KL p sh.r h
theorem Els.two {β:Type} {R:β->List Value->Ab->Prop} {sz:Nat} (hR:∀ x c F,R x c F->c.length=sz) :
  ∀ {xs:List β} {cs:List Value} {F:Ab} {i j:Nat} {x y:β},Els R xs cs F->i≠j->xs[i]? = some x->xs[j]? = some y->
   ∃ F₁ F₂,R x ((cs.drop (i*sz)).take sz) F₁/\R y ((cs.drop (j*sz)).take sz) F₂/\(∀ b,F₁ b->F b)/\(∀ b,F₂ b->F b)/\∀ b,¬(F₁ b/\F₂ b)
 |[],_,_,i,j,x,y,_,_,hx,_=>by simp at hx
 |z::zs,cs,F,i,j,x,y,⟨c₁,c₂,F₁,F₂,hc,hz,hzs,hU,hd⟩,hij,hx,hy=>by
  have h1:=hR _ _ _ hz
  have head:((cs.drop (0*sz)).take sz)=c₁:=by
   rw [hc,Nat.zero_mul,List.drop_zero,List.take_append_of_le_length (by omega),List.take_of_length_le (by omega)]
  have tail:∀ k,((cs.drop ((k+1)*sz)).take sz)=((c₂.drop (k*sz)).take sz):=by
   intro k;have e1:(k+1)*sz=sz+k*sz:=by rw [Nat.succ_mul];omega
   rw [hc,e1,List.drop_append,List.drop_of_length_le (by omega),List.nil_append,h1,Nat.add_sub_cancel_left]
  cases i with
  |zero=>
   cases j with
   |zero=>exact (hij rfl).elim
   |succ j=>
    simp at hx;subst hx;obtain ⟨_,F',hy',hF',_⟩:=Els.pick hR hzs (by simpa using hy:zs[j]? = some y);exact ⟨F₁,F',by rw [head];exact hz,by rw [tail];exact hy',fun b hb=>(hU b).2 (.inl hb),fun b hb=>(hU b).2 (.inr (hF' b hb)),fun b hb=>hd b ⟨hb.1,hF' b hb.2⟩⟩
  |succ i=>
   cases j with
   |zero=>
    simp at hy;subst hy;obtain ⟨_,F',hx',hF',_⟩:=Els.pick hR hzs (by simpa using hx:zs[i]? = some x);exact ⟨F',F₁,by rw [tail];exact hx',by rw [head];exact hz,fun b hb=>(hU b).2 (.inr (hF' b hb)),fun b hb=>(hU b).2 (.inl hb),fun b hb=>hd b ⟨hb.2,hF' b hb.1⟩⟩
   |succ j=>
    obtain ⟨G₁,G₂,g1,g2,g3,g4,g5⟩:=Els.two hR hzs (fun e=>hij (by rw [e])) (by simpa using hx:zs[i]? = some x) (by simpa using hy:zs[j]? = some y);exact ⟨G₁,G₂,by rw [tail];exact g1,by rw [tail];exact g2,fun b hb=>(hU b).2 (.inr (g3 b hb)),fun b hb=>(hU b).2 (.inr (g4 b hb)),g5⟩
theorem Mp {q:Bi} {t:Ty} {sh:Sh} {x:t.den} {cs:List Value} {F:Ab} {src:Src} {dq:Hd} {b' off':Nat} {csq:List Value} {F':Ab}
  (h:Rep w O t sh x cs F) (hcs:Al w t.size src=some cs) (hblk:∀ b,src.blk b->¬F b/\O b) (hok:Be q sh=true) (hget:AB q t x some=some dq)
  (hg:goto w q t src=some (dq.t,.mem b' off')) (hq:Al w dq.t.size (.mem b' off')=some csq) (hr:Rep w O dq.t (Eo q sh) dq.x csq F') :
  (∀ b,F' b->F b)/\(src.blk b' \/F b')/\¬F' b' /\O b' /\∀ off,src = .mem b' off->off<=off' /\off'+dq.t.size<=off+t.size:=by
 obtain ⟨src',cs',Fz,hg',hcs',hrep',hF',hb',hin,hrng,_⟩:=Rep.zip q h hcs hblk hok hget;rw [hg] at hg';injection hg' with hg'
 injection hg' with _ hg'
 subst hg';rw [hq] at hcs';injection hcs' with hcs'
 subst hcs';have hdet:=Rep.det hr hrep';exact ⟨fun b hb=>hF' b ((hdet b).1 hb),hin b' rfl,fun hb=>(hb' b' rfl).1 ((hdet b').1 hb),(hb' b' rfl).2,fun off hs=>hrng b' off off' hs rfl⟩
theorem QJ:∀ (q:Bi) {t:Ty} {sh:Sh} {x:t.den} {cs:List Value} {F:Ab} {src:Src} {dq:Hd} {tq:Ty} {b' off':Nat},
  Rep w O t sh x cs F->Al w t.size src=some cs->Be q sh=true->AB q t x some=some dq->via q=true->goto w q t src=some (tq,.mem b' off')->F b'
 |[],t,sh,x,cs,F,src,dq,tq,b',off',_,_,_,_,hv,_=>by simp [via] at hv
 |st::q,t,sh,x,cs,F,src,dq,tq,b',off',hrep,hcs,hok,hget,hv,h=>by
  cases t with
  |int k=>cases st<;>simp [AB] at hget
  |bool=>cases st<;>simp [AB] at hget
  |str=>cases st<;>simp [AB] at hget
  |unit=>cases st<;>simp [AB] at hget
  |pair u v=>
   have hlen:=hrep.len;obtain ⟨c₁,c₂,F₁,F₂,hc,h1,h2,hU,hd⟩:=hrep;have hl1:=h1.len
   have hsv:∀ c,src = .val c->c.length=u.size+v.size:=by
    rintro c rfl;simp [Al] at hcs;rw [hcs,hlen];rfl
   have e1:cs.take u.size=c₁:=by rw [hc,<-hl1];simp
   have e2:cs.drop u.size=c₂:=by rw [hc,<-hl1];simp
   cases st with
   | «at» n=>simp [AB] at hget
   |l=>exact (hU _).2 (.inl (QJ q h1 (e1▸Ec hcs hsv) hok hget hv h))
   |r=>exact (hU _).2 (.inr (QJ q h2 (e2▸DI hcs hsv) hok hget hv h))
  |slice e=>
   cases st with
   |l=>simp [AB] at hget
   |r=>simp [AB] at hget
   | «at» n=>
    cases sh with
    |z=>simp [Be] at hok
    |gone=>simp [Be] at hok
    |pr u v=>simp [Be] at hok
    |own s=>
     simp only [Be] at hok;cases hx:(Bu x)[n]? with
     |none=>simp [AB,hx] at hget
     |some y₀=>
      simp only [AB,hx] at hget;have hn:n<(Bu x).length:=(List.getElem?_eq_some_iff.1 hx).1;rcases hrep with ⟨_,hnil,_⟩ | ⟨b,off,cap,C,tid,fr,G,hc,hl,hb,hfr,hsz,hel,hU,hdb,hOb⟩
      ·rw [show Bu x=[] from hnil] at hn;simp at hn
      ·obtain ⟨hlc,G',hy,hG',_⟩:=Els.pick (sz:=e.size) (fun _ _ _ h=>h.len) hel hx;have hmul:(Bu x).length*e.size<=cap*e.size:=Nat.mul_le_mul_right _ hl
       have hmul':n*e.size+e.size<=(Bu x).length*e.size:=by
        have:=Nat.mul_le_mul_right e.size (show n+1<=(Bu x).length from hn);rw [Nat.succ_mul] at this;omega
       have hcell:Al w e.size (.mem b (off+n*e.size))=some ((((C.toList.drop off).take ((Bu x).length*e.size)).drop (n*e.size)).take e.size):=by
        rw [Cc hb (by omega),List.drop_take,List.drop_drop,List.take_take,Nat.min_eq_left (by omega)]
       simp only [goto] at h;rw [show Al w 1 src=some cs from hcs,hc] at h;cases hv':via q with
       |true=>exact (hU _).2 (.inr (hG' _ (QJ q hy hcell hok hget hv' h)))
       |false=>
        obtain ⟨o,ho⟩:=LE q hv' h;injection ho with ho
        exact (hU _).2 (.inl ho)
theorem LG {t:Ty} {sh:Sh} {x:t.den} {cs:List Value} {F:Ab} {src:Src} {b' off' m:Nat} {F':Ab} (h:Rep w O t sh x cs F) (hcs:Al w t.size src=some cs)
  (hch:Ch w w' b' off' m F') (hF:∀ b,F b->b≠b' /\¬F' b) (hs:∀ sb so,src = .mem sb so->¬F' sb/\(sb≠b' \/so+t.size<=off' \/off'+m<=so)) :
  Al w' t.size src=some cs/\∀ b,F b->w'.heap[b]? = w.heap[b]?:=by
 refine ⟨?_,fun b hb=>hch.other b (h.owned b hb).2 (hF b hb).1 (hF b hb).2⟩;cases src with
 |val c=>exact hcs
 |mem sb so=>exact hch.cellsAt_other hcs (hs sb so rfl).1 (hs sb so rfl).2
theorem Mq:∀ (p q:Bi) {t:Ty} {sh:Sh} {x:t.den} {cs:List Value} {F:Ab} {src:Src} {d dq:Hd} {b' off':Nat} {F':Ab} {csq:List Value} {r:Ty×Src},
  Rep w O t sh x cs F->Al w t.size src=some cs->(∀ b,src.blk b->¬F b/\O b)->Be p sh=true->AB p t x some=some d->Be q sh=true->AB q t x some=some dq->
  goto w q t src=some (dq.t,.mem b' off')->Al w dq.t.size (.mem b' off')=some csq->Rep w O dq.t (Eo q sh) dq.x csq F' ->Ch w w' b' off' dq.t.size F' ->
  goto w p t src=some r->(Qv p q=false->goto w' p t src=some r)/\(LB p q=false->goto w' p t src=some r/\Al w' r.1.size r.2=Al w r.1.size r.2)
 |p,[],t,sh,x,cs,F,src,d,dq,b',off',F',csq,r,_,_,_,_,_,_,_,_,_,_,_,hgo=>by
  refine ⟨fun hv=>?_,fun hv=>?_⟩
  ·cases p with
   |nil=>exact hgo
   |cons s p=>rw [JV (s::p) (w:=w) (by simpa [Qv] using hv)];exact hgo
  ·cases p with
   |nil=>simp [LB] at hv
   |cons s p=>simp [LB] at hv
 |[],st::q,t,sh,x,cs,F,src,d,dq,b',off',F',csq,r,h,hcs,hblk,_,_,hok,hget,hg,hq,hr,hch,hgo=>by
  simp only [goto] at hgo ⊢;refine ⟨fun _=>hgo,fun hv=>⟨hgo,?_⟩⟩;injection hgo with hgo
  subst hgo;have hv':via (st::q)=true:=by simpa [LB] using hv
  have f:=Mp h hcs hblk hok hget hg hq hr;have hin:=QJ (st::q) h hcs hok hget hv' hg;rw [hcs];cases src with
  |val c=>exact hcs
  |mem sb so=>exact hch.cellsAt_other hcs (fun hf=>(hblk sb rfl).1 (f.1 sb hf)) (.inl fun e=>(hblk sb rfl).1 (e▸hin))
 |sp::p,sq::q,t,sh,x,cs,F,src,d,dq,b',off',F',csq,r,h,hcs,hblk,hokp,hgetp,hok,hget,hg,hq,hr,hch,hgo=>by
  have f:=Mp h hcs hblk hok hget hg hq hr;cases t with
  |int k=>cases sp<;>simp [AB] at hgetp
  |bool=>cases sp<;>simp [AB] at hgetp
  |str=>cases sp<;>simp [AB] at hgetp
  |unit=>cases sp<;>simp [AB] at hgetp
  |pair u v=>
   have hlen:=h.len;obtain ⟨c₁,c₂,F₁,F₂,hc,h1,h2,hU,hd⟩:=h;have hl1:=h1.len
   have hsv:∀ c,src = .val c->c.length=u.size+v.size:=by
    rintro c rfl;simp [Al] at hcs;rw [hcs,hlen];rfl
   have e1:cs.take u.size=c₁:=by rw [hc,<-hl1];simp
   have e2:cs.drop u.size=c₂:=by rw [hc,<-hl1];simp
   have hcl:Al w u.size (src.left u.size)=some c₁:=e1▸Ec hcs hsv;have hcr:Al w v.size (src.right u.size)=some c₂:=e2▸DI hcs hsv;have hbl:∀ b,(src.left u.size).blk b->¬F₁ b/\O b:=fun b hb=>⟨fun hf=>(hblk b (Src.left_blk.1 hb)).1 ((hU b).2 (.inl hf)),(hblk b (Src.left_blk.1 hb)).2⟩
   have hbr:∀ b,(src.right u.size).blk b->¬F₂ b/\O b:=fun b hb=>⟨fun hf=>(hblk b (Src.right_blk.1 hb)).1 ((hU b).2 (.inr hf)),(hblk b (Src.right_blk.1 hb)).2⟩
   cases sp with
   | «at» n=>simp [AB] at hgetp
   |l=>
    cases sq with
    | «at» n=>simp [AB] at hget
    |l=>exact Mq p q h1 hcl hbl hokp hgetp hok hget hg hq hr hch hgo
    |r=>
     have g:=Mp h2 hcr hbr hok hget hg hq hr
     obtain ⟨k1,k2⟩:=LG h1 hcl hch (fun b hb=>⟨fun e=>g.2.1.elim (fun hs=>(hblk b' (Src.right_blk.1 hs)).1 ((hU b').2 (.inl (e▸hb)))) (fun hf=>hd b' ⟨e▸hb,hf⟩),fun hf=>hd b ⟨hb,g.1 b hf⟩⟩)
      (by
       intro sb so hs;have hsb:src.blk sb:=Src.left_blk.1 (by rw [hs];rfl:(src.left u.size).blk sb);refine ⟨fun hf=>(hblk sb hsb).1 ((hU sb).2 (.inr (g.1 sb hf))),?_⟩;by_cases hb:sb=b'
       ·subst hb;cases src with
        |val c=>cases hs
        |mem c o=>
         simp only [Src.left] at hs;injection hs with e1 e2
         subst e1 e2;exact .inr (.inl (g.2.2.2.2 _ rfl).1)
       ·exact .inl hb)
     have:=Gh p h1 hcl k1 hokp hgetp k2 hgo;exact ⟨fun _=>this.1,fun _=>this⟩
   |r=>
    cases sq with
    | «at» n=>simp [AB] at hget
    |r=>exact Mq p q h2 hcr hbr hokp hgetp hok hget hg hq hr hch hgo
    |l=>
     have g:=Mp h1 hcl hbl hok hget hg hq hr
     obtain ⟨k1,k2⟩:=LG h2 hcr hch (fun b hb=>⟨fun e=>g.2.1.elim (fun hs=>(hblk b' (Src.left_blk.1 hs)).1 ((hU b').2 (.inr (e▸hb)))) (fun hf=>hd b' ⟨hf,e▸hb⟩),fun hf=>hd b ⟨g.1 b hf,hb⟩⟩)
      (by
       intro sb so hs;have hsb:src.blk sb:=Src.right_blk.1 (by rw [hs];rfl:(src.right u.size).blk sb);refine ⟨fun hf=>(hblk sb hsb).1 ((hU sb).2 (.inl (g.1 sb hf))),?_⟩;by_cases hb:sb=b'
       ·subst hb;cases src with
        |val c=>cases hs
        |mem c o=>
         simp only [Src.right] at hs;injection hs with e1 e2
         subst e1 e2;exact .inr (.inr (g.2.2.2.2 _ rfl).2)
       ·exact .inl hb)
     have:=Gh p h2 hcr k1 hokp hgetp k2 hgo;exact ⟨fun _=>this.1,fun _=>this⟩
  |slice e=>
   cases sp with
   |l=>simp [AB] at hgetp
   |r=>simp [AB] at hgetp
   | «at» i=>
   cases sq with
   |l=>simp [AB] at hget
   |r=>simp [AB] at hget
   | «at» j=>
    have hin:=QJ (.at j::q) h hcs hok hget rfl hg
    have hhead:Al w' 1 src=some cs:=by
     cases src with
     |val c=>exact hcs
     |mem sb so=>exact hch.cellsAt_other hcs (fun hf=>(hblk sb rfl).1 (f.1 sb hf)) (.inl fun e=>(hblk sb rfl).1 (e▸hin))
    cases sh with
    |z=>simp [Be] at hok
    |gone=>simp [Be] at hok
    |pr u v=>simp [Be] at hok
    |own s=>
     simp only [Be] at hok hokp;cases hx:(Bu x)[i]? with
     |none=>simp [AB,hx] at hgetp
     |some xi=>
     cases hy:(Bu x)[j]? with
     |none=>simp [AB,hy] at hget
     |some xj=>
      simp only [AB,hx] at hgetp;simp only [AB,hy] at hget;have hi:i<(Bu x).length:=(List.getElem?_eq_some_iff.1 hx).1;have hj:j<(Bu x).length:=(List.getElem?_eq_some_iff.1 hy).1;rcases h with ⟨_,hnil,_⟩ | ⟨b,off,cap,C,tid,fr,G,hc,hl,hb,hfr,hsz,hel,hU,hdb,hOb⟩
      ·rw [show Bu x=[] from hnil] at hi;simp at hi
      ·have hmul:(Bu x).length*e.size<=cap*e.size:=Nat.mul_le_mul_right _ hl
       have hcell:∀ n,n<(Bu x).length->Al w e.size (.mem b (off+n*e.size))=some ((((C.toList.drop off).take ((Bu x).length*e.size)).drop (n*e.size)).take e.size):=by
        intro n hn
        have hmul':n*e.size+e.size<=(Bu x).length*e.size:=by
         have:=Nat.mul_le_mul_right e.size (show n+1<=(Bu x).length from hn);rw [Nat.succ_mul] at this;omega
        rw [Cc hb (by omega),List.drop_take,List.drop_drop,List.take_take,Nat.min_eq_left (by omega)]
       simp only [goto] at hgo hg ⊢;rw [hhead,hc];rw [show Al w 1 src=some cs from hcs,hc] at hgo hg;by_cases hij:i=j
       ·subst hij;rw [hx] at hy;injection hy with hy
        subst hy;obtain ⟨hlc,G',hy,hG',_⟩:=Els.pick (sz:=e.size) (fun _ _ _ h=>h.len) hel hx;refine Mq p q hy (hcell i hi) ?_ hokp hgetp hok hget hg hq hr hch hgo;rintro k rfl;exact ⟨fun hf=>hdb (hG' _ hf),hOb⟩
       ·obtain ⟨Fi,Fj,ri,rj,hFi,hFj,hdis⟩:=Els.two (sz:=e.size) (fun _ _ _ h=>h.len) hel hij hx hy;have g:=Mp rj (hcell j hj) (by rintro k rfl;exact ⟨fun hf=>hdb (hFj _ hf),hOb⟩) hok hget hg hq hr
        obtain ⟨k1,k2⟩:=LG ri (hcell i hi) hch (fun c hc=>⟨fun e=>g.2.1.elim (fun hs=>hdb (hFi _ (by rw [<-show b'=b from hs,<-e];exact hc))) (fun hf=>hdis b' ⟨e▸hc,hf⟩),fun hf=>hdis c ⟨hc,g.1 c hf⟩⟩)
         (by
          intro sb so hs;injection hs with e1 e2
          subst e1 e2;refine ⟨fun hf=>hdb (hFj _ (g.1 _ hf)),?_⟩;by_cases hbb:b=b'
          ·subst hbb;have:=g.2.2.2.2 _ rfl;rcases Nat.lt_or_gt_of_ne hij with hlt | hlt
           ·right;left;have h2:=Nat.mul_le_mul_right e.size (show i+1<=j from hlt);rw [Nat.succ_mul] at h2;omega
           ·right;right;have h2:=Nat.mul_le_mul_right e.size (show j+1<=i from hlt);rw [Nat.succ_mul] at h2;omega
          ·exact .inl hbb)
        have:=Gh p ri (hcell i hi) k1 hokp hgetp k2 hgo;exact ⟨fun _=>this.1,fun _=>this⟩
end Go.V
namespace Go.V
variable {α:Type}
variable {P:Program} {env:Bf} {w₀ w w':World} {O₀ O₁ W O O':Ab} {σ σ₀ σ' σ₁:St} {γ γ':Name->Src} {φ φ':Name->Ab} {a a':Act} {n:Name}
theorem Mr:∀ (q:Bi) {t:Ty} {x:t.den} {d:Hd} {x':t.den},BT q t x d some=some x' ->∃ d',AB q t x some=some d' /\d'.t=d.t
 |[],t,x,d,x',h=>by
  simp only [BT] at h;split at h
  ·rename_i e;exact ⟨⟨t,x⟩,rfl,e.symm⟩
  ·cases h
 |.l::q,t,x,d,x',h=>by
  cases t<;>simp only [BT] at h<;>try (cases h;done)
  obtain ⟨y,hy,_⟩:=BE h;exact Mr q hy
 |.r::q,t,x,d,x',h=>by
  cases t<;>simp only [BT] at h<;>try (cases h;done)
  obtain ⟨y,hy,_⟩:=BE h;exact Mr q hy
 |.at i::q,t,x,d,x',h=>by
  cases t<;>simp only [BT] at h<;>try (cases h;done)
  split at h
  ·rename_i y hx;obtain ⟨y',hy,_⟩:=BE h;obtain ⟨d',h1,h2⟩:=Mr q hy;exact ⟨d',by simp only [AB,hx];exact h1,h2⟩
  ·cases h
theorem UD:∀ (p q:Bi) {sh n sh':Sh},BS q sh n=some sh' ->Be p sh'=true->(Qv p q=false\/LB p q=false)->Be p sh=true
 |p,[],sh,n,sh',h,hok,hh=>by
  rcases hh with hh | hh
  ·cases p with
   |nil=>rfl
   |cons s p=>exact KL (s::p) sh (by simpa [Qv] using hh)
  ·cases p<;>simp [LB] at hh
 |[],_::_,sh,n,sh',h,hok,hh=>rfl
 |.l::p,.l::q,sh,n,sh',h,hok,hh=>by
  simp only [BS] at h;obtain ⟨s,hs,rfl⟩:=Option.map_eq_some_iff.1 h;simp only [Be,Sh.mk_l] at hok ⊢;exact UD p q hs hok hh
 |.r::p,.r::q,sh,n,sh',h,hok,hh=>by
  simp only [BS] at h;obtain ⟨s,hs,rfl⟩:=Option.map_eq_some_iff.1 h;simp only [Be,Sh.mk_r] at hok ⊢;exact UD p q hs hok hh
 |.l::p,.r::q,sh,n,sh',h,hok,hh=>by
  simp only [BS] at h;obtain ⟨s,hs,rfl⟩:=Option.map_eq_some_iff.1 h;simpa only [Be,Sh.mk_l] using hok
 |.r::p,.l::q,sh,n,sh',h,hok,hh=>by
  simp only [BS] at h;obtain ⟨s,hs,rfl⟩:=Option.map_eq_some_iff.1 h;simpa only [Be,Sh.mk_r] using hok
 |s::p,.at j::q,sh,n,sh',h,hok,hh=>by
  cases sh<;>simp only [BS] at h<;>try (cases h;done)
  split at h
  ·injection h with h;subst h;exact hok
  ·cases h
 |.at i::p,.l::q,sh,n,sh',h,hok,hh=>by
  simp only [BS] at h;obtain ⟨s,hs,rfl⟩:=Option.map_eq_some_iff.1 h;cases hm:Sh.mk s sh.r<;>rw [hm] at hok<;>simp only [Be] at hok<;>try (cases hok;done)
  cases s<;>cases hr:sh.r<;>rw [hr] at hm<;>simp [Sh.mk] at hm
 |.at i::p,.r::q,sh,n,sh',h,hok,hh=>by
  simp only [BS] at h;obtain ⟨s,hs,rfl⟩:=Option.map_eq_some_iff.1 h;cases hm:Sh.mk sh.l s<;>rw [hm] at hok<;>simp only [Be] at hok<;>try (cases hok;done)
  cases s<;>cases hr:sh.l<;>rw [hr] at hm<;>simp [Sh.mk] at hm
theorem Ms:∀ (p q:Bi) {t tp:Ty} {x:t.den} {d:Hd} {x':t.den} {d₂:Hd},BT q t x d some=some x' ->AB p t x' some=some d₂->Gu p t=some tp->(Qv p q=false\/LB p q=false)->
  ∃ d₃,AB p t x some=some d₃
 |p,[],t,tp,x,d,x',d₂,h,hget,htp,hh=>by
  rcases hh with hh | hh
  ·cases p with
   |nil=>exact ⟨_,rfl⟩
   |cons s p=>exact LF (s::p) x (by simpa [Qv] using hh) htp
  ·cases p<;>simp [LB] at hh
 |[],_::_,t,tp,x,d,x',d₂,h,hget,htp,hh=>⟨_,rfl⟩
 |sp::p,sq::q,t,tp,x,d,x',d₂,h,hget,htp,hh=>by
  cases t with
  |int k=>cases sp<;>simp [AB] at hget
  |bool=>cases sp<;>simp [AB] at hget
  |str=>cases sp<;>simp [AB] at hget
  |unit=>cases sp<;>simp [AB] at hget
  |pair u v=>
   cases sp with
   | «at» i=>simp [AB] at hget
   |l=>
    cases sq with
    | «at» j=>simp [BT] at h
    |l=>
     simp only [BT] at h;obtain ⟨y,hy,e⟩:=BE h;injection e with e
     subst e;exact Ms p q hy hget htp hh
    |r=>
     simp only [BT] at h;obtain ⟨y,hy,e⟩:=BE h;injection e with e
     subst e;exact ⟨d₂,hget⟩
   |r=>
    cases sq with
    | «at» j=>simp [BT] at h
    |r=>
     simp only [BT] at h;obtain ⟨y,hy,e⟩:=BE h;injection e with e
     subst e;exact Ms p q hy hget htp hh
    |l=>
     simp only [BT] at h;obtain ⟨y,hy,e⟩:=BE h;injection e with e
     subst e;exact ⟨d₂,hget⟩
  |slice e=>
   cases sp with
   |l=>simp [AB] at hget
   |r=>simp [AB] at hget
   | «at» i=>
    cases sq with
    |l=>simp [BT] at h
    |r=>simp [BT] at h
    | «at» j=>
     simp only [BT] at h;split at h
     case h_2=>cases h
     case h_1 y hx=>
      obtain ⟨y',hy,e'⟩:=BE h;injection e' with e'
      subst e';simp only [AB] at hget ⊢;by_cases hij:j=i
      ·subst hij;have hj:=(List.getElem?_eq_some_iff.1 hx).1;rw [List.getElem?_set_self hj] at hget;rw [hx];exact Ms p q hy hget htp hh
      ·rw [List.getElem?_set_ne hij] at hget;exact ⟨d₂,hget⟩
theorem St.root_lose (σ:St) (n:Name) (q:Bi) (m:Name):(σ.lose n q).root m=(σ.root m).map (AV.lose n q):=Er _ _ _
theorem St.slot_lose (σ:St) (n:Name) (q:Bi) (i:Nat):(σ.lose n q).slot i=(σ.slot i).lose n q:=by
 unfold St.slot St.lose;dsimp only;rw [Er];cases look σ.slots i<;>rfl
theorem St.root_put (σ:St) (n:Name) (r:AV) (m:Name):(σ.put n r).root m=if m=n then some r else σ.root m:=by
 unfold St.root St.put;dsimp only;simp only [look];by_cases h:m=n
 ·subst h;simp
 ·rw [Dn (fun e=>h e.symm),if_neg h,EV,if_neg h]
theorem St.slot_put (σ:St) (n:Name) (r:AV) (i:Nat):(σ.put n r).slot i=σ.slot i:=rfl
theorem QK {n:Name} {q:Bi}:∀ {l:List Slot} {i:Nat} {s:Slot},Slot.hitL n q l=false->l[i]? = some s->s.hit n q=false
 |[],i,s,_,hs=>by simp at hs
 |x::xs,0,s,h,hs=>by simp at hs;subst hs;simp only [Slot.hitL,Bool.or_eq_false_iff] at h;exact h.1
 |x::xs,i+1,s,h,hs=>by simp only [Slot.hitL,Bool.or_eq_false_iff] at h;exact QK h.2 (by simpa using hs)
theorem Bz.congr {p:CH} (h:∀ b d sh,σ'.root p.name=some (.data b d sh)↔σ.root p.name=some (.data b d sh)) {t:Ty} {src:Src} (hp:Bz w σ γ p t src):Bz w σ' γ p t src:=by
 obtain ⟨b,d,sh,hr,htp,hg⟩:=hp;refine ⟨b,d,sh,(h b d sh).2 hr,htp,fun ⟨b',d₂,sh₂,d',hr',hL⟩=>hg ⟨b',d₂,sh₂,d',(h _ _ _).1 hr',hL⟩⟩
theorem Da.congr {p:CH} (h:∀ b d sh,σ'.root p.name=some (.data b d sh)↔σ.root p.name=some (.data b d sh)) (hL:Da σ' p):Da σ p:=by
 obtain ⟨b',d₂,sh₂,d',hr',hL⟩:=hL;exact ⟨b',d₂,sh₂,d',(h _ _ _).1 hr',hL⟩
end Go.V
namespace Go.V
variable {α:Type}
variable {P:Program} {env:Bf} {w₀ w w':World} {O₀ O₁ W O O':Ab} {σ σ₀ σ' σ₁:St} {γ γ':Name->Src} {φ φ':Name->Ab} {a a':Act} {n:Name}
theorem Sim.rootRep (S:Sim P env w₀ O₀ W σ γ φ O a w) {b:Bool} {d:Hd} {sh:Sh} (hr:σ.root n=some (.data b d sh)) :
  ∃ cs F,Rep w O d.t sh d.x cs F/\Al w d.t.size (γ n)=some cs/\(∀ k,(γ n).blk k->¬F k/\O k)/\(∀ k,F k->φ n k)/\(∀ k,(γ n).blk k->φ n k)/\(∀ k,φ n k->(γ n).blk k\/F k)/\
   ∀ k,φ n k->∃ C tid fr,w.heap[k]? = some (.cells C tid fr)/\∀ i,i<C.size->¬(fr.1<=i/\i<fr.2):=by
 have R:=S.roots n _ hr;cases b with
 |true=>
  obtain ⟨b,off,C,tid,fr,cs,F',hsrc,hb,hfr,hcs,hrep,hF',hOb,hU⟩:=R;rw [hsrc];refine ⟨cs,F',hrep,hcs,?_,fun k hk=>(hU k).2 (.inr hk),?_,fun k hk=>(hU k).1 hk,fun k hk=>?_⟩
  ·rintro k rfl;exact ⟨hF',hOb⟩
  ·rintro k rfl;exact (hU _).2 (.inl rfl)
  ·rcases (hU k).1 hk with rfl | h
   ·exact ⟨C,tid,fr,hb,hfr⟩
   ·exact hrep.clear k h
 |false=>
  obtain ⟨cs,hsrc,hrep⟩:=R;rw [hsrc];exact ⟨cs,φ n,hrep,rfl,fun k hk=>hk.elim,fun _ h=>h,fun k hk=>hk.elim,fun k hk=>.inr hk,fun k hk=>hrep.clear k hk⟩
theorem Sim.writeG (S:Sim P env w₀ (fun b=>O₀ b\/O₁ b) W σ γ φ O a w) {b:Bool} {d:Hd} {sh:Sh} {q:Bi} {d':Hd} (hr:σ.root n=some (.data b d sh)) (hok:Be q sh=true)
  (hget:AB q d.t d.x some=some d') {b' off':Nat} (hg:goto w q d.t (γ n)=some (d'.t,.mem b' off')) {cs':List Value} {F':Ab} (hcs':Al w d'.t.size (.mem b' off')=some cs') (hrep':Rep w O d'.t (Eo q sh) d'.x cs' F')
  {y:d'.t.den} {shy:Sh} {cy:List Value} {G:Ab} (hch:Ch w w' b' off' d'.t.size F') (hcell':Al w' d'.t.size (.mem b' off')=some cy) (K:AF (fun k=>k=b' \/F' k) w w')
  (hG:∀ k,G k->F' k\/w.heap.size<=k\/O₁ k) (hO₁G:∀ k,O₁ k->G k) (hF₁:∀ b,O₁ b->¬O₀ b/\(w₀.heap.size<=b\/W b))
  (hrepY:∀ O':Ab,(∀ k,O' k->(O k/\¬F' k)\/G k)->(∀ k,G k->O' k)->Rep w' O' d'.t shy y cy G)
  {x':d.t.den} (hset:BT q d.t d.x ⟨d'.t,y⟩ some=some x') {sh'':Sh} (hsh:BS q sh shy=some sh'') :
  ∃ φ' O',Sim P env w₀ O₀ W ((σ.lose n q).put n (.data b ⟨d.t,x'⟩ sh'')) γ φ' O' a w' :=by
 obtain ⟨cs,F,hR,hcs,hblk,hFφ,hblkφ,hφ,hclear⟩:=S.rootRep hr;obtain ⟨src',cs₀,F₀,hg',hcs₀,hrep₀,hF',hb',hin,hrng,hback⟩:=Rep.zip q hR hcs hblk hok hget;rw [hg] at hg';injection hg' with hg'
 injection hg' with _ hg'
 subst hg';rw [hcs'] at hcs₀;injection hcs₀ with hcs₀
 subst hcs₀;have hFF:F₀=F' :=funext fun k=>propext (Rep.det hrep₀ hrep' k)
 subst hFF;have hφb':φ n b' :=(hin b' rfl).elim (hblkφ b') (hFφ b');have hOb':O b' :=(hb' b' rfl).2;have hnF'b':¬F₀ b' :=(hb' b' rfl).1;have hF'φ:∀ k,F₀ k->φ n k:=fun k hk=>hFφ k (hF' k hk)
 have hO₁φ:∀ m r,σ.root m=some r->∀ k,φ m k->¬O₁ k:=fun m r hm k hk h=>(S.fresh m r hm k hk).2 (.inr h)
 have hGm:∀ m r,m≠n->σ.root m=some r->∀ k,φ m k->¬G k:=fun m r hmn hm k hk h=>by
  rcases hG k h with h | h | h
  ·exact S.apart m n _ _ hm hr hmn k ⟨hk,hF'φ k h⟩
  ·exact absurd ((S.roots m r hm).lt hk) (by omega)
  ·exact hO₁φ m r hm k hk h
 have hGn:∀ k,φ n k->G k->F₀ k:=fun k hk h=>by
  rcases hG k h with h | h | h
  ·exact h
  ·exact absurd ((S.roots n _ hr).lt hk) (by omega)
  ·exact (hO₁φ n _ hr k hk h).elim
 have hGO₀:∀ k,G k->¬O₀ k:=fun k h ho=>by
  rcases hG k h with h | h | h
  ·exact (S.fresh n _ hr k (hF'φ k h)).2 (.inl ho)
  ·exact absurd (S.old k (.inl ho)) (by omega)
  ·exact (hF₁ k h).1 ho
 let σ':St:=(σ.lose n q).put n (.data b ⟨d.t,x'⟩ sh'')
 let φ':Name->Ab:=fun m=>if m=n then (fun k=>(φ n k/\¬F₀ k)\/G k) else φ m
 let O':Ab:=fun b=>O₀ b\/∃ m r,σ'.root m=some r/\φ' m b
 have hφn:φ' n=fun k=>(φ n k/\¬F₀ k)\/G k:=by simp [φ']
 have hφm:∀ m,m≠n->φ' m=φ m:=fun m hm=>by simp [φ',hm]
 have hrn:σ'.root n=some (.data b ⟨d.t,x'⟩ sh''):=by rw [St.root_put,if_pos rfl]
 have hrm:∀ m,m≠n->σ'.root m=(σ.root m).map (AV.lose n q):=fun m hm=>by rw [St.root_put,if_neg hm,St.root_lose]
 have hback₀:∀ m r,m≠n->σ'.root m=some r->∃ r₀,σ.root m=some r₀/\r=r₀.lose n q:=by
  intro m r hm h;rw [hrm m hm] at h;cases hs:σ.root m with
  |none=>rw [hs] at h;cases h
  |some r₀=>rw [hs] at h;injection h with h;exact ⟨r₀,rfl,h.symm⟩
 have hfwd:∀ m r₀,m≠n->σ.root m=some r₀->σ'.root m=some (r₀.lose n q):=fun m r₀ hm h=>by rw [hrm m hm,h];rfl
 have hdata:∀ m,m≠n->∀ b d sh,σ'.root m=some (.data b d sh)↔σ.root m=some (.data b d sh):=by
  intro m hm b d sh;constructor
  ·intro h;obtain ⟨r₀,h1,h2⟩:=hback₀ m _ hm h;cases r₀ with
   |held s=>cases h2
   |data b₂ d₂ sh₂=>rw [h1];exact congrArg some h2.symm
  ·intro h;exact hfwd m _ hm h
 have hfree:∀ k,k<w.heap.size->¬O k->¬O' k:=by
  rintro k hk hO (h | ⟨m,r,h1,h2⟩)
  ·exact hO ((S.own k).2 (.inl (.inl h)))
  ·by_cases hm:m=n
   ·subst hm;rw [hφn] at h2;rcases h2 with h2 | h2
    ·exact hO ((S.own k).2 (.inr ⟨m,_,hr,h2.1⟩))
    ·rcases hG k h2 with h2 | h2 | h2
     ·exact hO ((S.own k).2 (.inr ⟨m,_,hr,hF'φ k h2⟩))
     ·omega
     ·exact hO ((S.own k).2 (.inl (.inr h2)))
   ·rw [hφm m hm] at h2;obtain ⟨r₀,h3,_⟩:=hback₀ m r hm h1;exact hO ((S.own k).2 (.inr ⟨m,r₀,h3,h2⟩))
 have hkeep:∀ k,O k->¬F₀ k->O' k:=by
  intro k hO hn;rcases (S.own k).1 hO with (h | h) | ⟨m,r,h1,h2⟩
  ·exact .inl h
  ·exact .inr ⟨n,_,hrn,by rw [hφn];exact .inr (hO₁G k h)⟩
  ·by_cases hm:m=n
   ·subst hm;exact .inr ⟨m,_,hrn,by rw [hφn];exact .inl ⟨h2,hn⟩⟩
   ·exact .inr ⟨m,_,hfwd m r hm h1,by rw [hφm m hm];exact h2⟩
 have hfr':∀ k,k<w.heap.size->¬O k->w'.heap[k]? = w.heap[k]?:=fun k hk hO=>K.block k hk fun e=>hO (e.elim (fun e=>e▸hOb') fun h=>(hrep₀.owned k h).1)
 have hG':∀ k,G k->O' k:=fun k hk=>.inr ⟨n,_,hrn,by rw [hφn];exact .inr hk⟩
 have hnGb':¬G b' :=fun h=>hnF'b' (hGn b' hφb' h)
 have hle:∀ k,O' k->(O k/\¬F₀ k)\/G k:=by
  rintro k (h | ⟨m,r,h1,h2⟩)
  ·exact .inl ⟨(S.own k).2 (.inl (.inl h)),fun hf=>(S.fresh n _ hr k (hF'φ k hf)).2 (.inl h)⟩
  ·by_cases hm:m=n
   ·subst hm;rw [hφn] at h2;exact h2.imp (fun h=>⟨(S.own k).2 (.inr ⟨m,_,hr,h.1⟩),h.2⟩) id
   ·obtain ⟨r₀,h3,_⟩:=hback₀ m r hm h1;rw [hφm m hm] at h2;exact .inl ⟨(S.own k).2 (.inr ⟨m,r₀,h3,h2⟩),fun hf=>S.apart m n _ _ h3 hr hm k ⟨h2,hF'φ k hf⟩⟩
 obtain ⟨cs₂,hcs₂,hrep₂⟩:=hback w' O' G b' off' shy sh'' y cy x' rfl
  ⟨hch,hcell',fun k hk h=>h.2 (hGn k (hFφ k h.1) hk),fun k hk h=>(hblk k h).1 (hF' k (hGn k (hblkφ k h) hk)),hnGb',hfree,hkeep⟩ (hrepY O' hle hG') hset hsh
 have same:∀ m r,m≠n->σ.root m=some r->∀ k,φ m k->w'.heap[k]? = w.heap[k]?:=by
  intro m r hm hr' k hk;exact K.block k ((S.roots m r hr').lt hk) fun e=>S.apart m n _ _ hr' hr hm k ⟨hk,e.elim (fun e=>by rw [show k=b' from e];exact hφb') (hF'φ k)⟩
 have A:Iu w w' O O' σ (σ.lay n (.data b ⟨d.t,x'⟩ sh'')) γ γ φ φ' n:=
  ⟨K.mono fun k _ hk=>⟨⟨_,hr⟩,hk.elim (fun hk=>by rw [show k=b' from hk];exact hφb') (hF'φ k)⟩,hfree,fun m hm=>by rw [St.root_lay,if_neg hm],fun _ _=>rfl,hφm⟩
 have hlayData:∀ m,m≠n->∀ b₂ d₂ sh₂,σ'.root m=some (.data b₂ d₂ sh₂)↔(σ.lay n (.data b ⟨d.t,x'⟩ sh'')).root m=some (.data b₂ d₂ sh₂):=by
  intro m hm b₂ d₂ sh₂;rw [hdata m hm,St.root_lay,if_neg hm];cases hs:σ.root m with
  |none=>simp
  |some r=>cases r<;>simp [AV.kill]
 have atN:∀ {p:Bi} {t:Ty} {src:Src},Bz w σ γ ⟨n,p⟩ t src->(Qv p q=false\/LB p q=false)->
   Bz w' σ' γ ⟨n,p⟩ t src/\(Da σ' ⟨n,p⟩->Da σ ⟨n,p⟩/\(LB p q=false->Al w' t.size src=Al w t.size src)):=by
  rintro p t src ⟨b₂,d₂,sh₂,hr₂,htp,hgo⟩ hh;dsimp only at hr₂ htp hgo;rw [hr] at hr₂;injection hr₂ with hr₂
  injection hr₂ with e1 e2 e3
  subst e1 e2 e3
  have lb:Da σ' ⟨n,p⟩->Da σ ⟨n,p⟩/\goto w' p d.t (γ n)=some (t,src)/\(LB p q=false->Al w' t.size src=Al w t.size src):=by
   rintro ⟨b₃,d₃,sh₃,d₄,hr₃,hok₃,hget₃⟩;dsimp only at hr₃ hok₃ hget₃;rw [hrn] at hr₃;injection hr₃ with hr₃
   injection hr₃ with e1 e2 e3
   subst e1 e2 e3;have h1:=UD p q hsh hok₃ hh;obtain ⟨d₅,h2⟩:=Ms p q hset hget₃ htp hh;have hL:Da σ ⟨n,p⟩:=⟨b,d,sh,d₅,hr,h1,h2⟩;have ws:=Mq p q hR hcs hblk h1 h2 hok hget hg hcs' hrep₀ hch (hgo hL);refine ⟨hL,?_,fun hv=>(ws.2 hv).2⟩;rcases hh with hh | hh
   ·exact ws.1 hh
   ·exact (ws.2 hh).1
  exact ⟨⟨b,⟨d.t,x'⟩,sh'',hrn,htp,fun hL=>(lb hL).2.1⟩,fun hL=>⟨(lb hL).1,(lb hL).2.2⟩⟩
 have hnm:∀ {p:CH},¬Nat.beq p.name n=true->p.name≠n:=by
  intro p h e;rw [e] at h;simp at h
 have stay:∀ {s:Slot} {v:Value},Ak P w O σ γ s v->s.hit n q=false->Ak P w' O' σ' γ s v:=by
  intro s v h
  have frame:∀ {t:Ty} {x:t.den} {cs:List Value},Rep w O t .z x cs Ab.none->Rep w' O' t .z x cs Ab.none:=fun hr=>
   Rep.frame K.size hfr' (fun _ h=>h.elim) hfree (fun _ h=>h.elim) hr
  induction h with
  |undef v=>intro _;exact .undef v
  |pv d v cs hv hr=>intro _;exact .pv d v cs hv (frame hr)
  |ref t p v src hp hl=>
   intro hh;by_cases hn:Nat.beq p.name n=true
   ·simp only [Slot.hit,hn] at hh;have hn':p.name=n:=Nat.eq_of_beq_eq_true hn;obtain ⟨pn,pp⟩:=p;dsimp only at hn' hh;subst hn';obtain ⟨h1,h2⟩:=atN hp (.inr hh);refine .ref t _ v src h1 fun hL=>?_
    obtain ⟨hL',h3⟩:=h2 hL;obtain ⟨cs,hcs,hv⟩:=hl hL';exact ⟨cs,(h3 hh).trans hcs,hv⟩
   ·have hn' :=hnm hn;have hpa:=A.placeAt S hn' hp;refine .ref t p v src (Bz.congr (hlayData _ hn') hpa) fun hL=>?_
    have hL' :=Da.congr (hdata _ hn') hL;obtain ⟨cs,hcs,hv⟩:=hl hL';obtain ⟨b,d,sh,hr,_,hg⟩:=hp;exact ⟨cs,((A.way S hn' hr hL' (hg hL')).2 _).trans hcs,hv⟩
  |vw e p lo hi src an k c hp hl h1 h2=>
   intro hh;by_cases hn:Nat.beq p.name n=true
   ·simp only [Slot.hit,hn] at hh;have hn':p.name=n:=Nat.eq_of_beq_eq_true hn;obtain ⟨pn,pp⟩:=p;dsimp only at hn' hh;subst hn';obtain ⟨g1,g2⟩:=atN hp (.inr hh);refine .vw e _ lo hi src an k c g1 (fun hL=>?_) h1 h2;obtain ⟨hL',h3⟩:=g2 hL;exact (h3 hh).trans (hl hL')
   ·have hn' :=hnm hn;have hpa:=A.placeAt S hn' hp;refine .vw e p lo hi src an k c (Bz.congr (hlayData _ hn') hpa) (fun hL=>?_) h1 h2;have hL' :=Da.congr (hdata _ hn') hL;obtain ⟨b,d,sh,hr,_,hg⟩:=hp;exact ((A.way S hn' hr hL' (hg hL')).2 _).trans (hl hL')
  |ptr p t b off hp=>
   intro hh;by_cases hn:Nat.beq p.name n=true
   ·simp only [Slot.hit,hn] at hh;have hn':p.name=n:=Nat.eq_of_beq_eq_true hn;obtain ⟨pn,pp⟩:=p;dsimp only at hn' hh;subst hn';exact .ptr _ t b off (atN hp (.inl hh)).1
   ·have hn' :=hnm hn;exact .ptr p t b off (Bz.congr (hlayData _ hn') (A.placeAt S hn' hp))
  |ptrH m s b off hr' hs=>
   intro hh;have hn:m≠n:=by rintro rfl;rw [hr] at hr';cases hr'
   exact .ptrH m (s.lose n q) b off (hfwd m _ hn hr') hs
  |fptr d b off cs h1 h2 h3 h4=>
   intro _;refine .fptr d b off cs (Nat.lt_of_lt_of_le h1 K.size) (hfree b h1 h2) (frame h3) fun k hk=>?_
   rw [<-h4 k hk];simp only [World.cell?,hfr' b h1 h2]
  |clo f caps vs hl hall ih=>intro hh;exact .clo f caps vs hl fun i s v hs hv=>ih i s v hs hv (QK hh hs)
  |fnA a b φ v w₀' O₀' hf hk ho hfn=>
   intro _;refine .fnA a b φ v w₀' O₀' hf (hk.trans K fun k hlt hkb=>ho k hlt (hkb.elim (fun hkb=>by rw [show k=b' from hkb];exact hOb') fun h=>(hrep₀.owned k h).1)) (fun b hb hO=>?_) hfn;exact ho b hb (Classical.byContradiction fun hn=>hfree b (Nat.lt_of_lt_of_le hb hk.size) hn hO)
  |tup l vs hl hall ih=>intro hh;exact .tup l vs hl fun i s v hs hv=>ih i s v hs hv (QK hh hs)
  |nilS=>intro _;exact .nilS
  |may e b h=>intro _;exact .may e b h
 have stay':∀ {s:Slot} {v:Value},Ak P w O σ γ s v->Ak P w' O' σ' γ (s.lose n q) v:=by
  intro s v h;unfold Slot.lose;split
  ·exact .undef v
  ·rename_i hh;exact stay h hh
 refine ⟨φ',O',S.defers,S.size,S.kept.trans K ?_,?_,?_,?_,fun b=>Iff.rfl,fun b hb=>Nat.lt_of_lt_of_le (S.old b (.inl hb)) K.size,fun i=>?_,fun b₁ hb₁ bx₁ d₁ sh₁ h₁=>?_⟩
 ·intro k hk hkb;have hφk:φ n k:=hkb.elim (fun hkb=>by rw [show k=b' from hkb];exact hφb') (hF'φ k);rcases (S.fresh n _ hr k hφk).1 with h | h
  ·omega
  ·exact h
 ·intro m r hm';by_cases hm:m=n
  ·subst hm;rw [hrn] at hm';injection hm' with hm'
   subst hm';rw [hφn];have R:=S.roots m _ hr;cases b with
   |true=>
    obtain ⟨bb,off,C₃,tid₃,fr₃,cs₃,F₃,hsrc,hb₃,hfr₃,hcs₃,hrep₃,hF₃,hOb₃,hU₃⟩:=R
    have hdet:∀ k,φ m k↔k=bb\/F k:=fun k=>by
     refine ⟨fun h=>?_,?_⟩
     ·rcases hφ k h with h | h
      ·rw [hsrc] at h;exact .inl h
      ·exact .inr h
     ·rintro (rfl | h)
      ·exact hblkφ _ (by rw [hsrc];rfl)
      ·exact hFφ k h
    have hnFbb:¬F bb:=(hblk bb (by rw [hsrc];rfl)).1;have hbb:φ m bb:=(hdet bb).2 (.inl rfl);have hnO:¬G bb:=fun h=>hnFbb (hF' _ (hGn bb hbb h))
    have hnew:∃ C₄,w'.heap[bb]? = some (.cells C₄ tid₃ fr₃)/\C₄.size=C₃.size:=by
     by_cases e:bb=b'
     ·subst e;obtain ⟨C',h1,h2,_⟩:=hch.block _ _ _ hb₃;exact ⟨C',h1,h2⟩
     ·exact ⟨C₃,(hch.other bb (Array.getElem?_eq_some_iff.1 hb₃).1 e fun h=>hnFbb (hF' _ h)).trans hb₃,rfl⟩
    obtain ⟨C₄,hb₄,hsz₄⟩:=hnew;refine ⟨bb,off,C₄,tid₃,fr₃,cs₂,_,hsrc,hb₄,by rw [hsz₄];exact hfr₃,by rw [<-hsrc];exact hcs₂,hrep₂,?_,?_,?_⟩
    ·rintro (h | h)
     ·exact hnFbb h.1
     ·exact hnO h
    ·exact .inr ⟨m,_,hrn,by rw [hφn];exact .inl ⟨hbb,fun h=>hnFbb (hF' _ h)⟩⟩
    ·intro k;constructor
     ·rintro (⟨h,hn⟩ | h)
      ·rcases (hdet k).1 h with h | h
       ·exact .inl h
       ·exact .inr (.inl ⟨h,hn⟩)
      ·exact .inr (.inr h)
     ·rintro (rfl | ⟨h,hn⟩ | h)
      ·exact .inl ⟨hbb,fun h=>hnFbb (hF' _ h)⟩
      ·exact .inl ⟨hFφ k h,hn⟩
      ·exact .inr h
   |false=>
    obtain ⟨cs₃,hsrc,hrep₃⟩:=R;rw [hsrc] at hcs₂;simp only [Al] at hcs₂;injection hcs₂ with hcs₂
    subst hcs₂;refine ⟨cs₃,hsrc,hrep₂.foot fun k=>?_⟩;have hFk:F k↔φ m k:=⟨hFφ k,fun h=>(hφ k h).resolve_left (by rw [hsrc];exact fun h=>h)⟩;rw [hFk]
  ·obtain ⟨r₀,hr₀,rfl⟩:=hback₀ m r hm hm';rw [hφm m hm];have R:=S.roots m _ hr₀;have sm:=same m _ hm hr₀;have hO'm:∀ k,φ m k->O' k:=fun k hk=>.inr ⟨m,_,hm',by rw [hφm m hm];exact hk⟩
   cases r₀ with
   |data bx d₂ sh₂=>
    cases bx with
    |true=>
     obtain ⟨b₂,off₂,C₂,tid₂,fr₂,cs₂,F₂,hsrc,hb₂,hfz,hcs₂,hrep₂,hF₂,hOb,hU⟩:=R;have hsb:=sm b₂ ((hU b₂).2 (.inl rfl));refine ⟨b₂,off₂,C₂,tid₂,fr₂,cs₂,F₂,hsrc,hsb.trans hb₂,hfz,(Ci (by rintro k rfl;exact hsb)).trans hcs₂,?_,hF₂,hO'm b₂ ((hU b₂).2 (.inl rfl)),hU⟩;exact Rep.frame K.size hfr' (fun k hk=>sm k ((hU k).2 (.inr hk))) hfree (fun k hk _=>hO'm k ((hU k).2 (.inr hk))) hrep₂
    |false=>
     obtain ⟨cs₂,hsrc,hrep₂⟩:=R;exact ⟨cs₂,hsrc,Rep.frame K.size hfr' (fun k hk=>sm k hk) hfree (fun k hk _=>hO'm k hk) hrep₂⟩
   |held s=>
    obtain ⟨b₂,off₂,C₂,tid₂,fr₂,v,hsrc,hb₂,hfz,hC,hs,hOb,hU⟩:=R;have hsb:=sm b₂ ((hU b₂).2 rfl);exact ⟨b₂,off₂,C₂,tid₂,fr₂,v,hsrc,hsb.trans hb₂,hfz,hC,stay' hs,hO'm b₂ ((hU b₂).2 rfl),hU⟩
 ·intro m k r r' h1 h2 hmk c hh;by_cases hm:m=n
  ·subst hm;have hk:k≠m:=fun e=>hmk e.symm
   obtain ⟨r₀,hr₀,_⟩:=hback₀ k r' hk h2;rw [hφn,hφm k hk] at hh;rcases hh.1 with h | h
   ·exact S.apart m k _ _ hr hr₀ hmk c ⟨h.1,hh.2⟩
   ·exact hGm k _ hk hr₀ c hh.2 h
  ·obtain ⟨r₀,hr₀,_⟩:=hback₀ m r hm h1;by_cases hk:k=n
   ·subst hk;rw [hφn,hφm m hm] at hh;rcases hh.2 with h | h
    ·exact S.apart m k _ _ hr₀ hr hmk c ⟨hh.1,h.1⟩
    ·exact hGm m _ hmk hr₀ c hh.1 h
   ·obtain ⟨r₁,hr₁,_⟩:=hback₀ k r' hk h2;rw [hφm k hk,hφm m hm] at hh;exact S.apart m k _ _ hr₀ hr₁ hmk c hh
 ·intro m r h1 c hc;by_cases hm:m=n
  ·subst hm;rw [hφn] at hc;rcases hc with hc | hc
   ·have:=S.fresh m _ hr c hc.1;exact ⟨this.1,fun h=>this.2 (.inl h)⟩
   ·refine ⟨?_,hGO₀ c hc⟩;rcases hG c hc with h | h | h
    ·exact (S.fresh m _ hr c (hF'φ c h)).1
    ·exact .inl (Nat.le_trans S.kept.size h)
    ·exact (hF₁ c h).2
  ·obtain ⟨r₀,hr₀,_⟩:=hback₀ m r hm h1;rw [hφm m hm] at hc;have:=S.fresh m _ hr₀ c hc;exact ⟨this.1,fun h=>this.2 (.inl h)⟩
 ·rw [St.slot_put,St.slot_lose];exact stay' (S.slots i)
 ·by_cases hm:4=n
  ·subst hm;exact S.pin b₁ hb₁ b d sh hr
  ·obtain ⟨r₀,hr₀,hr₁⟩:=hback₀ 4 _ hm h₁;cases r₀ with
   |data b' d' sh' =>
    exact S.pin b₁ hb₁ b' d' sh' hr₀
   |held s=>cases hr₁
theorem Sim.write (S:Sim P env w₀ (fun b=>O₀ b\/O₁ b) W σ γ φ O a w) {b:Bool} {d:Hd} {sh:Sh} {q:Bi} {d':Hd} (hr:σ.root n=some (.data b d sh)) (hok:Be q sh=true)
  (hget:AB q d.t d.x some=some d') {b' off':Nat} (hg:goto w q d.t (γ n)=some (d'.t,.mem b' off')) {y:d'.t.den} {shy:Sh} {cy:List Value} (hrep:Rep w O d'.t shy y cy O₁)
  (hF₁:∀ b,O₁ b->¬O₀ b/\(w₀.heap.size<=b\/W b)) {x':d.t.den} (hset:BT q d.t d.x ⟨d'.t,y⟩ some=some x') {sh'':Sh} (hsh:BS q sh shy=some sh'') :
  (∃ φ' O',Sim P env w₀ O₀ W ((σ.lose n q).put n (.data b ⟨d.t,x'⟩ sh'')) γ φ' O' a (w.setCells b' off' cy))/\
   ∃ C tid fr,w.heap[b']? = some (.cells C tid fr)/\off'+cy.length<=C.size/\∀ i,i<C.size->¬(fr.1<=i/\i<fr.2):=by
 obtain ⟨cs,F,hR,hcs,hblk,hFφ,hblkφ,hφ,hclear⟩:=S.rootRep hr;obtain ⟨src',cs',F',hg',hcs',hrep',hF',hb',hin,hrng,hback⟩:=Rep.zip q hR hcs hblk hok hget;rw [hg] at hg';injection hg' with hg'
 injection hg' with _ hg'
 subst hg';have hcy:=hrep.len;have hφb':φ n b' :=(hin b' rfl).elim (hblkφ b') (hFφ b');have hOb':O b' :=(hb' b' rfl).2;have hnO₁b':¬O₁ b' :=fun h=>(S.fresh n _ hr b' hφb').2 (.inr h)
 obtain ⟨C,tid,fr,hbC,hfr⟩:=hclear b' hφb';obtain ⟨C₂,_,_,hbC₂,hle,_⟩:=Bs hcs';rw [hbC] at hbC₂;injection hbC₂ with hbC₂
 injection hbC₂ with e1
 subst e1;rw [<-hcy] at hle;obtain ⟨hch,hcell',K⟩:=JU cy off' w C hbC hle F';rw [hcy] at hch hcell';refine ⟨S.writeG hr hok hget hg hcs' hrep' hch hcell' (K.mono fun k _ hk=>.inl hk) (fun k hk=>.inr (.inr hk)) (fun k hk=>hk) hF₁ (fun O' hle' hG=>?_) hset hsh,C,tid,fr,hbC,hle,hfr⟩;refine Rep.frame K.size (fun k hk hO=>K.block k hk fun e=>hO (e▸hOb')) (fun k hk=>K.block k (hrep.owned k hk).2 fun e=>hnO₁b' (e▸hk)) (fun k _ hO h=>?_) (fun k hk _=>hG k hk) hrep;rcases hle' k h with h | h
 ·exact hO h.1
 ·exact hO ((S.own k).2 (.inl (.inr h)))
end Go.V
namespace Go.V
variable {α:Type}
variable {P:Program} {env:Bf} {w₀ w w':World} {O₀ O₁ W O O':Ab} {σ σ₀ σ' σ₁:St} {γ γ':Name->Src} {φ φ':Name->Ab} {a a':Act} {n:Name}
theorem Rep.ones:∀ {t:Ty} {sh:Sh} {x:t.den} {cs:List Value} {F:Ab},sh.whole=true->Rep w O t sh x cs F->∀ c∈cs,c.oneCell'=true:=by
 intro t;induction t with
 |int k=>intro sh x cs F _ h c hc;rw [h.1] at hc;simp at hc;subst hc;rfl
 |bool=>intro sh x cs F _ h c hc;rw [h.1] at hc;simp at hc;subst hc;rfl
 |str=>intro sh x cs F _ h c hc;rw [h.1] at hc;simp at hc;subst hc;rfl
 |unit=>intro sh x cs F _ h c hc;rw [h.1] at hc;simp at hc
 |pair u v ihu ihv=>
  intro sh x cs F hw h c hc;obtain ⟨c₁,c₂,F₁,F₂,e,h1,h2,hU,hd⟩:=h;have hwl:sh.l.whole=true/\sh.r.whole=true:=by cases sh<;>simp_all [Sh.l,Sh.r,Sh.whole]
  rw [e,Ajf] at hc;rcases hc with hc | hc
  ·exact ihu hwl.1 h1 c hc
  ·exact ihv hwl.2 h2 c hc
 |slice e ih=>
  intro sh x cs F hw h c hc;unfold Rep at h;cases sh with
  |own s=>
   rcases h with h | ⟨b',off,cap,C,tid,fr,F',e,_⟩
   ·rw [h.1] at hc;simp at hc;subst hc;rfl
   ·rw [e] at hc;simp at hc;subst hc;rfl
  |gone=>cases hw
  |z=>obtain ⟨_,a,cap,e,_⟩:=h;rw [e] at hc;simp at hc;subst hc;rfl
  |pr u v=>obtain ⟨_,a,cap,e,_⟩:=h;rw [e] at hc;simp at hc;subst hc;rfl
theorem UE {t:TypeId} {f:TypeInfo} (hf:P.info? t=some f) {v:Value} {cs:List Value} (hv:v.cells=cs.toArray) (hsz:f.size=cs.length) (h1:∀ c∈cs,c.oneCell'=true)
  {b off:Nat} {C:Array Value} {tid:TypeId} {fr:Nat×Nat} (hb:w.heap[b]? = some (.cells C tid fr)) (hle:off+cs.length<=C.size) (hfr:∀ i,i<C.size->¬(fr.1<=i/\i<fr.2)) :
  (storeVar t ⟨b,off,none⟩ v).run P w = .ok () (w.setCells b off cs):=by
 unfold storeVar;simp only [Sem.run_bind,Dh hf,Result.andThen_ok,hv,List.size_toArray,hsz,ne_eq,not_true_eq_false,if_false];refine run_storeCells_cells (P:=P) b off cs 0 w ?_ ?_ h1
 ·intro j hj;simp only [Nat.add_zero];simp [World.cell?,hb];omega
 ·intro j hj;simp only [Nat.add_zero];have:=hfr (off+j) (by omega);simp only [World.frozen?,hb];simp only [Bool.and_eq_false_iff,decide_eq_false_iff_not];omega
theorem fa (S:Sim P env w₀ O₀ W σ γ φ O a w) {t:Ty} {s:Slot} {v:Value} (hs:Ak P w O σ γ s v) {k:t.den->Sh->St->Option α} {r:α} (h:JN σ t s k=some r) :
  ∃ x sh σ₁ cs,∃ F O':Ab,k x sh σ₁=some r/\sh.whole=true/\C_ t v cs/\Rep w O' t sh x cs F/\Sim P env w₀ (fun b=>O₀ b\/F b) W σ₁ γ φ O' a w/\Iv σ₁ σ/\
   (∀ b,F b->¬O₀ b/\(w₀.heap.size<=b\/W b)):=by
 obtain ⟨x,sh,σ₁,cs,F,O₂,h1,h2,h3,h4,S',hl,g1,g2,g3⟩:=WT S (Iv.refl σ) hs h;obtain ⟨O',S'',hle⟩:=S'.forget (O₀:=fun b=>O₀ b\/F b) (fun b hb=>hb.elim (g1 b) (g2 b));exact ⟨x,sh,σ₁,cs,F,O',h1,h2,h3,Rep.frame (Nat.le_refl _) (fun _ _ _=>rfl) (fun _ _=>rfl) (fun b _=>hle b) (fun b hb _=>(S''.own b).2 (.inl (.inr hb))) h4,S'',hl,g3⟩
theorem QL (S:Sim P env w₀ O₀ W σ γ φ O a w) (hty:env.TyOk P) {o:Oper} {t:TypeId} {x y:Operand} (ho:o.op = .store t x y) {k:Slot->St->Option α} {r:α} (h:Cj env σ o k=some r) :
  HM P env w₀ O₀ W a w (execOp a.eval o) k r:=by
 unfold Cj at h;rw [ho] at h;dsimp only at h;have hex:execOp a.eval o=(do Instr.storeAt t (a.eval x) (a.eval y);pure .skip):=by unfold execOp;rw [ho]
 rw [hex];have hs:=S.val x;split at h
 case h_2=>cases h
 case h_1 p hp=>
  rw [hp] at hs;generalize a.eval x=vx at hs ⊢;split at h
  case h_2=>cases h
  case h_1 b d sh hr=>
   split at h
   case h_2=>cases h
   case h_1 t' htp=>
    split at h
    case h_2=>cases h
    case h_1 hdec=>
     have hdec:=of_decide_eq_true hdec;obtain ⟨ht,hok⟩:=hdec;obtain ⟨yv,shy,σ₁,cy,Fy,O₂,hk,hwh,hval,hrep,S₁,hl,hFy⟩:=fa S (S.val y) h;cases hr₁:σ₁.root p.name with
     |none=>rw [hr₁] at hk;cases hk
     |some rt=>
     rw [hr₁] at hk;cases rt with
     |held s=>cases hk
     |data bb dd ss=>
      dsimp only at hk;have:=hl _ _ _ _ hr₁;rw [hr] at this;injection this with this
      injection this with e1 e2 e3
      subst e1 e2 e3;obtain ⟨x',hx',hk₂⟩:=BE hk;clear hk;obtain ⟨d',hget,hd't⟩:=Mr p.path hx';dsimp only at hd't;obtain ⟨dt,dx⟩:=d';dsimp only at hd't;subst hd't;obtain ⟨_,_,it,hit,hits,_⟩:=hty.1 _ _ ht |>.2;have hcells:=hval.cells (fun ha=>hrep.notAgg (Sh.whole_gone hwh) hval ha);have hcy:=hrep.len;have hones:=hrep.ones hwh;cases hs with
      |ptrH m s b off h1 h2=>rw [h1] at hr;cases hr
      |ptr _ t₂ b' off' hpa=>
       obtain ⟨b₂,d₂,sh₂,hr₂,htp₂,hg⟩:=hpa;rw [hr] at hr₂;injection hr₂ with hr₂
       injection hr₂ with e1 e2 e3
       subst e1 e2 e3;rw [htp] at htp₂;injection htp₂ with htp₂
       subst htp₂;have hL:Da σ p:=⟨b,d,sh,_,hr,hok,hget⟩;have hgo:=hg hL
       have fin:∀ (φ':Name->Ab) (O':Ab) (sh':Sh),Sim P env w₀ O₀ W ((σ₁.lose p.name p.path).put p.name (.data b ⟨d.t,x'⟩ sh')) γ φ' O' a (w.setCells b' off' cy)->
         (∃ C tid fr,w.heap[b']? = some (.cells C tid fr)/\off'+cy.length<=C.size/\∀ i,i<C.size->¬(fr.1<=i/\i<fr.2))->
         k .undef ((σ₁.lose p.name p.path).put p.name (.data b ⟨d.t,x'⟩ sh'))=some r->
         HM P env w₀ O₀ W a w (do Instr.storeAt t (.pointer (some ⟨b',off',none⟩)) (a.eval y);pure .skip) k r:=by
        rintro φ' O' sh' S' ⟨C,tid,fr,hb,hle,hfr⟩ hk;refine ⟨_,undef,_,γ,φ',O',_,.inr ⟨?_,rfl⟩,S',.undef _,hk⟩;have hrun:=UE (P:=P) hit hcells (by rw [hits,hcy]) hones hb hle hfr;simp only [Instr.storeAt,Instr.sureAddr,Sem.run_bind,Sem.run_pure,Result.andThen_ok,hrun]
       cases hsh:BS p.path sh shy with
       |some sh' =>
        rw [hsh] at hk₂;obtain ⟨⟨φ',O',S'⟩,hC⟩:=S₁.write (d' :=⟨dt,dx⟩) hr₁ hok hget hgo hrep (fun c hc=>⟨(hFy c hc).1,(hFy c hc).2⟩) hx' hsh;exact fin φ' O' sh' S' hC hk₂
       |none=>
        rw [hsh] at hk₂;dsimp only at hk₂;split at hk₂
        ·rename_i sh' hsh;obtain ⟨O₃,S₃,hO₃⟩:=S₁.forget (O₀:=O₀) (fun c hc=>.inl hc)
         have hF₃:∀ c,Fy c->¬O₃ c:=by
          intro c hc hn;rcases (S₃.own c).1 hn with h | ⟨q,r',h1,h2⟩
          ·exact (hFy c hc).1 h
          ·exact (S₁.fresh q r' h1 c h2).2 (.inr hc)
         have hrep' :=Rep.freeze (O' :=O₃) (fun c _=>hO₃ c) hwh hF₃ hrep;obtain ⟨⟨φ',O',S'⟩,hC⟩:=Sim.write (O₁:=Ab.none) (S₃.congrO (O₁:=fun c=>O₀ c\/Ab.none c) fun c=>⟨fun h=>h.resolve_right fun h=>h,.inl⟩) (d' :=⟨dt,dx⟩) hr₁ hok hget hgo hrep' (fun c hc=>hc.elim) hx' hsh;exact fin φ' O' sh' S' hC hk₂
        ·cases hk₂
end Go.V
namespace Go.V
variable {α:Type}
variable {P:Program} {env:Bf} {w₀ w w':World} {O₀ O₁ W O O':Ab} {σ σ₀ σ' σ₁:St} {γ γ':Name->Src} {φ φ':Name->Ab} {a a':Act} {n:Name}
theorem fresh_sliceF (S:Sim P env w₀ O₁ W σ γ φ O a w) (hsub:∀ b,O₀ b->O₁ b) (n:Name) (hn4:n≠4) (K:AF (σ.foot φ n) w w') {e:Ty} {s:Sh} {xs:List e.den} {C:Array Value} {tid:TypeId} {fr:Nat×Nat} {cap:Nat} {F:Ab}
  (hb:w'.heap[w.heap.size]? = some (.cells C tid fr)) (hfr:∀ i,i<C.size->¬(fr.1<=i/\i<fr.2)) (hle:xs.length<=cap) (hsz:cap*e.size<=C.size)
  (hF:∀ b,F b->b<w.heap.size/\(σ.foot φ n b\/(O₁ b/\¬O₀ b/\(w₀.heap.size<=b\/W b))))
  (hel:∀ O',(∀ b,b<w.heap.size->¬O b->¬O' b)->(∀ b,F b->O' b)->Els (Rep w' O' e s) xs (C.toList.take (xs.length*e.size)) F) :
  ∃ γ' φ' O',Sim P env w₀ O₀ W (σ.lay n (.data false ⟨.slice e,xs⟩ (.own s))) γ' φ' O' a w' /\
   Ak P w' O' (σ.lay n (.data false ⟨.slice e,xs⟩ (.own s))) γ' (.ref (.slice e) ⟨n,[]⟩) (.slice (some ⟨w.heap.size,0,none⟩) xs.length cap):=by
 have hv:C_ (.slice e) (.slice (some ⟨w.heap.size,0,none⟩) xs.length cap) [.slice (some ⟨w.heap.size,0,none⟩) xs.length cap]:=rfl
 obtain ⟨γ',φ',O',S',A,hγ,hφ⟩:=S.lay (n:=n) (O₀:=O₀) (r:=.data false ⟨.slice e,xs⟩ (.own s)) (src:=.val [.slice (some ⟨w.heap.size,0,none⟩) xs.length cap])
  (F:=fun b=>b=w.heap.size\/F b) K hsub (fun b hb=>hb.elim (fun h=>.inl (by rw [show b=w.heap.size from h];exact Nat.le_refl _)) fun h=>.inr (hF b h).2)
  (fun O' γ' φ' A hγ hO=>by
   refine ⟨_,rfl,.inr ⟨w.heap.size,0,cap,C,tid,fr,F,rfl,hle,hb,hfr,by omega,?_,fun b=>Iff.rfl,fun h=>absurd (hF _ h).1 (Nat.lt_irrefl _),hO _ (.inl rfl)⟩⟩;rw [List.drop_zero];exact hel O' A.free fun b hb=>hO b (.inr hb)) (fun e=>absurd e hn4)
 refine ⟨γ',φ',O',S',.ref (.slice e) ⟨n,[]⟩ _ (.val _) ⟨false,_,_,by rw [St.root_lay,if_pos rfl],rfl,fun _=>?_⟩ fun _=>⟨_,rfl,hv⟩⟩;simp only [goto];rw [hγ]
theorem OK (S:Sim P env w₀ O₀ W σ γ φ O a w) (n:Name) (hn4:n≠4) (K:AF (σ.foot φ n) w w') {e:Ty} {s:Sh} {xs:List e.den} {C:Array Value} {tid:TypeId} {fr:Nat×Nat} {cap:Nat}
  (hb:w'.heap[w.heap.size]? = some (.cells C tid fr)) (hfr:∀ i,i<C.size->¬(fr.1<=i/\i<fr.2)) (hle:xs.length<=cap) (hsz:cap*e.size<=C.size)
  (hel:∀ O',(∀ b,b<w.heap.size->¬O b->¬O' b)->Els (Rep w' O' e s) xs (C.toList.take (xs.length*e.size)) Ab.none) :
  ∃ γ' φ' O',Sim P env w₀ O₀ W (σ.lay n (.data false ⟨.slice e,xs⟩ (.own s))) γ' φ' O' a w' /\
   Ak P w' O' (σ.lay n (.data false ⟨.slice e,xs⟩ (.own s))) γ' (.ref (.slice e) ⟨n,[]⟩) (.slice (some ⟨w.heap.size,0,none⟩) xs.length cap):=
 fresh_sliceF S (fun _ h=>h) n hn4 K hb hfr hle hsz (fun _ h=>h.elim) fun O' h _=>hel O' h
theorem Gd (c:List Value):∀ (i k:Nat),k<i*c.length->(List.replicate i c).flatten[k]? = c[k % c.length]?
 |0,k,h=>by simp at h
 |i+1,k,h=>by
  rw [List.replicate_succ,List.flatten_cons];rw [Nat.succ_mul] at h;by_cases hk:k<c.length
  ·rw [List.getElem?_append_left hk,Nat.mod_eq_of_lt hk]
  ·rw [List.getElem?_append_right (by omega),Gd c i (k-c.length) (by omega),<-Nat.mod_eq_sub_mod (by omega)]
theorem Th (c:List Value) {i m:Nat} (h:i<=m):(madeCells c.toArray (m*c.length)).toList.take (i*c.length)=(List.replicate i c).flatten:=by
 have hle:i*c.length<=m*c.length:=Nat.mul_le_mul_right _ h;apply List.ext_getElem?;intro k;by_cases hk:k<i*c.length
 ·rw [List.getElem?_take_of_lt hk,Gd c i k hk]
  have hpos:0<c.length:=by
   rcases Nat.eq_zero_or_pos c.length with h0 | h0
   ·rw [h0] at hk;omega
   ·exact h0
  have hkm:k % c.length<c.length:=Nat.mod_lt _ hpos;simp only [madeCells,Array.toList_map,Array.toList_range,List.getElem?_map,List.size_toArray];rw [List.getElem?_range (by omega)];simp [hkm]
 ·rw [List.getElem?_take_eq_none (by omega),List.getElem?_eq_none];have:(List.replicate i c).flatten.length=i*c.length:=by simp
  omega
theorem Ib {β:Type} {R:β->List Value->Ab->Prop} {x:β} {c:List Value} (h:R x c Ab.none):∀ i,Els R (List.replicate i x) (List.replicate i c).flatten Ab.none
 |0=>⟨rfl,fun _ h=>h⟩
 |i+1=>⟨c,_,Ab.none,Ab.none,by rw [List.replicate_succ,List.flatten_cons],h,Ib h i,fun b=>by simp [Ab.none],fun b hb=>hb.1⟩
theorem WV {bytes:Nat} {i j:Int} (hby:bytes<=32768) (hj0:0<=j) (hjm:j<=(A_:Nat)) (hi0:0<=i) (him:i<=(j.toNat:Int)) :
  0<=j/\0<=i/\i<=j/\(bytes:Int)*j<=281474976710656/\j<=9223372036854775807:=by
 have hjm':j<=4294967296:=hjm;have hb:(bytes:Int)<=32768:=by omega
 have:=Int.mul_le_mul hb hjm' hj0 (by omega:(0:Int)<=32768);refine ⟨hj0,hi0,by omega,by omega,by omega⟩
theorem UF (S:Sim P env w₀ O₀ W σ γ φ O a w) (hty:env.TyOk P) {o:Oper} {t:TypeId} {x y:Operand} (ho:o.op = .makeSlice t x y) {k:Slot->St->Option α} {r:α} (h:Cj env σ o k=some r) :
  HM P env w₀ O₀ W a w (execOp a.eval o) k r:=by
 unfold Cj at h;rw [ho] at h;dsimp only at h;have hex:execOp a.eval o=(do pure (.value (<-Instr.makeSlice t (a.eval x) (a.eval y)))):=by unfold execOp;rw [ho]
 rw [hex];have hx:=S.val x;have hy:=S.val y;split at h
 case h_2=>cases h
 case h_1 e kk i kk' j ht hvx hvy=>
  rw [hvx] at hx;rw [hvy] at hy;have hx:=Db hx;have hy:=Db hy;obtain ⟨hj0,hjm,h⟩:=EK h;obtain ⟨hi0,him,h⟩:=EK h;obtain ⟨⟨tj,hu,_,ie,hie,hies,hby,z,cz,hz,hvalz,hrepz⟩,_⟩:=hty.1 _ _ ht;obtain ⟨hj0',hi0',hij,hbytes,h63⟩:=WV (i:=Hc i) (j:=Hc j) hby hj0 hjm hi0 him;have hrun:=run_make (P:=P) w t tj ie z hu hie hz kk kk' (Hc i) (Hc j) hi0' hij hbytes h63;have hne:e.ownAll≠.gone:=Sh.whole_gone (Ty.whole_ownAll e);have hzc:z.cells=cz.toArray:=hvalz.cells fun ha=>(hrepz w O).notAgg hne hvalz ha
  have hczl:cz.length=e.size:=(hrepz w O).len;rw [hzc,hies,<-hczl] at hrun;have K:=AF.alloc w (.cells (madeCells cz.toArray ((Hc j).toNat*cz.length)) tj);have hb:({w with heap:=w.heap.push (.cells (madeCells cz.toArray ((Hc j).toNat*cz.length)) tj)}:World).heap[w.heap.size]? = some (.cells (madeCells cz.toArray ((Hc j).toNat*cz.length)) tj (0,0)):=by simp
  have hijn:(Hc i).toNat<=(Hc j).toNat:=Int.toNat_le_toNat hij
  obtain ⟨γ',φ',O',S',hs⟩:=OK S (AD o) (Ee o) (K.mono fun _ _ h=>h.elim) (e:=e) (s:=env.esh e) (xs:=List.replicate (Hc i).toNat e.zero) (cap:=(Hc j).toNat) hb (by intro i _;simp)
   (by rw [List.length_replicate];exact hijn) (by rw [size_madeCells,hczl];exact Nat.le_refl _)
   (fun O' _=>by
    rw [List.length_replicate,<-hczl,Th cz hijn];refine Ib ?_ _;unfold Bf.esh;split
    ·exact hrepz _ _
    ·exact Rep.freeze (O:=O') (fun _ _ h=>h) (Ty.whole_ownAll e) (fun _ h=>h.elim) (hrepz _ _))
  rw [List.length_replicate] at hs;refine ⟨_,_,_,γ',φ',O',_,.inl ?_,S',hs,h⟩;rw [hx,hy];simp only [Sem.run_bind,Sem.run_pure,Result.andThen_ok,hrun];rfl
end Go.V
namespace Go.V
variable {α:Type}
variable {P:Program} {env:Bf} {w₀ w w':World} {O₀ O₁ W O O':Ab} {σ σ₀ σ' σ₁:St} {γ γ':Name->Src} {φ φ':Name->Ab} {a a':Act} {n:Name}
theorem Mt (s:ByteArray) (e:TypeId):∃ cap C w',(Conv.stringToBytes e s).run P w = .ok (.slice (some ⟨w.heap.size,0,none⟩) s.size cap) w' /\
  AF Ab.none w w' /\w'.heap[w.heap.size]? = some (.cells C e (C.size,C.size+1))/\s.size<=cap/\C.size=cap/\C.toList.take s.size=byteCells s:=by
 let cap:=grownCap w s.size 0 e
 have hge:s.size<=cap:=grownCap_ge w s.size 0 e
 let C:Array Value:=(s.data.map fun b=>Value.int .u8 b.toNat)++Array.replicate (cap-s.size) (.int .u8 0)
 have hs:s.data.size=s.size:=rfl;have hC:C.size=cap:=by simp [C,hs];omega
 let w':World:=({w with drawn:=w.drawn+1,heap:=w.heap.push (.cells C e)}:World).freeze {block:=w.heap.size,off:=C.size} 1
 have hw':w'.heap=(w.heap.push (.cells C e)).modify w.heap.size fun | .cells c elem (lo,hi)=>.cells c elem (if lo==hi then (C.size,C.size+1) else (min lo C.size,max hi (C.size+1))) | o=>o:=rfl
 refine ⟨cap,C,w',?_,⟨?_,?_,?_,?_,?_⟩,?_,hge,hC,?_⟩
 ·simp only [Conv.stringToBytes,Sem.run_bind,run_choose,Question.forced,Bool.false_eq_true,if_false,Result.andThen_ok,newRow,run_newObj,Sem.run_pure,markStringish,run_shape];have e1:(Question.appendCap s.size 0 e).cut (w.tape w.drawn (.appendCap s.size 0 e))=cap:=rfl;rw [e1];have e2:({w with drawn:=w.drawn+1,heap:=w.heap.push (.cells C e)}:World).shape? w.heap.size=some (e,C.size):=by simp [World.shape?]
  simp only [C] at e2;simp only [e2,run_freeze,Result.andThen_ok];rfl
 ·simp [w',World.freeze]
 ·simp [w',World.freeze]
 ·simp [w',World.freeze]
 ·rw [hw'];simp
 ·intro k hk _;rw [hw',Array.getElem?_modify,if_neg (by omega),Array.getElem?_push,if_neg (by omega)]
 ·rw [hw',Array.getElem?_modify,if_pos rfl];simp
 ·unfold byteCells;apply List.ext_getElem?;intro i;by_cases hi:i<s.size
  ·rw [List.getElem?_take_of_lt hi];simp only [C,Array.toList_append,Array.toList_map];rw [List.getElem?_append_left (by simpa [hs] using hi)]
  ·rw [List.getElem?_take_eq_none (by omega),List.getElem?_eq_none];simp [hs];omega
theorem N':∀ l:List UInt8,Els (Rep w O (.int .u8) .z) (l.map fun b=>(b.toNat:Int)) (l.map fun b=>Value.int .u8 b.toNat) Ab.none
 |[]=>⟨rfl,fun _ h=>h⟩
 |b::l=>⟨[.int .u8 b.toNat],_,Ab.none,Ab.none,rfl,⟨rfl,fun _ h=>h⟩,N' l,fun b=>by simp [Ab.none],fun b hb=>hb.1⟩
theorem fb (S:Sim P env w₀ O₀ W σ γ φ O a w) (hty:env.TyOk P) {o:Oper} {src dst:TypeId} {x:Operand} (ho:o.op = .convert src dst x) {k:Slot->St->Option α} {r:α} (h:Cj env σ o k=some r) :
  HM P env w₀ O₀ W a w (execOp a.eval o) k r:=by
 unfold Cj at h;rw [ho] at h;dsimp only at h;have hex:execOp a.eval o=(do pure (.value (<-convert src dst (a.eval x)))):=by unfold execOp;rw [ho]
 rw [hex];have hx:=S.val x;split at h
 case h_2=>cases h
 case h_1 l hs hd hvx=>
  rw [hvx] at hx;have hx:=DB hx;have hus:P.underlying src=some .string:=(hty.1 _ _ hs).1;obtain ⟨⟨j,hud,hju,_⟩,_⟩:=hty.1 _ _ hd;have hju:P.underlying j=some (.int .u8):=hju;obtain ⟨cap,C,w',hrun,K,hb,hle,hsz,htake⟩:=Mt (P:=P) (w:=w) ⟨(Lk l).toArray⟩ j;obtain ⟨xs,hxs⟩:∃ xs:List (Ty.int .u8).den,xs=(Lk l).map fun b=>(b.toNat:Int):=⟨_,rfl⟩
  have hlen:(⟨(Lk l).toArray⟩:ByteArray).size=xs.length:=by
   rw [hxs];exact List.size_toArray.trans (List.length_map _).symm
  have hels:∀ O',Els (Rep w' O' (.int .u8) .z) xs (byteCells ⟨(Lk l).toArray⟩) Ab.none:=by
   intro O';rw [hxs];exact N' l
  have h:k (.ref (.slice (.int .u8)) ⟨AD o,[]⟩) (σ.lay (AD o) (.data false ⟨.slice (.int .u8),xs⟩ (.own .z)))=some r:=by rw [hxs];exact h
  obtain ⟨γ',φ',O',S',hsl⟩:=OK S (AD o) (Ee o) (K.mono fun _ _ h=>h.elim) (e:=.int .u8) (s:=.z) (xs:=xs) (cap:=cap) hb (by intro i hi;simp only;omega)
   (by rw [<-hlen];exact hle) (by rw [hsz];simp [Ty.size])
   (fun O' _=>by
    have e:xs.length*(Ty.int IntKind.u8).size=(⟨(Lk l).toArray⟩:ByteArray).size:=by rw [hlen];simp [Ty.size]
    rw [e,htake];exact hels O')
  rw [<-hlen] at hsl;refine ⟨_,_,_,γ',φ',O',w',.inl ?_,S',hsl,h⟩;rw [hx];simp only [convert,Sem.run_bind,run_underlying hus,run_underlying hud,run_underlying hju,Result.andThen_ok,hrun,Sem.run_pure]
end Go.V
namespace Go.V
variable {α:Type}
variable {P:Program} {env:Bf} {w₀ w w':World} {O₀ O₁ W O O':Ab} {σ σ₀ σ' σ₁:St} {γ γ':Name->Src} {φ φ':Name->Ab} {a a':Act} {n:Name}
theorem Els.ones {e:Ty} {s:Sh} (hw:s.whole=true):∀ {xs:List e.den} {cs:List Value} {F:Ab},Els (Rep w O e s) xs cs F->∀ c∈cs,c.oneCell'=true
 |[],cs,F,h,c,hc=>by rw [h.1] at hc;cases hc
 |x::xs,cs,F,⟨c₁,c₂,F₁,F₂,e',hx,hxs,_,_⟩,c,hc=>by
  rw [e',Ajf] at hc;rcases hc with hc | hc
  ·exact hx.ones hw c hc
  ·exact Els.ones hw hxs c hc
theorem Els.flat {e:Ty} (hf:e.flat=true) {O':Ab}:∀ {xs:List e.den} {cs:List Value} {F:Ab},Els (Rep w O e .z) xs cs F->Els (Rep w' O' e .z) xs cs Ab.none
 |[],cs,F,h=>⟨h.1,fun _ h=>h⟩
 |x::xs,cs,F,⟨c₁,c₂,F₁,F₂,e',hx,hxs,_,_⟩=>⟨c₁,c₂,Ab.none,Ab.none,e',hx.flat hf,Els.flat hf hxs,fun b=>by simp [Ab.none],fun b hb=>hb.1⟩
theorem PK {e:Ty} {tx ju:TypeId} (hju:P.underlying tx=some (.slice ju)) {ys:(Ty.slice e).den} {v:Value} {an:Option Addr} {cap:Nat} (hv':v = .slice an (Bu ys).length cap) {news:List Value}
  (hels:Els (Rep w O e .z) (Bu ys) news Ab.none) (hx:Bu ys=[]\/∃ b off,an=some ⟨b,off,none⟩/\∀ i,i<news.length->w.cell? ⟨b,off+i,none⟩=news[i]?):Go.Src P e.size tx v (Bu ys).length news w:=by
 have hlen:news.length=(Bu ys).length*e.size:=Els.len (fun _ _ _ h=>h.len) hels;rw [hv'];have empty:Bu ys=[]->news=[]:=fun h=>List.eq_nil_of_length_eq_zero (by rw [hlen,h];simp)
 cases an with
 |none=>
  have hy:Bu ys=[]:=by
   rcases hx with h | ⟨b,off,h,_⟩
   ·exact h
   ·cases h
  rw [empty hy,hy];exact Go.Src.ofNil w hju cap
 |some A=>
  refine Go.Src.ofSlice w hju A _ cap news hlen ?_ (Els.ones rfl hels);intro j x hj;rcases hx with h | ⟨b,off,h,hcell⟩
  ·rw [empty h] at hj;simp at hj
  ·injection h with h
   subst h;rw [DU,hcell j (List.getElem?_eq_some_iff.1 hj).1,hj]
theorem Rep.zN {e:Ty} (x:e.den) (c:List Value) (F:Ab) (h:Rep w O e .z x c F):Rep w O e .z x c Ab.none:=h.foot fun b=>⟨fun h=>h.elim,fun hb=>(h.free b hb).elim⟩
theorem Rep.ownEls {e:Ty} {xs:List e.den} {an:Option Addr} {n c:Nat} {F:Ab} (h:Rep w O (.slice e) (.own .z) xs [.slice an n c] F) :
  n=xs.length/\xs.length<=c/\∃ cl,Els (Rep w O e .z) xs cl Ab.none/\(xs=[]\/∃ b off,an=some ⟨b,off,none⟩/\∀ i,i<cl.length->w.cell? ⟨b,off+i,none⟩=cl[i]?):=by
 rcases h with ⟨hc,hx,_⟩ | ⟨b,off,cap,C,tid,fr,F',hc,hl,hb,_,_,hel,_⟩
 ·injection hc with hc
  injection hc with e1 e2 e3
  have hx:xs=[]:=hx;subst e1 e2 e3 hx;exact ⟨rfl,Nat.le_refl _,[],⟨rfl,fun _ h=>h⟩,.inl rfl⟩
 ·injection hc with hc
  injection hc with e1 e2 e3
  subst e1 e2 e3
  have hN:Els (Rep w O e .z) xs ((C.toList.drop off).take ((Bu xs).length*e.size)) Ab.none:=by
   have:=Els.drop (n:=0) (fun _ _ _ h=>h.len) Rep.zN hel;simpa using this
  refine ⟨rfl,hl,_,hN,.inr ⟨b,off,rfl,?_⟩⟩;intro i hi
  have hi':i<(Bu xs).length*e.size:=by
   have:_:=hi;simp only [List.length_take] at this;omega
  simp only [World.cell?,hb,Option.isSome_none,Bool.false_eq_true,if_false];rw [List.getElem?_take_of_lt hi',List.getElem?_drop,Array.getElem?_toList]
theorem Els.cut {e:Ty} {xs:List e.den} {an:Option Addr} {c:Nat} {cl:List Value} {lo hi:Nat} (hel:Els (Rep w O e .z) xs cl Ab.none) (hx:xs=[]\/∃ b off,an=some ⟨b,off,none⟩/\∀ i,i<cl.length->w.cell? ⟨b,off+i,none⟩=cl[i]?)
  (hl:xs.length<=c) (h1:lo<=hi) (h2:hi<=xs.length) :
  ∃ cl',Els (Rep w O e .z) ((xs.take hi).drop lo) cl' Ab.none/\((xs.take hi).drop lo=[]\/∃ b off,(if c=lo then an else an.map (·.add (lo*e.size)))=some ⟨b,off,none⟩/\∀ i,i<cl'.length->w.cell? ⟨b,off+i,none⟩=cl'[i]?):=by
 have hlen:((xs.take hi).drop lo).length=hi-lo:=by simp;omega
 refine ⟨(cl.take (hi*e.size)).drop (lo*e.size),Els.drop (fun _ _ _ h=>h.len) Rep.zN (Els.take (fun _ _ _ h=>h.len) Rep.zN hel),?_⟩;rcases hx with hx | ⟨b,off,hab,hcell⟩
 ·left;rw [hx];simp
 ·by_cases hcl:c=lo
  ·left;apply List.eq_nil_of_length_eq_zero;rw [hlen];omega
  ·right;refine ⟨b,off+lo*e.size,by rw [if_neg hcl,hab];simp [DU],fun i hi' =>?_⟩;have hi2:i<(cl.take (hi*e.size)).length-lo*e.size:=by simpa using hi'
   have hi3:=hi2;rw [List.length_take] at hi3;rw [List.getElem?_drop,List.getElem?_take_of_lt (by omega),Nat.add_assoc];exact hcell _ (by omega)
theorem Sim.contentZ (S:Sim P env w₀ O₀ W σ γ φ O a w) {e:Ty} {s:Slot} {v:Value} (hs:Ak P w O σ γ s v) (hz:Ul σ s=true) {k:List e.den->Option α} {r:α} (h:Ep σ (.slice e) s k=some r) :
  ∃ ys:List e.den,k ys=some r/\∃ an cap cl,v = .slice an ys.length cap/\Els (Rep w O e .z) ys cl Ab.none/\(ys=[]\/∃ b off,an=some ⟨b,off,none⟩/\∀ i,i<cl.length->w.cell? ⟨b,off+i,none⟩=cl[i]?):=by
 have main:∀ {p:CH} {k':Hd->Option α},Bv σ p k'=some r->(∀ b d sh,σ.root p.name=some (.data b d sh)->Eo p.path sh = .own .z)->
   ∃ d',k' d'=some r/\Da σ p/\∃ src cs F,(∀ t' src',Bz w σ γ p t' src' ->t'=d'.t/\src'=src)/\Al w d'.t.size src=some cs/\Rep w O d'.t (.own .z) d'.x cs F:=by
  intro p k' h hsh;unfold Bv at h;split at h
  ·rename_i b d sh hr;split at h
   ·rename_i hok;rw [Ajb] at hok;obtain ⟨d',hget,hk⟩:=Ed h;obtain ⟨F,⟨src,cs,F',hg,hcs,hrep,hF',_,hblk,_⟩,hFφ,hbφ,_⟩:=S.zip hr hok.1 hget;have hL:Da σ p:=⟨b,d,sh,d',hr,hok.1,hget⟩;refine ⟨d',hk,hL,src,cs,F',?_,hcs,by rw [<-hsh _ _ _ hr];exact hrep⟩;rintro t' src' ⟨b',d₂,sh',hr',_,hg'⟩;rw [hr] at hr';injection hr' with hr'
    injection hr' with e1 e2 e3
    subst e2;have:=hg' hL;rw [hg] at this;injection this with this
    injection this with e1 e2
    exact ⟨e1.symm,e2.symm⟩
   ·cases h
  ·cases h
 cases hs with
 |ref t' p v src hp hlv=>
  have hz':∀ b d sh,σ.root p.name=some (.data b d sh)->Eo p.path sh = .own .z:=fun b d sh hr=>by
   simp only [Ul,hr] at hz;exact of_decide_eq_true hz
  obtain ⟨d',hk,hL,src',cs',F,hp',hcs',hrep⟩:=main h hz';obtain ⟨cs,hcs,hv⟩:=hlv hL;obtain ⟨e1,e2⟩:=hp' _ _ hp;obtain ⟨ee,hk⟩:=As hk;obtain ⟨dt,dx⟩:=d';subst e2;dsimp only at e1 ee hcs' hrep;subst e1;subst ee;rw [hcs] at hcs';injection hcs' with hcs'
  subst hcs';have hone:cs=[v]:=hv;subst hone
  obtain ⟨an,n,c,rfl⟩:∃ an n c,v = .slice an n c:=by
   rcases id hrep with ⟨hc,_⟩ | ⟨_,_,_,_,_,_,_,hc,_⟩
   ·injection hc with hc;exact ⟨_,_,_,hc⟩
   ·injection hc with hc;exact ⟨_,_,_,hc⟩
  obtain ⟨rfl,hl,cl,hel,hx⟩:=Rep.ownEls hrep;exact ⟨dx,hk,an,c,cl,rfl,hel,hx⟩
 |vw e' p lo hi src an n c hp hlv hlo hhi=>
  have hz':∀ b d sh,σ.root p.name=some (.data b d sh)->Eo p.path sh = .own .z:=fun b d sh hr=>by
   simp only [Ul,hr] at hz;exact of_decide_eq_true hz
  obtain ⟨d',hk,hL,src',cs',F,hp',hcs',hrep⟩:=main h hz';have hcs:=hlv hL;obtain ⟨e1,e2⟩:=hp' _ _ hp;obtain ⟨ee,hk⟩:=As hk;obtain ⟨dt,dx⟩:=d';subst e2;dsimp only at *;subst e1;rw [show (Ty.slice e').size=1 from rfl,hcs] at hcs';injection hcs' with hcs'
  subst hcs';obtain ⟨e3,hk⟩:=As hk;injection e3 with e3
  subst e3;obtain ⟨hn,hl,cl,hel,hx⟩:=Rep.ownEls hrep;obtain ⟨cl',hel',hx'⟩:=Els.cut (lo:=lo) (hi:=hi) hel hx hl hlo (by rw [<-hn];exact hhi);refine ⟨(List.take hi (Bu dx)).drop lo,hk,_,c-lo,cl',?_,hel',hx'⟩
  have:((List.take hi (Bu dx)).drop lo).length=hi-lo:=by
   rw [List.length_drop,List.length_take];have:hi<=(Bu dx).length:=by rw [<-hn];exact hhi
   omega
  rw [this]
 |_=>simp [Ul] at hz
theorem Zk (S:Sim P env w₀ O₀ W σ γ φ O a w) {tx:TypeId} {e u:Ty} (hu:TyOk P tx u) {s:Slot} {v:Value} (hs:Ak P w O σ γ s v) {k:List e.den->St->Option α} {r:α}
  (h:KF σ e u s k=some r):∃ ys news σ' O',k ys σ'=some r/\Sim P env w₀ O₀ W σ' γ φ O' a w/\Go.Src P e.size tx v ys.length news w/\Els (Rep w O' e .z) ys news Ab.none:=by
 unfold KF at h;cases u with
 |str=>
  dsimp only at h;split at h
  ·rename_i l;obtain ⟨e',hk⟩:=As h;injection e' with e'
   subst e';have hv:=DB hs
   have hl:((Lk l).map fun b=>(b.toNat:Int)).length=(⟨(Lk l).toArray⟩:ByteArray).size:=by
    rw [List.length_map];exact List.size_toArray.symm
   refine ⟨_,byteCells ⟨(Lk l).toArray⟩,σ,O,hk,S,?_,N' l⟩;rw [hv];have:=Go.Src.ofString (P:=P) w (tx:=tx) hu.1 ⟨(Lk l).toArray⟩;rw [<-hl] at this;exact this
  ·cases h
 |slice eu=>
  dsimp only at h;obtain ⟨ju,hju,_⟩:=hu.1;split at h
  ·-- what is lent out of a root of its own: the root is given up
   split at h
   case h_2=>cases h
   case h_1 t0 m hl0=>
    split at h
    case h_2=>cases h
    case h_1 d sh hr=>
     split at h
     case h_2=>cases h
     case h_1 hw=>
      obtain ⟨e',hk⟩:=As h;obtain ⟨dt,dx⟩:=d;dsimp only at e';subst e';obtain ⟨cs,hsrc,hrep⟩:=S.roots m _ hr;have hv:C_ (.slice e) v cs:=DJ hs (p:=⟨m,[]⟩) hr rfl (d' :=⟨.slice e,dx⟩) rfl (src:=γ m) rfl (by rw [hsrc];rfl);obtain ⟨O',S',hle⟩:=(S.drop hr).forget (O₀:=O₀) (fun b h=>.inl h)
      have hgone:∀ b,φ m b->¬O' b:=by
       intro b hb ho;rcases (S'.own b).1 ho with h | ⟨n,r',hr',hf⟩
       ·exact (S.fresh m _ hr b hb).2 h
       ·rw [St.root_drop] at hr';split at hr'
        ·cases hr'
        ·rename_i hn;cases hq:σ.root n with
         |none=>rw [hq] at hr';cases hr'
         |some q=>exact S.apart n m _ _ hq hr hn b ⟨hf,hb⟩
      have hz:Rep w O' (.slice e) .z dx cs Ab.none:=Rep.freeze (fun b _ h=>hle b h) hw hgone hrep;obtain ⟨_,an,cap,hcs,_,_,_,hx⟩:=id hz
      have hv':v = .slice an (Bu dx).length cap:=by
       have:=hv.one rfl;rw [hcs] at this;injection this with this
       exact this.symm
      rcases hx with hx | ⟨b,off,cl,h1,h2,h3,h4,h5⟩
      ·refine ⟨dx,[],_,O',hk,S',PK (O:=O') hju hv' (ys:=dx) (by rw [show Bu dx=[] from hx];exact ⟨rfl,fun _ h=>h⟩) (.inl hx),?_⟩;rw [show dx=[] from hx];exact ⟨rfl,fun _ h=>h⟩
      ·exact ⟨dx,cl,_,O',hk,S',PK hju hv' h4 (.inr ⟨b,off,h1,h5⟩),h4⟩
  ·rename_i hc;by_cases hoz:Ul σ s=true
   ·obtain ⟨ys,hk,an,cap,cl,hv',hel,hx⟩:=S.contentZ hs hoz h;exact ⟨ys,cl,σ,O,hk,S,PK hju hv' hel hx,hel⟩
   rw [Bool.not_eq_true] at hoz;rw [hoz,Bool.not_false,Bool.and_true] at hc;obtain ⟨ys,hk,cs,hv,hr,hr'⟩:=S.content hs h;obtain ⟨_,an,cap,hcs,hle,ha,hsp,hx⟩:=id hr
   have hv':v = .slice an (Bu ys).length cap:=by
    have:=hv.one rfl;rw [hcs] at this;injection this with this
    exact this.symm
   have els:∃ news,Els (Rep w O e .z) ys news Ab.none/\(ys=[]\/∃ b off,an=some ⟨b,off,none⟩/\∀ i,i<news.length->w.cell? ⟨b,off+i,none⟩=news[i]?):=by
    simp only [Bool.and_eq_false_iff,Bool.not_eq_false'] at hc;rcases hc with hl | hf
    ·obtain ⟨_,an',cap',hcs',_,_,_,hx'⟩:=hr' hl;rw [hcs] at hcs';injection hcs' with hcs'
     injection hcs' with e1 e2 e3
     subst e1 e3;rcases hx' with rfl | ⟨b,off,cl,h1,h2,h3,h4,h5⟩
     ·exact ⟨[],⟨rfl,fun _ h=>h⟩,.inl rfl⟩
     ·exact ⟨cl,h4,.inr ⟨b,off,h1,h5⟩⟩
    ·rcases hx with rfl | ⟨b,off,cl,h1,h2,h3,h4,h5⟩
     ·exact ⟨[],⟨rfl,fun _ h=>h⟩,.inl rfl⟩
     ·exact ⟨cl,h4.flat hf,.inr ⟨b,off,h1,h5⟩⟩
   obtain ⟨news,hels,hx⟩:=els;exact ⟨ys,news,σ,O,hk,S,PK hju hv' hels hx,hels⟩
 |int _=>cases h
 |bool=>cases h
 |unit=>cases h
 |pair _ _=>cases h
theorem cJ (S:Sim P env w₀ O₀ W σ γ φ O a w) {tx:TypeId} {e u:Ty} {se:Sh} (hu:TyOk P tx u) {s:Slot} {v:Value} (hs:Ak P w O σ γ s v) {k:List e.den->St->Option α} {r:α}
  (h:KG σ e u se s k=some r):∃ ys news σ',∃ O' O₁ Fy:Ab,k ys σ'=some r/\Sim P env w₀ O₁ W σ' γ φ O' a w/\Go.Src P e.size tx v ys.length news w/\Els (Rep w O' e se) ys news Fy/\
   (∀ b,O₀ b->O₁ b)/\(∀ b,Fy b->O₁ b/\¬O₀ b/\(w₀.heap.size<=b\/W b)):=by
 unfold KG at h;split at h
 ·obtain ⟨ys,news,σ',O',h1,h2,h3,h4⟩:=Zk S hu hs h;exact ⟨ys,news,σ',O',O₀,Ab.none,h1,h2,h3,h4,fun _ h=>h,fun _ h=>h.elim⟩
 ·split at h
  case h_2=>cases h
  case h_1 eu=>
   obtain ⟨ju,hju,_⟩:=hu.1;split at h
   case h_2=>cases h
   case h_1 t0 m=>
    split at h
    case h_2=>cases h
    case h_1 d sh hr=>
     split at h
     case h_2=>cases h
     case h_1 hd=>
      rw [Ajb,Ajg] at hd;obtain ⟨hd,hwh⟩:=hd;subst hd;obtain ⟨e',hk⟩:=As h;obtain ⟨dt,dx⟩:=d;dsimp only at e';subst e';obtain ⟨cs,hsrc,hrep⟩:=S.roots m _ hr;have hv:C_ (.slice e) v cs:=DJ hs (p:=⟨m,[]⟩) hr rfl (d' :=⟨.slice e,dx⟩) rfl (src:=γ m) rfl (by rw [hsrc];rfl);have hcv:cs=[v]:=hv;subst hcv;have hφ:∀ b,φ m b->¬O₀ b/\(w₀.heap.size<=b\/W b):=fun b hb=>⟨(S.fresh m _ hr b hb).2,(S.fresh m _ hr b hb).1⟩
      rcases hrep with ⟨h1,h2,h3⟩ | ⟨b,off,cap,C,tid,fr,F',hc,hl,hb,hfr,hsz,hel,hU,hdb,hOb⟩
      ·injection h1 with h1
       refine ⟨dx,[],_,O,_,Ab.none,hk,S.drop hr,?_,by rw [show dx=[] from h2];exact ⟨rfl,fun _ h=>h⟩,fun _=>.inl,fun _ h=>h.elim⟩;rw [h1,show dx=[] from h2];exact Go.Src.ofNil w hju 0
      ·injection hc with hc
       refine ⟨dx,(C.toList.drop off).take ((Bu dx).length*e.size),_,O,_,F',hk,S.drop hr,?_,hel,fun _=>.inl,fun k hk=>⟨.inr ((hU k).2 (.inr hk)),hφ k ((hU k).2 (.inr hk))⟩⟩;have hlen:=Els.len (sz:=e.size) (fun _ _ _ h=>h.len) hel;rw [hc];refine Go.Src.ofSlice w hju ⟨b,off,none⟩ _ cap _ hlen ?_ (Els.ones hwh hel);intro j x hj;have hj' :=(List.getElem?_eq_some_iff.1 hj).1;rw [DU];rw [<-hj,List.getElem?_take_of_lt (by rw [hlen] at hj';exact hj'),List.getElem?_drop,Array.getElem?_toList];simp [World.cell?,hb]
theorem KM:∀ (p:Bi) {t:Ty} {x:t.den} {d:Hd},AB p t x some=some d->BT p t x d some=some x
 |[],t,x,d,h=>by
  simp only [AB] at h;injection h with h
  subst h;simp [BT]
 |.l::p,t,x,d,h=>by
  cases t<;>simp only [AB] at h<;>try (cases h;done)
  simp only [BT];rw [Bb,KM p h];rfl
 |.r::p,t,x,d,h=>by
  cases t<;>simp only [AB] at h<;>try (cases h;done)
  simp only [BT];rw [Bb,KM p h];rfl
 |.at i::p,t,x,d,h=>by
  cases t<;>simp only [AB] at h<;>try (cases h;done)
  split at h
  ·rename_i e y hx;simp only [BT,hx];rw [Bb,KM p h];simp only [Ai5];congr 1;obtain ⟨hi,rfl⟩:=List.getElem?_eq_some_iff.1 hx;exact List.set_getElem_self hi
  ·cases h
theorem UG:∀ (q p:Bi) {sh sh':Sh},BS q sh .gone=some sh' ->Be p sh'=true->Be p sh=true
 |[],p,sh,sh',h,hok=>by
  simp only [BS] at h;injection h with h
  subst h
  have:via p=false:=by
   have key:∀ (p:Bi),Be p .gone=true->via p=false/\∀ s,s=Sh.z->Be p s=true->via p=false:=by
    intro p;induction p with
    |nil=>intro _;exact ⟨rfl,fun _ _ _=>rfl⟩
    |cons st p ih=>
     intro h
     have hz:∀ (p:Bi),Be p .z=true->via p=false:=by
      intro p;induction p with
      |nil=>intro _;rfl
      |cons st p ih=>intro h;cases st<;>simp only [Be,Sh.l,Sh.r] at h<;>first | exact ih h | cases h
     cases st with
     |l=>exact ⟨hz p h,fun _ _ _=>hz p h⟩
     |r=>exact ⟨hz p h,fun _ _ _=>hz p h⟩
     | «at» i=>cases h
   exact (key p hok).1
  exact KL p sh this
 |.l::q,p,sh,sh',h,hok=>by
  simp only [BS] at h;obtain ⟨s,hs,rfl⟩:=Option.map_eq_some_iff.1 h;cases p with
  |nil=>rfl
  |cons st p=>
   cases st with
   |l=>simp only [Be,Sh.mk_l] at hok ⊢;exact UG q p hs hok
   |r=>simpa only [Be,Sh.mk_r] using hok
   | «at» i=>
    cases hm:Sh.mk s sh.r<;>rw [hm] at hok<;>simp only [Be] at hok<;>try (cases hok;done)
    cases s<;>cases hr:sh.r<;>rw [hr] at hm<;>simp [Sh.mk] at hm
 |.r::q,p,sh,sh',h,hok=>by
  simp only [BS] at h;obtain ⟨s,hs,rfl⟩:=Option.map_eq_some_iff.1 h;cases p with
  |nil=>rfl
  |cons st p=>
   cases st with
   |r=>simp only [Be,Sh.mk_r] at hok ⊢;exact UG q p hs hok
   |l=>simpa only [Be,Sh.mk_l] using hok
   | «at» i=>
    cases hm:Sh.mk sh.l s<;>rw [hm] at hok<;>simp only [Be] at hok<;>try (cases hok;done)
    cases s<;>cases hr:sh.l<;>rw [hr] at hm<;>simp [Sh.mk] at hm
 |.at i::q,p,sh,sh',h,hok=>by
  cases sh<;>simp only [BS] at h<;>try (cases h;done)
  split at h
  ·injection h with h;subst h;exact hok
  ·cases h
end Go.V
namespace Go.V
variable {α:Type}
variable {P:Program} {env:Bf} {w₀ w w':World} {O₀ O₁ W O O':Ab} {σ σ₀ σ' σ₁:St} {γ γ':Name->Src} {φ φ':Name->Ab} {a a':Act} {n:Name}
theorem Ak.narrow (hd:∀ m b d sh,σ.root m=some (.data b d sh)->∃ sh',σ'.root m=some (.data b d sh')/\∀ p,Be p sh'=true->Be p sh=true)
  (hh:∀ m s,σ.root m=some (.held s)->σ'.root m=some (.held s)) {s:Slot} {v:Value} (hs:Ak P w O σ γ s v):Ak P w O σ' γ s v:=by
 have pl:∀ {p t src},Bz w σ γ p t src->Bz w σ' γ p t src/\(Da σ' p->Da σ p):=by
  rintro p t src ⟨b,d,sh,hr,htp,hg⟩;obtain ⟨sh',hr',hsh⟩:=hd _ _ _ _ hr
  have hl:Da σ' p->Da σ p:=by
   rintro ⟨b₂,d₂,sh₂,d',hr₂,hok,hget⟩;rw [hr'] at hr₂;injection hr₂ with hr₂
   injection hr₂ with e1 e2 e3
   subst e1 e2 e3;exact ⟨b,d,sh,d',hr,hsh _ hok,hget⟩
  exact ⟨⟨b,d,sh',hr',htp,fun h=>hg (hl h)⟩,hl⟩
 induction hs with
 |undef v=>exact .undef v
 |pv d v cs hv hr=>exact .pv d v cs hv hr
 |ref t p v src hp hl=>exact .ref t p v src (pl hp).1 fun h=>hl ((pl hp).2 h)
 |vw e p lo hi src an k c hp hl h1 h2=>exact .vw e p lo hi src an k c (pl hp).1 (fun h=>hl ((pl hp).2 h)) h1 h2
 |ptr p t b off hp=>exact .ptr p t b off (pl hp).1
 |ptrH m s b off hr hs=>exact .ptrH m s b off (hh _ _ hr) hs
 |fptr d b off cs h1 h2 h3 h4=>exact .fptr d b off cs h1 h2 h3 h4
 |clo f caps vs hl hall ih=>exact .clo f caps vs hl ih
 |fnA a b φ v w₀' O₀' hf hk ho hfn=>exact .fnA a b φ v w₀' O₀' hf hk ho hfn
 |tup l vs hl hall ih=>exact .tup l vs hl ih
 |nilS=>exact .nilS
 |may e b h=>exact .may e b h
theorem Sim.gone (S:Sim P env w₀ O₀ W σ γ φ O a w) {b:Bool} {d:Hd} {sh sh':Sh} {p:Bi} {e:Ty} {xs:List e.den} {b' off':Nat} (hr:σ.root n=some (.data b d sh)) (hok:Be p sh=true)
  (hget:AB p d.t d.x some=some ⟨.slice e,xs⟩) (hg:goto w p d.t (γ n)=some (.slice e,.mem b' off')) (hsh:BS p sh .gone=some sh') :
  ∃ φ' F v,Sim P env w₀ (fun b=>O₀ b\/F b) W (σ.put n (.data b d sh')) γ φ' O a w/\Al w 1 (.mem b' off')=some [v]/\Rep w O (.slice e) (Eo p sh) xs [v] F/\∀ c,F c->¬O₀ c/\(w₀.heap.size<=c\/W c):=by
 obtain ⟨cs,F,hR,hcs,hblk,hFφ,hblkφ,hφ,hclear⟩:=S.rootRep hr;obtain ⟨src',cs',F',hg',hcs',hrep',hF',hb',hin,hrng,hback⟩:=Rep.zip p hR hcs hblk hok hget;rw [hg] at hg';injection hg' with hg'
 injection hg' with _ hg'
 subst hg';have hl' :=hrep'.len
 obtain ⟨v,rfl⟩:∃ v,cs'=[v]:=by
  match cs',hl' with
  |[v],_=>exact ⟨v,rfl⟩
  |[],h=>simp [Ty.size] at h
  |_::_::_,h=>simp [Ty.size] at h
 obtain ⟨cs₂,hcs₂,hrep₂⟩:=hback w O Ab.none b' off' .gone sh' xs [v] d.x rfl
  ⟨⟨Nat.le_refl _,fun _ _ _ _=>rfl,fun C tid fr h=>⟨C,h,rfl,fun _ _=>rfl⟩⟩,hcs',fun _ h=>h.elim,fun _ h=>h.elim,fun h=>h,fun _ _ h=>h,fun _ h _=>h⟩
  ⟨⟨v,rfl⟩,fun _ h=>h⟩ (KM p hget) hsh
 rw [hcs] at hcs₂;injection hcs₂ with hcs₂
 subst hcs₂;have hrep₂:=hrep₂.foot (F' :=fun k=>F k/\¬F' k) fun k=>by simp [Ab.none]
 let φ':Name->Ab:=fun m=>if m=n then (fun k=>φ n k/\¬F' k) else φ m
 have hφn:φ' n=fun k=>φ n k/\¬F' k:=by simp [φ']
 have hφm:∀ m,m≠n->φ' m=φ m:=fun m hm=>by simp [φ',hm]
 have hrn:(σ.put n (.data b d sh')).root n=some (.data b d sh'):=by rw [St.root_put,if_pos rfl]
 have hrm:∀ m,m≠n->(σ.put n (.data b d sh')).root m=σ.root m:=fun m hm=>by rw [St.root_put,if_neg hm]
 have hF'φ:∀ k,F' k->φ n k:=fun k hk=>hFφ k (hF' k hk)
 have hlt:∀ k,F' k->k<w.heap.size:=fun k hk=>(S.roots n _ hr).lt (hF'φ k hk)
 have nar:∀ {s:Slot} {v:Value},Ak P w O σ γ s v->Ak P w O (σ.put n (.data b d sh')) γ s v:=by
  refine Ak.narrow ?_ ?_
  ·intro m b₂ d₂ sh₂ h;by_cases hm:m=n
   ·subst hm;rw [hr] at h;injection h with h
    injection h with e1 e2 e3
    subst e1 e2 e3;exact ⟨sh',hrn,fun q hq=>UG p q hsh hq⟩
   ·exact ⟨sh₂,(hrm m hm).trans h,fun _ h=>h⟩
  ·intro m s h;have hm:m≠n:=by rintro rfl;rw [hr] at h;cases h
   exact (hrm m hm).trans h
 refine ⟨φ',F',v,⟨S.defers,S.size,S.kept,?_,?_,?_,?_,?_,fun i=>nar (S.slots i),fun b₁ hb₁ bx₁ d₁ sh₁ h₁=>by
   by_cases hm:4=n
   ·subst hm;rw [hrn] at h₁;exact S.pin b₁ hb₁ b d sh hr
   ·exact S.pin b₁ hb₁ bx₁ d₁ sh₁ ((hrm 4 hm).symm.trans h₁)⟩,hcs',hrep',fun c hc=>⟨(S.fresh n _ hr c (hF'φ c hc)).2,(S.fresh n _ hr c (hF'φ c hc)).1⟩⟩
 ·intro m r hm';by_cases hm:m=n
  ·subst hm;rw [hrn] at hm';injection hm' with hm'
   subst hm';rw [hφn];have R:=S.roots m _ hr;cases b with
   |true=>
    obtain ⟨bb,off,C₃,tid₃,fr₃,cs₃,F₃,hsrc,hb₃,hfr₃,hcs₃,hrep₃,hF₃,hOb₃,hU₃⟩:=R;have hnFbb:¬F bb:=(hblk bb (by rw [hsrc];rfl)).1;have hbb:φ m bb:=hblkφ _ (by rw [hsrc];rfl);refine ⟨bb,off,C₃,tid₃,fr₃,cs,_,hsrc,hb₃,hfr₃,by rw [<-hsrc];exact hcs,hrep₂,fun h=>hnFbb h.1,hOb₃,fun k=>?_⟩;constructor
    ·rintro ⟨h,hn⟩;rcases hφ k h with h | h
     ·rw [hsrc] at h;exact .inl h
     ·exact .inr ⟨h,hn⟩
    ·rintro (rfl | ⟨h,hn⟩)
     ·exact ⟨hbb,fun h=>hnFbb (hF' _ h)⟩
     ·exact ⟨hFφ k h,hn⟩
   |false=>
    obtain ⟨cs₃,hsrc,hrep₃⟩:=R;rw [hsrc] at hcs;simp only [Al] at hcs;injection hcs with hcs
    subst hcs;refine ⟨cs₃,hsrc,hrep₂.foot fun k=>?_⟩;have hFk:F k↔φ m k:=⟨hFφ k,fun h=>(hφ k h).resolve_left (by rw [hsrc];exact fun h=>h)⟩;rw [hFk]
  ·rw [hrm m hm] at hm';rw [hφm m hm];have R:=S.roots m r hm';cases r with
   |data bx d₂ sh₂=>cases bx<;>exact R
   |held s=>
    obtain ⟨b₂,off₂,C₂,tid₂,fr₂,v,hsrc,hb₂,hfz,hC,hs,hOb,hU⟩:=R;exact ⟨b₂,off₂,C₂,tid₂,fr₂,v,hsrc,hb₂,hfz,hC,nar hs,hOb,hU⟩
 ·intro m k r r' h1 h2 hmk c hh
  have old:∀ m r,(σ.put n (.data b d sh')).root m=some r->∃ r₀,σ.root m=some r₀/\∀ c,φ' m c->φ m c:=by
   intro m r h;by_cases hm:m=n
   ·subst hm;exact ⟨_,hr,fun c hc=>by rw [hφn] at hc;exact hc.1⟩
   ·rw [hrm m hm] at h;exact ⟨r,h,fun c hc=>by rw [hφm m hm] at hc;exact hc⟩
  obtain ⟨r₁,g1,g2⟩:=old m r h1;obtain ⟨r₂,g3,g4⟩:=old k r' h2;exact S.apart m k _ _ g1 g3 hmk c ⟨g2 c hh.1,g4 c hh.2⟩
 ·intro m r h1 c hc;by_cases hm:m=n
  ·subst hm;rw [hφn] at hc;have:=S.fresh m _ hr c hc.1;exact ⟨this.1,fun h=>h.elim this.2 hc.2⟩
  ·rw [hrm m hm] at h1;rw [hφm m hm] at hc;have:=S.fresh m r h1 c hc;exact ⟨this.1,fun h=>h.elim this.2 fun h=>S.apart m n _ _ h1 hr hm c ⟨hc,hF'φ c h⟩⟩
 ·intro c;rw [S.own c];constructor
  ·rintro (h | ⟨m,r,h1,h2⟩)
   ·exact .inl (.inl h)
   ·by_cases hm:m=n
    ·subst hm;by_cases hc:F' c
     ·exact .inl (.inr hc)
     ·exact .inr ⟨m,_,hrn,by rw [hφn];exact ⟨h2,hc⟩⟩
    ·exact .inr ⟨m,r,(hrm m hm).trans h1,by rw [hφm m hm];exact h2⟩
  ·rintro ((h | h) | ⟨m,r,h1,h2⟩)
   ·exact .inl h
   ·exact .inr ⟨n,_,hr,hF'φ c h⟩
   ·by_cases hm:m=n
    ·subst hm;rw [hφn] at h2;exact .inr ⟨m,_,hr,h2.1⟩
    ·rw [hφm m hm] at h2;exact .inr ⟨m,r,(hrm m hm).symm.trans h1,h2⟩
 ·rintro c (h | h)
  ·exact S.old c h
  ·exact hlt c h
end Go.V
namespace Go.V
variable {α:Type}
variable {P:Program} {env:Bf} {w₀ w w':World} {O₀ O₁ W O O':Ab} {σ σ₀ σ' σ₁:St} {γ γ':Name->Src} {φ φ':Name->Ab} {a a':Act} {n:Name}
theorem Iz:∀ (p:Bi) {t tp:Ty} {src s:Src},(via p=true\/∃ b o,src = .mem b o)->goto w p t src=some (tp,s)->∃ b o,s = .mem b o
 |[],t,tp,src,s,h,hg=>by
  simp only [goto] at hg;injection hg with hg
  injection hg with _ hg
  rcases h with h | h
  ·simp [via] at h
  ·rw [<-hg];exact h
 |.l::p,t,tp,src,s,h,hg=>by
  cases t<;>simp only [goto] at hg<;>try (cases hg;done)
  exact Iz p (h.imp (fun h=>h) fun ⟨b,o,h⟩=>⟨b,o,by rw [h];rfl⟩) hg
 |.r::p,t,tp,src,s,h,hg=>by
  cases t<;>simp only [goto] at hg<;>try (cases hg;done)
  exact Iz p (h.imp (fun h=>h) fun ⟨b,o,h⟩=>⟨b,_,by rw [h];rfl⟩) hg
 |.at i::p,t,tp,src,s,h,hg=>by
  cases t<;>simp only [goto] at hg<;>try (cases hg;done)
  split at hg
  ·exact Iz p (.inr ⟨_,_,rfl⟩) hg
  ·cases hg
theorem WW (S:Sim P env w₀ O₀ W σ γ φ O a w) {s:Slot} {v:Value} (hs:Ak P w O σ γ s v) {e:Ty} {se:Sh} {nm:Name} (hnm:nm≠4) {k:List e.den->Name->St->Option α} {r:α} (h:OG σ s e se nm k=some r) :
  ∃ xs n σ₂ γ₂ φ₂ O₂,k xs n σ₂=some r/\Sim P env w₀ O₀ W σ₂ γ₂ φ₂ O₂ a w/\σ₂.root n=some (.data false ⟨.slice e,xs⟩ (.own se))/\γ₂ n = .val [v]/\n≠4/\∀ b,b<w.heap.size->¬O b->¬O₂ b:=by
 unfold OG at h;split at h
 case h_3=>cases h
 case h_1=>
  cases hs with
  |nilS=>
   obtain ⟨γ',φ',O',S',A,hγ,hφ⟩:=S.lay (n:=nm) (O₀:=O₀) (r:=.data false ⟨.slice e,([]:List e.den)⟩ (.own se)) (src:=.val [.slice none 0 0]) (F:=Ab.none)
    (AF.refl _ _) (fun _ h=>h) (fun b hb=>hb.elim) (fun O' γ' φ' A hγ hO=>⟨_,rfl,.inl ⟨rfl,rfl,fun _ h=>h⟩⟩) (fun e=>absurd e hnm)
   exact ⟨[],nm,_,γ',φ',O',h,S',by rw [St.root_lay,if_pos rfl],hγ,hnm,A.free⟩
 case h_2 t' p=>
  cases hs with
  |ref _ _ _ src hp hl=>
   split at h
   case h_2=>cases h
   case h_1 b d sh hr=>
    split at h
    case h_2=>cases h
    case h_1 hc=>
     simp only [Ajb,Ajg] at hc;obtain ⟨hok,hown⟩:=hc;obtain ⟨y,hget,h2⟩:=Ed h;clear h;obtain ⟨yt,yx⟩:=y;obtain ⟨et,hk⟩:=As h2;clear h2;dsimp only at et;subst et;have hL:Da σ p:=⟨b,d,sh,_,hr,hok,hget⟩;obtain ⟨b₂,d₂,sh₂,hr₂,htp,hg⟩:=hp;rw [hr] at hr₂;injection hr₂ with hr₂
     injection hr₂ with e1 e2 e3
     subst e1 e2 e3;have hgo:=hg hL
     have ht:t' = .slice e:=by
      have:=Hi p.path hget;rw [htp] at this;injection this
     subst ht;obtain ⟨cs,hcs,hv⟩:=hl hL;have hcv:cs=[v]:=hv.one rfl;subst hcv;split at hk
     ·rename_i hbv;split at hk
      case h_2=>cases hk
      case h_1 sh' hsh=>
       have hmem:∃ b' off',src = .mem b' off' :=by
        refine Iz p.path ?_ hgo;simp only [Ajc] at hbv;rcases hbv with hb | hv
        ·subst hb;obtain ⟨b',off',_,_,_,_,_,hsrc,_⟩:=S.roots _ _ hr;exact .inr ⟨b',off',hsrc⟩
        ·exact .inl hv
       obtain ⟨b',off',rfl⟩:=hmem;obtain ⟨φ₁,F,v₁,S₁,hcell,hrep,hF⟩:=S.gone hr hok hget hgo hsh;rw [show Al w 1 (.mem b' off')=some [v] from hcs] at hcell;injection hcell with hcell
       injection hcell with hcell
       subst hcell;rw [hown] at hrep
       obtain ⟨γ',φ',O',S',A,hγ,hφ⟩:=S₁.lay (n:=nm) (O₀:=O₀) (r:=.data false ⟨.slice e,yx⟩ (.own se)) (src:=.val [v]) (F:=F)
        (AF.refl _ _) (fun _ h=>.inl h) (fun c hc=>.inr (.inr ⟨.inr hc,hF c hc⟩))
        (fun O' γ' φ' A hγ hO=>⟨_,rfl,Rep.frame (Nat.le_refl _) (fun _ _ _=>rfl) (fun _ _=>rfl) A.free (fun b hb _=>hO b hb) hrep⟩) (fun e=>absurd e hnm)
       exact ⟨yx,nm,_,γ',φ',O',hk,S',by rw [St.root_lay,if_pos rfl],hγ,hnm,A.free⟩
     ·rename_i hbv;simp only [Bool.or_eq_false_iff] at hbv;obtain ⟨hb,_⟩:=hbv;subst hb;split at hk
      case h_2=>cases hk
      case h_1 hpath=>
       rw [hpath] at hget hgo hown;simp only [AB] at hget;injection hget with hget
       have hd:d=⟨.slice e,yx⟩:=hget;subst hd;simp only [Eo] at hown;subst hown;obtain ⟨cs,hsrc,hrep⟩:=S.roots _ _ hr;simp only [goto] at hgo;injection hgo with hgo
       injection hgo with _ hgo
       rw [hsrc] at hgo;subst hgo;simp only [Al] at hcs;injection hcs with hcs
       subst hcs;split at hk
       ·obtain ⟨γ',φ',O',S',A,hγ,hφ⟩:=(S.drop hr).lay (n:=nm) (O₀:=O₀) (r:=.data false ⟨.slice e,yx⟩ (.own se)) (src:=.val [v]) (F:=φ p.name)
         (AF.refl _ _) (fun _ h=>.inl h) (fun c hc=>.inr (.inr ⟨.inr hc,(S.fresh _ _ hr c hc).2,(S.fresh _ _ hr c hc).1⟩))
         (fun O' γ' φ' A hγ hO=>⟨_,rfl,Rep.frame (Nat.le_refl _) (fun _ _ _=>rfl) (fun _ _=>rfl) A.free (fun b hb _=>hO b hb) hrep⟩) (fun e=>absurd e hnm)
        exact ⟨yx,nm,_,γ',φ',O',hk,S',by rw [St.root_lay,if_pos rfl],hγ,hnm,A.free⟩
       ·rename_i hn4;exact ⟨yx,p.name,σ,γ,φ,O,hk,S,hr,hsrc,(fun e=>by rw [e] at hn4;simp at hn4),fun _ _ h=>h⟩
theorem Ti (n:Nat):∀ (r c:Nat),Builtin.growBy n r c<=max c (n+(n+768) / 4)
 |0,c=>by simp only [Builtin.growBy];omega
 |r+1,c=>by
  unfold Builtin.growBy;split
  ·omega
  ·have:=Ti n r (c+(c+768) / 4);omega
theorem jn {n c bytes:Nat} (h:c<n) (hn:n<=A_) (hb:bytes<=32768):Builtin.nextslicecap n c*bytes<=281474976710656:=by
 have hn':n<=4294967296:=hn
 have:Builtin.nextslicecap n c<=8589934592:=by
  unfold Builtin.nextslicecap;split
  ·omega
  ·split
   ·omega
   ·have:=Ti n 4 c;omega
 calc Builtin.nextslicecap n c*bytes<=8589934592*32768:=Nat.mul_le_mul this hb
  _=281474976710656:=by decide
theorem Els.append {β:Type} {R:β->List Value->Ab->Prop}:∀ {xs ys:List β} {cs ds:List Value} {F G:Ab},Els R xs cs F->Els R ys ds G->(∀ b,¬(F b/\G b))->Els R (xs++ys) (cs++ds) (fun b=>F b\/G b)
 |[],ys,cs,ds,F,G,h,h',_=>by
  rw [h.1,show (fun b=>F b\/G b)=G from funext fun b=>propext ⟨fun k=>k.resolve_left (h.2 b),.inr⟩];exact h'
 |x::xs,ys,cs,ds,F,G,⟨c₁,c₂,F₁,F₂,e,hx,hxs,hU,hd⟩,h',hFG=>
  ⟨c₁,c₂++ds,F₁,fun b=>F₂ b\/G b,by rw [e,List.append_assoc],hx,Els.append hxs h' fun b hb=>hFG b ⟨(hU b).2 (.inr hb.1),hb.2⟩,fun b=>by show (F b\/G b)↔F₁ b\/(F₂ b\/G b);rw [hU b,or_assoc],
   fun b hb=>hb.2.elim (fun h=>hd b ⟨hb.1,h⟩) fun h=>hFG b ⟨(hU b).2 (.inl hb.1),h⟩⟩
end Go.V
namespace Go.V
variable {α:Type}
variable {P:Program} {env:Bf} {w₀ w w':World} {O₀ O₁ W O O':Ab} {σ σ₀ σ' σ₁:St} {γ γ':Name->Src} {φ φ':Name->Ab} {a a':Act} {n:Name}
theorem Tj (S:Sim P env w₀ O₁ W σ γ φ O a w) (hsub:∀ b,O₀ b->O₁ b) (n:Name) (hn4:n≠4) (K:AF (σ.foot φ n) w w') {e:Ty} {s:Sh} {xs:List e.den} {v:Value} {F:Ab} (hF:∀ b,F b->w.heap.size<=b\/σ.foot φ n b\/(O₁ b/\¬O₀ b/\(w₀.heap.size<=b\/W b)))
  (hrep:∀ O',(∀ b,b<w.heap.size->¬O b->¬O' b)->(∀ b,F b->O' b)->Rep w' O' (.slice e) (.own s) xs [v] F) :
  ∃ γ' φ' O',Sim P env w₀ O₀ W (σ.lay n (.data false ⟨.slice e,xs⟩ (.own s))) γ' φ' O' a w' /\Ak P w' O' (σ.lay n (.data false ⟨.slice e,xs⟩ (.own s))) γ' (.ref (.slice e) ⟨n,[]⟩) v:=by
 obtain ⟨γ',φ',O',S',A,hγ,hφ⟩:=S.lay (n:=n) (O₀:=O₀) (r:=.data false ⟨.slice e,xs⟩ (.own s)) (src:=.val [v]) (F:=F) K hsub hF
  (fun O' γ' φ' A hγ hO=>⟨_,rfl,hrep O' A.free hO⟩) (fun e=>absurd e hn4)
 have hv:C_ (.slice e) v [v]:=rfl;refine ⟨γ',φ',O',S',.ref (.slice e) ⟨n,[]⟩ _ (.val _) ⟨false,_,_,by rw [St.root_lay,if_pos rfl],rfl,fun _=>?_⟩ fun _=>⟨_,rfl,hv⟩⟩;simp only [goto];rw [hγ]
theorem jo (S:Sim P env w₀ O₁ W σ γ φ O a w) (hsub:∀ b,O₀ b->O₁ b) {t tx ty j:TypeId} {e:Ty} {ie:TypeInfo} {z:Value} (hu:P.underlying t=some (.slice j)) (hie:P.info? j=some ie) (hies:ie.size=e.size)
  (hby:ie.bytes<=32768) (hz:ie.zero=some z) (hzc:z.cells.size=e.size) {se:Sh} {xs:List e.den} {v:Value} (hr:σ.root n=some (.data false ⟨.slice e,xs⟩ (.own se))) (hn4:n≠4) (hγ:γ n = .val [v]) {vx:Value} {ys:List e.den} {news:List Value}
  (hs:Go.Src P e.size tx vx ys.length news w) {Fy:Ab} (hels:Els (Rep w O e se) ys news Fy) (hFy:∀ b,Fy b->O₁ b/\¬O₀ b/\(w₀.heap.size<=b\/W b)) (hlim:xs.length+ys.length<=A_) :
  ∃ v' γ' φ' O' w',(Builtin.append_ #[t,tx] ty #[v,vx]).run P w = .ok v' w' /\Sim P env w₀ O₀ W (σ.lay n (.data false ⟨.slice e,xs++ys⟩ (.own se))) γ' φ' O' a w' /\
   Ak P w' O' (σ.lay n (.data false ⟨.slice e,xs++ys⟩ (.own se))) γ' (.ref (.slice e) ⟨n,[]⟩) v' :=by
 obtain ⟨cs,hsrc,hrep⟩:=S.roots n _ hr;rw [hγ] at hsrc;injection hsrc with hsrc
 subst hsrc;have hnl:=hs.newsLen;have hφn:∀ b,φ n b->σ.foot φ n b:=fun b hb=>⟨⟨_,hr⟩,hb⟩
 rw [<-hies] at hs;have hFφ:∀ b,¬(φ n b/\Fy b):=fun b hb=>(S.fresh n _ hr b hb.1).2 (hFy b hb.2).1
 have hFlt:∀ b,Fy b->b<w.heap.size:=fun b hb=>S.old b (hFy b hb).1
 have hφlt:∀ b,φ n b->b<w.heap.size:=fun b hb=>(S.roots n _ hr).lt hb
 have grows:∀ (base:Option Addr) (cap:Nat) (olds:List Value) (F':Ab),(∀ b,F' b->φ n b)->v = .slice base xs.length cap->(Builtin.firstCells ie.size xs.length (.slice base xs.length cap)).run P w.drew = .ok olds.toArray w.drew->
   Els (Rep w O e se) xs olds F' ->cap<xs.length+ys.length->
   ∃ v' γ' φ' O' w',(Builtin.append_ #[t,tx] ty #[v,vx]).run P w = .ok v' w' /\Sim P env w₀ O₀ W (σ.lay n (.data false ⟨.slice e,xs++ys⟩ (.own se))) γ' φ' O' a w' /\
    Ak P w' O' (σ.lay n (.data false ⟨.slice e,xs++ys⟩ (.own se))) γ' (.ref (.slice e) ⟨n,[]⟩) v' :=by
  intro base cap olds F' hF'φ hv hold hel hcap;have hlim':xs.length+ys.length<=4294967296:=hlim;have hrun:=run_append_grow_src (P:=P) w t tx ty j ie z hu hie hz base xs.length cap olds hold vx ys.length news hs hcap (by omega) (jn hcap hlim hby);have hol:=Els.len (sz:=e.size) (fun _ _ _ h=>h.len) hel;have hge:=grownCap_ge w (xs.length+ys.length) cap j;obtain ⟨zs,hzs⟩:∃ zs,Builtin.zeroCells z.cells (grownCap w (xs.length+ys.length) cap j-(xs.length+ys.length))=zs:=⟨_,rfl⟩
  have hzl:zs.size=(grownCap w (xs.length+ys.length) cap j-(xs.length+ys.length))*e.size:=by
   rw [<-hzs,<-hzc];simp [Builtin.zeroCells]
  rw [hzs] at hrun;obtain ⟨C,hC⟩:∃ C,(olds++news).toArray++zs=C:=⟨_,rfl⟩
  have hmul:(xs++ys).length*e.size=(olds++news).length:=by
   rw [Ai9,Ai9,hol,hnl,Nat.add_mul]
  have hCl:C.size=grownCap w (xs.length+ys.length) cap j*e.size:=by
   rw [<-hC,Array.size_append,hzl,List.size_toArray,<-hmul,Ai9,<-Nat.add_mul];congr 1;omega
  have hCt:C.toList.take ((xs++ys).length*e.size)=olds++news:=by
   rw [<-hC,hmul,Array.toList_append,List.take_left]
  rw [hC] at hrun;have hh:(w.drew.alloc (.cells C j)).heap=w.heap.push (.cells C j):=rfl
  have K:AF Ab.none w (w.drew.alloc (.cells C j)):=
   ⟨rfl,rfl,rfl,by rw [hh,Array.size_push];omega,fun k hk _=>by rw [hh,Array.getElem?_push,if_neg (by omega)]⟩
  have hb:(w.drew.alloc (.cells C j)).heap[w.heap.size]? = some (.cells C j (0,0)):=by rw [hh];simp
  obtain ⟨γ',φ',O',S',hsl⟩:=fresh_sliceF S hsub n hn4 (K.mono fun _ _ h=>h.elim) (e:=e) (s:=se) (xs:=xs++ys) (cap:=grownCap w (xs.length+ys.length) cap j) hb (by intro i _;simp only;omega)
   (by rw [Ai9];exact hge) (by rw [hCl];exact Nat.le_refl _)
   (F:=fun b=>F' b\/Fy b) (fun b hb=>hb.elim (fun h=>⟨hφlt b (hF'φ b h),.inl (hφn b (hF'φ b h))⟩) fun h=>⟨hFlt b h,.inr (hFy b h)⟩)
   (fun O' hfree hO=>by
    rw [hCt];refine (Els.append hel hels fun b hb=>hFφ b ⟨hF'φ b hb.1,hb.2⟩).mono fun x _ c F'' hF'' hx=>?_
    exact Rep.frame K.size (fun b hb _=>K.block b hb fun h=>h) (fun b hb=>K.block b ((hF'' b hb).elim (fun h=>hφlt b (hF'φ b h)) (hFlt b)) fun h=>h) hfree (fun b hb _=>hO b (hF'' b hb)) hx)
  rw [Ai9] at hsl;exact ⟨_,γ',φ',O',_,by rw [hv];exact hrun,S',hsl⟩
 by_cases hy:ys.length=0
 ·-- nothing
  have hy:ys=[]:=List.eq_nil_of_length_eq_zero hy;subst hy;have hn:news=[]:=List.eq_nil_of_length_eq_zero (by rw [hnl];simp);subst hn
  have hform:∃ base cap,v = .slice base xs.length cap/\xs.length<=cap:=by
   rcases hrep with ⟨h1,h2,_⟩ | ⟨b,off,cap,C,tid,fr,F',hc,hl,_⟩
   ·injection h1 with h1;exact ⟨none,0,by rw [h1];rw [show xs=[] from h2];rfl,by rw [show xs=[] from h2];exact Nat.le_refl _⟩
   ·injection hc with hc;exact ⟨some ⟨b,off,none⟩,cap,hc,hl⟩
  obtain ⟨base,cap,hv,hle⟩:=hform;have hrun:=run_append_nothing (P:=P) w t tx ty j ie hu hie base xs.length cap hle vx hs;rw [List.append_nil]
  obtain ⟨γ',φ',O',S',hsl⟩:=Tj S hsub n hn4 (AF.refl _ _) (e:=e) (s:=se) (xs:=xs) (v:=v) (F:=φ n) (fun b hb=>.inr (.inl (hφn b hb)))
   (fun O' hfree hO=>Rep.frame (Nat.le_refl _) (fun _ _ _=>rfl) (fun _ _=>rfl) hfree (fun b hb _=>hO b hb) hrep)
  refine ⟨v,γ',φ',O',w,?_,S',hsl⟩;rw [hv];exact hrun
 ·rcases hrep with ⟨h1,h2,_⟩ | ⟨b,off,cap,C,tid,fr,F',hc,hl,hb,hfr,hsz,hel,hU,hd,hOb⟩
  ·injection h1 with h1
   have h2:xs=[]:=h2;subst h2;exact grows none 0 [] Ab.none (fun _ h=>h.elim) h1 (run_firstCells_none w.drew _ _ _ _) ⟨rfl,fun _ h=>h⟩ (by simp only [Ajd];omega)
  ·injection hc with hc
   have hel:Els (Rep w O e se) xs ((C.toList.drop off).take (xs.length*e.size)) F' :=hel;have hF'φ:∀ k,F' k->φ n k:=fun k hk=>(hU k).2 (.inr hk)
   obtain ⟨olds,holds⟩:∃ olds,(C.toList.drop off).take (xs.length*e.size)=olds:=⟨_,rfl⟩;rw [holds] at hel;have hol:=Els.len (sz:=e.size) (fun _ _ _ h=>h.len) hel;have hmulc:xs.length*e.size<=cap*e.size:=Nat.mul_le_mul_right _ hl
   have hget:∀ i,i<olds.length->olds[i]? = C[off+i]?:=by
    intro i hi;rw [<-holds,List.getElem?_take_of_lt (by omega),List.getElem?_drop,Array.getElem?_toList]
   by_cases hroom:xs.length+ys.length<=cap
   ·-- in its own row
    have hmul2:xs.length*e.size+ys.length*e.size<=cap*e.size:=by
     rw [<-Nat.add_mul];exact Nat.mul_le_mul_right _ hroom
    have hcell:∀ i,w.cell? ⟨b,off+xs.length*ie.size+i,none⟩=C[off+xs.length*ie.size+i]?:=by
     intro i;simp [World.cell?,hb]
    have hrun:=run_append_room_src (P:=P) w t tx ty j ie hu hie b off xs.length cap vx ys.length news hs hroom
     (by intro i hi;rw [hcell,hies,Array.getElem?_eq_getElem (by omega)];rfl)
     (by
      intro i hi;have:=hfr (off+xs.length*ie.size+i) (by rw [hies];omega);simp only [World.frozen?,hb,Bool.and_eq_false_iff,decide_eq_false_iff_not];omega)
    rw [hies] at hrun;obtain ⟨C',h3,h4,h5⟩:=GS news (off+xs.length*e.size) w C hb (by omega);obtain ⟨_,_,K⟩:=JU news (off+xs.length*e.size) w C hb (by omega) Ab.none;have hφb:φ n b:=(hU b).2 (.inl rfl)
    have hCt:(C'.toList.drop off).take ((xs++ys).length*e.size)=olds++news:=by
     have hmul:(xs++ys).length*e.size=olds.length+news.length:=by
      rw [Ai9,hol,hnl,Nat.add_mul]
     rw [hmul];apply List.ext_getElem?;intro i;by_cases hi:i<olds.length+news.length
     ·rw [List.getElem?_take_of_lt hi,List.getElem?_drop,Array.getElem?_toList,h5];by_cases hi2:i<olds.length
      ·rw [if_neg (by omega),List.getElem?_append_left hi2,hget i hi2]
      ·rw [if_pos (by omega),List.getElem?_append_right (by omega)];congr 1;omega
     ·rw [List.getElem?_take_eq_none (by omega),List.getElem?_eq_none (by simp;omega)]
    obtain ⟨γ',φ',O',S',hsl⟩:=Tj S hsub n hn4 (K.mono fun k _ hk=>hφn k (by rw [show k=b from hk];exact hφb)) (e:=e) (s:=se) (xs:=xs++ys)
     (v:=.slice (some ⟨b,off,none⟩) (xs.length+ys.length) cap) (F:=fun k=>k=b\/(F' k\/Fy k)) (by
      rintro k (rfl | h | h)
      ·exact .inr (.inl (hφn _ hφb))
      ·exact .inr (.inl (hφn _ (hF'φ k h)))
      ·exact .inr (.inr (hFy k h)))
     (fun O' hfree hO=>by
      refine .inr ⟨b,off,cap,C',tid,fr,fun k=>F' k\/Fy k,by rw [Ai9],by rw [Ai9];exact hroom,h3,by rw [h4];exact hfr,by rw [h4];exact hsz,?_,fun k=>Iff.rfl,fun h=>h.elim hd fun h=>hFφ b ⟨hφb,h⟩,hO b (.inl rfl)⟩;have e1:(Bu (xs++ys:List e.den)).length*e.size=(xs++ys).length*e.size:=rfl;rw [e1,hCt];refine (Els.append hel hels fun k hk=>hFφ k ⟨hF'φ k hk.1,hk.2⟩).mono fun x _ c F'' hF'' hx=>?_
      exact Rep.frame K.size (fun k hk hOk=>K.block k hk fun h=>hOk (by rw [show k=b from h];exact hOb))
       (fun k hk=>K.block k ((hF'' k hk).elim (fun h=>hφlt k (hF'φ k h)) (hFlt k)) fun h=>(hF'' k hk).elim (fun h' =>hd (by rw [<-show k=b from h];exact h')) fun h' =>hFφ b ⟨hφb,by rw [<-show k=b from h];exact h'⟩) hfree (fun k hk _=>hO k (.inr (hF'' k hk))) hx)
    exact ⟨_,γ',φ',O',_,by rw [hc];exact hrun,S',hsl⟩
   ·refine grows (some ⟨b,off,none⟩) cap olds F' hF'φ hc ?_ hel (by omega);refine run_firstCells_some w.drew ie.size xs.length _ _ _ olds (by rw [hol,hies]) ?_;intro i x hi;have hi' :=(List.getElem?_eq_some_iff.1 hi).1;rw [DU]
    have:w.drew.cell? ⟨b,off+i,none⟩=C[off+i]?:=by
     have:w.drew.cell? ⟨b,off+i,none⟩=w.cell? ⟨b,off+i,none⟩:=rfl;rw [this];simp [World.cell?,hb]
    rw [this,<-hget i hi',hi]
theorem cL (S:Sim P env w₀ O₀ W σ γ φ O a w) (hty:env.TyOk P) {o:Oper} {c:Call} (ho:o.op = .call c) (hc:c.callee = .builtin .append)
  {k:Slot->St->Option α} {r:α} (h:Cj env σ o k=some r):HM P env w₀ O₀ W a w (execOp a.eval o) k r:=by
 unfold Cj at h;rw [ho] at h;dsimp only at h;rw [hc] at h;dsimp only at h;split at h
 case h_2=>cases h
 case h_1 s x t tx hargs htys=>
  split at h
  case h_2=>cases h
  case h_1 e u ht htx=>
   obtain ⟨ys,news,σ₁,O₁,Op,Fy,h1,S₁,hsrc,hels,hsub,hFy⟩:=cJ S (hty.1 _ _ htx) (S.val x) h;obtain ⟨xs,n,σ₂,γ₂,φ₂,O₂,h2,S₂,hr,hγ,hn4,hfree⟩:=WW S₁ (S₁.val s) (Ee o) h1;split at h2
   case h_2=>cases h2
   case h_1 hlim=>
    obtain ⟨⟨j,hu,_,ie,hie,hies,hby,z,cz,hz,hvalz,hrepz⟩,_⟩:=hty.1 _ _ ht;have hne:e.ownAll≠.gone:=Sh.whole_gone (Ty.whole_ownAll e);have hzc:z.cells=cz.toArray:=hvalz.cells fun ha=>(hrepz w O).notAgg hne hvalz ha
    have hczl:cz.length=e.size:=(hrepz w O).len
    have hels₂:Els (Rep w O₂ e (aF env σ e (σ.val s))) ys news Fy:=hels.mono fun y _ c F' hF' hy=>
     Rep.frame (Nat.le_refl _) (fun _ _ _=>rfl) (fun _ _=>rfl) hfree (fun b hb _=>(S₂.own b).2 (.inl (hFy b (hF' b hb)).1)) hy
    obtain ⟨v',γ',φ',O',w',hrun,S',hsl⟩:=jo S₂ hsub (ty:=o.type) hu hie hies hby hz (by rw [hzc];simpa using hczl) hr hn4 hγ hsrc hels₂ hFy (of_decide_eq_true hlim);refine ⟨_,v',_,γ',φ',O',w',.inl ?_,S',hsl,h2⟩;obtain ⟨consts,hcall⟩:=Cr (a:=a) (w:=w) (P:=P) ho hc;rw [hcall];unfold builtin;dsimp only;have e1:c.args.map a.eval = #[a.eval s,a.eval x]:=by apply Array.ext';simp [hargs]
    have e2:c.argTypes = #[t,tx]:=by apply Array.ext';simp [htys]
    rw [e1,e2];simp only [Sem.run_bind,Sem.run_pure,hrun,Result.andThen_ok]
end Go.V
namespace Go.V
variable {α:Type}
variable {env:Bf} {σ:St}
theorem AJ {t t':Ty} (x:t.den) (k:t'.den->Option α):AI x k=(AI x (some:t'.den->Option t'.den)).bind k:=by
 unfold AI;split<;>rfl
theorem Bt (p:CH) (k:Hd->Option α):Bv σ p k=(Bv σ p some).bind k:=by
 unfold Bv;split
 ·split
  ·exact BX _ _ _ _
  ·rfl
 ·rfl
theorem CM (t:Ty) (s:Slot) (k:t.den->Option α):Ep σ t s k=(Ep σ t s (some:t.den->Option t.den)).bind k:=by
 unfold Ep;split
 ·exact AJ _ _
 ·rw [Bt,Bt (α:=t.den)];cases Bv σ _ some with
  |none=>rfl
  |some d=>exact AJ _ _
 ·rw [Bt,Bt (α:=t.den)];cases Bv σ _ some with
  |none=>rfl
  |some d=>
   simp only [Ai5];rw [AJ,AJ (α:=t.den)];cases AI d.x some with
   |none=>rfl
   |some xs=>exact AJ _ _
 ·cases t with
  |slice e=>exact AJ _ _
  |int _=>rfl
  |bool=>rfl
  |str=>rfl
  |unit=>rfl
  |pair _ _=>rfl
 ·rfl
theorem Dp (t:Ty) (s:Slot) (k:t.den->Option α):By σ t s k=(By σ t s (some:t.den->Option t.den)).bind k:=by
 unfold By;split
 ·rw [Bt,Bt (α:=t.den)];cases Bv σ _ some with
  |none=>rfl
  |some d=>exact AJ _ _
 ·exact AJ _ _
 ·rfl
theorem LH {X β:Type} (ps:List PM) (ss:List Slot) (f:Args ps->X) (k:X->Option β) (ih:∀ {β:Type} (k:Args ps->Option β),CC σ ps ss k=(CC σ ps ss (some:Args ps->Option (Args ps))).bind k) :
  (CC σ ps ss fun r=>k (f r))=(CC σ ps ss fun r=>some (f r)).bind k:=by
 rw [ih,ih (fun r=>some (f r))];cases CC σ ps ss some<;>rfl
theorem Hl:∀ (ps:List PM) (ss:List Slot) {β:Type} (k:Args ps->Option β),CC σ ps ss k=(CC σ ps ss (some:Args ps->Option (Args ps))).bind k
 |[],[],_,k=>rfl
 |[],_::_,_,k=>rfl
 |.ro t::ps,[],_,k=>rfl
 |.rp t::ps,[],_,k=>rfl
 |.ro t::ps,s::ss,_,k=>by
  simp only [CC];rw [CM,CM (α:=Args (.ro t::ps))];cases Ep σ t s some with
  |none=>rfl
  |some x=>
   simp only [Ai5];exact LH ps ss (fun r=>((x,r):Args (.ro t::ps))) k (fun k=>Hl ps ss k)
 |.rp t::ps,s::ss,_,k=>by
  simp only [CC];rw [Dp,Dp (α:=Args (.rp t::ps))];cases By σ t s some with
  |none=>rfl
  |some x=>
   simp only [Ai5];exact LH ps ss (fun r=>((x,r):Args (.rp t::ps))) k (fun k=>Hl ps ss k)
 |.fn _ _::_,[],_,k=>rfl
 |.fn _ _::_,_::_,_,k=>rfl
 |.st _ _::_,[],_,k=>rfl
 |.st _ _::_,_::_,_,k=>rfl
 |.io _ _::_,[],_,k=>rfl
 |.io _ _::_,_::_,_,k=>rfl
 |.tk _ _::_,[],_,k=>rfl
 |.tk _ _::_,_::_,_,k=>rfl
theorem WX (a b:Ty) (s:Slot) (k:(a.den->Option b.den)->Option α):Uk env σ a b s k=(Uk env σ a b s some).bind k:=by
 unfold Uk;split
 ·split<;>rfl
 ·split
  ·split
   ·rw [Hl,Hl (β:=a.den->Option b.den)];cases CC σ _ _ some with
    |none=>rfl
    |some c=>
     simp only [Ai5];split<;>rfl
   ·rfl
  ·rfl
 ·rfl
theorem Zl {X β:Type} (ts:List Ty) (ss:List Slot) (f:CB ts->X) (k:X->Option β) (ih:∀ {β:Type} (k:CB ts->Option β),ER σ ts ss k=(ER σ ts ss (some:CB ts->Option (CB ts))).bind k) :
  (ER σ ts ss fun r=>k (f r))=(ER σ ts ss fun r=>some (f r)).bind k:=by
 rw [ih,ih (fun r=>some (f r))];cases ER σ ts ss some<;>rfl
theorem LI:∀ (ts:List Ty) (ss:List Slot) {β:Type} (k:CB ts->Option β),ER σ ts ss k=(ER σ ts ss (some:CB ts->Option (CB ts))).bind k
 |[],[],_,k=>rfl
 |[],_::_,_,k=>rfl
 |_::_,[],_,k=>rfl
 |t::ts,s::ss,_,k=>by
  simp only [ER];rw [Dp,Dp (α:=CB (t::ts))];cases By σ t s some with
  |none=>rfl
  |some x=>
   simp only [Ai5];exact Zl ts ss (fun r=>((x,r):CB (t::ts))) k (fun k=>LI ts ss k)
theorem Hm {X β:Type} (ps:List PM) (ss:List Slot) (f:Args ps->X) (k:X->Option β) (ih:∀ {β:Type} (k:Args ps->Option β),AP env σ ps ss k=(AP env σ ps ss (some:Args ps->Option (Args ps))).bind k) :
  (AP env σ ps ss fun r=>k (f r))=(AP env σ ps ss fun r=>some (f r)).bind k:=by
 rw [ih,ih (fun r=>some (f r))];cases AP env σ ps ss some<;>rfl
theorem Bg:∀ (ps:List PM) (ss:List Slot) {β:Type} (k:Args ps->Option β),AP env σ ps ss k=(AP env σ ps ss (some:Args ps->Option (Args ps))).bind k
 |[],[],_,k=>rfl
 |[],_::_,_,k=>rfl
 |.ro t::ps,[],_,k=>rfl
 |.rp t::ps,[],_,k=>rfl
 |.fn _ _::_,[],_,k=>rfl
 |.io _ _::_,[],_,k=>rfl
 |.tk _ _::_,[],_,k=>rfl
 |.tk _ _::_,_::_,_,k=>rfl
 |.st _ _::_,[],_,k=>rfl
 |.st f ts::ps,s::ss,_,k=>by
  simp only [AP];split
  ·split
   ·rw [LI,LI (β:=Args (.st f ts::ps))];cases ER σ ts _ some with
    |none=>rfl
    |some x=>
     simp only [Ai5];exact Hm ps ss (fun r=>((x,r):Args (.st f ts::ps))) k (fun k=>Bg ps ss k)
   ·rfl
  ·rfl
 |.ro t::ps,s::ss,_,k=>by
  simp only [AP];rw [CM,CM (α:=Args (.ro t::ps))];cases Ep σ t s some with
  |none=>rfl
  |some x=>
   simp only [Ai5];exact Hm ps ss (fun r=>((x,r):Args (.ro t::ps))) k (fun k=>Bg ps ss k)
 |.rp t::ps,s::ss,_,k=>by
  simp only [AP];rw [Dp,Dp (α:=Args (.rp t::ps))];cases By σ t s some with
  |none=>rfl
  |some x=>
   simp only [Ai5];exact Hm ps ss (fun r=>((x,r):Args (.rp t::ps))) k (fun k=>Bg ps ss k)
 |.fn a b::ps,s::ss,_,k=>by
  simp only [AP];rw [WX,WX (α:=Args (.fn a b::ps))];cases Uk env σ a b s some with
  |none=>rfl
  |some x=>
   simp only [Ai5];exact Hm ps ss (fun r=>((x,r):Args (.fn a b::ps))) k (fun k=>Bg ps ss k)
 |.io t sh::ps,s::ss,_,k=>by
  have key:∀ (y:Hd),(AI y.x fun x=>AP env σ ps ss fun r=>k ((x,r):Args (.io t sh::ps)))=(AI y.x fun x=>AP env σ ps ss fun r=>some ((x,r):Args (.io t sh::ps))).bind k:=by
   intro y;refine (AJ (t' :=t) y.x fun x=>AP env σ ps ss fun r=>k ((x,r):Args (.io t sh::ps))).trans ?_;refine Eq.trans ?_ (congrArg (Option.bind · k) (AJ (t' :=t) y.x fun x=>AP env σ ps ss fun r=>some ((x,r):Args (.io t sh::ps)))).symm;cases AI (t' :=t) y.x some with
   |none=>rfl
   |some x=>
    simp only [Ai5];exact Hm ps ss (fun r=>((x,r):Args (.io t sh::ps))) k (fun k=>Bg ps ss k)
  simp only [AP];split
  ·split
   ·split
    ·rw [BX,BX (α:=Args (.io t sh::ps))];cases AB _ _ _ some with
     |none=>rfl
     |some y=>exact key y
    ·rfl
   ·rfl
  ·split
   ·split
    ·rw [BX,BX (α:=Args (.io t sh::ps))];cases AB _ _ _ some with
     |none=>rfl
     |some y=>exact key y
    ·rfl
   ·rfl
  ·rfl
theorem Px (f:Av) (ss:List Slot) (k:Slot->Option α):CV env σ f ss k=(CV env σ f ss some).bind k:=by
 unfold CV;split
 ·rfl
 ·rw [Bg,Bg (β:=Slot)];cases AP env σ f.ps ss some with
  |none=>rfl
  |some az=>simp only [Ai5];split<;>rfl
theorem SK (f:Av) (ss:List Slot) (k:Slot->Option α):ES env σ f ss k=(ES env σ f ss some).bind k:=by
 unfold ES;split
 ·rfl
 ·rw [Bg,Bg (β:=Slot)];cases AP env σ f.ps ss some with
  |none=>rfl
  |some az=>
   simp only [Ai5];cases f.F az<;>rfl
theorem Tk (t:Ty) (s:Slot) (k:Nat->Option α):WJ σ t s k=(WJ σ t s some).bind k:=by
 unfold WJ;split
 ·split<;>rfl
 ·split
  ·rfl
  ·rw [Bt,Bt (α:=Nat)];cases Bv σ _ some with
   |none=>rfl
   |some d=>simp only [Ai5];rw [AJ,AJ (α:=Nat)];cases AI d.x some<;>rfl
  ·rw [Bt,Bt (α:=Nat)];cases Bv σ _ some with
   |none=>rfl
   |some d=>simp only [Ai5];rw [AJ,AJ (α:=Nat)];cases AI d.x some<;>rfl
  ·rfl
  ·rfl
 ·rfl
theorem KN (i:Int) (n:Nat) (k:Nat->Option α):He i n k=(He i n some).bind k:=by
 unfold He;split
 ·split<;>rfl
 ·rfl
theorem Jb (o:Option Operand) (d:Int) (k:Int->Option α):bound σ o d k=(bound σ o d some).bind k:=by
 unfold bound;split
 ·rfl
 ·split<;>rfl
theorem cM (op:BinOp) (kk:IntKind) (a b:Int) (k:Slot->Option α):cF op kk a b k=(cF op kk a b some).bind k:=by
 unfold cF;split<;>first | rfl | (split<;>rfl)
theorem OL (op:BinOp) (kk:IntKind) (a b:Int) (k:Slot->Option α):NQ op kk a b k=(NQ op kk a b some).bind k:=by
 unfold NQ;split<;>first | rfl | (split<;>rfl)
theorem cN (op:BinOp) (a b:List UInt8) (k:Slot->Option α):cG op a b k=(cG op a b some).bind k:=by
 unfold cG;split<;>first | rfl | (split<;>rfl)
theorem cO (op:BinOp) (t:TypeId) (x y:Slot) (k:Slot->Option α):cH env op t x y k=(cH env op t x y some).bind k:=by
 unfold cH;split
 ·split
  ·exact OL ..
  ·exact OL ..
  ·split
   ·exact cM ..
   ·rfl
 ·exact cN ..
 ·split
  ·split
   ·rw [AJ,AJ (α:=Slot)];cases AI _ some<;>rfl
   ·rw [AJ,AJ (α:=Slot)];cases AI _ some<;>rfl
   ·rfl
  ·rfl
 ·rfl
theorem cP (σ:St) (op:BinOp) (t:TypeId) (x y:Slot) (k:Slot->Option α):WI env σ op t x y k=(WI env σ op t x y some).bind k:=by
 unfold WI;split
 ·split
  ·rw [CM,CM (α:=Slot)];cases Ep σ _ _ some<;>rfl
  ·rfl
 ·exact cO ..
theorem QM (σ:St) (hi lo:Option Operand) (n:Nat) (f:Nat->Nat->Slot) (k:Slot->Option α) :
  (bound σ hi n fun h=>bound σ lo 0 fun l' =>He h n fun h=>He l' h fun l' =>k (f h l'))=(bound σ hi n fun h=>bound σ lo 0 fun l' =>He h n fun h=>He l' h fun l' =>some (f h l')).bind k:=by
 rw [Jb,Jb (α:=Slot)];cases bound σ hi n some with
 |none=>rfl
 |some h=>
  simp only [Ai5];rw [Jb,Jb (α:=Slot)];cases bound σ lo 0 some with
  |none=>rfl
  |some l=>
   simp only [Ai5];rw [KN,KN (α:=Slot)];cases He h n some with
   |none=>rfl
   |some h=>
    simp only [Ai5];rw [KN,KN (α:=Slot)];cases He l h some<;>rfl
theorem HN (op:Op) (k:Slot->Option α):AA env σ op k=(AA env σ op some).bind k:=by
 unfold AA;split
 ·rfl
 ·rfl
 ·split
  ·split<;>rfl
  ·rfl
 ·-- load
  split
  ·split
   ·split
    ·split
     ·rw [BX,BX (α:=Slot)];cases AB _ _ _ some with
      |none=>rfl
      |some y=>
       simp only [Ai5];split
       ·split<;>rfl
       ·rfl
     ·rfl
    ·rfl
   ·split<;>rfl
   ·rfl
  ·split
   ·split
    ·split<;>rfl
    ·rfl
   ·rfl
 ·split<;>rfl
 ·exact cP ..
 ·split<;>rfl
 ·-- convert
  split
  ·split<;>rfl
  ·split<;>rfl
  ·rw [CM,CM (α:=Slot)];cases Ep σ _ _ some<;>rfl
  ·rfl
 ·-- slice
  split
  ·exact QM σ _ _ _ (fun h l' =>cE _) k
  ·rw [AJ,AJ (α:=Slot)];cases AI _ some with
   |none=>rfl
   |some l=>exact QM σ _ _ _ (fun h l' =>.pv ⟨.slice _,((Bu l).take h).drop l'⟩) k
  ·split
   ·rw [Bt,Bt (α:=Slot)];cases Bv σ _ some with
    |none=>rfl
    |some d=>
     simp only [Ai5];rw [AJ,AJ (α:=Slot)];cases AI _ some with
     |none=>rfl
     |some l=>exact QM σ _ _ _ (fun h l' =>.vw _ _ l' h) k
   ·rfl
  ·rfl
 ·-- fieldAddr
  split
  ·split
   ·split
    ·rfl
    ·split
     ·split
      ·split<;>rfl
      ·rfl
     ·split
      ·rw [BX,BX (α:=Slot)];cases AB _ _ _ some<;>rfl
      ·rfl
     ·rfl
   ·rfl
  ·rfl
 ·-- field
  split
  ·split
   ·rw [BX,BX (α:=Slot)];cases AB _ _ _ some<;>rfl
   ·rfl
  ·rfl
 ·-- indexAddr
  split
  ·split
   ·split
    ·split
     ·split<;>rfl
     ·rfl
    ·rfl
   ·split
    ·rw [Bt,Bt (α:=Slot)];cases Bv σ _ some with
     |none=>rfl
     |some d=>
      simp only [Ai5];rw [AJ,AJ (α:=Slot)];cases AI _ some with
      |none=>rfl
      |some l=>
       simp only [Ai5];split
       ·split<;>rfl
       ·rfl
    ·rfl
   ·rfl
  ·rfl
 ·-- index
  split
  ·split
   ·split<;>rfl
   ·rfl
  ·rfl
 ·split
  ·split<;>rfl
  ·rfl
 ·split<;>rfl
 ·rfl
theorem LJ (c:Call) (k:Slot->Option α):DA env σ c k=(DA env σ c some).bind k:=by
 unfold DA;split
 ·split
  ·rw [Tk,Tk (α:=Slot)];cases WJ σ _ _ some<;>rfl
  ·rfl
 ·split<;>rfl
 ·split<;>rfl
 ·split
  ·split
   ·split
    ·exact Px ..
    ·rfl
   ·split
    ·split
     ·exact SK ..
     ·rfl
    ·rfl
  ·split
   ·rw [CM,CM (α:=Slot)];cases Ep σ _ _ some with
    |none=>rfl
    |some x=>simp only [Ai5];split<;>rfl
   ·rfl
  ·rfl
 ·rfl
theorem GT (e:Ty):∀ (l:List (Nat×Slot)) (i:Nat) {β:Type} (k:List e.den->Option β),Gr e i l k=(Gr e i l (some:List e.den->Option (List e.den))).bind k
 |[],_,_,k=>rfl
 |(j,s)::l,i,_,k=>by
  simp only [Gr];split
  ·split
   ·rename_i d;refine (AJ (t' :=e) d.x _).trans ?_;refine Eq.trans ?_ (congrArg (Option.bind · k) (AJ (t' :=e) d.x fun y=>Gr e (i+1) l fun ys=>some (y::ys))).symm;cases AI (t' :=e) d.x some with
    |none=>rfl
    |some y=>
     simp only [Ai5];rw [GT e l (i+1) fun ys=>k (y::ys),GT e l (i+1) fun ys=>some (y::ys)];cases Gr e (i+1) l some<;>rfl
   ·rfl
  ·rfl
theorem WY (o:Oper) (t:TypeId) (n:Nat) (parts:Array (Nat×Operand)) (k:Slot->Option α):LC env σ o t n parts k=(LC env σ o t n parts some).bind k:=by
 unfold LC;split
 ·rfl
 ·split
  ·split
   ·rfl
   ·split
    ·rw [GT,GT (β:=Slot)];cases Gr _ _ _ some<;>rfl
    ·rfl
  ·rfl
theorem Mu {t:Ty} {γ β:Type}:∀ (l:List (Nat×Slot)) (x:t.den) (k:t.den->Option γ) (f:γ->Option β),(IV t l x k).bind f=IV t l x fun y=>(k y).bind f
 |[],x,k,f=>rfl
 |(i,s)::l,x,k,f=>by
  unfold IV;cases s with
  |pv d=>
   dsimp only;cases Gu (Ao i) t with
   |none=>rfl
   |some t' =>
    dsimp only;unfold AI;split
    ·dsimp only;refine (congrArg (Option.bind · f) (Bb _ _ _ _ _)).trans (Eq.trans ?_ (Bb _ _ _ _ _).symm);cases BT (Ao i) t x _ some with
     |none=>rfl
     |some x' =>exact Mu l x' k f
    ·rfl
  |_=>rfl
theorem SL (t:TypeId) (parts:Array (Nat×Operand)) (k:Slot->Option α):Gv env σ t parts k=(Gv env σ t parts some).bind k:=by
 unfold Gv;split
 ·split
  ·rw [Mu];rfl
  ·rfl
 ·rfl
theorem WZ (f:FuncId) (x:Slot) (caps:List Slot) (k:Slot->Option α):JO env σ f x caps k=(JO env σ f x caps some).bind k:=by
 unfold JO;split
 ·split
  ·split
   ·unfold AI;split
    ·exact LH _ caps _ k (fun k=>Hl _ caps k)
    ·rfl
   ·rfl
  ·rfl
 ·rfl
theorem LK (o:Oper) (k:Slot->Option α):Bp env σ o k=(Bp env σ o some).bind k:=by
 unfold Bp;split
 ·exact LJ ..
 ·exact WY ..
 ·exact SL ..
 ·split
  ·exact WZ ..
  ·exact HN ..
 ·exact HN ..
end Go.V
namespace Go.V
variable {α:Type}
variable {P:Program} {env:Bf} {w₀ w w':World} {O₀ O₁ W O O':Ab} {σ σ₀ σ' σ₁ σ₂:St} {γ γ':Name->Src} {φ φ':Name->Ab} {a a':Act} {n:Name}
theorem Jc (hm:σ₁.mem=σ₂.mem) (op:Op) (h:∀ x∈op.operands,σ₁.val x=σ₂.val x) (k:Slot->Option α):AA env σ₁ op k=AA env σ₂ op k:=by
 obtain ⟨s₁,m₁⟩:=σ₁;obtain ⟨s₂,m₂⟩:=σ₂;dsimp only at hm;subst hm
 have hbound:∀ (o:Option Operand) (d:Int) {β:Type} (k:Int->Option β),(∀ x,o=some x->(St.mk s₁ m₁).val x=(St.mk s₂ m₁).val x)->bound ⟨s₁,m₁⟩ o d k=bound ⟨s₂,m₁⟩ o d k:=by
  intro o d β k ho;unfold bound;cases o with
  |none=>rfl
  |some x=>simp only [ho x rfl]
 cases op<;>try rfl
 case move x=>simp only [AA,h x (by simp [Op.operands])]
 case assign x=>simp only [AA,h x (by simp [Op.operands])]
 case pick c x y=>simp only [AA,h c (by simp [Op.operands]),h x (by simp [Op.operands]),h y (by simp [Op.operands])]
 case load t x=>simp only [AA,h x (by simp [Op.operands])];rfl
 case nilCheck x=>simp only [AA,h x (by simp [Op.operands])]
 case binOp op t x y u=>simp only [AA,h x (by simp [Op.operands]),h y (by simp [Op.operands])];rfl
 case unOp op t x=>simp only [AA,h x (by simp [Op.operands])]
 case convert s d x=>simp only [AA,h x (by simp [Op.operands])];rfl
 case slice t x lo hi mx=>
  cases mx with
  |some m=>rfl
  |none=>
   have hx:=h x (by simp [Op.operands]);have hl:∀ y,lo=some y->(St.mk s₁ m₁).val y=(St.mk s₂ m₁).val y:=fun y e=>h y (by simp [Op.operands,e])
   have hh:∀ y,hi=some y->(St.mk s₁ m₁).val y=(St.mk s₂ m₁).val y:=fun y e=>h y (by simp [Op.operands,e])
   have key:∀ (n:Nat) (f:Nat->Nat->Option α),(bound ⟨s₁,m₁⟩ hi n fun h=>bound ⟨s₁,m₁⟩ lo 0 fun l' =>He h n fun h=>He l' h fun l' =>f h l') =
     (bound ⟨s₂,m₁⟩ hi n fun h=>bound ⟨s₂,m₁⟩ lo 0 fun l' =>He h n fun h=>He l' h fun l' =>f h l'):=by
    intro n f;rw [hbound hi _ _ hh];congr 1;funext h;rw [hbound lo _ _ hl]
   have pk:∀ (p:CH) {β:Type} (k:Hd->Option β),Bv ⟨s₁,m₁⟩ p k=Bv ⟨s₂,m₁⟩ p k:=fun _ _ _=>rfl
   simp only [AA,hx,key,pk]
 case fieldAddr t x f=>simp only [AA,h x (by simp [Op.operands])];rfl
 case field t x f=>simp only [AA,h x (by simp [Op.operands])]
 case indexAddr t x i=>simp only [AA,h x (by simp [Op.operands]),h i (by simp [Op.operands])];rfl
 case index t x i=>simp only [AA,h x (by simp [Op.operands]),h i (by simp [Op.operands])]
 case extract x i=>simp only [AA,h x (by simp [Op.operands])]
 case makeFunc f first caps=>
  cases f<;>try rfl
  simp only [AA];have:caps.toList.map (St.mk s₁ m₁).val=caps.toList.map (St.mk s₂ m₁).val:=List.map_congr_left fun x hx=>h x (by simp [Op.operands];exact .inr (by simpa using hx))
  rw [this]
theorem OM (hm:σ₁.mem=σ₂.mem):∀ (ts:List Ty) (ss:List Slot) {β:Type} (k k':CB ts->Option β),(∀ x,k x=k' x)->ER σ₁ ts ss k=ER σ₂ ts ss k' :=by
 obtain ⟨s₁,m₁⟩:=σ₁;obtain ⟨s₂,m₂⟩:=σ₂;dsimp only at hm;subst hm;intro ts;induction ts with
 |nil=>intro ss β k k' h;cases ss with | nil=>exact h () | cons _ _=>rfl
 |cons t ts iht=>
  intro ss β k k' h;cases ss with
  |nil=>rfl
  |cons s ss=>exact congrArg (By ⟨s₂,m₁⟩ t s) (funext fun x=>iht ss _ _ fun r=>h (x,r))
theorem ON (hm:σ₁.mem=σ₂.mem) (c:Call) (h:∀ x∈c.operands,σ₁.val x=σ₂.val x) (k:Slot->Option α):DA env σ₁ c k=DA env σ₂ c k:=by
 obtain ⟨s₁,m₁⟩:=σ₁;obtain ⟨s₂,m₂⟩:=σ₂;dsimp only at hm;subst hm
 have hargs:c.args.toList.map (St.mk s₁ m₁).val=c.args.toList.map (St.mk s₂ m₁).val:=List.map_congr_left fun x hx=>h x (by
  have:x∈c.args:=by simpa using hx
  unfold Call.operands;cases c.callee<;>simp [this])
 unfold DA;rw [hargs];cases hc:c.callee with
 |builtin b=>
  cases b<;>try rfl
  dsimp only;split
  ·rename_i x t hx ht
   rw [h x (by
    unfold Call.operands;rw [hc];have:x∈c.args:=by rw [<-Array.mem_toList_iff,hx];simp
    simp [this])]
   rfl
  ·rfl
 |value f=>
  dsimp only;rw [h f (by unfold Call.operands;rw [hc];simp)]
  have aK:∀ (ps:List PM),Bh ps=[]->∀ (ss:List Slot) {β:Type} (k:Args ps->Option β),AP env ⟨s₁,m₁⟩ ps ss k=AP env ⟨s₂,m₁⟩ ps ss k:=by
   intro ps;induction ps with
   |nil=>intro _ ss β k;cases ss<;>rfl
   |cons p ps ih=>
    intro hio ss β k;cases ss with
    |nil=>cases p<;>rfl
    |cons s ss=>
     have cK:∀ (ps:List PM) (ss:List Slot) {β:Type} (k:Args ps->Option β),CC ⟨s₁,m₁⟩ ps ss k=CC ⟨s₂,m₁⟩ ps ss k:=by
      intro ps;induction ps with
      |nil=>intro ss β k;cases ss<;>rfl
      |cons p ps ih=>
       intro ss β k;cases ss with
       |nil=>cases p<;>rfl
       |cons s ss=>
        cases p<;>try rfl
        ·exact congrArg (Ep ⟨s₂,m₁⟩ _ s) (funext fun x=>ih ss _)
        ·exact congrArg (By ⟨s₂,m₁⟩ _ s) (funext fun x=>ih ss _)
     cases p with
     |ro t=>exact congrArg (Ep ⟨s₂,m₁⟩ t s) (funext fun x=>ih hio ss _)
     |st g ts=>
      simp only [AP];split
      ·split
       ·exact OM (σ₁:=⟨s₁,m₁⟩) (σ₂:=⟨s₂,m₁⟩) rfl ts _ _ _ fun c=>ih hio ss _
       ·rfl
      ·rfl
     |rp t=>exact congrArg (By ⟨s₂,m₁⟩ t s) (funext fun x=>ih hio ss _)
     |fn u v=>
      have fK:∀ {β:Type} (k:(u.den->Option v.den)->Option β),Uk env ⟨s₁,m₁⟩ u v s k=Uk env ⟨s₂,m₁⟩ u v s k:=by
       intro β k;unfold Uk;split
       ·rfl
       ·split
        ·split
         ·exact cK _ _ _
         ·rfl
        ·rfl
       ·rfl
      exact (fK _).trans (congrArg (Uk env ⟨s₂,m₁⟩ u v s) (funext fun x=>ih hio ss _))
     |io t sh=>simp [Bh] at hio
     |tk t sh=>rfl
  have qK:∀ (fu:Av) (ss:List Slot),fu.quiet=true->CV env ⟨s₁,m₁⟩ fu ss k=CV env ⟨s₂,m₁⟩ fu ss k:=by
   intro fu ss hq;unfold CV;split
   ·rfl
   ·exact aK _ (Av.quiet_ios hq) _ _
  have xK:∀ (fu:Av) (ss:List Slot),fu.quiet=true->ES env ⟨s₁,m₁⟩ fu ss k=ES env ⟨s₂,m₁⟩ fu ss k:=by
   intro fu ss hq;unfold ES;split
   ·rfl
   ·exact aK _ (Av.quiet_ios hq) _ _
  split
  ·split
   ·split
    ·rename_i hq;exact qK _ _ hq
    ·rfl
   ·split
    ·split
     ·rename_i hq;exact xK _ _ hq
     ·rfl
    ·rfl
  ·split
   ·rfl
   ·rfl
  ·rfl
 |invoke r nm=>rfl
end Go.V
namespace Go.V
variable {α:Type}
variable {P:Program} {env:Bf} {w₀ w w':World} {O₀ O₁ W O O':Ab} {σ σ₀ σ' σ₁ σ₂:St} {γ γ':Name->Src} {φ φ':Name->Ab} {a a':Act} {n:Name}
theorem Di {ops:Array Oper} {o:Oper} {x:Tmp} (h : .tmp x∈o.op.operands):x∈o.looksAt ops:=by
 unfold Oper.looksAt;rw [Ajf];left;rw [List.mem_filterMap];exact ⟨.tmp x,by simpa using h,rfl⟩
theorem cQ (h:∀ x,σ₁.slot x=σ₂.slot x) (y:Operand):σ₁.val y=σ₂.val y:=by
 cases y<;>first | rfl | exact h _
theorem OO (hm:σ₁.mem=σ₂.mem):∀ (ps:List PM) (ss:List Slot) {β:Type} (k:Args ps->Option β),CC σ₁ ps ss k=CC σ₂ ps ss k:=by
 obtain ⟨s₁,m₁⟩:=σ₁;obtain ⟨s₂,m₂⟩:=σ₂;dsimp only at hm;subst hm;intro ps;induction ps with
 |nil=>intro ss β k;cases ss<;>rfl
 |cons p ps ih=>
  intro ss β k;cases ss with
  |nil=>cases p<;>rfl
  |cons s ss=>
   cases p<;>try rfl
   ·exact congrArg (Ep ⟨s₂,m₁⟩ _ s) (funext fun x=>ih ss _)
   ·exact congrArg (By ⟨s₂,m₁⟩ _ s) (funext fun x=>ih ss _)
theorem JW (hm:σ₁.mem=σ₂.mem) {ops:Array Oper} (o:Oper) (h:∀ x∈o.looksAt ops,σ₁.slot x=σ₂.slot x) (k:Slot->Option α):Bp env σ₁ o k=Bp env σ₂ o k:=by
 have hv:∀ y∈o.op.operands,σ₁.val y=σ₂.val y:=by
  intro y hy;cases y with
  |tmp x=>exact h x (Di hy)
  |const _=>rfl
  |func _=>rfl
  |global _=>rfl
 unfold Bp;split
 ·rename_i c hc;exact ON hm c (by rw [hc] at hv;exact hv) k
 ·rename_i t n parts hc;rw [hc] at hv;unfold LC
  have:(parts.toList.map fun x=>(x.1,σ₁.val x.2))=parts.toList.map fun x=>(x.1,σ₂.val x.2):=List.map_congr_left fun x hx=>by
   rw [hv x.2 (by unfold Op.operands;simp only [List.mem_toArray,List.mem_map];exact ⟨x,hx,rfl⟩)]
  rw [this]
 ·rename_i t parts hc;rw [hc] at hv;unfold Gv
  have:(parts.toList.map fun x=>(x.1,σ₁.val x.2))=parts.toList.map fun x=>(x.1,σ₂.val x.2):=List.map_congr_left fun x hx=>by
   rw [hv x.2 (by unfold Op.operands;simp only [List.mem_toArray,List.mem_map];exact ⟨x,hx,rfl⟩)]
  rw [this]
 ·rename_i g first caps hc
  rw [hc] at hv;split
  ·rename_i f x hx;have hc':caps.toList.map σ₁.val=caps.toList.map σ₂.val:=List.map_congr_left fun y hy=>hv y (by simp [Op.operands];exact .inr (by simpa using hy))
   rw [hc',hv x (by simp [Op.operands];exact .inl (by rw [<-Array.mem_toList_iff,hx];simp))];unfold JO;split
   ·split
    ·split
     ·refine congrArg _ (funext fun z=>?_);rw [OO hm]
     ·rfl
    ·rfl
   ·rfl
  ·exact Jc hm _ hv k
 ·exact Jc hm _ hv k
theorem CN (hm:σ₁.mem=σ₂.mem) {ops:Array Oper} (o:Oper) (h:∀ x∈o.looksAt ops,σ₁.slot x=σ₂.slot x) (k:Slot->Option α):BM env ops o σ₁ k=BM env ops o σ₂ k:=by
 unfold BM;split
 ·exact JW hm o h k
 ·rename_i j want hg;split
  ·rename_i d hd
   have:σ₁.slot d=σ₂.slot d:=h d (by
    unfold Oper.looksAt;rw [Ajf];right;simp [hg,hd])
   rw [this,JW hm o h k]
  ·rfl
theorem JX {ops:Array Oper} {o:Oper} {k:Slot->St->Option α} {r:α} (h:Qx env ops o σ₁ k=some r) :
  ∃ s σ',BM env ops o σ₁ some=some s/\k s σ'=some r/\σ'.mem=σ₁.mem/\∀ x,σ'.slot x=σ₁.slot x:=by
 unfold Qx at h;unfold BM;split at h
 ·rw [LK] at h;cases e:Bp env σ₁ o some with
  |none=>rw [e] at h;cases h
  |some s=>rw [e] at h;exact ⟨s,σ₁,rfl,h,rfl,fun _=>rfl⟩
 ·rename_i j want hg;split at h
  case h_2=>cases h
  case h_1 d hd=>
   split at h
   case h_3=>cases h
   case h_2 hlt hs=>exact ⟨_,_,rfl,h,rfl,fun _=>rfl⟩
   case h_1 b hlt hs=>
    have same:∀ c:Bool,Za b=c->∀ x,(σ₁.set d (Cw c)).slot x=σ₁.slot x:=by
     intro c hc x;rw [St.slot_set];split
     ·rename_i e;rw [e,hs,<-hc];rfl
     ·rfl
    have ev:∀ c:Bool,Za b=c->Bp env (σ₁.set d (Cw c)) o (some:Slot->Option Slot)=Bp env σ₁ o some:=
     fun c hc=>JW (σ₁:=σ₁.set d (Cw c)) (σ₂:=σ₁) (ops:=ops) rfl o (fun x _=>same c hc x) some
    split at h
    ·rename_i hb
     try rw [hb]
     cases want with
     |true=>
      dsimp only at h ⊢;rw [LK,ev true hb] at h;cases e:Bp env σ₁ o some with
      |none=>rw [e] at h;cases h
      |some s=>rw [e] at h;exact ⟨s,_,rfl,h,rfl,same true hb⟩
     |false=>exact ⟨_,_,rfl,h,rfl,same true hb⟩
    ·rename_i hb
     try rw [hb]
     cases want with
     |true=>exact ⟨_,_,rfl,h,rfl,same false hb⟩
     |false=>
      dsimp only at h ⊢;rw [LK,ev false hb] at h;cases e:Bp env σ₁ o some with
      |none=>rw [e] at h;cases h
      |some s=>rw [e] at h;exact ⟨s,_,rfl,h,rfl,same false hb⟩
theorem QN {ops:Array Oper} {k:St->Option α} {r:α}:∀ (c i:Nat) (τ σ:St),τ.mem=σ.mem->(∀ x,τ.slot x=σ.slot x)->WL env ops (List.range' i c) τ k=some r->
  ∃ (sl:Nat->Slot) (σs:Nat->St) (τ':St),σs i=σ/\(∀ j,i<=j->j<i+c->∃ o d,ops[j]? = some o/\o.dst=some d/\BM env ops o (σs j) some=some (sl j)/\σs (j+1)=(σs j).set d (sl j))/\
   k τ'=some r/\τ'.mem=(σs (i+c)).mem/\∀ x,τ'.slot x=(σs (i+c)).slot x
 |0,i,τ,σ,hm,hs,h=>⟨fun _=>.undef,fun _=>σ,τ,rfl,fun j h1 h2=>by omega,h,hm,hs⟩
 |c+1,i,τ,σ,hm,hsl,h=>by
  rw [List.range'_succ] at h;unfold WL at h;cases ho:ops[i]? with
  |none=>rw [ho] at h;cases h
  |some o=>
   rw [ho] at h;dsimp only at h;obtain ⟨s,τ₁,hs,h,hm₁,hs₁⟩:=JX h;have hs:BM env ops o σ some=some s:=(CN hm.symm o (fun x _=>(hsl x).symm) some).trans hs;cases hd:o.dst with
   |none=>rw [hd] at h;cases h
   |some d=>
    rw [hd] at h;dsimp only at h;obtain ⟨sl,σs,τ',h1,h2,h3,h4,h5⟩:=QN c (i+1) (τ₁.set d s) (σ.set d s) (hm₁.trans hm) (fun x=>by rw [St.slot_set,St.slot_set,hs₁,hsl]) h;have hic:i+(c+1)=i+1+c:=by omega
    refine ⟨fun j=>if j=i then s else sl j,fun j=>if j=i then σ else σs j,τ',by simp,fun j hj1 hj2=>?_,h3,?_,?_⟩
    ·by_cases hj:j=i
     ·subst hj;refine ⟨o,d,ho,hd,by simp only [if_pos];exact hs,?_⟩;simp only [if_true,if_neg (show ¬(j+1=j) by omega)];exact h1
     ·obtain ⟨o',d',g1,g2,g3,g4⟩:=h2 j (by omega) (by omega);refine ⟨o',d',g1,g2,?_,?_⟩
      ·simp only [if_neg hj];exact g3
      ·simp only [if_neg hj,if_neg (show ¬(j+1=i) by omega)];exact g4
    ·dsimp only;rw [if_neg (by omega),hic];exact h4
    ·dsimp only;rw [if_neg (by omega),hic];exact h5
structure nO (n:Nat) (ops:Array Oper):Prop where
 dst:∀ (i:Nat) o,ops[i]? = some o->∃ d,o.dst=some d/\d<n
 rank:∀ md,∃ rk:Nat->Nat,∀ (i:Nat) o,ops[i]? = some o->∀ e∈o.after,Region.binds md e=true->e.on<ops.size/\rk e.on<rk i
 one:∀ (i j:Nat) o o' d,ops[i]? = some o->ops[j]? = some o' ->o.dst=some d->o'.dst=some d->i=j
 edge:∀ (i j:Nat) o o' d,ops[i]? = some o->ops[j]? = some o' ->o'.dst=some d->d∈o.looksAt ops->(j<i/\∃ e∈o.after,e.on=j/\∀ md,Region.binds md e=true)\/(i<j/\∃ e∈o'.after,e.on=i/\∀ md,Region.binds md e=true)
theorem W_ {n:Nat} {ops:Array Oper} (h:Uo n ops=true):nO n ops:=by
 unfold Uo at h;rw [Ajb,List.all_eq_true] at h;obtain ⟨hrank,h⟩:=h
 have mem:∀ (i:Nat) o,ops[i]? = some o->(o,i)∈ops.toList.zipIdx:=by
  intro i o ho;rw [List.mem_zipIdx_iff_getElem?];rw [Array.getElem?_toList];exact ho
 have all:∀ (i:Nat) o,ops[i]? = some o->_:=fun i o ho=>h (o,i) (mem i o ho)
 simp only [Ajb,List.all_eq_true] at all;refine ⟨?_,?_,?_,?_⟩
 ·intro i o ho;have:=(all i o ho).1.1.1;cases hd:o.dst with
  |none=>rw [hd] at this;cases this
  |some d=>rw [hd] at this;exact ⟨d,rfl,by simpa using this⟩
 ·intro md;rw [Ajc] at hrank;rcases hrank with hb | hb
  ·refine ⟨id,fun i o ho e he _=>?_⟩;unfold NR at hb;rw [List.all_eq_true] at hb;have h2:=hb (o,i) (mem i o ho);rw [List.all_eq_true] at h2;have h3:e.on<i:=by simpa using h2 e (by simpa using he)
   have:=(Array.getElem?_eq_some_iff.1 ho).1;exact ⟨by omega,h3⟩
  ·unfold rankOk at hb;dsimp only at hb;rw [List.all_eq_true] at hb
   have key:∀ (i:Nat) o,ops[i]? = some o->∀ e∈o.after,_:=fun i o ho e he=>by
    have h2:=hb (o,i) (mem i o ho);rw [List.all_eq_true] at h2;exact h2 e (by simpa using he)
   simp only [Ajb] at key;by_cases hmd:md = .gc
   ·refine ⟨eL (Region.linearise .gc ops 0),fun i o ho e he hbd=>?_⟩;obtain ⟨k1,k2,k3⟩:=key i o ho e he;refine ⟨by simpa using k1,?_⟩;subst hmd;unfold Region.binds at hbd;split at k3
    ·rename_i hg;rw [hg] at hbd;cases hbd
    ·simpa using k3
   ·refine ⟨id,fun i o ho e he hbd=>?_⟩;obtain ⟨k1,k2,k3⟩:=key i o ho e he;refine ⟨by simpa using k1,?_⟩;unfold Region.binds at hbd;split at k2
    ·rename_i hg;rw [hg] at hbd;exfalso;cases md<;>first | exact hmd rfl | cases hbd
    ·simpa using k2
 ·intro i j o o' d ho ho' hd hd';have:=(all i o ho).2 (o',j) (mem j o' ho');dsimp only at this;rw [hd',hd] at this;simp only [Ajb,Ajc] at this;rcases this.1 with h | h
  ·exact Nat.eq_of_beq_eq_true h
  ·simp at h
 ·intro i j o o' d ho ho' hd hl;have:=(all i o ho).2 (o',j) (mem j o' ho');dsimp only at this;rw [hd] at this;simp only [Ajb,Ajc] at this;rcases this.2 with h | h
  ·have:((o.looksAt ops).any fun x=>Nat.beq x d)=true:=by
    rw [List.any_eq_true];exact ⟨d,hl,by simp⟩
   rw [this] at h;cases h
  ·have edge:∀ {o:Oper} {j:Nat},onEdge o j=true->∃ e∈o.after,e.on=j/\∀ md,Region.binds md e=true:=by
    intro o j this;unfold onEdge at this;rw [List.any_eq_true] at this;obtain ⟨e,he,h2⟩:=this;simp only [Ajb] at h2;refine ⟨e,by simpa using he,Nat.eq_of_beq_eq_true h2.1,fun md=>?_⟩;unfold Region.binds;cases hg:e.ground<;>rw [hg] at h2<;>simp at h2 ⊢
   rcases h with h | h
   ·exact .inl ⟨by simpa using h.1,edge h.2⟩
   ·exact .inr ⟨by simpa using h.1,edge h.2⟩
end Go.V
namespace Go.V
variable {α:Type}
variable {P:Program} {env:Bf} {w₀ w w':World} {O₀ O₁ W O O':Ab} {σ σ₀ σ' σ₁ σ₂:St} {γ γ':Name->Src} {φ φ':Name->Ab} {a a':Act} {n:Name}
theorem Sim.congr (S:Sim P env w₀ O₀ W σ γ φ O a w) (hr:∀ n,σ'.root n=σ.root n) (hs:∀ i,σ'.slot i=σ.slot i):Sim P env w₀ O₀ W σ' γ φ O a w:=by
 refine ⟨S.defers,S.size,S.kept,?_,?_,?_,?_,S.old,?_,fun b hb bx d sh h=>S.pin b hb bx d sh ((hr 4).symm.trans h)⟩
 ·intro n r h;rw [hr] at h;exact RootOk.congr hr (S.roots n r h)
 ·intro n m r r' h h';rw [hr] at h h';exact S.apart n m r r' h h'
 ·intro n r h;rw [hr] at h;exact S.fresh n r h
 ·intro b;rw [S.own b];simp only [hr]
 ·intro i;rw [hs];exact (S.slots i).congr hr
theorem HO (h:σ'.mem=σ.mem) (n:Name):σ'.root n=σ.root n:=by unfold St.root;rw [h]
theorem Mv:Ak P w O σ γ (.tup []) undef:=by
 refine .tup [] #[] rfl fun i s v h=>?_
 simp at h
theorem JE {ops:Array Oper} {j d:Nat} (hd:(ops[j]?).bind (·.dst)=some d) (h:Ak P w O σ γ (.tup []) (a.tmps.getD d undef)):yielded ops a.tmps j=none:=by
 unfold yielded;rw [hd];simp only [Ai5]
 have hv:a.tmps.getD d undef = .tuple #[]:=by
  generalize a.tmps.getD d undef=v at h;cases h with
  |tup _ vs hl _=>rw [Array.eq_empty_of_size_eq_zero hl]
 cases e:a.tmps[d]? with
 |none=>rfl
 |some v=>
  rw [Array.getD_eq_getD_getElem?,e] at hv;rw [show v = .tuple #[] from hv]
theorem Mw (deep:Bool) (e:Ty) (hde:(deep && !(decide (e.ownAll = .z)))=false) {α:Type}:∀ (l:List (Nat×Slot)) (i:Nat) {k:List e.den->Option α} {r:α},Gr e i l k=some r->
  ∃ ys,k ys=some r/\∀ {β:Type} (σ:St) (k':List e.den->St->Option β),elemsK e deep i l σ k'=k' ys σ
 |[],_,k,r,h=>⟨[],h,fun σ k' =>rfl⟩
 |(j,s)::l,i,k,r,h=>by
  unfold Gr at h;split at h
  case h_2=>cases h
  case h_1 hj=>
   split at h
   case h_2=>cases h
   case h_1 d=>
    obtain ⟨he,h⟩:=As h;obtain ⟨dt,x⟩:=d;dsimp only at he;subst he;obtain ⟨ys,hk,hel⟩:=Mw deep dt hde l (i+1) h;refine ⟨x::ys,hk,fun σ k' =>?_⟩
    have hde':(deep&&decide (Sh.z≠dt.ownAll))=false:=by
     cases deep with
     |false=>rfl
     |true=>
      simp only [Bool.true_and,Bool.not_eq_false',Ajg,decide_eq_false_iff_not] at hde ⊢;exact fun h=>h hde.symm
    unfold elemsK;rw [hj];simp only [JN,Hf,AI,dif_pos];rw [hde'];dsimp only;exact hel σ fun ys σ=>k' (x::ys) σ
theorem aL:∀ i,BS (Ao i) .z .z=some .z
 |0=>rfl
 |i+1=>by
  show (BS (Ao i) .z .z).map _=_;rw [aL i];rfl
theorem Mx {t:Ty}:∀ (l:List (Nat×Slot)) (x:t.den) {k:t.den->Option α} {r:α},IV t l x k=some r->
  ∃ y,k y=some r/\∀ {β:Type} (σ:St) (k':t.den->Sh->St->Option β),IU t l x .z σ k'=k' y .z σ
 |[],x,k,r,h=>⟨x,h,fun σ k' =>rfl⟩
 |(i,s)::l,x,k,r,h=>by
  unfold IV at h;split at h
  case h_2=>cases h
  case h_1 d=>
   split at h
   case h_2=>cases h
   case h_1 t' ht=>
    obtain ⟨e,h⟩:=As h;obtain ⟨dt,dx⟩:=d;dsimp only at e;subst e;obtain ⟨x',hx',h⟩:=BE h;obtain ⟨y,hk,hp⟩:=Mx l x' h;refine ⟨y,hk,fun σ k' =>?_⟩;unfold IU;rw [ht];simp only [Hf,AI,dif_pos];have hx2:BT (Ao i) t x ⟨dt,dx⟩ some=some x' :=hx';refine (Bb _ _ _ _ _).trans ?_;rw [hx2,Ai5,aL];exact hp σ k'
theorem Zm (S:Sim P env w₀ O₀ W σ γ φ O a w) (hty:env.TyOk P) {o:Oper} {t:TypeId} {parts:Array (Nat×Operand)} (ho:o.op = .build t parts) {k:Slot->Option α} {r:α} (h:Gv env σ t parts k=some r) :
  ∃ s v,(execOp a.eval o).run P w = .ok (.value v) w/\Ak P w O σ γ s v/\k s=some r:=by
 unfold Gv at h;have hex:execOp a.eval o=(do pure (.value (<-Instr.build t (parts.map fun (i,x)=>(i,a.eval x))))):=by unfold execOp;rw [ho]
 rw [hex];split at h
 case h_2=>cases h
 case h_1 t' ht=>
  split at h
  case h_2=>cases h
  case h_1 hagg=>
   obtain ⟨hinf,_,_,it,hit,hits,_,z,cs,hz,hval,hrep⟩:=hty.1 _ _ ht
   obtain ⟨fs,hu,hfs⟩:∃ fs,P.underlying t=some (.struct fs)/\(Bw P t').2 fs.toList 0:=by
    cases t' with
    |pair u v=>obtain ⟨fs,hu,_,hq⟩:=hinf;exact ⟨fs,hu,hq⟩
    |unit=>obtain ⟨fs,hu,_,hq⟩:=hinf;exact ⟨fs,hu,hq⟩
    |int _=>cases hagg
    |bool=>cases hagg
    |str=>cases hagg
    |slice _=>cases hagg
   obtain ⟨places,hp,hpl⟩:=NZ t' fs.toList 0 hfs;simp only [Nat.zero_add] at hpl;obtain ⟨y,hk,hpk⟩:=Mx _ _ h;have hz0:Rep w O t' .z t'.zero cs Ab.none:=Rep.freeze (fun _ _ h=>h) (Ty.whole_ownAll t') (fun b hb=>hb.elim) (hrep w O);obtain ⟨x',sh',σ₂,cs',F',O₂,hk',S₂,_,hr',hF',hsub,hfill⟩:=QI S hpl (k:=fun y sh σ=>some (y,sh,σ)) (r:=(y,Sh.z,σ)) parts.toList S (Iv.refl σ) hz0 (fun b hb=>hb.elim) (fun _ h=>h) (hpk σ _);injection hk' with hk'
   injection hk' with e1 hk'
   injection hk' with e2 e3
   subst e1 e2;have hzv:=hval.many hagg
   have hrun:(Instr.build t (parts.map fun (i,x)=>(i,a.eval x))).run P w = .ok (.agg cs'.toArray) w:=by
    apply run_build;unfold Program.built;simp only [hit,hu,hz,hp,hzv,Value.cells,Array.toList_map];exact hfill
   have hv':C_ t' (.agg cs'.toArray) cs' :=by simp [C_,hagg]
   exact ⟨_,.agg cs'.toArray,by simp [hrun],.pv _ _ cs' hv' (hr'.foot fun b=>⟨fun h=>h.elim,fun hb=>(hr'.free b hb).elim⟩),hk⟩
theorem fc (S:Sim P env w₀ O₀ W σ γ φ O a w) (hty:env.TyOk P) (hfn:env.FnOk P) {o:Oper}
  {k:Slot->Option α} {r:α} (h:Bp env σ o k=some r) {next:Act->World->Prop} {Q:Exit->Act->World->Prop}
  (hnext:∀ s v γ' φ' O' w',Sim P env w₀ O₀ W σ γ' φ' O' a w' ->Ak P w' O' σ γ' s v->k s=some r->((∀ t n parts,o.op≠.buildSlice t n parts)->AF Ab.none w w')->next (a.put o.dst v) w') :
  o.upon P a next Q ((execOp a.eval o).run P w):=by
 unfold Bp at h;split at h
 ·rename_i c ho;exact callE_ok S hty hfn ho h fun s v w' S' hs hk K=>hnext s v γ φ O w' S' hs hk fun _=>K
 ·rename_i t n parts ho;unfold LC at h;split at h
  case h_1=>cases h
  case h_2 hstill=>
   split at h
   case h_2=>cases h
   case h_1 e ht=>
    split at h
    case h_1=>cases h
    case h_2 hdeep=>
     split at h
     case h_2=>cases h
     case h_1 hc=>
      obtain ⟨ys,hk,hel⟩:=Mw env.deep e hdeep _ _ h
      have hl:Cj env σ o (fun s σ' =>some (s,σ'))=some (Slot.pv ⟨.slice e,ys⟩,σ):=by
       unfold Cj;rw [ho];dsimp only;rw [ht];dsimp only;rw [hc];dsimp only;rw [hel,hstill]
      obtain ⟨s,v,σ',γ',φ',O',w',hrun,S',hs,hk'⟩:=Lm S hty ho hl;injection hk' with hk'
      injection hk' with e1 e2
      subst e1 e2;rcases hrun with hrun | ⟨hrun,rfl⟩
      ·rw [hrun];exact hnext _ v γ' φ' O' w' S' hs hk fun hno=>(hno t n parts ho).elim
      ·rw [hrun];exact hnext _ _ γ' φ' O' w' S' hs hk fun hno=>(hno t n parts ho).elim
 ·rename_i t parts ho;obtain ⟨s,v,hrun,hs,hk⟩:=Zm S hty ho h;rw [hrun];exact hnext s v γ φ O w S hs hk fun _=>AF.refl _ _
 ·rename_i g first caps ho
  split at h
  ·rename_i f x hx;obtain ⟨s,v,hrun,hs,hk⟩:=WQ S hfn ho hx h;rw [hrun];exact hnext s v γ φ O w S hs hk fun _=>AF.refl _ _
  ·rw [<-ho] at h;obtain ⟨s,v,hrun,hs,hk⟩:=QF S hty h;rw [hrun];exact hnext s v γ φ O w S hs hk fun _=>AF.refl _ _
 ·obtain ⟨s,v,hrun,hs,hk⟩:=QF S hty h;rw [hrun];exact hnext s v γ φ O w S hs hk fun _=>AF.refl _ _
theorem KO (S:Sim P env w₀ O₀ W σ γ φ O a w) (hty:env.TyOk P) (hfn:env.FnOk P) {ops:Array Oper} {i:Nat} {o:Oper} (ho:ops[i]? = some o) {d:Nat} (hd:o.dst=some d) (hlt:d<env.n) {s:Slot}
  (h:BM env ops o σ some=some s) {K:Act->World->Prop} {Q:Exit->Act->World->Prop}
  (hK:∀ a' w' γ' φ' O',Sim P env w₀ O₀ W (σ.set d s) γ' φ' O' a' w' ->(∃ v,a'=a.put (some d) v)->((∀ t n parts,o.op≠.buildSlice t n parts)->AF Ab.none w w')->K a' w'):wpOp P ops Q i K a w:=by
 have run:Bp env σ o some=some s->o.wp P a w K Q:=by
  intro h;unfold Oper.wp;refine fc S hty hfn h fun s' v γ' φ' O' w' S' hs hk hkept=>?_
  injection hk with hk
  subst hk;have:=S'.set hlt hs;rw [<-hd] at this;exact hK _ _ _ _ _ this ⟨v,by rw [hd]⟩ hkept
 have skip:s = .tup []->K (a.put o.dst undef) w:=by
  intro h;subst h;have:=S.set hlt (Mv (P:=P) (w:=w) (O:=O) (σ:=σ) (γ:=γ));rw [<-hd] at this;exact hK _ _ _ _ _ this ⟨undef,by rw [hd]⟩ fun _=>AF.refl _ _
 unfold wpOp;rw [ho];dsimp only;unfold BM at h;split at h
 ·rename_i hg;rw [show Region.wanted o (yielded ops a.tmps)=true by simp [Region.wanted,hg],if_pos rfl];exact .inl (run h)
 ·rename_i j want hg;split at h
  case h_2=>cases h
  case h_1 dg hdg=>
   split at h
   case h_3=>cases h
   case h_2 hltg hs=>
    have hv:=S.slots dg;rw [hs] at hv;have hw:Region.wanted o (yielded ops a.tmps)=false:=by simp only [Region.wanted,hg,JE hdg hv];cases want<;>rfl
    rw [hw];simp only [Bool.false_eq_true,if_false];injection h with h
    exact skip h.symm
   case h_1 b hltg hs=>
    have hdn:dg<a.tmps.size:=by rw [S.size];simpa using hltg
    have hv:=S.slots dg;rw [hs] at hv;have hvb:=Ir hv
    have hy:yielded ops a.tmps j=some (Za b):=by
     unfold yielded;rw [hdg];simp only [Ai5];rw [Array.getElem?_eq_getElem hdn];have:a.tmps[dg] = .bool b:=by rw [<-hvb,Array.getD_eq_getD_getElem?,Array.getElem?_eq_getElem hdn];rfl
     rw [this]
    have hw:Region.wanted o (yielded ops a.tmps)=(some (Za b)==some want):=by simp only [Region.wanted,hg,hy]
    rw [hw];split at h
    ·rename_i hb;rw [hb];split at h
     ·exact .inl (run h)
     ·simp only [show (some true==some false)=false from rfl,Bool.false_eq_true,if_false];injection h with h
      exact skip h.symm
    ·rename_i hb;rw [hb];split at h
     ·simp only [show (some false==some true)=false from rfl,Bool.false_eq_true,if_false];injection h with h
      exact skip h.symm
     ·exact .inl (run h)
def left (L:Array Bool):Nat->Nat
 |0=>0
 |n+1=>left L n+if L.getD n true=true then 0 else 1
theorem My {L:Array Bool} {i:Nat}:∀ (n:Nat),L.getD i true=false->left (L.setIfInBounds i true) n+(if i<n then 1 else 0)=left L n
 |0,h=>by simp [left]
 |n+1,h=>by
  have ih:=My n h;simp only [left];by_cases hi:i=n
  ·subst hi
   have hsz:i<L.size:=by
    rcases Nat.lt_or_ge i L.size with h' | h'
    ·exact h'
    ·simp [Array.getElem?_eq_none h'] at h
   have e:(L.setIfInBounds i true).getD i true=true:=by simp [hsz]
   rw [e,h];rw [if_neg (by omega)] at ih;simp;omega
  ·rw [getD_set_ne true hi];by_cases h1:i<n
   ·rw [if_pos h1] at ih;rw [if_pos (show i<n+1 by omega)];omega
   ·rw [if_neg h1] at ih;rw [if_neg (show ¬i<n+1 by omega)];omega
theorem KP {L:Array Bool}:∀ (n:Nat),left L n=0->∀ i,i<n->L.getD i true=true
 |0,_,i,hi=>by omega
 |n+1,h,i,hi=>by
  simp only [left] at h;by_cases hn:i=n
  ·subst hn;by_cases h2:L.getD i true=true
   ·exact h2
   ·rw [if_neg h2] at h;omega
  ·exact KP n (by omega) i (by omega)
theorem Mz:∀ (n m:Nat),n<=m->left (Array.replicate m false) n=n
 |0,m,_=>rfl
 |n+1,m,h=>by
  simp only [left];rw [Mz n m (by omega)];have:(Array.replicate m false).getD n true=false:=by simp [show n<m by omega]
  rw [this];simp
theorem jp (S:Sim P env w₀ O₀ W σ γ φ O a w) (hty:env.TyOk P) (hfn:env.FnOk P) {id:Nat} {ops:Array Oper} {k:St->Option α} {r:α} (hok:Uo env.n ops=true)
  (h:WL env ops (List.range ops.size) σ k=some r) {Q:Exit->Act->World->Prop}
  (hQ:∀ σ' γ' φ' O' a' w',Sim P env w₀ O₀ W σ' γ' φ' O' a' w' ->k σ'=some r->Q .normal a' w'):(Code.region id ops true).wp P Q a w:=by
 have D:=W_ hok;rw [List.range_eq_range'] at h;obtain ⟨sl,σs,τ',h0,h1,h2,h2m,h2s⟩:=QN ops.size 0 σ σ rfl (fun _=>rfl) h;simp only [Nat.zero_add] at h1 h2m h2s
 have tr:∀ j,j<=ops.size->(σs j).mem=σ.mem/\∀ x,(∀ (j':Nat) o,j'<j->ops[j']? = some o->o.dst=some x->(σs j).slot x=sl j')/\
   ((∀ (j':Nat) o,j'<j->ops[j']? = some o->o.dst≠some x)->(σs j).slot x=σ.slot x):=by
  intro j;induction j with
  |zero=>intro _;rw [h0];exact ⟨rfl,fun x=>⟨fun j' o hj=>by omega,fun _=>rfl⟩⟩
  |succ j ih=>
   intro hj;obtain ⟨ih1,ih2⟩:=ih (by omega);obtain ⟨o,d,g1,g2,g3,g4⟩:=h1 j (Nat.zero_le _) (by omega);rw [g4];refine ⟨ih1,fun x=>?_⟩;rw [St.slot_set];by_cases hx:x=d
   ·subst hx;rw [if_pos rfl];refine ⟨fun j' o' hj' ho' hd' =>?_,fun hno=>(hno j o (by omega) g1 g2).elim⟩;rw [D.one j j' o o' x g1 ho' g2 hd']
   ·rw [if_neg hx];obtain ⟨i1,i2⟩:=ih2 x;refine ⟨fun j' o' hj' ho' hd' =>?_,fun hno=>i2 fun j' o' hj' =>hno j' o' (by omega)⟩
    have:j' ≠j:=by
     rintro rfl;rw [g1] at ho';injection ho' with ho'
     subst ho';rw [g2] at hd';injection hd' with hd'
     exact hx hd'.symm
    exact i1 j' o' (by omega) ho' hd'
 let Inv:Region.Mode->Array Bool->Act->World->Prop:=fun md L a w=>(∀ (j':Nat) o,L.getD j' false=true->ops[j']? = some o->∀ e∈o.after,Region.binds md e=true->L.getD e.on false=true)/\∃ σ' γ' φ' O',Sim P env w₀ O₀ W σ' γ' φ' O' a w/\σ'.mem=σ.mem/\
  ∀ x,(∀ (j':Nat) o,L.getD j' false=true->ops[j']? = some o->o.dst=some x->σ'.slot x=sl j')/\((∀ (j':Nat) o,L.getD j' false=true->ops[j']? = some o->o.dst≠some x)->σ'.slot x=σ.slot x)
 have done:∀ md L a w,L.size=ops.size->Inv md L a w->(∀ i,i<ops.size->L.getD i true=true)->Q .normal a w:=by
  rintro md L a w hL ⟨_,σ',γ',φ',O',S',hm,hsl⟩ hall;obtain ⟨t1,t2⟩:=tr ops.size (Nat.le_refl _)
  have listed:∀ i,i<ops.size->L.getD i false=true:=by
   intro i hi;have:=hall i hi;have hi':i<L.size:=by rw [hL];exact hi
   simpa [hi'] using this
  refine hQ _ γ' φ' O' a w (S'.congr (σ' :=τ') (HO (h2m.trans (t1.trans hm.symm))) fun x=>(h2s x).trans ?_) h2;obtain ⟨s1,s2⟩:=hsl x;obtain ⟨u1,u2⟩:=t2 x;by_cases hex:∃ (j:Nat) (o:Oper),ops[j]? = some o/\o.dst=some x
  ·obtain ⟨j,o,ho,hd⟩:=hex;have hj:=(Array.getElem?_eq_some_iff.1 ho).1;rw [u1 j o hj ho hd,s1 j o (listed j hj) ho hd]
  ·rw [u2 fun j o _ ho hd=>hex ⟨j,o,ho,hd⟩,s2 fun j o _ ho hd=>hex ⟨j,o,ho,hd⟩]
 have any:∀ (md:Region.Mode) (Af:Nat) (L:Array Bool) (a:Act) (w:World),L.size=ops.size->left L ops.size<=Af->Inv md L a w->wpAny P md ops Q Af L a w:=by
  intro md Af;induction Af with
  |zero=>
   intro L a w hL hleft hI;have hall:=KP (L:=L) ops.size (by omega);refine ⟨?_,done md L a w hL hI hall⟩;cases hr:Region.ready md ops L with
   |nil=>rfl
   |cons i l=>
    have hi:i∈Region.ready md ops L:=by rw [hr];simp
    obtain ⟨g1,o,g2,_⟩:=mem_ready.1 hi;rw [hall i (Array.getElem?_eq_some_iff.1 g2).1] at g1;cases g1
  |succ Af ih=>
   intro L a w hL hleft hI;refine ⟨fun hnil=>done md L a w hL hI ?_,fun i hi=>?_⟩
   ·obtain ⟨rk,hrk⟩:=D.rank md
    have:∀ m i,rk i<=m->i<ops.size->L.getD i true=true:=by
     intro m;induction m using Nat.strongRecOn with
     |ind m ihm=>
      intro i him hi;have hlow:∀ j,rk j<rk i->j<ops.size->L.getD j true=true:=fun j hj hjs=>ihm (rk j) (by omega) j (Nat.le_refl _) hjs
      by_cases hu:L.getD i true=true
      ·exact hu
      ·have hmem:i∈Region.ready md ops L:=by
        refine mem_ready.2 ⟨by simpa using hu,ops[i],Array.getElem?_eq_getElem hi,fun e he hbd=>?_⟩;obtain ⟨hes,hb⟩:=hrk i _ (Array.getElem?_eq_getElem hi) e he hbd;have:=hlow e.on hb hes;have hs:e.on<L.size:=by rw [hL];exact hes
        simpa [hs] using this
       rw [hnil] at hmem;cases hmem
    exact fun i hi=>this (rk i) i (Nat.le_refl _) hi
   ·obtain ⟨g1,o,g2,g3⟩:=mem_ready.1 hi;have hin:=(Array.getElem?_eq_some_iff.1 g2).1;obtain ⟨hcl,σ',γ',φ',O',S',hm,hsl⟩:=hI;obtain ⟨o₂,d,q1,q2,q3,q4⟩:=h1 i (Nat.zero_le _) hin;rw [g2] at q1;injection q1 with q1
    subst q1;obtain ⟨t1,t2⟩:=tr i (by omega)
    have agree:∀ x∈o.looksAt ops,σ'.slot x=(σs i).slot x:=by
     intro x hx;obtain ⟨s1,s2⟩:=hsl x;obtain ⟨u1,u2⟩:=t2 x;by_cases hex:∃ (j:Nat) (o':Oper),ops[j]? = some o' /\o'.dst=some x
     ·obtain ⟨j,o',ho',hd'⟩:=hex;rcases D.edge i j o o' x g2 ho' hd' hx with ⟨hji,e,he,hej,hb⟩ | ⟨hij,e,he,hei,hb⟩
      ·have hlist:=g3 e he (hb md);rw [hej] at hlist;rw [s1 j o' hlist ho' hd',u1 j o' hji ho' hd']
      ·rw [u2,s2]
       ·intro j₂ o₂ hl₂ ho₂ hd₂;have:j₂=j:=D.one j₂ j o₂ o' x ho₂ ho' hd₂ hd';subst this;rw [ho₂] at ho';injection ho' with ho'
        subst ho';have hlist:=hcl j₂ o₂ hl₂ ho₂ e he (hb md);rw [hei] at hlist;have hsi:i<L.size:=by rw [hL];exact hin
        simp [hsi] at g1 hlist;rw [g1] at hlist;cases hlist
       ·intro j₂ o₂ hj₂ ho₂ hd₂;have:j₂=j:=D.one j₂ j o₂ o' x ho₂ ho' hd₂ hd';omega
     ·rw [u2 fun j o _ ho hd=>hex ⟨j,o,ho,hd⟩,s2 fun j o _ ho hd=>hex ⟨j,o,ho,hd⟩]
    have hg:BM env ops o σ' some=some (sl i):=(CN (hm.trans t1.symm) o agree some).trans q3;obtain ⟨d₂,hd₂,hdlt⟩:=D.dst i o g2;rw [q2] at hd₂;injection hd₂ with hd₂
    subst hd₂;refine KO S' hty hfn g2 q2 hdlt hg fun a' w' γ'' φ'' O'' S'' _ _=>ih (L.setIfInBounds i true) a' w' (by simpa using hL) ?_ ⟨?_,_,γ'',φ'',O'',S'',hm,fun x=>?_⟩
    ·have:=My ops.size g1;rw [if_pos hin] at this;omega
    ·intro j' o' hj' ho' e he hbd;have hsi:i<L.size:=by rw [hL];exact hin
     by_cases hji:i=j'
     ·subst hji;rw [g2] at ho';injection ho' with ho'
      subst ho';exact getD_set_true (g3 e he hbd)
     ·rw [getD_set_ne false hji] at hj';exact getD_set_true (hcl j' o' hj' ho' e he hbd)
    ·have hsi:i<L.size:=by rw [hL];exact hin
     have hset:∀ j,(L.setIfInBounds i true).getD j false=true->j=i\/L.getD j false=true:=by
      intro j hj;by_cases hji:i=j
      ·exact .inl hji.symm
      ·rw [getD_set_ne false hji] at hj;exact .inr hj
     have hset':(L.setIfInBounds i true).getD i false=true:=by simp [hsi]
     obtain ⟨s1,s2⟩:=hsl x;rw [St.slot_set];by_cases hx:x=d
     ·subst hx;rw [if_pos rfl];refine ⟨fun j' o' hj' ho' hd' =>?_,fun hno=>(hno i o hset' g2 q2).elim⟩;rw [D.one i j' o o' x g2 ho' q2 hd']
     ·rw [if_neg hx];refine ⟨fun j' o' hj' ho' hd' =>?_,fun hno=>s2 fun j' o' hj' =>hno j' o' (getD_set_true hj')⟩;rcases hset j' hj' with e | e
      ·subst e;rw [g2] at ho';injection ho' with ho'
       subst ho';rw [q2] at hd';injection hd' with hd'
       exact (hx hd'.symm).elim
      ·exact s1 j' o' e ho' hd'
 have start:∀ md w',AF Ab.none w w' ->Inv md (Array.replicate ops.size false) a w' :=by
  intro md w' K;refine ⟨fun j' o' hj' =>by by_cases hj:j'<ops.size<;>simp [hj] at hj',σ,γ,φ,O,S.grow K,rfl,fun x=>⟨fun j' o' hj' =>?_,fun _=>rfl⟩⟩;by_cases hj:j'<ops.size<;>simp [hj] at hj'
 refine wp_region_draw fun t=>?_
 have K:AF Ab.none w {w with drawn:=w.drawn+1}:=⟨rfl,rfl,rfl,Nat.le_refl _,fun _ _ _=>rfl⟩
 have hl:left (Array.replicate ops.size false) ops.size<=ops.size:=by rw [Mz _ _ (Nat.le_refl _)];exact Nat.le_refl _
 unfold Region.schedule;split
 ·exact wpAny_sound ops.size t _ a _ (any .any ops.size _ a _ (by simp) hl (start _ _ K))
 ·exact wpAny_sound ops.size (t / 2) _ a _ (any _ ops.size _ a _ (by simp) hl (start _ _ K))
end Go.V
namespace Go.V
variable {α:Type}
variable {P:Program} {env:Bf} {w₀ w w':World} {O₀ O₁ W O O':Ab} {σ σ₀ σ':St} {γ γ':Name->Src} {φ φ':Name->Ab} {a a':Act} {n:Name}
theorem St.slot_redo (σ:St) (n:Name) (r:AV) (i:Nat):(σ.redo n r).slot i=(σ.slot i).killE n:=by
 unfold St.slot St.redo
 rw [Er];cases look σ.slots i<;>rfl
theorem St.root_redo (σ:St) (n:Name) (r:AV) (m:Name):(σ.redo n r).root m=(σ.lay n r).root m:=rfl
theorem Sim.redo (S:Sim P env w₀ O₀ W σ γ φ O a w) {t:Ty} {x y:t.den} {b off:Nat} (hr:σ.root n=some (.data true ⟨t,x⟩ .z)) (hγ:γ n = .mem b off) (K:AF (fun c=>c=b) w w') (hy:IoAt w' O t b off y) :
  ∃ γ' φ' O',Sim P env w₀ O₀ W (σ.redo n (.data true ⟨t,y⟩ .z)) γ' φ' O' a w' /\∀ c,O' c->O c:=by
 have R:=S.roots n _ hr;obtain ⟨b₁,off₁,C,tid,fr,cs,F',hsrc,hb,hfz,hcs,hrep,hF',hOb,hU⟩:=R;rw [hγ] at hsrc;injection hsrc with e1 e2
 subst e1 e2;have hφb:φ n b:=(hU b).2 (.inl rfl);have hlive:Da σ ⟨n,[]⟩:=⟨true,⟨t,x⟩,.z,⟨t,x⟩,hr,rfl,rfl⟩
 obtain ⟨γ',φ',O',S',A,hγ',hφ'⟩:=S.lay' (n:=n) (O₀:=O₀) (w' :=w') (r:=.data true ⟨t,y⟩ .z) (src:=.mem b off) (F:=fun c=>c=b)
  (K.mono fun c _ hc=>by rw [show c=b from hc];exact ⟨⟨_,hr⟩,hφb⟩) (fun _ h=>h)
  (fun c hc=>.inr (.inl (by rw [show c=b from hc];exact ⟨⟨_,hr⟩,hφb⟩)))
  (fun O' γ' φ' A hγ'' hO hOO=>by
   obtain ⟨C',tid',fr',cs',h1,h2,h3,h4⟩:=hy;exact ⟨b,off,C',tid',fr',cs',Ab.none,rfl,h1,h2,h3,Rep.freeze (fun c _ hn h=>(hOO c h).elim (fun h=>hn h.1) fun h=>hn (by rw [show c=b from h];exact hOb)) rfl (fun c h=>h.elim) h4,fun h=>h,hO b rfl,fun k=>⟨fun h=>.inl h,fun h=>h.elim id fun h=>h.elim⟩⟩)
  (fun e bx d sh _=>⟨by rw [hγ],⟨_,_,_,hr⟩⟩)
 have hsub:∀ c,O' c->O c:=fun c hc=>by
  rcases (S'.own c).1 hc with h | ⟨m,r,hm,hφm⟩
  ·exact (S.own c).2 (.inl h)
  ·by_cases e:m=n
   ·subst e;rw [hφ'] at hφm;rw [show c=b from hφm];exact hOb
   ·rw [A.root m e] at hm;rw [A.foot m e] at hφm;cases hs:σ.root m with
    |none=>rw [hs] at hm;cases hm
    |some r₀=>exact (S.own c).2 (.inr ⟨m,r₀,hs,hφm⟩)
 refine ⟨γ',φ',O',⟨S'.defers,S'.size,S'.kept,fun m r h=>RootOk.congr (σ:=σ.lay n (.data true ⟨t,y⟩ .z)) (σ' :=σ.redo n (.data true ⟨t,y⟩ .z)) (fun _=>rfl) (S'.roots m r h),S'.apart,S'.fresh,S'.own,S'.old,fun i=>?_,S'.pin⟩,hsub⟩;rw [St.slot_redo];have hk:=S'.slots i;rw [St.slot_lay] at hk;have hk:Ak P w' O' (σ.redo n (.data true ⟨t,y⟩ .z)) γ' ((σ.slot i).kill n) (a.tmps.getD i undef):=Ak.congr (σ:=σ.lay n (.data true ⟨t,y⟩ .z)) (σ' :=σ.redo n (.data true ⟨t,y⟩ .z)) (fun _=>rfl) hk;have hs:=S.slots i;generalize σ.slot i=s at hk hs;generalize a.tmps.getD i undef=v at hk hs;unfold Slot.killE;split
 ·rename_i m;by_cases hm:m=n
  ·subst hm
   have hv:v = .pointer (some ⟨b,off,none⟩):=by
    cases hs with
    |ptr _ t' b' off' hp=>
     obtain ⟨bx,d,sh,h1,h2,h3⟩:=hp;have:=h3 hlive;simp only [goto,hγ] at this;injection this with this
     injection this with e1 e2
     injection e2 with e2 e3
     rw [e2,e3]
    |ptrH m' s b' off' h1 _=>rw [hr] at h1;cases h1
   rw [hv];exact .ptr ⟨m,[]⟩ t b off ⟨true,⟨t,y⟩,.z,by rw [St.root_redo,St.root_lay,if_pos rfl],rfl,fun _=>by simp only [goto];rw [hγ']⟩
  ·rw [Slot.kill_of (by unfold Slot.men;exact Dn hm)] at hk;exact hk
 ·exact hk
theorem NY.both:∀ {ss:List Slot} {vs:List Value},(∀ b,O' b->O b)->NY P w O ss vs->CW P w O' σ γ ss vs
 |[],[],_,_=>trivial
 |_::_,_::_,hO,h=>⟨(h.1 _ _).less fun b _ hn ho=>hn (hO b ho),NY.both hO h.2⟩
theorem Ix.both:∀ {ss:List Slot} {vs:List Value},Ix P w ss vs->CW P w O σ γ ss vs
 |[],[],_=>trivial
 |_::_,_::_,h=>⟨h.1 _ _ _,Ix.both h.2⟩
 |[],_::_,h=>h.elim
 |_::_,[],h=>h.elim
theorem CO:∀ {ps:List PM},IS ps=true->Bh ps=[]
 |[],_=>rfl
 |.ro _::ps,h=>CO (ps:=ps) h
 |.rp _::ps,h=>CO (ps:=ps) h
 |.fn _ _::ps,h=>CO (ps:=ps) h
 |.st _ _::ps,h=>CO (ps:=ps) h
 |.io _ _::_,h=>by cases h
 |.tk _ _::_,h=>by cases h
theorem St.slot_redoR (σ:St) (n:Name) (r:AV) (i:Nat):(σ.redoR n r).slot i=(σ.slot i).killR n:=by
 unfold St.slot St.redoR;rw [Er];cases look σ.slots i<;>rfl
theorem St.root_redoR (σ:St) (n:Name) (r:AV) (m:Name):(σ.redoR n r).root m=(σ.lay n r).root m:=rfl
theorem Sim.redoR (S:Sim P env w₀ O₀ W σ γ φ O a w) {e:Ty} {s:Sh} {x y:(Ty.slice e).den} {v:Value} {G:Ab} (hr:σ.root n=some (.data false ⟨.slice e,x⟩ (.own s))) (hγ:γ n = .val [v]) (K:AF (φ n) w w')
  (hG:∀ b,G b->φ n b\/w.heap.size<=b) (hy:Rep w' (fun b=>(O b/\¬φ n b)\/G b) (.slice e) (.own s) y [v] G) :
  ∃ γ' φ' O',Sim P env w₀ O₀ W (σ.redoR n (.data false ⟨.slice e,y⟩ (.own s))) γ' φ' O' a w' :=by
 have hft:∀ b,φ n b->σ.foot φ n b:=fun b hb=>⟨⟨_,hr⟩,hb⟩
 have hlive:Da σ ⟨n,[]⟩:=⟨false,⟨.slice e,x⟩,.own s,⟨.slice e,x⟩,hr,rfl,rfl⟩
 obtain ⟨γ',φ',O',S',A,hγ',hφ'⟩:=S.lay' (n:=n) (O₀:=O₀) (w' :=w') (r:=.data false ⟨.slice e,y⟩ (.own s)) (src:=.val [v]) (F:=G)
  (K.mono fun c _ hc=>hft c hc) (fun _ h=>h) (fun c hc=>(hG c hc).elim (fun h=>.inr (.inl (hft c h))) .inl)
  (fun O' γ' φ' A hγ'' hO hle=>⟨[v],rfl,Rep.frame (Nat.le_refl _) (fun _ _ _=>rfl) (fun _ _=>rfl) (fun b _ hn ho=>hn ((hle b ho).imp (fun h=>⟨h.1,fun hf=>h.2 (hft b hf)⟩) id)) (fun b hb _=>hO b hb) hy⟩)
  (fun e bx d sh _=>⟨by rw [hγ],⟨_,_,_,hr⟩⟩)
 refine ⟨γ',φ',O',S'.defers,S'.size,S'.kept,fun m r h=>RootOk.congr (σ:=σ.lay n (.data false ⟨.slice e,y⟩ (.own s))) (σ' :=σ.redoR n (.data false ⟨.slice e,y⟩ (.own s))) (fun _=>rfl) (S'.roots m r h),S'.apart,S'.fresh,S'.own,S'.old,fun i=>?_,S'.pin⟩;rw [St.slot_redoR];have hk:=S'.slots i;rw [St.slot_lay] at hk;have hk:Ak P w' O' (σ.redoR n (.data false ⟨.slice e,y⟩ (.own s))) γ' ((σ.slot i).kill n) (a.tmps.getD i undef):=Ak.congr (σ:=σ.lay n (.data false ⟨.slice e,y⟩ (.own s))) (σ' :=σ.redoR n (.data false ⟨.slice e,y⟩ (.own s))) (fun _=>rfl) hk;have hs:=S.slots i;generalize σ.slot i=s' at hk hs;generalize a.tmps.getD i undef=v' at hk hs;unfold Slot.killR;split
 ·rename_i t' m;by_cases hm:m=n
  ·subst hm;cases hs with
   |ref _ _ _ src hp hl=>
    obtain ⟨cs,hcs,hval⟩:=hl hlive;obtain ⟨bx,d,sh,h1,h2,h3⟩:=hp;have:=h3 hlive;simp only [goto] at this;injection this with this
    injection this with e1 e2
    rw [hr] at h1;injection h1 with h1
    injection h1 with _ h1 _
    subst h1;have e1:(Ty.slice e)=t' :=e1;subst e1;rw [<-e2,hγ] at hcs;simp only [Al] at hcs;injection hcs with hcs
    subst hcs;refine .ref (.slice e) ⟨m,[]⟩ v' (.val [v]) ⟨false,⟨.slice e,y⟩,.own s,by rw [St.root_redoR,St.root_lay,if_pos rfl],rfl,fun _=>by simp only [goto];rw [hγ']⟩ fun _=>⟨[v],rfl,hval⟩
  ·rw [Slot.kill_of (by unfold Slot.men;exact Dn hm)] at hk;exact hk
 ·exact hk
theorem IoOk.tk {f:FuncId} {t:Ty} {sh:Sh} {ps:List PM} {rs:List (Ty×Sh)} {F:Args (.tk t sh::ps)->Option (CB (rs.map (·.1)++Bh (.tk t sh::ps)))} (h:IoOk P f ⟨.tk t sh::ps,rs,F⟩)
  (hrf:(rs.all fun x=>x.1.flat)=true):nK P f t sh ps rs F:=by
 cases rs with
 |nil=>exact h
 |cons q rs=>
  obtain ⟨qt,qs⟩:=q;cases qt with
  |slice u=>simp [Ty.flat] at hrf
  |_=>exact h
theorem cR (S:Sim P env w₀ O₀ W σ γ φ O a w) (hfn:env.FnOk P) {g:FuncId} {fu:Av} (hI:IoOk P g fu) {nm:Name} (hnm:nm≠4) {args:List Operand}
  {k:Slot->St->Option α} {r:α} (h:KH env σ nm fu args k=some r) {R:Ending->World->Prop}
  (hR:∀ s v σ' γ' φ' O' w',Sim P env w₀ O₀ W σ' γ' φ' O' a w' ->Ak P w' O' σ' γ' s v->k s σ'=some r->R (.returned v) w'):Calls P g (args.map a.eval).toArray w R:=by
 unfold KH at h;split at h
 case h_2=>cases h
 case h_1 e se ps u su rs F y ys=>
  split at h
  case h_2=>cases h
  case h_1 hc=>
   rw [Ajb] at hc;obtain ⟨hno,hrf⟩:=hc;obtain ⟨xs,n,σ₂,γ₂,φ₂,O₂,h,S₂,hr,hγ,hn4,_⟩:=WW S (S.val y) hnm h;split at h
   case h_2=>cases h
   case h_1 hl=>
    have S₃:=S₂.drop hr;obtain ⟨az,hk,h1,h2⟩:=DP S₃ hfn ps _ _ (CO hno) (S₃.vals ys) h;split at hk
    case h_2=>cases hk
    case h_1 res hres=>
     obtain ⟨cs,hsrc,hrep⟩:=S₂.roots n _ hr;rw [hγ] at hsrc;injection hsrc with hsrc
     subst hsrc;have hft:∀ b,φ₂ n b->σ₂.foot φ₂ n b:=fun b hb=>⟨⟨_,hr⟩,hb⟩
     have hcall:Calls P g (a.eval y::ys.map a.eval).toArray w fun e' w' =>∃ v' rv G',e' = .returned (CY (v'::rv))/\AF (φ₂ n) w w' /\(∀ b,G' b->φ₂ n b\/w.heap.size<=b)/\
       Rep w' (fun b=>(O₂ b/\¬φ₂ n b)\/G' b) (.slice u) (.own su) res.1 [v'] G' /\Ix P w' (CD rs (Bh ps) res.2) rv:=by
      by_cases hlent:Slot.lentL (ys.map (σ₂.drop n).val)=false
      ·exact hI.2 w O₂ xs (a.eval y) [a.eval y] (φ₂ n) az _ res S₂.bound rfl hrep (h2 hlent) hres
      ·have hall:su=u.ownAll:=by simpa [hlent] using hl
       subst hall
       refine (hI.2 w (fun b=>O₀ b\/φ₂ n b) xs (a.eval y) [a.eval y] (φ₂ n) az _ res S₃.old rfl
        (Rep.frame (Nat.le_refl _) (fun _ _ _=>rfl) (fun _ _=>rfl) (fun b _ hn h=>hn ((S₃.own b).2 (.inl h))) (fun b hb _=>.inr hb) hrep) h1 hres).mono ?_
       rintro e' w' ⟨v',rv,G',rfl,K,hG,hy,hpv⟩;exact ⟨v',rv,G',rfl,K,hG,Rep.ownAny (t:=.slice u) hy fun b hb=>.inr hb,hpv⟩
     refine hcall.mono ?_;rintro e' w' ⟨v',rv,G',rfl,K,hG,hy,hpv⟩
     obtain ⟨γ',φ',O',S',A,hγ',hφ'⟩:=S₂.lay' (n:=n) (O₀:=O₀) (w' :=w') (r:=.data false ⟨.slice u,res.1⟩ (.own su)) (src:=.val [v']) (F:=G')
      (K.mono fun c _ hc=>hft c hc) (fun _ h=>h) (fun c hc=>(hG c hc).elim (fun h=>.inr (.inl (hft c h))) .inl)
      (fun O' γ' φ' A hγ'' hO hle=>⟨[v'],rfl,Rep.frame (Nat.le_refl _) (fun _ _ _=>rfl) (fun _ _=>rfl) (fun b _ hn ho=>hn ((hle b ho).imp (fun h=>⟨h.1,fun hf=>h.2 (hft b hf)⟩) id)) (fun b hb _=>hO b hb) hy⟩)
      (fun e=>absurd e hn4)
     have hv:C_ (.slice u) v' [v']:=rfl;exact hR _ _ _ γ' φ' O' w' S' (CW.one (ss:=.ref (.slice u) ⟨n,[]⟩::_) (vs:=v'::rv) ⟨.ref (.slice u) ⟨n,[]⟩ v' (.val [v']) ⟨false,_,_,by rw [St.root_lay,if_pos rfl],rfl,fun _=>by simp only [goto];rw [hγ']⟩ fun _=>⟨[v'],rfl,hv⟩,hpv.both⟩) hk
theorem cS (S:Sim P env w₀ O₀ W σ γ φ O a w) (hfn:env.FnOk P) {g:FuncId} {fu:Av} (hI:IoOk P g fu) {args:List Operand}
  {k:Slot->St->Option α} {r:α} (h:Um env σ fu args k=some r) {R:Ending->World->Prop}
  (hR:∀ s v σ' γ' φ' O' w',Sim P env w₀ O₀ W σ' γ' φ' O' a w' ->Ak P w' O' σ' γ' s v->k s σ'=some r->R (.returned v) w'):Calls P g (args.map a.eval).toArray w R:=by
 unfold Um at h;split at h
 case h_2=>cases h
 case h_1 e s ps rs F y ys=>
  split at h
  case h_2=>cases h
  case h_1 hc=>
   simp only [Ajb,Ajg] at hc;obtain ⟨hno,_,hs⟩:=hc;subst hs;split at h
   case h_2=>cases h
   case h_1 t0 n hv0=>
    split at h
    case h_2=>cases h
    case h_1 d sh hr=>
     split at h
     case h_2=>cases h
     case h_1 hd=>
      have hd:=of_decide_eq_true hd;subst hd;obtain ⟨e',h⟩:=As h;obtain ⟨dt,x⟩:=d;dsimp only at e';subst e';have S₃:=S.drop hr;obtain ⟨az,hk,h1,_⟩:=DP S₃ hfn ps _ _ (CO hno) (S₃.vals ys) h;split at hk
      case h_2=>cases hk
      case h_1 res hres=>
       obtain ⟨cs,hsrc,hrep⟩:=S.roots n _ hr;have hs:=S.val y;rw [hv0] at hs;have hv:C_ (.slice e) (a.eval y) cs:=DJ hs (p:=⟨n,[]⟩) hr rfl (d' :=⟨.slice e,x⟩) rfl (src:=γ n) rfl (by rw [hsrc];rfl);have hcv:cs=[a.eval y]:=hv;subst hcv;refine (hI.2 w (fun b=>O₀ b\/φ n b) x (a.eval y) (φ n) az _ res S₃.old (Rep.ownAny (t:=.slice e) hrep fun b hb=>.inr hb) h1 hres).mono ?_;rintro e₁ w' ⟨rv,G',rfl,K,hG',hy,hpv⟩;obtain ⟨γ',φ',O',S'⟩:=S.redoR hr hsrc K hG' (Rep.ownAny (t:=.slice e) hy fun b hb=>.inr hb);exact hR _ _ _ _ _ _ _ S' (CW.one hpv.both) hk
theorem cT (S:Sim P env w₀ O₀ W σ γ φ O a w) (hfn:env.FnOk P) {g:FuncId} {fu:Av} (hI:IoOk P g fu) {ss:List Slot} {vs:List Value} (hB:CW P w O σ γ ss vs)
  {k:Slot->St->Option α} {r:α} (h:IT env σ fu ss k=some r) {R:Ending->World->Prop}
  (hR:∀ s v σ' γ' φ' O' w',Sim P env w₀ O₀ W σ' γ' φ' O' a w' ->Ak P w' O' σ' γ' s v->k s σ'=some r->R (.returned v) w'):Calls P g vs.toArray w R:=by
 unfold IT at h;split at h
 case h_4=>cases h
 case h_2 e s ps rs F t₀ p ss=>
  split at h
  case h_2=>cases h
  case h_1 hc=>
   simp only [Ajb,Bool.not_eq_true'] at hc;obtain ⟨hno,hrf,hlent⟩:=hc;split at h
   case h_2=>cases h
   case h_1 b d sh hr=>
    split at h
    case h_2=>cases h
    case h_1 hd=>
     obtain ⟨hok,hsh⟩:=of_decide_eq_true hd;obtain ⟨d',hget,h⟩:=Ed h;obtain ⟨e',h⟩:=As h;obtain ⟨dt,x⟩:=d';dsimp only at e';subst e';dsimp only at h
     match vs,hB with
     |[],hB=>exact hB.elim
     |v::vs,hB=>
      obtain ⟨az,hk,_,h2⟩:=DP S hfn ps ss vs (CO hno) hB.2 h;have hargs:=h2 hlent;split at hk
      case h_2=>cases hk
      case h_1 res hres=>
       obtain ⟨cs,F₁,hRr,hcs,hblk,hFφ,hblkφ,hφ,hclear⟩:=S.rootRep hr;obtain ⟨src',cs',F',hg',hcs',hrep',hF',hb',hin,hrng,hback⟩:=Rep.zip p.path hRr hcs hblk hok hget;rw [hsh] at hrep';have hv:C_ (.slice e) v cs' :=DJ hB.1 hr hok hget hg' hcs';have hcv:cs'=[v]:=hv;subst hcv;have hcall:=hI.2 w O x v F' az vs res S.bound hrep' hargs hres;split at hk
       ·rename_i hbv;obtain ⟨x',hset,hk⟩:=BE hk;split at hk
        case h_2=>cases hk
        case h_1 sh'' hsh'' =>
         have hmem:∃ b' off',src' = .mem b' off' :=by
          refine Iz p.path ?_ hg';rcases (Ajc _ _).mp hbv with hb | hv
          ·subst hb;obtain ⟨b',off',_,_,_,_,_,hsrc,_⟩:=S.roots _ _ hr;exact .inr ⟨b',off',hsrc⟩
          ·exact .inl hv
         obtain ⟨b',off',rfl⟩:=hmem;obtain ⟨C,tid,fr,hbC,hle,_⟩:=Bs hcs';refine hcall.mono ?_;rintro e₁ w' ⟨rv,G',rfl,K,hG',hy,hpv⟩;have hsame:w'.heap[b']? = w.heap[b']?:=K.block b' (Array.getElem?_eq_some_iff.1 hbC).1 (hb' b' rfl).1
         obtain ⟨φ',O',S'⟩:=(S.congrO (O₁:=fun c=>O₀ c\/Ab.none c) fun c=>⟨fun h=>h.resolve_right fun h=>h,.inl⟩).writeG (O₁:=Ab.none) (d' :=⟨.slice e,x⟩) (shy:=.own s) (cy:=[v]) (G:=G') hr hok hget hg' hcs' (by rw [hsh];exact hrep')
          ⟨K.size,fun k hk _ hn=>K.block k hk hn,fun C tid fr h=>⟨C,hsame.trans h,rfl,fun _ _=>rfl⟩⟩
          ((Ci (by rintro k rfl;exact hsame)).trans hcs') (K.mono fun k _ hk=>.inr hk) (fun k hk=>(hG' k hk).imp id .inl) (fun _ h=>h.elim) (fun _ h=>h.elim)
          (fun O' hle hG=>Rep.frame (Nat.le_refl _) (fun _ _ _=>rfl) (fun _ _=>rfl) (fun b _ hn ho=>hn (hle b ho)) (fun b hb _=>hG b hb) hy) hset hsh''
         exact hR _ _ _ _ _ _ _ S' (CW.one hpv.both) hk
       ·rename_i hbv;obtain ⟨hb,_⟩:=Bool.or_eq_false_iff.1 hbv;subst hb;split at hk
        case h_2=>cases hk
        case h_1 hpath=>
         obtain ⟨pn,pp⟩:=p;dsimp only at hpath hr hget hg' hsh hk;subst hpath;simp only [AB] at hget;injection hget with hget
         have hd:d=⟨.slice e,x⟩:=hget;subst hd;simp only [Eo] at hsh;subst hsh;obtain ⟨cs₂,hsrc,hrep₂⟩:=S.roots _ _ hr;simp only [goto] at hg';injection hg' with hg'
         injection hg' with _ hg'
         rw [<-hg',hsrc] at hcs';simp only [Al] at hcs';injection hcs' with hcs'
         subst hcs';have hFF:F'=φ pn:=funext fun k=>propext (Rep.det hrep' hrep₂ k)
         subst hFF;refine hcall.mono ?_;rintro e₁ w' ⟨rv,G',rfl,K,hG',hy,hpv⟩;obtain ⟨γ',φ',O',S'⟩:=S.redoR hr hsrc K hG' hy;exact hR _ _ _ _ _ _ _ S' (CW.one hpv.both) hk
 case h_3 t sh ps rs F t₀ n ss=>
  split at h
  case h_2=>cases h
  case h_1 hc=>
   simp only [Ajb,Bool.not_eq_true'] at hc;obtain ⟨hno,hrf,hlent⟩:=hc;split at h
   case h_2=>cases h
   case h_1 b d sh' hr=>
    split at h
    case h_2=>cases h
    case h_1 hd=>
     have hd:=of_decide_eq_true hd;subst hd;obtain ⟨e',h⟩:=As h;obtain ⟨dt,x⟩:=d;dsimp only at e';subst e';dsimp only at h
     match vs,hB with
     |[],hB=>exact hB.elim
     |v::vs,hB=>
      obtain ⟨az,hk,_,h2⟩:=DP S hfn ps ss vs (CO hno) hB.2 h;have hargs:=h2 hlent;split at hk
      case h_2=>cases hk
      case h_1 res hres=>
       obtain ⟨cs,F₁,hrep,hcs,hblk,hFφ,hblkφ,hφ,hclear⟩:=S.rootRep hr;have hv:C_ dt v cs:=DJ hB.1 (p:=⟨n,[]⟩) hr rfl (d' :=⟨dt,x⟩) rfl (src:=γ n) rfl hcs;refine ((IoOk.tk hI hrf).2 w O x v cs F₁ az vs res S.bound hv hrep hargs hres).mono ?_;rintro e₁ w' ⟨rv,rfl,K,hpv⟩;obtain ⟨O',S'⟩:=S.dropK (K.mono fun k _ hk=>⟨⟨_,hr⟩,hFφ k hk⟩);exact hR _ _ _ _ _ _ _ S' (CW.one hpv.both) hk
 case h_1 t ps rs F n ss=>
  split at h
  case h_2=>cases h
  case h_1 hc=>
   simp only [Ajb,Bool.not_eq_true'] at hc;obtain ⟨hno,hlent⟩:=hc;split at h
   case h_2=>cases h
   case h_1 d hr=>
    obtain ⟨e,h⟩:=As h;obtain ⟨dt,x⟩:=d;dsimp only at e;subst e;dsimp only at h
    match vs,hB with
    |[],hB=>exact hB.elim
    |v::vs,hB=>
     obtain ⟨az,hk,_,h2⟩:=DP S hfn ps ss vs (CO hno) hB.2 h;have hargs:=h2 hlent;split at hk
     case h_2=>cases hk
     case h_1 res hres=>
      obtain ⟨b,off,C,tid,fr,cs,F',hsrc,hb,hfz,hcs,hrep,hF',hOb,hU⟩:=S.roots n _ hr;have hlive:Da σ ⟨n,[]⟩:=⟨true,⟨_,x⟩,.z,⟨_,x⟩,hr,rfl,rfl⟩
      have hv:v = .pointer (some ⟨b,off,none⟩):=by
       have:=hB.1;generalize hs:(Slot.ptr ⟨n,[]⟩)=s at this;cases this with
       |ptr p t' b' off' hp=>
        injection hs with hs
        subst hs;obtain ⟨bx,d,sh,h1,h2,h3⟩:=hp;have:=h3 hlive;simp only [goto,hsrc] at this;injection this with this
        injection this with e1 e2
        injection e2 with e2 e3
        rw [e2,e3]
       |ptrH m' s b' off' h1 _=>
        injection hs with hs
        injection hs with hs
        subst hs;rw [hr] at h1;cases h1
       |_=>cases hs
      subst hv;refine (hI.2 w O b off x az vs res S.bound hOb ⟨C,tid,fr,cs,hb,hfz,hcs,Rep.freeze (fun _ _ h=>h) rfl (fun c h=>(hrep.free c h).elim) hrep⟩ hargs hres).mono ?_;rintro e w' ⟨rv,rfl,K,hio,hpv⟩;obtain ⟨γ',φ',O',S',hsub⟩:=S.redo hr hsrc K hio;exact hR _ _ _ _ _ _ _ S' (CW.one (hpv.both hsub)) hk
theorem Rep.toGone:∀ {t:Ty} {sh:Sh} {x:t.den} {cs:List Value} {F:Ab},Rep w O t sh x cs F->Rep w' O' t (Qw t) x cs Ab.none
 |.int _,_,_,_,_,h=>⟨h.1,fun _ h=>h⟩
 |.bool,_,_,_,_,h=>⟨h.1,fun _ h=>h⟩
 |.str,_,_,_,_,h=>⟨h.1,fun _ h=>h⟩
 |.unit,_,_,_,_,h=>⟨h.1,fun _ h=>h⟩
 |.pair _ _,_,_,_,_,⟨c₁,c₂,_,_,hc,h1,h2,_,_⟩=>⟨c₁,c₂,Ab.none,Ab.none,hc,h1.toGone,h2.toGone,fun _=>by simp [Ab.none],fun _ h=>h.1⟩
 |.slice e,sh,x,cs,F,h=>by
  refine ⟨?_,fun _ h=>h⟩;cases sh with
  |own s=>
   rcases h with ⟨h,_⟩ | ⟨_,_,_,_,_,_,_,h,_⟩
   ·exact ⟨_,h⟩
   ·exact ⟨_,h⟩
  |gone=>exact h.1
  |z=>obtain ⟨_,_,_,h,_⟩:=h;exact ⟨_,h⟩
  |pr _ _=>obtain ⟨_,_,_,h,_⟩:=h;exact ⟨_,h⟩
theorem cU (S:Sim P env w₀ O₀ W σ γ φ O a w) (hfn:env.FnOk P) {g:FuncId} {fu:Av} (hI:IoOk P g fu) {ss:List Slot} {vs:List Value} (hB:CW P w O σ γ ss vs)
  {k:Slot->St->Option α} {r:α} (h:Un env σ fu ss k=some r) {R:Ending->World->Prop}
  (hR:∀ s v σ' γ' φ' O' w',Sim P env w₀ O₀ W σ' γ' φ' O' a w' ->Ak P w' O' σ' γ' s v->k s σ'=some r->R (.returned v) w'):Calls P g vs.toArray w R:=by
 unfold Un at h;split at h
 case h_2=>cases h
 case h_1 t sh ps rs F t₀ p ss=>
  split at h
  case h_2=>cases h
  case h_1 hc=>
   simp only [Ajb,Bool.not_eq_true'] at hc;obtain ⟨hno,hrf,hlent⟩:=hc;split at h
   case h_2=>cases h
   case h_1 b d shr hr=>
    split at h
    case h_2=>cases h
    case h_1 hd=>
     obtain ⟨hok,hsh,hbv⟩:=of_decide_eq_true hd;obtain ⟨d',hget,h⟩:=Ed h;obtain ⟨e',h⟩:=As h;obtain ⟨dt,x⟩:=d';dsimp only at e';subst e';dsimp only at h
     match vs,hB with
     |[],hB=>exact hB.elim
     |v::vs,hB=>
      obtain ⟨az,hk,_,h2⟩:=DP S hfn ps ss vs (CO hno) hB.2 h;have hargs:=h2 hlent;split at hk
      case h_2=>cases hk
      case h_1 res hres=>
       obtain ⟨cs,F₁,hRr,hcs,hblk,hFφ,hblkφ,hφ,hclear⟩:=S.rootRep hr;obtain ⟨src',cs',F',hg',hcs',hrep',hF',hb',hin,hrng,hback⟩:=Rep.zip p.path hRr hcs hblk hok hget;rw [hsh] at hrep';have hv:C_ dt v cs' :=DJ hB.1 hr hok hget hg' hcs';obtain ⟨x',hset,hk⟩:=BE hk;split at hk
       case h_2=>cases hk
       case h_1 sh'' hsh'' =>
        have hmem:∃ b' off',src' = .mem b' off' :=by
         refine Iz p.path ?_ hg';rcases (Ajc _ _).mp hbv with hb | hv
         ·subst hb;obtain ⟨b',off',_,_,_,_,_,hsrc,_⟩:=S.roots _ _ hr;exact .inr ⟨b',off',hsrc⟩
         ·exact .inl hv
        obtain ⟨b',off',rfl⟩:=hmem;obtain ⟨C,tid,fr,hbC,hle,_⟩:=Bs hcs';refine ((IoOk.tk hI hrf).2 w O x v cs' F' az vs res S.bound hv hrep' hargs hres).mono ?_;rintro e₁ w' ⟨rv,rfl,K,hpv⟩;have hsame:w'.heap[b']? = w.heap[b']?:=K.block b' (Array.getElem?_eq_some_iff.1 hbC).1 (hb' b' rfl).1
        obtain ⟨φ',O',S'⟩:=(S.congrO (O₁:=fun c=>O₀ c\/Ab.none c) fun c=>⟨fun h=>h.resolve_right fun h=>h,.inl⟩).writeG (O₁:=Ab.none) (d' :=⟨dt,x⟩) (shy:=Qw dt) (cy:=cs') (G:=Ab.none) hr hok hget hg' hcs' (by rw [hsh];exact hrep')
         ⟨K.size,fun k hk _ hn=>K.block k hk hn,fun C tid fr h=>⟨C,hsame.trans h,rfl,fun _ _=>rfl⟩⟩
         ((Ci (by rintro k rfl;exact hsame)).trans hcs') (K.mono fun k _ hk=>.inr hk) (fun k hk=>hk.elim) (fun _ h=>h.elim) (fun _ h=>h.elim)
         (fun O' hle hG=>hrep'.toGone) hset hsh''
        exact hR _ _ _ _ _ _ _ S' (CW.one hpv.both) hk
theorem cW (S:Sim P env w₀ O₀ W σ γ φ O a w) (hfn:env.FnOk P) {o:Oper} {c:Call} (ho:o.op = .call c) {f:Operand} (hc:c.callee = .value f) {fu:Av} (hfu:SH env σ f=some fu)
  {k:Slot->St->Option α} {r:α} (h:KI env σ (AD o) fu c.args.toList k=some r)
  {next:Act->World->Prop} {Q:Exit->Act->World->Prop}
  (hnext:∀ s v σ' γ' φ' O' w',Sim P env w₀ O₀ W σ' γ' φ' O' a w' ->Ak P w' O' σ' γ' s v->k s σ'=some r->next (a.put o.dst v) w') :
  o.upon P a next Q ((execOp a.eval o).run P w):=by
 unfold SH at hfu;have hs:=S.val f;split at hfu
 case h_2=>cases hfu
 case h_1 g hv=>
  rw [hv] at hs;generalize hvv:a.eval f=v at hs;split at hfu
  case h_2=>cases hfu
  case h_1 fu' hF=>
   have done:fu'.quiet=false->fu'.fresh=false->fu'=fu->o.upon P a next Q ((execOp a.eval o).run P w):=by
    intro hq hfr hfu;subst hfu;have hI:=(hfn.1 g fu' hF).2.1 hq hfr;cases hs with
    |clo _ _ vs hl hall=>
     have hvs:vs = #[]:=Array.eq_empty_of_size_eq_zero hl;subst hvs
     have hfd : ∃ fn, P.funcs[g]? = some fn /\ fn.body.isSome = true /\ fn.name ≠ "runtime.NumGoroutine" := by
      unfold IoOk at hI;split at hI
      ·exact hI.1
      ·exact hI.1
      ·exact hI.1
      ·exact hI.1
      ·exact hI.elim
     rw [JT ho hc hvv hfd w,Oper.upon_enter];have hB:=S.vals c.args.toList
     have e:(c.args.map a.eval ++ #[])=(c.args.toList.map a.eval).toArray:=by
      apply Array.ext';simp
     rw [e];unfold KI at h;split at h
     ·exact cR S hfn hI (Ee o) h hnext
     ·split at h
      ·exact cS S hfn hI h hnext
      ·split at h
       ·exact cU S hfn hI hB h hnext
       ·exact cT S hfn hI hB h hnext
   split at hfu
   case h_3=>cases hfu
   case h_1 t sh ps hps=>
    injection hfu with hfu
    exact done (by unfold Av.quiet;rw [hps];rfl) (by unfold Av.fresh;rw [hps];rfl) hfu
   case h_2 t sh ps hps=>
    injection hfu with hfu
    exact done (by unfold Av.quiet;rw [hps];exact Bool.and_false _) (by unfold Av.fresh;rw [hps];exact Bool.and_false _) hfu
end Go.V
namespace Go.V
set_option linter.unusedVariables false
variable {α:Type}
variable {P:Program} {env:Bf} {w₀ w w':World} {O₀ O₁ W O O':Ab} {σ σ₀ σ' σ₁:St} {γ γ':Name->Src} {φ φ':Name->Ab} {a a':Act} {n:Name}
theorem MA {e:Ty}:∀ {xs:List e.den} {cs:List Value} {F:Ab},Els (Rep w O e .z) xs cs F->∀ b,¬F b
 |[],_,_,h=>h.2
 |x::xs,_,_,⟨_,_,F₁,F₂,_,h1,h2,hU,_⟩=>fun b hb=>((hU b).1 hb).elim (h1.free b) (MA h2 b)
theorem cX (e:Ty) (l:List e.den) (lo:Nat):HG e l lo lo=l:=by simp [HG]
theorem fe (e:Ty) (l:List e.den) {lo hi:Nat} (h1:lo<=hi) (h2:hi<=l.length):(HG e l lo hi).length=l.length:=by simp [HG];omega
theorem Zn (c:List Value) (n:Nat):(Builtin.zeroCells c.toArray n).toList=(List.replicate n c).flatten:=by
 have:=Th c (Nat.le_refl n);rw [List.take_of_length_le (by simp [madeCells])] at this;rw [<-this];apply List.ext_getElem?;intro i;simp only [Builtin.zeroCells,madeCells,Array.toList_map,Array.toList_range,List.getElem?_map,List.size_toArray]
theorem ff (S:Sim P env w₀ O₀ W σ γ φ O a w) (hty:env.TyOk P) {o:Oper} {c:Call} (ho:o.op = .call c) (hc:c.callee = .builtin .clear)
  {k:Slot->St->Option α} {r:α} (h:Cj env σ o k=some r):HM P env w₀ O₀ W a w (execOp a.eval o) k r:=by
 unfold Cj at h;rw [ho] at h;dsimp only at h;rw [hc] at h;dsimp only at h;split at h
 case h_2=>cases h
 case h_1 x t hargs htys=>
  split at h
  case h_2=>cases h
  case h_1 e e' n lo hi ht hvx=>
   split at h
   case h_2=>cases h
   case h_1 d hr=>
    split at h
    case h_2=>cases h
    case h_1 hf=>
     obtain ⟨et,h⟩:=As h;obtain ⟨dt,l⟩:=d;dsimp only at et;subst et;dsimp only at h;obtain ⟨l,rfl⟩:∃ l':List e.den,l'=l:=⟨l,rfl⟩;have hsl:=S.val x;rw [hvx] at hsl;obtain ⟨⟨j,hu,_,ie,hie,hies,hby,z,cz,hz,hvalz,hrepz⟩,_⟩:=hty.1 _ _ ht;obtain ⟨cs,hγ,hrep⟩:=S.roots n _ hr;have hlive:Da σ ⟨n,[]⟩:=⟨false,⟨.slice e,l⟩,.own .z,⟨.slice e,l⟩,hr,rfl,rfl⟩;have hne:e.ownAll≠.gone:=Sh.whole_gone (Ty.whole_ownAll e);have hzc:z.cells=cz.toArray:=hvalz.cells fun ha=>(hrepz w O).notAgg hne hvalz ha
     have hczl:cz.length=e.size:=(hrepz w O).len;have hzv:∀ w,(zeroValue j).run P w = .ok z w:=fun w=>by simp [zeroValue,typeInfo,hie,hz]
     obtain ⟨consts,hcall⟩:=Cr (a:=a) (w:=w) (P:=P) ho hc;have e1:c.args.map a.eval = #[a.eval x]:=by apply Array.ext';simp [hargs]
     have e2:c.argTypes = #[t]:=by apply Array.ext';simp [htys]
     generalize a.eval x=v at hsl e1
     have hop:∀ w',(Builtin.clear_ #[t] o.type #[v]).run P w = .ok (.tuple #[]) w' ->(execOp a.eval o).run P w = .ok (.value (.tuple #[])) w' :=by
      intro w' hw;rw [hcall];unfold builtin;dsimp only;rw [e1,e2];simp only [Sem.run_bind,Sem.run_pure,hw,Result.andThen_ok]
     have hp:Bz w σ γ ⟨n,[]⟩ (.slice e) (γ n):=⟨false,_,_,hr,rfl,fun _=>rfl⟩
     have fin:∀ (vv:Value) (w':World) (G:Ab),cs=[vv]->AF (φ n) w w' ->(∀ b,G b->φ n b\/w.heap.size<=b)->Rep w' (fun b=>(O b/\¬φ n b)\/G b) (.slice e) (.own .z) (HG e l lo hi) [vv] G->
       (Builtin.clear_ #[t] o.type #[v]).run P w = .ok (.tuple #[]) w' ->HM P env w₀ O₀ W a w (execOp a.eval o) k r:=by
      intro vv w' G hcs K hG hy hw;obtain ⟨γ',φ',O',S'⟩:=S.redoR hr (by rw [hγ,hcs]) K hG hy;exact ⟨_,_,_,γ',φ',O',w',.inl (hop w' hw),S',.undef _,h⟩
     cases hsl with
     |vw _ _ _ _ src an m cp hp' hl h1 h2=>
      obtain ⟨bx,d',sh',hr',htp,hg⟩:=hp';rw [hr] at hr';injection hr' with hr'
      injection hr' with _ e2' _
      subst e2';have hg:=hg hlive;simp only [goto] at hg;injection hg with hg
      injection hg with e3 e4
      have hcs:=hl hlive;rw [<-e4,hγ] at hcs;simp only [Al] at hcs;injection hcs with hcs
      subst hcs
      have hm:m=l.length:=by
       rcases hrep with ⟨e5,e6,_⟩ | ⟨_,_,_,_,_,_,_,e5,_⟩
       ·injection e5 with e5 _;injection e5 with _ e5 _;rw [e5,show l=[] from e6];rfl
       ·injection e5 with e5 _;injection e5 with _ e5 _
      have same:hi=lo->HM P env w₀ O₀ W a w (execOp a.eval o) k r:=by
       intro e5;subst e5;refine fin _ w (φ n) rfl (AF.refl _ _) (fun b hb=>.inl hb) (by rw [cX];exact Rep.frame (Nat.le_refl _) (fun _ _ _=>rfl) (fun _ _=>rfl) (fun b _ hn hb=>hb.elim (fun h=>hn h.1) fun h=>hn (hrep.owned b h).1) (fun b hb _=>.inr hb) hrep) ?_;rw [Nat.sub_self];unfold Builtin.clear_;cases (if cp=hi then an else an.map (·.add (hi*e'.size)))<;>simp [run_underlying hu]
      by_cases h5:hi=lo
      ·exact same h5
      have e3':e=e' :=by injection e3
      subst e3';rcases hrep with ⟨e5,e6,_⟩ | ⟨b,off,cap,C,tid,fr,F',e5,hcap,hb,hfr,hsz,hel,hU,hnb,hOb⟩
      ·have:l=[]:=e6;rw [this] at hm;simp at hm;omega
      ·injection e5 with e5 _
       injection e5 with e6 e7 e8
       subst e6 e8;have hcap:l.length<=cp:=hcap;have hel:Els (Rep w O e .z) l ((C.toList.drop off).take (l.length*e.size)) F' :=hel;have hF':∀ b,¬F' b:=MA hel;have hle:hi<=l.length:=by omega
       obtain ⟨zs,hzs⟩:∃ zs,(List.replicate (hi-lo) cz).flatten=zs:=⟨_,rfl⟩;have hzl:zs.length=(hi-lo)*e.size:=by rw [<-hzs];simp [hczl]
       have m1:=Nat.mul_le_mul_right e.size hcap;have m2:=Nat.mul_le_mul_right e.size hle;have m3:lo*e.size+(hi-lo)*e.size=hi*e.size:=by rw [<-Nat.add_mul];congr 1;omega
       obtain ⟨C',g3,g4,g5⟩:=GS zs (off+lo*e.size) w C hb (by omega);obtain ⟨_,_,K⟩:=JU zs (off+lo*e.size) w C hb (by omega) Ab.none;have hz0:Rep w O e .z e.zero cz Ab.none:=(hrepz w O).flat hf;have hφ:∀ k,φ n k↔k=b:=fun k=>(hU k).trans ⟨fun h=>h.resolve_right (hF' k),.inl⟩
       refine fin _ (w.setCells b (off+lo*e.size) zs) (φ n) rfl (K.mono fun k _ h=>(hφ k).2 h) (fun b hb=>.inl hb) ?_ ?_
       ·have hwl:(HG e l lo hi).length=l.length:=fe e l h1 hle;refine .inr ⟨b,off,cp,C',tid,fr,Ab.none,?_,?_,g3,fun i hi=>hfr i (by omega),by omega,?_,fun k=>⟨fun h=>.inl ((hφ k).1 h),fun h=>(hφ k).2 (h.resolve_right id)⟩,id,.inr ((hφ b).2 rfl)⟩
        ·rw [show (Bu (HG e l lo hi)).length=l.length from hwl,hm]
        ·rw [show (Bu (HG e l lo hi)).length=l.length from hwl];exact hcap
        ·rw [show (Bu (HG e l lo hi)).length=l.length from hwl];have hR:=fun (x:e.den) (c:List Value) (F:Ab) (h:Rep w O e .z x c F)=>h.len
         have A:=Els.append (Els.append (Els.take (n:=lo) hR Rep.zN hel) (Ib hz0 (hi-lo)) fun _ h=>h.1) (Els.drop (n:=hi) hR Rep.zN hel) fun _ h=>h.2
         have A:=Els.flat (w' :=w.setCells b (off+lo*e.size) zs) hf (O' :=fun b=>(O b/\¬φ n b)\/φ n b) A;rw [hzs] at A
         have ec:(C'.toList.drop off).take (l.length*e.size)=(((C.toList.drop off).take (l.length*e.size)).take (lo*e.size)++zs)++((C.toList.drop off).take (l.length*e.size)).drop (hi*e.size):=by
          have hl1:(((C.toList.drop off).take (l.length*e.size)).take (lo*e.size)).length=lo*e.size:=by simp;omega
          apply List.ext_getElem?;intro i;by_cases hi1:i<l.length*e.size
          ·rw [List.getElem?_take_of_lt hi1,List.getElem?_drop,Array.getElem?_toList,g5];by_cases c1:i<lo*e.size
           ·rw [if_neg (by omega),List.getElem?_append_left (by rw [Ai9,hl1];omega),List.getElem?_append_left (by omega),List.getElem?_take_of_lt c1,List.getElem?_take_of_lt hi1,List.getElem?_drop,Array.getElem?_toList]
           ·by_cases c2:i<hi*e.size
            ·rw [if_pos (by omega),List.getElem?_append_left (by rw [Ai9,hl1];omega),List.getElem?_append_right (by omega),hl1];congr 1;omega
            ·rw [if_neg (by omega),List.getElem?_append_right (by rw [Ai9,hl1];omega),Ai9,hl1,List.getElem?_drop,List.getElem?_take_of_lt (by omega),List.getElem?_drop,Array.getElem?_toList];congr 1;omega
          ·rw [List.getElem?_take_eq_none (by omega),List.getElem?_eq_none];simp only [Ai9,hl1,hzl,List.length_drop,List.length_take,Array.length_toList];omega
         rw [ec];exact A
       ·have hone:∀ v∈zs,v.oneCell'=true:=by
         intro v hv;rw [<-hzs] at hv;obtain ⟨c,hc1,hc2⟩:=List.mem_flatten.1 hv;rw [List.eq_of_mem_replicate hc1] at hc2;exact Rep.ones rfl hz0 v hc2
        have hst:=run_storeCells_cells (P:=P) b (off+lo*e.size) zs 0 w (fun q hq=>by
          simp only [World.cell?,hb];rw [if_neg (by simp),Array.getElem?_eq_getElem (by omega)];rfl) (fun q hq=>by
          have:=hfr (off+lo*e.size+0+q) (by omega);simp only [World.frozen?,hb,Bool.and_eq_false_iff,decide_eq_false_iff_not];omega) hone
        rw [Nat.add_zero] at hst;have hzc':(Builtin.zeroCells z.cells (hi-lo)).toList=zs:=by rw [hzc,Zn,hzs]
        rw [if_neg (by omega)];obtain ⟨q,hq⟩:∃ q,hi-lo=q+1:=⟨hi-lo-1,by omega⟩;rw [hq] at hzc' ⊢;simp [Builtin.clear_,run_underlying hu,hzv,hzc',DU,hst]
end Go.V
namespace Go.V
variable {α:Type}
variable {b₀:Nat} {P:Program} {env:Bf} {w₀ w w':World} {O₀ O₁ W O O':Ab} {σ σ₀ σ' σ₁ σ₂:St} {γ γ':Name->Src} {φ φ':Name->Ab} {a a':Act} {n:Name}
theorem UH (hm:σ₁.mem=σ₂.mem) (o:Oper) (h:∀ x∈o.op.operands,σ₁.val x=σ₂.val x) (k:Name->Bi->AV->Option α):GG env σ₁ o k=GG env σ₂ o k:=by
 unfold GG;cases ho:o.op<;>try rfl
 rename_i t x y;rw [ho] at h;have hr:∀ n,σ₁.root n=σ₂.root n:=fun n=>by unfold St.root;rw [hm]
 dsimp only;rw [h x (by simp [Op.operands]),h y (by simp [Op.operands])];split
 ·rw [hr]
 ·rfl
theorem OP {o:Oper} {k:Name->Bi->AV->Option α} {r:α} (h:GG env σ o k=some r) :
  ∃ n q R,k n q R=some r/\GG env σ o (fun n q R=>some (n,q,R))=some (n,q,R)/\Cj env σ o (fun s σ' =>some (s,σ'))=some (Slot.undef,(σ.lose n q).put n R):=by
 unfold GG at h;split at h
 case h_2=>cases h
 case h_1 t x y ho=>
  split at h
  case h_2=>cases h
  case h_1 p dx hx hy=>
   split at h
   case h_2=>cases h
   case h_1 b d sh hr=>
    split at h
    case h_2=>cases h
    case h_1 t' ht=>
     split at h
     case h_2=>cases h
     case h_1 hc=>
      obtain ⟨e,h⟩:=As h;obtain ⟨dt,yx⟩:=dx;dsimp only at e;subst e;dsimp only at h;obtain ⟨x',hset,h⟩:=BE h;split at h
      case h_2=>cases h
      case h_1 sh' hsh=>
       refine ⟨p.name,p.path,_,h,?_,?_⟩
       ·unfold GG;rw [ho];dsimp only;rw [hx,hy];dsimp only;rw [hr];dsimp only;rw [ht];dsimp only;rw [hc];simp only [AI,dif_pos];rw [Bb,hset];simp only [Ai5];rw [hsh]
       unfold Cj;rw [ho];dsimp only;rw [hx];dsimp only;rw [hr];dsimp only;rw [ht];dsimp only;rw [hc];dsimp only;rw [hy];simp only [JN,Hf,AI,dif_pos];rw [hr];dsimp only;rw [Bb,hset];simp only [Ai5];rw [hsh]
def UI (o:Oper):Prop:=∀ t x,o.op≠.load t (.tmp x)
theorem QO {o:Oper} (hnl:UI o) (hf:Qy o=true) (ha:freeArgs σ₁ o=true) {ops:Array Oper} (h:∀ x,Operand.tmp x∈o.op.operands->σ₁.slot x=σ₂.slot x) (k:Slot->Option α):BM env ops o σ₁ k=BM env ops o σ₂ k:=by
 have hv:∀ y∈o.op.operands,σ₁.val y=σ₂.val y:=by
  intro y hy;cases y with
  |tmp x=>exact h x hy
  |const _=>rfl
  |func _=>rfl
  |global _=>rfl
 unfold Qy at hf;rw [Ajb] at hf;obtain ⟨hg,hf⟩:=hf;have hg:o.guard=none:=by cases e:o.guard with | none=>rfl | some _=>rw [e] at hg;cases hg
 unfold BM;rw [hg];dsimp only;unfold Bp
 have hb:∀ (x:Option Operand) (d:Int) (k:Int->Option α),(∀ y,x=some y->y∈o.op.operands)->bound σ₁ x d k=bound σ₂ x d k:=by
  intro x d k hx;unfold bound;cases x with
  |none=>rfl
  |some y=>dsimp only;rw [hv y (hx y rfl)]
 have ha:(o.op.operands.toList.all fun y=>match y with
  |.tmp t=>(σ₁.slot t).plain
  |_=>true)=true:=by
  unfold freeArgs at ha;split at ha
  ·rename_i t x e;exact (hnl t x e).elim
  ·exact ha
 cases ho:o.op<;>rw [ho] at hf hv hb ha<;>try (cases hf;done)
 case load t x=>
  cases x with
  |tmp x=>exact (hnl t x ho).elim
  |const _=>cases hf
  |func _=>cases hf
  |global _=>cases hf
 case move x=>exact congrArg k (hv x (by simp [Op.operands]))
 case assign x=>exact congrArg k (hv x (by simp [Op.operands]))
 case pick c x y=>
  simp only [AA];rw [hv c (by simp [Op.operands]),hv x (by simp [Op.operands]),hv y (by simp [Op.operands])]
 case binOp op t x y ty=>
  have key:∀ (t:Ty) (k':t.den->Option α),Ep σ₁ t (σ₁.val x) k'=Ep σ₂ t (σ₁.val x) k' :=by
   intro t k';cases x with
   |tmp i=>
    rw [List.all_eq_true] at ha;have:=ha (.tmp i) (by simp [Op.operands]);dsimp only at this;show Ep σ₁ t (σ₁.slot i) k'=Ep σ₂ t (σ₁.slot i) k';cases hs:σ₁.slot i<;>rw [hs] at this<;>first | rfl | cases this
   |const v=>
    show Ep σ₁ t (DO v) k'=Ep σ₂ t (DO v) k';unfold DO;split<;>rfl
   |func _=>rfl
   |global _=>rfl
  simp only [AA];rw [<-hv x (by simp [Op.operands]),<-hv y (by simp [Op.operands])];unfold WI;split
  ·split
   ·exact key _ _
   ·rfl
  ·rfl
 case unOp op t x=>
  simp only [AA];rw [hv x (by simp [Op.operands])]
 case extract x i=>
  simp only [AA];rw [hv x (by simp [Op.operands])]
 case slice t x lo hi mx=>
  cases mx with
  |some _=>cases hf
  |none=>
   have hlo:∀ (d:Int) (k:Int->Option α),bound σ₁ lo d k=bound σ₂ lo d k:=fun d k=>hb lo d k fun y hy=>by subst hy;simp [Op.operands]
   have hhi:∀ (d:Int) (k:Int->Option α),bound σ₁ hi d k=bound σ₂ hi d k:=fun d k=>hb hi d k fun y hy=>by subst hy;simp [Op.operands]
   have hx:=hv x (by simp [Op.operands])
   have hnr:∀ t p,σ₁.val x≠.ref t p:=by
    intro t p hh;cases x with
    |tmp i=>
     rw [List.all_eq_true] at ha;have:=ha (.tmp i) (by simp [Op.operands]);have hh:σ₁.slot i = .ref t p:=hh;dsimp only at this;rw [hh] at this;cases this
    |const v=>
     have hh:DO v = .ref t p:=hh;unfold DO at hh;split at hh<;>cases hh
    |func _=>cases hh
    |global _=>cases hh
   simp only [AA];rw [<-hx];split
   ·rw [hhi];congr 1;funext h;rw [hlo]
   ·refine congrArg _ (funext fun l=>?_);rw [hhi];congr 1;funext h;rw [hlo]
   ·rename_i hv';exact (hnr _ _ hv').elim
   ·rfl
inductive SF (ops:Array Oper):Nat->Nat->Prop where
 |edge (j:Nat) (o:Oper) (e:Edge):ops[j]? = some o->e∈o.after->(∀ md,Region.binds md e=true)->SF ops e.on j
 |trans (i k j:Nat):SF ops i k->SF ops k j->SF ops i j
theorem SF.done {ops:Array Oper} {L:Nat->Bool} {md:Region.Mode} (h:∀ (j:Nat) o,L j=true->ops[j]? = some o->∀ e∈o.after,Region.binds md e=true->L e.on=true) {i j:Nat} (a:SF ops i j):L j=true->L i=true:=by
 induction a with
 |edge j o e ho he hb=>exact fun hl=>h j o hl ho e he (hb md)
 |trans i k j _ _ ih1 ih2=>exact fun hl=>ih1 (ih2 hl)
structure jr (n:Nat) (ops:Array Oper) (m:Nat) (pd:Option (Nat×Nat×Ty)) (om:Oper):Prop where
 at_:ops[m]? = some om
 dstm:∀ d,om.dst=some d->d<n
 callm:om.dst=none\/∃ c,om.op = .call c
 guardm:om.guard=none
 dst:∀ (i:Nat) o,ops[i]? = some o->i≠m->∃ d,o.dst=some d/\d<n
 rank:∀ md,∃ rk:Nat->Nat,∀ (i:Nat) o,ops[i]? = some o->∀ e∈o.after,Region.binds md e=true->e.on<ops.size/\rk e.on<rk i
 one:∀ (i j:Nat) o o' d,ops[i]? = some o->ops[j]? = some o' ->o.dst=some d->o'.dst=some d->i=j
 edge:∀ (i j:Nat) o o' d,ops[i]? = some o->ops[j]? = some o' ->o'.dst=some d->d∈o.looksAt ops->(j<i/\∃ e∈o.after,e.on=j/\∀ md,Region.binds md e=true)\/(i<j/\∃ e∈o'.after,e.on=i/\∀ md,Region.binds md e=true)
 tie:∀ (i:Nat) o,ops[i]? = some o->i≠m->DM pd i=false->(i<m/\SF ops i m)\/(m<i/\∃ e∈o.after,e.on=m/\∀ md,Region.binds md e=true)\/(SI ops om m i o=false/\freeIn ops om o=true)
 pend:∀ j d t,pd=some (j,d,t)->j<m/\(∃ e∈om.after,e.on=j/\∀ md,Region.binds md e=true)/\om.dst=none
 free:∀ (i:Nat) o,ops[i]? = some o->i≠m->SI ops om m i o=false->∀ d,om.dst=some d->d∉o.looksAt ops
 away:∀ j d t,pd=some (j,d,t)->∀ (i:Nat) o,ops[i]? = some o->i≠m->i≠j->d∉o.looksAt ops/\∀ t n parts,o.op≠.buildSlice t n parts
theorem UJ {o:Oper} (h:Uq o=true):∀ t n parts,o.op≠.buildSlice t n parts:=by
 intro t n parts e;unfold Uq at h;rw [e] at h;cases h
theorem Cx {o:Oper} {j:Nat} (this:onEdge o j=true):∃ e∈o.after,e.on=j/\∀ md,Region.binds md e=true:=by
 unfold onEdge at this;rw [List.any_eq_true] at this;obtain ⟨e,he,h2⟩:=this;simp only [Ajb] at h2;refine ⟨e,by simpa using he,Nat.eq_of_beq_eq_true h2.1,fun md=>?_⟩;unfold Region.binds;cases hg:e.ground<;>rw [hg] at h2<;>simp at h2 ⊢
theorem Tl {ops:Array Oper} (hrank:(NR ops||rankOk ops)=true):∀ md,∃ rk:Nat->Nat,∀ (i:Nat) o,ops[i]? = some o->∀ e∈o.after,Region.binds md e=true->e.on<ops.size/\rk e.on<rk i:=by
 have mem:∀ (i:Nat) o,ops[i]? = some o->(o,i)∈ops.toList.zipIdx:=by
  intro i o ho;rw [List.mem_zipIdx_iff_getElem?,Array.getElem?_toList];exact ho
 intro md;rw [Ajc] at hrank;rcases hrank with hb | hb
 ·refine ⟨id,fun i o ho e he _=>?_⟩;unfold NR at hb;rw [List.all_eq_true] at hb;have h2:=hb (o,i) (mem i o ho);rw [List.all_eq_true] at h2;have h3:e.on<i:=by simpa using h2 e (by simpa using he)
  have:=(Array.getElem?_eq_some_iff.1 ho).1;exact ⟨by omega,h3⟩
 ·unfold rankOk at hb;dsimp only at hb;rw [List.all_eq_true] at hb
  have key:∀ (i:Nat) o,ops[i]? = some o->∀ e∈o.after,_:=fun i o ho e he=>by
   have h2:=hb (o,i) (mem i o ho);rw [List.all_eq_true] at h2;exact h2 e (by simpa using he)
  simp only [Ajb] at key;by_cases hmd:md = .gc
  ·refine ⟨eL (Region.linearise .gc ops 0),fun i o ho e he hbd=>?_⟩;obtain ⟨k1,k2,k3⟩:=key i o ho e he;refine ⟨by simpa using k1,?_⟩;subst hmd;unfold Region.binds at hbd;split at k3
   ·rename_i hg;rw [hg] at hbd;cases hbd
   ·simpa using k3
  ·refine ⟨id,fun i o ho e he hbd=>?_⟩;obtain ⟨k1,k2,k3⟩:=key i o ho e he;refine ⟨by simpa using k1,?_⟩;unfold Region.binds at hbd;split at k2
   ·rename_i hg;rw [hg] at hbd;exfalso;cases md<;>first | exact hmd rfl | cases hbd
   ·simpa using k2
theorem Hn {ops:Array Oper} {m:Nat}:∀ (k:Nat) (acc:List Nat),(∀ j∈acc,j=m\/SF ops j m)->∀ i∈GO ops k acc,i=m\/SF ops i m
 |0,acc,h=>h
 |k+1,acc,h=>by
  unfold GO;split
  ·rename_i hb;refine Hn k (k::acc) fun j hj=>?_
   rcases List.mem_cons.1 hj with rfl | hj
   ·obtain ⟨q,hq,he⟩:=List.any_eq_true.1 hb;split at he
    ·rename_i o ho;obtain ⟨e,hmem,hon,hbd⟩:=Cx he;have a:SF ops j q:=hon▸SF.edge q o e ho hmem hbd;rcases h q hq with rfl | h
     ·exact .inr a
     ·exact .inr (.trans _ _ _ a h)
    ·cases he
   ·exact h j hj
  ·exact Hn k acc h
theorem UK {n:Nat} {ops:Array Oper} {m:Nat} {pd:Option (Nat×Nat×Ty)} (h:PG n ops m pd=true):∃ om,jr n ops m pd om:=by
 unfold PG at h;rw [Ajb] at h;obtain ⟨hrank,h⟩:=h;split at h
 case h_1=>cases h
 case h_2 om hom=>
  rw [Ajb,Ajb,Ajb] at h;obtain ⟨hg,hd,hpd,h⟩:=h;rw [List.all_eq_true] at h
  have mem:∀ (i:Nat) o,ops[i]? = some o->(o,i)∈ops.toList.zipIdx:=by
   intro i o ho;rw [List.mem_zipIdx_iff_getElem?,Array.getElem?_toList];exact ho
  have all0:∀ (i:Nat) o,ops[i]? = some o->_:=fun i o ho=>h (o,i) (mem i o ho)
  have all:∀ (i:Nat) o,ops[i]? = some o->((Nat.beq i m||((match o.dst with | some d=>Nat.blt d n | none=>false)&&(DM pd i||(SI ops om m i o||freeIn ops om o))))=true)/\
    Zc pd ops m i o=true/\
    ((ops.toList.zipIdx.all fun (o',j)=>match o'.dst with
    |some d=>(Nat.beq i j||(match o.dst with | some d' =>!Nat.beq d d' | none=>true))&&(!((o.looksAt ops).any fun x=>Nat.beq x d)||((Nat.blt j i&&onEdge o j)||(Nat.blt i j&&onEdge o' i)))
    |none=>true)=true):=by
   intro i o ho;have:=all0 i o ho;rw [Ajb,Ajb] at this;exact this
  clear all0
  have tiedOr:∀ (i:Nat) o,ops[i]? = some o->i≠m->(∃ d,o.dst=some d/\d<n)/\(DM pd i=true\/SI ops om m i o=true\/freeIn ops om o=true):=by
   intro i o ho hi;have:=(all i o ho).1;rw [Ajc] at this;rcases this with h | h
   ·exact (hi (Nat.eq_of_beq_eq_true h)).elim
   ·rw [Ajb,Ajc,Ajc] at h;refine ⟨?_,h.2⟩;cases hd:o.dst with
    |none=>rw [hd] at h;cases h.1
    |some d=>rw [hd] at h;exact ⟨d,rfl,by simpa using h.1⟩
  have look:∀ {o:Oper} {d:Nat},((!((o.looksAt ops).any fun x=>Nat.beq x d))=true)->d∉o.looksAt ops:=by
   intro o d h hl
   have:((o.looksAt ops).any fun x=>Nat.beq x d)=true:=by
    rw [List.any_eq_true];exact ⟨d,hl,by simp⟩
   rw [this] at h;cases h
  refine ⟨om,hom,?_,?_,?_,fun i o ho hi=>(tiedOr i o ho hi).1,Tl hrank,?_,?_,?_,?_,?_,?_⟩
  ·intro d e;rw [e] at hd;dsimp only at hd;rw [Ajb] at hd;simpa using hd.1
  ·cases e:om.dst with
   |none=>exact .inl rfl
   |some d=>
    rw [e] at hd;dsimp only at hd;rw [Ajb] at hd;cases hc:om.op<;>rw [hc] at hd<;>first | (cases hd.2;done) | exact .inr ⟨_,rfl⟩
  ·cases e:om.guard with | none=>rfl | some _=>rw [e] at hg;cases hg
  ·intro i j o o' d ho ho' hd hd';have:=(all i o ho).2.2;rw [List.all_eq_true] at this;have:=this (o',j) (mem j o' ho');dsimp only at this;rw [hd',hd] at this;simp only [Ajb,Ajc] at this;rcases this.1 with h | h
   ·exact Nat.eq_of_beq_eq_true h
   ·simp at h
  ·intro i j o o' d ho ho' hd hl;have:=(all i o ho).2.2;rw [List.all_eq_true] at this;have:=this (o',j) (mem j o' ho');dsimp only at this;rw [hd] at this;simp only [Ajb,Ajc] at this;rcases this.2 with h | h
   ·exact (look h hl).elim
   ·rcases h with h | h
    ·exact .inl ⟨by simpa using h.1,Cx h.2⟩
    ·exact .inr ⟨by simpa using h.1,Cx h.2⟩
  ·intro i o ho hi hnp;cases ht:SI ops om m i o with
   |true=>
    unfold SI at ht;simp only [Ajc,Ajb] at ht;rcases ht with (h | h) | h
    ·obtain ⟨e,he,hon,hb⟩:=Cx h.2;exact .inl ⟨by simpa using h.1,hon▸SF.edge m om e hom he hb⟩
    ·exact .inr (.inl ⟨by simpa using h.1,Cx h.2⟩)
    ·have hlt:i<m:=by simpa using h.1
     obtain ⟨j,hj,he⟩:=List.any_eq_true.1 h.2;obtain rfl:=Nat.eq_of_beq_eq_true he;rcases Hn m [m] (fun j hj=>.inl (List.mem_singleton.1 hj)) i hj with e | a
     ·omega
     ·exact .inl ⟨hlt,a⟩
   |false=>
    rcases (tiedOr i o ho hi).2 with h | h | h
    ·rw [hnp] at h;cases h
    ·rw [ht] at h;cases h
    ·exact .inr (.inr ⟨rfl,h⟩)
  ·rintro j d t rfl;simp only [Ajb] at hpd;refine ⟨by simpa using hpd.1,Cx hpd.2.1,?_⟩;cases e:om.dst with | none=>rfl | some _=>rw [e] at hpd;cases hpd.2.2
  ·intro i o ho hi ht d hd hl;have:=(all i o ho).2.2;rw [List.all_eq_true] at this;have:=this (om,m) (mem m om hom);dsimp only at this;rw [hd] at this;rw [Ajb] at this;have h2:=this.2;rw [Ajc] at h2;rcases h2 with h | h
   ·exact look h hl
   ·unfold SI at ht;rw [Bool.or_eq_false_iff] at ht;rw [Bool.or_comm,ht.1] at h;cases h
  ·rintro j d t rfl i o ho hi hj;have:=(all i o ho).2.1;unfold Zc at this;dsimp only at this;rw [Ajc,Ajc,Ajb] at this;rcases this with h | h | h
   ·exact (hi (Nat.eq_of_beq_eq_true h)).elim
   ·exact (hj (Nat.eq_of_beq_eq_true h)).elim
   ·exact ⟨look h.1,UJ h.2⟩
theorem QP (hm:σ₁.mem=σ₂.mem) (h:∀ x,σ₁.slot x=σ₂.slot x) (o:Oper):freeArgs σ₁ o=freeArgs σ₂ o:=by
 have hr:∀ n,σ₁.root n=σ₂.root n:=fun n=>by unfold St.root;rw [hm]
 unfold freeArgs;split
 ·rename_i t x e;rw [h x];split
  ·rfl
  ·simp only [hr]
  ·rfl
 ·congr 1;funext y;cases y with
  |tmp x=>simp only [h x]
  |_=>rfl
def ny (env:Bf) (ops:Array Oper) (sk fr:Nat->Bool) (bad:Slot->Bool) (k:St->Option α) (r:α) (c i:Nat) (σ:St):Prop:=
  ∃ (sl:Nat->Slot) (σs:Nat->St) (τ':St),σs i=σ/\(∀ j,i<=j->j<i+c->∃ o d,ops[j]? = some o/\o.dst=some d/\(sk j=true->sl j = .undef)/\(sk j=false->BM env ops o (σs j) some=some (sl j))/\σs (j+1)=(σs j).set d (sl j)/\
    (sk j=false->fr j=true->freeArgs (σs j) o=true)/\(fr j=true->bad (sl j)=false))/\
   k τ'=some r/\τ'.mem=(σs (i+c)).mem/\∀ x,τ'.slot x=(σs (i+c)).slot x
theorem N_ {ops:Array Oper} {sk fr:Nat->Bool} {bad:Slot->Bool} (hbad:bad .undef=false) {k:St->Option α} {r:α}:∀ (c i:Nat) (τ σ:St),τ.mem=σ.mem->(∀ x,τ.slot x=σ.slot x)->segK env ops sk fr bad (List.range' i c) τ k=some r->
  ny env ops sk fr bad k r c i σ
 |0,i,τ,σ,hm,hs,h=>⟨fun _=>.undef,fun _=>σ,τ,rfl,fun j h1 h2=>by omega,h,hm,hs⟩
 |c+1,i,τ,σ,hm,hsl,h=>by
  rw [List.range'_succ] at h;unfold segK at h
  have glue:∀ (o:Oper) (d:Nat) (s:Slot) (τ₁:St),ops[i]? = some o->o.dst=some d->τ₁.mem=τ.mem->(∀ x,τ₁.slot x=τ.slot x)->(sk i=true->s = .undef)->(sk i=false->BM env ops o σ some=some s)->
    (sk i=false->fr i=true->freeArgs σ o=true)->(fr i=true->bad s=false)->segK env ops sk fr bad (List.range' (i+1) c) (τ₁.set d s) k=some r->ny env ops sk fr bad k r (c+1) i σ:=by
   intro o d s τ₁ ho hd hm₁ hs₁ g1 g2 g3 g4 h;obtain ⟨sl,σs,τ',h1,h2,h3,h4,h5⟩:=N_ hbad c (i+1) (τ₁.set d s) (σ.set d s) (hm₁.trans hm) (fun x=>by rw [St.slot_set,St.slot_set,hs₁,hsl]) h;have hic:i+(c+1)=i+1+c:=by omega
   refine ⟨fun j=>if j=i then s else sl j,fun j=>if j=i then σ else σs j,τ',by simp,fun j hj1 hj2=>?_,h3,?_,?_⟩
   ·by_cases hj:j=i
    ·subst hj;refine ⟨o,d,ho,hd,by simpa using g1,by simpa using g2,?_,by simpa using g3,by simpa using g4⟩;simp only [if_true,if_neg (show ¬(j+1=j) by omega)];exact h1
    ·obtain ⟨o',d',q1,q2,q3,q4,q5,q6,q7⟩:=h2 j (by omega) (by omega);refine ⟨o',d',q1,q2,?_,?_,?_,?_,?_⟩
     ·simp only [if_neg hj];exact q3
     ·simp only [if_neg hj];exact q4
     ·simp only [if_neg hj,if_neg (show ¬(j+1=i) by omega)];exact q5
     ·simp only [if_neg hj];exact q6
     ·simp only [if_neg hj];exact q7
   ·dsimp only;rw [if_neg (by omega),hic];exact h4
   ·dsimp only;rw [if_neg (by omega),hic];exact h5
  cases ho:ops[i]? with
  |none=>rw [ho] at h;cases h
  |some o=>
   rw [ho] at h;dsimp only at h;split at h
   case h_1 hsk=>
    cases hd:o.dst with
    |none=>rw [hd] at h;cases h
    |some d=>
     rw [hd] at h;exact glue o d .undef τ ho hd rfl (fun _=>rfl) (fun _=>rfl) (fun e=>by rw [hsk] at e;cases e) (fun e=>by rw [hsk] at e;cases e) (fun _=>hbad) h
   case h_2 hsk=>
    split at h
    case h_2=>cases h
    case h_1 hfr=>
     obtain ⟨s,τ₁,hs,h,hm₁,hs₁⟩:=JX h;split at h
     case h_2=>cases h
     case h_1 hb=>
      cases hd:o.dst with
      |none=>rw [hd] at h;cases h
      |some d=>
       rw [hd] at h;refine glue o d s τ₁ ho hd hm₁ hs₁ (fun e=>by rw [hsk] at e;cases e) (fun _=>(CN hm.symm o (fun x _=>(hsl x).symm) some).trans hs) (fun _ hf=>?_) (fun hf=>by rw [hf] at hb;simpa using hb) h;rw [hf] at hfr;rw [<-QP hm hsl];simpa using hfr
theorem JY {o:Oper} (hnl:UI o) (h:freeArgs σ o=true) {x:Nat} (hx:Operand.tmp x∈o.op.operands):(σ.slot x).plain=true:=by
 unfold freeArgs at h;split at h
 ·rename_i t x e;exact (hnl t x e).elim
 ·rw [List.all_eq_true] at h;exact h (.tmp x) (by simpa using hx)
theorem Tm {o:Oper} {t:TypeId} {x:Nat} (ho:o.op = .load t (.tmp x)) (hg:o.guard=none) {ops:Array Oper} {n:Name} (hr:∀ p:CH,p.name≠n->∀ b d sh,σ₁.root p.name=some (.data b d sh)↔σ₂.root p.name=some (.data b d sh))
  (hx:σ₁.slot x=σ₂.slot x) (hb:(σ₁.slot x).men n=false) (ha:freeArgs σ₁ o=true\/freeArgs σ₂ o=true) (k:Slot->Option α):BM env ops o σ₁ k=BM env ops o σ₂ k:=by
 unfold BM;rw [hg];dsimp only;unfold Bp;rw [ho];dsimp only;have hv:∀ σ:St,σ.val (.tmp x)=σ.slot x:=fun _=>rfl
 simp only [AA,hv,<-hx];unfold freeArgs at ha;rw [ho] at ha;dsimp only at ha;rw [<-hx] at ha;cases hs:σ₁.slot x<;>rw [hs] at ha hb<;>try (rcases ha with ha | ha<;>cases ha;done)
 case ptr p=>
  have hpn:p.name≠n:=by
   intro e;simp only [Slot.men,e] at hb;simp at hb
  have hex:∃ b d sh,σ₁.root p.name=some (.data b d sh):=by
   rcases ha with ha | ha
   ·dsimp only at ha;split at ha
    ·rename_i b d sh h;exact ⟨b,d,sh,h⟩
    ·cases ha
   ·dsimp only at ha;split at ha
    ·rename_i b d sh h;exact ⟨b,d,sh,(hr p hpn b d sh).2 h⟩
    ·cases ha
  obtain ⟨b,d,sh,h1⟩:=hex;have h2:=(hr p hpn b d sh).1 h1;obtain ⟨pn,pp⟩:=p;dsimp only at h1 h2;cases pp<;>simp only [h1,h2]
def GN.spoil (E:GN) (s:Slot):Slot:=match E.bad s with | true=>.undef | false=>s
theorem QQ {n:Name}:∀ (l:List Slot),(l.all fun s=>match s with | .pv _=>true | _=>false)=true->Slot.menL n l=false
 |[],_=>rfl
 |s::l,h=>by
  rw [List.all_cons,Ajb] at h;unfold Slot.menL;rw [QQ l h.2];cases s<;>first | rfl | (cases h.1;done)
theorem QR {n:Name} {q:Bi}:∀ (l:List Slot),(l.all fun s=>match s with | .pv _=>true | _=>false)=true->Slot.hitL n q l=false
 |[],_=>rfl
 |s::l,h=>by
  rw [List.all_cons,Ajb] at h;unfold Slot.hitL;rw [QR l h.2];cases s<;>first | rfl | (cases h.1;done)
theorem GN.bad_plain (E:GN) {s:Slot} (h:s.plain=true):E.bad s=false:=by
 unfold Slot.plain at h;split at h
 ·cases E<;>rfl
 ·rename_i l;cases E with
  |put n q R=>exact QR l h
  |lay n R d s=>exact QQ l h
 ·cases h
theorem GN.spoil_plain (E:GN) {s:Slot} (h:s.plain=true):E.spoil s=s:=by unfold GN.spoil;rw [E.bad_plain h]
theorem GN.of_spoil (E:GN) {s:Slot} (h:(E.spoil s).plain=true):E.spoil s=s:=by
 unfold GN.spoil at h ⊢;split
 ·rename_i e;rw [e] at h;cases h
 ·rfl
theorem GN.spoil_of (E:GN) {s:Slot} (h:E.bad s=false):E.spoil s=s:=by unfold GN.spoil;rw [h]
theorem GN.bad_undef (E:GN):E.bad .undef=false:=by cases E<;>rfl
def GN.sets:GN->Option (Nat×Slot)
 |.put _ _ _=>none
 |.lay _ _ d s=>some (d,s)
theorem GN.mem_ap (E:GN) (h:σ₁.mem=σ₂.mem):(E.ap σ₁).mem=(E.ap σ₂).mem:=by
 cases E with
 |put n q R=>
  show (n,R)::Cp (σ₁.mem.map fun x=>(x.1,x.2.lose n q)) n=(n,R)::Cp (σ₂.mem.map fun x=>(x.1,x.2.lose n q)) n;rw [h]
 |lay n R d s=>
  show (n,R)::(Cp σ₁.mem n).map _=(n,R)::(Cp σ₂.mem n).map _;rw [h]
theorem GN.slot_ap (E:GN) (σ:St) (x:Nat):(E.ap σ).slot x=match E.sets with | some (d,s)=>if x=d then s else E.spoil (σ.slot x) | none=>E.spoil (σ.slot x):=by
 cases E with
 |put n q R=>
  show ((σ.lose n q).put n R).slot x=_;rw [St.slot_put,St.slot_lose];rfl
 |lay n R d s=>
  show ((σ.lay n R).set d s).slot x=_;rw [St.slot_set,St.slot_lay];rfl
theorem GN.slot_congr (E:GN) (h:∀ x,σ₁.slot x=σ₂.slot x) (x:Nat):(E.ap σ₁).slot x=(E.ap σ₂).slot x:=by rw [E.slot_ap,E.slot_ap,h]
theorem HP (hm:σ₁.mem=σ₂.mem):∀ (ps:List PM),Bh ps=[]->∀ (ss:List Slot) {β:Type} (k:Args ps->Option β),AP env σ₁ ps ss k=AP env σ₂ ps ss k:=by
 have cK:∀ (ps:List PM) (ss:List Slot) {β:Type} (k:Args ps->Option β),CC σ₁ ps ss k=CC σ₂ ps ss k:=fun ps ss _ k=>OO hm ps ss k
 obtain ⟨s₁,m₁⟩:=σ₁;obtain ⟨s₂,m₂⟩:=σ₂;dsimp only at hm;subst hm;intro ps;induction ps with
 |nil=>intro _ ss β k;cases ss<;>rfl
 |cons p ps ih=>
  intro hio ss β k;cases ss with
  |nil=>cases p<;>rfl
  |cons s ss=>
   cases p with
   |ro t=>exact congrArg (Ep ⟨s₂,m₁⟩ t s) (funext fun x=>ih hio ss _)
   |st g ts=>
    simp only [AP];split
    ·split
     ·exact OM (σ₁:=⟨s₁,m₁⟩) (σ₂:=⟨s₂,m₁⟩) rfl ts _ _ _ fun c=>ih hio ss _
     ·rfl
    ·rfl
   |rp t=>exact congrArg (By ⟨s₂,m₁⟩ t s) (funext fun x=>ih hio ss _)
   |fn u v=>
    have fK:∀ {β:Type} (k:(u.den->Option v.den)->Option β),Uk env ⟨s₁,m₁⟩ u v s k=Uk env ⟨s₂,m₁⟩ u v s k:=by
     intro β k;unfold Uk;split
     ·rfl
     ·split
      ·split
       ·exact cK _ _ _
       ·rfl
      ·rfl
     ·rfl
    exact (fK _).trans (congrArg (Uk env ⟨s₂,m₁⟩ u v s) (funext fun x=>ih hio ss _))
   |io t sh=>simp [Bh] at hio
   |tk t sh=>rfl
theorem Av.fresh_ios {f:Av} (h:f.fresh=true):Bh f.ps=[]:=by
 unfold Av.fresh at h;cases hi:Bh f.ps with
 |nil=>rfl
 |cons t l=>rw [hi] at h;simp at h
theorem MC (hm:σ₁.mem=σ₂.mem) (o:Oper) (h:∀ x∈o.op.operands,σ₁.val x=σ₂.val x) (k:AV->Slot->Option α):ET env σ₁ o k=ET env σ₂ o k:=by
 unfold ET;cases ho:o.op<;>try rfl
 rename_i c;rw [ho] at h;dsimp only;cases hc:c.callee<;>try rfl
 rename_i f;dsimp only;have hf:σ₁.val f=σ₂.val f:=h f (by simp [Op.operands,Call.operands,hc])
 have hargs:c.args.toList.map σ₁.val=c.args.toList.map σ₂.val:=List.map_congr_left fun x hx=>h x (by
  have:x∈c.args:=by simpa using hx
  simp [Op.operands,Call.operands,hc,this])
 rw [hf,hargs];split
 ·split
  ·rename_i fu _;split
   ·rename_i hq;have hio:=Av.fresh_ios hq;unfold Hg;split
    ·split
     ·rfl
     ·exact HP hm _ hio _ _
    ·split
     ·rfl
     ·exact HP hm _ hio _ _
    ·rfl
   ·rfl
  ·rfl
 ·rfl
theorem EL (o:Oper) (k:AV->Slot->Option α):ET env σ o k=(ET env σ o fun R s=>some (R,s)).bind fun p=>k p.1 p.2:=by
 unfold ET;split
 ·split
  ·split
   ·split
    ·split
     ·unfold Hg;split
      ·split
       ·rfl
       ·rw [Bg,Bg (β:=AV×Slot)];cases AP env σ _ _ some with
        |none=>rfl
        |some az=>
         simp only [Ai5];split<;>rfl
      ·split
       ·rfl
       ·rw [Bg,Bg (β:=AV×Slot)];cases AP env σ _ _ some with
        |none=>rfl
        |some az=>
         simp only [Ai5];split<;>rfl
      ·rfl
     ·rfl
    ·rfl
   ·rfl
  ·rfl
 ·rfl
theorem OQ (o:Oper) (k:Name->Bi->AV->Option α):GG env σ o k=(GG env σ o fun n q R=>some (n,q,R)).bind fun p=>k p.1 p.2.1 p.2.2:=by
 unfold GG;split
 ·split
  ·split
   ·split
    ·split
     ·unfold AI;split
      ·dsimp only;rw [Bb,Bb (α:=Name×Bi×AV)];cases BT _ _ _ _ some with
       |none=>rfl
       |some x=>
        simp only [Ai5];split<;>rfl
      ·rfl
     ·rfl
    ·rfl
   ·rfl
  ·rfl
 ·rfl
theorem QS (hm:σ₁.mem=σ₂.mem) (pd:Option (Nat×Nat×Ty)) (o:Oper) (h:∀ x∈o.op.operands,σ₁.val x=σ₂.val x) (k:GN->Option α):IW env σ₁ pd o k=IW env σ₂ pd o k:=by
 unfold IW;cases ho:o.op<;>try rfl
 ·rename_i t x y;dsimp only;cases pd with
  |none=>exact UH hm o h _
  |some p=>
   obtain ⟨i,d,t'⟩:=p;rw [ho] at h;dsimp only;rw [h y (by simp [Op.operands])]
 ·dsimp only;cases pd with
  |none=>
   cases o.dst with
   |none=>rfl
   |some d=>exact MC hm o h _
  |some p=>rfl
theorem cY {pd:Option (Nat×Nat×Ty)} {o:Oper} {k:GN->Option α} {r:α} (h:IW env σ pd o k=some r):∃ E,k E=some r/\IW env σ pd o some=some E:=by
 have key:IW env σ pd o k=(IW env σ pd o some).bind k:=by
  unfold IW;split
  ·split
   ·rw [OQ,OQ (α:=GN)];cases GG env σ o _<;>rfl
   ·split
    ·split<;>rfl
    ·rfl
  ·split
   ·rw [EL,EL (α:=GN)];cases ET env σ o _<;>rfl
   ·rfl
  ·rfl
 rw [key] at h;cases e:IW env σ pd o some with
 |none=>rw [e] at h;cases h
 |some E=>rw [e] at h;exact ⟨E,h,rfl⟩
structure Xa (w₀:World) (O₀ W:Ab) (t:Ty) (b:Nat) (w:World):Prop where
 new:w₀.heap.size<=b
 out:¬O₀ b
 at_:∃ C tid fr cs,w.heap[b]? = some (.cells C tid fr)/\(∀ i,i<C.size->¬(fr.1<=i/\i<fr.2))/\Al w t.size (.mem b 0)=some cs/\∀ w O,Rep w O t t.ownAll t.zero cs Ab.none
theorem Xa.grow {t:Ty} {b:Nat} (h:Xa w₀ O₀ W t b w) (K:AF Ab.none w w'):Xa w₀ O₀ W t b w' :=by
 obtain ⟨h1,h2,C,tid,fr,cs,h3,h4,h5,h6⟩:=h;have hb:∀ b,b<w.heap.size->w'.heap[b]? = w.heap[b]?:=fun b hb=>K.block b hb fun h=>h
 exact ⟨h1,h2,C,tid,fr,cs,(hb b (Array.getElem?_eq_some_iff.1 h3).1).trans h3,h4,Do hb h5,h6⟩
theorem Act.put_same {d:Nat} {v:Value} (h:a.tmps.getD d undef=v) (hd:d<a.tmps.size):a.put (some d) v=a:=by
 unfold Act.put;dsimp only
 have:a.tmps.setIfInBounds d v=a.tmps:=by
  apply Array.ext_getElem?;intro i;rw [Array.getElem?_setIfInBounds];split
  ·rename_i e;subst e;simp only [<-h,Array.getD_eq_getD_getElem?,Array.getElem?_eq_getElem hd,Option.getD_some]
  ·rfl
 rw [this]
theorem js (d:Nat):d*8≠4:=by
 have:∀ n:Nat,n*8≠4:=fun n=>by omega
 exact this d
theorem aM (S:Sim P env w₀ O₀ W σ γ φ O a w) (hty:env.TyOk P) {o:Oper} {t:TypeId} {t':Ty} (ho:o.op = .alloc t) (ht:env.ty t=some t') :
  ∃ b w',(execOp a.eval o).run P w = .ok (.value (.pointer (some ⟨b,0,none⟩))) w' /\Sim P env w₀ (fun c=>O₀ c\/c=b) W σ γ φ (fun c=>O c\/c=b) a w' /\Xa w₀ O₀ W t' b w' :=by
 obtain ⟨f,hf,hfs,hfb,z,cs,hz,hval,hrep⟩:=(hty.1 _ _ ht).2.2.2;have hex:execOp a.eval o=(do pure (.value (<-Instr.alloc t true (.tuple #[])))):=by unfold execOp;rw [ho]
 have hne:t'.ownAll≠.gone:=by cases t'<;>simp [Ty.ownAll];split<;>simp
 have hr:=hrep w O;have hlen:=hr.len;refine ⟨w.heap.size,{w with heap:=w.heap.push (.cells cs.toArray t)},?_,S.gain (AF.alloc w (.cells cs.toArray t)) (G:=fun c=>c=w.heap.size) (by rintro b rfl;simp),S.kept.size,fun h=>absurd (S.old _ h) (by simp),?_⟩
 ·rw [hex];simp only [Instr.alloc,zeroValue,typeInfo,Sem.run_bind,run_program,Result.andThen_ok,hf,Sem.run_pure,hz,Hk,hval.cells (fun ha=>hr.notAgg hne hval ha)]
 ·have hb:({w with heap:=w.heap.push (.cells cs.toArray t)}:World).heap[w.heap.size]? = some (.cells cs.toArray t (0,0)):=by simp
  refine ⟨cs.toArray,t,(0,0),cs,hb,fun i _=>by simp,?_,hrep⟩;rw [Cc hb (by simp [hlen])];simp only [List.drop_zero];exact congrArg some (List.take_of_length_le (Nat.le_of_eq hlen))
theorem fg (S:Sim P env w₀ (fun c=>O₀ c\/c=b₀) W σ γ φ O a w) {t:Ty} (h:Xa w₀ O₀ W t b₀ w) {d:Nat} (hd:d<env.n) (hv:a.tmps.getD d undef = .pointer (some ⟨b₀,0,none⟩)) :
  ∃ γ' φ' O',Sim P env w₀ O₀ W ((σ.lay (d*8) (.data true ⟨t,t.zero⟩ t.ownAll)).set d (.ptr ⟨d*8,[]⟩)) γ' φ' O' a w:=by
 obtain ⟨h1,h2,C,tid,fr,cs,h3,h4,h5,h6⟩:=h
 obtain ⟨γ',φ',O',S',A,hγ,hφ⟩:=S.lay (n:=d*8) (O₀:=O₀) (r:=.data true ⟨t,t.zero⟩ t.ownAll) (src:=.mem b₀ 0) (F:=fun b=>b=b₀) (AF.refl _ _) (fun _=>.inl)
  (by rintro b rfl;exact .inr (.inr ⟨.inr rfl,h2,.inl h1⟩))
  (fun O' γ' φ' A hγ hO=>⟨b₀,0,C,tid,fr,cs,Ab.none,rfl,h3,h4,h5,h6 _ _,fun h=>h,hO _ rfl,fun k=>by simp [Ab.none]⟩)
  (fun e=>(js d e).elim)
 have hs:Ak P w O' (σ.lay (d*8) (.data true ⟨t,t.zero⟩ t.ownAll)) γ' (.ptr ⟨d*8,[]⟩) (.pointer (some ⟨b₀,0,none⟩)):=by
  refine .ptr ⟨d*8,[]⟩ t b₀ 0 ⟨true,⟨t,t.zero⟩,t.ownAll,by rw [St.root_lay,if_pos rfl],rfl,fun _=>?_⟩;simp only [goto];rw [hγ]
 have S'' :=S'.set hd hs;rw [Act.put_same hv (by rw [S.size];exact hd)] at S'';exact ⟨γ',φ',O',S''⟩
theorem MD {n:Name} {q:Bi} {s:Slot} (h:s.men n=false):s.lose n q=s:=by
 have:∀ s:Slot,s.men n=false->s.hit n q=false:=by
  intro s;refine Slot.rec (motive_1:=fun s=>s.men n=false->s.hit n q=false) (motive_2:=fun l=>Slot.menL n l=false->Slot.hitL n q l=false) ?_ ?_ ?_ ?_ ?_ ?_ ?_ ?_ ?_ ?_ ?_ ?_ ?_ s
  ·intro _;rfl
  ·intro d _;rfl
  ·intro t p h;have h:Nat.beq p.name n=false:=h;show (match Nat.beq p.name n with | true=>LB p.path q | false=>false)=false
   rw [h]
  ·intro e p lo hi h;have h:Nat.beq p.name n=false:=h;show (match Nat.beq p.name n with | true=>LB p.path q | false=>false)=false
   rw [h]
  ·intro p h;have h:Nat.beq p.name n=false:=h;show (match Nat.beq p.name n with | true=>Qv p.path q | false=>false)=false
   rw [h]
  ·intro d _;rfl
  ·intro f l ih h;exact ih h
  ·intro a b φ _;rfl
  ·intro l ih h;exact ih h
  ·intro _;rfl
  ·intro e _;rfl
  ·intro _;rfl
  ·intro s l ih1 ih2 h;have h:(s.men n||Slot.menL n l)=false:=h;rw [Bool.or_eq_false_iff] at h;show (s.hit n q||Slot.hitL n q l)=false;rw [ih1 h.1,ih2 h.2];rfl
 unfold Slot.lose;rw [this s h]
theorem Xb (n:Name) (s:Slot):(s.kill n).men n=false:=by
 unfold Slot.kill;split
 ·rfl
 ·assumption
theorem nP (S:Sim P env w₀ O₀ W σ γ φ O a w) (hty:env.TyOk P) (hfn:env.FnOk P) {o:Oper} (hdst:∀ d,o.dst=some d->d<env.n) (hst:o.dst=none\/∃ c,o.op = .call c) {E:GN} (h:IW env σ none o some=some E)
  {next:Act->World->Prop} {Q:Exit->Act->World->Prop}
  (hnext:∀ γ' φ' O' a' w',Sim P env w₀ O₀ W (E.ap σ) γ' φ' O' a' w' ->next a' w'):o.wp P a w next Q:=by
 unfold IW at h;unfold Oper.wp;cases ho:o.op<;>rw [ho] at h<;>(try (cases h;done))<;>dsimp only at h
 ·rename_i t x y;obtain ⟨n,q,R,hk,_,hl⟩:=OP h;injection hk with hk
  subst hk;obtain ⟨s,v,σ'',γ'',φ'',O'',w'',hrun,S'',_,hk⟩:=QL S hty ho hl;injection hk with hk
  injection hk with e1 e2
  subst e1 e2
  have hd:o.dst=none:=by
   rcases hst with h | ⟨c,h⟩
   ·exact h
   ·rw [ho] at h;cases h
  have hput:∀ v,a.put o.dst v=a:=fun v=>by rw [hd];rfl
  rcases hrun with hrun | ⟨hrun,_⟩
  ·rw [hrun,Oper.upon_value,hput];exact hnext _ _ _ _ _ S''
  ·rw [hrun,Oper.upon_skip,hput];exact hnext _ _ _ _ _ S''
 ·cases hd:o.dst with
  |none=>rw [hd] at h;cases h
  |some d=>
   rw [hd] at h;dsimp only at h;refine WP S hfn h fun R s v γ' φ' O' w' S' hs hk=>?_
   injection hk with hk
   subst hk;have:=S'.set (hdst d hd) hs;rw [<-hd] at this;exact hnext _ _ _ _ _ this
theorem fh (S:Sim P env w₀ (fun c=>O₀ c\/c=b₀) W σ γ φ O a w) (hty:env.TyOk P) {t:Ty} (hp:Xa w₀ O₀ W t b₀ w) {i d:Nat} (hd:d<env.n) (hv:a.tmps.getD d undef = .pointer (some ⟨b₀,0,none⟩))
  (hund:σ.slot d = .undef) {o:Oper} (hdst:o.dst=none) {E:GN} (h:IW env σ (some (i,d,t)) o some=some E)
  {next:Act->World->Prop} {Q:Exit->Act->World->Prop}
  (hnext:∀ γ' φ' O' a' w',Sim P env w₀ O₀ W (E.ap σ) γ' φ' O' a' w' ->next a' w'):o.wp P a w next Q:=by
 obtain ⟨γ₁,φ₁,O₁,S₁⟩:=fg S hp hd hv;unfold IW at h;unfold Oper.wp;cases ho:o.op<;>rw [ho] at h<;>(try (cases h;done))<;>dsimp only at h
 rename_i ty x y;split at h
 case h_2=>cases h
 case h_1 x' dx hx=>
  split at h
  case h_2=>cases h
  case h_1 hc=>
   rw [Ajb] at hc;obtain ⟨hc1,hc2⟩:=hc;have hxd:=Nat.eq_of_beq_eq_true hc1;subst hxd;obtain ⟨hty',ht⟩:=of_decide_eq_true hc2;injection h with h
   subst h;obtain ⟨dt,dy⟩:=dx;dsimp only at ht;subst ht
   let σ₁:=(σ.lay (x'*8) (.data true ⟨dt,dt.zero⟩ dt.ownAll)).set x' (.ptr ⟨x'*8,[]⟩)
   have hvx:σ₁.val (.tmp x') = .ptr ⟨x'*8,[]⟩:=by
    show σ₁.slot x'=_;rw [St.slot_set,if_pos rfl]
   have hvy:σ₁.val y = .pv ⟨dt,dy⟩:=by
    cases y with
    |tmp j=>
     show σ₁.slot j=_;have hj:σ.slot j = .pv ⟨dt,dy⟩:=hx;rw [St.slot_set,St.slot_lay,hj];by_cases hjd:j=x'
     ·subst hjd;rw [hund] at hj;cases hj
     ·rw [if_neg hjd];rfl
    |const _=>exact hx
    |func _=>exact hx
    |global _=>exact hx
   have hroot:σ₁.root (x'*8)=some (.data true ⟨dt,dt.zero⟩ dt.ownAll):=by
    rw [St.root_set,St.root_lay,if_pos rfl]
   have hl:Cj env σ₁ o (fun s σ' =>some (s,σ'))=some (Slot.undef,(σ₁.lose (x'*8) []).put (x'*8) (.data true ⟨dt,dy⟩ .z)):=by
    unfold Cj;rw [ho];dsimp only;rw [hvx];dsimp only;rw [hroot];simp only [Gu,Be,and_true,hty',decide_true];rw [hvy];simp only [JN,Hf,AI,dif_pos,hroot,BT,BS]
   obtain ⟨s,v,σ'',γ'',φ'',O'',w'',hrun,S'',_,hk⟩:=QL S₁ hty ho hl;injection hk with hk
   injection hk with e1 e2
   subst e1 e2
   have S₂:Sim P env w₀ O₀ W (GN.ap (.lay (x'*8) (.data true ⟨dt,dy⟩ .z) x' (.ptr ⟨x'*8,[]⟩)) σ) γ'' φ'' O'' a w'' :=by
    refine S''.congr (fun m=>?_) (fun j=>?_)
    ·show ((σ.lay _ _).set _ _).root m=_;rw [St.root_set,St.root_lay,St.root_put,St.root_lose,St.root_set,St.root_lay];by_cases hm:m=x'*8
     ·rw [if_pos hm,if_pos hm]
     ·rw [if_neg hm,if_neg hm,if_neg hm];cases σ.root m with
      |none=>rfl
      |some R=>
       cases R with
       |data _ _ _=>rfl
       |held s=>simp only [Option.map_some,AV.kill,AV.lose];rw [MD (Xb _ s)]
    ·show ((σ.lay _ _).set _ _).slot j=_;rw [St.slot_set,St.slot_put,St.slot_lose,St.slot_set];by_cases hj:j=x'
     ·rw [if_pos hj,if_pos hj];show _=(match (match Nat.beq (x'*8) (x'*8) with | true=>Qv [] [] | false=>false) with | true=>Slot.undef | false=>_)
      rw [show Nat.beq (x'*8) (x'*8)=true from by simp];rfl
     ·rw [if_neg hj,if_neg hj,St.slot_lay,St.slot_lay,MD (Xb _ _)]
   have hput:∀ v,a.put o.dst v=a:=fun v=>by rw [hdst];rfl
   rcases hrun with hrun | ⟨hrun,_⟩
   ·rw [hrun,Oper.upon_value,hput];exact hnext _ _ _ _ _ S₂
   ·rw [hrun,Oper.upon_skip,hput];exact hnext _ _ _ _ _ S₂
end Go.V
