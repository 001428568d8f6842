/- What the functions compute, in plain words, and the laws. No condition. -/
import Derived.Test.YtaggmkdoelocbaaGreatDoorLa
namespace Go.V
set_option linter.unusedVariables false
set_option linter.unusedSimpArgs false
set_option maxRecDepth 100000
def atMost {α:Type} (n:Int) (l:List α):List α:=if n=0 then l else l.take n.toNat
def findM (q:TQuery) (docs:List TVal):List TVal:=(atMost q.2.2.2.1 ((sortM q.2.1 (docs.filter (matchM q.1))).drop q.2.2.1.toNat)).map (keepM q.2.2.2.2.1)
theorem queryM_facts {q:TQuery} (h:queryM q=true):filterM q.1=true∧q.2.1.length≤2∧partsM q.2.1=true∧0≤q.2.2.1∧q.2.2.1≤100∧0≤q.2.2.2.1∧q.2.2.2.1≤100∧q.2.2.2.2.1.length≤4:=by
 unfold queryM inR at h
 simp only [Bool.and_eq_true,decide_eq_true_eq] at h
 obtain ⟨h1,h2,h3,⟨h4,h5⟩,⟨h6,h7⟩,h8,_⟩:=h
 exact ⟨h1,by omega,h3,h4,h5,h6,h7,by omega⟩
theorem partsM_small {l:List TPart} (h:partsM l=true) (hl:l.length≤2):LS LPart 1048576 l:=
 ⟨by omega,fun p hp=>pathM_len (List.all_eq_true.1 h p hp)⟩
theorem Docs.filter {l:List TVal} (h:Docs l) (p:TVal→Bool):Docs (l.filter p):=h.sub (fun x hx=>(List.mem_filter.1 hx).1) (List.length_filter_le _ _)
theorem map_step {α β:Type} {l:List α} {x:α} {r:List α} (f:α→β) (out:List β) (h:l=x::r):out++l.map f=(out++[f x])++r.map f:=by
 subst h;simp
theorem specFinish_eq (q:TQuery) (docs:List TVal) (hq:queryM q=true) (hd:Docs docs):F67 q docs=some (findM q docs,()):=by
 obtain ⟨h1,h2,h3,h4,h5,h6,h7,h8⟩:=queryM_facts hq
 have hs:=partsM_small h3 h2
 have hF:=hd.filter (matchM q.1)
 have hS:=sortM_docs q.2.1 hF
 have hlen:=hd.len
 unfold F67 findM
 refine (iter_go (S:=List TVal) (fun i out=>(docs,(i:Int),q,out,())) (fun i out=>some ((atMost q.2.2.2.1 ((sortM q.2.1 (out++(docs.drop i).filter (matchM q.1))).drop q.2.2.1.toNat)).map (keepM q.2.2.2.2.1),())) docs.length (fun i out=>out=(docs.take i).filter (matchM q.1)) ?_ ?_ fuel 0 [] (Nat.zero_le _) (fuel_gt (by omega)) rfl).trans rfl
 ·intro i out hi ho rec hrec
  have hg:=hd.good _ (nth_mem hi)
  have hol:out.length≤docs.length:=by rw [ho];exact Nat.le_trans (List.length_filter_le _ _) (by simp;omega)
  simp only [F67_R3,lt_cast,hi,decide_true,cond_true,gd_pos,get_nth hi,Option.bind_some,specMatches_eq q.1 _ h1 hg.ok,wrap_up i _ hi (by omega)]
  have ht:(docs.take (i+1)).filter (matchM q.1)=(docs.take i).filter (matchM q.1)++[nth docs i].filter (matchM q.1):=by
   rw [←List.filter_append,List.take_add_one,get_nth' hi];rfl
  rw [drop_cons_nth hi]
  cases hm:matchM q.1 (nth docs i) with
  |true=>
   rw [cond_true,gd_if (by simp only [lim,List.length_singleton];omega),hrec _ (by rw [ht,ho];simp [hm])]
   rw [List.filter_cons_of_pos hm]
   simp only [List.append_assoc,List.singleton_append]
  |false=>
   rw [cond_false,hrec _ (by rw [ht,ho];simp [hm])]
   rw [List.filter_cons_of_neg (by simp [hm])]
 ·intro out ho rec
  rw [List.take_length] at ho
  subst ho
  simp only [F67_R3,lt_cast,Nat.lt_irrefl,decide_false,cond_false,List.drop_length,List.filter_nil,List.append_nil,specSort_eq q.2.1 _ hF hs,Option.bind_some]
  generalize sortM q.2.1 (docs.filter (matchM q.1))=S at hS ⊢
  have hSl:=hS.len
  have key:∀ (k i:Nat) (out:List TVal),S.length-i<k→out.length≤i→iter (F67_R10 (fun y20=>(some (y20.1,())))) k ((i:Int),q,S,out,())=some (out++(if q.2.2.2.1=0 then S.drop i else (S.drop i).take (q.2.2.2.1.toNat-out.length)).map (keepM q.2.2.2.2.1),()):=by
   intro k
   induction k with
   |zero=>intro i out h;omega
   |succ k ih=>
    intro i out hk ho
    simp only [iter,F67_R10,lt_cast]
    by_cases hi:i<S.length
    ·simp only [hi,decide_true,cond_true,gd_pos,gd_true,get_nth hi,Option.bind_some,l07Keep_eq _ _ (hS.good _ (nth_mem hi)) (show q.2.2.2.2.1.length≤1048576 by omega),wrap_up i _ hi (by omega)]
     rw [gd_if (by simp only [lim,List.length_singleton];omega),ih (i+1) _ (by omega) (by simp only [List.length_append,List.length_singleton];omega)]
     by_cases h0:q.2.2.2.1=0
     ·rw [h0]
      simp only [beq_self_eq_true,cond_true,if_true]
      rw [map_step _ out (drop_cons_nth hi)]
     ·rw [show (q.2.2.2.1==0)=false by rw [beq_eq_false_iff_ne];exact h0,cond_false,if_neg h0,if_neg h0]
      by_cases hlt:(out.length:Int)<q.2.2.2.1
      ·rw [decide_eq_true hlt,cond_true]
       have e:(S.drop i).take (q.2.2.2.1.toNat-out.length)=nth S i::(S.drop (i+1)).take (q.2.2.2.1.toNat-(out++[keepM q.2.2.2.2.1 (nth S i)]).length):=by
        rw [drop_cons_nth hi]
        obtain ⟨m,hm⟩:∃ m,q.2.2.2.1.toNat-out.length=m+1:=⟨q.2.2.2.1.toNat-out.length-1,by omega⟩
        rw [hm,List.take_succ_cons,List.length_append,List.length_singleton,show q.2.2.2.1.toNat-(out.length+1)=m by omega]
       rw [map_step _ out e]
      ·rw [decide_eq_false hlt,cond_false,show q.2.2.2.1.toNat-out.length=0 by omega,List.take_zero,List.map_nil,List.append_nil]
    ·simp only [hi,decide_false,cond_false]
     rw [List.drop_eq_nil_of_le (by omega),List.take_nil,ite_self,List.map_nil,List.append_nil]
  have h4':q.2.2.1=((q.2.2.1.toNat:Nat):Int):=by omega
  rw [h4',key fuel _ [] (fuel_gt (by omega)) (Nat.zero_le _),Int.toNat_natCast]
  unfold atMost
  simp only [List.nil_append,List.length_nil,Nat.sub_zero]
theorem min_cast (n:Nat) (z:Int) (h:0≤z):(cond (decide (((n:Nat):Int)<z)) ((n:Nat):Int) z)=((Nat.min n z.toNat:Nat):Int):=by
 by_cases hlt:((n:Nat):Int)<z
 ·rw [decide_eq_true hlt,cond_true]
  have:Nat.min n z.toNat=n:=Nat.min_eq_left (by omega)
  rw [this]
 ·rw [decide_eq_false hlt,cond_false]
  have:Nat.min n z.toNat=z.toNat:=Nat.min_eq_right (by omega)
  rw [this];omega
theorem drop_min {α:Type} (l:List α) (k:Nat):l.drop (Nat.min l.length k)=l.drop k:=by
 by_cases h:k≤l.length
 ·rw [show Nat.min l.length k=k from Nat.min_eq_right h]
 ·rw [show Nat.min l.length k=l.length from Nat.min_eq_left (by omega),List.drop_length,List.drop_eq_nil_of_le (by omega)]
theorem take_min {α:Type} (l:List α) (k:Nat):l.take (Nat.min l.length k)=l.take k:=by
 by_cases h:k≤l.length
 ·rw [show Nat.min l.length k=k from Nat.min_eq_right h]
 ·rw [show Nat.min l.length k=l.length from Nat.min_eq_left (by omega),List.take_length,List.take_of_length_le (by omega)]
theorem find_eq (q:TQuery) (docs:List TVal) (hq:queryM q=true) (hd:Docs docs):F48 q docs=some (findM q docs,()):=by
 obtain ⟨h1,h2,h3,h4,h5,h6,h7,h8⟩:=queryM_facts hq
 have hs:=partsM_small h3 h2
 have hF:=hd.filter (matchM q.1)
 have hS:=sortM_docs q.2.1 hF
 have hlen:=hd.len
 unfold F48 findM
 rw [cloneVal_eq docs hlen,Option.bind_some,delete_value (fun v=>!matchM q.1 v) docs _ (fun v hv=>by
  unfold F100
  rw [implMatches_eq q.1 v h1 (hd.good v hv).ok];rfl) hlen,Option.bind_some]
 simp only [Bool.not_not]
 rw [implSort_eq q.2.1 _ hF hs,Option.bind_some]
 generalize sortM q.2.1 (docs.filter (matchM q.1))=S at hS ⊢
 have hSl:=hS.len
 simp only [Int.toNat_natCast,List.take_length,min_cast _ _ h4]
 rw [gd_le,gd_pos,gd_if (by have:Nat.min S.length q.2.2.1.toNat≤S.length:=Nat.min_le_left _ _;exact Int.ofNat_le.2 this),drop_min]
 have hD:∀ x,x∈S.drop q.2.2.1.toNat→GoodDoc x:=fun x hx=>hS.good x (List.mem_of_mem_drop hx)
 have hDl:(S.drop q.2.2.1.toNat).length≤1048576:=by simp;omega
 generalize S.drop q.2.2.1.toNat=D at hD hDl ⊢
 have key:∀ (L:List TVal),L.length≤1048576→(∀ x,x∈L→GoodDoc x)→iter (F48_R8 (fun y12=>(some (y12.1,())))) fuel (L,(((List.length L):Nat):Int),(0:Int),q,[],())=some (L.map (keepM q.2.2.2.2.1),()):=by
  intro L hL hg
  refine (iter_go (S:=List TVal) (fun i out=>(L,((L.length:Nat):Int),(i:Int),q,out,())) (fun i out=>some (out++(L.drop i).map (keepM q.2.2.2.2.1),())) L.length (fun i out=>out.length=i) ?_ ?_ fuel 0 [] (Nat.zero_le _) (fuel_gt (by omega)) rfl).trans rfl
  ·intro i out hi ho rec hrec
   simp only [F48_R8,lt_cast,hi,decide_true,cond_true,gd_pos,get_nth hi,Option.bind_some,keepFields_eq _ _ (hg _ (nth_mem hi)) (show q.2.2.2.2.1.length≤1048576 by omega),wrap_up i _ hi (by omega)]
   rw [gd_if (by simp only [lim,List.length_singleton];omega),hrec _ (by simp only [List.length_append,List.length_singleton];omega),map_step _ out (drop_cons_nth hi)]
  ·intro out ho rec
   simp only [F48_R8,lt_cast,Nat.lt_irrefl,decide_false,cond_false,List.drop_length,List.map_nil,List.append_nil]
 unfold atMost
 by_cases h0:q.2.2.2.1=0
 ·rw [if_pos h0,decide_eq_false (by omega),cond_false]
  exact key D hDl hD
 ·rw [if_neg h0,decide_eq_true (show q.2.2.2.1>0 by omega),cond_true]
  simp only [min_cast _ _ h6]
  rw [gd_pos,gd_if (by have:Nat.min D.length q.2.2.2.1.toNat≤D.length:=Nat.min_le_left _ _;exact Int.ofNat_le.2 this),Int.toNat_natCast,take_min]
  exact key (D.take q.2.2.2.1.toNat) (by simp;omega) fun x hx=>hD x (List.mem_of_mem_take hx)
theorem findM_len (q:TQuery) {docs:List TVal} (hd:Docs docs):(findM q docs).length≤docs.length:=by
 have hF:=hd.filter (matchM q.1)
 have h1:=(sortM_ok q.2.1 _ hF).1.length_eq
 have h2:=List.length_filter_le (matchM q.1) docs
 unfold findM atMost
 rw [List.length_map]
 split
 ·rw [List.length_drop];omega
 ·rw [List.length_take,List.length_drop];omega
abbrev TEntry:Type:=List UInt8×(Int×Unit)
abbrev TPage:Type:=Int×(List TEntry×Unit)
abbrev TTree:Type:=List TPage×(Int×Unit)
abbrev TIndex:Type:=TDef×(TTree×Unit)
abbrev TInterval:Type:=List UInt8×(List UInt8×(Bool×Unit))
abbrev TPlan:Type:=List UInt8×(TInterval×(Int×Unit))
def LEntry (n:Nat) (e:TEntry):Prop:=e.1.length≤n
def LPage (n:Nat) (p:TPage):Prop:=LS LEntry n p.2.1
def LTree (n:Nat) (t:TTree):Prop:=LS LPage n t.1
def LIndex (n:Nat) (x:TIndex):Prop:=LDef n x.1∧LTree n x.2.1
def LIval (n:Nat) (i:TInterval):Prop:=i.1.length≤n∧i.2.1.length≤n
def LPlan (n:Nat) (p:TPlan):Prop:=p.1.length≤n∧LIval n p.2.1
def cEntry (_:TEntry):Nat:=0
theorem szEntry_ok:SzOk F284 LEntry cEntry:=by
 intro x a hx h0 h1
 have g0:=hx
 unfold F284
 rw [show IntKind.wrap IntKind.i64 (a-((x.1.length:Nat):Int))=(a-((x.1.length:Nat):Int)) from wrapI _ (by first | omega | (simp only [LVal,LPart,LEntry] at g0;omega)) (by omega)]
 by_cases c0:(a-((x.1.length:Nat):Int))<0
 ·exact ⟨-1,by simp [c0],by omega,fun h=>absurd h (by decide)⟩
 simp only [c0,decide_false,cond_false]
 exact ⟨_,rfl,by omega,fun _=>⟨(show _≤_ by omega),by simp only [cEntry];omega⟩⟩
theorem szEntryS_ok:SzOk F241 (LS LEntry) (cS cEntry):=szS szEntry_ok
theorem toEntry_ok:ToOk F285 LEntry:=by
 intro x hx
 unfold F285
 rfl
theorem toEntryS_ok:ToOk F246 (LS LEntry):=toS _ toEntry_ok
theorem eqEntry_ok:EqOk F303 LEntry:=by
 intro x hx
 unfold F303
 simp only [bne_self_eq_false,beq_self_eq_true,Option.bind_some,Bool.not_true,cond_false]
theorem eqEntryS_ok:EqOk F268 (LS LEntry):=eqS eqEntry_ok
def cPage (x:TPage):Nat:=cS cEntry x.2.1
theorem szPage_ok:SzOk F187 LPage cPage:=by
 intro x a hx h0 h1
 have g0:=hx
 unfold F187
 obtain ⟨r0,e0,l0,s0⟩:=szEntryS_ok x.2.1 a g0 (by omega) (by omega)
 rw [e0];simp only [Option.bind_some]
 by_cases c0:r0<0
 ·exact ⟨-1,by simp [c0],by omega,fun h=>absurd h (by decide)⟩
 simp only [c0,decide_false,cond_false]
 exact ⟨_,rfl,by omega,fun _=>⟨(s0 (by omega)).1,by have q0:=(s0 (by omega)).2;simp only [cPage];omega⟩⟩
theorem szPageS_ok:SzOk F130 (LS LPage) (cS cPage):=szS szPage_ok
theorem toPage_ok:ToOk F193 LPage:=by
 intro x hx
 have g0:=toEntryS_ok x.2.1 hx
 unfold F193
 rw [g0]
 rfl
theorem toPageS_ok:ToOk F140 (LS LPage):=toS _ toPage_ok
theorem eqPage_ok:EqOk F225 LPage:=by
 intro x hx
 have g0:=eqEntryS_ok x.2.1 hx
 unfold F225
 simp only [g0,bne_self_eq_false,beq_self_eq_true,Option.bind_some,Bool.not_true,cond_false]
theorem eqPageS_ok:EqOk F171 (LS LPage):=eqS eqPage_ok
def cTree (x:TTree):Nat:=cS cPage x.1
theorem szTree_ok:SzOk F79 LTree cTree:=by
 intro x a hx h0 h1
 have g0:=hx
 unfold F79
 obtain ⟨r0,e0,l0,s0⟩:=szPageS_ok x.1 a g0 (by omega) (by omega)
 rw [e0];simp only [Option.bind_some]
 by_cases c0:r0<0
 ·exact ⟨-1,by simp [c0],by omega,fun h=>absurd h (by decide)⟩
 simp only [c0,decide_false,cond_false]
 exact ⟨_,rfl,by omega,fun _=>⟨(s0 (by omega)).1,by have q0:=(s0 (by omega)).2;simp only [cTree];omega⟩⟩
theorem toTree_ok:ToOk F90 LTree:=by
 intro x hx
 have g0:=toPageS_ok x.1 hx
 unfold F90
 rw [g0]
 rfl
theorem eqTree_ok:EqOk F115 LTree:=by
 intro x hx
 have g0:=eqPageS_ok x.1 hx
 unfold F115
 simp only [g0,bne_self_eq_false,beq_self_eq_true,Option.bind_some,Bool.not_true,cond_false]
def cIndex (x:TIndex):Nat:=cDef x.1+cTree x.2.1
theorem szIndex_ok:SzOk F32 LIndex cIndex:=by
 intro x a hx h0 h1
 have g0:=hx.1
 have g1:=hx.2
 unfold F32
 obtain ⟨r0,e0,l0,s0⟩:=szDef_ok x.1 a g0 (by omega) (by omega)
 rw [e0];simp only [Option.bind_some]
 by_cases c0:r0<0
 ·exact ⟨-1,by simp [c0],by omega,fun h=>absurd h (by decide)⟩
 simp only [c0,decide_false,cond_false]
 obtain ⟨r1,e1,l1,s1⟩:=szTree_ok x.2.1 r0 g1 (by omega) (by omega)
 rw [e1];simp only [Option.bind_some]
 by_cases c1:r1<0
 ·exact ⟨-1,by simp [c1],by omega,fun h=>absurd h (by decide)⟩
 simp only [c1,decide_false,cond_false]
 exact ⟨_,rfl,by omega,fun _=>⟨⟨(s0 (by omega)).1,(s1 (by omega)).1⟩,by have q0:=(s0 (by omega)).2;have q1:=(s1 (by omega)).2;simp only [cIndex];omega⟩⟩
theorem szIndexS_ok:SzOk F8 (LS LIndex) (cS cIndex):=szS szIndex_ok
theorem toIndex_ok:ToOk F43 LIndex:=by
 intro x hx
 have g0:=toDef_ok x.1 hx.1
 have g1:=toTree_ok x.2.1 hx.2
 unfold F43
 rw [g0,g1]
 rfl
theorem toIndexS_ok:ToOk F13 (LS LIndex):=toS _ toIndex_ok
theorem eqIndex_ok:EqOk F60 LIndex:=by
 intro x hx
 have g0:=eqDef_ok x.1 hx.1
 have g1:=eqTree_ok x.2.1 hx.2
 unfold F60
 simp only [g0,g1,bne_self_eq_false,beq_self_eq_true,Option.bind_some,Bool.not_true,cond_false]
theorem eqIndexS_ok:EqOk F17 (LS LIndex):=eqS eqIndex_ok
def cInterval (_:TInterval):Nat:=0
theorem szInterval_ok:SzOk F27 LIval cInterval:=by
 intro x a hx h0 h1
 have g0:=hx.1
 have g1:=hx.2
 unfold F27
 rw [show IntKind.wrap IntKind.i64 (a-((x.1.length:Nat):Int))=(a-((x.1.length:Nat):Int)) from wrapI _ (by first | omega | (simp only [LVal,LPart,LEntry] at g0;omega)) (by omega)]
 by_cases c0:(a-((x.1.length:Nat):Int))<0
 ·exact ⟨-1,by simp [c0],by omega,fun h=>absurd h (by decide)⟩
 simp only [c0,decide_false,cond_false]
 rw [show IntKind.wrap IntKind.i64 ((a-((x.1.length:Nat):Int))-((x.2.1.length:Nat):Int))=((a-((x.1.length:Nat):Int))-((x.2.1.length:Nat):Int)) from wrapI _ (by first | omega | (simp only [LVal,LPart,LEntry] at g1;omega)) (by omega)]
 by_cases c1:((a-((x.1.length:Nat):Int))-((x.2.1.length:Nat):Int))<0
 ·exact ⟨-1,by simp [c1],by omega,fun h=>absurd h (by decide)⟩
 simp only [c1,decide_false,cond_false]
 exact ⟨_,rfl,by omega,fun _=>⟨⟨(show _≤_ by omega),(show _≤_ by omega)⟩,by simp only [cInterval];omega⟩⟩
theorem toInterval_ok:ToOk F38 LIval:=by
 intro x hx
 unfold F38
 rfl
def cPlan (x:TPlan):Nat:=cInterval x.2.1
theorem szPlan_ok:SzOk F5 LPlan cPlan:=by
 intro x a hx h0 h1
 have g0:=hx.1
 have g1:=hx.2
 unfold F5
 rw [show IntKind.wrap IntKind.i64 (a-((x.1.length:Nat):Int))=(a-((x.1.length:Nat):Int)) from wrapI _ (by first | omega | (simp only [LVal,LPart,LEntry] at g0;omega)) (by omega)]
 by_cases c0:(a-((x.1.length:Nat):Int))<0
 ·exact ⟨-1,by simp [c0],by omega,fun h=>absurd h (by decide)⟩
 simp only [c0,decide_false,cond_false]
 obtain ⟨r1,e1,l1,s1⟩:=szInterval_ok x.2.1 (a-((x.1.length:Nat):Int)) g1 (by omega) (by omega)
 rw [e1];simp only [Option.bind_some]
 by_cases c1:r1<0
 ·exact ⟨-1,by simp [c1],by omega,fun h=>absurd h (by decide)⟩
 simp only [c1,decide_false,cond_false]
 exact ⟨_,rfl,by omega,fun _=>⟨⟨(show _≤_ by omega),(s1 (by omega)).1⟩,by have q1:=(s1 (by omega)).2;simp only [cPlan];omega⟩⟩
theorem toPlan_ok:ToOk F10 LPlan:=by
 intro x hx
 have g1:=toInterval_ok x.2.1 hx.2
 unfold F10
 rw [g1]
 rfl
theorem markEntryS_ok:MkOk F117 LEntry cEntry:=by
 refine mkS (R:=F117_R2 _) (fun i l k rec hi hL hk hb hlen=>?_) (fun l k rec=>?_)
 simp (disch:=omega) only [F117_R2,lt_cast,hi,decide_true,cond_true,gd_pos,List.length_set,List.set_set,get_nth hi,get_setI hi,Option.bind_some,wrapK,mtx_ok,wrap_up i _ hi (by omega)]
 exact ⟨_,_,rfl,by omega,by omega⟩
 simp only [F117_R2,lt_cast,Nat.lt_irrefl,decide_false,cond_false]
theorem markPageS_ok:MkOk F65 LPage cPage:=by
 refine mkS (R:=F65_R2 _) (fun i l k rec hi hL hk hb hlen=>?_) (fun l k rec=>?_)
 have hc:cPage (nth l i)=cS cEntry (nth l i).2.1:=rfl
 simp (disch:=omega) only [F65_R2,lt_cast,hi,decide_true,cond_true,gd_pos,List.length_set,List.set_set,get_nth hi,get_setI hi,Option.bind_some,wrapK,mtx_ok,wrap_up i _ hi (by omega)]
 obtain ⟨k0,l0,e0,b0,d0⟩:=markEntryS_ok (nth l i).2.1 (k+1) (hL) (by omega) (by rw [hc] at hb;omega)
 rw [e0]
 simp (disch:=omega) only [lt_cast,hi,decide_true,cond_true,gd_pos,List.length_set,List.set_set,get_nth hi,get_setI hi,Option.bind_some,wrapK,mtx_ok,wrap_up i _ hi (by omega)]
 exact ⟨_,_,rfl,by omega,by rw [hc];omega⟩
 simp only [F65_R2,lt_cast,Nat.lt_irrefl,decide_false,cond_false]
theorem markIndexS_ok:MkOk F20 LIndex cIndex:=by
 refine mkS (R:=F20_R2 _) (fun i l k rec hi hL hk hb hlen=>?_) (fun l k rec=>?_)
 have hc:cIndex (nth l i)=cS cPart (nth l i).1.2.1+cS cPage (nth l i).2.1.1:=rfl
 simp (disch:=omega) only [F20_R2,lt_cast,hi,decide_true,cond_true,gd_pos,List.length_set,List.set_set,get_nth hi,get_setI hi,Option.bind_some,wrapK,mtx_ok,wrap_up i _ hi (by omega)]
 obtain ⟨k0,l0,e0,b0,d0⟩:=markPartS_ok (nth l i).1.2.1 (k+1) (hL.1.2) (by omega) (by rw [hc] at hb;omega)
 rw [e0]
 simp (disch:=omega) only [lt_cast,hi,decide_true,cond_true,gd_pos,List.length_set,List.set_set,get_nth hi,get_setI hi,Option.bind_some,wrapK,mtx_ok,wrap_up i _ hi (by omega)]
 obtain ⟨k1,l1,e1,b1,d1⟩:=markPageS_ok (nth l i).2.1.1 k0 (hL.2) (by omega) (by rw [hc] at hb;omega)
 rw [e1]
 simp (disch:=omega) only [lt_cast,hi,decide_true,cond_true,gd_pos,List.length_set,List.set_set,get_nth hi,get_setI hi,Option.bind_some,wrapK,mtx_ok,wrap_up i _ hi (by omega)]
 exact ⟨_,_,rfl,by omega,by rw [hc];omega⟩
 simp only [F20_R2,lt_cast,Nat.lt_irrefl,decide_false,cond_false]
def entryM (e:TEntry):Bool:=decide (((e.1.length:Nat):Int)≤2000)&&inR e.2.1 0 9999
def lessE (a b:TEntry):Bool:=Op.bytesLess a.1 b.1||((a.1==b.1)&&decide (a.2.1<b.2.1))
def flatE (l:List TPage):List TEntry:=l.flatMap (·.2.1)
def pageAt (t:TTree) (i:Nat):Bool:=
 inR (nth t.1 i).1 1 (t.2.1-1)&&(decide ((((nth t.1 i).2.1.length:Nat):Int)≤4)&&(!(((nth t.1 i).2.1.length==0)&&decide (1<t.1.length))&&allF (fun k=>!((nth t.1 k).1==(nth t.1 i).1)) 0 i))
def risesE (l:List TEntry):Bool:=allF (fun i=>entryM (nth l i)&&(decide (i=0)||lessE (nth l (i-1)) (nth l i))) 0 l.length
def treeM (t:TTree):Bool:=inR t.1.length 1 60&&(inR t.2.1 2 100000&&(allF (pageAt t) 0 t.1.length&&risesE (flatE t.1)))
theorem lessE_trans (a b c:TEntry) (h1:lessE a b=true) (h2:lessE b c=true):lessE a c=true:=by
 simp only [lessE,Bool.or_eq_true,Bool.and_eq_true,beq_iff_eq,decide_eq_true_eq] at h1 h2 ⊢
 rcases h1 with h1 | ⟨h1,h1'⟩<;>rcases h2 with h2 | ⟨h2,h2'⟩
 ·exact .inl (less_trans _ _ _ h1 h2)
 ·rw [←h2];exact .inl h1
 ·rw [h1];exact .inl h2
 ·exact .inr ⟨h1.trans h2,by omega⟩
structure Tree (t:TTree):Prop where
 one:1≤t.1.length
 len:t.1.length≤60
 lo:2≤t.2.1
 hi:t.2.1≤100000
 page:∀ p,p∈t.1→p.2.1.length≤4∧(1<t.1.length→p.2.1≠[])
 pw:(flatE t.1).Pairwise fun a b=>lessE a b=true
 ent:∀ e,e∈flatE t.1→e.1.length≤2000∧0≤e.2.1∧e.2.1≤9999
theorem risesE_facts {l:List TEntry} (h:risesE l=true):(l.Pairwise fun a b=>lessE a b=true)∧∀ e,e∈l→e.1.length≤2000∧0≤e.2.1∧e.2.1≤9999:=by
 unfold risesE at h
 rw [allF_iff] at h
 have g:∀ i,i<l.length→entryM (nth l i)=true∧(0<i→lessE (nth l (i-1)) (nth l i)=true):=fun i hi=>by
  have:=h i (Nat.zero_le _) (by omega)
  simp only [Bool.and_eq_true,Bool.or_eq_true,decide_eq_true_eq] at this
  exact ⟨this.1,fun h0=>this.2.resolve_left (by omega)⟩
 refine ⟨?_,fun e he=>?_⟩
 ·rw [List.pairwise_iff_getElem]
  intro i j hi hj hij
  have:=rise_lt' (l:=l) (r:=lessE) lessE_trans (fun i h0 hi=>(g i hi).2 h0) hij hj
  rw [nth_eq hi,nth_eq hj] at this
  exact this
 ·obtain ⟨i,hi,rfl⟩:=mem_nth he
  have:=(g i hi).1
  simp only [entryM,inR,Bool.and_eq_true,decide_eq_true_eq] at this
  exact ⟨by omega,this.2.1,this.2.2⟩
theorem treeM_tree {t:TTree} (h:treeM t=true):Tree t:=by
 unfold treeM inR at h
 simp only [Bool.and_eq_true,decide_eq_true_eq] at h
 obtain ⟨⟨h1,h2⟩,⟨h3,h4⟩,h5,h6⟩:=h
 obtain ⟨g1,g2⟩:=risesE_facts h6
 refine ⟨by omega,by omega,h3,h4,fun p hp=>?_,g1,g2⟩
 obtain ⟨i,hi,rfl⟩:=mem_nth hp
 have:=(allF_iff _ _ _).1 h5 i (Nat.zero_le _) (by omega)
 unfold pageAt at this
 simp only [Bool.and_eq_true,decide_eq_true_eq,Bool.not_eq_true',Bool.and_eq_false_iff,beq_eq_false_iff_ne,decide_eq_false_iff_not] at this
 refine ⟨by omega,fun hn he=>?_⟩
 rcases this.2.2.1 with h | h
 ·exact h (by rw [he];rfl)
 ·exact h hn
theorem Tree.flat_len {t:TTree} (h:Tree t):(flatE t.1).length≤240:=by
 have:∀ (l:List TPage),(∀ p,p∈l→p.2.1.length≤4)→(flatE l).length≤4*l.length:=by
  intro l
  induction l with
  |nil=>intro _;simp [flatE]
  |cons p l ih=>
   intro hl
   have h1:=hl p (by simp)
   have h2:=ih fun q hq=>hl q (by simp [hq])
   unfold flatE at h2 ⊢
   rw [List.flatMap_cons,List.length_append,List.length_cons];omega
 have h1:=this t.1 fun p hp=>(h.page p hp).1
 have:=h.len
 omega
def placeF (e:TEntry):List TPage→Nat→Nat→Nat
 |[],_,c=>c
 |p::l,i,c=>placeF e l (i+1) (match p.2.1 with | []=>c | a::_=>cond (lessE e a) c i)
def placeM (t:TTree) (e:TEntry):Nat:=placeF e t.1 0 0
theorem placeF_ok (e:TEntry) (l:List TPage):∀ (m s c:Nat),s+m=l.length→(c=0∨c<l.length∧∃ a r,(nth l c).2.1=a::r∧lessE e a=false)→
  (placeF e (l.drop s) s c=0∨placeF e (l.drop s) s c<l.length∧∃ a r,(nth l (placeF e (l.drop s) s c)).2.1=a::r∧lessE e a=false)
 |0,s,c,hs,hc=>by
  rw [List.drop_eq_nil_of_le (by omega)]
  exact hc
 |m+1,s,c,hs,hc=>by
  have hi:s<l.length:=by omega
  rw [drop_cons_nth hi]
  unfold placeF
  refine placeF_ok e l m (s+1) _ (by omega) ?_
  cases h:(nth l s).2.1 with
  |nil=>exact hc
  |cons a r=>
   dsimp only
   cases hl:lessE e a with
   |true=>exact hc
   |false=>exact .inr ⟨hi,a,r,h,hl⟩
theorem placeM_ok (t:TTree) (e:TEntry):placeM t e=0∨placeM t e<t.1.length∧∃ a r,(nth t.1 (placeM t e)).2.1=a::r∧lessE e a=false:=by
 have:=placeF_ok e t.1 t.1.length 0 0 (by omega) (.inl rfl)
 rw [List.drop_zero] at this
 exact this
def hasM (i:TInterval) (k:List UInt8):Bool:=!(Op.bytesLess k i.1)&&(i.2.2.1||Op.bytesLess k i.2.1)
def rangeM (t:TTree) (i:TInterval):List TEntry:=(flatE t.1).filter fun e=>hasM i e.1
theorem flatE_split (l:List TPage) (k:Nat):flatE l=flatE (l.take k)++flatE (l.drop k):=by
 unfold flatE
 rw [←List.flatMap_append,List.take_append_drop]
theorem less_of_not {x y:List UInt8} (h:Op.bytesLess x y=false):x=y∨Op.bytesLess y x=true:=by
 by_cases e:x=y
 ·exact .inl e
 ·exact .inr (less_total x y h e)
theorem range_ahead {t:TTree} (h:Tree t) (i:TInterval):rangeM t i=(flatE (t.1.drop (placeM t (i.1,-1,())))).filter fun e=>hasM i e.1:=by
 unfold rangeM
 rcases placeM_ok t (i.1,-1,()) with h0 | ⟨hlt,a,r,he,hl⟩
 ·rw [h0,List.drop_zero]
 generalize placeM t (i.1,-1,())=k at *
 have hp:=h.pw
 rw [flatE_split t.1 k] at hp
 obtain ⟨_,_,hx⟩:=List.pairwise_append.1 hp
 have ha:a∈flatE (t.1.drop k):=by
  rw [drop_cons_nth hlt]
  unfold flatE
  rw [List.flatMap_cons,he]
  simp
 conv=>lhs;rw [flatE_split t.1 k]
 rw [List.filter_append,List.filter_eq_nil_iff.2 ?_,List.nil_append]
 intro x hxm
 have h1:=hx x hxm a ha
 have h2:=(h.ent x (by rw [flatE_split t.1 k];exact List.mem_append_left _ hxm)).2.1
 intro hh
 unfold hasM at hh
 rw [Bool.and_eq_true] at hh
 have h3:Op.bytesLess x.1 i.1=false:=by simpa using hh.1
 have h4:lessE (i.1,-1,()) x=true:=by
  unfold lessE
  rcases less_of_not h3 with e | e
  ·have:(-1:Int)<x.2.1:=by omega
   simp [e,this]
  ·simp [e]
 rw [lessE_trans _ _ _ h4 h1] at hl
 cases hl
theorem range_behind {t:TTree} (h:Tree t) (i:TInterval) {k:Nat} (hk:k<t.1.length) {a:TEntry} {r:List TEntry} (he:(nth t.1 k).2.1=a::r) (ho:i.2.2.1=false) (ha:Op.bytesLess a.1 i.2.1=false) :
  (flatE (t.1.drop k)).filter (fun e=>hasM i e.1)=[]:=by
 have hp:=h.pw
 rw [flatE_split t.1 k] at hp
 obtain ⟨_,hp2,_⟩:=List.pairwise_append.1 hp
 have e:flatE (t.1.drop k)=a::(r++flatE (t.1.drop (k+1))):=by
  rw [drop_cons_nth hk]
  unfold flatE
  rw [List.flatMap_cons,he]
  rfl
 rw [e] at hp2 ⊢
 rw [List.filter_eq_nil_iff]
 intro x hx hh
 unfold hasM at hh
 rw [Bool.and_eq_true,ho,Bool.false_or] at hh
 have h5:=hh.2
 rcases List.mem_cons.1 hx with rfl | hx
 ·rw [ha] at h5;cases h5
 ·have h6:=List.rel_of_pairwise_cons hp2 hx
  unfold lessE at h6
  simp only [Bool.or_eq_true,Bool.and_eq_true,beq_iff_eq] at h6
  rcases h6 with h6 | ⟨h6,_⟩
  ·rw [less_trans _ _ _ h6 h5] at ha;cases ha
  ·rw [h6,h5] at ha;cases ha
theorem specLessE_eq (a b:TEntry):F191 a b=some (lessE a b,()):=by
 unfold F191 lessE
 cases Op.bytesLess a.1 b.1
 ·cases a.1==b.1<;>rfl
 ·rfl
theorem specEntry_eq (e:TEntry):F190 e=some (entryM e,()):=by
 unfold F190 entryM
 rw [l01In_eq]
 cases decide (((e.1.length:Nat):Int)≤2000)<;>rfl
theorem implEntry_eq (e:TEntry):F167 e=some (entryM e,()):=by
 unfold F167 entryM
 rw [inRange_eq]
 cases decide (((e.1.length:Nat):Int)≤2000)<;>rfl
def cmpE (a b:TEntry):Int:=thenC (fun a b:TEntry=>Lib.compareBytes a.1 b.1) (fun a b=>sgn a.2.1 b.2.1) a b
theorem compareE_eq (a b:TEntry):F168 a b=some (cmpE a b,()):=by
 unfold F168
 rw [show F213 a.1 b.1=some (Lib.compareBytes a.1 b.1,()) from rfl,cmpInt_eq]
 simp only [Option.bind_some,or2_eq]
 unfold cmpE thenC
 rw [ne_zero_cond]
 rfl
theorem cmpE_pc:PC cmpE fun _=>True:=(cb_pc.pull (A:=fun _:TEntry=>True) (fun f:TEntry=>f.1) fun _ _=>trivial).lex (sgn_pc.pull (fun f:TEntry=>f.2.1) fun _ _=>trivial)
theorem cmpE_lt (a b:TEntry):decide (cmpE a b<0)=lessE a b:=by
 unfold cmpE thenC lessE
 rw [bytesLess_cmp]
 by_cases h:Lib.compareBytes a.1 b.1=0
 ·rw [if_pos h,h,(compareBytes_zero _ _).1 h]
  unfold sgn
  by_cases h1:a.2.1<b.2.1
  ·simp [h1]
  ·by_cases h2:a.2.1>b.2.1<;>simp [h1,h2]
 ·rw [if_neg h]
  have:(a.1==b.1)=false:=by rw [beq_eq_false_iff_ne];intro e;exact h ((compareBytes_zero _ _).2 e)
  rw [this,Bool.false_and,Bool.or_false]
theorem cmpE_le (a b:TEntry):decide (cmpE a b≤0) = !lessE b a:=by
 rw [←cmpE_lt b a,cmpE_pc.an a b trivial trivial]
 by_cases h:cmpE a b≤0
 ·rw [decide_eq_true h,decide_eq_false (show ¬ - cmpE a b<0 by omega)];rfl
 ·rw [decide_eq_false h,decide_eq_true (show-cmpE a b<0 by omega)];rfl
theorem cmpE_ge (a b:TEntry):decide (cmpE a b≥0) = !lessE a b:=by
 rw [←cmpE_lt a b]
 by_cases h:cmpE a b≥0
 ·rw [decide_eq_true h,decide_eq_false (show ¬cmpE a b<0 by omega)];rfl
 ·rw [decide_eq_false h,decide_eq_true (show cmpE a b<0 by omega)];rfl
theorem specHas_eq (i:TInterval) (k:List UInt8):F138 i k=some (hasM i k,()):=by
 unfold F138 hasM
 have:(Op.bytesLess i.1 k||i.1==k) = !Op.bytesLess k i.1:=by
  cases h:Op.bytesLess k i.1 with
  |true=>
   have h1:Op.bytesLess i.1 k=false:=by
    cases h2:Op.bytesLess i.1 k with
    |false=>rfl
    |true=>have:=less_trans _ _ _ h h2;rw [less_irrefl] at this;cases this
   have h3:(i.1==k)=false:=by rw [beq_eq_false_iff_ne];exact (less_ne h).symm
   rw [h1,h3];rfl
  |false=>
   rcases less_of_not h with e | e
   ·rw [e];simp
   ·rw [e];rfl
 rw [this]
 cases Op.bytesLess k i.1
 ·cases i.2.2.1<;>rfl
 ·rfl
theorem implHas_eq (i:TInterval) (k:List UInt8):F108 i k=some (hasM i k,()):=by
 unfold F108 hasM
 cases Op.bytesLess k i.1
 ·cases i.2.2.1<;>rfl
 ·rfl
def risesF':TEntry→List TEntry→Bool
 |_,[]=>true
 |last,e::l=>entryM e&&(lessE last e&&risesF' e l)
theorem risesF'_cons (last e:TEntry) (l:List TEntry):risesF' last (e::l)=(entryM e&&(lessE last e&&risesF' e l)):=rfl
def lastE:TEntry→List TEntry→TEntry
 |x,[]=>x
 |_,e::l=>lastE e l
theorem risesF'_nth (l:List TEntry):∀ (m s:Nat),s+m=l.length→0<s→allF (fun i=>entryM (nth l i)&&(decide (i=0)||lessE (nth l (i-1)) (nth l i))) s m=risesF' (nth l (s-1)) (l.drop s)
 |0,s,hs,_=>by rw [List.drop_eq_nil_of_le (by omega)];rfl
 |m+1,s,hs,h0=>by
  have hi:s<l.length:=by omega
  rw [drop_cons_nth hi]
  rw [risesF'_cons]
  unfold allF
  rw [risesF'_nth l m (s+1) (by omega) (by omega),Nat.add_sub_cancel,decide_eq_false (show ¬s=0 by omega),Bool.false_or,Bool.and_assoc]
theorem risesE_F (l:List TEntry):risesF' ([],-1,()) l=risesE l:=by
 unfold risesE
 cases l with
 |nil=>rfl
 |cons e l=>
  rw [List.length_cons,allF]
  have h:=risesF'_nth (e::l) l.length 1 (by simp;omega) (by decide)
  rw [h,risesF'_cons]
  have e0:nth (e::l) 0=e:=rfl
  rw [show (1-1:Nat)=0 from rfl,e0,List.drop_one,List.tail_cons]
  simp only [decide_true,Bool.true_or,Bool.and_true]
  cases he:entryM e with
  |false=>rfl
  |true=>
   have:lessE ([],-1,()) e=true:=by
    unfold lessE
    simp only [entryM,inR,Bool.and_eq_true,decide_eq_true_eq] at he
    have h0:(-1:Int)<e.2.1:=by omega
    cases he1:e.1 with
    |nil=>simp [Op.bytesLess,h0]
    |cons b t=>simp [Op.bytesLess]
   rw [this];rfl
theorem risesF'_append:∀ (l l':List TEntry) (last:TEntry),risesF' last (l++l')=(risesF' last l&&risesF' (lastE last l) l')
 |[],l',last=>by simp [risesF',lastE]
 |e::l,l',last=>by
  rw [List.cons_append,risesF'_cons,risesF'_cons,risesF'_append l l' e,Bool.and_assoc,Bool.and_assoc]
  rfl
theorem specTreeOK_eq (t:TTree) (ht:LTree 1048576 t):F136 t=some (treeM t,()):=by
 unfold F136 treeM
 have hl:=ht.1
 simp only [l01In_eq,Option.bind_some]
 cases h1:inR ((t.1.length:Nat):Int) 1 60
 ·rfl
 cases h2:inR t.2.1 2 100000
 ·rfl
 simp only [Bool.not_true,cond_false,Bool.true_and]
 have hT:2≤t.2.1∧t.2.1≤100000:=by simpa [inR] using h2
 have hw:IntKind.wrap IntKind.i64 (t.2.1-1)=t.2.1-1:=wrapI _ (by omega) (by omega)
 have key:∀ (m s k:Nat) (last:TEntry),s+m=t.1.length→m<k→iter (F136_R5 (fun y33=>(some (true,()))) (fun y34=>(some (y34.1,())))) k ((s:Int),t,last,()) =
   some (allF (pageAt t) s m&&risesF' last (flatE (t.1.drop s)),()):=by
  intro m
  induction m with
  |zero=>
   intro s k last hs hk
   cases k with
   |zero=>omega
   |succ k=>
    have:¬s<t.1.length:=by omega
    simp only [iter,F136_R5,lt_cast,this,decide_false,cond_false]
    rw [List.drop_eq_nil_of_le (by omega)];rfl
  |succ m ih=>
   intro s k last hs hk
   cases k with
   |zero=>omega
   |succ k=>
    have hi:s<t.1.length:=by omega
    have hpl:(nth t.1 s).2.1.length≤1048576:=(ht.2 _ (nth_mem hi)).1
    have hd:flatE (t.1.drop s)=(nth t.1 s).2.1++flatE (t.1.drop (s+1)):=by rw [drop_cons_nth hi];unfold flatE;rw [List.flatMap_cons]
    simp only [iter,F136_R5,lt_cast,hi,decide_true,cond_true,gd_pos,get_nth hi,Option.bind_some,hw,l01In_eq]
    have inner2:∀ (last:TEntry),iter (F136_R16 (fun y31=>(iter (F136_R5 (fun y33=>(some (true,()))) (fun y34=>(some (y34.1,())))) k) ((IntKind.wrap IntKind.i64 (y31.1+(1:Int))),y31.2.1,y31.2.2.1,())) (fun y32=>some (y32.1,()))) fuel ((s:Int),(0:Int),t,last,nth t.1 s,()) =
      some (risesF' last (nth t.1 s).2.1&&(allF (pageAt t) (s+1) m&&risesF' (lastE last (nth t.1 s).2.1) (flatE (t.1.drop (s+1)))),()):=by
     intro last0
     have go:∀ (m' j k':Nat) (last:TEntry),j+m'=(nth t.1 s).2.1.length→m'<k' →iter (F136_R16 (fun y31=>(iter (F136_R5 (fun y33=>(some (true,()))) (fun y34=>(some (y34.1,())))) k) ((IntKind.wrap IntKind.i64 (y31.1+(1:Int))),y31.2.1,y31.2.2.1,())) (fun y32=>some (y32.1,()))) k' ((s:Int),(j:Int),t,last,nth t.1 s,()) =
       some (risesF' last ((nth t.1 s).2.1.drop j)&&(allF (pageAt t) (s+1) m&&risesF' (lastE last ((nth t.1 s).2.1.drop j)) (flatE (t.1.drop (s+1)))),()):=by
      intro m'
      induction m' with
      |zero=>
       intro j k' last hj hk'
       cases k' with
       |zero=>omega
       |succ k' =>
        have:¬j<(nth t.1 s).2.1.length:=by omega
        simp only [iter,F136_R16,lt_cast,this,decide_false,cond_false,wrap_up s _ hi (by omega)]
        have hdj:(nth t.1 s).2.1.drop j=[]:=List.drop_eq_nil_of_le (by omega)
        simp only [hdj,risesF',Bool.true_and,lastE]
        exact ih (s+1) k last (by omega) (by omega)
      |succ m' ih' =>
       intro j k' last hj hk'
       cases k' with
       |zero=>omega
       |succ k' =>
        have hj':j<(nth t.1 s).2.1.length:=by omega
        simp only [iter,F136_R16,lt_cast,hj',decide_true,cond_true,gd_pos,get_nth hj',Option.bind_some,specEntry_eq,specLessE_eq,wrap_up j _ hj' (by omega)]
        have e:=drop_cons_nth hj'
        simp only [e,risesF'_cons,lastE]
        cases entryM (nth (nth t.1 s).2.1 j)
        ·rfl
        cases lessE last (nth (nth t.1 s).2.1 j)
        ·rfl
        simp only [Bool.not_true,cond_false,Bool.true_and]
        exact ih' (j+1) k' _ (by omega) (by omega)
     have:=go (nth t.1 s).2.1.length 0 fuel last0 (by omega) (fuel_gt (by omega))
     simp only [List.drop_zero] at this
     exact this
    have inner:iter (F136_R11 (fun y19=>(iter (F136_R16 (fun y31=>(iter (F136_R5 (fun y33=>(some (true,()))) (fun y34=>(some (y34.1,())))) k) ((IntKind.wrap IntKind.i64 (y31.1+(1:Int))),y31.2.1,y31.2.2.1,())) (fun y32=>some (y32.1,()))) fuel (y19.1,(0:Int),y19.2.1,y19.2.2.1,y19.2.2.2.1,()))) (fun y20=>some (y20.1,()))) fuel ((s:Int),(0:Int),t,last,nth t.1 s,()) =
      some (allF (fun k=>!((nth t.1 k).1==(nth t.1 s).1)) 0 s&&(risesF' last (nth t.1 s).2.1&&(allF (pageAt t) (s+1) m&&risesF' (lastE last (nth t.1 s).2.1) (flatE (t.1.drop (s+1))))),()):=by
     refine (iter_all (fun j=>((s:Int),(j:Int),t,last,nth t.1 s,())) (fun k=>!((nth t.1 k).1==(nth t.1 s).1)) (some (risesF' last (nth t.1 s).2.1&&(allF (pageAt t) (s+1) m&&risesF' (lastE last (nth t.1 s).2.1) (flatE (t.1.drop (s+1)))),())) (some (false,())) s 0 fuel ?_ (fun rec=>?_) (fuel_gt (by omega))).trans ?_
     ·intro j _ hj rec
      have hjs:j<s:=by omega
      have hjl:j<t.1.length:=by omega
      simp only [F136_R11,lt_cast,hjs,decide_true,cond_true,gd_pos,get_nth hjl,Option.bind_some,wrap_up j _ hjl (by omega)]
      cases (nth t.1 j).1==(nth t.1 s).1<;>rfl
     ·have:¬(0+s<s):=by omega
      simp only [F136_R11,lt_cast,this,decide_false,cond_false]
      exact inner2 last
     ·cases allF (fun k=>!((nth t.1 k).1==(nth t.1 s).1)) 0 s<;>rfl
    rw [allF,hd,risesF'_append]
    have hp:pageAt t s=(inR (nth t.1 s).1 1 (t.2.1-1)&&(decide ((((nth t.1 s).2.1.length:Nat):Int)≤4)&&(!(((nth t.1 s).2.1.length==0)&&decide (1<t.1.length))&&allF (fun k=>!((nth t.1 k).1==(nth t.1 s).1)) 0 s))):=rfl
    rw [hp]
    cases inR (nth t.1 s).1 1 (t.2.1-1)
    ·rfl
    have hgt:decide ((((nth t.1 s).2.1.length:Nat):Int)>4) = !decide ((((nth t.1 s).2.1.length:Nat):Int)≤4):=by
     by_cases h:(((nth t.1 s).2.1.length:Nat):Int)≤4
     ·have:¬(((nth t.1 s).2.1.length:Nat):Int)>4:=by omega
      simp only [h,this,decide_true,decide_false,Bool.not_true]
     ·have:(((nth t.1 s).2.1.length:Nat):Int)>4:=by omega
      simp only [h,this,decide_true,decide_false,Bool.not_false]
    have hgt1:decide (((t.1.length:Nat):Int)>1)=decide (1<t.1.length):=by
     by_cases h:1<t.1.length
     ·have:((t.1.length:Nat):Int)>1:=by omega
      simp only [h,this]
     ·have:¬((t.1.length:Nat):Int)>1:=by omega
      simp only [h,this]
    have heq:((((nth t.1 s).2.1.length:Nat):Int)==0)=((nth t.1 s).2.1.length==0):=by
     rw [Bool.eq_iff_iff,beq_iff_eq,beq_iff_eq];omega
    rw [hgt,hgt1,heq]
    have fin:some (allF (fun k=>!((nth t.1 k).1==(nth t.1 s).1)) 0 s&&(risesF' last (nth t.1 s).2.1&&(allF (pageAt t) (s+1) m&&risesF' (lastE last (nth t.1 s).2.1) (flatE (t.1.drop (s+1))))),()) =
      some (allF (fun k=>!((nth t.1 k).1==(nth t.1 s).1)) 0 s&&allF (pageAt t) (s+1) m&&(risesF' last (nth t.1 s).2.1&&risesF' (lastE last (nth t.1 s).2.1) (flatE (t.1.drop (s+1)))),()):=by
     cases allF (fun k=>!((nth t.1 k).1==(nth t.1 s).1)) 0 s<;>cases risesF' last (nth t.1 s).2.1<;>cases allF (pageAt t) (s+1) m<;>rfl
    cases decide ((((nth t.1 s).2.1.length:Nat):Int)≤4)
    ·rfl
    cases (nth t.1 s).2.1.length==0
    ·simp only [Bool.not_true,Bool.false_and,Bool.not_false,Bool.true_and,cond_false]
     exact inner.trans fin
    ·cases decide (1<t.1.length)
     ·simp only [Bool.not_true,Bool.and_false,Bool.not_false,Bool.true_and,cond_false,cond_true]
      exact inner.trans fin
     ·rfl
 have:=key t.1.length 0 fuel ([],-1,()) (by omega) (fuel_gt (by omega))
 rw [List.drop_zero,risesE_F] at this
 exact this
theorem flat_snoc (l:List TPage) {i:Nat} (h:i<l.length):flatE (l.take (i+1))=flatE (l.take i)++(nth l i).2.1:=by
 unfold flatE
 rw [List.take_add_one,get_nth' h,List.flatMap_append]
 simp
theorem flat_take_len (l:List TPage) (h:∀ p,p∈l→p.2.1.length≤4):∀ i,i≤l.length→(flatE (l.take i)).length≤4*i
 |0,_=>by simp [flatE]
 |i+1,hi=>by
  rw [flat_snoc l (by omega),List.length_append]
  have:=flat_take_len l h i (by omega)
  have:=h _ (nth_mem (show i<l.length by omega))
  omega
theorem entries_eq (t:TTree) (h1:t.1.length≤60) (h2:∀ p,p∈t.1→p.2.1.length≤4):F106 t=some (flatE t.1,()):=by
 unfold F106
 refine (iter_go (S:=Unit) (fun i _=>(t.1,((t.1.length:Nat):Int),(i:Int),flatE (t.1.take i),())) (fun _ _=>some (flatE t.1,())) t.1.length (fun _ _=>True) ?_ ?_ fuel 0 () (Nat.zero_le _) (fuel_gt (by omega)) trivial).trans rfl
 ·intro i _ hi _ rec hrec
  have hl:=flat_take_len t.1 h2 i (by omega)
  have hp:=h2 _ (nth_mem hi)
  simp only [F106_R3,lt_cast,hi,decide_true,cond_true,gd_pos,get_nth hi,Option.bind_some,wrap_up i _ hi (by omega)]
  rw [gd_if (by simp only [lim];omega),←flat_snoc t.1 hi]
  exact hrec () trivial
 ·intro _ _ rec
  simp only [F106_R3,lt_cast,Nat.lt_irrefl,decide_false,cond_false,List.take_length]
theorem hasInt_eq (l:List Int) (t:Int) (hl:l.length≤1048576):F166 l t=some (l.any (fun x=>t==x),()):=by
 unfold F166 F221
 have:iter (F221_R2 (fun y6=>(some ((-(1:Int)),()))) (fun y7=>(some (y7.1,())))) fuel (l,t,(((List.length l):Nat):Int),(0:Int),())=some (firstAt (fun x=>t==x) 0 l,()):=by
  refine (iter_go (S:=Unit) (fun i _=>(l,t,((l.length:Nat):Int),(i:Int),())) (fun i _=>some (firstAt (fun x=>t==x) i (l.drop i),())) l.length (fun _ _=>True) ?_ ?_ fuel 0 () (Nat.zero_le _) (fuel_gt (by omega)) trivial).trans rfl
  ·intro i _ hi _ rec hrec
   simp only [F221_R2,lt_cast,hi,decide_true,cond_true,gd_pos,get_nth hi,Option.bind_some,wrap_up i _ hi (by omega)]
   rw [drop_cons_nth hi,firstAt,hrec () trivial]
   cases t==nth l i<;>rfl
  ·intro _ _ rec
   simp only [F221_R2,lt_cast,Nat.lt_irrefl,decide_false,cond_false,List.drop_length,firstAt]
 rw [this,Option.bind_some]
 simp only [firstAt_any]
theorem any_take (l:List TPage) (z:Int):∀ i,i≤l.length→((l.take i).map (·.1)).any (fun x=>z==x) = !allF (fun k=>!((nth l k).1==z)) 0 i:=by
 intro i hi
 rw [Bool.eq_iff_iff,List.any_eq_true,Bool.not_eq_true',←Bool.not_eq_true,allF_iff]
 constructor
 ·rintro ⟨x,hx,he⟩ h
  obtain ⟨p,hp,rfl⟩:=List.mem_map.1 hx
  obtain ⟨k,hk,rfl⟩:=List.getElem_of_mem hp
  rw [List.length_take] at hk
  have:=h k (Nat.zero_le _) (by omega)
  rw [nth_eq (by omega:k<l.length)] at this
  rw [List.getElem_take] at he
  rw [beq_iff_eq] at he
  rw [he] at this
  simp at this
 ·intro h
  by_cases hx:∃ k,k<i∧(nth l k).1=z
  ·obtain ⟨k,hk,he⟩:=hx
   refine ⟨z,List.mem_map.2 ⟨nth l k,?_,he⟩,by simp⟩
   rw [nth_eq (by omega:k<l.length)]
   exact List.mem_iff_getElem.2 ⟨k,by rw [List.length_take];omega,by rw [List.getElem_take]⟩
  ·exfalso
   refine h fun k _ hk=>?_
   have:¬(nth l k).1=z:=fun e=>hx ⟨k,by omega,e⟩
   simpa using this
theorem implTreeOK_eq (t:TTree) (ht:LTree 1048576 t):F104 t=some (treeM t,()):=by
 unfold F104 treeM
 have hl:=ht.1
 simp only [inRange_eq,Option.bind_some]
 cases h1:inR ((t.1.length:Nat):Int) 1 60
 ·rfl
 cases h2:inR t.2.1 2 100000
 ·rfl
 simp only [Bool.not_true,cond_false,Bool.true_and]
 have hT:2≤t.2.1∧t.2.1≤100000:=by simpa [inR] using h2
 have hn':1≤((t.1.length:Nat):Int)∧((t.1.length:Nat):Int)≤60:=by simpa [inR] using h1
 have hn:t.1.length≤60:=by omega
 have hw:IntKind.wrap IntKind.i64 (t.2.1-1)=t.2.1-1:=wrapI _ (by omega) (by omega)
 have rises:(∀ p,p∈t.1→p.2.1.length≤4)→(Option.bind (F106 t) fun y16=>(iter (F104_R13 (fun y28=>(some (true,()))) (fun y29=>(some (y29.1,())))) fuel ((((List.length y16.1):Nat):Int),(0:Int),y16.1,())))=some (risesE (flatE t.1),()):=by
  intro hp
  rw [entries_eq t hn hp,Option.bind_some]
  have hL:(flatE t.1).length≤240:=by
   have:=flat_take_len t.1 hp t.1.length (Nat.le_refl _)
   rw [List.take_length] at this
   omega
  generalize flatE t.1=L at hL
  refine (iter_all (fun i=>(((L.length:Nat):Int),(i:Int),L,())) (fun i=>entryM (nth L i)&&(decide (i=0)||lessE (nth L (i-1)) (nth L i))) (some (true,())) (some (false,())) L.length 0 fuel ?_ ?_ (fuel_gt (by omega))).trans ?_
  ·intro i _ hi rec
   have hi':i<L.length:=by omega
   simp only [F104_R13,lt_cast,hi',decide_true,cond_true,gd_pos,gd_true,get_nth hi',Option.bind_some,implEntry_eq,wrap_up i _ hi' (by omega),gt_zero]
   cases entryM (nth L i)
   ·rfl
   cases i with
   |zero=>rfl
   |succ i=>
    have hi2:i<L.length:=by omega
    have e1:IntKind.wrap IntKind.i64 (((i+1:Nat):Int)-1)=(i:Int):=by rw [wrapI _ (by omega) (by omega)];omega
    simp only [Nat.succ_pos,decide_true,cond_true,Bool.not_true,cond_false,e1,gd_pos,lt_cast,hi2,gd_true,get_nth hi2,Option.bind_some,compareE_eq,cmpE_ge,Nat.add_sub_cancel,Nat.succ_ne_zero,decide_false,Bool.false_or,Bool.true_and]
    cases lessE (nth L i) (nth L (i+1))<;>rfl
  ·intro rec
   have:¬(0+L.length<L.length):=by omega
   simp only [F104_R13,lt_cast,this,decide_false,cond_false]
  ·unfold risesE
   cases allF _ 0 L.length<;>rfl
 have key:∀ (m s k:Nat) (hs:s+m=t.1.length),m<k→(∀ i,i<s→(nth t.1 i).2.1.length≤4)→
   iter (F104_R5 (fun y14=>(Option.bind (F106 y14.1) fun y16=>(iter (F104_R13 (fun y28=>(some (true,()))) (fun y29=>(some (y29.1,())))) fuel ((((List.length y16.1):Nat):Int),(0:Int),y16.1,())))) (fun y15=>(some (y15.1,())))) k (t.1,(((List.length t.1):Nat):Int),(s:Int),t,(t.1.take s).map (·.1),()) =
   some (allF (pageAt t) s m&&risesE (flatE t.1),()):=by
  intro m
  induction m with
  |zero=>
   intro s k hs hk hb
   cases k with
   |zero=>omega
   |succ k=>
    have:¬s<t.1.length:=by omega
    simp only [iter,F104_R5,lt_cast,this,decide_false,cond_false,allF,Bool.true_and]
    exact rises fun p hp=>by
     obtain ⟨i,hi,rfl⟩:=mem_nth hp
     exact hb i (by omega)
  |succ m ih=>
   intro s k hs hk hb
   cases k with
   |zero=>omega
   |succ k=>
    have hi:s<t.1.length:=by omega
    have hcon:=hasInt_eq ((t.1.take s).map (·.1)) (nth t.1 s).1 (by simp;omega)
    rw [any_take t.1 _ s (by omega)] at hcon
    simp only [iter,F104_R5,lt_cast,hi,decide_true,cond_true,gd_pos,get_nth hi,Option.bind_some,hw,hcon,inRange_eq,wrap_up s _ hi (by omega)]
    rw [allF]
    have hp:pageAt t s=(inR (nth t.1 s).1 1 (t.2.1-1)&&(decide ((((nth t.1 s).2.1.length:Nat):Int)≤4)&&(!(((nth t.1 s).2.1.length==0)&&decide (1<t.1.length))&&allF (fun k=>!((nth t.1 k).1==(nth t.1 s).1)) 0 s))):=rfl
    rw [hp]
    cases inR (nth t.1 s).1 1 (t.2.1-1)
    ·rfl
    have hgt:decide ((((nth t.1 s).2.1.length:Nat):Int)>4) = !decide ((((nth t.1 s).2.1.length:Nat):Int)≤4):=by
     by_cases h:(((nth t.1 s).2.1.length:Nat):Int)≤4
     ·have:¬(((nth t.1 s).2.1.length:Nat):Int)>4:=by omega
      simp only [h,this,decide_true,decide_false,Bool.not_true]
     ·have:(((nth t.1 s).2.1.length:Nat):Int)>4:=by omega
      simp only [h,this,decide_true,decide_false,Bool.not_false]
    have hgt1:decide (((t.1.length:Nat):Int)>1)=decide (1<t.1.length):=by
     by_cases h:1<t.1.length
     ·have:((t.1.length:Nat):Int)>1:=by omega
      simp only [h,this]
     ·have:¬((t.1.length:Nat):Int)>1:=by omega
      simp only [h,this]
    have heq:((((nth t.1 s).2.1.length:Nat):Int)==0)=((nth t.1 s).2.1.length==0):=by
     rw [Bool.eq_iff_iff,beq_iff_eq,beq_iff_eq];omega
    rw [hgt,hgt1,heq]
    have hnx:(t.1.take s).map (·.1)++[(nth t.1 s).1]=(t.1.take (s+1)).map (·.1):=by
     rw [List.take_add_one,get_nth' hi];simp
    have hlim:((t.1.take s).map (·.1)).length+[(nth t.1 s).1].length≤lim:=by
     simp only [List.length_map,List.length_take,List.length_singleton,lim];omega
    cases allF (fun k=>!((nth t.1 k).1==(nth t.1 s).1)) 0 s
    ·cases decide ((((nth t.1 s).2.1.length:Nat):Int)≤4)<;>cases (nth t.1 s).2.1.length==0<;>cases decide (1<t.1.length)<;>rfl
    cases h4:decide ((((nth t.1 s).2.1.length:Nat):Int)≤4)
    ·rfl
    have h4' :=of_decide_eq_true h4
    have hb':∀ i,i<s+1→(nth t.1 i).2.1.length≤4:=fun i hi' =>by
     by_cases e:i=s
     ·subst e;omega
     ·exact hb i (by omega)
    have nx:=ih (s+1) k (by omega) (by omega) hb'
    cases (nth t.1 s).2.1.length==0
    ·simp only [Bool.not_true,Bool.false_and,Bool.not_false,Bool.true_and,cond_false,Bool.and_true]
     rw [gd_if hlim,hnx]
     exact nx
    ·cases decide (1<t.1.length)
     ·simp only [Bool.not_true,Bool.and_false,Bool.not_false,Bool.true_and,cond_false,cond_true,Bool.and_true]
      rw [gd_if hlim,hnx]
      exact nx
     ·rfl
 exact key t.1.length 0 fuel (by omega) (fuel_gt (by omega)) (fun i hi=>by omega)
theorem head_get {l:List TEntry} {a:TEntry} {r:List TEntry} (h:l=a::r):l[Int.toNat (0:Int)]? = some a:=by subst h;rfl
theorem gt_len {l:List TEntry}:decide (((l.length:Nat):Int)>0) = !l.isEmpty:=by
 cases l with
 |nil=>rfl
 |cons a r=>rw [decide_eq_true (by simp only [List.length_cons];omega)];rfl
theorem placeF_cons (e:TEntry) (p:TPage) (l:List TPage) (i c:Nat):placeF e (p::l) i c=placeF e l (i+1) (match p.2.1 with | []=>c | a::_=>cond (lessE e a) c i):=rfl
theorem specPlace_eq (t:TTree) (e:TEntry) (h:t.1.length≤1048576) (h0:1≤t.1.length):F137 t e=some (((placeM t e:Nat):Int),()):=by
 unfold F137 placeM
 have e0:placeF e t.1 0 0=placeF e (t.1.drop 1) 1 0:=by
  cases ht:t.1 with
  |nil=>rw [ht] at h0;simp at h0
  |cons p l=>
   rw [List.drop_one,List.tail_cons,placeF_cons]
   cases p.2.1 with
   |nil=>rfl
   |cons a r=>cases h:lessE e a<;>simp [h]
 rw [e0]
 refine (iter_go (S:=Nat) (fun i c=>(((c:Nat):Int),(i:Int),t,e,())) (fun i c=>some (((placeF e (t.1.drop i) i c:Nat):Int),())) t.1.length (fun _ _=>True) ?_ ?_ fuel 1 0 h0 (fuel_gt (by omega)) trivial).trans rfl
 ·intro i c hi _ rec hrec
  simp only [F137_R3,lt_cast,hi,decide_true,cond_true,gd_pos,get_nth hi,Option.bind_some,wrap_up i _ hi (by omega),gt_len]
  rw [drop_cons_nth hi,placeF_cons]
  cases hp:(nth t.1 i).2.1 with
  |nil=>exact hrec c trivial
  |cons a r=>
   simp only [List.isEmpty_cons,Bool.not_false,cond_true,head_get rfl,Option.bind_some,specLessE_eq]
   cases lessE e a
   ·exact hrec i trivial
   ·exact hrec c trivial
 ·intro c _ rec
  simp only [F137_R3,lt_cast,Nat.lt_irrefl,decide_false,cond_false,List.drop_length]
  rfl
theorem implPlace_eq (t:TTree) (e:TEntry) (h:t.1.length≤1048576):F109 t e=some (((placeM t e:Nat):Int),()):=by
 unfold F109 placeM
 refine (iter_go (S:=Nat) (fun i c=>(((c:Nat):Int),t.1,((t.1.length:Nat):Int),(i:Int),e,())) (fun i c=>some (((placeF e (t.1.drop i) i c:Nat):Int),())) t.1.length (fun _ _=>True) ?_ ?_ fuel 0 0 (Nat.zero_le _) (fuel_gt (by omega)) trivial).trans rfl
 ·intro i c hi _ rec hrec
  simp only [F109_R3,lt_cast,hi,decide_true,cond_true,gd_pos,get_nth hi,Option.bind_some,wrap_up i _ hi (by omega),gt_len]
  rw [drop_cons_nth hi,placeF_cons]
  cases hp:(nth t.1 i).2.1 with
  |nil=>exact hrec c trivial
  |cons a r=>
   simp only [List.isEmpty_cons,Bool.not_false,cond_true,head_get rfl,Option.bind_some,compareE_eq,cmpE_le]
   cases lessE e a
   ·exact hrec i trivial
   ·exact hrec c trivial
 ·intro c _ rec
  simp only [F109_R3,lt_cast,Nat.lt_irrefl,decide_false,cond_false,List.drop_length]
  rfl
theorem placeM_lt {t:TTree} (h:Tree t) (e:TEntry):placeM t e<t.1.length:=by
 rcases placeM_ok t e with h0 | h0
 ·rw [h0];exact h.one
 ·exact h0.1
theorem flat_drop (l:List TPage) {k:Nat} (h:k<l.length):flatE (l.drop k)=(nth l k).2.1++flatE (l.drop (k+1)):=by
 rw [drop_cons_nth h];unfold flatE;rw [List.flatMap_cons]
theorem specRange_eq (t:TTree) (i:TInterval) (h:Tree t):∃ nums,F87 t i=some (rangeM t i,nums,()):=by
 unfold F87
 rw [specPlace_eq t _ (by have:=h.len;omega) h.one,Option.bind_some,range_ahead h i]
 have hlt:=placeM_lt h (i.1,-1,())
 generalize placeM t (i.1,-1,())=b at hlt
 have hfl:=h.flat_len
 have hlen:=h.len
 have key:∀ (m k n:Nat) (out:List TEntry) (nums:List Int),k+m=t.1.length→m<n→b≤k→nums.length≤k→out.length≤(flatE (t.1.take k)).length→
   ∃ nums',iter (F87_R5 (fun y22=>(some (y22.1,(y22.2.1,()))))) n ((b:Int),(k:Int),t,i,out,nums,())=some (out++(flatE (t.1.drop k)).filter (fun e=>hasM i e.1),nums',()):=by
  intro m
  induction m with
  |zero=>
   intro k n out nums hk hn _ _ _
   cases n with
   |zero=>omega
   |succ n=>
    have:¬k<t.1.length:=by omega
    simp only [iter,F87_R5,lt_cast,this,decide_false,cond_false]
    rw [List.drop_eq_nil_of_le (by omega)]
    exact ⟨nums,by simp [flatE]⟩
  |succ m ih=>
   intro k n out nums hk hn hb hnl hol
   cases n with
   |zero=>omega
   |succ n=>
    have hi:k<t.1.length:=by omega
    have hp4:=(h.page _ (nth_mem hi)).1
    have hfs:(flatE (t.1.take (k+1))).length≤240:=by
     have:=flatE_split t.1 (k+1)
     have e:=congrArg List.length this
     rw [List.length_append] at e
     omega
    have hs:=flat_snoc t.1 hi
    have hs' :=congrArg List.length hs
    rw [List.length_append] at hs'
    have inner:∀ (nums:List Int) (hnl:nums.length≤k+1),∃ nums',iter (F87_R11 (fun y21=>(iter (F87_R5 (fun y22=>(some (y22.1,(y22.2.1,()))))) n (y21.1,(IntKind.wrap IntKind.i64 (y21.2.1+(1:Int))),y21.2.2.1,y21.2.2.2.1,y21.2.2.2.2.1,y21.2.2.2.2.2.1,())))) fuel ((b:Int),(k:Int),(nth t.1 k).2.1,(0:Int),t,i,out,nums,()) =
      some (out++(flatE (t.1.drop k)).filter (fun e=>hasM i e.1),nums',()):=by
     intro nums hnl
     rw [flat_drop t.1 hi,List.filter_append,←List.append_assoc]
     have len2:(out++(nth t.1 k).2.1.filter fun e=>hasM i e.1).length≤(flatE (t.1.take (k+1))).length:=by
      have:=List.length_filter_le (fun e:TEntry=>hasM i e.1) (nth t.1 k).2.1
      rw [List.length_append];omega
     obtain ⟨nums',e⟩:=ih (k+1) n (out++(nth t.1 k).2.1.filter fun e=>hasM i e.1) nums (by omega) (by omega) (by omega) hnl len2
     refine ⟨nums',?_⟩
     rw [←e]
     refine (iter_go (S:=List TEntry) (fun j o=>((b:Int),(k:Int),(nth t.1 k).2.1,(j:Int),t,i,o,nums,())) (fun j o=>iter (F87_R5 (fun y22=>(some (y22.1,(y22.2.1,()))))) n ((b:Int),((k+1:Nat):Int),t,i,o++((nth t.1 k).2.1.drop j).filter (fun e=>hasM i e.1),nums,())) (nth t.1 k).2.1.length (fun j o=>o.length≤out.length+j) ?_ ?_ fuel 0 out (Nat.zero_le _) (fuel_gt (by omega)) (by omega)).trans (by rw [List.drop_zero])
     ·intro j o hj ho rec hrec
      simp only [F87_R11,lt_cast,hj,decide_true,cond_true,gd_pos,get_nth hj,Option.bind_some,specHas_eq,wrap_up j _ hj (by omega)]
      rw [drop_cons_nth hj]
      cases hh:hasM i (nth (nth t.1 k).2.1 j).1 with
      |true=>
       rw [cond_true,gd_if (by simp only [lim,List.length_singleton];omega),hrec _ (by simp only [List.length_append,List.length_singleton];omega),List.filter_cons_of_pos (by exact hh)]
       simp only [List.append_assoc,List.singleton_append]
      |false=>rw [cond_false,hrec _ (by omega),List.filter_cons_of_neg (by simp [hh])]
     ·intro o _ rec
      simp only [F87_R11,lt_cast,Nat.lt_irrefl,decide_false,cond_false,List.drop_length,List.filter_nil,List.append_nil,wrap_up k _ hi (by omega)]
    have hgl:nums.length+[(nth t.1 k).1].length≤lim:=by simp only [lim,List.length_singleton];have:=h.len;omega
    have hgt:decide ((k:Int)>(b:Int))=decide (b<k):=by
     by_cases hlt:b<k
     ·rw [decide_eq_true hlt,decide_eq_true (by omega)]
     ·rw [decide_eq_false hlt,decide_eq_false (by omega)]
    simp only [iter,F87_R5,lt_cast,hi,decide_true,cond_true,gd_pos,get_nth hi,Option.bind_some,gt_len,hgt,gd_if hgl]
    have fin:=inner (nums++[(nth t.1 k).1]) (by simp only [List.length_append,List.length_singleton];omega)
    cases decide (b<k)
    ·exact fin
    cases ho:i.2.2.1
    ·cases hp:(nth t.1 k).2.1 with
     |nil=>rw [hp] at fin;exact fin
     |cons a r=>
      simp only [Bool.not_false,cond_true,List.isEmpty_cons,head_get rfl,Option.bind_some]
      cases ha:Op.bytesLess a.1 i.2.1
      ·simp only [Bool.not_false,cond_true]
       exact ⟨nums,by rw [range_behind h i hi hp ho ha,List.append_nil]⟩
      ·simp only [Bool.not_true,cond_false]
       rw [hp] at fin
       exact fin
    ·exact fin
 obtain ⟨nums',e⟩:=key (t.1.length-b) b fuel [] [] (by omega) (fuel_gt (by have:=h.len;omega)) (Nat.le_refl _) (by simp) (by simp)
 exact ⟨nums',e⟩
theorem delete_entry (p:TEntry→Bool) (l) (f) (hf:∀ x,x∈l→f x=some (p x)) (hl:l.length≤1048576):F105 l f=some (l.filter (fun x=>!p x),()):=by
 unfold F105
 rw [show F112 l f=ixF l f from rfl,ixF_eq p l f hf (by omega),Option.bind_some]
 rcases firstAt_del p 0 l with ⟨h1,h2⟩ | ⟨j,h1,h2,h3⟩
 ·exact (delX_no _ _ h1 (fun a b=>iter _ fuel (f,a,b,l,()))).trans (congrArg (fun x=>some (x,())) h2.symm)
 ·rw [Nat.zero_add] at h1
  refine (delX_at _ _ h1 h2 (by omega) (fun a b=>iter _ fuel (f,a,b,l,()))).trans ?_
  obtain ⟨i',s',e,g1,g2,g3⟩:=df_loop p l f hf hl (delX (.pair .str (.pair (.int .i64) .unit))) (l.length-(j+1)) (j+1) j fuel l (by omega) (fuel_gt (by omega)) rfl (by omega) h3.symm rfl
  have g4:i' ≤s'.length:=by rw [g3];exact g2
  exact (e.trans (del_E (.pair .str (.pair (.int .i64) .unit)) s' i' g4)).trans (congrArg (fun x=>some (x,())) g1)
theorem implRange_eq (t:TTree) (i:TInterval) (ht:LTree 1048576 t) (hm:treeM t=true):∃ nums,F49 t i=some (rangeM t i,nums,0,()):=by
 have h:=treeM_tree hm
 unfold F49
 rw [implTreeOK_eq t ht,Option.bind_some,hm]
 simp only [Bool.not_true,cond_false]
 have hfl:=h.flat_len
 rw [entries_eq t h.len fun p hp=>(h.page p hp).1,Option.bind_some,delete_entry (fun e=>!hasM i e.1) (flatE t.1) _ (fun e he=>by
  unfold F107
  rw [implHas_eq];rfl) (by omega),Option.bind_some,implPlace_eq t _ (by have:=h.len;omega),Option.bind_some]
 simp only [Bool.not_not]
 have hlt:=placeM_lt h (i.1,-1,())
 generalize placeM t (i.1,-1,())=b at hlt
 try dsimp only
 rw [gd_le,gd_pos,gd_if (by rw [Int.toNat_natCast];omega)]
 simp only [Int.toNat_natCast,List.take_length]
 have hDl:(t.1.drop b).length≤60:=by have:=h.len;simp;omega
 have hD:∀ p,p∈t.1.drop b→(1<(t.1.drop b).length→p.2.1≠[]):=fun p hp hlen=>(h.page p (List.mem_of_mem_drop hp)).2 (by rw [List.length_drop] at hlen;omega)
 generalize t.1.drop b=D at hDl hD
 have key:∀ (m k n:Nat) (nums:List Int),k+m=D.length→m<n→nums.length≤k→∃ nums',iter (F49_R6 (fun y15=>(some (y15.1,(y15.2.1,((0:Int),())))))) n (D,((D.length:Nat):Int),(k:Int),i,(flatE t.1).filter (fun e=>hasM i e.1),nums,())=some ((flatE t.1).filter (fun e=>hasM i e.1),nums',0,()):=by
  intro m
  induction m with
  |zero=>
   intro k n nums hk hn _
   cases n with
   |zero=>omega
   |succ n=>
    have:¬k<D.length:=by omega
    simp only [iter,F49_R6,lt_cast,this,decide_false,cond_false]
    exact ⟨_,rfl⟩
  |succ m ih=>
   intro k n nums hk hn hnl
   cases n with
   |zero=>omega
   |succ n=>
    have hi:k<D.length:=by omega
    have hgl:nums.length+[(nth D k).1].length≤lim:=by simp only [lim,List.length_singleton];omega
    simp only [iter,F49_R6,lt_cast,hi,decide_true,cond_true,gd_pos,get_nth hi,Option.bind_some,gd_if hgl,wrap_up k _ hi (by omega),gt_zero]
    have nx:=ih (k+1) n (nums++[(nth D k).1]) (by omega) (by omega) (by simp only [List.length_append,List.length_singleton];omega)
    by_cases h0:0<k
    ·rw [decide_eq_true h0,cond_true]
     cases i.2.2.1
     ·cases hp:(nth D k).2.1 with
      |nil=>exact absurd hp (hD _ (nth_mem hi) (by omega))
      |cons a r=>
       simp only [Bool.not_false,cond_true,head_get rfl,Option.bind_some]
       cases Op.bytesLess a.1 i.2.1
       ·exact ⟨_,rfl⟩
       ·exact nx
     ·exact nx
    ·rw [decide_eq_false h0,cond_false]
     exact nx
 obtain ⟨nums',e⟩:=key D.length 0 fuel [] (by omega) (fuel_gt (by omega)) (by simp)
 exact ⟨nums',e⟩
def indexM (x:TIndex):Bool:=defM x.1&&treeM x.2.1
def indexesM (l:List TIndex):Bool:=allF (fun i=>indexM (nth l i)&&allF (fun k=>!((nth l k).1.1==(nth l i).1.1)) 0 i) 0 l.length&&decide (((l.length:Nat):Int)≤3)
def atM (l:List TIndex) (name:List UInt8):Int:=firstAt (fun x:TIndex=>x.1.1==name) 0 l
theorem specIndex_eq (x:TIndex) (h:LIndex 1048576 x):F86 x=some (indexM x,()):=by
 unfold F86 indexM
 rw [specDefOK_eq x.1 h.1,specTreeOK_eq x.2.1 h.2,Option.bind_some,Option.bind_some]
 cases defM x.1<;>rfl
theorem implIndex_eq (x:TIndex) (h:LIndex 1048576 x):F99 x=some (indexM x,()):=by
 unfold F99 indexM
 rw [implDefOK_eq x.1 h.1,implTreeOK_eq x.2.1 h.2,Option.bind_some,Option.bind_some]
 cases defM x.1<;>rfl
theorem l07Find_eq (l:List TIndex) (name:List UInt8) (h:l.length≤1048576):F36 l name=some (atM l name,()):=by
 unfold F36 atM
 refine (iter_go (S:=Unit) (fun i _=>(l,name,(i:Int),())) (fun i _=>some (firstAt (fun x:TIndex=>x.1.1==name) i (l.drop i),())) l.length (fun _ _=>True) ?_ ?_ fuel 0 () (Nat.zero_le _) (fuel_gt (by omega)) trivial).trans rfl
 ·intro i _ hi _ rec hrec
  simp only [F36_R2,lt_cast,hi,decide_true,cond_true,gd_pos,get_nth hi,Option.bind_some,wrap_up i _ hi (by omega)]
  rw [drop_cons_nth hi,firstAt,hrec () trivial]
  cases (nth l i).1.1==name<;>rfl
 ·intro _ _ rec
  simp only [F36_R2,lt_cast,Nat.lt_irrefl,decide_false,cond_false,List.drop_length,firstAt]
theorem indexAt_eq (l:List TIndex) (name:List UInt8) (h:l.length≤1048576):F44 l name=some (atM l name,()):=by
 unfold F44 atM
 have e:=ixF_eq (fun x:TIndex=>x.1.1==name) l (fun v3:TIndex=>Option.map (fun v4:Bool×Unit=>v4.1) (F92 v3 name)) (fun x _=>rfl) (by omega)
 exact congrArg (fun o:Option (Int×Unit)=>Option.bind o fun y0=>some (y0.1,())) e
theorem firstAt_ahead {α:Type} [Inhabited α] (p:α→Bool) (l:List α) {i:Nat} (hi:i<l.length) (hp:p (nth l i)=true):decide (firstAt p 0 l<(i:Int)) = !allF (fun k=>!p (nth l k)) 0 i:=by
 rcases firstAt_spec p 0 l with ⟨_,h⟩ | ⟨r,hr,h1,h2,h3⟩
 ·rw [h i hi] at hp;cases hp
 ·rw [h1,Nat.zero_add]
  by_cases hlt:r<i
  ·rw [decide_eq_true (by omega),eq_comm,Bool.not_eq_true',←Bool.not_eq_true,allF_iff]
   intro g
   have:=g r (Nat.zero_le _) (by omega)
   rw [h2] at this;cases this
  ·rw [decide_eq_false (by omega),eq_comm,Bool.not_eq_false',allF_iff]
   intro k _ hk
   rw [h3 k (by omega)];rfl
theorem specIndexes_eq (l:List TIndex) (h:LS LIndex 1048576 l):F35 l=some (indexesM l,()):=by
 unfold F35 indexesM
 have hl:=h.1
 refine (iter_all (fun i=>(l,(i:Int),())) (fun i=>indexM (nth l i)&&allF (fun k=>!((nth l k).1.1==(nth l i).1.1)) 0 i) (some (decide (((l.length:Nat):Int)≤3),())) (some (false,())) l.length 0 fuel ?_ ?_ (fuel_gt (by omega))).trans ?_
 ·intro i _ hi rec
  have hi':i<l.length:=by omega
  have hx:=h.2 _ (nth_mem hi')
  simp only [F35_R2,lt_cast,hi',decide_true,cond_true,gd_pos,get_nth hi',Option.bind_some,specIndex_eq _ hx]
  cases indexM (nth l i)
  ·rfl
  simp only [Bool.not_true,cond_false,Bool.true_and]
  refine (iter_all (fun k=>(l,(i:Int),(k:Int),())) (fun k=>!((nth l k).1.1==(nth l i).1.1)) (rec (l,((i+1:Nat):Int),())) (some (false,())) i 0 fuel ?_ ?_ (fuel_gt (by omega))).trans rfl
  ·intro k _ hk rec'
   have hk':k<i:=by omega
   have hkl:k<l.length:=by omega
   simp only [F35_R7,lt_cast,hk',decide_true,cond_true,gd_pos,get_nth hi',get_nth hkl,Option.bind_some,wrap_up k _ hkl (by omega)]
   cases (nth l k).1.1==(nth l i).1.1<;>rfl
  ·intro rec'
   have:¬(0+i<i):=by omega
   simp only [F35_R7,lt_cast,this,decide_false,cond_false,wrap_up i _ hi' (by omega)]
 ·intro rec
  have:¬(0+l.length<l.length):=by omega
  simp only [F35_R2,lt_cast,this,decide_false,cond_false]
 ·cases allF (fun i=>indexM (nth l i)&&allF (fun k=>!((nth l k).1.1==(nth l i).1.1)) 0 i) 0 l.length<;>rfl
theorem areIndexes_eq (l:List TIndex) (h:LS LIndex 1048576 l):F47 l=some (indexesM l,()):=by
 unfold F47 indexesM
 have hl:=h.1
 refine (iter_all (fun i=>(l,l,((l.length:Nat):Int),(i:Int),())) (fun i=>indexM (nth l i)&&allF (fun k=>!((nth l k).1.1==(nth l i).1.1)) 0 i) (some (decide (((l.length:Nat):Int)≤3),())) (some (false,())) l.length 0 fuel ?_ ?_ (fuel_gt (by omega))).trans ?_
 ·intro i _ hi rec
  have hi':i<l.length:=by omega
  have hx:=h.2 _ (nth_mem hi')
  have hb:=firstAt_ahead (fun x:TIndex=>x.1.1==(nth l i).1.1) l hi' (by simp)
  simp only [F47_R2,lt_cast,hi',decide_true,cond_true,gd_pos,get_nth hi',Option.bind_some,implIndex_eq _ hx,indexAt_eq l _ hl,wrap_up i _ hi' (by omega)]
  unfold atM
  rw [hb]
  cases indexM (nth l i)
  ·rfl
  cases allF (fun k=>!((nth l k).1.1==(nth l i).1.1)) 0 i<;>rfl
 ·intro rec
  have:¬(0+l.length<l.length):=by omega
  simp only [F47_R2,lt_cast,this,decide_false,cond_false]
 ·cases allF (fun i=>indexM (nth l i)&&allF (fun k=>!((nth l k).1.1==(nth l i).1.1)) 0 i) 0 l.length<;>rfl
theorem indexesM_facts {l:List TIndex} (h:indexesM l=true):∀ x,x∈l→indexM x=true:=by
 intro x hx
 obtain ⟨i,hi,rfl⟩:=mem_nth hx
 unfold indexesM at h
 rw [Bool.and_eq_true,allF_iff] at h
 have:=h.1 i (Nat.zero_le _) (by omega)
 rw [Bool.and_eq_true] at this
 exact this.1
theorem atM_nil {l:List TIndex} (h:indexesM l=true):atM l []<0:=by
 unfold atM
 have:=firstAt_neg (fun x:TIndex=>x.1.1==([]:List UInt8)) 0 l
 have e:l.any (fun x:TIndex=>x.1.1==([]:List UInt8))=false:=by
  rw [List.any_eq_false]
  intro x hx
  have h1:=indexesM_facts h x hx
  unfold indexM defM shortM nameM inR at h1
  simp only [Bool.and_eq_true,decide_eq_true_eq] at h1
  have:1≤x.1.1.length:=by omega
  intro e
  rw [beq_iff_eq] at e
  rw [e] at this
  simp at this
 rw [e] at this
 exact of_decide_eq_true this
def hitM (found:List TEntry) (d:TVal):Bool:=found.any fun e=>e.2.1==idM d
theorem specRun_eq (p:TPlan) (q:TQuery) (docs:List TVal) (list:List TIndex) (hq:queryM q=true) (hd:Docs docs) (hl:list.length≤1048576) (hI:indexesM list=true) :
  F37 p q docs list=some (if atM list p.1<0 then findM q docs else findM q (docs.filter (hitM (rangeM (nth list (atM list p.1).toNat).2.1 p.2.1))),()):=by
 unfold F37
 rw [l07Find_eq list p.1 hl,Option.bind_some]
 by_cases h0:atM list p.1<0
 ·rw [if_pos h0]
  dsimp only
  rw [decide_eq_true h0,cond_true,specFinish_eq q docs hq hd];rfl
 rw [if_neg h0]
 dsimp only
 rw [decide_eq_false h0,cond_false]
 obtain ⟨k,hk⟩:∃ k:Nat,atM list p.1=(k:Int):=⟨(atM list p.1).toNat,by omega⟩
 have hkl:k<list.length:=by
  rcases firstAt_spec (fun x:TIndex=>x.1.1==p.1) 0 list with ⟨h1,_⟩ | ⟨r,hr,h1,_⟩
  ·unfold atM at hk;omega
  ·unfold atM at hk;omega
 rw [hk,gd_pos,get_nth hkl,Option.bind_some,Int.toNat_natCast]
 have hT:=treeM_tree (by have:=indexesM_facts hI _ (nth_mem hkl);unfold indexM at this;rw [Bool.and_eq_true] at this;exact this.2)
 obtain ⟨nums,e⟩:=specRange_eq (nth list k).2.1 p.2.1 hT
 rw [e,Option.bind_some]
 have hfl:(rangeM (nth list k).2.1 p.2.1).length≤240:=Nat.le_trans (List.length_filter_le _ _) hT.flat_len
 generalize rangeM (nth list k).2.1 p.2.1=E at hfl
 have hdl:=hd.len
 refine (iter_go (S:=List TVal) (fun i out=>(docs,E,(i:Int),q,out,())) (fun i out=>some (findM q (out++(docs.drop i).filter (hitM E)),())) docs.length (fun i out=>out=(docs.take i).filter (hitM E)) ?_ ?_ fuel 0 [] (Nat.zero_le _) (fuel_gt (by omega)) rfl).trans rfl
 ·intro i out hi ho rec hrec
  have hg:=hd.good _ (nth_mem hi)
  have hol:out.length≤docs.length:=by rw [ho];exact Nat.le_trans (List.length_filter_le _ _) (by simp;omega)
  have ht:(docs.take (i+1)).filter (hitM E)=(docs.take i).filter (hitM E)++[nth docs i].filter (hitM E):=by
   rw [←List.filter_append,List.take_add_one,get_nth' hi];rfl
  simp only [F37_R7,lt_cast,hi,decide_true,cond_true]
  refine (iter_go (S:=Bool) (fun n s=>(docs,E,(i:Int),s,(n:Int),q,out,())) (fun n s=>cond (s||(E.drop n).any fun e=>e.2.1==idM (nth docs i)) (rec (docs,E,((i+1:Nat):Int),q,out++[nth docs i],())) (rec (docs,E,((i+1:Nat):Int),q,out,()))) E.length (fun _ _=>True) ?_ ?_ fuel 0 false (Nat.zero_le _) (fuel_gt (by omega)) trivial).trans ?_
  ·intro n s hn _ rec' hrec'
   simp only [F37_R11,lt_cast,hn,decide_true,cond_true,gd_pos,get_nth hi,get_nth hn,Option.bind_some,l06Id_eq _ hg.sm,wrap_up n _ hn (by omega)]
   rw [drop_cons_nth hn,List.any_cons]
   cases s with
   |true=>rw [cond_true,hrec' true trivial];simp only [Bool.true_or]
   |false=>rw [cond_false,hrec' _ trivial];simp only [Bool.false_or]
  ·intro s _ rec'
   simp only [F37_R11,lt_cast,Nat.lt_irrefl,decide_false,cond_false,List.drop_length,List.any_nil,Bool.or_false,gd_pos,get_nth hi,Option.bind_some,wrap_up i _ hi (by omega)]
   cases s with
   |true=>rw [cond_true,cond_true,gd_if (by simp only [lim,List.length_singleton];omega)]
   |false=>rfl
  ·rw [drop_cons_nth hi,List.drop_zero,Bool.false_or]
   have e1:(E.any fun e=>e.2.1==idM (nth docs i))=hitM E (nth docs i):=rfl
   rw [e1]
   cases hm:hitM E (nth docs i) with
   |true=>
    rw [cond_true,hrec _ (by rw [ht,ho];simp [hm]),List.filter_cons_of_pos hm]
    simp only [List.append_assoc,List.singleton_append]
   |false=>rw [cond_false,hrec _ (by rw [ht,ho];simp [hm]),List.filter_cons_of_neg (by simp [hm])]
 ·intro out ho rec
  rw [List.take_length] at ho
  subst ho
  simp only [F37_R7,lt_cast,Nat.lt_irrefl,decide_false,cond_false,List.drop_length,List.filter_nil,List.append_nil,specFinish_eq q _ hq (hd.filter (hitM E)),Option.bind_some]
theorem any_entry (p:TEntry→Bool) (l) (f) (hf:∀ x,x∈l→f x=some (p x)) (hl:l.length≤1048577):F54 l f=some (l.any p,()):=has_any p l f hf hl
theorem runPlan_eq (p:TPlan) (q:TQuery) (docs:List TVal) (list:List TIndex) (hq:LQuery 1048576 q) (hd:LS LVal 1048576 docs) (hl:LS LIndex 1048576 list) :
  ∃ l c,F9 p q docs list=some (l,c,())∧F14 p q docs list=some (l,c,())∧l.length≤1048576:=by
 unfold F9 F14
 rw [specQueryOK_eq q hq,implQueryOK_eq q hq,l06Docs_eq docs hd,areDocs_eq docs hd,specIndexes_eq list hl,areIndexes_eq list hl,indexAt_eq list p.1 hl.1,l07Find_eq list p.1 hl.1]
 simp only [Option.bind_some]
 cases decide (((docs.length:Nat):Int)>4096)
 case true=>exact ⟨_,_,rfl,rfl,by simp⟩
 cases decide (((list.length:Nat):Int)>4096)
 case true=>exact ⟨_,_,rfl,rfl,by simp⟩
 cases h1:queryM q
 case false=>exact ⟨_,_,rfl,rfl,by simp⟩
 cases h2:docsOkM docs
 case false=>exact ⟨_,_,rfl,rfl,by simp⟩
 cases h3:indexesM list
 case false=>exact ⟨_,_,rfl,rfl,by simp⟩
 obtain ⟨hD,h4⟩:=docsOkM_docs h2
 rw [specRun_eq p q docs list h1 hD hl.1 h3]
 simp only [Bool.not_true,cond_false]
 by_cases he:p.1=[]
 ·have hn:=atM_nil h3
  rw [he,if_pos hn]
  have h5:=findM_len q hD
  rw [find_eq q docs h1 hD]
  exact ⟨findM q docs,0,rfl,rfl,by omega⟩
 have he':(p.1==([]:List UInt8))=false:=by rw [beq_eq_false_iff_ne];exact he
 simp only [he',Bool.not_false,cond_true,cond_false]
 by_cases h0:atM list p.1<0
 ·rw [decide_eq_true h0]
  exact ⟨_,_,rfl,rfl,by simp⟩
 rw [decide_eq_false h0,if_neg h0]
 simp only [cond_false]
 obtain ⟨k,hk⟩:∃ k:Nat,atM list p.1=(k:Int):=⟨(atM list p.1).toNat,by omega⟩
 have hkl:k<list.length:=by
  rcases firstAt_spec (fun x:TIndex=>x.1.1==p.1) 0 list with ⟨h1,_⟩ | ⟨r,hr,h1,_⟩
  ·unfold atM at hk;omega
  ·unfold atM at hk;omega
 rw [hk,gd_pos,get_nth hkl,Int.toNat_natCast]
 simp only [Option.bind_some]
 have hx:=hl.2 _ (nth_mem hkl)
 have hm:treeM (nth list k).2.1=true:=by have:=indexesM_facts h3 _ (nth_mem hkl);unfold indexM at this;rw [Bool.and_eq_true] at this;exact this.2
 obtain ⟨nums,e⟩:=implRange_eq (nth list k).2.1 p.2.1 hx.2 hm
 have hfl:(rangeM (nth list k).2.1 p.2.1).length≤240:=Nat.le_trans (List.length_filter_le _ _) (treeM_tree hm).flat_len
 rw [e]
 simp only [Option.bind_some]
 generalize rangeM (nth list k).2.1 p.2.1=E at hfl
 have hDf:=hD.filter (hitM E)
 rw [cloneVal_eq docs hD.len,Option.bind_some,delete_value (fun d=>!hitM E d) docs _ (fun d hd' =>by
  have hg:=hD.good d hd'
  unfold F52
  rw [idOf_id d hg.sm hg.1 hg.2,Option.bind_some]
  have g:=any_entry (fun e=>e.2.1==idM d) E (fun v4=>Option.map (fun v5:Bool×Unit=>v5.1) (F55 v4 (idM d))) (fun e _=>rfl) (by omega)
  exact congrArg (fun o:Option (Bool×Unit)=>Option.map (fun v14:Bool×Unit=>v14.1) (Option.bind o fun y1=>some (!y1.1,()))) g) hD.len,Option.bind_some]
 simp only [Bool.not_not]
 rw [find_eq q _ h1 hDf,Option.bind_some]
 have h5:=findM_len q hDf
 have h6:=List.length_filter_le (hitM E) docs
 exact ⟨findM q (docs.filter (hitM E)),0,rfl,rfl,by omega⟩
noncomputable def markV (k:Int):TVal:=(k,k+1,mtx (k+1+1),())
noncomputable def upV (n:Nat):List TVal:=(List.range n).map fun j:Nat=>markV (1+3*(j:Int))
theorem upV_length (n:Nat):(upV n).length=n:=by simp [upV]
theorem upV_succ (n:Nat):upV (n+1)=upV n++[markV (1+3*(n:Int))]:=by simp [upV,List.range_succ]
theorem upV_get {n i:Nat} (h:i<n):(upV n)[Int.toNat (i:Int)]? = some (markV (1+3*(i:Int))):=by simp [upV,h]
theorem markValueS_eq (l:List TVal) (h:l.length≤1048576):F19 l 1=some (1+3*(l.length:Int),upV l.length,()):=by
 unfold F19
 refine Eq.trans (iter_go (S:=Int×List TVal) (fun i x=>(x.1,(i:Int),x.2,())) (fun i x=>some (1+3*(l.length:Int),upV l.length,())) l.length (fun i x=>x.1=1+3*(i:Int)∧x.2=upV i++l.drop i) ?_ ?_ fuel 0 (1,l) (Nat.zero_le _) (fuel_gt (by omega)) ⟨by simp,by simp [upV]⟩) ?_
 ·rintro i ⟨k,x⟩ hi ⟨hk,hx⟩ rec hrec
  dsimp only at hk hx
  have hlen:x.length=l.length:=by rw [hx,List.length_append,upV_length,List.length_drop];omega
  have hi':i<x.length:=by rw [hlen];exact hi
  have hxl:x.length≤1048576:=by omega
  simp (disch:=omega) only [F19_R2,lt_cast,hi',decide_true,cond_true,gd_pos,List.length_set,List.set_set,get_nth hi',get_setI hi',Option.bind_some,wrapK,mtx_ok,wrap_up i _ hi' (by omega)]
  refine hrec (_,_) ⟨by dsimp only;omega,?_⟩
  dsimp only
  have e1:Int.toNat (i:Int)=(upV i).length:=by rw [upV_length];simp
  rw [upV_succ,e1,hx,drop_cons_nth hi,List.set_append_right _ _ (Nat.le_refl _),hk]
  simp [markV]
 ·rintro ⟨k,x⟩ ⟨hk,hx⟩ rec
  dsimp only at hk hx
  have hlen:x.length=l.length:=by rw [hx,List.length_append,upV_length,List.length_drop];omega
  simp only [F19_R2,hlen,lt_cast,Nat.lt_irrefl,decide_false,cond_false]
  rw [hk,hx]
  simp
 ·rfl
theorem heldValueS_eq (n:Nat) (h:n≤1048576):F21 (upV n) 1=some (1+3*(n:Int),()):=by
 unfold F21
 refine Eq.trans (iter_go (S:=Int) (fun i k=>(upV n,k,(i:Int),())) (fun i k=>some (1+3*(n:Int),())) n (fun i k=>k=1+3*(i:Int)) ?_ ?_ fuel 0 1 (Nat.zero_le _) (fuel_gt (by omega)) (by simp)) ?_
 ·rintro i k hi hk rec hrec
  have hi':i<(upV n).length:=by rw [upV_length];exact hi
  have hg:=upV_get hi
  rw [←hk] at hg
  simp (disch:=omega) only [F21_R2,lt_cast,hi',decide_true,cond_true,gd_pos,hg,Option.bind_some,markV,bne_self_eq_false,beq_self_eq_true,Bool.not_true,cond_false,wrapK,mtx_ok,wrap_up i _ hi (by omega)]
  exact hrec _ (by omega)
 ·rintro k hk rec
  simp only [F21_R2,upV_length,lt_cast,Nat.lt_irrefl,decide_false,cond_false]
  rw [hk]
 ·rfl
theorem eqValueS_self (l:List TVal) (h:l.length≤1048576):F15 l l=some (true,()):=by
 unfold F15
 simp only [bne_self_eq_false,cond_false]
 refine Eq.trans (iter_all (fun i=>(l,l,(i:Int),())) (fun _=>true) (some (true,())) (some (false,())) l.length 0 fuel ?_ ?_ (fuel_gt (by omega))) ?_
 ·intro i _ hi rec
  have hi':i<l.length:=by omega
  have hv:F56 (nth l i) (nth l i)=some (true,()):=by
   unfold F56
   simp only [bne_self_eq_false,beq_self_eq_true,Bool.not_true,cond_false]
  simp only [F15_R4,lt_cast,hi',decide_true,cond_true,gd_pos,get_nth hi',Option.bind_some,hv,Bool.not_true,cond_false,wrap_up i _ hi' (by omega)]
 ·intro rec
  have:¬(0+l.length<l.length):=by omega
  simp only [F15_R4,lt_cast,this,decide_false,cond_false]
 ·rw [(allF_iff (fun _=>true) l.length 0).2 fun _ _ _=>rfl];rfl
abbrev yQuery:Ty:=.pair yFilter (.pair (.slice yPart) (.pair (.int .i64) (.pair (.int .i64) (.pair (.slice .str) (.pair .str .unit)))))
theorem wfQuery (x:TQuery) (h:Wf yQuery x):LQuery 9223372036854775807 x:=
 ⟨wfFilter _ h.1,wfS (e:=yPart) (α:=TPart) rfl wfPart h.2.1,wfS (e:=.str) (α:=List UInt8) rfl (fun _ h=>wfStr h) h.2.2.2.2.1,wfStr h.2.2.2.2.2.1⟩
abbrev yEntry:Ty:=.pair .str (.pair (.int .i64) .unit)
abbrev yPage:Ty:=.pair (.int .i64) (.pair (.slice yEntry) .unit)
abbrev yTree:Ty:=.pair (.slice yPage) (.pair (.int .i64) .unit)
abbrev yIndex:Ty:=.pair yDef (.pair yTree .unit)
abbrev yInterval:Ty:=.pair .str (.pair .str (.pair .bool .unit))
abbrev yPlan:Ty:=.pair .str (.pair yInterval (.pair (.int .i64) .unit))
theorem wfEntry (x:TEntry) (h:Wf yEntry x):LEntry 9223372036854775807 x:=wfStr h.1
theorem wfPage (x:TPage) (h:Wf yPage x):LPage 9223372036854775807 x:=wfS (e:=yEntry) (α:=TEntry) rfl wfEntry h.2.1
theorem wfTree (x:TTree) (h:Wf yTree x):LTree 9223372036854775807 x:=wfS (e:=yPage) (α:=TPage) rfl wfPage h.1
theorem wfIndex (x:TIndex) (h:Wf yIndex x):LIndex 9223372036854775807 x:=⟨wfDef _ h.1,wfTree _ h.2.1⟩
theorem wfPlan (x:TPlan) (h:Wf yPlan x):LPlan 9223372036854775807 x:=⟨wfStr h.1,wfStr h.2.1.1,wfStr h.2.1.2.1⟩
theorem fnExactRunPlan_law (p:TPlan) (q:TQuery) (docs:List TVal) (list:List TIndex) (hp:LPlan 9223372036854775807 p) (hq:LQuery 9223372036854775807 q) (hd:LS LVal 9223372036854775807 docs) (hl:LS LIndex 9223372036854775807 list) :
  F3 p q docs list=some (true,()):=by
 unfold F3
 obtain ⟨r,hr,hra,hL⟩:=szPlan_ok p 1048576 hp (by decide) (by decide)
 rw [hr,Option.bind_some]
 by_cases h0:r<0
 ·simp only [h0,decide_true,cond_true]
 obtain ⟨hp',hc⟩:=hL (by omega)
 obtain ⟨r1,hr1,hra1,hL1⟩:=szQuery_ok q r hq (by omega) (by omega)
 simp only [h0,decide_false,cond_false]
 rw [hr1,Option.bind_some]
 by_cases h1:r1<0
 ·simp only [h1,decide_true,cond_true]
 obtain ⟨hq',hc1⟩:=hL1 (by omega)
 obtain ⟨r2,hr2,hra2,hL2⟩:=szValueS_ok docs r1 hd (by omega) (by omega)
 simp only [h1,decide_false,cond_false]
 rw [hr2,Option.bind_some]
 by_cases h2:r2<0
 ·simp only [h2,decide_true,cond_true]
 obtain ⟨hd',hc2⟩:=hL2 (by omega)
 obtain ⟨r3,hr3,hra3,hL3⟩:=szIndexS_ok list r2 hl (by omega) (by omega)
 simp only [h2,decide_false,cond_false]
 rw [hr3,Option.bind_some]
 by_cases h3:r3<0
 ·simp only [h3,decide_true,cond_true]
 obtain ⟨hl',hc3⟩:=hL3 (by omega)
 obtain ⟨k,hk,hk0,hk1⟩:=markQuery_ok q hq' (by omega)
 obtain ⟨k2,l2,hk2,hk20,hk21⟩:=markValueS_ok docs k hd' hk0 (by omega)
 obtain ⟨k3,l3,hk3,hk30,_⟩:=markIndexS_ok list k2 hl' (by omega) (by omega)
 have hk4:¬k3<0:=by omega
 obtain ⟨l,c,e1,e2,hlen⟩:=runPlan_eq p q docs list hq' hd' hl'
 have hq2:¬(1+3*(l.length:Int)<0):=by omega
 simp only [h3,decide_false,cond_false,toPlan_ok p hp',toQuery_ok q hq',toValueS_ok docs hd',toIndexS_ok list hl',Option.bind_some,e1,e2,eqValueS_self l hlen,bne_self_eq_false,Bool.not_true,eqQuery_ok q hq',eqValueS_ok docs hd',eqIndexS_ok list hl',hk,hk2,hk3,hk4,markValueS_eq l hlen,heldValueS_eq _ hlen,hq2]
end Go.V
