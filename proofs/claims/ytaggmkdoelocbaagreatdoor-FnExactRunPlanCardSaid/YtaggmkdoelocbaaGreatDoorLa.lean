/- What the functions compute, in plain words, and the laws. No condition. -/
import Derived.Test.YtaggmkdoelocbaaGreatDoorWF5
import Derived.Lib.Bytealg
import Derived.Lib.Repeat
namespace Go.V
set_option linter.unusedVariables false
set_option linter.unusedSimpArgs false
set_option maxRecDepth 100000
theorem wrapI (z:Int) (h1 : -9223372036854775808≤z) (h2:z<9223372036854775808):IntKind.wrap .i64 z=z:=by
 simp only [IntKind.wrap,IntKind.bits,IntKind.signed]
 by_cases h:z % 18446744073709551616≥9223372036854775808
 ·simp [h];omega
 ·simp [h];omega
theorem wrapI_neg (z:Int) (h1 : -27670116110564327424≤z) (h2:z < -9223372036854775808):IntKind.wrap .i64 z=z+18446744073709551616:=by
 simp only [IntKind.wrap,IntKind.bits,IntKind.signed]
 by_cases h:z % 18446744073709551616≥9223372036854775808
 ·simp [h];omega
 ·simp [h];omega
theorem wrapI_pos (z:Int) (h1:9223372036854775808≤z) (h2:z<27670116110564327424):IntKind.wrap .i64 z=z-18446744073709551616:=by
 simp only [IntKind.wrap,IntKind.bits,IntKind.signed]
 by_cases h:z % 18446744073709551616≥9223372036854775808
 ·simp [h];omega
 ·simp [h];omega
theorem wrap_up (i n:Nat) (h:i<n) (hn:n≤9223372036854775807):IntKind.wrap .i64 ((i:Int)+1)=((i+1:Nat):Int):=by
 rw [wrapI _ (by omega) (by omega)];omega
theorem wrap_dn (i n:Nat) (h0:0<i) (h:i<n) (hn:n≤9223372036854775807):IntKind.wrap .i64 ((i:Int)-1)=((i-1:Nat):Int):=by
 rw [wrapI _ (by omega) (by omega)];omega
def nth {α:Type} [Inhabited α] (l:List α) (i:Nat):α:=l[i]?.getD default
theorem get_nth {α:Type} [Inhabited α] {l:List α} {i:Nat} (h:i<l.length):l[Int.toNat (i:Int)]? = some (nth l i):=by
 simp [nth,h]
theorem get_nth' {α:Type} [Inhabited α] {l:List α} {i:Nat} (h:i<l.length):l[i]? = some (nth l i):=by
 simp [nth,h]
theorem nth_mem {α:Type} [Inhabited α] {l:List α} {i:Nat} (h:i<l.length):nth l i∈l:=by
 have:nth l i=l[i]:=by simp [nth,h]
 rw [this];exact List.getElem_mem h
theorem nth_eq {α:Type} [Inhabited α] {l:List α} {i:Nat} (h:i<l.length):nth l i=l[i]:=by
 simp [nth,h]
theorem mem_nth {α:Type} [Inhabited α] {l:List α} {x:α} (h:x∈l):∃ i,i<l.length∧nth l i=x:=by
 obtain ⟨i,hi,rfl⟩:=List.mem_iff_getElem.1 h
 exact ⟨i,hi,nth_eq hi⟩
theorem gd_pos {α:Type} (i:Nat) (k:Option α):gd (decide ((0:Int)≤(i:Int))) k=k:=by simp
theorem gd_le {α:Type} (i:Int) (k:Option α):gd (decide (i≤i)) k=k:=by simp
theorem gd_if {α:Type} {p:Prop} [Decidable p] (h:p) (k:Option α):gd (decide p) k=k:=by simp [h]
theorem lt_cast (i n:Nat):decide ((i:Int)<(n:Int))=decide (i<n):=by simp
theorem le_cast (i n:Nat):decide ((i:Int)≤(n:Int))=decide (i≤n):=by simp
theorem gt_zero (i:Nat):decide ((i:Int)>(0:Int))=decide (0<i):=by simp
theorem eq_zero (i:Nat):((i:Int)==(0:Int))=decide (i=0):=by
 rw [Bool.eq_iff_iff];simp
def allF (p:Nat→Bool):Nat→Nat→Bool
 |_,0=>true
 |s,m+1=>p s&&allF p (s+1) m
theorem allF_iff (p:Nat→Bool):∀ (m s:Nat),allF p s m=true↔∀ i,s≤i→i<s+m→p i=true
 |0,s=>by simp [allF];omega
 |m+1,s=>by
  rw [allF,Bool.and_eq_true,allF_iff p m (s+1)]
  constructor
  ·rintro ⟨h1,h2⟩ i hi hi'
   by_cases h:i=s
   ·subst h;exact h1
   ·exact h2 i (by omega) (by omega)
  ·intro h
   exact ⟨h s (Nat.le_refl _) (by omega),fun i h1 h2=>h i (by omega) (by omega)⟩
theorem allF_congr {p q:Nat→Bool} (m s:Nat) (h:∀ i,s≤i→i<s+m→p i=q i):allF p s m=allF q s m:=by
 rw [Bool.eq_iff_iff,allF_iff,allF_iff]
 constructor
 ·intro g i h1 h2;rw [←h i h1 h2];exact g i h1 h2
 ·intro g i h1 h2;rw [h i h1 h2];exact g i h1 h2
theorem allF_and (p q:Nat→Bool) (m s:Nat):allF (fun i=>p i&&q i) s m=(allF p s m&&allF q s m):=by
 rw [Bool.eq_iff_iff,Bool.and_eq_true,allF_iff,allF_iff,allF_iff]
 constructor
 ·intro h;exact ⟨fun i h1 h2=>by have:=h i h1 h2;simp at this;exact this.1,fun i h1 h2=>by have:=h i h1 h2;simp at this;exact this.2⟩
 ·rintro ⟨h,g⟩ i h1 h2;simp [h i h1 h2,g i h1 h2]
theorem allF_list {α:Type} [Inhabited α] (q:α→Bool) (l:List α):allF (fun i=>q (nth l i)) 0 l.length=l.all q:=by
 rw [Bool.eq_iff_iff,allF_iff,List.all_eq_true]
 constructor
 ·intro h x hx
  obtain ⟨i,hi,rfl⟩:=mem_nth hx
  exact h i (Nat.zero_le _) (by omega)
 ·intro h i _ hi
  exact h _ (nth_mem (by omega))
theorem iter_all {X β:Type} {R:(X→Option β)→X→Option β} (st:Nat→X) (p:Nat→Bool) (yes no:Option β):∀ (m s k:Nat),
  (∀ i,s≤i→i<s+m→∀ rec,R rec (st i)=cond (p i) (rec (st (i+1))) no)→
  (∀ rec,R rec (st (s+m))=yes)→m<k→iter R k (st s)=cond (allF p s m) yes no
 |0,s,k+1,_,hn,_=>by simp only [iter,allF,cond_true];exact hn _
 |m+1,s,k+1,hs,hn,hk=>by
  simp only [iter]
  rw [hs s (Nat.le_refl _) (by omega),iter_all st p yes no m (s+1) k (fun i h1 h2=>hs i (by omega) (by omega)) (fun rec=>by rw [show s+1+m=s+(m+1) by omega];exact hn rec) (by omega)]
  simp only [allF]
  cases p s<;>rfl
theorem fuel_gt {m:Nat} (h:m<18446744073709551616):m<fuel:=by rw [fuel_eq];exact h
theorem iter_go {X β S:Type} {R:(X→Option β)→X→Option β} (st:Nat→S→X) (go:Nat→S→Option β) (n:Nat) (I:Nat→S→Prop)
  (hs:∀ i s,i<n→I i s→∀ rec:X→Option β,(∀ s',I (i+1) s' →rec (st (i+1) s')=go (i+1) s')→R rec (st i s)=go i s)
  (hn:∀ s,I n s→∀ rec,R rec (st n s)=go n s):∀ (k i:Nat) (s:S),i≤n→n-i<k→I i s→iter R k (st i s)=go i s
 |k+1,i,s,hi,hk,hI=>by
  simp only [iter]
  by_cases h:i=n
  ·subst h;exact hn s hI _
  ·exact hs i s (by omega) hI _ fun s' hI' =>iter_go st go n I hs hn k (i+1) s' (by omega) (by omega) hI'
theorem bytesLess_cmp:∀ (a b:List UInt8),Op.bytesLess a b=decide (Lib.compareBytes a b<0)
 |[],[]=>by simp [Op.bytesLess,Lib.compareBytes]
 |[],_::_=>by simp [Op.bytesLess,Lib.compareBytes]
 |_::_,[]=>by simp [Op.bytesLess,Lib.compareBytes]
 |a::x,b::y=>by
  have ih:=bytesLess_cmp x y
  simp only [Op.bytesLess,Lib.compareBytes]
  by_cases h1:a<b
  ·simp [h1]
  ·by_cases h2:b<a
   ·have:a≠b:=by rintro rfl;exact h1 h2
    simp [h1,h2,this]
   ·have:a=b:=by
     rcases Classical.em (a=b) with h | h
     ·exact h
     ·exact absurd (UInt8.lt_or_lt_of_ne h) (by simp [h1,h2])
    subst this
    simp [h1,ih]
theorem compareBytes_zero:∀ (a b:List UInt8),Lib.compareBytes a b=0↔a=b
 |[],[]=>by simp [Lib.compareBytes]
 |[],_::_=>by simp [Lib.compareBytes]
 |_::_,[]=>by simp [Lib.compareBytes]
 |a::x,b::y=>by
  have ih:=compareBytes_zero x y
  simp only [Lib.compareBytes]
  by_cases h1:a<b
  ·have:a≠b:=by rintro rfl;exact UInt8.lt_irrefl a h1
   simp [h1,this]
  ·by_cases h2:b<a
   ·have:a≠b:=by rintro rfl;exact h1 h2
    simp [h1,h2,this]
   ·have:a=b:=by
     rcases Classical.em (a=b) with h | h
     ·exact h
     ·exact absurd (UInt8.lt_or_lt_of_ne h) (by simp [h1,h2])
    subst this
    simp [h1,ih]
theorem less_irrefl (a:List UInt8):Op.bytesLess a a=false:=by
 rw [bytesLess_cmp,(compareBytes_zero a a).2 rfl];rfl
theorem less_trans:∀ (a b c:List UInt8),Op.bytesLess a b=true→Op.bytesLess b c=true→Op.bytesLess a c=true
 |_,_,[],_,h=>by simp [Op.bytesLess] at h
 |_,[],_::_,h,_=>by simp [Op.bytesLess] at h
 |[],_::_,_::_,_,_=>by simp [Op.bytesLess]
 |a::x,b::y,c::z,h1,h2=>by
  have ih:=less_trans x y z
  simp only [Op.bytesLess,Bool.or_eq_true,decide_eq_true_eq,Bool.and_eq_true,beq_iff_eq] at h1 h2 ⊢
  rcases h1 with h1 | ⟨h1,h1'⟩<;>rcases h2 with h2 | ⟨h2,h2'⟩
  ·exact .inl (UInt8.lt_trans h1 h2)
  ·subst h2;exact .inl h1
  ·subst h1;exact .inl h2
  ·subst h1;subst h2;exact .inr ⟨rfl,ih h1' h2'⟩
theorem less_ne {a b:List UInt8} (h:Op.bytesLess a b=true):a≠b:=by
 rintro rfl;rw [less_irrefl] at h;cases h
theorem less_total (a b:List UInt8) (h1:Op.bytesLess a b=false) (h2:a≠b):Op.bytesLess b a=true:=by
 revert b
 induction a with
 |nil=>
  intro b h1 h2
  cases b with
  |nil=>exact absurd rfl h2
  |cons=>simp [Op.bytesLess] at h1
 |cons a x ih=>
  intro b h1 h2
  cases b with
  |nil=>simp [Op.bytesLess]
  |cons b y=>
   simp only [Op.bytesLess,Bool.or_eq_false_iff,decide_eq_false_iff_not,Bool.and_eq_false_iff,Bool.or_eq_true,decide_eq_true_eq,Bool.and_eq_true,beq_iff_eq] at h1 ⊢
   by_cases hab:a=b
   ·subst hab
    refine .inr ⟨rfl,ih y ?_ ?_⟩
    ·rcases h1.2 with h | h
     ·simp at h
     ·exact h
    ·rintro rfl;exact h2 rfl
   ·rcases UInt8.lt_or_lt_of_ne hab with h | h
    ·exact absurd h h1.1
    ·exact .inl h
def ixR {α:Type} (e0:Unit→Option (Int×Unit)) (er:Int×Unit→Option (Int×Unit)) (rec:List α×(α→Option Bool)×Int×Int×Unit→Option (Int×Unit)) (x2:List α×(α→Option Bool)×Int×Int×Unit):Option (Int×Unit):=
 cond (decide (x2.2.2.2.1<x2.2.2.1))
  (gd (decide ((0:Int)≤x2.2.2.2.1))
  (Option.bind x2.1[(Int.toNat x2.2.2.2.1)]? fun y5=>
  (Option.bind (x2.2.1 y5) fun y6=>
  (cond y6
  (er (x2.2.2.2.1,()))
  (rec (x2.1,x2.2.1,x2.2.2.1,(IntKind.wrap IntKind.i64 (x2.2.2.2.1+(1:Int))),()))))))
  (e0 (()))
noncomputable def ixF {α:Type} (a0:List α) (a1:α→Option Bool):Option (Int×Unit):=
 iter (ixR (fun y7=>some ((-(1:Int)),())) (fun y8=>some (y8.1,()))) fuel (a0,a1,(((List.length a0):Nat):Int),(0:Int),())
def firstAt {α:Type} (p:α→Bool):Nat→List α→Int
 |_,[]=>-1
 |i,a::l=>cond (p a) i (firstAt p (i+1) l)
theorem firstAt_any {α:Type} (p:α→Bool):∀ (i:Nat) (l:List α),decide (firstAt p i l≥0)=l.any p
 |_,[]=>by simp [firstAt]
 |i,a::l=>by
  have ih:=firstAt_any p (i+1) l
  rcases Bool.eq_false_or_eq_true (p a) with h | h
  ·simp [firstAt,h]
  ·simpa [firstAt,h] using ih
theorem firstAt_neg {α:Type} (p:α→Bool) (i:Nat) (l:List α):decide (firstAt p i l<0) = !l.any p:=by
 rw [←firstAt_any p i l]
 by_cases h:firstAt p i l≥0
 ·have:¬firstAt p i l<0:=by omega
  simp [h,this]
 ·have:firstAt p i l<0:=by omega
  simp [h,this]
theorem drop_cons_nth {α:Type} [Inhabited α] {l:List α} {i:Nat} (h:i<l.length):l.drop i=nth l i::l.drop (i+1):=by
 rw [List.drop_eq_getElem_cons h,nth_eq h]
theorem ixF_eq {α:Type} [Inhabited α] (p:α→Bool) (l:List α) (f:α→Option Bool) (hf:∀ x,x∈l→f x=some (p x)) (hl:l.length≤9223372036854775807) :
  ixF l f=some (firstAt p 0 l,()):=by
 unfold ixF
 have:=iter_go (R:=ixR (fun y7=>some ((-(1:Int)),())) (fun y8=>some (y8.1,()))) (S:=Unit) (fun i _=>(l,f,((l.length:Nat):Int),(i:Int),()))
  (fun i _=>some (firstAt p i (l.drop i),())) l.length (fun _ _=>True)
  (fun i s hi _ rec hrec=>by
   simp only [ixR,lt_cast,hi,decide_true,cond_true,gd_pos,get_nth hi,Option.bind_some,hf _ (nth_mem hi),wrap_up i _ hi hl]
   rw [drop_cons_nth hi,firstAt,hrec () trivial]
   cases p (nth l i)<;>rfl)
  (fun s _ rec=>by simp [ixR,firstAt]) fuel 0 () (Nat.zero_le _) (fuel_gt (by omega)) trivial
 simpa using this
def szR {α:Type} (G:α→Int→Option (Int×Unit)) (e0 er:Int×Unit→Option (Int×Unit)) (rec:List α×Int×Int×Unit→Option (Int×Unit)) (x3:List α×Int×Int×Unit):Option (Int×Unit):=
 cond (decide (x3.2.2.1<(((List.length x3.1):Nat):Int)))
  (gd (decide ((0:Int)≤x3.2.2.1))
  (Option.bind x3.1[(Int.toNat x3.2.2.1)]? fun y6=>
  (Option.bind (G y6 x3.2.1) fun y7=>
  (cond (decide (y7.1<(0:Int)))
  (er ((-(1:Int)),()))
  (rec (x3.1,y7.1,(IntKind.wrap IntKind.i64 (x3.2.2.1+(1:Int))),()))))))
  (e0 (x3.2.1,()))
def SzOk {α:Type} (G:α→Int→Option (Int×Unit)) (L:Nat→α→Prop) (c:α→Nat):Prop:=
 ∀ x a,L 9223372036854775807 x→0≤a→a≤1048576→∃ r,G x a=some (r,())∧r≤a∧(0≤r→L 1048576 x∧(c x:Int)≤a-r)
def cS {α:Type} (c:α→Nat) (l:List α):Nat:=l.length+(l.map c).sum
def LS {α:Type} (L:Nat→α→Prop) (n:Nat) (l:List α):Prop:=l.length≤n∧∀ x,x∈l→L n x
theorem szS {α:Type} [Inhabited α] {G:α→Int→Option (Int×Unit)} {L:Nat→α→Prop} {c:α→Nat} (h:SzOk G L c) :
  SzOk (fun a0 a1=>cond (decide ((IntKind.wrap IntKind.i64 (a1-(((List.length a0):Nat):Int)))<(0:Int)))
   (some ((-(1:Int)),()))
   (iter (szR G (fun y8=>some (y8.1,())) (fun y9=>some (y9.1,()))) fuel (a0,(IntKind.wrap IntKind.i64 (a1-(((List.length a0):Nat):Int))),(0:Int),()))) (LS L) (cS c):=by
 intro l a hl h0 h1
 obtain ⟨hl1,hl2⟩:=hl
 dsimp only
 rw [wrapI (a-(l.length:Int)) (by omega) (by omega)]
 by_cases hc:a-(l.length:Int)<0
 ·refine ⟨-1,by simp [hc],by omega,fun h=>absurd h (by decide)⟩
 ·simp only [hc,decide_false,cond_false]
  have key:∀ (k i:Nat) (b:Int),i≤l.length→l.length-i<k→0≤b→b≤1048576→∃ r,iter (szR G (fun y8=>some (y8.1,())) (fun y9=>some (y9.1,()))) k (l,b,(i:Int),())=some (r,())∧r≤b∧(0≤r→(∀ x,x∈l.drop i→L 1048576 x)∧(((l.drop i).map c).sum:Int)≤b-r):=by
   intro k
   induction k with
   |zero=>intro i b _ hk;omega
   |succ k ih=>
    intro i b hi hk hb0 hb1
    simp only [iter,szR,lt_cast]
    by_cases hin:i<l.length
    ·simp only [hin,decide_true,cond_true,gd_pos,get_nth hin,Option.bind_some]
     obtain ⟨r,hr,hrb,hrL⟩:=h (nth l i) b (hl2 _ (nth_mem hin)) hb0 hb1
     simp only [hr,Option.bind_some,wrap_up i _ hin hl1]
     by_cases hr0:r<0
     ·exact ⟨-1,by simp [hr0],by omega,fun h=>absurd h (by decide)⟩
     ·simp only [hr0,decide_false,cond_false]
      obtain ⟨r',g1,g2,g3⟩:=ih (i+1) r (by omega) (by omega) (by omega) (by omega)
      refine ⟨r',g1,by omega,fun h0=>?_⟩
      rw [drop_cons_nth hin]
      refine ⟨fun x hx=>?_,?_⟩
      ·cases hx with
       |head=>exact (hrL (by omega)).1
       |tail _ hx=>exact (g3 h0).1 x hx
      ·have q1:=(hrL (by omega)).2
       have q2:=(g3 h0).2
       rw [List.map_cons,List.sum_cons]
       omega
    ·simp only [hin,decide_false,cond_false]
     refine ⟨b,rfl,Int.le_refl _,fun _=>?_⟩
     rw [List.drop_eq_nil_of_le (by omega)]
     exact ⟨(fun x hx=>(by cases hx)),(by simp)⟩
  obtain ⟨r,g1,g2,g3⟩:=key fuel 0 (a-(l.length:Int)) (Nat.zero_le _) (fuel_gt (by omega)) (by omega) (by omega)
  refine ⟨r,g1,by omega,fun h=>⟨⟨by omega,fun x hx=>(g3 h).1 x (by simpa using hx)⟩,?_⟩⟩
  have q:=(g3 h).2
  rw [List.drop_zero] at q
  unfold cS
  omega
def toR {α:Type} (G:α→Option (α×Unit)) (e0:List α×Unit→Option (List α×Unit)) (rec:List α×Int×List α×Unit→Option (List α×Unit)) (x2:List α×Int×List α×Unit):Option (List α×Unit):=
 cond (decide (x2.2.1<(((List.length x2.1):Nat):Int)))
  (gd (decide ((0:Int)≤x2.2.1))
  (Option.bind x2.1[(Int.toNat x2.2.1)]? fun y4=>
  (Option.bind (G y4) fun y5=>
  (gd (decide ((0:Int)≤x2.2.1))
  (gd (decide (x2.2.1<(((List.length x2.2.2.1):Nat):Int)))
  (Option.bind x2.2.2.1[(Int.toNat x2.2.1)]? fun y6=>
  (rec (x2.1,(IntKind.wrap IntKind.i64 (x2.2.1+(1:Int))),(List.set x2.2.2.1 (Int.toNat x2.2.1) y5.1),()))))))))
  (e0 (x2.2.2.1,()))
def ToOk {α:Type} (G:α→Option (α×Unit)) (L:Nat→α→Prop):Prop:=∀ x,L 1048576 x→G x=some (x,())
theorem toS {α:Type} [Inhabited α] {G:α→Option (α×Unit)} {L:Nat→α→Prop} (z:α) (h:ToOk G L) :
  ToOk (fun a0=>gd (decide ((((List.length a0):Nat):Int)≤((4294967296:Nat):Int)))
   (gd (decide ((((List.length a0):Nat):Int)≤(((Int.toNat (((List.length a0):Nat):Int)):Nat):Int)))
   (iter (toR G (fun y7=>some (y7.1,()))) fuel (a0,(0:Int),(List.replicate (Int.toNat (((List.length a0):Nat):Int)) z),())))) (LS L):=by
 intro l hl
 obtain ⟨hl1,hl2⟩:=hl
 dsimp only
 rw [gd_if (by omega),gd_if (by omega)]
 have:=iter_go (R:=toR G (fun y7=>some (y7.1,()))) (S:=List α) (fun i s=>(l,(i:Int),s,())) (fun i s=>some (l,())) l.length
  (fun i s=>s.length=l.length∧s.take i=l.take i)
  (fun i s hi hI rec hrec=>by
   simp only [toR,lt_cast,hi,decide_true,cond_true,gd_pos,get_nth hi,Option.bind_some,h _ (hl2 _ (nth_mem hi)),wrap_up i _ hi (by omega)]
   have hs:i<s.length:=by rw [hI.1];exact hi
   rw [gd_if (by omega),get_nth hs,Option.bind_some]
   refine hrec _ ⟨by rw [List.length_set];exact hI.1,?_⟩
   rw [Int.toNat_natCast,List.take_set,List.take_add_one,hI.2,List.take_add_one,get_nth' hi,get_nth' hs]
   simp [List.set_append,Nat.min_eq_left (Nat.le_of_lt hi)])
  (fun s hI rec=>by
   have:s=l:=by have:=hI.2;rw [List.take_of_length_le (by omega),List.take_of_length_le (by omega)] at this;exact this
   simp [toR,this]) fuel 0 (List.replicate l.length z) (Nat.zero_le _) (fuel_gt (by omega)) ⟨by simp,by simp⟩
 simpa using this
def eqR {α:Type} (G:α→α→Option (Bool×Unit)) (e0:Unit→Option (Bool×Unit)) (er:Bool×Unit→Option (Bool×Unit)) (rec:List α×List α×Int×Unit→Option (Bool×Unit)) (x3:List α×List α×Int×Unit):Option (Bool×Unit):=
 cond (decide (x3.2.2.1<(((List.length x3.1):Nat):Int)))
  (gd (decide ((0:Int)≤x3.2.2.1))
  (Option.bind x3.1[(Int.toNat x3.2.2.1)]? fun y6=>
  (gd (decide ((0:Int)≤x3.2.2.1))
  (Option.bind x3.2.1[(Int.toNat x3.2.2.1)]? fun y7=>
  (Option.bind (G y6 y7) fun y8=>
  (cond (!y8.1)
  (er (false,()))
  (rec (x3.1,x3.2.1,(IntKind.wrap IntKind.i64 (x3.2.2.1+(1:Int))),()))))))))
  (e0 (()))
def EqOk {α:Type} (G:α→α→Option (Bool×Unit)) (L:Nat→α→Prop):Prop:=∀ x,L 1048576 x→G x x=some (true,())
theorem eqS {α:Type} [Inhabited α] {G:α→α→Option (Bool×Unit)} {L:Nat→α→Prop} (h:EqOk G L) :
  EqOk (fun a0 a1=>cond ((((List.length a0):Nat):Int) != (((List.length a1):Nat):Int))
   (some (false,()))
   (iter (eqR G (fun y9=>some (true,())) (fun y10=>some (y10.1,()))) fuel (a0,a1,(0:Int),()))) (LS L):=by
 intro l hl
 obtain ⟨hl1,hl2⟩:=hl
 dsimp only
 rw [bne_self_eq_false,cond_false]
 have:=iter_all (R:=eqR G (fun y9=>some (true,())) (fun y10=>some (y10.1,()))) (fun i=>(l,l,(i:Int),())) (fun _=>true) (some (true,())) (some (false,())) l.length 0 fuel
  (fun i _ hi rec=>by
   rw [Nat.zero_add] at hi
   simp only [eqR,lt_cast,hi,decide_true,cond_true,gd_pos,get_nth hi,Option.bind_some,h _ (hl2 _ (nth_mem hi)),wrap_up i _ hi (by omega),Bool.not_true,cond_false])
  (fun rec=>by simp [eqR]) (fuel_gt (by omega))
 rw [show allF (fun _=>true) 0 l.length=true from (allF_iff _ _ _).2 fun _ _ _=>rfl] at this
 exact this
theorem rise_lt {α:Type} [Inhabited α] {l:List α} {r:α→α→Bool} (tr:∀ a b c,r a b=true→r b c=true→r a c=true)
  (h:∀ i,0<i→i<l.length→r (nth l (i-1)) (nth l i)=true):∀ (d i:Nat),i+d+1<l.length→r (nth l i) (nth l (i+d+1))=true
 |0,i,hi=>by have:=h (i+1) (by omega) (by omega);simpa using this
 |d+1,i,hi=>tr _ _ _ (rise_lt tr h d i (by omega)) (by have:=h (i+(d+1)+1) (by omega) (by omega);rwa [Nat.add_sub_cancel] at this)
theorem rise_lt' {α:Type} [Inhabited α] {l:List α} {r:α→α→Bool} (tr:∀ a b c,r a b=true→r b c=true→r a c=true)
  (h:∀ i,0<i→i<l.length→r (nth l (i-1)) (nth l i)=true) {i j:Nat} (hij:i<j) (hj:j<l.length):r (nth l i) (nth l j)=true:=by
 have:=rise_lt tr h (j-i-1) i (by omega)
 rwa [show i+(j-i-1)+1=j by omega] at this
abbrev TVal:Type:=Int×(Int×(List UInt8×Unit))
abbrev TFld:Type:=List UInt8×(TVal×Unit)
abbrev TPart:Type:=List UInt8×(Bool×Unit)
abbrev TDef:Type:=List UInt8×(List TPart×Unit)
abbrev TTerm:Type:=Int×(List UInt8×(TVal×Unit))
abbrev TClause:Type:=List TTerm×Unit
abbrev TFilter:Type:=List TClause×Unit
def LStr (n:Nat) (t:List UInt8):Prop:=t.length≤n
def LVal (n:Nat) (v:TVal):Prop:=v.2.2.1.length≤n
def LPart (n:Nat) (p:TPart):Prop:=p.1.length≤n
def LDef (n:Nat) (d:TDef):Prop:=d.1.length≤n∧LS LPart n d.2.1
def LTerm (n:Nat) (t:TTerm):Prop:=t.2.1.length≤n∧LVal n t.2.2.1
def LClause (n:Nat) (c:TClause):Prop:=LS LTerm n c.1
def LFilter (n:Nat) (f:TFilter):Prop:=LS LClause n f.1
def inR (n lo hi:Int):Bool:=decide (lo≤n)&&decide (n≤hi)
def isLet (a:Int):Bool:=(decide (a≥97)&&decide (a≤122))||((decide (a≥65)&&decide (a≤90))||(a==95))
def isDig (a:Int):Bool:=decide (a≥48)&&decide (a≤57)
def byt (t:List UInt8) (i:Nat):Int:=(((nth t i).toNat:Nat):Int)
def nameM (t:List UInt8):Bool:=inR t.length 1 40&&allF (fun i=>isLet (byt t i)||(isDig (byt t i)&&decide (0<i))) 0 t.length
def shortM (t:List UInt8):Bool:=decide ((t.length:Int)≤12)&&nameM t
def cutM (c:UInt8):List UInt8→List (List UInt8)
 |[]=>[[]]
 |b::r=>if b=c then []::cutM c r else (b::(cutM c r).headD [])::(cutM c r).tail
theorem cutM_ne (c:UInt8):∀ l,cutM c l≠[]
 |[]=>by simp [cutM]
 |b::r=>by unfold cutM;split<;>simp
theorem cutM_len (c:UInt8):∀ l,(cutM c l).length=l.countP (· == c)+1
 |[]=>rfl
 |b::r=>by
  have ih:=cutM_len c r
  unfold cutM
  by_cases h:b=c
  ·simp [h,ih]
  ·simp only [h,if_false,List.length_cons,List.length_tail,ih]
   rw [List.countP_cons_of_neg (by simpa using h)]
   omega
theorem cutM_len_le (c:UInt8) (l:List UInt8):(cutM c l).length≤l.length+1:=by
 rw [cutM_len];have:=List.countP_le_length (p:=(· == c)) (l:=l);omega
theorem cutM_piece (c:UInt8):∀ (l:List UInt8) (x:List UInt8),x∈cutM c l→x.length≤l.length
 |[],x,h=>by simp [cutM] at h;subst h;exact Nat.le_refl _
 |b::r,x,h=>by
  unfold cutM at h
  split at h
  ·cases h with
   |head=>exact Nat.zero_le _
   |tail _ h=>have:=cutM_piece c r x h;simp only [List.length_cons];omega
  ·cases h with
   |head=>
    have:(cutM c r).headD []∈cutM c r:=by
     cases hc:cutM c r with
     |nil=>exact absurd hc (cutM_ne c r)
     |cons y t=>simp
    have:=cutM_piece c r _ this
    simp only [List.length_cons];omega
   |tail _ h=>have:=cutM_piece c r x (List.mem_of_mem_tail h);simp only [List.length_cons];omega
def into (p:List UInt8) (l:List (List UInt8)):List (List UInt8):=(p++l.headD [])::l.tail
theorem into_nil (c:UInt8) (l:List UInt8):into [] (cutM c l)=cutM c l:=by
 have:=cutM_ne c l
 unfold into
 cases h:cutM c l with
 |nil=>exact absurd h this
 |cons=>rfl
theorem cutM_hit (c:UInt8) (r:List UInt8) (p:List UInt8):into p (cutM c (c::r))=p::cutM c r:=by
 simp [cutM,into]
theorem cutM_miss (c b:UInt8) (r:List UInt8) (p:List UInt8) (h:b≠c):into p (cutM c (b::r))=into (p++[b]) (cutM c r):=by
 simp [cutM,into,h]
def pathM (t:List UInt8):Bool:=decide ((t.length:Int)≤50)&&(decide (((cutM 46 t).length:Int)≤4)&&(cutM 46 t).all shortM)
def defM (d:TDef):Bool:=
 shortM d.1&&(inR d.2.1.length 1 2&&(d.2.1.all (fun p=>pathM p.1)&&((((d.2.1.length:Nat):Int)==1) || !((nth d.2.1 0).1==(nth d.2.1 1).1))))
def stepM (n b:Int):Int:=IntKind.wrap .i64 (IntKind.wrap .i64 (n*256)+b)
def ofM (l:List UInt8):Int:=l.foldl (fun n b=>stepM n (((b.toNat:Nat)):Int)) 0
def nextM:List UInt8→Option (TVal×List UInt8)
 |[]=>none
 |k::r=>
  if k=0 then some ((0,0,[],()),r)
  else if k=1 then (if r.length<1 then none else some ((1,byt r 0,[],()),r.drop 1))
  else if k=2 then (if r.length<8 then none else if byt r 0>127 then none else some ((2,IntKind.wrap .i64 (ofM (r.take 8)-4611686018427387904),[],()),r.drop 8))
  else if k=3∨k=4∨k=5 then
   (if r.length<2 then none else if r.length<2+(ofM (r.take 2)).toNat then none
    else some (((k.toNat:Int),0,(r.drop 2).take (ofM (r.take 2)).toNat,()),r.drop (2+(ofM (r.take 2)).toNat)))
  else none
theorem nextM_less:∀ {t:List UInt8} {v:TVal} {r:List UInt8},nextM t=some (v,r)→r.length<t.length
 |[],v,r,h=>by cases h
 |k::t,v,r,h=>by
  simp only [nextM] at h
  repeat' split at h
  all_goals first | (cases h;done) | (injection h with h;injection h with _ h;subst h;simp only [List.length_drop,List.length_cons];omega)
theorem nextM_small:∀ {t:List UInt8} {v:TVal} {r:List UInt8},nextM t=some (v,r)→v.2.2.1.length≤t.length
 |[],v,r,h=>by cases h
 |k::t,v,r,h=>by
  simp only [nextM] at h
  repeat' split at h
  all_goals first | (cases h;done) | (injection h with h;injection h with h _;subst h;simp only [List.length_take,List.length_drop,List.length_cons,List.length_nil];omega)
def itemsF:Nat→List UInt8→Option (List TVal)
 |0,t=>if t=[] then some [] else none
 |k+1,t=>if t=[] then some [] else (nextM t).bind fun x=>(itemsF k x.2).map (x.1 :: ·)
def itemsM (t:List UInt8):Option (List TVal):=itemsF t.length t
theorem itemsF_more:∀ (k:Nat) (t:List UInt8),t.length≤k→itemsF k t=itemsF t.length t:=by
 intro k
 induction k using Nat.strongRecOn with
 |ind k ih=>
  intro t h
  cases t with
  |nil=>cases k<;>simp [itemsF]
  |cons a t=>
   cases k with
   |zero=>simp at h
   |succ k=>
    simp only [List.length_cons,itemsF]
    cases hn:nextM (a::t) with
    |none=>rfl
    |some x=>
     have hl:=nextM_less (v:=x.1) (r:=x.2) hn
     simp only [List.length_cons] at hl h
     simp only [Option.bind_some]
     rw [ih k (by omega) x.2 (by omega),ih t.length (by omega) x.2 (by omega)]
theorem itemsM_nil:itemsM []=some []:=rfl
theorem itemsM_step {t:List UInt8} (h:t≠[]):itemsM t=(nextM t).bind fun x=>(itemsM x.2).map (x.1 :: ·):=by
 unfold itemsM
 cases t with
 |nil=>exact absurd rfl h
 |cons a t=>
  rw [List.length_cons,itemsF]
  simp only [reduceCtorEq,if_false]
  cases hn:nextM (a::t) with
  |none=>rfl
  |some x=>
   have hl:=nextM_less (v:=x.1) (r:=x.2) hn
   simp only [List.length_cons] at hl
   simp only [Option.bind_some]
   rw [itemsF_more t.length x.2 (by omega)]
def fieldM:List UInt8→Option (TFld×List UInt8)
 |[]=>none
 |n::r=>if r.length<n.toNat then none else (nextM (r.drop n.toNat)).bind fun x=>some ((r.take n.toNat,x.1,()),x.2)
theorem fieldM_less:∀ {t:List UInt8} {v:TFld} {r:List UInt8},fieldM t=some (v,r)→r.length<t.length
 |[],v,r,h=>by cases h
 |n::t,v,r,h=>by
  simp only [fieldM] at h
  split at h
  ·cases h
  ·cases hn:nextM (t.drop n.toNat) with
   |none=>rw [hn] at h;cases h
   |some x=>
    rw [hn] at h
    injection h with h;injection h with _ h;subst h
    have:=nextM_less (v:=x.1) (r:=x.2) hn
    simp only [List.length_drop,List.length_cons] at this ⊢
    omega
def fieldsF:Nat→List UInt8→Option (List TFld)
 |0,t=>if t=[] then some [] else none
 |k+1,t=>if t=[] then some [] else (fieldM t).bind fun x=>(fieldsF k x.2).map (x.1 :: ·)
def fieldsM (t:List UInt8):Option (List TFld):=fieldsF t.length t
theorem fieldsF_more:∀ (k:Nat) (t:List UInt8),t.length≤k→fieldsF k t=fieldsF t.length t:=by
 intro k
 induction k using Nat.strongRecOn with
 |ind k ih=>
  intro t h
  cases t with
  |nil=>cases k<;>simp [fieldsF]
  |cons a t=>
   cases k with
   |zero=>simp at h
   |succ k=>
    simp only [List.length_cons,fieldsF]
    cases hn:fieldM (a::t) with
    |none=>rfl
    |some x=>
     have hl:=fieldM_less (v:=x.1) (r:=x.2) hn
     simp only [List.length_cons] at hl h
     simp only [Option.bind_some]
     rw [ih k (by omega) x.2 (by omega),ih t.length (by omega) x.2 (by omega)]
theorem fieldsM_step {t:List UInt8} (h:t≠[]):fieldsM t=(fieldM t).bind fun x=>(fieldsM x.2).map (x.1 :: ·):=by
 unfold fieldsM
 cases t with
 |nil=>exact absurd rfl h
 |cons a t=>
  rw [List.length_cons,fieldsF]
  simp only [reduceCtorEq,if_false]
  cases hn:fieldM (a::t) with
  |none=>rfl
  |some x=>
   have hl:=fieldM_less (v:=x.1) (r:=x.2) hn
   simp only [List.length_cons] at hl
   simp only [Option.bind_some]
   rw [fieldsF_more t.length x.2 (by omega)]
def okB (g:TVal→Bool) (more:Bool) (v:TVal):Bool:=
 if v.1=0 then (v.2.1==0)&&(v.2.2.1==[])
 else if v.1=1 then inR v.2.1 0 1&&(v.2.2.1==[])
 else if v.1=2 then inR v.2.1 (-1000000000000) 1000000000000&&(v.2.2.1==[])
 else if v.1=3 then (v.2.1==0)&&decide (((v.2.2.1.length:Nat):Int)≤300)
 else if v.1=4 then (v.2.1==0)&&(decide (((v.2.2.1.length:Nat):Int)≤300)&&(more&&(match itemsM v.2.2.1 with | none=>false | some l=>l.all g)))
 else if v.1=5 then (v.2.1==0)&&(decide (((v.2.2.1.length:Nat):Int)≤300)&&(more&&(match fieldsM v.2.2.1 with
  |none=>false
  |some l=>allF (fun i=>shortM (nth l i).1&&((decide (i=0)||Op.bytesLess (nth l (i-1)).1 (nth l i).1)&&g (nth l i).2.1)) 0 l.length)))
 else false
def okM:Nat→TVal→Bool
 |0=>okB (fun _=>false) false
 |d+1=>okB (okM d) true
def valueM (v:TVal):Bool:=okM 5 v
def isDocM (v:TVal):Bool:=(v.1==5)&&valueM v
def fieldOf (l:List TFld) (name:List UInt8):TVal×(Bool×Unit):=match l.find? (fun f=>f.1==name) with
 |none=>((0,0,[],()),false,())
 |some f=>(f.2.1,true,())
def idOfX (x:TVal×(Bool×Unit)):Int:=cond x.2.1 (cond (x.1.1==2) (cond (inR x.1.2.1 0 99) x.1.2.1 (-1)) (-1)) (-1)
def idOfL (l:List TFld):Int:=idOfX (fieldOf l [105,100])
def idM (v:TVal):Int:=match fieldsM v.2.2.1 with | none=>-1 | some l=>idOfL l
def termM (t:TTerm):Bool:=
 pathM t.2.1&&(valueM t.2.2.1&&(if t.1=7 then t.2.2.1.1==4 else if t.1=8 then t.2.2.1.1==1 else if t.1=9 then (t.2.2.1.1==2)&&inR t.2.2.1.2.1 0 5
  else if t.1=10 then (t.2.2.1.1==2)&&decide (t.2.2.1.2.1≥0) else inR t.1 1 6))
def filterM (f:TFilter):Bool:=inR f.1.length 1 3&&f.1.all fun c=>decide (((c.1.length:Nat):Int)≤4)&&c.1.all termM
abbrev yVal:Ty:=.pair (.int .i64) (.pair (.int .i64) (.pair .str .unit))
abbrev yPart:Ty:=.pair .str (.pair .bool .unit)
abbrev yDef:Ty:=.pair .str (.pair (.slice yPart) .unit)
abbrev yTerm:Ty:=.pair (.int .i64) (.pair .str (.pair yVal .unit))
abbrev yClause:Ty:=.pair (.slice yTerm) .unit
abbrev yFilter:Ty:=.pair (.slice yClause) .unit
theorem maxLen_le:maxLen≤9223372036854775807:=by decide
theorem wfStr {x:List UInt8} (h:Wf .str x):x.length≤9223372036854775807:=Nat.le_trans h maxLen_le
theorem wfS {e:Ty} {α:Type} (hα:e.den=α) {L:Nat→α→Prop} (he:∀ x:e.den,Wf e x→L 9223372036854775807 (cast hα x)) {l:List e.den} (h:Wf (.slice e) l):LS L 9223372036854775807 (cast (congrArg List hα) l):=by
 subst hα
 exact ⟨Nat.le_trans h.1 maxLen_le,fun x hx=>he x (h.2 x hx)⟩
theorem wfVal (x:TVal) (h:Wf yVal x):LVal 9223372036854775807 x:=wfStr h.2.2.1
theorem wfPart (x:TPart) (h:Wf yPart x):LPart 9223372036854775807 x:=wfStr h.1
theorem wfDef (x:TDef) (h:Wf yDef x):LDef 9223372036854775807 x:=⟨wfStr h.1,wfS (e:=yPart) (α:=TPart) rfl wfPart h.2.1⟩
theorem wfTerm (x:TTerm) (h:Wf yTerm x):LTerm 9223372036854775807 x:=⟨wfStr h.2.1,wfVal _ h.2.2.1⟩
theorem wfClause (x:TClause) (h:Wf yClause x):LClause 9223372036854775807 x:=wfS (e:=yTerm) (α:=TTerm) rfl wfTerm h.1
theorem wfFilter (x:TFilter) (h:Wf yFilter x):LFilter 9223372036854775807 x:=wfS (e:=yClause) (α:=TClause) rfl wfClause h.1
def cValue (_:TVal):Nat:=0
theorem szValue_ok:SzOk F31 LVal cValue:=by
 intro x a hx h0 h1
 have g0:=hx
 unfold F31
 rw [show IntKind.wrap IntKind.i64 (a-((x.2.2.1.length:Nat):Int))=(a-((x.2.2.1.length:Nat):Int)) from wrapI _ (by first | omega | (simp only [LVal,LPart] at g0;omega)) (by omega)]
 by_cases c0:(a-((x.2.2.1.length:Nat):Int))<0
 ·exact ⟨-1,by simp [c0],by omega,fun h=>absurd h (by decide)⟩
 simp only [c0,decide_false,cond_false]
 exact ⟨_,rfl,by omega,fun _=>⟨(show _≤_ by omega),by simp only [cValue];omega⟩⟩
theorem toValue_ok:ToOk F42 LVal:=by
 intro x hx
 unfold F42
 rfl
theorem eqValue_ok:EqOk F56 LVal:=by
 intro x hx
 unfold F56
 simp only [bne_self_eq_false,beq_self_eq_true,Option.bind_some,Bool.not_true,cond_false]
def cPart (_:TPart):Nat:=0
theorem szPart_ok:SzOk F78 LPart cPart:=by
 intro x a hx h0 h1
 have g0:=hx
 unfold F78
 rw [show IntKind.wrap IntKind.i64 (a-((x.1.length:Nat):Int))=(a-((x.1.length:Nat):Int)) from wrapI _ (by first | omega | (simp only [LVal,LPart] at g0;omega)) (by omega)]
 by_cases c0:(a-((x.1.length:Nat):Int))<0
 ·exact ⟨-1,by simp [c0],by omega,fun h=>absurd h (by decide)⟩
 simp only [c0,decide_false,cond_false]
 exact ⟨_,rfl,by omega,fun _=>⟨(show _≤_ by omega),by simp only [cPart];omega⟩⟩
theorem szPartS_ok:SzOk F29 (LS LPart) (cS cPart):=szS szPart_ok
theorem toPart_ok:ToOk F89 LPart:=by
 intro x hx
 unfold F89
 rfl
theorem toPartS_ok:ToOk F40 (LS LPart):=toS _ toPart_ok
theorem eqPart_ok:EqOk F114 LPart:=by
 intro x hx
 unfold F114
 simp only [bne_self_eq_false,beq_self_eq_true,Option.bind_some,Bool.not_true,cond_false]
theorem eqPartS_ok:EqOk F58 (LS LPart):=eqS eqPart_ok
def cDef (x:TDef):Nat:=cS cPart x.2.1
theorem szDef_ok:SzOk F66 LDef cDef:=by
 intro x a hx h0 h1
 have g0:=hx.1
 have g1:=hx.2
 unfold F66
 rw [show IntKind.wrap IntKind.i64 (a-((x.1.length:Nat):Int))=(a-((x.1.length:Nat):Int)) from wrapI _ (by first | omega | (simp only [LVal,LPart] at g0;omega)) (by omega)]
 by_cases c0:(a-((x.1.length:Nat):Int))<0
 ·exact ⟨-1,by simp [c0],by omega,fun h=>absurd h (by decide)⟩
 simp only [c0,decide_false,cond_false]
 obtain ⟨r1,e1,l1,s1⟩:=szPartS_ok x.2.1 (a-((x.1.length:Nat):Int)) g1 (by omega) (by omega)
 rw [e1];simp only [Option.bind_some]
 by_cases c1:r1<0
 ·exact ⟨-1,by simp [c1],by omega,fun h=>absurd h (by decide)⟩
 simp only [c1,decide_false,cond_false]
 exact ⟨_,rfl,by omega,fun _=>⟨⟨(show _≤_ by omega),(s1 (by omega)).1⟩,by have q1:=(s1 (by omega)).2;simp only [cDef];omega⟩⟩
theorem toDef_ok:ToOk F72 LDef:=by
 intro x hx
 have g1:=toPartS_ok x.2.1 hx.2
 unfold F72
 rw [g1]
 rfl
theorem eqDef_ok:EqOk F76 LDef:=by
 intro x hx
 have g1:=eqPartS_ok x.2.1 hx.2
 unfold F76
 simp only [g1,bne_self_eq_false,beq_self_eq_true,Option.bind_some,Bool.not_true,cond_false]
def cTerm (x:TTerm):Nat:=cValue x.2.2.1
theorem szTerm_ok:SzOk F240 LTerm cTerm:=by
 intro x a hx h0 h1
 have g0:=hx.1
 have g1:=hx.2
 unfold F240
 rw [show IntKind.wrap IntKind.i64 (a-((x.2.1.length:Nat):Int))=(a-((x.2.1.length:Nat):Int)) from wrapI _ (by first | omega | (simp only [LVal,LPart] at g0;omega)) (by omega)]
 by_cases c0:(a-((x.2.1.length:Nat):Int))<0
 ·exact ⟨-1,by simp [c0],by omega,fun h=>absurd h (by decide)⟩
 simp only [c0,decide_false,cond_false]
 obtain ⟨r1,e1,l1,s1⟩:=szValue_ok x.2.2.1 (a-((x.2.1.length:Nat):Int)) g1 (by omega) (by omega)
 rw [e1];simp only [Option.bind_some]
 by_cases c1:r1<0
 ·exact ⟨-1,by simp [c1],by omega,fun h=>absurd h (by decide)⟩
 simp only [c1,decide_false,cond_false]
 exact ⟨_,rfl,by omega,fun _=>⟨⟨(show _≤_ by omega),(s1 (by omega)).1⟩,by have q1:=(s1 (by omega)).2;simp only [cTerm];omega⟩⟩
theorem szTermS_ok:SzOk F186 (LS LTerm) (cS cTerm):=szS szTerm_ok
theorem toTerm_ok:ToOk F245 LTerm:=by
 intro x hx
 have g1:=toValue_ok x.2.2.1 hx.2
 unfold F245
 rw [g1]
 rfl
theorem toTermS_ok:ToOk F192 (LS LTerm):=toS _ toTerm_ok
theorem eqTerm_ok:EqOk F267 LTerm:=by
 intro x hx
 have g1:=eqValue_ok x.2.2.1 hx.2
 unfold F267
 simp only [g1,bne_self_eq_false,beq_self_eq_true,Option.bind_some,Bool.not_true,cond_false]
theorem eqTermS_ok:EqOk F224 (LS LTerm):=eqS eqTerm_ok
def cClause (x:TClause):Nat:=cS cTerm x.1
theorem szClause_ok:SzOk F129 LClause cClause:=by
 intro x a hx h0 h1
 have g0:=hx
 unfold F129
 obtain ⟨r0,e0,l0,s0⟩:=szTermS_ok x.1 a g0 (by omega) (by omega)
 rw [e0];simp only [Option.bind_some]
 by_cases c0:r0<0
 ·exact ⟨-1,by simp [c0],by omega,fun h=>absurd h (by decide)⟩
 simp only [c0,decide_false,cond_false]
 exact ⟨_,rfl,by omega,fun _=>⟨(s0 (by omega)).1,by have q0:=(s0 (by omega)).2;simp only [cClause];omega⟩⟩
theorem szClauseS_ok:SzOk F77 (LS LClause) (cS cClause):=szS szClause_ok
theorem toClause_ok:ToOk F139 LClause:=by
 intro x hx
 have g0:=toTermS_ok x.1 hx
 unfold F139
 rw [g0]
 rfl
theorem toClauseS_ok:ToOk F88 (LS LClause):=toS _ toClause_ok
theorem eqClause_ok:EqOk F170 LClause:=by
 intro x hx
 have g0:=eqTermS_ok x.1 hx
 unfold F170
 simp only [g0,bne_self_eq_false,beq_self_eq_true,Option.bind_some,Bool.not_true,cond_false]
theorem eqClauseS_ok:EqOk F113 (LS LClause):=eqS eqClause_ok
def cFilter (x:TFilter):Nat:=cS cClause x.1
theorem szFilter_ok:SzOk F28 LFilter cFilter:=by
 intro x a hx h0 h1
 have g0:=hx
 unfold F28
 obtain ⟨r0,e0,l0,s0⟩:=szClauseS_ok x.1 a g0 (by omega) (by omega)
 rw [e0];simp only [Option.bind_some]
 by_cases c0:r0<0
 ·exact ⟨-1,by simp [c0],by omega,fun h=>absurd h (by decide)⟩
 simp only [c0,decide_false,cond_false]
 exact ⟨_,rfl,by omega,fun _=>⟨(s0 (by omega)).1,by have q0:=(s0 (by omega)).2;simp only [cFilter];omega⟩⟩
theorem toFilter_ok:ToOk F39 LFilter:=by
 intro x hx
 have g0:=toClauseS_ok x.1 hx
 unfold F39
 rw [g0]
 rfl
theorem eqFilter_ok:EqOk F57 LFilter:=by
 intro x hx
 have g0:=eqClauseS_ok x.1 hx
 unfold F57
 simp only [g0,bne_self_eq_false,beq_self_eq_true,Option.bind_some,Bool.not_true,cond_false]
theorem l01In_eq (a b c:Int):F81 a b c=some (inR a b c,()):=by
 unfold F81 inR
 cases decide (b≤a)<;>rfl
theorem inRange_eq (a b c:Int):F95 a b c=some (inR a b c,()):=by
 unfold F95 inR
 cases decide (b≤a)<;>rfl
theorem l00Letter_eq (a:Int):F242 a=some (isLet a,()):=by
 unfold F242 isLet
 cases decide (a≥97)<;>cases decide (a≤122)<;>cases decide (a≥65)<;>cases decide (a≤90)<;>rfl
theorem isLetter_eq (a:Int):F200 a=some (isLet a,()):=by
 unfold F200 isLet
 cases decide (a≥97)<;>cases decide (a≤122)<;>cases decide (a≥65)<;>cases decide (a≤90)<;>rfl
theorem l00Digit_eq (a:Int):F243 a=some (isDig a,()):=by
 unfold F243 isDig
 cases decide (a≥48)<;>rfl
theorem isDigit_eq (a:Int):F201 a=some (isDig a,()):=by
 unfold F201 isDig
 cases decide (a≥48)<;>rfl
theorem l00Word_eq (t:List UInt8):F188 t=some (nameM t,()):=by
 unfold F188
 rcases Nat.lt_or_ge t.length 1 with h | h
 ·have:t=[]:=List.eq_nil_of_length_eq_zero (by omega)
  subst this
  rfl
 rcases Nat.lt_or_ge 40 t.length with h2 | h2
 ·have h3:decide (((t.length:Nat):Int)<1)=false:=by simp;omega
  have h4:decide (((t.length:Nat):Int)>40)=true:=by simp;omega
  rw [h3,h4]
  have h5:inR ((t.length:Nat):Int) 1 40=false:=by simp [inR];omega
  simp [nameM,h5]
 ·have h3:decide (((t.length:Nat):Int)<1)=false:=by simp;omega
  have h4:decide (((t.length:Nat):Int)>40)=false:=by simp;omega
  have h5:inR ((t.length:Nat):Int) 1 40=true:=by simp [inR];omega
  have h6:t[Int.toNat (0:Int)]? = some (nth t 0):=get_nth (i:=0) (by omega)
  simp only [h3,h4,cond_false,h6,Option.bind_some,l00Letter_eq]
  obtain ⟨m,hm⟩:∃ m,t.length=m+1:=⟨t.length-1,by omega⟩
  have e:=iter_all (R:=F188_R4 (fun y14=>(some (true,()))) (fun y15=>(some (y15.1,())))) (fun i=>(t,(i:Int),())) (fun i=>isLet (byt t i)||isDig (byt t i)) (some (true,())) (some (false,())) m 1 fuel
   (fun i hi hi' rec=>by
    have hi2:i<t.length:=by omega
    simp only [F188_R4,lt_cast,hi2,decide_true,cond_true,gd_pos,get_nth hi2,Option.bind_some,l00Letter_eq,l00Digit_eq,wrap_up i _ hi2 (by omega),byt]
    cases isLet (((nth t i).toNat:Nat):Int)<;>cases isDig (((nth t i).toNat:Nat):Int)<;>rfl)
   (fun rec=>by
    have:¬(1+m<t.length):=by omega
    simp only [F188_R4,lt_cast,this,decide_false,cond_false]) (fuel_gt (by omega))
  rw [show (1:Int)=((1:Nat):Int) from rfl,e]
  rw [hm] at h5
  simp only [nameM,hm,h5,allF,Bool.true_and]
  rw [allF_congr (p:=fun i=>isLet (byt t i)||(isDig (byt t i)&&decide (0<i))) (q:=fun i=>isLet (byt t i)||isDig (byt t i)) m 1 (fun i h1 _=>by
   have:decide (0<i)=true:=by simp;omega
   simp only [this,Bool.and_true])]
  simp only [byt,Nat.lt_irrefl,decide_false,Bool.and_false,Bool.or_false]
  cases isLet (((nth t 0).toNat:Nat):Int)<;>simp
  cases allF (fun i=>isLet (((nth t i).toNat:Nat):Int)||isDig (((nth t i).toNat:Nat):Int)) 1 m<;>rfl
theorem implNameOK_eq (t:List UInt8) (ht:t.length≤1048576):F151 t=some (nameM t,()):=by
 unfold F151
 have e:=iter_all (R:=F151_R2 (fun y11=>(Option.bind (F95 (((List.length y11.1):Nat):Int) (1:Int) (40:Int)) fun y13=>(some (y13.1,())))) (fun y12=>(some (y12.1,())))) (fun i=>(t,(t.length:Int),(i:Int),())) (fun i=>isLet (byt t i)||(isDig (byt t i)&&decide (0<i))) (some (inR t.length 1 40,())) (some (false,())) t.length 0 fuel
  (fun i hi hi' rec=>by
   have hi2:i<t.length:=by omega
   simp only [F151_R2,lt_cast,hi2,decide_true,cond_true,gd_pos,get_nth hi2,Option.bind_some,isLetter_eq,isDigit_eq,eq_zero,wrap_up i _ hi2 (by omega),byt]
   rcases Nat.eq_zero_or_pos i with h0 | h0
   ·subst h0
    cases isLet (((nth t 0).toNat:Nat):Int)<;>cases isDig (((nth t 0).toNat:Nat):Int)<;>rfl
   ·have e1:decide (i=0)=false:=by simp;omega
    have e2:decide (0<i)=true:=by simp;omega
    simp only [e1,e2]
    cases isLet (((nth t i).toNat:Nat):Int)<;>cases isDig (((nth t i).toNat:Nat):Int)<;>rfl)
  (fun rec=>by
   have:¬(0+t.length<t.length):=by omega
   simp only [F151_R2,lt_cast,this,decide_false,cond_false,inRange_eq,Option.bind_some]) (fuel_gt (by omega))
 refine e.trans ?_
 simp only [nameM]
 cases allF (fun i=>isLet (byt t i)||(isDig (byt t i)&&decide (0<i))) 0 t.length<;>simp
theorem specNameOK_eq (t:List UInt8):F132 t=some (nameM t,()):=by
 unfold F132;rw [l00Word_eq];rfl
theorem l01Name_eq (t:List UInt8):F82 t=some (shortM t,()):=by
 unfold F82 shortM
 rw [specNameOK_eq]
 simp only [Option.bind_some]
 cases nameM t<;>simp
theorem isShort_eq (t:List UInt8) (ht:t.length≤1048576):F97 t=some (shortM t,()):=by
 unfold F97 shortM
 rw [implNameOK_eq t ht]
 cases decide (((t.length:Nat):Int)≤12)<;>rfl
theorem l00Cut_eq (t:List UInt8) (c:UInt8) (ht:t.length≤1048576):F133 t ((c.toNat:Nat):Int)=some (cutM c t,()):=by
 unfold F133
 have key:∀ (E:List UInt8×Int×List (List UInt8)×Unit→Option (List (List UInt8)×Unit)),(∀ (f:Nat) (out:List (List UInt8)),f≤t.length→out.length≤t.length→E (t,(f:Int),out,())=some (out++[t.drop f],()))→
   ∀ (k i f:Nat) (out:List (List UInt8)),i≤t.length→f≤i→out.length≤i→t.length-i<k→
   iter (F133_R4 E) k (t,((c.toNat:Nat):Int),(f:Int),(i:Int),out,())=some (out++into ((t.take i).drop f) (cutM c (t.drop i)),()):=by
  intro E hE k
  induction k with
  |zero=>intro i f out _ _ _ h;omega
  |succ k ih=>
   intro i f out hi hf ho hk
   simp only [iter,F133_R4,lt_cast]
   by_cases hin:i<t.length
   ·simp only [hin,decide_true,cond_true,gd_pos,get_nth hin,Option.bind_some,wrap_up i _ hin (by omega)]
    rw [drop_cons_nth hin]
    have ht1:t.take (i+1)=t.take i++[nth t i]:=by
     rw [List.take_add_one,get_nth' hin];rfl
    by_cases hb:nth t i=c
    ·have:((((nth t i).toNat:Nat):Int)==((c.toNat:Nat):Int))=true:=by rw [hb];simp
     rw [this]
     simp only [cond_true,Int.toNat_natCast]
     rw [gd_if (by omega),gd_if (by omega)]
     rw [gd_if (by simp only [lim,List.length_cons,List.length_nil];omega)]
     rw [ih (i+1) (i+1) _ (by omega) (by omega) (by simp only [List.length_append,List.length_cons,List.length_nil];omega) (by omega)]
     rw [hb,cutM_hit]
     have:(t.take (i+1)).drop (i+1)=[]:=List.drop_eq_nil_of_le (by simp;omega)
     rw [this,into_nil]
     simp
    ·have:((((nth t i).toNat:Nat):Int)==((c.toNat:Nat):Int))=false:=by
      rw [beq_eq_false_iff_ne]
      intro h
      exact hb (UInt8.toNat_inj.1 (by omega))
     rw [this]
     simp only [cond_false]
     rw [ih (i+1) f out (by omega) (by omega) (by omega) (by omega),cutM_miss _ _ _ _ hb,ht1]
     rw [List.drop_append_of_le_length (by simp;omega)]
   ·have hi':i=t.length:=by omega
    subst hi'
    simp only [hin,decide_false,cond_false]
    rw [hE f out hf ho]
    simp [cutM,into]
 refine Eq.trans (key _ ?_ fuel 0 0 [] (Nat.zero_le _) (Nat.le_refl _) (Nat.zero_le _) (fuel_gt (by omega))) ?_
 ·intro f out hf ho
  simp only [Int.toNat_natCast,gd_le,gd_pos]
  rw [gd_if (by omega),gd_if (by simp only [lim,List.length_cons,List.length_nil];omega),List.take_length]
 ·simp only [List.take_zero,List.drop_zero,List.nil_append,into_nil,List.drop_nil]
theorem specPathOK_eq (t:List UInt8) (ht:t.length≤1048576):F83 t=some (pathM t,()):=by
 unfold F83
 by_cases h1:t.length>65536
 ·have e1:decide (((t.length:Nat):Int)>65536)=true:=by simp;omega
  have e2:decide (((t.length:Nat):Int)≤50)=false:=by simp;omega
  simp only [e1,cond_true,pathM,e2,Bool.false_and]
 have e1:decide (((t.length:Nat):Int)>65536)=false:=by simp;omega
 simp only [e1,cond_false]
 have hc:=l00Cut_eq t 46 ht
 rw [show (46:Int)=(((46:UInt8).toNat:Nat):Int) from rfl,hc,Option.bind_some]
 by_cases h2:(cutM 46 t).length>4
 ·have e1:decide ((((cutM 46 t).length:Nat):Int)>4)=true:=by simp;omega
  have e2:decide ((((cutM 46 t).length:Nat):Int)≤4)=false:=by simp;omega
  simp only [e1,cond_true,pathM,e2,Bool.false_and,Bool.and_false]
 have e3:decide ((((cutM 46 t).length:Nat):Int)>4)=false:=by simp;omega
 have e4:decide ((((cutM 46 t).length:Nat):Int)≤4)=true:=by simp;omega
 simp only [e3,cond_false]
 by_cases h3:t.length>50
 ·have e1:decide (((t.length:Nat):Int)>50)=true:=by simp;omega
  have e2:decide (((t.length:Nat):Int)≤50)=false:=by simp;omega
  simp only [e1,cond_true,pathM,e2,Bool.false_and,Bool.and_false]
 have e5:decide (((t.length:Nat):Int)>50)=false:=by simp;omega
 have e6:decide (((t.length:Nat):Int)≤50)=true:=by simp;omega
 simp only [e5,cond_false]
 have e:=iter_all (R:=F83_R7 (fun y10=>(some (true,()))) (fun y11=>(some (y11.1,())))) (fun i=>(cutM 46 t,(i:Int),())) (fun i=>shortM (nth (cutM 46 t) i)) (some (true,())) (some (false,())) (cutM 46 t).length 0 fuel
  (fun i hi hi' rec=>by
   have hi2:i<(cutM 46 t).length:=by omega
   simp only [F83_R7,lt_cast,hi2,decide_true,cond_true,gd_pos,get_nth hi2,Option.bind_some,l01Name_eq,wrap_up i _ hi2 (by omega)]
   cases shortM (nth (cutM 46 t) i)<;>rfl)
  (fun rec=>by
   have:¬(0+(cutM 46 t).length<(cutM 46 t).length):=by omega
   simp only [F83_R7,lt_cast,this,decide_false,cond_false]) (fuel_gt (by omega))
 refine e.trans ?_
 rw [allF_list,pathM,e4,e6]
 cases (cutM 46 t).all shortM<;>rfl
theorem ofNat_toUInt8 (c:UInt8):(((c.toNat:Nat):Int)).toNat.toUInt8=c:=by
 rw [Int.toNat_natCast]
 exact UInt8.ofNat_toNat
theorem index_eq (s:List UInt8) (c:UInt8) (hs:s.length≤1048576):F319 s [c]=some (Lib.indexByte s c,()):=by
 unfold F319 F333
 simp only [List.length_cons,List.length_nil]
 by_cases h:([c]==s)=true
 ·have:s=[c]:=(eq_of_beq h).symm
  subst this
  simp [Lib.indexByte]
 ·have h':([c]==s)=false:=by simpa using h
  rw [h']
  simp [F340,F344,ofNat_toUInt8]
theorem cut_index (c:UInt8):∀ (s:List UInt8),(Lib.indexByte s c = -1∧cutM c s=[s]∧s.count c=0)∨
  ∃ m:Nat,Lib.indexByte s c=m∧m<s.length∧cutM c s=s.take m::cutM c (s.drop (m+1))∧s.count c=(s.drop (m+1)).count c+1
 |[]=>by simp [Lib.indexByte,cutM]
 |b::r=>by
  by_cases h:b=c
  ·subst h
   refine .inr ⟨0,by simp [Lib.indexByte],by simp,by simp [cutM],by simp⟩
  ·have hb:(b==c)=false:=by simpa using h
   rcases cut_index c r with ⟨h1,h2,h3⟩ | ⟨m,h1,h2,h3,h4⟩
   ·refine .inl ⟨by simp [Lib.indexByte,h1,h],by simp [cutM,h,h2],?_⟩
    rw [List.count_cons_of_ne (by simpa using h)];exact h3
   ·refine .inr ⟨m+1,?_,by simp;omega,?_,?_⟩
    ·have:¬((m:Int) = -1):=by omega
     simp [Lib.indexByte,h,h1,this]
    ·simp [cutM,h,h3]
    ·rw [List.count_cons_of_ne (by simpa using h),h4];rfl
theorem split_loop (c:UInt8) (E:List UInt8×Int×List (List UInt8)×Unit→Option (List (List UInt8)×Unit))
  (hE:∀ (s:List UInt8) (i:Nat) (a:List (List UInt8)),i+1=a.length→a.length≤1048577→E (s,(i:Int),a,())=some (a.take i++[s],())) :
  ∀ (k:Nat) (s:List UInt8) (i n:Nat) (a:List (List UInt8)),s.length≤1048576→a.length=n+1→a.length≤1048577→i+s.count c=n→s.count c<k→
   iter (F286_R11 E) k (s,[c],0,(n:Int),(i:Int),a,())=some (a.take i++cutM c s,()):=by
 intro k
 induction k with
 |zero=>intro s i n a _ _ _ _ h;omega
 |succ k ih=>
  intro s i n a hs ha hal hn hk
  simp only [iter,F286_R11,lt_cast]
  by_cases hin:i<n
  ·simp only [hin,decide_true,cond_true,index_eq s c hs,Option.bind_some]
   rcases cut_index c s with ⟨h1,h2,h3⟩ | ⟨m,h1,h2,h3,h4⟩
   ·omega
   ·rw [h1]
    have e0:IntKind.wrap .i64 ((m:Int)+0)=(m:Int):=by rw [wrapI _ (by omega) (by omega)];omega
    have e1:IntKind.wrap .i64 ((m:Int)+(([c].length:Nat):Int))=((m+1:Nat):Int):=by
     simp only [List.length_cons,List.length_nil];rw [wrapI _ (by omega) (by omega)];omega
    have hm:decide ((m:Int)<0)=false:=by simp
    have hia:i<a.length:=by omega
    simp only [hm,cond_false,e0,e1,gd_pos,gd_le,get_nth hia,Option.bind_some,Int.toNat_natCast,wrap_up i n hin (by omega),List.take_length]
    rw [gd_if (by omega),gd_if (by omega),get_nth' hia,Option.bind_some,gd_if (by omega)]
    rw [ih (s.drop (m+1)) (i+1) n _ (by simp;omega) (by simp [ha]) (by simp [hal]) (by omega) (by omega),h3]
    congr 2
    rw [List.take_set,List.take_add_one,get_nth' hia]
    simp [List.set_append,Nat.min_eq_left (Nat.le_of_lt hia)]
  ·have hin':i=n:=by omega
   subst hin'
   simp only [hin,decide_false,cond_false]
   rw [hE s i a (by omega) hal]
   rcases cut_index c s with ⟨h1,h2,h3⟩ | ⟨m,h1,h2,h3,h4⟩
   ·rw [h2]
   ·omega
theorem split_eq (s:List UInt8) (c:UInt8) (hs:s.length≤1048576):F247 s [c]=some (cutM c s,()):=by
 unfold F247 F286
 have hcount:s.count c≤s.length:=List.count_le_length
 have hF:F318 s [c]=some (((s.count c:Nat):Int),()):=by
  unfold F318
  simp [F332,ofNat_toUInt8,Lib.countByte]
 have e1:((-(1:Int))==(0:Int))=false:=by decide
 have e2:(([c]:List UInt8)==[])=false:=rfl
 have e3:decide ((-(1:Int))<(0:Int))=true:=by decide
 simp only [e1,e2,e3,cond_false,cond_true,hF,Option.bind_some]
 have w1:IntKind.wrap .i64 (((s.count c:Nat):Int)+1)=((s.count c+1:Nat):Int):=wrap_up _ (s.count c+1) (by omega) (by omega)
 have w2:IntKind.wrap .i64 (((s.length:Nat):Int)+1)=((s.length+1:Nat):Int):=wrap_up _ (s.length+1) (by omega) (by omega)
 have w3:(cond (decide (((s.length+1:Nat):Int)<((s.count c+1:Nat):Int))) (((s.length+1:Nat):Int)) (((s.count c+1:Nat):Int)))=((s.count c+1:Nat):Int):=by
  have:decide (((s.length+1:Nat):Int)<((s.count c+1:Nat):Int))=false:=by simp;omega
  rw [this];rfl
 simp only [w1,w2,w3]
 rw [gd_if (by omega),gd_if (by omega),gd_if (by omega),gd_if (by omega)]
 have w4:IntKind.wrap .i64 (((s.count c+1:Nat):Int)-1)=((s.count c:Nat):Int):=by rw [wrapI _ (by omega) (by omega)];omega
 rw [w4,Int.toNat_natCast]
 refine Eq.trans (congrArg (fun o=>Option.bind o _) (split_loop c _ ?_ fuel s 0 (s.count c) (List.replicate (s.count c+1) []) hs (by simp) (by simp;omega) (by omega) (fuel_gt (by omega)))) ?_
 ·intro s i a hi ha
  have hia:i<a.length:=by omega
  have w5:IntKind.wrap .i64 ((i:Int)+1)=((i+1:Nat):Int):=wrap_up i a.length hia (by omega)
  simp only [gd_pos,lt_cast,hia,decide_true,gd_true,get_nth hia,Option.bind_some,w5,List.length_set,Int.toNat_natCast]
  rw [gd_if (by omega),get_nth' hia,Option.bind_some]
  congr 2
  rw [List.take_set,List.take_add_one,get_nth' hia]
  simp [List.set_append,Nat.min_eq_left (Nat.le_of_lt hia)]
 ·simp
theorem has_any {α:Type} [Inhabited α] (p:α→Bool) (l:List α) (f:α→Option Bool) (hf:∀ x,x∈l→f x=some (p x)) (hl:l.length≤1048577) :
  (Option.bind (ixF l f) fun y0=>some (decide (y0.1≥(0:Int)),()))=some (l.any p,()):=by
 rw [ixF_eq p l f hf (by omega),Option.bind_some]
 have:=firstAt_any p 0 l
 simp only [this]
theorem any_string (p:List UInt8→Bool) (l) (f) (hf:∀ x,x∈l→f x=some (p x)) (hl:l.length≤1048577):F149 l f=some (l.any p,()):=has_any p l f hf hl
theorem any_part (p:TPart→Bool) (l) (f) (hf:∀ x,x∈l→f x=some (p x)) (hl:l.length≤1048577):F146 l f=some (l.any p,()):=has_any p l f hf hl
theorem any_value (p:TVal→Bool) (l) (f) (hf:∀ x,x∈l→f x=some (p x)) (hl:l.length≤1048577):F203 l f=some (l.any p,()):=has_any p l f hf hl
theorem any_clause (p:TClause→Bool) (l) (f) (hf:∀ x,x∈l→f x=some (p x)) (hl:l.length≤1048577):F141 l f=some (l.any p,()):=has_any p l f hf hl
theorem any_term (p:TTerm→Bool) (l) (f) (hf:∀ x,x∈l→f x=some (p x)) (hl:l.length≤1048577):F143 l f=some (l.any p,()):=has_any p l f hf hl
theorem any_not_all {α:Type} (p:α→Bool) (l:List α):(!l.any fun x=>!p x)=l.all p:=by
 rw [List.any_eq_not_all_not];simp
theorem any_not_all' {α:Type} (p:α→Bool) (l:List α):(l.any fun x=>!p x) = !l.all p:=by
 rw [←any_not_all,Bool.not_not]
theorem implPathOK_eq (t:List UInt8) (ht:t.length≤1048576):F196 t=some (pathM t,()):=by
 unfold F196
 rw [split_eq t 46 ht,Option.bind_some,any_string (fun x=>!shortM x) _ _ ?_ ?_,Option.bind_some]
 ·unfold pathM
  simp only [any_not_all]
  cases decide (((t.length:Nat):Int)≤50)<;>cases decide ((((cutM 46 t).length:Nat):Int)≤4)<;>rfl
 ·intro x hx
  have:x.length≤1048576:=by
   have:=cutM_piece 46 t x hx
   omega
  simp only [F248,isShort_eq x this,Option.bind_some,Option.map_some]
 ·exact Nat.le_trans (cutM_len_le 46 t) (by omega)
theorem partOK_eq (p:TPart) (hp:LPart 1048576 p):F148 p=some (pathM p.1,()):=by
 unfold F148
 rw [implPathOK_eq p.1 hp];rfl
theorem implDefOK_eq (d:TDef) (hd:LDef 1048576 d):F126 d=some (defM d,()):=by
 unfold F126
 simp only [isShort_eq d.1 hd.1,inRange_eq,Option.bind_some]
 rw [any_part (fun p=>!pathM p.1) _ _ ?_ ?_,Option.bind_some]
 ·unfold defM
  simp only [any_not_all']
  cases shortM d.1
  ·rfl
  cases h1:inR ((d.2.1.length:Nat):Int) 1 2
  ·rfl
  cases d.2.1.all (fun p=>pathM p.1)
  ·rfl
  by_cases h2:d.2.1.length=1
  ·rw [h2];rfl
  ·have h3:(((d.2.1.length:Nat):Int)==1)=false:=by rw [beq_eq_false_iff_ne];omega
   have h4:d.2.1.length=2:=by simp [inR] at h1;omega
   have g0:d.2.1[Int.toNat (0:Int)]? = some (nth d.2.1 0):=get_nth (i:=0) (by omega)
   have g1:d.2.1[Int.toNat (1:Int)]? = some (nth d.2.1 1):=get_nth (i:=1) (by omega)
   simp only [h3,g0,g1,Bool.not_true,cond_false,Option.bind_some,Bool.true_and,Bool.false_or]
 ·intro x hx
  simp only [F181,partOK_eq x (hd.2.2 x hx),Option.bind_some,Option.map_some]
 ·have:=hd.2.1;omega
theorem specDefOK_eq (d:TDef) (hd:LDef 1048576 d):F68 d=some (defM d,()):=by
 unfold F68
 simp only [l01Name_eq,l01In_eq,Option.bind_some]
 cases h0:shortM d.1
 ·simp [defM,h0]
 cases h1:inR ((d.2.1.length:Nat):Int) 1 2
 ·simp [defM,h1]
 simp only [Bool.not_true,cond_false]
 have hl:d.2.1.length≤1048576:=hd.2.1
 refine Eq.trans (iter_all (fun i=>((i:Int),d,())) (fun i=>pathM (nth d.2.1 i).1) (some (((((d.2.1.length:Nat):Int)==1) || !((nth d.2.1 0).1==(nth d.2.1 1).1)),())) (some (false,())) d.2.1.length 0 fuel ?_ ?_ (fuel_gt (by omega))) ?_
 ·intro i hi hi' rec
  have hi2:i<d.2.1.length:=by omega
  simp only [F68_R4,lt_cast,hi2,decide_true,cond_true,gd_pos,get_nth hi2,Option.bind_some,specPathOK_eq _ (hd.2.2 _ (nth_mem hi2)),wrap_up i _ hi2 (by omega)]
  cases pathM (nth d.2.1 i).1<;>rfl
 ·intro rec
  have:¬(0+d.2.1.length<d.2.1.length):=by omega
  simp only [F68_R4,lt_cast,this,decide_false,cond_false]
  by_cases h2:d.2.1.length=1
  ·rw [h2];rfl
  ·have h3:(((d.2.1.length:Nat):Int)==1)=false:=by rw [beq_eq_false_iff_ne];omega
   have h4:d.2.1.length=2:=by simp [inR] at h1;omega
   have g0:d.2.1[Int.toNat (0:Int)]? = some (nth d.2.1 0):=get_nth (i:=0) (by omega)
   have g1:d.2.1[Int.toNat (1:Int)]? = some (nth d.2.1 1):=get_nth (i:=1) (by omega)
   simp only [h3,g0,g1,Bool.not_true,cond_false,Option.bind_some,Bool.true_and,Bool.false_or]
 ·rw [allF_list (fun p:TPart=>pathM p.1)]
  unfold defM
  rw [h0,h1]
  cases d.2.1.all (fun p=>pathM p.1)<;>rfl
theorem wrap_mod (z:Int):IntKind.wrap .i64 z % 18446744073709551616=z % 18446744073709551616:=by
 simp only [IntKind.wrap,IntKind.bits,IntKind.signed]
 by_cases h:z % 18446744073709551616≥9223372036854775808
 ·simp [h]
 ·simp [h]
theorem wrap_of_mod {a b:Int} (h:a % 18446744073709551616=b % 18446744073709551616):IntKind.wrap .i64 a=IntKind.wrap .i64 b:=by
 simp only [IntKind.wrap,IntKind.bits,IntKind.signed]
 simp [h]
theorem big_step (n:Int) (b:Nat) (hb:b<256) :
  IntKind.wrap .i64 (((BitVec.toNat (BitVec.ofInt (IntKind.bits .i64) (IntKind.wrap .i64 (n*((2:Int) ^ (Min.min (Int.toNat (8:Int)) (IntKind.bits .i64))))) ||| BitVec.ofInt (IntKind.bits .i64) (IntKind.wrap .i64 (b:Int)))):Nat):Int)=stepM n b:=by
 have h8:((2:Int) ^ (Min.min (Int.toNat (8:Int)) (IntKind.bits .i64)))=256:=by decide
 rw [h8]
 have hbits:IntKind.bits .i64=64:=rfl
 rw [hbits]
 rw [BitVec.toNat_or,BitVec.toNat_ofInt,BitVec.toNat_ofInt]
 have e1:(IntKind.wrap .i64 (n*256) % ((2 ^ 64:Nat):Int)).toNat=((n % 72057594037927936).toNat) <<< 8:=by
  have:=wrap_mod (n*256)
  rw [Nat.shiftLeft_eq]
  omega
 have e2:(IntKind.wrap .i64 ((b:Nat):Int) % ((2 ^ 64:Nat):Int)).toNat=b:=by
  rw [wrapI _ (by omega) (by omega)];omega
 rw [e1,e2,←Nat.shiftLeft_add_eq_or_of_lt (by omega:b<2 ^ 8),Nat.shiftLeft_eq]
 unfold stepM
 apply wrap_of_mod
 have:=wrap_mod (n*256)
 omega
theorem l01Of_eq (l:List UInt8) (hl:l.length≤1048576):F272 l=some (ofM l,()):=by
 unfold F272
 refine Eq.trans (iter_go (S:=Int) (fun i s=>(l,s,(i:Int),())) (fun i s=>some ((l.drop i).foldl (fun n b=>stepM n (((b.toNat:Nat)):Int)) s,())) l.length (fun _ _=>True) ?_ ?_ fuel 0 0 (Nat.zero_le _) (fuel_gt (by omega)) trivial) ?_
 ·intro i s hi _ rec hrec
  have hb:=UInt8.toNat_lt (nth l i)
  simp only [F272_R3,lt_cast,hi,decide_true,cond_true,gd_pos,get_nth hi,Option.bind_some,wrap_up i _ hi (by omega)]
  rw [wrapI (((nth l i).toNat:Nat):Int) (by omega) (by omega)]
  refine (hrec _ trivial).trans ?_
  rw [drop_cons_nth hi]
  rfl
 ·intro s _ rec
  simp [F272_R3]
 ·simp [ofM]
theorem big_eq (l:List UInt8) (hl:l.length≤1048576):F265 (List.map (fun (v4:UInt8)=>(((UInt8.toNat v4):Nat):Int)) l)=some (ofM l,()):=by
 unfold F265
 rw [List.length_map]
 refine Eq.trans (iter_go (S:=Int) (fun i s=>(s,List.map (fun (v4:UInt8)=>(((UInt8.toNat v4):Nat):Int)) l,((l.length:Nat):Int),(i:Int),())) (fun i s=>some ((l.drop i).foldl (fun n b=>stepM n (((b.toNat:Nat)):Int)) s,())) l.length (fun _ _=>True) ?_ ?_ fuel 0 0 (Nat.zero_le _) (fuel_gt (by omega)) trivial) ?_
 ·intro i s hi _ rec hrec
  have hb:=UInt8.toNat_lt (nth l i)
  have hg:(List.map (fun (v4:UInt8)=>(((UInt8.toNat v4):Nat):Int)) l)[Int.toNat (i:Int)]? = some (((nth l i).toNat:Nat):Int):=by
   rw [List.getElem?_map,get_nth hi];rfl
  simp only [F265_R3,lt_cast,hi,decide_true,cond_true,gd_pos,hg,Option.bind_some,wrap_up i _ hi (by omega)]
  have hs:=big_step s (nth l i).toNat hb
  refine (congrArg rec (show _=(stepM s (((nth l i).toNat:Nat):Int),List.map (fun (v4:UInt8)=>(((UInt8.toNat v4):Nat):Int)) l,((l.length:Nat):Int),((i+1:Nat):Int),()) from ?_)).trans ((hrec _ trivial).trans ?_)
  ·exact congrArg (fun z=>(z,List.map (fun (v4:UInt8)=>(((UInt8.toNat v4):Nat):Int)) l,((l.length:Nat):Int),((i+1:Nat):Int),())) hs
  ·rw [drop_cons_nth hi]
   rfl
 ·intro s _ rec
  simp [F265_R3]
 ·simp [ofM]
def takM (r:List UInt8) (m:Nat):List UInt8×(List UInt8×Bool):=if r.length<m then (List.replicate m 0,r,true) else (r.take m,r.drop m,false)
def numM (r:List UInt8) (m:Nat):Int×(List UInt8×Bool):=(ofM (takM r m).1,(takM r m).2)
theorem takM_len (r:List UInt8) (m:Nat):(takM r m).1.length=m:=by
 unfold takM;split
 ·simp
 ·simp;omega
theorem takM_rest (r:List UInt8) (m:Nat):(takM r m).2.1.length≤r.length:=by
 unfold takM;split<;>simp
theorem repeat_zero:∀ m:Nat,Lib.repeatL [(0:UInt8)] m=List.replicate m 0
 |0=>rfl
 |m+1=>by rw [Lib.repeatL,repeat_zero m,List.replicate_succ];rfl
theorem take_eq (r:List UInt8) (f:Bool) (m:Nat) (hr:r.length≤1048576) (hm:m≤1048576) :
  F215 (r,f,()) (m:Int)=some ((takM r m).1,((takM r m).2.1,(f||(takM r m).2.2),()),()):=by
 unfold F215 takM
 by_cases h:r.length<m
 ·have h1:decide ((m:Int)>((r.length:Nat):Int))=true:=by simp;omega
  simp only [h1,cond_true,h,if_true,F264,List.length_cons,List.length_nil,Int.toNat_natCast]
  rw [gd_if (by omega),gd_if (by omega),gd_if (by omega),Option.bind_some,repeat_zero]
  simp
 ·have h1:decide ((m:Int)>((r.length:Nat):Int))=false:=by simp;omega
  simp only [h1,cond_false,h,if_false,Int.toNat_natCast,gd_le,gd_pos]
  rw [gd_if (by omega),gd_if (by omega)]
  simp
theorem num_eq (r:List UInt8) (f:Bool) (m:Nat) (hr:r.length≤1048576) (hm:m≤1048576) :
  F216 (r,f,()) (m:Int)=some ((numM r m).1,((numM r m).2.1,(f||(numM r m).2.2),()),()):=by
 unfold F216 numM
 rw [take_eq r f m hr hm,Option.bind_some,big_eq _ (by rw [takM_len];exact hm),Option.bind_some]
theorem ofM_bound:∀ (l:List UInt8) (j:Nat) (n:Int),0≤n→n<256 ^ j→j+l.length≤7→
  0≤l.foldl (fun n b=>stepM n (((b.toNat:Nat)):Int)) n∧l.foldl (fun n b=>stepM n (((b.toNat:Nat)):Int)) n<256 ^ (j+l.length)
 |[],j,n,h0,h1,_=>⟨h0,h1⟩
 |b::l,j,n,h0,h1,h2=>by
  have hb:=UInt8.toNat_lt b
  simp only [List.length_cons] at h2
  have hj:(256:Int) ^ j≤256 ^ 6:=by
   have:(256:Nat) ^ j≤256 ^ 6:=Nat.pow_le_pow_right (by decide) (by omega)
   exact_mod_cast this
  have h6:(256:Int) ^ 6=281474976710656:=by decide
  have hp:(256:Int) ^ (j+1)=256 ^ j*256:=Int.pow_succ ..
  have hs:stepM n (((b.toNat:Nat)):Int)=n*256+((b.toNat:Nat):Int):=by
   unfold stepM
   rw [wrapI (n*256) (by omega) (by omega),wrapI _ (by omega) (by omega)]
  have:=ofM_bound l (j+1) (stepM n (((b.toNat:Nat)):Int)) (by rw [hs];omega) (by rw [hs,hp];omega) (by omega)
  rw [List.foldl_cons,List.length_cons,show j+(l.length+1)=j+1+l.length by omega]
  exact this
theorem ofM_nonneg {l:List UInt8} (h:l.length≤7):0≤ofM l:=(ofM_bound l 0 0 (Int.le_refl _) (by decide) (by omega)).1
theorem ofM_one (b:UInt8):ofM [b]=((b.toNat:Nat):Int):=by
 have hb:=UInt8.toNat_lt b
 simp only [ofM,List.foldl_cons,List.foldl_nil,stepM]
 rw [wrapI (0*256) (by decide) (by decide),wrapI _ (by omega) (by omega)];omega
theorem ofM_two_lt {l:List UInt8} (h:l.length=2):ofM l<65536:=by
 have:=(ofM_bound l 0 0 (Int.le_refl _) (by decide) (by omega)).2
 rw [h] at this
 exact this
theorem foldl_ge:∀ (l:List UInt8) (j:Nat) (n:Int),128*256 ^ j≤n→n<256 ^ (j+1)→j+l.length≤6→
  128*256 ^ (j+l.length)≤l.foldl (fun n b=>stepM n (((b.toNat:Nat)):Int)) n∧l.foldl (fun n b=>stepM n (((b.toNat:Nat)):Int)) n<256 ^ (j+l.length+1)
 |[],j,n,h0,h1,_=>⟨h0,h1⟩
 |b::l,j,n,h0,h1,h2=>by
  have hb:=UInt8.toNat_lt b
  simp only [List.length_cons] at h2
  have hj:(256:Int) ^ (j+1)≤256 ^ 6:=by
   have:(256:Nat) ^ (j+1)≤256 ^ 6:=Nat.pow_le_pow_right (by decide) (by omega)
   exact_mod_cast this
  have h6:(256:Int) ^ 6=281474976710656:=by decide
  have hp:(256:Int) ^ (j+1)=256 ^ j*256:=Int.pow_succ ..
  have hp2:(256:Int) ^ (j+1+1)=256 ^ (j+1)*256:=Int.pow_succ ..
  have h0':(0:Int)≤256 ^ j:=Int.pow_nonneg (by decide)
  have hs:stepM n (((b.toNat:Nat)):Int)=n*256+((b.toNat:Nat):Int):=by
   unfold stepM
   rw [wrapI (n*256) (by omega) (by omega),wrapI _ (by omega) (by omega)]
  have:=foldl_ge l (j+1) (stepM n (((b.toNat:Nat)):Int)) (by rw [hs,hp];omega) (by rw [hs,hp2];omega) (by omega)
  rw [List.foldl_cons,List.length_cons,show j+(l.length+1)=j+1+l.length by omega]
  exact this
theorem ofM_eight_neg {l:List UInt8} (h:l.length=8) (h0:byt l 0>127):ofM l<0∧-9223372036854775808≤ofM l:=by
 obtain ⟨a,l7,rfl⟩:∃ a l7,l=a::l7:=by cases l with | nil=>simp at h | cons a l7=>exact ⟨a,l7,rfl⟩
 simp only [List.length_cons] at h
 have ha:=UInt8.toNat_lt a
 have h0:128≤((a.toNat:Nat):Int):=by simp [byt,nth] at h0;omega
 have hl:l7=l7.take 6++[nth l7 6]:=by
  have:=List.take_append_drop 6 l7
  rw [drop_cons_nth (by omega:6<l7.length),List.drop_eq_nil_of_le (by omega)] at this
  exact this.symm
 have h1:stepM 0 ((a.toNat:Nat):Int)=((a.toNat:Nat):Int):=by
  unfold stepM;rw [wrapI (0*256) (by decide) (by decide),wrapI _ (by omega) (by omega)];omega
 have g:=foldl_ge (l7.take 6) 0 ((a.toNat:Nat):Int) (by omega) (by omega) (by rw [List.length_take];omega)
 have ht:(l7.take 6).length=6:=by simp;omega
 rw [ht] at g
 have hb:=UInt8.toNat_lt (nth l7 6)
 have e1:(128:Int)*256 ^ (0+6)=36028797018963968:=by decide
 have e2:(256:Int) ^ (0+6+1)=72057594037927936:=by decide
 rw [e1,e2] at g
 rw [ofM,List.foldl_cons,h1,hl,List.foldl_append,List.foldl_cons,List.foldl_nil]
 generalize (l7.take 6).foldl (fun n b=>stepM n (((b.toNat:Nat)):Int)) ((a.toNat:Nat):Int)=m at g ⊢
 unfold stepM
 rw [wrapI_pos (m*256) (by omega) (by omega),wrapI _ (by omega) (by omega)]
 omega
def valM (r:List UInt8):TVal×(List UInt8×Bool):=
 if (numM r 1).1=1 then ((1,(numM (numM r 1).2.1 1).1,[],()),(numM (numM r 1).2.1 1).2.1,(numM r 1).2.2||(numM (numM r 1).2.1 1).2.2)
 else if (numM r 1).1=2 then ((2,IntKind.wrap .i64 ((numM (numM r 1).2.1 8).1-4611686018427387904),[],()),(numM (numM r 1).2.1 8).2.1,(numM r 1).2.2||(numM (numM r 1).2.1 8).2.2)
 else if (numM r 1).1=3∨(numM r 1).1=4∨(numM r 1).1=5 then
  (((numM r 1).1,0,(takM (numM (numM r 1).2.1 2).2.1 (numM (numM r 1).2.1 2).1.toNat).1,()),(takM (numM (numM r 1).2.1 2).2.1 (numM (numM r 1).2.1 2).1.toNat).2.1,((numM r 1).2.2||(numM (numM r 1).2.1 2).2.2)||(takM (numM (numM r 1).2.1 2).2.1 (numM (numM r 1).2.1 2).1.toNat).2.2)
 else (((numM r 1).1,0,[],()),(numM r 1).2.1,(numM r 1).2.2)
theorem numM_rest (r:List UInt8) (m:Nat):(numM r m).2.1.length≤r.length:=takM_rest r m
theorem value_eq (r:List UInt8) (f:Bool) (hr:r.length≤1048576) :
  F217 (r,f,())=some ((valM r).1,((valM r).2.1,(f||(valM r).2.2),()),()):=by
 unfold F217 valM
 have h1:=numM_rest r 1
 have hn:=num_eq r f 1 hr (by decide)
 rw [show (1:Int)=((1:Nat):Int) from rfl,hn,Option.bind_some]
 rw [show ((1:Nat):Int)=1 from rfl]
 generalize numM r 1=a at h1 ⊢
 obtain ⟨k,r1,f1⟩:=a
 dsimp only at h1 ⊢
 have g1:=num_eq r1 (f||f1) 1 (by omega) (by decide)
 have g8:=num_eq r1 (f||f1) 8 (by omega) (by decide)
 have g2:=num_eq r1 (f||f1) 2 (by omega) (by decide)
 rw [show ((1:Nat):Int)=1 from rfl] at g1
 rw [show ((8:Nat):Int)=8 from rfl] at g8
 rw [show ((2:Nat):Int)=2 from rfl] at g2
 have r2:=numM_rest r1 2
 have q:0≤(numM r1 2).1∧(numM r1 2).1<65536:=⟨ofM_nonneg (by rw [takM_len];decide),ofM_two_lt (takM_len _ _)⟩
 have gt:=take_eq (numM r1 2).2.1 ((f||f1)||(numM r1 2).2.2) (numM r1 2).1.toNat (by omega) (by omega)
 rw [show (((numM r1 2).1.toNat:Nat):Int)=(numM r1 2).1 by omega] at gt
 by_cases c1:k=1
 ·subst c1
  simp only [beq_self_eq_true,cond_true,g1,Option.bind_some,if_true,Bool.or_assoc]
 have c1':(k==1)=false:=by simpa using c1
 by_cases c2:k=2
 ·subst c2
  simp only [c1',cond_false,beq_self_eq_true,cond_true,g8,Option.bind_some,if_true,c1,if_false,Bool.or_assoc]
 have c2':(k==2)=false:=by simpa using c2
 simp only [c1',c2',c1,c2,cond_false,if_false]
 by_cases c3:k=3
 ·subst c3
  simp only [beq_self_eq_true,cond_true,g2,Option.bind_some,gt,true_or,if_true]
  simp only [Bool.or_assoc]
 have c3':(k==3)=false:=by simpa using c3
 simp only [c3',cond_false]
 by_cases c4:k=4
 ·subst c4
  simp only [beq_self_eq_true,cond_true,g2,Option.bind_some,gt,true_or,or_true,if_true]
  simp only [Bool.or_assoc]
 have c4':(k==4)=false:=by simpa using c4
 simp only [c4',cond_false]
 by_cases c5:k=5
 ·subst c5
  simp only [beq_self_eq_true,cond_true,g2,Option.bind_some,gt,true_or,or_true,if_true]
  simp only [Bool.or_assoc]
 have c5':(k==5)=false:=by simpa using c5
 simp only [c5',cond_false,c3,c4,c5,or_self,if_false]
theorem numM_cons (k:UInt8) (t:List UInt8):numM (k::t) 1=(((k.toNat:Nat):Int),t,false):=by
 simp [numM,takM,ofM_one]
theorem valM_less {t:List UInt8} (h:t≠[]):(valM t).2.1.length<t.length:=by
 cases t with
 |nil=>exact absurd rfl h
 |cons k t=>
  unfold valM
  rw [numM_cons]
  dsimp only
  have a1:=numM_rest t 1
  have a2:=numM_rest t 2
  have a8:=numM_rest t 8
  have a3:=takM_rest (numM t 2).2.1 (numM t 2).1.toNat
  simp only [List.length_cons]
  repeat' split
  all_goals (dsimp only;omega)
theorem valM_nil:(valM []).2.2=true:=by decide
theorem u8 {k:UInt8} {n:UInt8}:(((k.toNat:Nat):Int)=((n.toNat:Nat):Int))↔k=n:=by
 constructor
 ·intro h;exact UInt8.toNat_inj.1 (by omega)
 ·rintro rfl;rfl
theorem okM_kind {v:TVal} (h:v.1>5∨v.1<0) (d:Nat):okM d v=false:=by
 have:okB (fun _=>false) false v=false∧∀ g,okB g true v=false:=by
  unfold okB
  rw [if_neg (by omega),if_neg (by omega),if_neg (by omega),if_neg (by omega),if_neg (by omega),if_neg (by omega)]
  refine ⟨rfl,fun g=>?_⟩
  rw [if_neg (by omega),if_neg (by omega),if_neg (by omega),if_neg (by omega),if_neg (by omega),if_neg (by omega)]
 cases d with
 |zero=>exact this.1
 |succ d=>exact this.2 _
theorem okM_num {v:TVal} (hk:v.1=2) (h:v.2.1>1000000000000∨v.2.1 < -1000000000000) (d:Nat):okM d v=false:=by
 have hi:inR v.2.1 (-1000000000000) 1000000000000=false:=by simp [inR];omega
 have:∀ g m,okB g m v=false:=by
  intro g m
  unfold okB
  rw [if_neg (by omega),if_neg (by omega),if_pos hk,hi];rfl
 cases d with
 |zero=>exact this _ _
 |succ d=>exact this _ _
theorem val_next (t:List UInt8):(∃ v r,nextM t=some (v,r)∧valM t=(v,r,false))∨(nextM t=none∧((valM t).2.2=true∨∀ d,okM d (valM t).1=false)):=by
 cases t with
 |nil=>exact .inr ⟨rfl,.inl valM_nil⟩
 |cons k t=>
  unfold valM
  rw [numM_cons]
  simp only [nextM]
  have hk:=UInt8.toNat_lt k
  by_cases c0:k=0
  ·subst c0
   exact .inl ⟨_,_,rfl,by simp⟩
  have c0':¬((k.toNat:Nat):Int)=0:=fun h=>c0 (u8 (n:=0) |>.1 h)
  by_cases c1:k=1
  ·subst c1
   simp only [c0,if_false,if_true]
   rw [if_pos (show (((1:UInt8).toNat:Nat):Int)=1 from rfl)]
   by_cases h:t.length<1
   ·rw [if_pos h]
    refine .inr ⟨rfl,.inl ?_⟩
    simp [numM,takM,h]
   ·rw [if_neg h]
    refine .inl ⟨_,_,rfl,?_⟩
    obtain ⟨b,t',rfl⟩:∃ b t',t=b::t' :=by cases t with | nil=>simp at h | cons b t' =>exact ⟨b,t',rfl⟩
    rw [numM_cons]
    simp [byt,nth]
  have c1':¬((k.toNat:Nat):Int)=1:=fun h=>c1 (u8 (n:=1) |>.1 h)
  by_cases c2:k=2
  ·subst c2
   simp only [c0,c1,if_false,if_true]
   rw [if_neg (show ¬(((2:UInt8).toNat:Nat):Int)=1 by decide),if_pos (show (((2:UInt8).toNat:Nat):Int)=2 from rfl)]
   by_cases h:t.length<8
   ·rw [if_pos h]
    refine .inr ⟨rfl,.inl ?_⟩
    simp [numM,takM,h]
   ·rw [if_neg h]
    have e:numM t 8=(ofM (t.take 8),t.drop 8,false):=by simp [numM,takM,h]
    rw [e]
    by_cases h1:byt t 0>127
    ·rw [if_pos h1]
     refine .inr ⟨rfl,.inr fun d=>okM_num rfl ?_ d⟩
     have hb:byt (t.take 8) 0>127:=by
      have:nth (t.take 8) 0=nth t 0:=by simp [nth]
      unfold byt at h1 ⊢;rw [this];exact h1
     obtain ⟨n1,n2⟩:=ofM_eight_neg (by simp;omega) hb
     dsimp only
     by_cases hw:ofM (t.take 8)-4611686018427387904 < -9223372036854775808
     ·rw [wrapI_neg _ (by omega) hw];omega
     ·rw [wrapI _ (by omega) (by omega)];omega
    ·rw [if_neg h1]
     exact .inl ⟨_,_,rfl,by simp⟩
  have c2':¬((k.toNat:Nat):Int)=2:=fun h=>c2 (u8 (n:=2) |>.1 h)
  simp only [c0,c1,c2,c1',c2',if_false]
  by_cases c3:k=3∨k=4∨k=5
  ·have c3':((k.toNat:Nat):Int)=3∨((k.toNat:Nat):Int)=4∨((k.toNat:Nat):Int)=5:=by
    rcases c3 with rfl | rfl | rfl
    ·exact .inl rfl
    ·exact .inr (.inl rfl)
    ·exact .inr (.inr rfl)
   rw [if_pos c3,if_pos c3']
   by_cases h:t.length<2
   ·rw [if_pos h]
    refine .inr ⟨rfl,.inl ?_⟩
    simp [numM,takM,h]
   ·rw [if_neg h]
    have e:numM t 2=(ofM (t.take 2),t.drop 2,false):=by simp [numM,takM,h]
    rw [e]
    dsimp only
    by_cases h1:t.length<2+(ofM (t.take 2)).toNat
    ·rw [if_pos h1]
     refine .inr ⟨rfl,.inl ?_⟩
     have:(t.drop 2).length<(ofM (t.take 2)).toNat:=by simp;omega
     simp only [takM,this,if_true,Bool.or_true]
    ·rw [if_neg h1]
     have:¬(t.drop 2).length<(ofM (t.take 2)).toNat:=by simp;omega
     refine .inl ⟨_,_,rfl,?_⟩
     simp only [takM,this,if_false,List.drop_drop,Bool.or_false,Bool.false_or]
  ·have c3':¬(((k.toNat:Nat):Int)=3∨((k.toNat:Nat):Int)=4∨((k.toNat:Nat):Int)=5):=by
    rintro (h | h | h)
    ·exact c3 (.inl (u8 (n:=3) |>.1 h))
    ·exact c3 (.inr (.inl (u8 (n:=4) |>.1 h)))
    ·exact c3 (.inr (.inr (u8 (n:=5) |>.1 h)))
   rw [if_neg c3,if_neg c3']
   exact .inr ⟨rfl,.inr fun d=>okM_kind (.inl (by dsimp only;omega)) d⟩
theorem valM_small (t:List UInt8):(valM t).1.2.2.1.length≤65535:=by
 unfold valM
 have q:0≤(numM (numM t 1).2.1 2).1∧(numM (numM t 1).2.1 2).1<65536:=⟨ofM_nonneg (by rw [takM_len];decide),ofM_two_lt (takM_len _ _)⟩
 repeat' split
 all_goals first | (simp;done) | (dsimp only;rw [takM_len];omega)
def itemsI:Nat→List UInt8→List TVal×Bool
 |0,_=>([],true)
 |k+1,t=>if t=[] then ([],true) else if (valM t).2.2 then ([(valM t).1],false) else ((valM t).1::(itemsI k (valM t).2.1).1,(itemsI k (valM t).2.1).2)
theorem itemsI_len:∀ (k:Nat) (t:List UInt8),t.length≤k→(itemsI k t).1.length≤t.length
 |0,t,_=>by simp [itemsI]
 |k+1,t,h=>by
  unfold itemsI
  split
  ·simp
  ·rename_i ht
   have hl:=valM_less ht
   split
   ·simp;omega
   ·have:=itemsI_len k (valM t).2.1 (by omega)
    simp only [List.length_cons];omega
theorem itemsI_small:∀ (k:Nat) (t:List UInt8) (v:TVal),v∈(itemsI k t).1→LVal 1048576 v
 |0,t,v,h=>by simp [itemsI] at h
 |k+1,t,v,h=>by
  have hs:=valM_small t
  unfold itemsI at h
  split at h
  ·simp at h
  ·split at h
   ·simp at h;subst h;unfold LVal;omega
   ·cases h with
    |head=>unfold LVal;omega
    |tail _ h=>exact itemsI_small k _ v h
theorem itemsI_ok:∀ (k:Nat) (t:List UInt8),t.length≤k→(∃ l,itemsM t=some l∧itemsI k t=(l,true))∨(itemsM t=none∧((itemsI k t).2=false∨∃ v,v∈(itemsI k t).1∧∀ d,okM d v=false))
 |0,t,h=>by
  have:t=[]:=List.eq_nil_of_length_eq_zero (by omega)
  subst this
  exact .inl ⟨[],rfl,rfl⟩
 |k+1,t,h=>by
  by_cases ht:t=[]
  ·subst ht;exact .inl ⟨[],rfl,by simp [itemsI]⟩
  rw [itemsM_step ht]
  unfold itemsI
  rw [if_neg ht]
  have hl:=valM_less ht
  rcases val_next t with ⟨v,r,h1,h2⟩ | ⟨h1,h2⟩
  ·rw [h2] at hl ⊢
   rw [h1]
   simp only [Option.bind_some,Bool.false_eq_true,if_false]
   dsimp only at hl
   rcases itemsI_ok k r (by omega) with ⟨l,g1,g2⟩ | ⟨g1,g2⟩
   ·exact .inl ⟨v::l,by rw [g1];rfl,by rw [g2]⟩
   ·refine .inr ⟨by rw [g1];rfl,?_⟩
    rcases g2 with g2 | ⟨x,g2,g3⟩
    ·exact .inl g2
    ·exact .inr ⟨x,.tail _ g2,g3⟩
  ·rw [h1]
   refine .inr ⟨rfl,?_⟩
   by_cases hf:(valM t).2.2=true
   ·rw [if_pos hf];exact .inl rfl
   ·rw [if_neg hf]
    rcases h2 with h2 | h2
    ·exact absurd h2 hf
    ·exact .inr ⟨_,.head _,h2⟩
theorem implItems_eq (v:TVal) (hv:LVal 1048576 v):F209 v=some ((itemsI v.2.2.1.length v.2.2.1).1,(itemsI v.2.2.1.length v.2.2.1).2,()):=by
 unfold F209
 have key:∀ (k:Nat) (t:List UInt8) (out:List TVal),t.length<k→out.length+t.length≤1048576→
   iter (F209_R2 (fun y5=>some (y5.2.1,((!y5.1.2.1),())))) k ((t,false,()),out,())=some (out++(itemsI t.length t).1,(itemsI t.length t).2,()):=by
  intro k
  induction k using Nat.strongRecOn with
  |ind k ih=>
   intro t out hk ho
   cases k with
   |zero=>omega
   |succ k=>
    simp only [iter,F209_R2]
    by_cases ht:t=[]
    ·subst ht;simp [itemsI]
    have ht':(t==[])=false:=by simpa using ht
    have hl:=valM_less ht
    have hpos:0<t.length:=List.length_pos_iff.2 ht
    simp only [ht',Bool.not_false,cond_true,value_eq t false (by omega),Option.bind_some,Bool.false_or]
    rw [gd_if (by simp only [lim,List.length_cons,List.length_nil];omega)]
    obtain ⟨m,hm⟩:∃ m,t.length=m+1:=⟨t.length-1,by omega⟩
    rw [hm,itemsI,if_neg ht]
    by_cases hf:(valM t).2.2=true
    ·rw [hf,if_pos rfl]
     cases k with
     |zero=>omega
     |succ k=>
      simp only [iter,F209_R2,Bool.not_true,cond_false,Bool.cond_self]
    ·have hf':(valM t).2.2=false:=by simpa using hf
     rw [hf']
     simp only [Bool.false_eq_true,if_false]
     rw [ih k (by omega) (valM t).2.1 _ (by omega) (by simp only [List.length_append,List.length_cons,List.length_nil];omega)]
     have hmore:∀ (n:Nat) (s:List UInt8),s.length≤n→itemsI n s=itemsI s.length s:=by
      intro n
      induction n using Nat.strongRecOn with
      |ind n ihn=>
       intro s hs
       cases n with
       |zero=>
        have:s=[]:=List.eq_nil_of_length_eq_zero (by omega)
        subst this;rfl
       |succ n=>
        by_cases h0:s=[]
        ·subst h0;simp [itemsI]
        ·have hl:=valM_less h0
         obtain ⟨p,hp⟩:∃ p,s.length=p+1:=⟨s.length-1,by have:=List.length_pos_iff.2 h0;omega⟩
         rw [hp,itemsI,itemsI,ihn n (by omega) _ (by omega)]
         by_cases hpn:p<n+1
         ·rw [ihn p hpn _ (by omega)]
         ·have:p=n:=by omega
          omega
     rw [hmore m (valM t).2.1 (by omega)]
     simp
 refine (key fuel v.2.2.1 [] (fuel_gt (by unfold LVal at hv;omega)) (by simpa [LVal] using hv)).trans ?_
 rfl
def nextT (t:List UInt8):TVal×(List UInt8×(Bool×Unit)):=match nextM t with
 |none=>((0,0,[],()),[],false,())
 |some x=>(x.1,x.2,true,())
theorem l01Next_eq (t:List UInt8) (ht:t.length≤1048576):F229 t=some (nextT t):=by
 cases t with
 |nil=>rfl
 |cons k r=>
  unfold F229 nextT
  have hk:=UInt8.toNat_lt k
  simp only [List.length_cons] at ht
  have wk:IntKind.wrap .i64 ((k.toNat:Nat):Int)=((k.toNat:Nat):Int):=wrapI _ (by omega) (by omega)
  have h0:(((List.length (k::r):Nat):Int)==(0:Int))=false:=by simp;omega
  have hk0:(k::r)[Int.toNat (0:Int)]? = some k:=rfl
  simp only [h0,cond_false,hk0,Option.bind_some,wk,gd_le]
  simp only [nextM]
  have d1:(decide (((k.toNat:Nat):Int)=0))=decide (k=0):=by
   rw [decide_eq_decide];exact ⟨fun h=>u8 (n:=0) |>.1 h,fun h=>by rw [h];rfl⟩
  have q (n:UInt8):(((k.toNat:Nat):Int)==((n.toNat:Nat):Int))=decide (k=n):=by
   rw [Bool.eq_iff_iff];simp only [beq_iff_eq,decide_eq_true_eq];exact u8
  have q0:=q 0;have q1:=q 1;have q2:=q 2;have q3:=q 3;have q4:=q 4;have q5:=q 5
  rw [show (((0:UInt8).toNat:Nat):Int)=0 from rfl] at q0
  rw [show (((1:UInt8).toNat:Nat):Int)=1 from rfl] at q1
  rw [show (((2:UInt8).toNat:Nat):Int)=2 from rfl] at q2
  rw [show (((3:UInt8).toNat:Nat):Int)=3 from rfl] at q3
  rw [show (((4:UInt8).toNat:Nat):Int)=4 from rfl] at q4
  rw [show (((5:UInt8).toNat:Nat):Int)=5 from rfl] at q5
  simp only [q0,q1,q2,q3,q4,q5]
  by_cases c0:k=0
  ·subst c0
   simp only [decide_true,cond_true,if_true]
   rw [gd_if (by rw [Int.toNat_natCast];simp;omega)]
   simp
  simp only [c0,decide_false,cond_false,if_false]
  by_cases c1:k=1
  ·subst c1
   have w2:IntKind.wrap .i64 ((1:Int)+1)=2:=by decide
   simp only [decide_true,cond_true,if_true,w2]
   cases r with
   |nil=>rfl
   |cons b r=>
    have hb:=UInt8.toNat_lt b
    simp only [List.length_cons] at ht
    have e1:decide (((List.length ((1:UInt8)::b::r):Nat):Int)<2)=false:=by simp;omega
    have e2:((1:Int)==1)=true:=rfl
    have e3:((1:UInt8)::b::r)[Int.toNat (1:Int)]? = some b:=rfl
    have e4:¬(b::r).length<1:=by simp
    simp only [e1,e2,e3,e4,cond_false,cond_true,Option.bind_some,if_false]
    rw [gd_if (by decide),gd_if (by rw [Int.toNat_natCast];simp;omega),wrapI ((b.toNat:Nat):Int) (by omega) (by omega)]
    simp only [Int.toNat_natCast,List.take_length]
    simp [byt,nth]
  simp only [c1,decide_false,cond_false,if_false]
  by_cases c2:k=2
  ·subst c2
   have w9:IntKind.wrap .i64 ((1:Int)+8)=9:=by decide
   simp only [decide_true,cond_true,if_true,w9]
   by_cases h8:r.length<8
   ·have e1:decide (((List.length ((2:UInt8)::r):Nat):Int)<9)=true:=by simp;omega
    simp only [e1,h8,cond_true,if_true]
   ·have e1:decide (((List.length ((2:UInt8)::r):Nat):Int)<9)=false:=by simp;omega
    have e2:((8:Int)==1)=false:=rfl
    have e3:((2:UInt8)::r)[Int.toNat (1:Int)]? = some (nth r 0):=by
     rw [show Int.toNat (1:Int)=0+1 from rfl,List.getElem?_cons_succ];exact get_nth' (by omega)
    have e4:(decide ((((nth r 0).toNat:Nat):Int)>127))=decide (byt r 0>127):=rfl
    simp only [e1,e2,e3,e4,h8,cond_false,Option.bind_some,if_false]
    by_cases h9:byt r 0>127
    ·simp only [h9,decide_true,cond_true,if_true]
    ·simp only [h9,decide_false,cond_false,if_false]
     have e5:List.drop (Int.toNat (1:Int)) (List.take (Int.toNat (9:Int)) ((2:UInt8)::r))=r.take 8:=rfl
     rw [gd_if (by simp;omega),e5,l01Of_eq _ (by rw [List.length_take];omega),Option.bind_some]
     rw [gd_if (by decide),gd_if (by rw [Int.toNat_natCast];simp;omega)]
     simp
  simp only [c2,decide_false,cond_false,if_false]
  have fin:∀ (kk:Int),((kk==((k.toNat:Nat):Int))=true)→
    (cond (decide (((List.length (k::r):Nat):Int)<3)) (some (((0:Int),((0:Int),(([]:List UInt8),()))),(([]:List UInt8),(false,()))))
     (gd (decide ((3:Int)≤(((List.length (k::r)):Nat):Int)))
     (Option.bind (F272 (List.drop (Int.toNat (1:Int)) (List.take (Int.toNat (3:Int)) (k::r)))) fun y5=>
     (cond (decide ((((List.length (k::r)):Nat):Int)<(IntKind.wrap IntKind.i64 ((3:Int)+y5.1))))
     (some (((0:Int),((0:Int),([],()))),([],(false,()))))
     (gd (decide ((0:Int)≤(IntKind.wrap IntKind.i64 ((3:Int)+y5.1))))
     (gd (decide ((IntKind.wrap IntKind.i64 ((3:Int)+y5.1))≤(((List.length (k::r)):Nat):Int)))
     (gd (decide ((3:Int)≤(((Int.toNat (IntKind.wrap IntKind.i64 ((3:Int)+y5.1))):Nat):Int)))
     (gd (decide ((0:Int)≤(IntKind.wrap IntKind.i64 ((3:Int)+y5.1))))
     (gd (decide ((IntKind.wrap IntKind.i64 ((3:Int)+y5.1))≤(((Int.toNat (((List.length (k::r)):Nat):Int)):Nat):Int)))
     (some ((((k.toNat:Nat):Int),((0:Int),((List.drop (Int.toNat (3:Int)) (List.take (Int.toNat (IntKind.wrap IntKind.i64 ((3:Int)+y5.1))) (k::r))),()))),((List.drop (Int.toNat (IntKind.wrap IntKind.i64 ((3:Int)+y5.1))) (List.take (Int.toNat (((List.length (k::r)):Nat):Int)) (k::r))),(true,())))))))))))))
    = some (match (if r.length<2 then none else if r.length<2+(ofM (r.take 2)).toNat then none
      else some ((((k.toNat:Nat):Int),(0:Int),(r.drop 2).take (ofM (r.take 2)).toNat,()),r.drop (2+(ofM (r.take 2)).toNat)):Option (TVal×List UInt8)) with
     |none=>(((0:Int),(0:Int),[],()),[],false,())
     |some x=>(x.1,x.2,true,())):=by
   intro kk _
   by_cases h2:r.length<2
   ·have e1:decide (((List.length (k::r):Nat):Int)<3)=true:=by simp;omega
    simp only [e1,h2,cond_true,if_true]
   ·have e1:decide (((List.length (k::r):Nat):Int)<3)=false:=by simp;omega
    have e5:List.drop (Int.toNat (1:Int)) (List.take (Int.toNat (3:Int)) (k::r))=r.take 2:=rfl
    have e6:(3:Int)≤((List.length (k::r):Nat):Int):=by simp;omega
    have hl2:(r.take 2).length=2:=by rw [List.length_take];omega
    have n1:=ofM_nonneg (l:=r.take 2) (by omega)
    have n2:=ofM_two_lt (l:=r.take 2) hl2
    simp only [e1,h2,cond_false,if_false]
    rw [gd_if e6,e5,l01Of_eq _ (by omega),Option.bind_some]
    generalize ofM (r.take 2)=n at n1 n2 ⊢
    dsimp only
    obtain ⟨m,rfl⟩:∃ m:Nat,n=m:=⟨n.toNat,by omega⟩
    have w3:IntKind.wrap .i64 ((3:Int)+(m:Int))=((m+2+1:Nat):Int):=by rw [wrapI _ (by omega) (by omega)];omega
    simp only [w3,Int.toNat_natCast]
    by_cases h3:r.length<2+m
    ·have e7:decide (((List.length (k::r):Nat):Int)<((m+2+1:Nat):Int))=true:=by simp;omega
     simp only [e7,h3,cond_true,if_true]
    ·have e7:decide (((List.length (k::r):Nat):Int)<((m+2+1:Nat):Int))=false:=by simp;omega
     have e8:((m+2+1:Nat):Int)≤((List.length (k::r):Nat):Int):=by simp;omega
     simp only [e7,h3,cond_false,if_false]
     rw [gd_if (by omega),gd_if e8,gd_if (by omega),gd_if (by omega),gd_if e8,List.take_length]
     rw [show Int.toNat (3:Int)=2+1 from rfl,List.take_succ_cons,List.drop_succ_cons,List.drop_succ_cons,Nat.add_comm 2 m]
     rw [show m+2=2+m by omega,List.drop_take]
     rw [show 2+m-2=m by omega]
  by_cases c3:k=3
  ·subst c3
   simp only [decide_true,cond_true,true_or,if_true]
   exact fin 3 rfl
  by_cases c4:k=4
  ·subst c4
   simp only [c3,decide_true,decide_false,cond_false,cond_true,true_or,or_true,if_true]
   exact fin 4 rfl
  by_cases c5:k=5
  ·subst c5
   simp only [c3,c4,decide_true,decide_false,cond_false,cond_true,true_or,or_true,if_true]
   exact fin 5 rfl
  simp only [c3,c4,c5,decide_false,cond_false,or_self,if_false]
theorem l01Items_eq (t:List UInt8) (ht:t.length≤1048576):F244 t=some (match itemsM t with | none=>([],false,()) | some l=>(l,true,())):=by
 unfold F244
 have key:∀ (k:Nat) (t:List UInt8) (out:List TVal),t.length<k→out.length+t.length≤1048576→
   iter (F244_R2 (fun y6=>(some (y6.1,(true,())))) (fun y7=>(some (y7.2.1,(y7.1,()))))) k (t,out,())=some (match itemsM t with | none=>([],false,()) | some l=>(out++l,true,())):=by
  intro k
  induction k with
  |zero=>intro t out hk;omega
  |succ k ih=>
   intro t out hk ho
   simp only [iter,F244_R2,gt_zero]
   by_cases ht:t=[]
   ·subst ht
    simp [itemsM_nil]
   ·have hp:0<t.length:=List.length_pos_iff.2 ht
    simp only [hp,decide_true,cond_true,l01Next_eq t (by omega),Option.bind_some]
    rw [itemsM_step ht]
    unfold nextT
    cases hn:nextM t with
    |none=>rfl
    |some x=>
     have hl:=nextM_less (v:=x.1) (r:=x.2) hn
     simp only [Bool.not_true,cond_false,Option.bind_some]
     rw [gd_if (by simp only [lim,List.length_cons,List.length_nil];omega)]
     rw [ih x.2 _ (by omega) (by simp only [List.length_append,List.length_cons,List.length_nil];omega)]
     cases itemsM x.2 with
     |none=>rfl
     |some l=>simp
 exact (key fuel t [] (fuel_gt (by omega)) (by simpa using ht)).trans (by cases itemsM t<;>rfl)
theorem l01Fields_eq (t:List UInt8) (ht:t.length≤1048576):F175 t=some (match fieldsM t with | none=>([],false,()) | some l=>(l,true,())):=by
 unfold F175
 have key:∀ (k:Nat) (t:List UInt8) (out:List TFld),t.length<k→out.length+t.length≤1048576→
   iter (F175_R2 (fun y8=>(some (y8.1,(true,())))) (fun y9=>(some (y9.2.1,(y9.1,())))) (fun y10=>(some (y10.2.1,(y10.1,()))))) k (t,out,())=some (match fieldsM t with | none=>([],false,()) | some l=>(out++l,true,())):=by
  intro k
  induction k with
  |zero=>intro t out hk;omega
  |succ k ih=>
   intro t out hk ho
   simp only [iter,F175_R2,gt_zero]
   cases t with
   |nil=>simp [fieldsM,fieldsF]
   |cons n r=>
    have hb:=UInt8.toNat_lt n
    have hp:0<(n::r).length:=by simp
    have h0:(n::r)[Int.toNat (0:Int)]? = some n:=rfl
    simp only [List.length_cons] at hk ho
    have w1:IntKind.wrap .i64 ((1:Int)+(IntKind.wrap .i64 ((n.toNat:Nat):Int)))=((n.toNat+1:Nat):Int):=by
     rw [wrapI ((n.toNat:Nat):Int) (by omega) (by omega),wrapI _ (by omega) (by omega)];omega
    simp only [hp,decide_true,cond_true,h0,Option.bind_some,w1]
    rw [fieldsM_step (by simp)]
    simp only [fieldM]
    by_cases h1:r.length<n.toNat
    ·have e1:decide (((List.length (n::r):Nat):Int)<((n.toNat+1:Nat):Int))=true:=by simp;omega
     simp only [e1,cond_true,h1,if_true]
     rfl
    ·have e1:decide (((List.length (n::r):Nat):Int)<((n.toNat+1:Nat):Int))=false:=by simp;omega
     have e2:((n.toNat+1:Nat):Int)≤((List.length (n::r):Nat):Int):=by simp;omega
     simp only [e1,cond_false,h1,if_false,Int.toNat_natCast,List.take_length,gd_le,gd_pos]
     rw [gd_if e2,gd_if (by omega),gd_if e2,List.drop_succ_cons,l01Next_eq _ (by rw [List.length_drop];omega),Option.bind_some]
     unfold nextT
     cases hn:nextM (r.drop n.toNat) with
     |none=>rfl
     |some x=>
      have hl:=nextM_less (v:=x.1) (r:=x.2) hn
      rw [List.length_drop] at hl
      simp only [Bool.not_true,cond_false,Option.bind_some]
      rw [gd_if (by simp only [lim,List.length_cons,List.length_nil];omega)]
      rw [ih x.2 _ (by omega) (by simp only [List.length_append,List.length_cons,List.length_nil];omega)]
      rw [show Int.toNat (1:Int)=0+1 from rfl,List.take_succ_cons,List.drop_succ_cons,List.drop_zero]
      cases fieldsM x.2 with
      |none=>rfl
      |some l=>simp
 exact (key fuel t [] (fuel_gt (by omega)) (by simpa using ht)).trans (by cases fieldsM t<;>rfl)
theorem itemsM_small:∀ (n:Nat) (t:List UInt8) (l:List TVal),t.length≤n→itemsM t=some l→l.length≤t.length∧∀ x,x∈l→x.2.2.1.length≤t.length:=by
 intro n
 induction n with
 |zero=>
  intro t l h e
  have:t=[]:=List.eq_nil_of_length_eq_zero (by omega)
  subst this
  rw [itemsM_nil] at e;injection e with e;subst e
  exact ⟨Nat.le_refl _,fun _ h=>by cases h⟩
 |succ n ih=>
  intro t l h e
  by_cases ht:t=[]
  ·subst ht
   rw [itemsM_nil] at e;injection e with e;subst e
   exact ⟨Nat.le_refl _,fun _ h=>by cases h⟩
  ·rw [itemsM_step ht] at e
   cases hn:nextM t with
   |none=>rw [hn] at e;cases e
   |some x=>
    have hl:=nextM_less (v:=x.1) (r:=x.2) hn
    have hs:=nextM_small (v:=x.1) (r:=x.2) hn
    rw [hn,Option.bind_some] at e
    cases hr:itemsM x.2 with
    |none=>rw [hr] at e;cases e
    |some l' =>
     rw [hr] at e;injection e with e;subst e
     obtain ⟨g1,g2⟩:=ih x.2 l' (by omega) hr
     refine ⟨by simp only [List.length_cons];omega,fun y hy=>?_⟩
     cases hy with
     |head=>exact hs
     |tail _ hy=>have:=g2 y hy;omega
theorem fieldM_small {t:List UInt8} {f:TFld} {r:List UInt8} (h:fieldM t=some (f,r)):f.1.length≤255∧f.2.1.2.2.1.length≤t.length:=by
 cases t with
 |nil=>cases h
 |cons n t=>
  simp only [fieldM] at h
  split at h
  ·cases h
  ·cases hn:nextM (t.drop n.toNat) with
   |none=>rw [hn] at h;cases h
   |some x=>
    rw [hn] at h
    injection h with h;injection h with h _;subst h
    have:=nextM_small (v:=x.1) (r:=x.2) hn
    have hb:=UInt8.toNat_lt n
    simp only [List.length_drop,List.length_cons,List.length_take] at this ⊢
    omega
theorem fieldsM_small:∀ (n:Nat) (t:List UInt8) (l:List TFld),t.length≤n→fieldsM t=some l→l.length≤t.length∧∀ x,x∈l→x.1.length≤255∧x.2.1.2.2.1.length≤t.length:=by
 intro n
 induction n with
 |zero=>
  intro t l h e
  have:t=[]:=List.eq_nil_of_length_eq_zero (by omega)
  subst this
  rw [show fieldsM []=some [] from rfl] at e;injection e with e;subst e
  exact ⟨Nat.le_refl _,fun _ h=>by cases h⟩
 |succ n ih=>
  intro t l h e
  by_cases ht:t=[]
  ·subst ht
   rw [show fieldsM []=some [] from rfl] at e;injection e with e;subst e
   exact ⟨Nat.le_refl _,fun _ h=>by cases h⟩
  ·rw [fieldsM_step ht] at e
   cases hn:fieldM t with
   |none=>rw [hn] at e;cases e
   |some x=>
    have hl:=fieldM_less (v:=x.1) (r:=x.2) hn
    have hs:=fieldM_small (f:=x.1) (r:=x.2) hn
    rw [hn,Option.bind_some] at e
    cases hr:fieldsM x.2 with
    |none=>rw [hr] at e;cases e
    |some l' =>
     rw [hr] at e;injection e with e;subst e
     obtain ⟨g1,g2⟩:=ih x.2 l' (by omega) hr
     refine ⟨by simp only [List.length_cons];omega,fun y hy=>?_⟩
     cases hy with
     |head=>exact hs
     |tail _ hy=>have:=g2 y hy;omega
theorem okM_succ (d:Nat) (v:TVal):okM (d+1) v=okB (okM d) true v:=rfl
theorem specBody (g:TVal→Int→Option (Bool×Unit)) (p:TVal→Bool) (more:Bool) (v:TVal) (a:Int) (hv:LVal 1048576 v) (ha:(a==0) = !more)
  (hg:more=true→∀ x,LVal 1048576 x→g x (IntKind.wrap .i64 (a-1))=some (p x,())):B189 g v a=some (okB p more v,()):=by
 unfold B189 okB
 have hv':v.2.2.1.length≤1048576:=hv
 by_cases c0:v.1=0
 ·have e:(v.1==0)=true:=by simpa using c0
  simp only [e,cond_true,c0,if_true]
  cases v.2.1==0<;>rfl
 have e0:(v.1==0)=false:=by simpa using c0
 simp only [e0,cond_false,c0,if_false]
 by_cases c1:v.1=1
 ·have e:(v.1==1)=true:=by simpa using c1
  simp only [e,cond_true,c1,if_true,l01In_eq,Option.bind_some]
  cases inR v.2.1 0 1<;>rfl
 have e1:(v.1==1)=false:=by simpa using c1
 simp only [e1,cond_false,c1,if_false]
 by_cases c2:v.1=2
 ·have e:(v.1==2)=true:=by simpa using c2
  simp only [e,cond_true,c2,if_true,l01In_eq,Option.bind_some]
  cases inR v.2.1 (-1000000000000) 1000000000000<;>rfl
 have e2:(v.1==2)=false:=by simpa using c2
 simp only [e2,cond_false,c2,if_false]
 by_cases c3:v.1=3
 ·have e:(v.1==3)=true:=by simpa using c3
  simp only [e,cond_true,c3,if_true]
  cases v.2.1==0<;>rfl
 have e3:(v.1==3)=false:=by simpa using c3
 simp only [e3,cond_false,c3,if_false]
 have hlen:decide (((v.2.2.1.length:Nat):Int)≤300) = !decide (((v.2.2.1.length:Nat):Int)>300):=by
  by_cases h:((v.2.2.1.length:Nat):Int)>300
  ·have:¬((v.2.2.1.length:Nat):Int)≤300:=by omega
   simp only [h,this,decide_true,decide_false,Bool.not_true]
  ·have:((v.2.2.1.length:Nat):Int)≤300:=by omega
   simp only [h,this,decide_true,decide_false,Bool.not_false]
 have hN:(v.2.1 != 0) = !(v.2.1==0):=rfl
 by_cases c4:v.1=4
 ·have e:(v.1==4)=true:=by simpa using c4
  simp only [e,cond_true,c4,if_true,l01Items_eq _ hv',Option.bind_some,hN,hlen,ha]
  cases v.2.1==0
  ·rfl
  cases hi:itemsM v.2.2.1 with
  |none=>cases decide (((v.2.2.1.length:Nat):Int)>300)<;>cases more<;>rfl
  |some l=>
   cases decide (((v.2.2.1.length:Nat):Int)>300)
   ·cases hm:more
    ·rfl
    ·obtain ⟨s1,s2⟩:=itemsM_small _ _ l (Nat.le_refl _) hi
     simp only [Bool.not_true,cond_false,Bool.not_false,Bool.true_and]
     refine Eq.trans (iter_all (fun i=>(a,l,(i:Int),())) (fun i=>p (nth l i)) (some (true,())) (some (false,())) l.length 0 fuel ?_ ?_ (fuel_gt (by omega))) ?_
     ·intro i h0 hi' rec
      have hi2:i<l.length:=by omega
      simp only [B189_R15,lt_cast,hi2,decide_true,cond_true,gd_pos,get_nth hi2,Option.bind_some,hg hm _ (Nat.le_trans (s2 _ (nth_mem hi2)) hv'),wrap_up i _ hi2 (by omega)]
      cases p (nth l i)<;>rfl
     ·intro rec
      have:¬(0+l.length<l.length):=by omega
      simp only [B189_R15,lt_cast,this,decide_false,cond_false]
     ·rw [allF_list]
      cases l.all p<;>rfl
   ·cases more<;>rfl
 have e4:(v.1==4)=false:=by simpa using c4
 simp only [e4,cond_false,c4,if_false]
 by_cases c5:v.1=5
 ·have e:(v.1==5)=true:=by simpa using c5
  simp only [e,cond_true,c5,if_true,l01Fields_eq _ hv',Option.bind_some,hN,hlen,ha]
  cases v.2.1==0
  ·rfl
  cases hi:fieldsM v.2.2.1 with
  |none=>cases decide (((v.2.2.1.length:Nat):Int)>300)<;>cases more<;>rfl
  |some l=>
   cases decide (((v.2.2.1.length:Nat):Int)>300)
   ·cases hm:more
    ·rfl
    ·obtain ⟨s1,s2⟩:=fieldsM_small _ _ l (Nat.le_refl _) hi
     simp only [Bool.not_true,cond_false,Bool.not_false,Bool.true_and]
     refine Eq.trans (iter_all (fun i=>(a,l,(i:Int),())) (fun i=>shortM (nth l i).1&&((decide (i=0)||Op.bytesLess (nth l (i-1)).1 (nth l i).1)&&p (nth l i).2.1)) (some (true,())) (some (false,())) l.length 0 fuel ?_ ?_ (fuel_gt (by omega))) ?_
     ·intro i h0 hi' rec
      have hi2:i<l.length:=by omega
      simp only [B189_R25,lt_cast,hi2,decide_true,cond_true,gd_pos,get_nth hi2,Option.bind_some,l01Name_eq,gt_zero,hg hm _ (Nat.le_trans (s2 _ (nth_mem hi2)).2 hv'),wrap_up i _ hi2 (by omega)]
      rcases Nat.eq_zero_or_pos i with h0 | h0
      ·subst h0
       cases shortM (nth l 0).1<;>cases p (nth l 0).2.1<;>rfl
      ·have hz:decide (i=0)=false:=by simp;omega
       simp only [h0,decide_true,cond_true,wrap_dn i _ h0 hi2 (by omega),gd_pos,get_nth (show i-1<l.length by omega),Option.bind_some,hz,Bool.false_or]
       cases shortM (nth l i).1<;>cases p (nth l i).2.1<;>cases Op.bytesLess (nth l (i-1)).1 (nth l i).1<;>rfl
     ·intro rec
      have:¬(0+l.length<l.length):=by omega
      simp only [B189_R25,lt_cast,this,decide_false,cond_false]
     ·cases allF (fun i=>shortM (nth l i).1&&((decide (i=0)||Op.bytesLess (nth l (i-1)).1 (nth l i).1)&&p (nth l i).2.1)) 0 l.length<;>rfl
   ·cases more<;>rfl
 have e5:(v.1==5)=false:=by simpa using c5
 simp only [e5,cond_false,c5,if_false]
theorem specOK_eq:∀ (d k:Nat) (v:TVal),d<k→d≤1000→LVal 1048576 v→S189 k v (d:Int)=some (okM d v,())
 |0,k+1,v,_,_,hv=>specBody _ _ false v _ hv rfl fun h=>by cases h
 |d+1,k+1,v,hk,hd,hv=>specBody _ (okM d) true v _ hv (by rw [Bool.not_true,beq_eq_false_iff_ne];omega) fun _ x hx=>by
  rw [wrapI _ (by omega) (by omega),show (((d+1:Nat):Int)-1)=(d:Int) by omega]
  exact specOK_eq d k x (by omega) (by omega) hx
theorem specValueOK_eq (v:TVal) (hv:LVal 1048576 v):F134 v=some (valueM v,()):=by
 unfold F134 valueM
 rw [show F189 v 5=some (okM 5 v,()) from specOK_eq 5 fuel v (fuel_gt (by decide)) (by decide) hv]
 by_cases h:v.2.2.1.length≤65536
 ·have:decide (((v.2.2.1.length:Nat):Int)≤65536)=true:=by simp;omega
  rw [this];rfl
 ·have h1:decide (((v.2.2.1.length:Nat):Int)≤65536)=false:=by simp;omega
  rw [h1,cond_false]
  have h2:decide (((v.2.2.1.length:Nat):Int)≤300)=false:=by simp;omega
  have h3:(v.2.2.1==[])=false:=by
   rw [beq_eq_false_iff_ne];intro h';rw [h'] at h;exact h (by simp)
  rw [okM_succ]
  unfold okB
  simp only [h2,h3,Bool.and_false,Bool.false_and]
  repeat' split
  all_goals rfl
def valF (t:List UInt8):TFld×(List UInt8×Bool):=
 (((takM (numM t 1).2.1 (numM t 1).1.toNat).1,(valM (takM (numM t 1).2.1 (numM t 1).1.toNat).2.1).1,()),(valM (takM (numM t 1).2.1 (numM t 1).1.toNat).2.1).2.1,
  (numM t 1).2.2||((takM (numM t 1).2.1 (numM t 1).1.toNat).2.2||(valM (takM (numM t 1).2.1 (numM t 1).1.toNat).2.1).2.2))
theorem valM_rest (t:List UInt8):(valM t).2.1.length≤t.length:=by
 by_cases h:t=[]
 ·subst h;decide
 ·exact Nat.le_of_lt (valM_less h)
theorem valF_less {t:List UInt8} (h:t≠[]):(valF t).2.1.length<t.length:=by
 cases t with
 |nil=>exact absurd rfl h
 |cons k t=>
  unfold valF
  rw [numM_cons]
  dsimp only
  have a1:=takM_rest t (((k.toNat:Nat):Int)).toNat
  have a2:=valM_rest (takM t (((k.toNat:Nat):Int)).toNat).2.1
  simp only [List.length_cons]
  omega
theorem field_next (t:List UInt8) (ht:t≠[]):(∃ v r,fieldM t=some (v,r)∧valF t=(v,r,false))∨(fieldM t=none∧((valF t).2.2=true∨∀ d,okM d (valF t).1.2.1=false)):=by
 cases t with
 |nil=>exact absurd rfl ht
 |cons n t=>
  unfold valF
  rw [numM_cons]
  simp only [fieldM,Int.toNat_natCast]
  by_cases h:t.length<n.toNat
  ·rw [if_pos h]
   refine .inr ⟨rfl,.inl ?_⟩
   simp only [takM,h,if_true,Bool.true_or,Bool.or_true]
  ·rw [if_neg h]
   have e:takM t n.toNat=(t.take n.toNat,t.drop n.toNat,false):=by simp only [takM,h,if_false]
   rw [e]
   dsimp only
   rcases val_next (t.drop n.toNat) with ⟨v,r,h1,h2⟩ | ⟨h1,h2⟩
   ·rw [h1,h2]
    exact .inl ⟨_,_,rfl,rfl⟩
   ·rw [h1]
    refine .inr ⟨rfl,?_⟩
    simpa using h2
def fieldsI:Nat→List UInt8→List TFld×Bool
 |0,_=>([],true)
 |k+1,t=>if t=[] then ([],true) else if (valF t).2.2 then ([(valF t).1],false) else ((valF t).1::(fieldsI k (valF t).2.1).1,(fieldsI k (valF t).2.1).2)
theorem fieldsI_len:∀ (k:Nat) (t:List UInt8),t.length≤k→(fieldsI k t).1.length≤t.length
 |0,t,_=>by simp [fieldsI]
 |k+1,t,h=>by
  unfold fieldsI
  split
  ·simp
  ·rename_i ht
   have hl:=valF_less ht
   split
   ·simp;omega
   ·have:=fieldsI_len k (valF t).2.1 (by omega)
    simp only [List.length_cons];omega
theorem valF_small (t:List UInt8):(valF t).1.1.length≤255∧(valF t).1.2.1.2.2.1.length≤65535:=by
 unfold valF
 refine ⟨?_,valM_small _⟩
 dsimp only
 rw [takM_len]
 have q:0≤(numM t 1).1∧(numM t 1).1<256:=by
  have h1:=takM_len t 1
  unfold numM
  obtain ⟨b,hb⟩:∃ b,(takM t 1).1=[b]:=by
   cases h:(takM t 1).1 with
   |nil=>rw [h] at h1;simp at h1
   |cons b l=>cases l with
    |nil=>exact ⟨b,rfl⟩
    |cons=>rw [h] at h1;simp at h1
  rw [hb,ofM_one]
  have:=UInt8.toNat_lt b
  constructor<;>dsimp only<;>omega
 omega
theorem fieldsI_small:∀ (k:Nat) (t:List UInt8) (v:TFld),v∈(fieldsI k t).1→v.1.length≤255∧LVal 1048576 v.2.1
 |0,t,v,h=>by simp [fieldsI] at h
 |k+1,t,v,h=>by
  have hs:=valF_small t
  unfold fieldsI at h
  split at h
  ·simp at h
  ·split at h
   ·simp at h;subst h;unfold LVal;omega
   ·cases h with
    |head=>unfold LVal;omega
    |tail _ h=>exact fieldsI_small k _ v h
theorem fieldsI_ok:∀ (k:Nat) (t:List UInt8),t.length≤k→(∃ l,fieldsM t=some l∧fieldsI k t=(l,true))∨(fieldsM t=none∧((fieldsI k t).2=false∨∃ v,v∈(fieldsI k t).1∧∀ d,okM d v.2.1=false))
 |0,t,h=>by
  have:t=[]:=List.eq_nil_of_length_eq_zero (by omega)
  subst this
  exact .inl ⟨[],rfl,rfl⟩
 |k+1,t,h=>by
  by_cases ht:t=[]
  ·subst ht;exact .inl ⟨[],rfl,by simp [fieldsI]⟩
  rw [fieldsM_step ht]
  unfold fieldsI
  rw [if_neg ht]
  have hl:=valF_less ht
  rcases field_next t ht with ⟨v,r,h1,h2⟩ | ⟨h1,h2⟩
  ·rw [h2] at hl ⊢
   rw [h1]
   simp only [Option.bind_some,Bool.false_eq_true,if_false]
   dsimp only at hl
   rcases fieldsI_ok k r (by omega) with ⟨l,g1,g2⟩ | ⟨g1,g2⟩
   ·exact .inl ⟨v::l,by rw [g1];rfl,by rw [g2]⟩
   ·refine .inr ⟨by rw [g1];rfl,?_⟩
    rcases g2 with g2 | ⟨x,g2,g3⟩
    ·exact .inl g2
    ·exact .inr ⟨x,.tail _ g2,g3⟩
  ·rw [h1]
   refine .inr ⟨rfl,?_⟩
   by_cases hf:(valF t).2.2=true
   ·rw [if_pos hf];exact .inl rfl
   ·rw [if_neg hf]
    rcases h2 with h2 | h2
    ·exact absurd h2 hf
    ·exact .inr ⟨_,.head _,h2⟩
theorem fieldsI_more:∀ (n:Nat) (s:List UInt8),s.length≤n→fieldsI n s=fieldsI s.length s:=by
 intro n
 induction n using Nat.strongRecOn with
 |ind n ihn=>
  intro s hs
  cases n with
  |zero=>
   have:s=[]:=List.eq_nil_of_length_eq_zero (by omega)
   subst this;rfl
  |succ n=>
   by_cases h0:s=[]
   ·subst h0;simp [fieldsI]
   ·have hl:=valF_less h0
    obtain ⟨p,hp⟩:∃ p,s.length=p+1:=⟨s.length-1,by have:=List.length_pos_iff.2 h0;omega⟩
    rw [hp,fieldsI,fieldsI,ihn n (by omega) _ (by omega)]
    by_cases hpn:p<n+1
    ·rw [ihn p hpn _ (by omega)]
    ·have:p=n:=by omega
     omega
theorem implFields_eq (v:TVal) (hv:LVal 1048576 v):F161 v=some ((fieldsI v.2.2.1.length v.2.2.1).1,(fieldsI v.2.2.1.length v.2.2.1).2,()):=by
 unfold F161
 have key:∀ (k:Nat) (t:List UInt8) (out:List TFld),t.length<k→out.length+t.length≤1048576→
   iter (F161_R2 (fun y7=>some (y7.2.1,((!y7.1.2.1),())))) k ((t,false,()),out,())=some (out++(fieldsI t.length t).1,(fieldsI t.length t).2,()):=by
  intro k
  induction k using Nat.strongRecOn with
  |ind k ih=>
   intro t out hk ho
   cases k with
   |zero=>omega
   |succ k=>
    simp only [iter,F161_R2]
    by_cases ht:t=[]
    ·subst ht;simp [fieldsI]
    have ht':(t==[])=false:=by simpa using ht
    have hl:=valF_less ht
    have hpos:0<t.length:=List.length_pos_iff.2 ht
    have hsm:=(valF_small t).1
    have q:=num_eq t false 1 (by omega) (by decide)
    rw [show ((1:Nat):Int)=1 from rfl] at q
    have r1:=numM_rest t 1
    have r2:=takM_rest (numM t 1).2.1 (numM t 1).1.toNat
    have hn0:0≤(numM t 1).1:=ofM_nonneg (by rw [takM_len];decide)
    have hn1:(numM t 1).1.toNat≤255:=by
     have:(takM (numM t 1).2.1 (numM t 1).1.toNat).1.length≤255:=hsm
     rwa [takM_len] at this
    have q2:=take_eq (numM t 1).2.1 (false||(numM t 1).2.2) (numM t 1).1.toNat (by omega) (by omega)
    rw [show (((numM t 1).1.toNat:Nat):Int)=(numM t 1).1 by omega] at q2
    simp only [ht',Bool.not_false,cond_true,q,Option.bind_some]
    rw [q2]
    simp only [Option.bind_some]
    rw [value_eq _ _ (by omega)]
    simp only [Option.bind_some]
    rw [gd_if (by simp only [lim,List.length_cons,List.length_nil];omega)]
    obtain ⟨m,hm⟩:∃ m,t.length=m+1:=⟨t.length-1,by omega⟩
    rw [hm,fieldsI,if_neg ht]
    have hv2:((false||(numM t 1).2.2)||(takM (numM t 1).2.1 (numM t 1).1.toNat).2.2||(valM (takM (numM t 1).2.1 (numM t 1).1.toNat).2.1).2.2)=(valF t).2.2:=by
     unfold valF;simp only [Bool.false_or,Bool.or_assoc]
    have hv1:((takM (numM t 1).2.1 (numM t 1).1.toNat).1,(valM (takM (numM t 1).2.1 (numM t 1).1.toNat).2.1).1,())=(valF t).1:=rfl
    have hv3:(valM (takM (numM t 1).2.1 (numM t 1).1.toNat).2.1).2.1=(valF t).2.1:=rfl
    rw [hv2,hv1,hv3]
    by_cases hf:(valF t).2.2=true
    ·rw [hf,if_pos rfl]
     cases k with
     |zero=>omega
     |succ k=>
      simp only [iter,F161_R2,Bool.not_true,cond_false,Bool.cond_self]
    ·have hf':(valF t).2.2=false:=by simpa using hf
     rw [hf']
     simp only [Bool.false_eq_true,if_false]
     rw [ih k (by omega) (valF t).2.1 _ (by omega) (by simp only [List.length_append,List.length_cons,List.length_nil];omega)]
     rw [fieldsI_more m (valF t).2.1 (by omega)]
     simp
 refine (key fuel v.2.2.1 [] (fuel_gt (by unfold LVal at hv;omega)) (by simpa [LVal] using hv)).trans ?_
 rfl
def risesF (l:List TFld) (i:Nat):Bool:=shortM (nth l i).1&&(decide (i=0)||Op.bytesLess (nth l (i-1)).1 (nth l i).1)
theorem inner4_eq (v:TVal) (hv:LVal 1048576 v) (h:v.1=4):F288 v=some ((itemsI v.2.2.1.length v.2.2.1).1,(itemsI v.2.2.1.length v.2.2.1).2,()):=by
 unfold F288
 have e:(v.1==4)=true:=by simpa using h
 rw [e,implItems_eq v hv];rfl
theorem inner5_eq (v:TVal) (hv:LVal 1048576 v) (h:v.1=5):F288 v=some ((fieldsI v.2.2.1.length v.2.2.1).1.map (·.2.1),((fieldsI v.2.2.1.length v.2.2.1).2&&allF (risesF (fieldsI v.2.2.1.length v.2.2.1).1) 0 (fieldsI v.2.2.1.length v.2.2.1).1.length),()):=by
 unfold F288
 have e:(v.1==4)=false:=by rw [beq_eq_false_iff_ne];omega
 rw [e,implFields_eq v hv]
 simp only [cond_false,Option.bind_some]
 have hs:∀ x,x∈(fieldsI v.2.2.1.length v.2.2.1).1→x.1.length≤1048576:=fun x hx=>by have:=(fieldsI_small _ _ x hx).1;omega
 have hl:(fieldsI v.2.2.1.length v.2.2.1).1.length≤1048576:=Nat.le_trans (fieldsI_len _ _ (Nat.le_refl _)) hv
 generalize (fieldsI v.2.2.1.length v.2.2.1).1=l at hs hl ⊢
 generalize (fieldsI v.2.2.1.length v.2.2.1).2=ok
 refine Eq.trans (iter_go (S:=Bool) (fun i s=>(s,((l.length:Nat):Int),(i:Int),l,(l.take i).map (·.2.1),())) (fun i s=>some (l.map (·.2.1),(s&&allF (risesF l) i (l.length-i)),())) l.length (fun _ _=>True) ?_ ?_ fuel 0 ok (Nat.zero_le _) (fuel_gt (by omega)) trivial) ?_
 ·intro i s hi _ rec hrec
  have hs1:=isShort_eq (nth l i).1 (hs _ (nth_mem hi))
  have ht1:(l.take (i+1)).map (·.2.1)=(l.take i).map (·.2.1)++[(nth l i).2.1]:=by
   rw [List.take_add_one,get_nth' hi,List.map_append];rfl
  have hlim:(((l.take i).map (·.2.1)).length+[(nth l i).2.1].length)≤lim:=by
   simp only [List.length_map,List.length_take,lim,List.length_cons,List.length_nil];omega
  obtain ⟨m,hm⟩:∃ m,l.length-i=m+1:=⟨l.length-i-1,by omega⟩
  have hm1:l.length-(i+1)=m:=by omega
  simp only [F288_R6,lt_cast,hi,decide_true,cond_true,gd_pos,gd_true,get_nth hi,Option.bind_some,hs1,eq_zero,gd_if hlim,wrap_up i _ hi (by omega),←ht1]
  rw [hm,allF,←hm1]
  cases s with
  |false=>
   simp only [cond_false,Bool.false_and]
   refine (hrec false trivial).trans ?_
   simp only [Bool.false_and]
  |true=>
   simp only [cond_true,Bool.true_and]
   cases h1:shortM (nth l i).1 with
   |false=>
    simp only [cond_false]
    refine (hrec false trivial).trans ?_
    simp only [risesF,h1,Bool.false_and]
   |true=>
    simp only [cond_true]
    rcases Nat.eq_zero_or_pos i with h0 | h0
    ·subst h0
     simp only [decide_true,cond_true]
     refine (hrec true trivial).trans ?_
     simp only [risesF,h1,Bool.true_and,decide_true,Bool.true_or]
    ·have hz:decide (i=0)=false:=by simp;omega
     simp only [hz,cond_false,wrap_dn i _ h0 hi (by omega),gd_pos,lt_cast,(show i-1<l.length by omega),decide_true,gd_true,get_nth (show i-1<l.length by omega),Option.bind_some,gd_if hlim]
     refine (hrec _ trivial).trans ?_
     simp only [risesF,h1,Bool.true_and,hz,Bool.false_or]
 ·intro s _ rec
  simp only [F288_R6,lt_cast,Nat.lt_irrefl,decide_false,cond_false,Nat.sub_self,allF,Bool.and_true,List.take_length]
 ·simp
theorem implBody (g:TVal→Int→Option (Bool×Unit)) (p:TVal→Bool) (more:Bool) (v:TVal) (a:Int) (hv:LVal 1048576 v) (ha:decide (a>0)=more)
  (hp:∀ x,(∀ d,okM d x=false)→p x=false)
  (hg:more=true→∀ x,LVal 1048576 x→g x (IntKind.wrap .i64 (a-1))=some (p x,())):B249 g v a=some (okB p more v,()):=by
 unfold B249 okB
 have hv':v.2.2.1.length≤1048576:=hv
 by_cases c0:v.1=0
 ·have e:(v.1==0)=true:=by simpa using c0
  simp only [e,cond_true,c0,if_true,decide_true,Bool.true_and,Bool.and_true]
  rw [show decide (v.2.1=0)=(v.2.1==0) from rfl]
  rfl
 have e0:(v.1==0)=false:=by simpa using c0
 simp only [e0,cond_false,c0,if_false]
 by_cases c1:v.1=1
 ·have e:(v.1==1)=true:=by simpa using c1
  simp only [e,cond_true,c1,if_true,inRange_eq,Option.bind_some]
  cases inR v.2.1 0 1<;>rfl
 have e1:(v.1==1)=false:=by simpa using c1
 simp only [e1,cond_false,c1,if_false]
 by_cases c2:v.1=2
 ·have e:(v.1==2)=true:=by simpa using c2
  simp only [e,cond_true,c2,if_true,F287,inRange_eq,Option.bind_some]
  cases inR v.2.1 (-1000000000000) 1000000000000<;>rfl
 have e2:(v.1==2)=false:=by simpa using c2
 simp only [e2,cond_false,c2,if_false]
 by_cases c3:v.1=3
 ·have e:(v.1==3)=true:=by simpa using c3
  simp only [e,cond_true,c3,if_true]
  cases v.2.1==0<;>rfl
 have e3:(v.1==3)=false:=by simpa using c3
 simp only [e3,cond_false,c3,if_false]
 by_cases c4:v.1=4
 ·have e:(v.1==4)=true:=by simpa using c4
  simp only [e,cond_true,c4,if_true,inner4_eq v hv c4,Option.bind_some,ha]
  cases v.2.1==0
  ·rfl
  cases decide (((v.2.2.1.length:Nat):Int)≤300)
  ·rfl
  cases hm:more
  ·rfl
  have hlen:=itemsI_len v.2.2.1.length v.2.2.1 (Nat.le_refl _)
  have hany:F203 (itemsI v.2.2.1.length v.2.2.1).1 (fun (v6:TVal)=>(Option.map (fun (v7:(Bool×Unit))=>v7.1) (B289 g v6 a)))=some ((itemsI v.2.2.1.length v.2.2.1).1.any fun x=>!p x,()):=
   any_value _ _ _ (fun x hx=>by
    simp only [B289,hg hm x (itemsI_small _ _ x hx),Option.bind_some,Option.map_some]) (by omega)
  rcases itemsI_ok v.2.2.1.length v.2.2.1 (Nat.le_refl _) with ⟨l,h1,h2⟩ | ⟨h1,h2⟩
  ·rw [h2] at hany
   rw [h2,h1]
   simp only [cond_true,hany,Option.bind_some,any_not_all,Bool.true_and]
   rfl
  ·rw [h1]
   simp only [cond_true,hany,Option.bind_some,any_not_all,Bool.true_and]
   rcases h2 with h2 | ⟨x,h2,h3⟩
   ·rw [h2];rfl
   ·have:(itemsI v.2.2.1.length v.2.2.1).1.all p=false:=by
     rw [List.all_eq_false];exact ⟨x,h2,by simp [hp x h3]⟩
    rw [this]
    cases (itemsI v.2.2.1.length v.2.2.1).2<;>rfl
 have e4:(v.1==4)=false:=by simpa using c4
 simp only [e4,cond_false,c4,if_false]
 by_cases c5:v.1=5
 ·have e:(v.1==5)=true:=by simpa using c5
  simp only [e,cond_true,c5,if_true,inner5_eq v hv c5,Option.bind_some,ha]
  cases v.2.1==0
  ·rfl
  cases decide (((v.2.2.1.length:Nat):Int)≤300)
  ·rfl
  cases hm:more
  ·rfl
  have hlen:=fieldsI_len v.2.2.1.length v.2.2.1 (Nat.le_refl _)
  have hany:F203 ((fieldsI v.2.2.1.length v.2.2.1).1.map (·.2.1)) (fun (v6:TVal)=>(Option.map (fun (v7:(Bool×Unit))=>v7.1) (B289 g v6 a)))=some (((fieldsI v.2.2.1.length v.2.2.1).1.map (·.2.1)).any fun x=>!p x,()):=
   any_value _ _ _ (fun x hx=>by
    obtain ⟨f,hf,rfl⟩:=List.mem_map.1 hx
    simp only [B289,hg hm _ (fieldsI_small _ _ f hf).2,Option.bind_some,Option.map_some]) (by rw [List.length_map];omega)
  rcases fieldsI_ok v.2.2.1.length v.2.2.1 (Nat.le_refl _) with ⟨l,h1,h2⟩ | ⟨h1,h2⟩
  ·rw [h2] at hany
   rw [h2,h1]
   simp only [cond_true,hany,Option.bind_some,any_not_all,Bool.true_and]
   have:allF (fun i=>shortM (nth l i).1&&((decide (i=0)||Op.bytesLess (nth l (i-1)).1 (nth l i).1)&&p (nth l i).2.1)) 0 l.length=(allF (risesF l) 0 l.length&&(l.map (·.2.1)).all p):=by
    rw [List.all_map,←allF_list,←allF_and]
    refine allF_congr _ _ fun i _ _=>?_
    simp only [risesF,Bool.and_assoc,Function.comp]
   rw [this]
   cases allF (risesF l) 0 l.length<;>rfl
  ·rw [h1]
   simp only [cond_true,hany,Option.bind_some,any_not_all,Bool.true_and]
   rcases h2 with h2 | ⟨x,h2,h3⟩
   ·rw [h2];rfl
   ·have:((fieldsI v.2.2.1.length v.2.2.1).1.map (·.2.1)).all p=false:=by
     rw [List.all_eq_false];exact ⟨x.2.1,List.mem_map.2 ⟨x,h2,rfl⟩,by simp [hp _ h3]⟩
    rw [this]
    cases ((fieldsI v.2.2.1.length v.2.2.1).2&&allF (risesF (fieldsI v.2.2.1.length v.2.2.1).1) 0 (fieldsI v.2.2.1.length v.2.2.1).1.length)<;>rfl
 have e5:(v.1==5)=false:=by simpa using c5
 simp only [e5,cond_false,c5,if_false]
theorem implOK_eq:∀ (d k:Nat) (v:TVal),d<k→d≤1000→LVal 1048576 v→S249 k v (d:Int)=some (okM d v,())
 |0,k+1,v,_,_,hv=>implBody _ _ false v _ hv rfl (fun _ _=>rfl) fun h=>by cases h
 |d+1,k+1,v,hk,hd,hv=>implBody _ (okM d) true v _ hv (by simp<;>omega) (fun x hx=>hx d) fun _ x hx=>by
  rw [wrapI _ (by omega) (by omega),show (((d+1:Nat):Int)-1)=(d:Int) by omega]
  exact implOK_eq d k x (by omega) (by omega) hx
theorem implValueOK_eq (v:TVal) (hv:LVal 1048576 v):F197 v=some (valueM v,()):=by
 unfold F197
 rw [show F249 v 5=some (okM 5 v,()) from implOK_eq 5 fuel v (fuel_gt (by decide)) (by decide) hv]
 rfl
theorem l03Doc_eq (v:TVal) (hv:LVal 1048576 v):F84 v=some (isDocM v,()):=by
 unfold F84 isDocM
 rw [specValueOK_eq v hv,Option.bind_some]
 cases valueM v<;>cases v.1==5<;>rfl
theorem isDoc_eq (v:TVal) (hv:LVal 1048576 v):F152 v=some (isDocM v,()):=by
 unfold F152 isDocM
 rw [implValueOK_eq v hv]
 cases v.1==5<;>rfl
theorem mid_eq (i j:Nat) (hi:i≤1048577) (hj:j≤1048577) :
  IntKind.wrap IntKind.i64 (Int.fdiv (IntKind.wrap IntKind.u64 (IntKind.wrap IntKind.i64 ((i:Int)+(j:Int)))) ((2:Int) ^ (Min.min (Int.toNat (1:Int)) (IntKind.bits IntKind.u64))))=(((i+j) / 2:Nat):Int):=by
 have h1:((2:Int) ^ (Min.min (Int.toNat (1:Int)) (IntKind.bits IntKind.u64)))=2:=by decide
 rw [h1,wrapI ((i:Int)+(j:Int)) (by omega) (by omega)]
 have h2:IntKind.wrap IntKind.u64 ((i:Int)+(j:Int))=(i:Int)+(j:Int):=by
  simp only [IntKind.wrap,IntKind.bits,IntKind.signed]
  simp;omega
 rw [h2,Int.fdiv_eq_ediv_of_nonneg _ (by decide),wrapI _ (by omega) (by omega)]
 omega
def bsR {α τ:Type} (G:α→τ→Option (Int×Unit)) (e0_0:List α×τ×Int×Int×Unit→Option (Int×Bool×Unit)) (rec:List α×τ×Int×Int×Int×Unit→Option (Int×Bool×Unit)) (x2:List α×τ×Int×Int×Int×Unit):Option (Int×Bool×Unit):=
 (cond (decide (x2.2.2.2.1<x2.2.2.2.2.1))
 (gd (decide ((0:Int)≤(IntKind.wrap IntKind.i64 (Int.fdiv (IntKind.wrap IntKind.u64 (IntKind.wrap IntKind.i64 (x2.2.2.2.1+x2.2.2.2.2.1))) ((2:Int) ^ (Min.min (Int.toNat (1:Int)) (IntKind.bits IntKind.u64)))))))
 (Option.bind x2.1[(Int.toNat (IntKind.wrap IntKind.i64 (Int.fdiv (IntKind.wrap IntKind.u64 (IntKind.wrap IntKind.i64 (x2.2.2.2.1+x2.2.2.2.2.1))) ((2:Int) ^ (Min.min (Int.toNat (1:Int)) (IntKind.bits IntKind.u64))))))]? fun y4=>
 (Option.bind (G y4 x2.2.1) fun y5=>
 (cond (decide (y5.1<(0:Int)))
 (rec (x2.1,x2.2.1,x2.2.2.1,(IntKind.wrap IntKind.i64 ((IntKind.wrap IntKind.i64 (Int.fdiv (IntKind.wrap IntKind.u64 (IntKind.wrap IntKind.i64 (x2.2.2.2.1+x2.2.2.2.2.1))) ((2:Int) ^ (Min.min (Int.toNat (1:Int)) (IntKind.bits IntKind.u64)))))+(1:Int))),x2.2.2.2.2.1,()))
 (rec (x2.1,x2.2.1,x2.2.2.1,x2.2.2.2.1,(IntKind.wrap IntKind.i64 (Int.fdiv (IntKind.wrap IntKind.u64 (IntKind.wrap IntKind.i64 (x2.2.2.2.1+x2.2.2.2.2.1))) ((2:Int) ^ (Min.min (Int.toNat (1:Int)) (IntKind.bits IntKind.u64))))),()))))))
 (e0_0 (x2.1,x2.2.1,x2.2.2.1,x2.2.2.2.1,())))
theorem bs_loop {α τ:Type} [Inhabited α] (G:α→τ→Option (Int×Unit)) (c:α→Int) (x:τ) (l:List α) (n:Int) (E:List α×τ×Int×Int×Unit→Option (Int×Bool×Unit))
  (hl:l.length≤1048577) (hG:∀ a,a∈l→G a x=some (c a,())) (mono:Prop) (hm:mono→∀ i j,i≤j→j<l.length→c (nth l j)<0→c (nth l i)<0) :
  ∀ (k i j:Nat),i≤j→j≤l.length→j-i<k→(mono→(∀ q,q<i→c (nth l q)<0)∧(∀ q,j≤q→q<l.length→¬c (nth l q)<0))→
   ∃ r:Nat,r≤l.length∧iter (bsR G E) k (l,x,n,(i:Int),(j:Int),())=E (l,x,n,(r:Int),())∧(mono→(∀ q,q<r→c (nth l q)<0)∧(∀ q,r≤q→q<l.length→¬c (nth l q)<0)):=by
 intro k
 induction k with
 |zero=>intro i j _ _ h;omega
 |succ k ih=>
  intro i j hij hj hk hI
  simp only [iter,bsR,lt_cast]
  by_cases h:i<j
  ·have hmid:(i+j) / 2<l.length:=by omega
   simp only [h,decide_true,cond_true,mid_eq i j (by omega) (by omega),gd_pos,get_nth hmid,Option.bind_some,hG _ (nth_mem hmid),wrap_up _ _ hmid (by omega)]
   by_cases hc:c (nth l ((i+j) / 2))<0
   ·simp only [hc,decide_true,cond_true]
    refine ih _ _ (by omega) hj (by omega) fun hmo=>⟨fun q hq=>?_,(hI hmo).2⟩
    exact hm hmo q _ (by omega) hmid hc
   ·simp only [hc,decide_false,cond_false]
    refine ih _ _ (by omega) (by omega) (by omega) fun hmo=>⟨(hI hmo).1,fun q hq hq' hcq=>?_⟩
    exact hc (hm hmo _ q hq hq' hcq)
  ·simp only [h,decide_false,cond_false]
   have:i=j:=by omega
   subst this
   exact ⟨i,hj,rfl,hI⟩
def RiseF (l:List TFld):Prop:=∀ i,0<i→i<l.length→Op.bytesLess (nth l (i-1)).1 (nth l i).1=true
theorem findField_ok (l:List TFld) (name:List UInt8) (hl:l.length≤1048576) :
  ∃ (r:Nat) (there:Bool),F169 l name=some ((r:Int),there,())∧r≤l.length∧(there=true→r<l.length∧(nth l r).1=name)∧
   (RiseF l→(∀ q,q<r→Op.bytesLess (nth l q).1 name=true)∧(∀ q,r≤q→q<l.length→Op.bytesLess (nth l q).1 name=false)∧(there=false→∀ f,f∈l→f.1≠name)):=by
 unfold F169 F222
 have hG:∀ a,a∈l→F223 a name=some (Lib.compareBytes a.1 name,()):=fun a _=>rfl
 have hm:RiseF l→∀ i j,i≤j→j<l.length→Lib.compareBytes (nth l j).1 name<0→Lib.compareBytes (nth l i).1 name<0:=by
  intro hr i j hij hj hc
  rcases Nat.lt_or_ge i j with h | h
  ·have h1:=rise_lt' (r:=fun a b:TFld=>Op.bytesLess a.1 b.1) (fun a b c=>less_trans a.1 b.1 c.1) hr h hj
   have h2:Op.bytesLess (nth l j).1 name=true:=by rw [bytesLess_cmp];simpa using hc
   have:=less_trans _ _ _ h1 h2
   rw [bytesLess_cmp] at this;simpa using this
  ·have:i=j:=by omega
   subst this;exact hc
 obtain ⟨r,hr,he,hI⟩:=bs_loop F223 (fun a=>Lib.compareBytes a.1 name) name l ((l.length:Nat):Int) (fun y6=>
   (cond (decide (y6.2.2.2.1<y6.2.2.1))
   (gd (decide ((0:Int)≤y6.2.2.2.1))
   (Option.bind y6.1[(Int.toNat y6.2.2.2.1)]? fun y7=>
   (Option.bind (F223 y7 y6.2.1) fun y8=>
   (some (y6.2.2.2.1,((y8.1==(0:Int)),()))))))
   (some (y6.2.2.2.1,(false,()))))) (by omega) hG (RiseF l) hm fuel 0 l.length (Nat.zero_le _) (Nat.le_refl _) (fuel_gt (by omega)) (fun _=>⟨fun q hq=>by omega,fun q hq hq' =>by omega⟩)
 refine ⟨r,decide (r<l.length)&&(Lib.compareBytes (nth l r).1 name==0),?_,hr,?_,?_⟩
 ·refine (congrArg (fun o=>Option.bind o _) he).trans ?_
  simp only [lt_cast]
  by_cases h:r<l.length
  ·simp only [h,decide_true,cond_true,gd_pos,get_nth h,Option.bind_some,hG _ (nth_mem h),Bool.true_and]
  ·simp only [h,decide_false,cond_false,Bool.false_and,Option.bind_some]
 ·intro h
  simp only [Bool.and_eq_true,decide_eq_true_eq,beq_iff_eq] at h
  exact ⟨h.1,(compareBytes_zero _ _).1 h.2⟩
 ·intro hrise
  obtain ⟨h1,h2⟩:=hI hrise
  refine ⟨fun q hq=>by rw [bytesLess_cmp];simpa using h1 q hq,fun q hq hq' =>by rw [bytesLess_cmp];simpa using h2 q hq hq',fun hf f hf' hn=>?_⟩
  obtain ⟨q,hq,rfl⟩:=mem_nth hf'
  subst hn
  have hz:Lib.compareBytes (nth l q).1 (nth l q).1=0:=(compareBytes_zero _ _).2 rfl
  rcases Nat.lt_trichotomy q r with h | h | h
  ·have:=h1 q h;omega
  ·subst h
   simp [hq,hz] at hf
  ·have h3:=rise_lt' (r:=fun a b:TFld=>Op.bytesLess a.1 b.1) (fun a b c=>less_trans a.1 b.1 c.1) hrise h hq
   have h4:=h2 r (Nat.le_refl _) (by omega)
   rw [bytesLess_cmp] at h3
   simp at h3
   exact h4 h3
theorem rise_find (l:List TFld) (hr:RiseF l) (r:Nat) (h:r<l.length) (name:List UInt8) (hn:(nth l r).1=name):l.find? (fun f=>f.1==name)=some (nth l r):=by
 rw [List.find?_eq_some_iff_getElem]
 refine ⟨by simpa using hn,r,h,(nth_eq h).symm,fun j hj=>?_⟩
 have:=rise_lt' (r:=fun a b:TFld=>Op.bytesLess a.1 b.1) (fun a b c=>less_trans a.1 b.1 c.1) hr hj h
 rw [nth_eq (by omega:j<l.length)] at this
 have:=less_ne this
 rw [hn] at this
 simpa using this
theorem doc_fields {v:TVal} (h:isDocM v=true):∃ l,fieldsM v.2.2.1=some l∧fieldsI v.2.2.1.length v.2.2.1=(l,true)∧RiseF l∧v.2.2.1.length≤300∧(∀ f,f∈l→okM 4 f.2.1=true∧shortM f.1=true):=by
 unfold isDocM valueM at h
 rw [okM_succ] at h
 simp only [Bool.and_eq_true,beq_iff_eq] at h
 obtain ⟨hk,h⟩:=h
 unfold okB at h
 rw [if_neg (by omega),if_neg (by omega),if_neg (by omega),if_neg (by omega),if_neg (by omega),if_pos hk] at h
 simp only [Bool.and_eq_true,decide_eq_true_eq] at h
 obtain ⟨_,hlen,_,h⟩:=h
 rcases fieldsI_ok v.2.2.1.length v.2.2.1 (Nat.le_refl _) with ⟨l,h1,h2⟩ | ⟨h1,_⟩
 ·refine ⟨l,h1,h2,?_,by omega,?_⟩
  ·rw [h1] at h
   intro i h0 hi
   have:=(allF_iff _ _ _).1 h i (Nat.zero_le _) (by omega)
   simp only [Bool.and_eq_true,Bool.or_eq_true,decide_eq_true_eq] at this
   rcases this.2.1 with h' | h'
   ·omega
   ·exact h'
  ·rw [h1] at h
   intro f hf
   obtain ⟨i,hi,rfl⟩:=mem_nth hf
   have:=(allF_iff _ _ _).1 h i (Nat.zero_le _) (by omega)
   simp only [Bool.and_eq_true] at this
   exact ⟨this.2.2,this.1⟩
 ·rw [h1] at h;cases h
theorem field_doc (v:TVal) (name:List UInt8) (hv:LVal 1048576 v) {l:List TFld} (h1:fieldsI v.2.2.1.length v.2.2.1=(l,true)) (h2:RiseF l):F111 v name=some (fieldOf l name):=by
 unfold F111
 rw [implFields_eq v hv,Option.bind_some,h1]
 have hl:=fieldsI_len v.2.2.1.length v.2.2.1 (Nat.le_refl _)
 rw [h1] at hl
 obtain ⟨r,there,g1,g2,g3,g4⟩:=findField_ok l name (Nat.le_trans hl hv)
 simp only [g1,Option.bind_some]
 unfold fieldOf
 cases there with
 |false=>
  have:=(g4 h2).2.2 rfl
  rw [List.find?_eq_none.2 fun f hf=>by simpa using this f hf]
  rfl
 |true=>
  obtain ⟨q1,q2⟩:=g3 rfl
  simp only [Bool.not_true,cond_false,gd_pos,lt_cast,q1,decide_true,gd_true,get_nth q1,Option.bind_some]
  rw [rise_find l h2 r q1 name q2]
theorem l02Field_eq (v:TVal) (name:List UInt8) (hv:LVal 1048576 v):F135 v name=some (match fieldsM v.2.2.1 with | none=>((0,0,[],()),false,()) | some l=>fieldOf l name):=by
 unfold F135
 rw [l01Fields_eq _ hv,Option.bind_some]
 have key:∀ (l:List TFld),l.length≤1048576→iter (F135_R3 (fun y8=>some (((0:Int),((0:Int),([],()))),(false,()))) (fun y9=>some (y9.2.1,(y9.1,())))) fuel (name,l,(0:Int),((0:Int),((0:Int),([],()))),())=some (fieldOf l name):=by
  intro l hl
  refine Eq.trans (iter_go (S:=Unit) (fun i _=>(name,l,(i:Int),((0:Int),((0:Int),([],()))),())) (fun i _=>some (fieldOf (l.drop i) name)) l.length (fun _ _=>True) ?_ ?_ fuel 0 () (Nat.zero_le _) (fuel_gt (by omega)) trivial) ?_
  ·intro i s hi _ rec hrec
   simp only [F135_R3,lt_cast,hi,decide_true,cond_true,gd_pos,get_nth hi,Option.bind_some,wrap_up i _ hi (by omega)]
   rw [hrec () trivial,drop_cons_nth hi]
   unfold fieldOf
   rw [List.find?_cons]
   cases (nth l i).1==name<;>rfl
  ·intro s _ rec
   simp only [F135_R3,lt_cast,Nat.lt_irrefl,decide_false,cond_false,List.drop_length]
   rfl
  ·rfl
 cases hf:fieldsM v.2.2.1 with
 |none=>exact key [] (by simp)
 |some l=>exact key l (Nat.le_trans (fieldsM_small _ _ l (Nat.le_refl _) hf).1 hv)
theorem l06Id_eq (v:TVal) (hv:LVal 1048576 v):F85 v=some (idM v,()):=by
 unfold F85
 rw [l02Field_eq v _ hv,Option.bind_some]
 unfold idM
 cases fieldsM v.2.2.1 with
 |none=>rfl
 |some l=>
  unfold idOfL
  dsimp only
  generalize fieldOf l [105,100]=x
  obtain ⟨⟨k,n,t,_⟩,there,_⟩:=x
  unfold idOfX
  simp only [l01In_eq,Option.bind_some]
  have:(k != 2) = !(k==2):=rfl
  rw [this]
  cases there<;>cases k==2<;>cases inR n 0 99<;>rfl
theorem idOf_doc (v:TVal) (hv:LVal 1048576 v) (h:isDocM v=true):∃ n ok,F53 v=some (n,ok,())∧(ok=true→n=idM v∧0≤n∧n≤99)∧(ok=false→idM v = -1):=by
 obtain ⟨l,h1,h2,h3,_⟩:=doc_fields h
 unfold F53 idM
 rw [field_doc v _ hv h2 h3,Option.bind_some,h1]
 dsimp only
 unfold idOfL
 have hz:(fieldOf l [105,100]).2.1=false→(fieldOf l [105,100]).1.1=0:=by
  unfold fieldOf
  cases l.find? (fun f=>f.1==([105,100]:List UInt8)) with
  |none=>intro _;rfl
  |some f=>intro h;cases h
 generalize fieldOf l [105,100]=x at hz ⊢
 obtain ⟨⟨k,n,t,_⟩,there,_⟩:=x
 unfold idOfX
 simp only [inRange_eq,Option.bind_some]
 dsimp only at hz
 cases there with
 |false=>
  have hk:(k==2)=false:=by rw [beq_eq_false_iff_ne,hz rfl];decide
  rw [hk]
  exact ⟨_,_,rfl,(fun h=>by cases h),fun _=>rfl⟩
 |true=>
  cases k==2 with
  |false=>exact ⟨_,_,rfl,(fun h=>by cases h),fun _=>rfl⟩
  |true=>
   refine ⟨_,_,rfl,fun g=>?_,fun g=>?_⟩
   ·have g':inR n 0 99=true:=g
    rw [g']
    simp only [inR,Bool.and_eq_true,decide_eq_true_eq] at g'
    exact ⟨rfl,g'⟩
   ·have g':inR n 0 99=false:=g
    rw [g'];rfl
theorem implTermOK_eq (t:TTerm) (ht:LTerm 1048576 t):F145 t=some (termM t,()):=by
 unfold F145 termM
 rw [implPathOK_eq _ ht.1,Option.bind_some]
 simp only [implValueOK_eq _ ht.2,Option.bind_some,inRange_eq]
 cases pathM t.2.1
 ·rfl
 cases valueM t.2.2.1
 ·rfl
 simp only [Bool.not_true,cond_false,Bool.true_and]
 by_cases c7:t.1=7
 ·simp only [c7,if_true];rfl
 have e7:(t.1==7)=false:=by simpa using c7
 simp only [e7,cond_false,c7,if_false]
 by_cases c8:t.1=8
 ·simp only [c8,if_true];rfl
 have e8:(t.1==8)=false:=by simpa using c8
 simp only [e8,cond_false,c8,if_false]
 by_cases c9:t.1=9
 ·simp only [c9,if_true];cases t.2.2.1.1==2<;>rfl
 have e9:(t.1==9)=false:=by simpa using c9
 simp only [e9,cond_false,c9,if_false]
 by_cases c10:t.1=10
 ·simp only [c10,if_true];cases t.2.2.1.1==2<;>rfl
 have e10:(t.1==10)=false:=by simpa using c10
 simp only [e10,cond_false,c10,if_false]
theorem specTermOK_eq (t:TTerm) (ht:LTerm 1048576 t):F131 t=some (termM t,()):=by
 unfold F131 termM
 by_cases hl:t.2.1.length>65536
 ·have e1:decide (((t.2.1.length:Nat):Int)>65536)=true:=by simp;omega
  have e2:pathM t.2.1=false:=by
   unfold pathM
   have:decide (((t.2.1.length:Nat):Int)≤50)=false:=by simp;omega
   rw [this];rfl
  rw [e1,e2];rfl
 have e1:decide (((t.2.1.length:Nat):Int)>65536)=false:=by simp;omega
 simp only [e1,cond_false,specPathOK_eq _ ht.1,Option.bind_some,specValueOK_eq _ ht.2,l01In_eq]
 cases pathM t.2.1
 ·rfl
 cases valueM t.2.2.1
 ·rfl
 simp only [Bool.not_true,cond_false,Bool.true_and]
 by_cases c1:t.1=1
 ·simp only [c1];rfl
 have e1:(t.1==1)=false:=by simpa using c1
 simp only [e1,cond_false]
 by_cases c2:t.1=2
 ·simp only [c2];rfl
 have e2:(t.1==2)=false:=by simpa using c2
 simp only [e2,cond_false]
 by_cases c3:t.1=3
 ·simp only [c3];rfl
 have e3:(t.1==3)=false:=by simpa using c3
 simp only [e3,cond_false]
 by_cases c4:t.1=4
 ·simp only [c4];rfl
 have e4:(t.1==4)=false:=by simpa using c4
 simp only [e4,cond_false]
 by_cases c5:t.1=5
 ·simp only [c5];rfl
 have e5:(t.1==5)=false:=by simpa using c5
 simp only [e5,cond_false]
 by_cases c6:t.1=6
 ·simp only [c6];rfl
 have e6:(t.1==6)=false:=by simpa using c6
 simp only [e6,cond_false]
 by_cases c7:t.1=7
 ·simp only [c7,if_true];rfl
 have e7:(t.1==7)=false:=by simpa using c7
 simp only [e7,cond_false,c7,if_false]
 by_cases c8:t.1=8
 ·simp only [c8,if_true];rfl
 have e8:(t.1==8)=false:=by simpa using c8
 simp only [e8,cond_false,c8,if_false]
 by_cases c9:t.1=9
 ·simp only [c9,if_true];cases t.2.2.1.1==2<;>rfl
 have e9:(t.1==9)=false:=by simpa using c9
 simp only [e9,cond_false,c9,if_false]
 by_cases c10:t.1=10
 ·simp only [c10,if_true];cases t.2.2.1.1==2<;>rfl
 have e10:(t.1==10)=false:=by simpa using c10
 simp only [e10,cond_false,c10,if_false]
 have:inR t.1 1 6=false:=by
  rw [Bool.eq_false_iff]
  intro h
  simp only [inR,Bool.and_eq_true,decide_eq_true_eq] at h
  omega
 rw [this]
theorem implFilterOK_eq (f:TFilter) (hf:LFilter 1048576 f):F93 f=some (filterM f,()):=by
 unfold F93 filterM
 obtain ⟨h1,h2⟩:=hf
 rw [inRange_eq,Option.bind_some]
 have hany:F141 f.1 (fun (v3:TClause)=>(Option.map (fun (v4:(Bool×Unit))=>v4.1) (F142 v3)))=some (f.1.any fun c=>!(decide (((c.1.length:Nat):Int)≤4)&&c.1.all termM),()):=
  any_clause _ _ _ (fun c hc=>by
   obtain ⟨g1,g2⟩:=h2 c hc
   unfold F142
   by_cases h4:c.1.length>4
   ·have e1:decide (((c.1.length:Nat):Int)>4)=true:=by simp;omega
    have e2:decide (((c.1.length:Nat):Int)≤4)=false:=by simp;omega
    rw [e1,e2];rfl
   ·have e1:decide (((c.1.length:Nat):Int)>4)=false:=by simp;omega
    have e2:decide (((c.1.length:Nat):Int)≤4)=true:=by simp;omega
    rw [e1,e2,cond_false,any_term (fun t=>!termM t) _ _ (fun t ht=>by
     simp only [F144,implTermOK_eq t (g2 t ht),Option.bind_some,Option.map_some]) (by omega)]
    simp only [Option.bind_some,Option.map_some,any_not_all',Bool.true_and]) (by omega)
 rw [hany,Option.bind_some]
 simp only [any_not_all]
 cases inR ((f.1.length:Nat):Int) 1 3<;>rfl
theorem specFilterOK_eq (f:TFilter) (hf:LFilter 1048576 f):F80 f=some (filterM f,()):=by
 unfold F80 filterM
 obtain ⟨h1,h2⟩:=hf
 rw [l01In_eq,Option.bind_some]
 cases inR ((f.1.length:Nat):Int) 1 3
 ·rfl
 simp only [Bool.not_true,cond_false,Bool.true_and]
 refine Eq.trans (iter_all (fun i=>((i:Int),f,())) (fun i=>decide ((((nth f.1 i).1.length:Nat):Int)≤4)&&(nth f.1 i).1.all termM) (some (true,())) (some (false,())) f.1.length 0 fuel ?_ ?_ (fuel_gt (by omega))) ?_
 ·intro i h0 hi rec
  have hi2:i<f.1.length:=by omega
  obtain ⟨g1,g2⟩:=h2 _ (nth_mem hi2)
  simp only [F80_R4,lt_cast,hi2,decide_true,cond_true,gd_pos,get_nth hi2,Option.bind_some]
  by_cases h4:(nth f.1 i).1.length>4
  ·have e1:decide ((((nth f.1 i).1.length:Nat):Int)>4)=true:=by simp;omega
   have e2:decide ((((nth f.1 i).1.length:Nat):Int)≤4)=false:=by simp;omega
   rw [e1,e2];rfl
  ·have e1:decide ((((nth f.1 i).1.length:Nat):Int)>4)=false:=by simp;omega
   have e2:decide ((((nth f.1 i).1.length:Nat):Int)≤4)=true:=by simp;omega
   rw [e1,e2,cond_false,Bool.true_and]
   refine Eq.trans (iter_all (fun k=>((i:Int),(k:Int),f,())) (fun k=>termM (nth (nth f.1 i).1 k)) (rec (((i+1:Nat):Int),f,())) (some (false,())) (nth f.1 i).1.length 0 fuel ?_ ?_ (fuel_gt (by omega))) ?_
   ·intro k hk0 hk rec'
    have hk2:k<(nth f.1 i).1.length:=by omega
    simp only [F80_R9,gd_pos,get_nth hi2,Option.bind_some,lt_cast,hk2,decide_true,cond_true,get_nth hk2,specTermOK_eq _ (g2 _ (nth_mem hk2)),wrap_up k _ hk2 (by omega)]
    cases termM (nth (nth f.1 i).1 k)<;>rfl
   ·intro rec'
    have:¬(0+(nth f.1 i).1.length<(nth f.1 i).1.length):=by omega
    simp only [F80_R9,gd_pos,get_nth hi2,Option.bind_some,lt_cast,this,decide_false,cond_false,wrap_up i _ hi2 (by omega)]
   ·rw [allF_list termM]
 ·intro rec
  have:¬(0+f.1.length<f.1.length):=by omega
  simp only [F80_R4,lt_cast,this,decide_false,cond_false]
 ·rw [allF_list (fun c:TClause=>decide (((c.1.length:Nat):Int)≤4)&&c.1.all termM)]
  cases f.1.all (fun c:TClause=>decide (((c.1.length:Nat):Int)≤4)&&c.1.all termM)<;>rfl
theorem firstAt_spec {α:Type} [Inhabited α] (p:α→Bool):∀ (s:Nat) (l:List α),(firstAt p s l = -1∧∀ k,k<l.length→p (nth l k)=false)∨
  ∃ r:Nat,r<l.length∧firstAt p s l=((s+r:Nat):Int)∧p (nth l r)=true∧∀ k,k<r→p (nth l k)=false
 |s,[]=>.inl ⟨rfl,fun k h=>by cases h⟩
 |s,a::l=>by
  simp only [firstAt]
  cases h:p a with
  |true=>exact .inr ⟨0,by simp,rfl,h,fun k hk=>by omega⟩
  |false=>
   simp only [cond_false]
   rcases firstAt_spec p (s+1) l with ⟨h1,h2⟩ | ⟨r,h1,h2,h3,h4⟩
   ·refine .inl ⟨h1,fun k hk=>?_⟩
    cases k with
    |zero=>exact h
    |succ k=>exact h2 k (by simpa using hk)
   ·refine .inr ⟨r+1,by simp;omega,by rw [h2];omega,h3,fun k hk=>?_⟩
    cases k with
    |zero=>exact h
    |succ k=>exact h4 k (by omega)
theorem cmpInt_eq (a b:Int):F208 a b=some (cond (decide (a<b)) (-1) (cond (decide (a>b)) 1 0),()):=by
 unfold F208 F262
 simp only [bne_self_eq_false,Option.bind_some,cond_false]
 cases decide (a<b)<;>cases decide (a>b)<;>rfl
theorem fuel_three:∃ m,fuel=m+3:=⟨18446744073709551613,fuel_eq⟩
theorem or2_eq (a b:Int):F207 [a,b]=some (cond (a != 0) a b,()):=by
 unfold F207
 obtain ⟨m,hm⟩:=fuel_three
 rw [hm]
 have w1:IntKind.wrap IntKind.i64 ((0:Int)+1)=1:=by decide
 have w2:IntKind.wrap IntKind.i64 ((1:Int)+1)=2:=by decide
 have e0:decide ((0:Int)<(((List.length [a,b]):Nat):Int))=true:=by simp<;>omega
 have e1:decide ((1:Int)<(((List.length [a,b]):Nat):Int))=true:=by simp
 have e2:decide ((2:Int)<(((List.length [a,b]):Nat):Int))=false:=by simp
 have g0:([a,b]:List Int)[Int.toNat (0:Int)]? = some a:=rfl
 have g1:([a,b]:List Int)[Int.toNat (1:Int)]? = some b:=rfl
 have q0:∀ k:Option (Int×Unit),gd (decide ((0:Int)≤0)) k=k:=fun _=>rfl
 have q1:∀ k:Option (Int×Unit),gd (decide ((0:Int)≤1)) k=k:=fun _=>rfl
 simp only [iter,F207_R3,e0,e1,e2,g0,g1,w1,w2,q0,q1,cond_true,cond_false,Option.bind_some]
 by_cases ha:a=0
 ·subst ha
  by_cases hb:b=0
  ·subst hb;rfl
  ·have:(b != 0)=true:=by simpa using hb
   rw [this];rfl
 ·have:(a != 0)=true:=by simpa using ha
  rw [this];rfl
def exN (n:Nat) (l:List UInt8):Nat:=l.foldl (fun n b=>n*256+b.toNat) n
theorem exN_inj:∀ (l l':List UInt8) (n n':Nat),l.length=l'.length→exN n l=exN n' l' →n=n' ∧l=l'
 |[],[],n,n',_,h=>⟨h,rfl⟩
 |b::l,b'::l',n,n',hl,h=>by
  have hb:=UInt8.toNat_lt b
  have hb' :=UInt8.toNat_lt b'
  obtain ⟨h1,h2⟩:=exN_inj l l' (n*256+b.toNat) (n'*256+b'.toNat) (by simpa using hl) h
  have e1:b.toNat=b'.toNat:=by omega
  exact ⟨by omega,by rw [h2,UInt8.toNat_inj.1 e1]⟩
theorem stepM_eq {n:Int} {b:Nat} (h0:0≤n) (h1:n<36028797018963968) (hb:b<256):stepM n b=n*256+b:=by
 unfold stepM
 rw [wrapI (n*256) (by omega) (by omega),wrapI _ (by omega) (by omega)]
theorem fold_ex:∀ (l:List UInt8) (j:Nat) (n:Nat),n<256 ^ j→j+l.length≤7→l.foldl (fun n b=>stepM n (((b.toNat:Nat)):Int)) (n:Int)=(exN n l:Int)
 |[],j,n,_,_=>rfl
 |b::l,j,n,h1,h2=>by
  have hb:=UInt8.toNat_lt b
  simp only [List.length_cons] at h2
  have hj:256 ^ j≤256 ^ 6:=Nat.pow_le_pow_right (by decide) (by omega)
  have h6:(256:Nat) ^ 6=281474976710656:=by decide
  have hp:256 ^ (j+1)=256 ^ j*256:=Nat.pow_succ ..
  rw [List.foldl_cons,stepM_eq (by omega) (by omega) hb]
  have:=fold_ex l (j+1) (n*256+b.toNat) (by omega) (by omega)
  rw [show ((n:Int)*256+((b.toNat:Nat):Int))=((n*256+b.toNat:Nat):Int) by omega,this]
  rfl
theorem exN_append (n:Nat) (l:List UInt8) (b:UInt8):exN n (l++[b])=exN n l*256+b.toNat:=by simp [exN]
theorem exN_lt:∀ (l:List UInt8) (n c:Nat),n<c→exN n l<c*256 ^ l.length
 |[],n,c,h=>by simpa [exN] using h
 |b::l,n,c,h=>by
  have hb:=UInt8.toNat_lt b
  have:=exN_lt l (n*256+b.toNat) (c*256) (by omega)
  rw [List.length_cons,Nat.pow_succ,Nat.mul_comm (256 ^ l.length) 256,←Nat.mul_assoc]
  exact this
theorem ofM_ex2 {l:List UInt8} (h:l.length=2):ofM l=(exN 0 l:Int):=fold_ex l 0 0 (by decide) (by omega)
theorem ofM_ex8 {l:List UInt8} (h:l.length=8) (h0:¬byt l 0>127):ofM l=(exN 0 l:Int)∧exN 0 l<9223372036854775808:=by
 obtain ⟨a,l7,rfl⟩:∃ a l7,l=a::l7:=by cases l with | nil=>simp at h | cons a l7=>exact ⟨a,l7,rfl⟩
 simp only [List.length_cons] at h
 have ha:a.toNat≤127:=by simp [byt,nth] at h0;omega
 have hl:l7=l7.take 6++[nth l7 6]:=by
  have:=List.take_append_drop 6 l7
  rw [drop_cons_nth (by omega:6<l7.length),List.drop_eq_nil_of_le (by omega)] at this
  exact this.symm
 have ht:(l7.take 6).length=6:=by rw [List.length_take];omega
 have hb:=UInt8.toNat_lt (nth l7 6)
 have h1:stepM 0 ((a.toNat:Nat):Int)=((a.toNat:Nat):Int):=by rw [stepM_eq (by decide) (by decide) (by omega)];omega
 have g:=fold_ex (l7.take 6) 1 a.toNat (by omega) (by omega)
 have g2:=exN_lt (l7.take 6) a.toNat 128 (by omega)
 rw [ht] at g2
 have e6:128*256 ^ 6=36028797018963968:=by decide
 rw [e6] at g2
 have e:exN 0 (a::l7)=exN a.toNat (l7.take 6)*256+(nth l7 6).toNat:=by
  have e0:exN 0 (a::l7)=exN a.toNat l7:=by simp [exN]
  rw [e0]
  conv=>lhs;rw [hl]
  rw [exN_append]
 rw [e,ofM,List.foldl_cons,h1,hl,List.foldl_append,List.foldl_cons,List.foldl_nil,←hl,g,stepM_eq (by omega) (by omega) hb]
 omega
theorem next_inj {t t' r r':List UInt8} {v:TVal} (h:nextM t=some (v,r)) (h':nextM t'=some (v,r')):∃ p,t=p++r∧t'=p++r' :=by
 cases t with
 |nil=>cases h
 |cons k t=>
  cases t' with
  |nil=>cases h'
  |cons k' t' =>
   have kind:∀ {k:UInt8} {t r:List UInt8},nextM (k::t)=some (v,r)→v.1=((k.toNat:Nat):Int):=by
    intro k t r h
    simp only [nextM] at h
    by_cases c0:k=0
    ·rw [if_pos c0] at h;injection h with h;injection h with h _;rw [←h,c0];rfl
    rw [if_neg c0] at h
    by_cases c1:k=1
    ·rw [if_pos c1] at h
     split at h
     ·cases h
     ·injection h with h;injection h with h _;rw [←h,c1];rfl
    rw [if_neg c1] at h
    by_cases c2:k=2
    ·rw [if_pos c2] at h
     split at h
     ·cases h
     split at h
     ·cases h
     ·injection h with h;injection h with h _;rw [←h,c2];rfl
    rw [if_neg c2] at h
    repeat' split at h
    all_goals first | (cases h;done) | (injection h with h;injection h with h _;rw [←h])
   have e:k=k' :=u8.1 ((kind h).symm.trans (kind h'))
   subst e
   simp only [nextM] at h h'
   by_cases c0:k=0
   ·rw [if_pos c0] at h h'
    injection h with h;injection h with _ h;injection h' with h';injection h' with _ h'
    subst h;subst h'
    exact ⟨[k],rfl,rfl⟩
   rw [if_neg c0] at h h'
   by_cases c1:k=1
   ·rw [if_pos c1] at h h'
    split at h
    ·cases h
    split at h'
    ·cases h'
    rename_i l1 l2
    injection h with h;injection h with h1 h;injection h' with h';injection h' with h2 h'
    subst h;subst h'
    cases t with
    |nil=>simp at l1
    |cons b t=>
     cases t' with
     |nil=>simp at l2
     |cons b' t' =>
      have:byt (b::t) 0=byt (b'::t') 0:=by rw [←h2] at h1;injection h1 with _ h1;injection h1 with h1 _
      have:b=b' :=by simp [byt,nth] at this;exact u8.1 (by omega)
      subst this
      exact ⟨[k,b],rfl,rfl⟩
   rw [if_neg c1] at h h'
   by_cases c2:k=2
   ·rw [if_pos c2] at h h'
    split at h
    ·cases h
    split at h
    ·cases h
    split at h'
    ·cases h'
    split at h'
    ·cases h'
    rename_i l1 l2 l3 l4
    injection h with h;injection h with h1 h;injection h' with h';injection h' with h2 h'
    subst h;subst h'
    have hw:IntKind.wrap .i64 (ofM (t.take 8)-4611686018427387904)=IntKind.wrap .i64 (ofM (t'.take 8)-4611686018427387904):=by
     rw [←h2] at h1;injection h1 with _ h1;injection h1 with h1 _
    have b1:byt (t.take 8) 0=byt t 0:=by simp [byt,nth]
    have b2:byt (t'.take 8) 0=byt t' 0:=by simp [byt,nth]
    obtain ⟨x1,x2⟩:=ofM_ex8 (l:=t.take 8) (by rw [List.length_take];omega) (by rw [b1];exact l2)
    obtain ⟨y1,y2⟩:=ofM_ex8 (l:=t'.take 8) (by rw [List.length_take];omega) (by rw [b2];exact l4)
    rw [x1,y1,wrapI _ (by omega) (by omega),wrapI _ (by omega) (by omega)] at hw
    obtain ⟨_,e⟩:=exN_inj (t.take 8) (t'.take 8) 0 0 (by rw [List.length_take,List.length_take];omega) (by omega)
    exact ⟨k::t.take 8,by rw [List.cons_append,List.take_append_drop],by rw [e,List.cons_append,List.take_append_drop]⟩
   rw [if_neg c2] at h h'
   split at h
   ·rename_i c3
    rw [if_pos c3] at h'
    split at h
    ·cases h
    split at h
    ·cases h
    split at h'
    ·cases h'
    split at h'
    ·cases h'
    rename_i l1 l2 l3 l4
    injection h with h;injection h with h1 h;injection h' with h';injection h' with h2 h'
    subst h;subst h'
    have ht:(t.drop 2).take (ofM (t.take 2)).toNat=(t'.drop 2).take (ofM (t'.take 2)).toNat:=by
     rw [←h2] at h1;injection h1 with _ h1;injection h1 with _ h1;injection h1 with h1 _
    have hl:=congrArg List.length ht
    simp only [List.length_take,List.length_drop] at hl
    have x1:=ofM_ex2 (l:=t.take 2) (by rw [List.length_take];omega)
    have y1:=ofM_ex2 (l:=t'.take 2) (by rw [List.length_take];omega)
    obtain ⟨_,e⟩:=exN_inj (t.take 2) (t'.take 2) 0 0 (by rw [List.length_take,List.length_take];omega) (by omega)
    refine ⟨k::(t.take 2++(t.drop 2).take (ofM (t.take 2)).toNat),?_,?_⟩
    ·rw [List.cons_append,List.append_assoc,←List.drop_drop,List.take_append_drop,List.take_append_drop]
    ·rw [ht,e,List.cons_append,List.append_assoc,←List.drop_drop,List.take_append_drop,List.take_append_drop]
   ·cases h
theorem items_inj:∀ (l:List TVal) (t t':List UInt8),itemsM t=some l→itemsM t'=some l→t=t'
 |[],t,t',h,h' =>by
  have nil:∀ {t:List UInt8},itemsM t=some []→t=[]:=by
   intro t h
   by_cases ht:t=[]
   ·exact ht
   ·rw [itemsM_step ht] at h
    cases hn:nextM t with
    |none=>rw [hn] at h;cases h
    |some x=>
     rw [hn,Option.bind_some] at h
     cases hi:itemsM x.2 with
     |none=>rw [hi] at h;cases h
     |some y=>rw [hi] at h;cases h
  rw [nil h,nil h']
 |v::l,t,t',h,h' =>by
  have cons:∀ {t:List UInt8},itemsM t=some (v::l)→∃ r,nextM t=some (v,r)∧itemsM r=some l:=by
   intro t h
   by_cases ht:t=[]
   ·subst ht;rw [itemsM_nil] at h;cases h
   ·rw [itemsM_step ht] at h
    cases hn:nextM t with
    |none=>rw [hn] at h;cases h
    |some x=>
     rw [hn,Option.bind_some] at h
     cases hi:itemsM x.2 with
     |none=>rw [hi] at h;cases h
     |some y=>
      rw [hi,Option.map_some] at h
      injection h with h;injection h with h1 h2
      subst h1;subst h2
      exact ⟨x.2,rfl,hi⟩
  obtain ⟨r,a1,a2⟩:=cons h
  obtain ⟨r',b1,b2⟩:=cons h'
  obtain ⟨p,e1,e2⟩:=next_inj a1 b1
  rw [e1,e2,items_inj l r r' a2 b2]
theorem field_inj {t t' r r':List UInt8} {v:TFld} (h:fieldM t=some (v,r)) (h':fieldM t'=some (v,r')):∃ p,t=p++r∧t'=p++r' :=by
 cases t with
 |nil=>cases h
 |cons n t=>
  cases t' with
  |nil=>cases h'
  |cons n' t' =>
   simp only [fieldM] at h h'
   split at h
   ·cases h
   split at h'
   ·cases h'
   rename_i l1 l2
   cases a:nextM (t.drop n.toNat) with
   |none=>rw [a] at h;cases h
   |some x=>
    cases b:nextM (t'.drop n'.toNat) with
    |none=>rw [b] at h';cases h'
    |some y=>
     rw [a,Option.bind_some] at h
     rw [b,Option.bind_some] at h'
     injection h with h;injection h with h1 h;injection h' with h';injection h' with h2 h'
     subst h;subst h'
     rw [←h2] at h1
     injection h1 with h1 h3;injection h3 with h3 _
     have hl:=congrArg List.length h1
     simp only [List.length_take] at hl
     have hn:n=n' :=UInt8.toNat_inj.1 (by omega)
     subst hn
     obtain ⟨p,e1,e2⟩:=next_inj (v:=x.1) (r:=x.2) (r' :=y.2) a (by rw [h3];exact b)
     refine ⟨n::(t.take n.toNat++p),?_,?_⟩
     ·rw [List.cons_append,List.append_assoc,←e1,List.take_append_drop]
     ·rw [h1,List.cons_append,List.append_assoc,←e2,List.take_append_drop]
theorem fields_inj:∀ (l:List TFld) (t t':List UInt8),fieldsM t=some l→fieldsM t'=some l→t=t'
 |[],t,t',h,h' =>by
  have nil:∀ {t:List UInt8},fieldsM t=some []→t=[]:=by
   intro t h
   by_cases ht:t=[]
   ·exact ht
   ·rw [fieldsM_step ht] at h
    cases hn:fieldM t with
    |none=>rw [hn] at h;cases h
    |some x=>
     rw [hn,Option.bind_some] at h
     cases hi:fieldsM x.2 with
     |none=>rw [hi] at h;cases h
     |some y=>rw [hi] at h;cases h
  rw [nil h,nil h']
 |v::l,t,t',h,h' =>by
  have cons:∀ {t:List UInt8},fieldsM t=some (v::l)→∃ r,fieldM t=some (v,r)∧fieldsM r=some l:=by
   intro t h
   by_cases ht:t=[]
   ·subst ht;rw [show fieldsM []=some [] from rfl] at h;cases h
   ·rw [fieldsM_step ht] at h
    cases hn:fieldM t with
    |none=>rw [hn] at h;cases h
    |some x=>
     rw [hn,Option.bind_some] at h
     cases hi:fieldsM x.2 with
     |none=>rw [hi] at h;cases h
     |some y=>
      rw [hi,Option.map_some] at h
      injection h with h;injection h with h1 h2
      subst h1;subst h2
      exact ⟨x.2,rfl,hi⟩
  obtain ⟨r,a1,a2⟩:=cons h
  obtain ⟨r',b1,b2⟩:=cons h'
  obtain ⟨p,e1,e2⟩:=field_inj a1 b1
  rw [e1,e2,fields_inj l r r' a2 b2]
def itemsL (v:TVal):List TVal:=(itemsM v.2.2.1).getD []
def fieldsL (v:TVal):List TFld:=(fieldsM v.2.2.1).getD []
theorem okM_items {d:Nat} {v:TVal} (h:okM d v=true) (hk:v.1=4):∃ e l,d=e+1∧itemsM v.2.2.1=some l∧itemsL v=l∧v.2.1=0∧v.2.2.1.length≤300∧∀ x,x∈l→okM e x=true:=by
 cases d with
 |zero=>
  rw [show okM 0 v=okB (fun _=>false) false v from rfl] at h
  unfold okB at h
  rw [if_neg (by omega),if_neg (by omega),if_neg (by omega),if_neg (by omega),if_pos hk] at h
  simp at h
 |succ e=>
  rw [show okM (e+1) v=okB (okM e) true v from rfl] at h
  unfold okB at h
  rw [if_neg (by omega),if_neg (by omega),if_neg (by omega),if_neg (by omega),if_pos hk] at h
  cases hi:itemsM v.2.2.1 with
  |none=>rw [hi] at h;simp at h
  |some l=>
   rw [hi] at h
   simp only [Bool.and_eq_true,beq_iff_eq,decide_eq_true_eq,List.all_eq_true] at h
   exact ⟨e,l,rfl,rfl,by unfold itemsL;rw [hi];rfl,h.1,by omega,h.2.2.2⟩
theorem okM_fields {d:Nat} {v:TVal} (h:okM d v=true) (hk:v.1=5):∃ e l,d=e+1∧fieldsM v.2.2.1=some l∧fieldsL v=l∧v.2.1=0∧v.2.2.1.length≤300∧∀ x,x∈l→okM e x.2.1=true:=by
 cases d with
 |zero=>
  rw [show okM 0 v=okB (fun _=>false) false v from rfl] at h
  unfold okB at h
  rw [if_neg (by omega),if_neg (by omega),if_neg (by omega),if_neg (by omega),if_neg (by omega),if_pos hk] at h
  simp at h
 |succ e=>
  rw [show okM (e+1) v=okB (okM e) true v from rfl] at h
  unfold okB at h
  rw [if_neg (by omega),if_neg (by omega),if_neg (by omega),if_neg (by omega),if_neg (by omega),if_pos hk] at h
  cases hi:fieldsM v.2.2.1 with
  |none=>rw [hi] at h;simp at h
  |some l=>
   rw [hi] at h
   simp only [Bool.and_eq_true,beq_iff_eq,decide_eq_true_eq] at h
   refine ⟨e,l,rfl,rfl,by unfold fieldsL;rw [hi];rfl,h.1,by omega,fun x hx=>?_⟩
   obtain ⟨i,hi',rfl⟩:=mem_nth hx
   have:=(allF_iff _ _ _).1 h.2.2.2 i (Nat.zero_le _) (by omega)
   simp only [Bool.and_eq_true] at this
   exact this.2.2
theorem okM_short {d:Nat} {v:TVal} (h:okM d v=true):v.2.2.1.length≤300:=by
 have:∀ g m,okB g m v=true→v.2.2.1.length≤300:=by
  intro g m h
  unfold okB at h
  split at h
  ·simp at h;rw [h.2];simp
  split at h
  ·simp at h;rw [h.2];simp
  split at h
  ·simp at h;rw [h.2];simp
  split at h
  ·simp only [Bool.and_eq_true,decide_eq_true_eq] at h;omega
  split at h
  ·simp only [Bool.and_eq_true,decide_eq_true_eq] at h;omega
  split at h
  ·simp only [Bool.and_eq_true,decide_eq_true_eq] at h;omega
  ·cases h
 cases d with
 |zero=>exact this _ _ h
 |succ d=>exact this _ _ h
def sgn (a b:Int):Int:=cond (decide (a<b)) (-1) (cond (decide (a>b)) 1 0)
theorem sgn_zero (a b:Int):sgn a b=0↔a=b:=by
 unfold sgn
 by_cases h1:a<b
 ·simp [h1];omega
 ·by_cases h2:a>b
  ·simp [h1,h2];omega
  ·simp [h1,h2];omega
def cmpL {α:Type} (c:α→α→Int):List α→List α→Int
 |[],[]=>0
 |[],_::_=>-1
 |_::_,[]=>1
 |a::x,b::y=>if c a b=0 then cmpL c x y else c a b
theorem cmpL_zero {α:Type} {c:α→α→Int}:∀ (x y:List α),(∀ a,a∈x→∀ b,b∈y→(c a b=0↔a=b))→(cmpL c x y=0↔x=y)
 |[],[],_=>by simp [cmpL]
 |[],_::_,_=>by simp [cmpL]
 |_::_,[],_=>by simp [cmpL]
 |a::x,b::y,h=>by
  have h1:=h a (.head _) b (.head _)
  have h2:=cmpL_zero x y fun p hp q hq=>h p (.tail _ hp) q (.tail _ hq)
  unfold cmpL
  by_cases hc:c a b=0
  ·rw [if_pos hc,h2]
   have:=h1.1 hc
   subst this
   simp
  ·rw [if_neg hc]
   have:a≠b:=fun e=>hc (h1.2 e)
   simp [hc,this]
def ordF (g:TVal→TVal→Int) (x y:TFld):Int:=cond (Lib.compareBytes x.1 y.1 != 0) (Lib.compareBytes x.1 y.1) (g x.2.1 y.2.1)
def ordB (g:TVal→TVal→Int) (a b:TVal):Int:=
 if sgn a.1 b.1≠0 then sgn a.1 b.1 else if sgn a.2.1 b.2.1≠0 then sgn a.2.1 b.2.1
 else if a.1=4 then cmpL g (itemsL a) (itemsL b) else if a.1=5 then cmpL (ordF g) (fieldsL a) (fieldsL b) else Lib.compareBytes a.2.2.1 b.2.2.1
def ordM:Nat→TVal→TVal→Int
 |0=>ordB (fun _ _=>0)
 |d+1=>ordB (ordM d)
theorem ordM_zero:∀ (d:Nat) (a b:TVal),okM d a=true→okM d b=true→(ordM d a b=0↔a=b):=by
 have body:∀ (g:TVal→TVal→Int) (d:Nat) (a b:TVal),okM d a=true→okM d b=true→(∀ e,d=e+1→∀ x y,okM e x=true→okM e y=true→(g x y=0↔x=y))→(ordB g a b=0↔a=b):=by
  intro g d a b ha hb hg
  have ext:a.1=b.1→a.2.1=b.2.1→(a.2.2.1=b.2.2.1↔a=b):=by
   intro h1 h2
   obtain ⟨a1,a2,a3,_⟩:=a
   obtain ⟨b1,b2,b3,_⟩:=b
   simp only at h1 h2
   subst h1;subst h2
   simp
  unfold ordB
  by_cases h1:a.1=b.1
  ·by_cases h2:a.2.1=b.2.1
   ·rw [if_neg (by rw [Classical.not_not];exact (sgn_zero _ _).2 h1),if_neg (by rw [Classical.not_not];exact (sgn_zero _ _).2 h2)]
    by_cases c4:a.1=4
    ·rw [if_pos c4]
     obtain ⟨e,l,hd,i1,i2,_,_,i3⟩:=okM_items ha c4
     obtain ⟨e',l',hd',j1,j2,_,_,j3⟩:=okM_items hb (by omega)
     have:e'=e:=by omega
     subst this
     rw [i2,j2,cmpL_zero l l' fun x hx y hy=>hg e' hd x y (i3 x hx) (j3 y hy),←ext h1 h2]
     constructor
     ·rintro rfl;exact items_inj l _ _ i1 j1
     ·intro h;rw [h,j1] at i1;injection i1 with i1;exact i1.symm
    ·rw [if_neg c4]
     by_cases c5:a.1=5
     ·rw [if_pos c5]
      obtain ⟨e,l,hd,i1,i2,_,_,i3⟩:=okM_fields ha c5
      obtain ⟨e',l',hd',j1,j2,_,_,j3⟩:=okM_fields hb (by omega)
      have:e'=e:=by omega
      subst this
      have hF:∀ x,x∈l→∀ y,y∈l' →(ordF g x y=0↔x=y):=by
       intro x hx y hy
       have h0:=hg e' hd x.2.1 y.2.1 (i3 x hx) (j3 y hy)
       have hc:=compareBytes_zero x.1 y.1
       unfold ordF
       obtain ⟨n,v,_⟩:=x
       obtain ⟨m,u,_⟩:=y
       simp only at h0 hc ⊢
       by_cases hz:Lib.compareBytes n m=0
       ·have:(Lib.compareBytes n m != 0)=false:=by simpa using hz
        rw [this,cond_false,h0,hc.1 hz]
        simp
       ·have h3:(Lib.compareBytes n m != 0)=true:=by simpa using hz
        rw [h3,cond_true]
        have:n≠m:=fun e=>hz (hc.2 e)
        simp [hz,this]
      rw [i2,j2,cmpL_zero l l' hF,←ext h1 h2]
      constructor
      ·rintro rfl;exact fields_inj l _ _ i1 j1
      ·intro h;rw [h,j1] at i1;injection i1 with i1;exact i1.symm
     ·rw [if_neg c5,compareBytes_zero,ext h1 h2]
   ·rw [if_neg (by rw [Classical.not_not];exact (sgn_zero _ _).2 h1),if_pos (fun h=>h2 ((sgn_zero _ _).1 h))]
    constructor
    ·intro h;exact absurd ((sgn_zero _ _).1 h) h2
    ·rintro rfl;exact absurd rfl h2
  ·rw [if_pos (fun h=>h1 ((sgn_zero _ _).1 h))]
   constructor
   ·intro h;exact absurd ((sgn_zero _ _).1 h) h1
   ·rintro rfl;exact absurd rfl h1
 intro d
 induction d with
 |zero=>intro a b ha hb;exact body _ 0 a b ha hb (fun e he=>by omega)
 |succ d ih=>
  intro a b ha hb
  refine body _ (d+1) a b ha hb fun e he x y hx hy=>?_
  have:e=d:=by omega
  subst this
  exact ih x y hx hy
def getM:List (List UInt8)→TVal→List TVal
 |[],v=>v::(if v.1=4 then itemsL v else [])
 |n::ns,v=>
  let one:TVal→List TVal:=fun x=>if (fieldOf (fieldsL x) n).2.1 then getM ns (fieldOf (fieldsL x) n).1 else []
  if v.1=5 then one v else if v.1=4 then (itemsL v).flatMap fun x=>if x.1=5 then one x else [] else []
def pathsM (v:TVal) (path:List UInt8):List TVal:=getM (cutM 46 path) v
def holdsM (t:TTerm) (v:TVal):Bool:=
 let by' :=ordM 5 v t.2.2.1
 let alike:=v.1==t.2.2.1.1
 if t.1=1∨t.1=2 then decide (by'=0) else if t.1=3 then alike&&decide (by'<0) else if t.1=4 then alike&&decide (by' ≤0)
 else if t.1=5 then alike&&decide (by'>0) else if t.1=6 then alike&&decide (by' ≥0) else if t.1=7 then (itemsL t.2.2.1).any (fun x=>x==v)
 else if t.1=9 then v.1==t.2.2.1.2.1 else (v.1==4)&&((((itemsL v).length:Nat):Int)==t.2.2.1.2.1)
def nullV:TVal:=(0,0,[],())
def doesM (t:TTerm) (doc:TVal):Bool:=
 let list:=pathsM doc t.2.1
 if t.1=8 then (decide (0<list.length))==(t.2.2.1.2.1==1)
 else (((if list.length=0∧t.1≠9 then [nullV] else list).any (holdsM t)) != (t.1==2))
def matchM (f:TFilter) (doc:TVal):Bool:=f.1.any fun c=>c.1.all fun t=>doesM t doc
theorem okM_LVal {d:Nat} {v:TVal} (h:okM d v=true):LVal 1048576 v:=Nat.le_trans (okM_short h) (by decide)
theorem implItems_list {v:TVal} (hv:LVal 1048576 v) {l:List TVal} (h:itemsM v.2.2.1=some l):F209 v=some (l,true,()):=by
 rw [implItems_eq v hv]
 rcases itemsI_ok v.2.2.1.length v.2.2.1 (Nat.le_refl _) with ⟨l',h1,h2⟩ | ⟨h1,_⟩
 ·rw [h] at h1
  injection h1 with h1
  subst h1
  rw [h2]
 ·rw [h] at h1;cases h1
theorem implFields_list {v:TVal} (hv:LVal 1048576 v) {l:List TFld} (h:fieldsM v.2.2.1=some l):F161 v=some (l,true,()):=by
 rw [implFields_eq v hv]
 rcases fieldsI_ok v.2.2.1.length v.2.2.1 (Nat.le_refl _) with ⟨l',h1,h2⟩ | ⟨h1,_⟩
 ·rw [h] at h1
  injection h1 with h1
  subst h1
  rw [h2]
 ·rw [h] at h1;cases h1
def cfR {α:Type} (G:α→α→Option (Int×Unit)) (e0_0:List α×List α×Unit→Option (Int×Unit)) (er_1:Int×Unit→Option (Int×Unit)) (rec:List α×List α×List α×Int×Int×Unit→Option (Int×Unit)) (x2:List α×List α×List α×Int×Int×Unit):Option (Int×Unit):=
 (cond (decide (x2.2.2.2.2.1<x2.2.2.2.1))
 (gd (decide ((0:Int)≤x2.2.2.2.2.1))
 (Option.bind x2.2.2.1[(Int.toNat x2.2.2.2.2.1)]? fun y5=>
 (cond (decide (x2.2.2.2.2.1≥(((List.length x2.2.1):Nat):Int)))
 (er_1 ((1:Int),()))
 (gd (decide ((0:Int)≤x2.2.2.2.2.1))
 (Option.bind x2.2.1[(Int.toNat x2.2.2.2.2.1)]? fun y7=>
 (Option.bind (G y5 y7) fun y8=>
 (cond (y8.1 != (0:Int))
 (er_1 (y8.1,()))
 (rec (x2.1,x2.2.1,x2.2.2.1,x2.2.2.2.1,(IntKind.wrap IntKind.i64 (x2.2.2.2.2.1+(1:Int))),())))))))))
 (e0_0 (x2.1,x2.2.1,())))
theorem ne_zero_cond {β:Type} (z:Int) (a b:β):cond (z != 0) a b=if z=0 then b else a:=by
 by_cases h:z=0
 ·subst h;rfl
 ·have:(z != 0)=true:=by simpa using h
  rw [this,if_neg h];rfl
theorem cf_eq {α:Type} [Inhabited α] (G:α→α→Option (Int×Unit)) (c:α→α→Int) (xs ys:List α) (hG:∀ x,x∈xs→∀ y,y∈ys→G x y=some (c x y,())) (hx:xs.length≤1048576) (hy:ys.length≤1048576) :
  iter (cfR G (fun y9=>(cond (decide ((((List.length y9.1):Nat):Int)<(((List.length y9.2.1):Nat):Int))) (some ((-(1:Int)),())) (some ((0:Int),())))) (fun y10=>(some (y10.1,())))) fuel (xs,ys,xs,(((List.length xs):Nat):Int),(0:Int),())=some (cmpL c xs ys,()):=by
 refine Eq.trans (iter_go (S:=Unit) (fun i _=>(xs,ys,xs,((xs.length:Nat):Int),(i:Int),())) (fun i _=>some (cmpL c (xs.drop i) (ys.drop i),())) xs.length (fun _ _=>True) ?_ ?_ fuel 0 () (Nat.zero_le _) (fuel_gt (by omega)) trivial) rfl
 ·intro i _ hi _ rec hrec
  simp only [cfR,lt_cast,hi,decide_true,cond_true,gd_pos,get_nth hi,Option.bind_some,wrap_up i _ hi (by omega)]
  rw [show decide ((i:Int)≥((ys.length:Nat):Int))=decide (ys.length≤i) by rw [decide_eq_decide];omega]
  by_cases hj:ys.length≤i
  ·rw [decide_eq_true hj,cond_true,List.drop_eq_nil_of_le hj,drop_cons_nth hi]
   rfl
  ·have hj':i<ys.length:=by omega
   rw [decide_eq_false hj,cond_false,get_nth hj',Option.bind_some,hG _ (nth_mem hi) _ (nth_mem hj'),Option.bind_some,ne_zero_cond,drop_cons_nth hi,drop_cons_nth hj']
   unfold cmpL
   by_cases hz:c (nth xs i) (nth ys i)=0
   ·rw [if_pos hz,if_pos hz,hrec () trivial]
   ·rw [if_neg hz,if_neg hz]
 ·intro _ _ rec
  simp only [cfR,lt_cast,Nat.lt_irrefl,decide_false,cond_false,List.drop_length]
  by_cases hj:xs.length<ys.length
  ·rw [decide_eq_true hj,cond_true,drop_cons_nth hj];rfl
  ·rw [decide_eq_false hj,cond_false,List.drop_eq_nil_of_le (by omega)];rfl
def spL {α:Type} (c:α→α→Int):List α→List α→Int
 |[],[]=>-1
 |[],_::_=>-1
 |_::_,[]=>1
 |a::x,b::y=>if c a b=0 then spL c x y else c a b
theorem spL_eq {α:Type} {c:α→α→Int}:∀ (x y:List α),cmpL c x y≠0→spL c x y=cmpL c x y
 |[],[],h=>(h rfl).elim
 |[],_::_,_=>rfl
 |_::_,[],_=>rfl
 |a::x,b::y,h=>by
  unfold cmpL at h ⊢
  unfold spL
  by_cases hz:c a b=0
  ·rw [if_pos hz] at h ⊢;rw [if_pos hz];exact spL_eq x y h
  ·rw [if_neg hz,if_neg hz]
theorem bit_eq (b:Bool):(Option.bind (F271 b) fun y16=>(some ((IntKind.wrap IntKind.i64 ((IntKind.wrap IntKind.i64 ((2:Int)*y16.1))-(1:Int))),())))=some ((cond b 1 (-1):Int),()):=by
 cases b<;>rfl
theorem sp_eq {α:Type} [Inhabited α] {R:(List α×List α×Int×Unit→Option (Int×Unit))→List α×List α×Int×Unit→Option (Int×Unit)} (c:α→α→Int) (xs ys:List α) (hx:xs.length≤1048576) (hy:ys.length≤1048576)
  (h1:∀ i rec,i<xs.length→i<ys.length→R rec (xs,ys,(i:Int),())=if c (nth xs i) (nth ys i)=0 then rec (xs,ys,((i+1:Nat):Int),()) else some (c (nth xs i) (nth ys i),()))
  (h2:∀ i rec,¬(i<xs.length∧i<ys.length)→R rec (xs,ys,(i:Int),())=some ((cond (decide ((((List.length xs):Nat):Int)>(((List.length ys):Nat):Int))) 1 (-1):Int),())) :
  iter R fuel (xs,ys,(0:Int),())=some (spL c xs ys,()):=by
 refine Eq.trans (iter_go (S:=Unit) (fun i _=>(xs,ys,(i:Int),())) (fun i _=>some (spL c (xs.drop i) (ys.drop i),())) (min xs.length ys.length) (fun _ _=>True) ?_ ?_ fuel 0 () (Nat.zero_le _) (fuel_gt (by omega)) trivial) rfl
 ·intro i _ hi _ rec hrec
  have hi1:i<xs.length:=by omega
  have hi2:i<ys.length:=by omega
  rw [h1 i rec hi1 hi2,drop_cons_nth hi1,drop_cons_nth hi2]
  unfold spL
  by_cases hz:c (nth xs i) (nth ys i)=0
  ·rw [if_pos hz,if_pos hz,hrec () trivial]
  ·rw [if_neg hz,if_neg hz]
 ·intro _ _ rec
  rw [h2 _ rec (by omega)]
  by_cases hl:ys.length<xs.length
  ·rw [show min xs.length ys.length=ys.length by omega,List.drop_length,drop_cons_nth hl,show decide (((xs.length:Nat):Int)>((ys.length:Nat):Int))=true by rw [decide_eq_true_eq];omega]
   rfl
  ·rw [show min xs.length ys.length=xs.length by omega,List.drop_length,show decide (((xs.length:Nat):Int)>((ys.length:Nat):Int))=false by rw [decide_eq_false_iff_not];omega]
   cases ys.drop xs.length<;>rfl
theorem cmp_cond (a b:List UInt8) (h:a≠b):(cond (!((Op.bytesLess a b)||(a==b))) 1 (-1):Int)=Lib.compareBytes a b:=by
 have hb:(a==b)=false:=by simpa using h
 rw [hb,Bool.or_false,bytesLess_cmp]
 have h1:∀ (a b:List UInt8),Lib.compareBytes a b = -1∨Lib.compareBytes a b=0∨Lib.compareBytes a b=1:=by
  intro a
  induction a with
  |nil=>intro b;cases b<;>simp [Lib.compareBytes]
  |cons x a ih=>
   intro b
   cases b with
   |nil=>simp [Lib.compareBytes]
   |cons y b=>
    simp only [Lib.compareBytes]
    repeat' split
    all_goals first | exact ih b | simp
 rcases h1 a b with e | e | e
 ·rw [e];rfl
 ·exact absurd ((compareBytes_zero a b).1 e) h
 ·rw [e];rfl
theorem cmp_cond' (a b:List UInt8) (h:a≠b):(cond (!((Op.bytesLess a b)||false)) 1 (-1):Int)=Lib.compareBytes a b:=by
 have:=cmp_cond a b h
 rwa [show (a==b)=false by simpa using h] at this
theorem okM_list_len {d:Nat} {v:TVal} (h:okM d v=true) (hk:v.1=4):(itemsL v).length≤1048576:=by
 obtain ⟨e,l,_,h1,h2,_,h3,_⟩:=okM_items h hk
 rw [h2]
 have:=(itemsM_small _ _ _ (Nat.le_refl _) h1).1
 omega
theorem okM_doc_len {d:Nat} {v:TVal} (h:okM d v=true) (hk:v.1=5):(fieldsL v).length≤1048576:=by
 obtain ⟨e,l,_,h1,h2,_,h3,_⟩:=okM_fields h hk
 rw [h2]
 have:=(fieldsM_small _ _ _ (Nat.le_refl _) h1).1
 omega
theorem okM_text {d:Nat} {a b:TVal} (ha:okM d a=true) (hb:okM d b=true) (hk:a.1=b.1) (ht:a.2.2.1≠b.2.2.1):a.1=3∨a.1=4∨a.1=5:=by
 have key:∀ (g:TVal→Bool) (m:Bool) (v:TVal),okB g m v=true→v.1=0∨v.1=1∨v.1=2→v.2.2.1=[]:=by
  intro g m v h hv
  unfold okB at h
  rcases hv with e | e | e
  ·rw [if_pos e] at h;simp at h;exact h.2
  ·rw [if_neg (by omega),if_pos e] at h;simp at h;exact h.2
  ·rw [if_neg (by omega),if_neg (by omega),if_pos e] at h;simp at h;exact h.2
 have key2:∀ (g:TVal→Bool) (m:Bool) (v:TVal),okB g m v=true→v.1=0∨v.1=1∨v.1=2∨v.1=3∨v.1=4∨v.1=5:=by
  intro g m v h
  unfold okB at h
  repeat' split at h
  all_goals first | (cases h;done) | omega
 have both:∃ g m g' m',okB g m a=true∧okB g' m' b=true:=by
  cases d with
  |zero=>exact ⟨_,_,_,_,ha,hb⟩
  |succ d=>exact ⟨_,_,_,_,ha,hb⟩
 obtain ⟨g,m,g',m',h1,h2⟩:=both
 rcases key2 _ _ _ h1 with h | h | h | h | h | h
 ·exact absurd ((key _ _ _ h1 (.inl h)).trans (key _ _ _ h2 (.inl (by omega))).symm) ht
 ·exact absurd ((key _ _ _ h1 (.inr (.inl h))).trans (key _ _ _ h2 (.inr (.inl (by omega)))).symm) ht
 ·exact absurd ((key _ _ _ h1 (.inr (.inr h))).trans (key _ _ _ h2 (.inr (.inr (by omega)))).symm) ht
 ·exact .inl h
 ·exact .inr (.inl h)
 ·exact .inr (.inr h)
theorem gt_sgn {x y:Int} (h:x≠y):(cond (decide (x>y)) 1 (-1):Int)=sgn x y:=by
 unfold sgn
 by_cases h1:x<y
 ·rw [decide_eq_true h1,decide_eq_false (by omega:¬x>y)];rfl
 ·rw [decide_eq_false h1,decide_eq_true (by omega:x>y)];rfl
theorem specOrdB (g:TVal→TVal→Option (Int×Unit)) (h:TVal→TVal→Int) (d:Nat) (a b:TVal) (ha:okM d a=true) (hb:okM d b=true)
  (hg:∀ e,d=e+1→∀ x y,okM e x=true→okM e y=true→g x y=some (h x y,())) (hz:ordB h a b=0↔a=b):B227 g a b=some (ordB h a b,()):=by
 unfold B227
 have la:=okM_short ha
 have lb:=okM_short hb
 by_cases h1:a.1=b.1
 ·rw [show (a.1 != b.1)=false by simpa using h1,cond_false]
  by_cases h2:a.2.1=b.2.1
  ·rw [show (a.2.1 != b.2.1)=false by simpa using h2,cond_false]
   by_cases h3:a.2.2.1=b.2.2.1
   ·rw [show (a.2.2.1==b.2.2.1)=true by simpa using h3,cond_true]
    have:a=b:=by
     obtain ⟨a1,a2,a3,_⟩:=a
     obtain ⟨b1,b2,b3,_⟩:=b
     simp only at h1 h2 h3
     rw [h1,h2,h3]
    rw [hz.2 this]
   ·rw [show (a.2.2.1==b.2.2.1)=false by simpa using h3,cond_false]
    have hne:ordB h a b≠0:=fun e=>h3 (by rw [hz.1 e])
    have hord:ordB h a b=if a.1=4 then cmpL h (itemsL a) (itemsL b) else if a.1=5 then cmpL (ordF h) (fieldsL a) (fieldsL b) else Lib.compareBytes a.2.2.1 b.2.2.1:=by
     unfold ordB
     rw [if_neg (by rw [Classical.not_not];exact (sgn_zero _ _).2 h1),if_neg (by rw [Classical.not_not];exact (sgn_zero _ _).2 h2)]
    rcases okM_text ha hb h1 h3 with k | k | k
    ·rw [show (a.1==(3:Int))=true by simpa using k,cond_true,bit_eq,cmp_cond' _ _ h3,hord,if_neg (by omega),if_neg (by omega)]
    ·rw [show (a.1==(3:Int))=false by rw [beq_eq_false_iff_ne];omega,cond_false,show (a.1==(4:Int))=true by simpa using k,cond_true]
     obtain ⟨e,l,hd,i1,i2,_,_,i3⟩:=okM_items ha k
     obtain ⟨e',l',hd',j1,j2,_,_,j3⟩:=okM_items hb (by omega)
     have:e'=e:=by omega
     subst this
     rw [l01Items_eq _ (by omega),i1,Option.bind_some,l01Items_eq _ (by omega),j1,Option.bind_some]
     rw [hord,if_pos k,i2,j2] at hne
     rw [hord,if_pos k,i2,j2,←spL_eq _ _ hne]
     have l1:=(itemsM_small _ _ _ (Nat.le_refl _) i1).1
     have l2:=(itemsM_small _ _ _ (Nat.le_refl _) j1).1
     refine sp_eq h l l' (by omega) (by omega) (fun i rec p q=>?_) (fun i rec hn=>?_)
     ·simp only [B227_R13,lt_cast,p,q,decide_true,cond_true,gd_pos,get_nth p,get_nth q,Option.bind_some,hg e' hd _ _ (i3 _ (nth_mem p)) (j3 _ (nth_mem q)),ne_zero_cond,wrap_up i _ p (by omega)]
     ·simp only [B227_R13,lt_cast,bit_eq]
      by_cases p:i<l.length
      ·have q:¬i<l'.length:=fun q=>hn ⟨p,q⟩
       simp only [p,q,decide_true,decide_false,cond_true,cond_false]
      ·simp only [p,decide_false,cond_false]
    ·rw [show (a.1==(3:Int))=false by rw [beq_eq_false_iff_ne];omega,cond_false,show (a.1==(4:Int))=false by rw [beq_eq_false_iff_ne];omega,cond_false]
     obtain ⟨e,l,hd,i1,i2,_,_,i3⟩:=okM_fields ha k
     obtain ⟨e',l',hd',j1,j2,_,_,j3⟩:=okM_fields hb (by omega)
     have:e'=e:=by omega
     subst this
     rw [l01Fields_eq _ (by omega),i1,Option.bind_some,l01Fields_eq _ (by omega),j1,Option.bind_some]
     rw [hord,if_neg (by omega),if_pos k,i2,j2] at hne
     rw [hord,if_neg (by omega),if_pos k,i2,j2,←spL_eq _ _ hne]
     have l1:=(fieldsM_small _ _ _ (Nat.le_refl _) i1).1
     have l2:=(fieldsM_small _ _ _ (Nat.le_refl _) j1).1
     refine sp_eq (ordF h) l l' (by omega) (by omega) (fun i rec p q=>?_) (fun i rec hn=>?_)
     ·simp only [B227_R22,lt_cast,p,q,decide_true,cond_true,gd_pos,get_nth p,get_nth q,Option.bind_some,hg e' hd _ _ (i3 _ (nth_mem p)) (j3 _ (nth_mem q)),ne_zero_cond,bit_eq,wrap_up i _ p (by omega)]
      unfold ordF
      by_cases hn:(nth l i).1=(nth l' i).1
      ·rw [show ((nth l i).1==(nth l' i).1)=true by simpa using hn,(compareBytes_zero _ _).2 hn]
       rfl
      ·rw [show ((nth l i).1==(nth l' i).1)=false by simpa using hn,Bool.not_false,cond_true]
       have hc:Lib.compareBytes (nth l i).1 (nth l' i).1≠0:=fun e=>hn ((compareBytes_zero _ _).1 e)
       have hcc:=cmp_cond _ _ hn
       rw [show ((nth l i).1==(nth l' i).1)=false by simpa using hn] at hcc
       rw [hcc,show (Lib.compareBytes (nth l i).1 (nth l' i).1 != 0)=true by simpa using hc,cond_true,if_neg hc]
     ·simp only [B227_R22,lt_cast,bit_eq]
      by_cases p:i<l.length
      ·have q:¬i<l'.length:=fun q=>hn ⟨p,q⟩
       simp only [p,q,decide_true,decide_false,cond_true,cond_false]
      ·simp only [p,decide_false,cond_false]
  ·rw [show (a.2.1 != b.2.1)=true by simpa using h2,cond_true,bit_eq,gt_sgn h2]
   unfold ordB
   rw [if_neg (by rw [Classical.not_not];exact (sgn_zero _ _).2 h1),if_pos (fun h=>h2 ((sgn_zero _ _).1 h))]
 ·rw [show (a.1 != b.1)=true by simpa using h1,cond_true,bit_eq,gt_sgn h1]
  unfold ordB
  rw [if_pos (fun h=>h1 ((sgn_zero _ _).1 h))]
theorem specOrder_all:∀ (d k:Nat) (a b:TVal),d<k→okM d a=true→okM d b=true→S227 k a b=some (ordM d a b,())
 |0,k+1,a,b,_,ha,hb=>specOrdB _ _ 0 a b ha hb (fun e he=>by omega) (ordM_zero 0 a b ha hb)
 |d+1,k+1,a,b,hk,ha,hb=>specOrdB _ (ordM d) (d+1) a b ha hb (fun e he x y hx hy=>by
   have:e=d:=by omega
   subst this
   exact specOrder_all e k x y (by omega) hx hy) (ordM_zero (d+1) a b ha hb)
theorem specOrder_eq (a b:TVal) (ha:okM 5 a=true) (hb:okM 5 b=true):F227 a b=some (ordM 5 a b,()):=specOrder_all 5 fuel a b (fuel_gt (by decide)) ha hb
theorem implOrdB (g:TVal→TVal→Option (Int×Unit)) (h:TVal→TVal→Int) (d:Nat) (a b:TVal) (ha:okM d a=true) (hb:okM d b=true)
  (hg:∀ e,d=e+1→∀ x y,okM e x=true→okM e y=true→g x y=some (h x y,())):B158 g a b=some (ordB h a b,()):=by
 unfold B158
 have e1:∀ x y:Int,F208 x y=some (sgn x y,()):=cmpInt_eq
 rw [e1,Option.bind_some,e1,Option.bind_some,or2_eq,Option.bind_some]
 dsimp only
 rw [ne_zero_cond (cond (sgn a.1 b.1 != 0) (sgn a.1 b.1) (sgn a.2.1 b.2.1))]
 by_cases s1:sgn a.1 b.1=0
 ·rw [show (sgn a.1 b.1 != 0)=false by simpa using s1,cond_false]
  by_cases s2:sgn a.2.1 b.2.1=0
  ·have hord:ordB h a b=if a.1=4 then cmpL h (itemsL a) (itemsL b) else if a.1=5 then cmpL (ordF h) (fieldsL a) (fieldsL b) else Lib.compareBytes a.2.2.1 b.2.2.1:=by
    unfold ordB
    rw [if_neg (by rw [Classical.not_not];exact s1),if_neg (by rw [Classical.not_not];exact s2)]
   rw [if_pos s2,hord]
   have h1:=(sgn_zero _ _).1 s1
   by_cases k4:a.1=4
   ·rw [show (a.1==(4:Int))=true by simpa using k4,cond_true,if_pos k4]
    obtain ⟨e,l,hd,i1,i2,_,_,i3⟩:=okM_items ha k4
    obtain ⟨e',l',hd',j1,j2,_,_,j3⟩:=okM_items hb (by omega)
    have:e'=e:=by omega
    subst this
    have la:=okM_list_len ha k4
    have lb:=okM_list_len hb (by omega)
    rw [i2] at la
    rw [j2] at lb
    rw [implItems_list (okM_LVal ha) i1,Option.bind_some,implItems_list (okM_LVal hb) j1,Option.bind_some,i2,j2,
     show B210 g l l' ()=some (cmpL h l l',()) from cf_eq g h l l' (fun x hx y hy=>hg e' hd x y (i3 x hx) (j3 y hy)) la lb]
    rfl
   ·rw [show (a.1==(4:Int))=false by simpa using k4,cond_false,if_neg k4]
    by_cases k5:a.1=5
    ·rw [show (a.1==(5:Int))=true by simpa using k5,cond_true,if_pos k5]
     obtain ⟨e,l,hd,i1,i2,_,_,i3⟩:=okM_fields ha k5
     obtain ⟨e',l',hd',j1,j2,_,_,j3⟩:=okM_fields hb (by omega)
     have:e'=e:=by omega
     subst this
     have la:=okM_doc_len ha k5
     have lb:=okM_doc_len hb (by omega)
     rw [i2] at la
     rw [j2] at lb
     have hf:∀ x,x∈l→∀ y,y∈l' →B212 g x y=some (ordF h x y,()):=by
      intro x hx y hy
      unfold B212
      rw [show F213 x.1 y.1=some (Lib.compareBytes x.1 y.1,()) from rfl,Option.bind_some,hg e' hd _ _ (i3 x hx) (j3 y hy),Option.bind_some,or2_eq,Option.bind_some]
      rfl
     rw [implFields_list (okM_LVal ha) i1,Option.bind_some,implFields_list (okM_LVal hb) j1,Option.bind_some,i2,j2,
      show B211 g l l' ()=some (cmpL (ordF h) l l',()) from cf_eq _ (ordF h) l l' hf la lb]
     rfl
    ·rw [show (a.1==(5:Int))=false by simpa using k5,cond_false,if_neg k5]
     rfl
  ·have hord:ordB h a b=sgn a.2.1 b.2.1:=by
    unfold ordB
    rw [if_neg (by rw [Classical.not_not];exact s1),if_pos s2]
   rw [if_neg s2,hord]
 ·have hord:ordB h a b=sgn a.1 b.1:=by
   unfold ordB
   rw [if_pos s1]
  rw [show (sgn a.1 b.1 != 0)=true by simpa using s1,cond_true,if_neg s1,hord]
theorem implOrder_all:∀ (d k:Nat) (a b:TVal),d<k→okM d a=true→okM d b=true→S158 k a b=some (ordM d a b,())
 |0,k+1,a,b,_,ha,hb=>implOrdB _ _ 0 a b ha hb (fun e he=>by omega)
 |d+1,k+1,a,b,hk,ha,hb=>implOrdB _ (ordM d) (d+1) a b ha hb (fun e he x y hx hy=>by
   have:e=d:=by omega
   subst this
   exact implOrder_all e k x y (by omega) hx hy)
theorem implOrder_eq (a b:TVal) (ha:okM 5 a=true) (hb:okM 5 b=true):F158 a b=some (ordM 5 a b,()):=implOrder_all 5 fuel a b (fuel_gt (by decide)) ha hb
theorem next_room:∀ {t:List UInt8} {v:TVal} {r:List UInt8},nextM t=some (v,r)→v.2.2.1.length+1+r.length≤t.length
 |[],v,r,h=>by cases h
 |k::t,v,r,h=>by
  simp only [nextM] at h
  repeat' split at h
  all_goals first | (cases h;done) | (injection h with h;injection h with h1 h2;subst h1;subst h2;simp only [List.length_take,List.length_drop,List.length_cons,List.length_nil];omega)
theorem items_room:∀ (n:Nat) (t:List UInt8) (l:List TVal),t.length≤n→itemsM t=some l→(l.map fun x=>x.2.2.1.length+1).sum≤t.length
 |n,[],l,_,h=>by
  rw [itemsM_nil] at h
  injection h with h
  subst h
  simp
 |0,b::t,l,h0,h=>by simp at h0
 |n+1,b::t,l,h0,h=>by
  rw [itemsM_step (by simp)] at h
  cases hn:nextM (b::t) with
  |none=>rw [hn] at h;cases h
  |some x=>
   rw [hn,Option.bind_some] at h
   cases hi:itemsM x.2 with
   |none=>rw [hi] at h;cases h
   |some y=>
    rw [hi,Option.map_some] at h
    injection h with h
    subst h
    have hroom:=next_room (v:=x.1) (r:=x.2) hn
    have ih:=items_room n x.2 y (by simp only [List.length_cons] at hroom h0;omega) hi
    simp only [List.map_cons,List.sum_cons]
    omega
theorem sum_len (l:List TVal):l.length≤(l.map fun x=>x.2.2.1.length+1).sum:=by
 induction l with
 |nil=>simp
 |cons x l ih=>simp only [List.map_cons,List.sum_cons,List.length_cons];omega
theorem field_room {t:List UInt8} {f:TFld} {r:List UInt8} (h:fieldM t=some (f,r)):f.2.1.2.2.1.length+1+r.length≤t.length:=by
 cases t with
 |nil=>cases h
 |cons n t=>
  simp only [fieldM] at h
  split at h
  ·cases h
  ·cases hn:nextM (t.drop n.toNat) with
   |none=>rw [hn] at h;cases h
   |some x=>
    rw [hn,Option.bind_some] at h
    injection h with h
    injection h with h1 h2
    subst h1;subst h2
    have:=next_room (v:=x.1) (r:=x.2) hn
    simp only [List.length_drop,List.length_cons] at this ⊢
    omega
theorem fields_room:∀ (n:Nat) (t:List UInt8) (l:List TFld),t.length≤n→fieldsM t=some l→∀ f,f∈l→f.2.1.2.2.1.length+1≤t.length
 |n,[],l,_,h,f,hf=>by
  rw [show fieldsM []=some [] from rfl] at h
  injection h with h
  subst h
  cases hf
 |0,b::t,l,h0,h,f,hf=>by simp at h0
 |n+1,b::t,l,h0,h,f,hf=>by
  rw [fieldsM_step (by simp)] at h
  cases hn:fieldM (b::t) with
  |none=>rw [hn] at h;cases h
  |some x=>
   rw [hn,Option.bind_some] at h
   cases hi:fieldsM x.2 with
   |none=>rw [hi] at h;cases h
   |some y=>
    rw [hi,Option.map_some] at h
    injection h with h
    subst h
    have hroom:=field_room (f:=x.1) (r:=x.2) hn
    rcases List.mem_cons.1 hf with rfl | hf
    ·omega
    ·have ih:=fields_room n x.2 y (by simp only [List.length_cons] at hroom h0;omega) hi f hf
     omega
theorem fieldOf_mem {l:List TFld} {n:List UInt8} (h:(fieldOf l n).2.1=true):∃ f,f∈l∧fieldOf l n=(f.2.1,true,()):=by
 unfold fieldOf at h ⊢
 cases hf:l.find? (fun f=>f.1==n) with
 |none=>rw [hf] at h;cases h
 |some f=>exact ⟨f,List.mem_of_find?_eq_some hf,rfl⟩
def oneM (n:List UInt8) (ns:List (List UInt8)) (x:TVal):List TVal:=if (fieldOf (fieldsL x) n).2.1 then getM ns (fieldOf (fieldsL x) n).1 else []
theorem getM_cons (n:List UInt8) (ns:List (List UInt8)) (v:TVal):getM (n::ns) v=if v.1=5 then oneM n ns v else if v.1=4 then (itemsL v).flatMap fun x=>if x.1=5 then oneM n ns x else [] else []:=rfl
theorem one_len {ns:List (List UInt8)} (ih:∀ (d:Nat) (v:TVal),okM d v=true→(getM ns v).length≤v.2.2.1.length+1) (n:List UInt8) {d:Nat} {x:TVal} (h:okM d x=true) (hk:x.1=5):(oneM n ns x).length≤x.2.2.1.length:=by
 unfold oneM
 obtain ⟨e,l,_,i1,i2,_,_,i3⟩:=okM_fields h hk
 rw [i2]
 by_cases c:(fieldOf l n).2.1=true
 ·rw [if_pos c]
  obtain ⟨f,hf,e1⟩:=fieldOf_mem c
  rw [e1]
  have:=ih e f.2.1 (i3 f hf)
  have:=fields_room _ _ _ (Nat.le_refl _) i1 f hf
  show (getM ns f.2.1).length≤_
  omega
 ·rw [if_neg c];simp
theorem flat_len (f:TVal→List TVal):∀ (l:List TVal),(∀ x,x∈l→(f x).length≤x.2.2.1.length)→(l.flatMap f).length≤(l.map fun x=>x.2.2.1.length+1).sum
 |[],_=>by simp
 |x::l,h=>by
  have h1:=h x (.head _)
  have h2:=flat_len f l fun y hy=>h y (.tail _ hy)
  simp only [List.flatMap_cons,List.length_append,List.map_cons,List.sum_cons]
  omega
theorem getM_len:∀ (names:List (List UInt8)) (d:Nat) (v:TVal),okM d v=true→(getM names v).length≤v.2.2.1.length+1
 |[],d,v,h=>by
  show (v::(if v.1=4 then itemsL v else [])).length≤_
  by_cases hk:v.1=4
  ·rw [if_pos hk]
   obtain ⟨e,l,_,i1,i2,_⟩:=okM_items h hk
   rw [i2]
   have:=items_room _ _ _ (Nat.le_refl _) i1
   have:=sum_len l
   simp only [List.length_cons]
   omega
  ·rw [if_neg hk];simp
 |n::ns,d,v,h=>by
  rw [getM_cons]
  by_cases h5:v.1=5
  ·rw [if_pos h5]
   have:=one_len (getM_len ns) n h h5
   omega
  ·rw [if_neg h5]
   by_cases h4:v.1=4
   ·rw [if_pos h4]
    obtain ⟨e,l,_,i1,i2,_,_,i3⟩:=okM_items h h4
    rw [i2]
    have:=items_room _ _ _ (Nat.le_refl _) i1
    have:=flat_len (fun x=>if x.1=5 then oneM n ns x else []) l fun x hx=>by
     by_cases hx5:x.1=5
     ·rw [if_pos hx5];exact one_len (getM_len ns) n (i3 x hx) hx5
     ·rw [if_neg hx5];simp
    omega
   ·rw [if_neg h4];simp
theorem okM_rise {d:Nat} {v:TVal} (h:okM d v=true) (hk:v.1=5) {l:List TFld} (hl:fieldsM v.2.2.1=some l):RiseF l∧fieldsI v.2.2.1.length v.2.2.1=(l,true):=by
 constructor
 ·cases d with
  |zero=>
   rw [show okM 0 v=okB (fun _=>false) false v from rfl] at h
   unfold okB at h
   rw [if_neg (by omega),if_neg (by omega),if_neg (by omega),if_neg (by omega),if_neg (by omega),if_pos hk] at h
   simp at h
  |succ e=>
   rw [show okM (e+1) v=okB (okM e) true v from rfl] at h
   unfold okB at h
   rw [if_neg (by omega),if_neg (by omega),if_neg (by omega),if_neg (by omega),if_neg (by omega),if_pos hk,hl] at h
   simp only [Bool.and_eq_true,decide_eq_true_eq] at h
   intro i h0 hi
   have:=(allF_iff _ _ _).1 h.2.2.2 i (Nat.zero_le _) (by omega)
   simp only [Bool.and_eq_true,Bool.or_eq_true,decide_eq_true_eq] at this
   rcases this.2.1 with h' | h'
   ·omega
   ·exact h'
 ·rcases fieldsI_ok v.2.2.1.length v.2.2.1 (Nat.le_refl _) with ⟨l',h1,h2⟩ | ⟨h1,_⟩
  ·rw [hl] at h1
   injection h1 with h1
   subst h1
   exact h2
  ·rw [hl] at h1;cases h1
theorem lim_ok {a b:Nat} (h:a+b≤1048576):decide (a+b≤lim)=true:=by
 rw [decide_eq_true_eq]
 exact Nat.le_trans h (by decide)
theorem take_all_drop {α:Type} (a:List α):List.drop (Int.toNat (1:Int)) (List.take (Int.toNat (((List.length a):Nat):Int)) a)=a.drop 1:=by
 rw [Int.toNat_natCast,List.take_length];rfl
theorem specGetB (g:TVal→List (List UInt8)→Option (List TVal×Unit)) (d:Nat) (v:TVal) (names:List (List UInt8)) (hv:okM d v=true)
  (hg:∀ e,d=e+1→∀ x ns,okM e x=true→g x ns=some (getM ns x,())):B304 g v names=some (getM names v,()):=by
 unfold B304
 have lv:=okM_short hv
 cases names with
 |nil=>
  rw [show ((((List.length ([]:List (List UInt8))):Nat):Int)==(0:Int))=true from rfl,cond_true]
  show cond _ _ _=some (v::(if v.1=4 then itemsL v else []),())
  by_cases hk:v.1=4
  ·rw [show (v.1==(4:Int))=true by simpa using hk,cond_true,if_pos hk]
   obtain ⟨e,l,_,i1,i2,_⟩:=okM_items hv hk
   have:=(itemsM_small _ _ _ (Nat.le_refl _) i1).1
   rw [l01Items_eq _ (by omega),i1,Option.bind_some,i2]
   dsimp only
   rw [lim_ok (by simp only [List.length_cons,List.length_nil];omega),gd_true]
   rfl
  ·rw [show (v.1==(4:Int))=false by simpa using hk,cond_false,if_neg hk]
 |cons n ns=>
  rw [show ((((List.length (n::ns)):Nat):Int)==(0:Int))=false by rw [beq_eq_false_iff_ne];simp only [List.length_cons];omega,cond_false,getM_cons]
  by_cases h5:v.1=5
  ·rw [show (v.1==(5:Int))=true by simpa using h5,cond_true,if_pos h5]
   obtain ⟨e,l,hd,i1,i2,_,_,i3⟩:=okM_fields hv h5
   rw [show (n::ns)[Int.toNat (0:Int)]? = some n from rfl,Option.bind_some,l02Field_eq _ _ (okM_LVal hv),i1,Option.bind_some]
   dsimp only
   unfold oneM
   rw [i2]
   cases hc:(fieldOf l n).2.1 with
   |false=>rfl
   |true=>
    obtain ⟨f,hf,e1⟩:=fieldOf_mem hc
    rw [Bool.not_true,cond_false,gd_le,gd_if (by simp only [List.length_cons];omega),take_all_drop]
    rw [e1]
    show Option.bind (g f.2.1 ns) _=_
    rw [hg e hd _ _ (i3 f hf)]
    rfl
  ·rw [show (v.1==(5:Int))=false by simpa using h5,cond_false,if_neg h5]
   by_cases h4:v.1=4
   ·rw [show (v.1==(4:Int))=true by simpa using h4,cond_true,if_pos h4]
    obtain ⟨e,l,hd,i1,i2,_,_,i3⟩:=okM_items hv h4
    have hl:=(itemsM_small _ _ _ (Nat.le_refl _) i1).1
    have hr:=items_room _ _ _ (Nat.le_refl _) i1
    have hf:=flat_len (fun x=>if x.1=5 then oneM n ns x else []) l fun x hx=>by
     by_cases hx5:x.1=5
     ·rw [if_pos hx5];exact one_len (getM_len ns) n (i3 x hx) hx5
     ·rw [if_neg hx5];simp
    rw [l01Items_eq _ (by omega),i1,Option.bind_some,i2]
    refine Eq.trans (iter_go (S:=List TVal) (fun i out=>(n::ns,l,(i:Int),out,())) (fun i out=>some (out++(l.drop i).flatMap fun x=>if x.1=5 then oneM n ns x else [],())) l.length
     (fun i out=>out.length+((l.drop i).flatMap fun x=>if x.1=5 then oneM n ns x else []).length≤1048576) ?_ ?_ fuel 0 [] (Nat.zero_le _) (fuel_gt (by omega)) (by rw [List.drop_zero];simp only [List.length_nil];omega)) (by simp)
    ·intro i out hi hI rec hrec
     rw [drop_cons_nth hi,List.flatMap_cons,List.length_append] at hI
     simp only [B304_R17,lt_cast,hi,decide_true,cond_true,gd_pos,get_nth hi,Option.bind_some,wrap_up i _ hi (by omega)]
     rw [drop_cons_nth hi,List.flatMap_cons]
     by_cases hx:(nth l i).1=5
     ·rw [show ((nth l i).1==(5:Int))=true by simpa using hx,cond_true,hg e hd _ _ (i3 _ (nth_mem hi)),Option.bind_some,getM_cons,if_pos hx]
      rw [if_pos hx] at hI ⊢
      dsimp only
      rw [lim_ok (by omega),gd_true,hrec _ (by rw [List.length_append];omega),List.append_assoc]
     ·rw [show ((nth l i).1==(5:Int))=false by simpa using hx,cond_false,if_neg hx,List.nil_append]
      rw [if_neg hx] at hI
      exact hrec _ (by simpa using hI)
    ·intro out _ rec
     simp only [B304_R17,lt_cast,Nat.lt_irrefl,decide_false,cond_false,List.drop_length,List.flatMap_nil,List.append_nil]
   ·rw [show (v.1==(4:Int))=false by simpa using h4,cond_false,if_neg h4]
theorem specGet_all:∀ (d k:Nat) (v:TVal) (names:List (List UInt8)),d<k→okM d v=true→S304 k v names=some (getM names v,())
 |0,k+1,v,names,_,hv=>specGetB _ 0 v names hv (fun e he=>by omega)
 |d+1,k+1,v,names,hk,hv=>specGetB _ (d+1) v names hv (fun e he x ns hx=>by
   have:e=d:=by omega
   subst this
   exact specGet_all e k x ns (by omega) hx)
theorem implGetB (g:TVal→List (List UInt8)→Option (List TVal×Unit)) (d:Nat) (v:TVal) (names:List (List UInt8)) (hv:okM d v=true)
  (hg:∀ e,d=e+1→∀ x ns,okM e x=true→g x ns=some (getM ns x,())):B250 g v names=some (getM names v,()):=by
 unfold B250
 have lv:=okM_short hv
 cases names with
 |nil=>
  rw [show ((((List.length ([]:List (List UInt8))):Nat):Int)==(0:Int))=true from rfl,cond_true]
  show cond _ _ _=some (v::(if v.1=4 then itemsL v else []),())
  by_cases hk:v.1=4
  ·rw [show (v.1==(4:Int))=true by simpa using hk,cond_true,if_pos hk]
   obtain ⟨e,l,_,i1,i2,_⟩:=okM_items hv hk
   have:=(itemsM_small _ _ _ (Nat.le_refl _) i1).1
   rw [implItems_list (okM_LVal hv) i1,Option.bind_some,i2]
   dsimp only
   rw [lim_ok (by simp only [List.nil_append,List.length_cons,List.length_nil];omega),gd_true]
   rfl
  ·rw [show (v.1==(4:Int))=false by simpa using hk,cond_false,if_neg hk]
   rfl
 |cons n ns=>
  rw [show ((((List.length (n::ns)):Nat):Int)==(0:Int))=false by rw [beq_eq_false_iff_ne];simp only [List.length_cons];omega,cond_false,getM_cons]
  dsimp only
  by_cases h5:v.1=5
  ·rw [show (v.1==(5:Int))=true by simpa using h5,cond_true,if_pos h5]
   obtain ⟨e,l,hd,i1,i2,_,_,i3⟩:=okM_fields hv h5
   obtain ⟨q1,q2⟩:=okM_rise hv h5 i1
   rw [show (n::ns)[Int.toNat (0:Int)]? = some n from rfl,Option.bind_some,field_doc _ _ (okM_LVal hv) q2 q1,Option.bind_some]
   unfold oneM
   rw [i2]
   cases hc:(fieldOf l n).2.1 with
   |false=>rfl
   |true=>
    obtain ⟨f,hf,e1⟩:=fieldOf_mem hc
    rw [cond_true,gd_le,gd_if (by simp only [List.length_cons];omega),take_all_drop]
    rw [e1]
    show Option.bind (g f.2.1 ns) _=_
    rw [hg e hd _ _ (i3 f hf)]
    rfl
  ·rw [show (v.1==(5:Int))=false by simpa using h5,cond_false,if_neg h5]
   by_cases h4:v.1=4
   ·rw [show (v.1==(4:Int))=true by simpa using h4,cond_true,if_pos h4]
    obtain ⟨e,l,hd,i1,i2,_,_,i3⟩:=okM_items hv h4
    have hl:=(itemsM_small _ _ _ (Nat.le_refl _) i1).1
    have hr:=items_room _ _ _ (Nat.le_refl _) i1
    have hf:=flat_len (fun x=>if x.1=5 then oneM n ns x else []) l fun x hx=>by
     by_cases hx5:x.1=5
     ·rw [if_pos hx5];exact one_len (getM_len ns) n (i3 x hx) hx5
     ·rw [if_neg hx5];simp
    rw [implItems_list (okM_LVal hv) i1,Option.bind_some,i2]
    refine Eq.trans (iter_go (S:=List TVal) (fun i out=>(n::ns,l,((l.length:Nat):Int),(i:Int),out,())) (fun i out=>some (out++(l.drop i).flatMap fun x=>if x.1=5 then oneM n ns x else [],())) l.length
     (fun i out=>out.length+((l.drop i).flatMap fun x=>if x.1=5 then oneM n ns x else []).length≤1048576) ?_ ?_ fuel 0 [] (Nat.zero_le _) (fuel_gt (by omega)) (by rw [List.drop_zero];simp only [List.length_nil];omega)) (by simp)
    ·intro i out hi hI rec hrec
     rw [drop_cons_nth hi,List.flatMap_cons,List.length_append] at hI
     simp only [B250_R16,lt_cast,hi,decide_true,cond_true,gd_pos,get_nth hi,Option.bind_some,wrap_up i _ hi (by omega)]
     rw [drop_cons_nth hi,List.flatMap_cons]
     by_cases hx:(nth l i).1=5
     ·rw [show ((nth l i).1==(5:Int))=true by simpa using hx,cond_true,hg e hd _ _ (i3 _ (nth_mem hi)),Option.bind_some,getM_cons,if_pos hx]
      rw [if_pos hx] at hI ⊢
      dsimp only
      rw [lim_ok (by omega),gd_true,hrec _ (by rw [List.length_append];omega),List.append_assoc]
     ·rw [show ((nth l i).1==(5:Int))=false by simpa using hx,cond_false,if_neg hx,List.nil_append]
      rw [if_neg hx] at hI
      exact hrec _ (by simpa using hI)
    ·intro out _ rec
     simp only [B250_R16,lt_cast,Nat.lt_irrefl,decide_false,cond_false,List.drop_length,List.flatMap_nil,List.append_nil]
   ·rw [show (v.1==(4:Int))=false by simpa using h4,cond_false,if_neg h4]
theorem implGet_all:∀ (d k:Nat) (v:TVal) (names:List (List UInt8)),d<k→okM d v=true→S250 k v names=some (getM names v,())
 |0,k+1,v,names,_,hv=>implGetB _ 0 v names hv (fun e he=>by omega)
 |d+1,k+1,v,names,hk,hv=>implGetB _ (d+1) v names hv (fun e he x ns hx=>by
   have:e=d:=by omega
   subst this
   exact implGet_all e k x ns (by omega) hx)
theorem okB_mono {g g':TVal→Bool} (h:∀ x,g x=true→g' x=true) {m:Bool} {v:TVal} (hv:okB g m v=true):okB g' true v=true:=by
 unfold okB at hv ⊢
 by_cases c0:v.1=0
 ·rw [if_pos c0] at hv ⊢;exact hv
 rw [if_neg c0] at hv ⊢
 by_cases c1:v.1=1
 ·rw [if_pos c1] at hv ⊢;exact hv
 rw [if_neg c1] at hv ⊢
 by_cases c2:v.1=2
 ·rw [if_pos c2] at hv ⊢;exact hv
 rw [if_neg c2] at hv ⊢
 by_cases c3:v.1=3
 ·rw [if_pos c3] at hv ⊢;exact hv
 rw [if_neg c3] at hv ⊢
 by_cases c4:v.1=4
 ·rw [if_pos c4] at hv ⊢
  simp only [Bool.and_eq_true] at hv ⊢
  obtain ⟨h1,h2,_,h3⟩:=hv
  refine ⟨h1,h2,trivial,?_⟩
  cases hi:itemsM v.2.2.1 with
  |none=>rw [hi] at h3;cases h3
  |some l=>
   rw [hi] at h3
   dsimp only at h3 ⊢
   rw [List.all_eq_true] at h3 ⊢
   exact fun x hx=>h x (h3 x hx)
 rw [if_neg c4] at hv ⊢
 by_cases c5:v.1=5
 ·rw [if_pos c5] at hv ⊢
  simp only [Bool.and_eq_true] at hv ⊢
  obtain ⟨h1,h2,_,h3⟩:=hv
  refine ⟨h1,h2,trivial,?_⟩
  cases hi:fieldsM v.2.2.1 with
  |none=>rw [hi] at h3;cases h3
  |some l=>
   rw [hi] at h3
   dsimp only at h3 ⊢
   rw [allF_iff] at h3 ⊢
   intro i h0 hi'
   have:=h3 i h0 hi'
   simp only [Bool.and_eq_true] at this ⊢
   exact ⟨this.1,this.2.1,h _ this.2.2⟩
 rw [if_neg c5] at hv
 cases hv
theorem okM_up:∀ (d:Nat) (v:TVal),okM d v=true→okM (d+1) v=true
 |0,v,h=>okB_mono (fun x hx=>by cases hx) h
 |d+1,v,h=>okB_mono (okM_up d) h
theorem okM_le {d e:Nat} (h:d≤e) {v:TVal} (hv:okM d v=true):okM e v=true:=by
 induction e with
 |zero=>
  have:d=0:=by omega
  subst this;exact hv
 |succ e ih=>
  by_cases c:d=e+1
  ·subst c;exact hv
  ·exact okM_up e v (ih (by omega))
theorem getM_ok:∀ (names:List (List UInt8)) (d:Nat) (v x:TVal),okM d v=true→x∈getM names v→okM d x=true
 |[],d,v,x,h,hx=>by
  have hx:x∈(v::(if v.1=4 then itemsL v else [])):=hx
  rcases List.mem_cons.1 hx with rfl | hx
  ·exact h
  ·by_cases hk:v.1=4
   ·rw [if_pos hk] at hx
    obtain ⟨e,l,hd,i1,i2,_,_,i3⟩:=okM_items h hk
    rw [i2] at hx
    exact okM_le (by omega) (i3 x hx)
   ·rw [if_neg hk] at hx;cases hx
 |n::ns,d,v,x,h,hx=>by
  have one:∀ {d:Nat} {y:TVal},okM d y=true→y.1=5→x∈oneM n ns y→okM d x=true:=by
   intro d y hy h5 hx
   unfold oneM at hx
   obtain ⟨e,l,hd,i1,i2,_,_,i3⟩:=okM_fields hy h5
   rw [i2] at hx
   by_cases c:(fieldOf l n).2.1=true
   ·rw [if_pos c] at hx
    obtain ⟨f,hf,e1⟩:=fieldOf_mem c
    rw [e1] at hx
    exact okM_le (by omega) (getM_ok ns e f.2.1 x (i3 f hf) hx)
   ·rw [if_neg c] at hx;cases hx
  rw [getM_cons] at hx
  by_cases h5:v.1=5
  ·rw [if_pos h5] at hx;exact one h h5 hx
  ·rw [if_neg h5] at hx
   by_cases h4:v.1=4
   ·rw [if_pos h4] at hx
    obtain ⟨e,l,hd,i1,i2,_,_,i3⟩:=okM_items h h4
    rw [i2,List.mem_flatMap] at hx
    obtain ⟨y,hy,hx⟩:=hx
    by_cases hy5:y.1=5
    ·rw [if_pos hy5] at hx;exact okM_le (by omega) (one (i3 y hy) hy5 hx)
    ·rw [if_neg hy5] at hx;cases hx
   ·rw [if_neg h4] at hx;cases hx
theorem nullV_ok:okM 5 nullV=true:=by decide
theorem eqV (a b:TVal):((decide (a.1=b.1))&&((decide (a.2.1=b.2.1))&&((a.2.2.1==b.2.2.1)&&true)))=decide (a=b):=by
 obtain ⟨a1,a2,a3,_⟩:=a
 obtain ⟨b1,b2,b3,_⟩:=b
 rw [Bool.eq_iff_iff]
 simp
theorem order_eq_dec (a b:TVal) (ha:okM 5 a=true) (hb:okM 5 b=true):decide (a=b)=decide (ordM 5 a b=0):=by
 rw [decide_eq_decide]
 exact (ordM_zero 5 a b ha hb).symm
theorem l03In_eq (l:List TVal) (v:TVal) (hl:l.length≤1048576):iter (F270_R18 (fun y10=>(some (false,()))) (fun y11=>(some (y11.1,())))) fuel (l,(0:Int),v,())=some (l.any (fun x=>x==v),()):=by
 refine Eq.trans (iter_go (S:=Unit) (fun i _=>(l,(i:Int),v,())) (fun i _=>some ((l.drop i).any (fun x=>x==v),())) l.length (fun _ _=>True) ?_ ?_ fuel 0 () (Nat.zero_le _) (fuel_gt (by omega)) trivial) rfl
 ·intro i _ hi _ rec hrec
  simp only [F270_R18,lt_cast,hi,decide_true,cond_true,gd_pos,get_nth hi,Option.bind_some,wrap_up i _ hi (by omega),eqV]
  rw [drop_cons_nth hi,List.any_cons,hrec () trivial]
  by_cases h:nth l i=v
  ·rw [decide_eq_true h,cond_true,show (nth l i==v)=true by simpa using h];rfl
  ·rw [decide_eq_false h,cond_false,show (nth l i==v)=false by simpa using h];rfl
 ·intro _ _ rec
  simp only [F270_R18,lt_cast,Nat.lt_irrefl,decide_false,cond_false,List.drop_length,List.any_nil]
theorem contains_eq (l:List TVal) (v:TVal) (hl:l.length≤1048576):F251 l v=some (l.any (fun x=>x==v),()):=by
 have key:F290 l v=some (firstAt (fun x=>x==v) 0 l,()):=by
  unfold F290
  refine Eq.trans (iter_go (S:=Unit) (fun i _=>(l,((l.length:Nat):Int),(i:Int),v,())) (fun i _=>some (firstAt (fun x=>x==v) i (l.drop i),())) l.length (fun _ _=>True) ?_ ?_ fuel 0 () (Nat.zero_le _) (fuel_gt (by omega)) trivial) rfl
  ·intro i _ hi _ rec hrec
   simp only [F290_R2,lt_cast,hi,decide_true,cond_true,gd_pos,get_nth hi,Option.bind_some,wrap_up i _ hi (by omega),eqV]
   rw [drop_cons_nth hi,firstAt,hrec () trivial]
   by_cases h:nth l i=v
   ·rw [decide_eq_true h.symm,cond_true,show (nth l i==v)=true by simpa using h,cond_true]
   ·rw [decide_eq_false (fun e=>h e.symm),cond_false,show (nth l i==v)=false by simpa using h,cond_false]
  ·intro _ _ rec
   simp only [F290_R2,lt_cast,Nat.lt_irrefl,decide_false,cond_false,List.drop_length]
   rfl
 unfold F251
 rw [key,Option.bind_some,←firstAt_any (fun x=>x==v) 0 l]
theorem termM_op {t:TTerm} (h:termM t=true):valueM t.2.2.1=true∧pathM t.2.1=true∧1≤t.1∧t.1≤10∧(t.1=7→t.2.2.1.1=4):=by
 unfold termM at h
 simp only [Bool.and_eq_true] at h
 obtain ⟨h1,h2,h3⟩:=h
 refine ⟨h2,h1,?_⟩
 by_cases c7:t.1=7
 ·rw [if_pos c7] at h3;simp at h3;exact ⟨by omega,by omega,fun _=>h3⟩
 rw [if_neg c7] at h3
 by_cases c8:t.1=8
 ·exact ⟨by omega,by omega,fun e=>absurd e c7⟩
 rw [if_neg c8] at h3
 by_cases c9:t.1=9
 ·exact ⟨by omega,by omega,fun e=>absurd e c7⟩
 rw [if_neg c9] at h3
 by_cases c10:t.1=10
 ·exact ⟨by omega,by omega,fun e=>absurd e c7⟩
 rw [if_neg c10] at h3
 unfold inR at h3
 simp only [Bool.and_eq_true,decide_eq_true_eq] at h3
 exact ⟨by omega,by omega,fun e=>absurd e c7⟩
theorem cond_and (a b:Bool):cond a (some (b,())) (some (false,()))=some (a&&b,()):=by cases a<;>rfl
theorem specHolds_eq (t:TTerm) (v:TVal) (ht:termM t=true) (h8:t.1≠8) (hv:okM 5 v=true):F270 t v=some (holdsM t v,()):=by
 obtain ⟨h1,_,h3,h4,h7⟩:=termM_op ht
 unfold F270 holdsM
 have lt:=okM_short h1
 have lv:=okM_short hv
 rw [specOrder_eq v t.2.2.1 hv h1,Option.bind_some]
 have e12:=order_eq_dec v t.2.2.1 hv h1
 dsimp only
 have hin:t.1=7→(Option.bind (F244 t.2.2.1.2.2.1) fun y3=>(iter (F270_R18 (fun y10=>(some (false,()))) (fun y11=>(some (y11.1,())))) fuel (y3.1,(0:Int),v,())))=some ((itemsL t.2.2.1).any (fun x=>x==v),()):=by
  intro e
  obtain ⟨e',l,_,i1,i2,_⟩:=okM_items h1 (h7 e)
  have:=(itemsM_small _ _ _ (Nat.le_refl _) i1).1
  rw [l01Items_eq _ (by omega),i1,Option.bind_some,i2]
  exact l03In_eq l v (by omega)
 have hsize:(Option.bind (F244 v.2.2.1) fun y12=>(cond (v.1==(4:Int)) (some (((((List.length y12.1):Nat):Int)==t.2.2.1.2.1),())) (some (false,()))))=some ((v.1==4)&&((((itemsL v).length:Nat):Int)==t.2.2.1.2.1),()):=by
  rw [l01Items_eq _ (by omega),Option.bind_some]
  by_cases k:v.1=4
  ·obtain ⟨e',l,_,i1,i2,_⟩:=okM_items hv k
   rw [i1,i2,show (v.1==(4:Int))=true by simpa using k]
   rfl
  ·rw [show (v.1==(4:Int))=false by simpa using k];rfl
 have cases:t.1=1∨t.1=2∨t.1=3∨t.1=4∨t.1=5∨t.1=6∨t.1=7∨t.1=9∨t.1=10:=by omega
 rcases cases with c | c | c | c | c | c | c | c | c<;>simp only [c,show ((1:Int)==1)=true from rfl,show ((2:Int)==1)=false from rfl,show ((2:Int)==2)=true from rfl,show ((3:Int)==1)=false from rfl,show ((3:Int)==2)=false from rfl,show ((3:Int)==3)=true from rfl,
  show ((4:Int)==1)=false from rfl,show ((4:Int)==2)=false from rfl,show ((4:Int)==3)=false from rfl,show ((4:Int)==4)=true from rfl,
  show ((5:Int)==1)=false from rfl,show ((5:Int)==2)=false from rfl,show ((5:Int)==3)=false from rfl,show ((5:Int)==4)=false from rfl,show ((5:Int)==5)=true from rfl,
  show ((6:Int)==1)=false from rfl,show ((6:Int)==2)=false from rfl,show ((6:Int)==3)=false from rfl,show ((6:Int)==4)=false from rfl,show ((6:Int)==5)=false from rfl,show ((6:Int)==6)=true from rfl,
  show ((7:Int)==1)=false from rfl,show ((7:Int)==2)=false from rfl,show ((7:Int)==3)=false from rfl,show ((7:Int)==4)=false from rfl,show ((7:Int)==5)=false from rfl,show ((7:Int)==6)=false from rfl,show ((7:Int)==7)=true from rfl,
  show ((9:Int)==1)=false from rfl,show ((9:Int)==2)=false from rfl,show ((9:Int)==3)=false from rfl,show ((9:Int)==4)=false from rfl,show ((9:Int)==5)=false from rfl,show ((9:Int)==6)=false from rfl,show ((9:Int)==7)=false from rfl,show ((9:Int)==9)=true from rfl,
  show ((10:Int)==1)=false from rfl,show ((10:Int)==2)=false from rfl,show ((10:Int)==3)=false from rfl,show ((10:Int)==4)=false from rfl,show ((10:Int)==5)=false from rfl,show ((10:Int)==6)=false from rfl,show ((10:Int)==7)=false from rfl,show ((10:Int)==9)=false from rfl,show ((10:Int)==10)=true from rfl,
  cond_true,cond_false,eqV,e12,cond_and,hsize,true_or,or_true,if_true]
 all_goals first | rfl | (rw [hin c];simp;done) | (simp;done) | (simp only [cond_and] at hsize;simp;exact hsize)
theorem implHolds_eq (t:TTerm) (v:TVal) (ht:termM t=true) (h8:t.1≠8) (hv:okM 5 v=true):F204 t v=some (holdsM t v,()):=by
 obtain ⟨h1,_,h3,h4,h7⟩:=termM_op ht
 unfold F204 holdsM
 have lt:=okM_short h1
 have lv:=okM_short hv
 rw [implOrder_eq v t.2.2.1 hv h1,Option.bind_some]
 dsimp only
 have hin:t.1=7→(Option.bind (F209 t.2.2.1) fun y3=>(Option.bind (F251 y3.1 v) fun y4=>(some (y4.1,()))))=some ((itemsL t.2.2.1).any (fun x=>x==v),()):=by
  intro e
  obtain ⟨e',l,_,i1,i2,_⟩:=okM_items h1 (h7 e)
  have:=(itemsM_small _ _ _ (Nat.le_refl _) i1).1
  rw [implItems_list (okM_LVal h1) i1,Option.bind_some,i2,contains_eq l v (by omega)]
  rfl
 have hsize:(Option.bind (F209 v) fun y9=>(cond (v.1==(4:Int)) (some (((((List.length y9.1):Nat):Int)==t.2.2.1.2.1),())) (some (false,()))))=some ((v.1==4)&&((((itemsL v).length:Nat):Int)==t.2.2.1.2.1),()):=by
  by_cases k:v.1=4
  ·obtain ⟨e',l,_,i1,i2,_⟩:=okM_items hv k
   rw [implItems_list (okM_LVal hv) i1,Option.bind_some,i2,show (v.1==(4:Int))=true by simpa using k]
   rfl
  ·rw [implItems_eq v (okM_LVal hv),Option.bind_some,show (v.1==(4:Int))=false by simpa using k];rfl
 have ez:∀ z:Int,(z==(0:Int))=decide (z=0):=fun z=>by rw [Bool.eq_iff_iff];simp
 have cases:t.1=1∨t.1=2∨t.1=3∨t.1=4∨t.1=5∨t.1=6∨t.1=7∨t.1=9∨t.1=10:=by omega
 rcases cases with c | c | c | c | c | c | c | c | c<;>simp only [c,show ((1:Int)==1)=true from rfl,show ((2:Int)==1)=false from rfl,show ((2:Int)==2)=true from rfl,show ((3:Int)==1)=false from rfl,show ((3:Int)==2)=false from rfl,show ((3:Int)==3)=true from rfl,
  show ((4:Int)==1)=false from rfl,show ((4:Int)==2)=false from rfl,show ((4:Int)==3)=false from rfl,show ((4:Int)==4)=true from rfl,
  show ((5:Int)==1)=false from rfl,show ((5:Int)==2)=false from rfl,show ((5:Int)==3)=false from rfl,show ((5:Int)==4)=false from rfl,show ((5:Int)==5)=true from rfl,
  show ((6:Int)==1)=false from rfl,show ((6:Int)==2)=false from rfl,show ((6:Int)==3)=false from rfl,show ((6:Int)==4)=false from rfl,show ((6:Int)==5)=false from rfl,show ((6:Int)==6)=true from rfl,
  show ((7:Int)==1)=false from rfl,show ((7:Int)==2)=false from rfl,show ((7:Int)==3)=false from rfl,show ((7:Int)==4)=false from rfl,show ((7:Int)==5)=false from rfl,show ((7:Int)==6)=false from rfl,show ((7:Int)==7)=true from rfl,
  show ((9:Int)==1)=false from rfl,show ((9:Int)==2)=false from rfl,show ((9:Int)==3)=false from rfl,show ((9:Int)==4)=false from rfl,show ((9:Int)==5)=false from rfl,show ((9:Int)==6)=false from rfl,show ((9:Int)==7)=false from rfl,show ((9:Int)==9)=true from rfl,
  show ((10:Int)==1)=false from rfl,show ((10:Int)==2)=false from rfl,show ((10:Int)==3)=false from rfl,show ((10:Int)==4)=false from rfl,show ((10:Int)==5)=false from rfl,show ((10:Int)==6)=false from rfl,show ((10:Int)==7)=false from rfl,show ((10:Int)==9)=false from rfl,show ((10:Int)==10)=true from rfl,
  cond_true,cond_false,ez,cond_and,hsize,true_or,or_true,if_true]
 all_goals first | rfl | (rw [hin c];simp;done) | (simp;done) | (simp only [cond_and] at hsize;simp;exact hsize)
theorem doc_ok {v:TVal} (h:isDocM v=true):okM 5 v=true:=by
 unfold isDocM valueM at h
 rw [Bool.and_eq_true] at h
 exact h.2
theorem l02Values_eq (v:TVal) (path:List UInt8) (hv:okM 5 v=true) (hp:path.length≤1048576):F269 v path=some (pathsM v path,()):=by
 unfold F269
 rw [show F133 path (46:Int)=some (cutM 46 path,()) from l00Cut_eq path 46 hp,Option.bind_some]
 have:F304 v (cutM 46 path)=some (getM (cutM 46 path) v,()):=specGet_all 5 fuel v _ (fuel_gt (by decide)) hv
 rw [this]
 rfl
theorem getPath_eq (v:TVal) (path:List UInt8) (hv:okM 5 v=true) (hp:path.length≤1048576):F202 v path=some (pathsM v path,()):=by
 unfold F202
 rw [split_eq path 46 hp,Option.bind_some]
 have:F250 v (cutM 46 path)=some (getM (cutM 46 path) v,()):=implGet_all 5 fuel v _ (fuel_gt (by decide)) hv
 rw [this]
 rfl
theorem pathsM_ok {v:TVal} {path:List UInt8} (hv:okM 5 v=true):(pathsM v path).length≤1048576∧∀ x,x∈pathsM v path→okM 5 x=true:=by
 have:=getM_len (cutM 46 path) 5 v hv
 have:=okM_short hv
 exact ⟨by unfold pathsM;omega,fun x hx=>getM_ok _ 5 v x hv hx⟩
theorem pathM_len {t:List UInt8} (h:pathM t=true):t.length≤1048576:=by
 unfold pathM at h
 simp only [Bool.and_eq_true,decide_eq_true_eq] at h
 omega
def valsM (t:TTerm) (doc:TVal):List TVal:=if (pathsM doc t.2.1).length=0∧t.1≠9 then [nullV] else pathsM doc t.2.1
theorem valsM_ok {t:TTerm} {v:TVal} (hv:okM 5 v=true):(valsM t v).length≤1048576∧∀ x,x∈valsM t v→okM 5 x=true:=by
 unfold valsM
 by_cases c:(pathsM v t.2.1).length=0∧t.1≠9
 ·rw [if_pos c]
  exact ⟨by simp,fun x hx=>by rw [List.mem_singleton] at hx;rw [hx];exact nullV_ok⟩
 ·rw [if_neg c];exact pathsM_ok hv
theorem doesM_eq (t:TTerm) (v:TVal):doesM t v=if t.1=8 then (decide (0<(pathsM v t.2.1).length))==(t.2.2.1.2.1==1) else ((valsM t v).any (holdsM t)) != (t.1==2):=rfl
theorem l03Some_eq (t:TTerm) (l:List TVal) (ht:termM t=true) (h8:t.1≠8) (hl:l.length≤1048576) (ho:∀ x,x∈l→okM 5 x=true) :
  iter (F226_R8 (fun y11=>(some ((!(y11.1==(y11.2.1.1==(2:Int)))),())))) fuel (l,false,(0:Int),t,())=some ((l.any (holdsM t)) != (t.1==2),()):=by
 refine Eq.trans (iter_go (S:=Bool) (fun i b=>(l,b,(i:Int),t,())) (fun i b=>some ((b||(l.drop i).any (holdsM t)) != (t.1==2),())) l.length (fun _ _=>True) ?_ ?_ fuel 0 false (Nat.zero_le _) (fuel_gt (by omega)) trivial) rfl
 ·intro i b hi _ rec hrec
  simp only [F226_R8,lt_cast,hi,decide_true,cond_true,gd_pos,get_nth hi,Option.bind_some,wrap_up i _ hi (by omega),specHolds_eq t (nth l i) ht h8 (ho _ (nth_mem hi))]
  rw [hrec true trivial,hrec (holdsM t (nth l i)) trivial,drop_cons_nth hi,List.any_cons]
  cases b<;>simp
 ·intro b _ rec
  simp only [F226_R8,lt_cast,Nat.lt_irrefl,decide_false,cond_false,List.drop_length,List.any_nil,Bool.or_false]
  rfl
theorem specTerm_eq (t:TTerm) (v:TVal) (ht:termM t=true) (hv:okM 5 v=true):F226 t v=some (doesM t v,()):=by
 unfold F226
 obtain ⟨h1,h2,_⟩:=termM_op ht
 rw [l02Values_eq v _ hv (pathM_len h2),Option.bind_some,doesM_eq]
 dsimp only
 by_cases h8:t.1=8
 ·rw [show (t.1==(8:Int))=true by simpa using h8,cond_true,if_pos h8,gt_zero]
 ·rw [show (t.1==(8:Int))=false by simpa using h8,cond_false,if_neg h8]
  obtain ⟨q1,q2⟩:=valsM_ok (t:=t) hv
  have hs:=l03Some_eq t (valsM t v) ht h8 q1 q2
  rw [eq_zero]
  by_cases c:(pathsM v t.2.1).length=0
  ·rw [decide_eq_true c,cond_true]
   by_cases c9:t.1=9
   ·rw [show (t.1 != (9:Int))=false by simpa using c9,cond_false,←hs]
    unfold valsM
    rw [if_neg (fun h=>h.2 c9)]
   ·rw [show (t.1 != (9:Int))=true by simpa using c9,cond_true,←hs]
    unfold valsM
    rw [if_pos ⟨c,c9⟩]
    rfl
  ·rw [decide_eq_false c,cond_false,←hs]
   unfold valsM
   rw [if_neg (fun h=>c h.1)]
theorem implTerm_eq (t:TTerm) (v:TVal) (ht:termM t=true) (hv:okM 5 v=true):F155 t v=some (doesM t v,()):=by
 unfold F155
 obtain ⟨h1,h2,_⟩:=termM_op ht
 rw [getPath_eq v _ hv (pathM_len h2),Option.bind_some,doesM_eq]
 dsimp only
 by_cases h8:t.1=8
 ·rw [show (t.1==(8:Int))=true by simpa using h8,cond_true,if_pos h8,gt_zero]
 ·rw [show (t.1==(8:Int))=false by simpa using h8,cond_false,if_neg h8]
  obtain ⟨q1,q2⟩:=valsM_ok (t:=t) hv
  have hs:F203 (valsM t v) (fun (v7:TVal)=>(Option.map (fun (v8:(Bool×Unit))=>v8.1) (F204 t v7)))=some ((valsM t v).any (holdsM t),()):=
   any_value (holdsM t) _ _ (fun x hx=>by rw [implHolds_eq t x ht h8 (q2 x hx)];rfl) (by omega)
  have hb:∀ b:Bool,(!(b==(t.1==(2:Int))))=(b != (t.1==2)):=fun b=>rfl
  rw [eq_zero]
  by_cases c:(pathsM v t.2.1).length=0
  ·rw [decide_eq_true c,cond_true]
   by_cases c9:t.1=9
   ·have e:valsM t v=pathsM v t.2.1:=by unfold valsM;rw [if_neg (fun h=>h.2 c9)]
    rw [show (t.1 != (9:Int))=false by simpa using c9,cond_false,←e,hs]
    rfl
   ·have e:pathsM v t.2.1++[((0:Int),((0:Int),(([]:List UInt8),())))]=valsM t v:=by
     unfold valsM
     rw [if_pos ⟨c,c9⟩,List.eq_nil_of_length_eq_zero c]
     rfl
    rw [show (t.1 != (9:Int))=true by simpa using c9,cond_true,lim_ok (by simp only [List.length_cons,List.length_nil];omega),gd_true]
    rw [e,hs]
    rfl
  ·have e:valsM t v=pathsM v t.2.1:=by unfold valsM;rw [if_neg (fun h=>c h.1)]
   rw [decide_eq_false c,cond_false,←e,hs]
   rfl
theorem filterM_spec {f:TFilter} (h:filterM f=true):f.1.length≤3∧∀ c,c∈f.1→c.1.length≤4∧∀ t,t∈c.1→termM t=true:=by
 unfold filterM inR at h
 simp only [Bool.and_eq_true,decide_eq_true_eq,List.all_eq_true] at h
 refine ⟨by omega,fun c hc=>?_⟩
 have:=h.2 c hc
 exact ⟨by omega,this.2⟩
theorem specClause_eq (c:TClause) (v:TVal) (hl:c.1.length≤4) (ht:∀ t,t∈c.1→termM t=true) (hv:okM 5 v=true):F173 c v=some (c.1.all fun t=>doesM t v,()):=by
 unfold F173
 refine Eq.trans (iter_go (S:=Unit) (fun i _=>((i:Int),c,v,())) (fun i _=>some ((c.1.drop i).all fun t=>doesM t v,())) c.1.length (fun _ _=>True) ?_ ?_ fuel 0 () (Nat.zero_le _) (fuel_gt (by omega)) trivial) rfl
 ·intro i _ hi _ rec hrec
  simp only [F173_R2,lt_cast,hi,decide_true,cond_true,gd_pos,get_nth hi,Option.bind_some,wrap_up i _ hi (by omega),specTerm_eq _ v (ht _ (nth_mem hi)) hv]
  rw [drop_cons_nth hi,List.all_cons,hrec () trivial]
  cases doesM (nth c.1 i) v<;>rfl
 ·intro _ _ rec
  simp only [F173_R2,lt_cast,Nat.lt_irrefl,decide_false,cond_false,List.drop_length,List.all_nil]
theorem specMatches_eq (f:TFilter) (v:TVal) (hf:filterM f=true) (hv:okM 5 v=true):F118 f v=some (matchM f v,()):=by
 obtain ⟨h1,h2⟩:=filterM_spec hf
 unfold F118
 refine Eq.trans (iter_go (S:=Unit) (fun i _=>((i:Int),f,v,())) (fun i _=>some ((f.1.drop i).any fun c=>c.1.all fun t=>doesM t v,())) f.1.length (fun _ _=>True) ?_ ?_ fuel 0 () (Nat.zero_le _) (fuel_gt (by omega)) trivial) rfl
 ·intro i _ hi _ rec hrec
  obtain ⟨g1,g2⟩:=h2 _ (nth_mem hi)
  simp only [F118_R2,lt_cast,hi,decide_true,cond_true,gd_pos,get_nth hi,Option.bind_some,wrap_up i _ hi (by omega),specClause_eq _ v g1 g2 hv]
  rw [drop_cons_nth hi,List.any_cons,hrec () trivial]
  cases (nth f.1 i).1.all fun t=>doesM t v<;>rfl
 ·intro _ _ rec
  simp only [F118_R2,lt_cast,Nat.lt_irrefl,decide_false,cond_false,List.drop_length,List.any_nil]
theorem implMatches_eq (f:TFilter) (v:TVal) (hf:filterM f=true) (hv:okM 5 v=true):F101 f v=some (matchM f v,()):=by
 obtain ⟨h1,h2⟩:=filterM_spec hf
 unfold F101
 have:F141 f.1 (fun (v3:TClause)=>(Option.map (fun (v4:(Bool×Unit))=>v4.1) (F153 v3 v)))=some (f.1.any fun c=>c.1.all fun t=>doesM t v,()):=
  any_clause _ _ _ (fun c hc=>by
   obtain ⟨g1,g2⟩:=h2 c hc
   unfold F153
   rw [any_term (fun t=>!doesM t v) _ _ (fun t ht=>by
    unfold F154
    rw [implTerm_eq t v (g2 t ht) hv];rfl) (by omega),Option.bind_some,any_not_all']
   simp) (by omega)
 rw [this]
 rfl
theorem markText_some (k:Int) (h:k≤1000000000000):∃ t,F64 k=some (t,()):=by
 unfold F64
 by_cases h0:k≤0
 ·simp only [h0,decide_true,cond_true];exact ⟨_,rfl⟩
 simp only [h0,decide_false,cond_false]
 have key:∀ (n:Nat) (k:Int) (acc:List UInt8),k.toNat<n→0≤k→k≤1000000000000→acc.length+k.toNat≤2000000000000→∃ t,iter (F64_R4 (fun y5=>(gd (decide (((List.length ([(109:UInt8)]:List UInt8))+(List.length y5.1))≤9223372036854775807)) (some (([(109:UInt8)]++y5.1),()))))) n (k,acc,())=some (t,()):=by
  intro n
  induction n with
  |zero=>intro k acc h;omega
  |succ n ih=>
   intro k acc h1 h2 h3 h4
   simp only [iter,F64_R4]
   by_cases hk:k>0
   ·simp only [hk,decide_true,cond_true]
    have e:IntKind.wrap .i64 (Int.tdiv k 10)=k / 10:=by
     rw [Int.tdiv_eq_ediv_of_nonneg h2];exact wrapI _ (by omega) (by omega)
    rw [gd_if (by simp only [List.length_map,List.length_cons,List.length_nil];omega),e]
    exact ih _ _ (by omega) (by omega) (by omega) (by simp only [List.length_append,List.length_map,List.length_cons,List.length_nil];omega)
   ·simp only [hk,decide_false,cond_false]
    rw [gd_if (by simp only [List.length_cons,List.length_nil];omega)]
    exact ⟨_,rfl⟩
 exact key fuel k [] (by rw [fuel_eq];omega) (by omega) h (by simp only [List.length_nil];omega)
noncomputable def mtx (k:Int):List UInt8:=match F64 k with | some r=>r.1 | none=>[]
theorem mtx_ok (k:Int) (h:k≤1000000000000):F64 k=some (mtx k,()):=by
 obtain ⟨t,ht⟩:=markText_some k h
 rw [mtx,ht]
def MkOk {α:Type} (G:List α→Int→Option (Int×List α×Unit)) (L:Nat→α→Prop) (c:α→Nat):Prop:=
 ∀ l k,LS L 1048576 l→0≤k→k+10*(cS c l:Int)≤100000000000→∃ k' l',G l k=some (k',l',())∧k≤k' ∧k' ≤k+10*(cS c l:Int)
theorem drop_set_next {α:Type} (l:List α) (i:Nat) (y:α):(l.set i y).drop (i+1)=l.drop (i+1):=by
 apply List.ext_getElem?
 intro j
 rw [List.getElem?_drop,List.getElem?_drop,List.getElem?_set_ne (by omega)]
theorem mkS {α:Type} [Inhabited α] {R:(Int×Int×List α×Unit→Option (Int×List α×Unit))→Int×Int×List α×Unit→Option (Int×List α×Unit)} {L:Nat→α→Prop} {c:α→Nat}
  (hs:∀ (i:Nat) (l:List α) (k:Int) (rec:Int×Int×List α×Unit→Option (Int×List α×Unit)),i<l.length→L 1048576 (nth l i)→0≤k→k+10*(1+(c (nth l i):Int))≤100000000000→l.length≤1048576→
   ∃ k' y',R rec (k,(i:Int),l,())=rec (k',((i+1:Nat):Int),l.set i y',())∧k≤k' ∧k' ≤k+10*(1+(c (nth l i):Int)))
  (hn:∀ (l:List α) (k:Int) rec,R rec (k,(l.length:Int),l,())=some (k,l,())) :
  MkOk (fun l k=>iter R fuel (k,(0:Int),l,())) L c:=by
 intro l k hl hk hb
 have key:∀ (n i:Nat) (l:List α) (k:Int),i≤l.length→l.length-i<n→l.length≤1048576→(∀ x,x∈l.drop i→L 1048576 x)→0≤k→k+10*(((l.drop i).length:Int)+((l.drop i).map c).sum)≤100000000000→
   ∃ k' l',iter R n (k,(i:Int),l,())=some (k',l',())∧k≤k' ∧k' ≤k+10*(((l.drop i).length:Int)+((l.drop i).map c).sum):=by
  intro n
  induction n with
  |zero=>intro i l k _ h;omega
  |succ n ih=>
   intro i l k hi hn' hlen hL hk hb
   simp only [iter]
   by_cases hlt:i<l.length
   ·rw [drop_cons_nth hlt] at hL hb ⊢
    simp only [List.length_cons,List.map_cons,List.sum_cons] at hb ⊢
    obtain ⟨k',y',e,h1,h2⟩:=hs i l k (iter R n) hlt (hL _ (by simp)) hk (by omega) hlen
    rw [e]
    obtain ⟨k'',l'',e',g1,g2⟩:=ih (i+1) (l.set i y') k' (by simp;omega) (by simp;omega) (by simpa using hlen) (by rw [drop_set_next];exact fun x hx=>hL x (by simp [hx])) (by omega) (by rw [drop_set_next];omega)
    rw [drop_set_next] at g2
    exact ⟨k'',l'',e',by omega,by omega⟩
   ·have:i=l.length:=by omega
    subst this
    rw [hn]
    exact ⟨k,l,rfl,Int.le_refl _,by omega⟩
 obtain ⟨k',l',e,h1,h2⟩:=key fuel 0 l k (Nat.zero_le _) (fuel_gt (by have:=hl.1;omega)) hl.1 (by simpa using hl.2) hk (by rw [List.drop_zero];unfold cS at hb;omega)
 rw [List.drop_zero] at h2
 exact ⟨k',l',e,h1,by unfold cS;omega⟩
theorem wrapK (z:Int) (h1:0≤z) (h2:z≤1000000000000):IntKind.wrap .i64 (z+1)=z+1:=wrapI _ (by omega) (by omega)
theorem get_setI {α:Type} {l:List α} {i:Nat} (h:i<l.length) (v:α):(List.set l (Int.toNat (i:Int)) v)[Int.toNat (i:Int)]? = some v:=by
 simp [h]
theorem markPartS_ok:MkOk F62 LPart cPart:=by
 refine mkS (R:=F62_R2 _) (fun i l k rec hi hL hk hb hlen=>?_) (fun l k rec=>?_)
 simp (disch:=omega) only [F62_R2,lt_cast,hi,decide_true,cond_true,gd_pos,List.length_set,List.set_set,get_nth hi,get_setI hi,Option.bind_some,wrapK,mtx_ok,wrap_up i _ hi (by omega)]
 exact ⟨_,_,rfl,by omega,by omega⟩
 simp only [F62_R2,lt_cast,Nat.lt_irrefl,decide_false,cond_false]
theorem markTermS_ok:MkOk F172 LTerm cTerm:=by
 refine mkS (R:=F172_R2 _) (fun i l k rec hi hL hk hb hlen=>?_) (fun l k rec=>?_)
 simp (disch:=omega) only [F172_R2,lt_cast,hi,decide_true,cond_true,gd_pos,List.length_set,List.set_set,get_nth hi,get_setI hi,Option.bind_some,wrapK,mtx_ok,wrap_up i _ hi (by omega)]
 exact ⟨_,_,rfl,by omega,by omega⟩
 simp only [F172_R2,lt_cast,Nat.lt_irrefl,decide_false,cond_false]
theorem markClauseS_ok:MkOk F116 LClause cClause:=by
 refine mkS (R:=F116_R2 _) (fun i l k rec hi hL hk hb hlen=>?_) (fun l k rec=>?_)
 have hc:cClause (nth l i)=cS cTerm (nth l i).1:=rfl
 simp (disch:=omega) only [F116_R2,lt_cast,hi,decide_true,cond_true,gd_pos,List.length_set,List.set_set,get_nth hi,get_setI hi,Option.bind_some,wrapK,mtx_ok,wrap_up i _ hi (by omega)]
 obtain ⟨k0,l0,e0,b0,d0⟩:=markTermS_ok (nth l i).1 k (hL) (by omega) (by rw [hc] at hb;omega)
 rw [e0]
 simp (disch:=omega) only [lt_cast,hi,decide_true,cond_true,gd_pos,List.length_set,List.set_set,get_nth hi,get_setI hi,Option.bind_some,wrapK,mtx_ok,wrap_up i _ hi (by omega)]
 exact ⟨_,_,rfl,by omega,by rw [hc];omega⟩
 simp only [F116_R2,lt_cast,Nat.lt_irrefl,decide_false,cond_false]
structure PC {α:Type} (c:α→α→Int) (A:α→Prop):Prop where
 an:∀ a b,A a→A b→c b a = - c a b
 tr:∀ a b e,A a→A b→A e→c a b<0→c b e<0→c a e<0
 cg:∀ a b e,A a→A b→A e→c a b=0→c a e=c b e
theorem PC.cg' {α:Type} {c:α→α→Int} {A:α→Prop} (h:PC c A) {a b e:α} (ha:A a) (hb:A b) (he:A e) (z:c a b=0):c e a=c e b:=by
 rw [h.an a e ha he,h.an b e hb he,h.cg a b e ha hb he z]
def thenC {α:Type} (c d:α→α→Int) (a b:α):Int:=if c a b=0 then d a b else c a b
theorem PC.lex {α:Type} {c d:α→α→Int} {A:α→Prop} (hc:PC c A) (hd:PC d A):PC (thenC c d) A:=by
 refine ⟨fun a b ha hb=>?_,fun a b e ha hb he h1 h2=>?_,fun a b e ha hb he h=>?_⟩
 ·unfold thenC
  have h:=hc.an a b ha hb
  by_cases z:c a b=0
  ·rw [if_pos z,if_pos (by omega)];exact hd.an a b ha hb
  ·rw [if_neg z,if_neg (by omega)];exact h
 ·unfold thenC at h1 h2 ⊢
  by_cases z1:c a b=0
  ·rw [if_pos z1] at h1
   rw [hc.cg a b e ha hb he z1]
   by_cases z2:c b e=0
   ·rw [if_pos z2] at h2 ⊢
    exact hd.tr a b e ha hb he h1 h2
   ·rw [if_neg z2] at h2 ⊢;exact h2
  ·rw [if_neg z1] at h1
   by_cases z2:c b e=0
   ·rw [←hc.cg' hb he ha z2,if_neg z1];exact h1
   ·rw [if_neg z2] at h2
    have:=hc.tr a b e ha hb he h1 h2
    rw [if_neg (by omega)];exact this
 ·unfold thenC at h ⊢
  by_cases z:c a b=0
  ·rw [if_pos z] at h
   rw [hc.cg a b e ha hb he z,hd.cg a b e ha hb he h]
  ·rw [if_neg z] at h;exact absurd h z
theorem PC.pull {α β:Type} {c:β→β→Int} {B:β→Prop} {A:α→Prop} (hc:PC c B) (f:α→β) (hf:∀ a,A a→B (f a)):PC (fun a b=>c (f a) (f b)) A:=
 ⟨fun a b ha hb=>hc.an _ _ (hf a ha) (hf b hb),fun a b e ha hb he=>hc.tr _ _ _ (hf a ha) (hf b hb) (hf e he),fun a b e ha hb he=>hc.cg _ _ _ (hf a ha) (hf b hb) (hf e he)⟩
theorem PC.neg {α:Type} {c:α→α→Int} {A:α→Prop} (hc:PC c A):PC (fun a b=>- c a b) A:=
 ⟨fun a b ha hb=>by rw [hc.an a b ha hb],fun a b e ha hb he h1 h2=>by
  have:=hc.tr e b a he hb ha (by rw [hc.an b e hb he];exact h2) (by rw [hc.an a b ha hb];exact h1)
  rw [hc.an a e ha he] at this;exact this,fun a b e ha hb he h=>by rw [hc.cg a b e ha hb he (by omega)]⟩
theorem sgn_pc:PC sgn fun _=>True:=by
 have e:∀ a b,sgn a b=if a<b then -1 else if b<a then 1 else 0:=fun a b=>by
  unfold sgn
  by_cases h1:a<b
  ·simp [h1]
  ·by_cases h2:b<a<;>simp [h1,h2]
 refine ⟨fun a b _ _=>?_,fun a b e' _ _ _ h1 h2=>?_,fun a b e' _ _ _ h=>?_⟩
 ·rw [e,e];repeat' split
  all_goals omega
 ·rw [e] at h1 h2 ⊢
  repeat' split at h1
  all_goals repeat' split at h2
  all_goals repeat' split
  all_goals omega
 ·rw [sgn_zero] at h;rw [h]
theorem cb_an:∀ a b,Lib.compareBytes b a = - Lib.compareBytes a b
 |[],[]=>rfl
 |[],_::_=>rfl
 |_::_,[]=>rfl
 |a::x,b::y=>by
  simp only [Lib.compareBytes]
  by_cases h1:a<b
  ·have:¬b<a:=fun h=>UInt8.lt_irrefl a (UInt8.lt_trans h1 h)
   simp [h1,this]
  ·by_cases h2:b<a
   ·simp [h1,h2]
   ·simp only [h1,h2,if_false];exact cb_an x y
theorem cb_pc:PC Lib.compareBytes fun _=>True:=by
 refine ⟨fun a b _ _=>cb_an a b,fun a b e _ _ _ h1 h2=>?_,fun a b e _ _ _ h=>?_⟩
 ·have:=less_trans a b e (by rw [bytesLess_cmp];simpa using h1) (by rw [bytesLess_cmp];simpa using h2)
  rw [bytesLess_cmp] at this;simpa using this
 ·rw [(compareBytes_zero a b).1 h]
theorem cmpL_pc {α:Type} {c:α→α→Int} {A:α→Prop} (hc:PC c A):PC (cmpL c) fun l=>∀ x,x∈l→A x:=by
 refine ⟨?_,?_,?_⟩
 ·intro a
  induction a with
  |nil=>intro b _ _;cases b<;>rfl
  |cons x a ih=>
   intro b ha hb
   cases b with
   |nil=>rfl
   |cons y b=>
    have h:=hc.an x y (ha x (by simp)) (hb y (by simp))
    simp only [cmpL]
    by_cases z:c x y=0
    ·rw [if_pos z,if_pos (by omega)];exact ih b (fun p hp=>ha p (by simp [hp])) fun p hp=>hb p (by simp [hp])
    ·rw [if_neg z,if_neg (by omega)];exact h
 ·intro a
  induction a with
  |nil=>
   intro b e _ _ _ h1 h2
   cases b with
   |nil=>exact absurd h1 (by simp [cmpL])
   |cons y b=>cases e with
    |nil=>simp [cmpL] at h2
    |cons w e=>simp [cmpL]
  |cons x a ih=>
   intro b e ha hb he h1 h2
   cases b with
   |nil=>simp [cmpL] at h1
   |cons y b=>cases e with
    |nil=>simp [cmpL] at h2
    |cons w e=>
     have ax:=ha x (by simp)
     have ay:=hb y (by simp)
     have aw:=he w (by simp)
     simp only [cmpL] at h1 h2 ⊢
     by_cases z1:c x y=0
     ·rw [if_pos z1] at h1
      rw [hc.cg x y w ax ay aw z1]
      by_cases z2:c y w=0
      ·rw [if_pos z2] at h2 ⊢
       exact ih b e (fun p hp=>ha p (by simp [hp])) (fun p hp=>hb p (by simp [hp])) (fun p hp=>he p (by simp [hp])) h1 h2
      ·rw [if_neg z2] at h2 ⊢;exact h2
     ·rw [if_neg z1] at h1
      by_cases z2:c y w=0
      ·rw [←hc.cg' ay aw ax z2,if_neg z1];exact h1
      ·rw [if_neg z2] at h2
       have:=hc.tr x y w ax ay aw h1 h2
       rw [if_neg (by omega)];exact this
 ·intro a
  induction a with
  |nil=>
   intro b e _ _ _ h
   cases b with
   |nil=>rfl
   |cons y b=>simp [cmpL] at h
  |cons x a ih=>
   intro b e ha hb he h
   cases b with
   |nil=>simp [cmpL] at h
   |cons y b=>
    simp only [cmpL] at h
    by_cases z:c x y=0
    ·rw [if_pos z] at h
     cases e with
     |nil=>rfl
     |cons w e=>
      simp only [cmpL]
      rw [hc.cg x y w (ha x (by simp)) (hb y (by simp)) (he w (by simp)) z,ih b e (fun p hp=>ha p (by simp [hp])) (fun p hp=>hb p (by simp [hp])) (fun p hp=>he p (by simp [hp])) h]
    ·rw [if_neg z] at h;exact absurd h z
theorem ordF_then (g:TVal→TVal→Int) (x y:TFld):ordF g x y=thenC (fun a b:TFld=>Lib.compareBytes a.1 b.1) (fun a b=>g a.2.1 b.2.1) x y:=by
 unfold ordF thenC
 by_cases z:Lib.compareBytes x.1 y.1=0
 ·have:(Lib.compareBytes x.1 y.1 != 0)=false:=by simpa using z
  rw [this,cond_false,if_pos z]
 ·have:(Lib.compareBytes x.1 y.1 != 0)=true:=by simpa using z
  rw [this,cond_true,if_neg z]
theorem ordF_pc {g:TVal→TVal→Int} {A:TVal→Prop} (h:PC g A):PC (ordF g) fun f=>A f.2.1:=by
 have:=(cb_pc.pull (A:=fun f:TFld=>A f.2.1) (fun f:TFld=>f.1) fun _ _=>trivial).lex (h.pull (fun f:TFld=>f.2.1) fun _ h=>h)
 have e:ordF g=thenC (fun a b:TFld=>Lib.compareBytes a.1 b.1) (fun a b=>g a.2.1 b.2.1):=by funext x y;exact ordF_then g x y
 rw [e];exact this
def ordK (g:TVal→TVal→Int) (a b:TVal):Int:=
 if a.1=4 then cmpL g (itemsL a) (itemsL b) else if a.1=5 then cmpL (ordF g) (fieldsL a) (fieldsL b) else Lib.compareBytes a.2.2.1 b.2.2.1
theorem PC.lex2 {α:Type} {c d:α→α→Int} {A:α→Prop} (hc:PC c A)
  (h1:∀ a b,A a→A b→c a b=0→d b a = - d a b) (h2:∀ a b e,A a→A b→A e→c a b=0→c b e=0→d a b<0→d b e<0→d a e<0)
  (h3:∀ a b e,A a→A b→A e→c a b=0→c b e=0→d a b=0→d a e=d b e):PC (thenC c d) A:=by
 refine ⟨fun a b ha hb=>?_,fun a b e ha hb he g1 g2=>?_,fun a b e ha hb he h=>?_⟩
 ·unfold thenC
  have h:=hc.an a b ha hb
  by_cases z:c a b=0
  ·rw [if_pos z,if_pos (by omega)];exact h1 a b ha hb z
  ·rw [if_neg z,if_neg (by omega)];exact h
 ·unfold thenC at g1 g2 ⊢
  by_cases z1:c a b=0
  ·rw [if_pos z1] at g1
   rw [hc.cg a b e ha hb he z1]
   by_cases z2:c b e=0
   ·rw [if_pos z2] at g2 ⊢
    exact h2 a b e ha hb he z1 z2 g1 g2
   ·rw [if_neg z2] at g2 ⊢;exact g2
  ·rw [if_neg z1] at g1
   by_cases z2:c b e=0
   ·rw [←hc.cg' hb he ha z2,if_neg z1];exact g1
   ·rw [if_neg z2] at g2
    have:=hc.tr a b e ha hb he g1 g2
    rw [if_neg (by omega)];exact this
 ·unfold thenC at h ⊢
  by_cases z:c a b=0
  ·rw [if_pos z] at h
   rw [hc.cg a b e ha hb he z]
   by_cases z2:c b e=0
   ·rw [if_pos z2,if_pos z2];exact h3 a b e ha hb he z z2 h
   ·rw [if_neg z2,if_neg z2]
  ·rw [if_neg z] at h;exact absurd h z
theorem ordB_pc {g:TVal→TVal→Int} {d:Nat} (hg:∀ e,d=e+1→PC g fun v=>okM e v=true):PC (ordB g) fun v=>okM d v=true:=by
 have e:ordB g=thenC (thenC (fun a b:TVal=>sgn a.1 b.1) (fun a b=>sgn a.2.1 b.2.1)) (ordK g):=by
  funext a b
  unfold ordB thenC ordK
  by_cases z:sgn a.1 b.1=0
  ·by_cases z2:sgn a.2.1 b.2.1=0<;>simp [z,z2]
  ·simp [z]
 rw [e]
 have hc:PC (thenC (fun a b:TVal=>sgn a.1 b.1) (fun a b=>sgn a.2.1 b.2.1)) fun v=>okM d v=true:=
  (sgn_pc.pull (fun v:TVal=>v.1) fun _ _=>trivial).lex (sgn_pc.pull (fun v:TVal=>v.2.1) fun _ _=>trivial)
 have hk:∀ a b:TVal,thenC (fun a b:TVal=>sgn a.1 b.1) (fun a b=>sgn a.2.1 b.2.1) a b=0→a.1=b.1:=by
  intro a b h
  unfold thenC at h
  by_cases z:sgn a.1 b.1=0
  ·exact (sgn_zero _ _).1 z
  ·rw [if_neg z] at h;exact absurd h z
 have it:∀ v:TVal,okM d v=true→v.1=4→∃ e,d=e+1∧∀ x,x∈itemsL v→okM e x=true:=by
  intro v h hk
  obtain ⟨e,l,hd,_,i2,_,_,i3⟩:=okM_items h hk
  exact ⟨e,hd,by rw [i2];exact i3⟩
 have fd:∀ v:TVal,okM d v=true→v.1=5→∃ e,d=e+1∧∀ x,x∈fieldsL v→okM e x.2.1=true:=by
  intro v h hk
  obtain ⟨e,l,hd,_,i2,_,_,i3⟩:=okM_fields h hk
  exact ⟨e,hd,by rw [i2];exact i3⟩
 refine hc.lex2 (fun a b ha hb z=>?_) (fun a b e ha hb he z1 z2 g1 g2=>?_) (fun a b e ha hb he z1 z2 g1=>?_)
 ·have q:=hk a b z
  unfold ordK
  by_cases c4:a.1=4
  ·obtain ⟨e,hd,i⟩:=it a ha c4
   obtain ⟨e',hd',j⟩:=it b hb (by omega)
   have:e'=e:=by omega
   subst this
   rw [if_pos c4,if_pos (by omega)]
   exact (cmpL_pc (hg _ hd)).an _ _ i j
  by_cases c5:a.1=5
  ·obtain ⟨e,hd,i⟩:=fd a ha c5
   obtain ⟨e',hd',j⟩:=fd b hb (by omega)
   have:e'=e:=by omega
   subst this
   rw [if_neg c4,if_neg (by omega),if_pos c5,if_pos (by omega)]
   exact (cmpL_pc (ordF_pc (hg _ hd))).an _ _ i j
  ·rw [if_neg c4,if_neg (by omega),if_neg c5,if_neg (by omega)]
   exact cb_an _ _
 ·have q:=hk a b z1
  have q2:=hk b e z2
  unfold ordK at g1 g2 ⊢
  by_cases c4:a.1=4
  ·obtain ⟨k,hd,i⟩:=it a ha c4
   obtain ⟨k',hd',j⟩:=it b hb (by omega)
   obtain ⟨k'',hd'',j'⟩:=it e he (by omega)
   have:k'=k:=by omega
   subst this
   have:k''=k' :=by omega
   subst this
   rw [if_pos (by omega)] at g1 g2 ⊢
   exact (cmpL_pc (hg _ hd)).tr _ _ _ i j j' g1 g2
  by_cases c5:a.1=5
  ·obtain ⟨k,hd,i⟩:=fd a ha c5
   obtain ⟨k',hd',j⟩:=fd b hb (by omega)
   obtain ⟨k'',hd'',j'⟩:=fd e he (by omega)
   have:k'=k:=by omega
   subst this
   have:k''=k' :=by omega
   subst this
   rw [if_neg (by omega),if_pos (by omega)] at g1 g2 ⊢
   exact (cmpL_pc (ordF_pc (hg _ hd))).tr _ _ _ i j j' g1 g2
  ·rw [if_neg (by omega),if_neg (by omega)] at g1 g2 ⊢
   exact cb_pc.tr _ _ _ trivial trivial trivial g1 g2
 ·have q:=hk a b z1
  have q2:=hk b e z2
  unfold ordK at g1 ⊢
  by_cases c4:a.1=4
  ·obtain ⟨k,hd,i⟩:=it a ha c4
   obtain ⟨k',hd',j⟩:=it b hb (by omega)
   obtain ⟨k'',hd'',j'⟩:=it e he (by omega)
   have:k'=k:=by omega
   subst this
   have:k''=k' :=by omega
   subst this
   rw [if_pos c4] at g1
   rw [if_pos c4,if_pos (by omega)]
   exact (cmpL_pc (hg _ hd)).cg _ _ _ i j j' g1
  by_cases c5:a.1=5
  ·obtain ⟨k,hd,i⟩:=fd a ha c5
   obtain ⟨k',hd',j⟩:=fd b hb (by omega)
   obtain ⟨k'',hd'',j'⟩:=fd e he (by omega)
   have:k'=k:=by omega
   subst this
   have:k''=k' :=by omega
   subst this
   rw [if_neg c4,if_pos c5] at g1
   rw [if_neg c4,if_pos c5,if_neg (by omega),if_pos (by omega)]
   exact (cmpL_pc (ordF_pc (hg _ hd))).cg _ _ _ i j j' g1
  ·rw [if_neg c4,if_neg c5] at g1
   rw [if_neg c4,if_neg c5,if_neg (by omega),if_neg (by omega)]
   exact cb_pc.cg _ _ _ trivial trivial trivial g1
theorem ordM_pc:∀ d,PC (ordM d) fun v=>okM d v=true
 |0=>ordB_pc fun e h=>by omega
 |d+1=>ordB_pc fun e h=>by
  have:e=d:=by omega
  subst this
  exact ordM_pc _
theorem sgn_in (a b:Int) : -1≤sgn a b∧sgn a b≤1:=by
 unfold sgn
 by_cases h1:a<b
 ·simp [h1]
 ·by_cases h2:a>b<;>simp [h1,h2]
theorem cb_in:∀ a b,-1≤Lib.compareBytes a b∧Lib.compareBytes a b≤1
 |[],[]=>by simp [Lib.compareBytes]
 |[],_::_=>by simp [Lib.compareBytes]
 |_::_,[]=>by simp [Lib.compareBytes]
 |a::x,b::y=>by
  simp only [Lib.compareBytes]
  split
  ·omega
  ·split
   ·omega
   ·exact cb_in x y
theorem cmpL_in {α:Type} {c:α→α→Int} (h:∀ a b,-1≤c a b∧c a b≤1):∀ x y,-1≤cmpL c x y∧cmpL c x y≤1
 |[],[]=>by simp [cmpL]
 |[],_::_=>by simp [cmpL]
 |_::_,[]=>by simp [cmpL]
 |a::x,b::y=>by
  simp only [cmpL]
  split
  ·exact cmpL_in h x y
  ·exact h a b
theorem ordB_in {g:TVal→TVal→Int} (h:∀ a b,-1≤g a b∧g a b≤1) (a b:TVal) : -1≤ordB g a b∧ordB g a b≤1:=by
 unfold ordB
 repeat' split
 ·exact sgn_in _ _
 ·exact sgn_in _ _
 ·exact cmpL_in h _ _
 ·refine cmpL_in (fun x y=>?_) _ _
  rw [ordF_then];unfold thenC
  split
  ·exact h _ _
  ·exact cb_in _ _
 ·exact cb_in _ _
theorem ordM_in:∀ d a b,-1≤ordM d a b∧ordM d a b≤1
 |0=>ordB_in fun _ _=>by omega
 |d+1=>ordB_in (ordM_in d)
theorem PC.irr {α:Type} {c:α→α→Int} {A:α→Prop} (h:PC c A) {a:α} (ha:A a):decide (c a a<0)=false:=by
 have:=h.an a a ha ha
 exact decide_eq_false (by omega)
theorem PC.less_tr {α:Type} {c:α→α→Int} {A:α→Prop} (h:PC c A) {a b e:α} (ha:A a) (hb:A b) (he:A e) (h1:decide (c a b<0)=true) (h2:decide (c b e<0)=true):decide (c a e<0)=true:=
 decide_eq_true (h.tr a b e ha hb he (of_decide_eq_true h1) (of_decide_eq_true h2))
theorem PC.less_ntr {α:Type} {c:α→α→Int} {A:α→Prop} (h:PC c A) {a b e:α} (ha:A a) (hb:A b) (he:A e) (h1:decide (c a b<0)=false) (h2:decide (c b e<0)=false):decide (c a e<0)=false:=by
 refine decide_eq_false fun h3=>?_
 have g1:=of_decide_eq_false h1
 have g2:=of_decide_eq_false h2
 have k1:=h.an a b ha hb
 have k2:=h.an b e hb he
 have k3:=h.an a e ha he
 by_cases z1:c a b=0
 ·rw [h.cg a b e ha hb he z1] at h3;exact g2 h3
 ·by_cases z2:c b e=0
  ·rw [←h.cg' hb he ha z2] at h3;exact g1 h3
  ·have:=h.tr e b a he hb ha (by omega) (by omega)
   omega
theorem PC.less_as {α:Type} {c:α→α→Int} {A:α→Prop} (h:PC c A) {a b:α} (ha:A a) (hb:A b) (h1:decide (c a b<0)=true):decide (c b a<0)=false:=by
 have:=h.an a b ha hb
 have:=of_decide_eq_true h1
 exact decide_eq_false (by omega)
end Go.V
namespace Go.V
open Go.Sort Go.Proofs
set_option linter.unusedVariables false
theorem ext_full {β:Type} (a:Array β) {n:Nat} (h:a.size=n):a.extract 0 n=a:=by subst h;exact Array.extract_size
theorem sortF_eq {α:Type} {G:α→α→Option Int} {l l':List α} (lt:α→α→Bool) (hl:l.length≤lim) (hG:∀ x,x∈l→∀ y,y∈l→∃ z,G x y=some z∧decide (z<0)=lt x y)
  (irr:∀ x,x∈l→lt x x=false) (tr:∀ x,x∈l→∀ y,y∈l→∀ z,z∈l→lt x y=true→lt y z=true→lt x z=true)
  (ntr:∀ x,x∈l→∀ y,y∈l→∀ z,z∈l→lt x y=false→lt y z=false→lt x z=false)
  (anti:∀ x,x∈l→∀ y,y∈l→lt x y=false→lt y x=false→x=y)
  (hp:l'.Perm l) (hs:l'.Pairwise fun a b=>lt b a=false):sortF G l=some l' :=by
 have hm:∀ i:Fin l.length,l[i]∈l:=fun i=>List.getElem_mem _
 have hc:∀ i j:Fin l.length,G l[i] l[j]=some (cmpAt G l i j)∧ltOf (cmpAt G l) i j=lt l[i] l[j]:=fun i j=>by
  obtain ⟨z,h1,h2⟩:=hG _ (hm i) _ (hm j)
  have:cmpAt G l i j=z:=by unfold cmpAt;rw [h1];rfl
  exact ⟨by rw [this];exact h1,by unfold ltOf;rw [this];exact h2⟩
 have hswo:SWO (ltOf (cmpAt G l)):=⟨fun i=>by rw [(hc i i).2];exact irr _ (hm i),
  fun i j k h1 h2=>by rw [(hc i k).2];rw [(hc i j).2] at h1;rw [(hc j k).2] at h2;exact tr _ (hm i) _ (hm j) _ (hm k) h1 h2,
  fun i j k h1 h2=>by rw [(hc i k).2];rw [(hc i j).2] at h1;rw [(hc j k).2] at h2;exact ntr _ (hm i) _ (hm j) _ (hm k) h1 h2⟩
 unfold sortF
 rw [dif_pos ⟨hl,fun i j=>(hc i j).1,hswo⟩]
 by_cases h0:0<l.length
 ·rw [dif_pos h0]
  letI:Inhabited (Fin l.length):=⟨⟨0,h0⟩⟩
  have P:=pdq_sorts (ltOf (cmpAt G l)) hswo (Array.ofFn id:Array (Fin l.length)) 0 l.length (Lib.bitLen l.length) true true (Nat.zero_le _) (by simp) (Or.inl rfl)
  generalize hd:pdq (ltOf (cmpAt G l)) (Array.ofFn id:Array (Fin l.length)) 0 l.length (Lib.bitLen l.length) true true=d at P
  obtain ⟨⟨hsz,_,hperm⟩,hsort⟩:=P
  have hds:d.size=l.length:=by simpa using hsz
  have e1:d.extract 0 l.length=d:=ext_full d hds
  have e2:(Array.ofFn (id:Fin l.length→Fin l.length)).extract 0 l.length=Array.ofFn id:=ext_full _ (by simp)
  rw [e1,e2] at hperm
  have e3:(Array.ofFn (id:Fin l.length→Fin l.length)).toList.map (fun i=>l[i])=l:=by
   apply List.ext_getElem
   ·simp
   ·intro i h1 h2
    simp
  have hp2:(d.toList.map fun i=>l[i]).Perm l:=by
   have:=hperm.map (fun i:Fin l.length=>l[i])
   rwa [e3] at this
  have hs2:(d.toList.map fun i=>l[i]).Pairwise fun a b=>lt b a=false:=by
   rw [List.pairwise_map,List.pairwise_iff_getElem]
   intro i j hi hj hij
   rw [←(hc _ _).2]
   have:=hsort i j (Nat.zero_le _) hij (by simpa [hds] using hj)
   rw [getElem!_pos d j (by simpa using hj),getElem!_pos d i (by simpa using hi)] at this
   simpa using this
  refine congrArg some ?_
  have fin:(d.toList.map fun i=>l[i])=l' :=by
   refine List.Perm.eq_of_pairwise (le:=fun x y=>lt y x=false) ?_ hs2 hs (hp2.trans hp.symm)
   intro a b ha hb h1 h2
   exact anti a (hp2.mem_iff.1 ha) b (hp.mem_iff.1 hb) h2 h1
  exact fin
 ·have:l=[]:=List.eq_nil_of_length_eq_zero (by omega)
  subst this
  rw [dif_neg h0]
  rw [List.perm_nil.1 hp]
theorem ins_sorted {α:Type} (lt:α→α→Bool) {x:α} {l:List α} {p:Nat} (hs:l.Pairwise fun a b=>lt b a=false)
  (h1:∀ a,a∈l.take p→lt x a=false) (h2:∀ b,b∈l.drop p→lt b x=false):((l.take p++[x])++l.drop p).Pairwise fun a b=>lt b a=false:=by
 have hsp:(l.take p++l.drop p).Pairwise fun a b=>lt b a=false:=by rw [List.take_append_drop];exact hs
 obtain ⟨g1,g2,g3⟩:=List.pairwise_append.1 hsp
 refine List.pairwise_append.2 ⟨List.pairwise_append.2 ⟨g1,List.pairwise_singleton _ _,fun a ha b hb=>?_⟩,g2,fun a ha b hb=>?_⟩
 ·rw [List.mem_singleton.1 hb];exact h1 a ha
 ·rcases List.mem_append.1 ha with ha | ha
  ·exact g3 a ha b hb
  ·rw [List.mem_singleton.1 ha];exact h2 b hb
theorem ins_perm {α:Type} (x:α) (l:List α) (p:Nat):((l.take p++[x])++l.drop p).Perm (x::l):=by
 have h:=(List.perm_append_comm (l₁:=l.take p) (l₂:=[x])).append_right (l.drop p)
 rw [List.append_assoc [x],List.take_append_drop] at h
 exact h
def goesTo {α:Type} [Inhabited α] (lt:α→α→Bool) (x:α) (l:List α):Nat→Nat
 |0=>0
 |k+1=>cond (lt x (l[k]?.getD default)) (goesTo lt x l k) (k+1)
def insM {α:Type} [Inhabited α] (lt:α→α→Bool) (out:List α) (x:α):List α:=(out.take (goesTo lt x out out.length)++[x])++out.drop (goesTo lt x out out.length)
theorem goesTo_le {α:Type} [Inhabited α] (lt:α→α→Bool) (x:α) (l:List α):∀ k,goesTo lt x l k≤k
 |0=>Nat.le_refl _
 |k+1=>by
  unfold goesTo
  cases lt x (l[k]?.getD default)
  ·exact Nat.le_refl _
  ·exact Nat.le_succ_of_le (goesTo_le lt x l k)
theorem goesTo_up {α:Type} [Inhabited α] (lt:α→α→Bool) (x:α) (l:List α):∀ k i,goesTo lt x l k≤i→i<k→lt x (l[i]?.getD default)=true
 |0,i,_,h=>absurd h (Nat.not_lt_zero i)
 |k+1,i,h1,h2=>by
  unfold goesTo at h1
  cases e:lt x (l[k]?.getD default) with
  |false=>rw [e] at h1;have h1:k+1≤i:=h1;omega
  |true=>
   rw [e] at h1
   by_cases hk:i=k
   ·rw [hk];exact e
   ·exact goesTo_up lt x l k i h1 (by omega)
theorem goesTo_dn {α:Type} [Inhabited α] (lt:α→α→Bool) (x:α) (l:List α):∀ k,0<goesTo lt x l k→lt x (l[goesTo lt x l k-1]?.getD default)=false
 |0,h=>absurd h (Nat.lt_irrefl 0)
 |k+1,h=>by
  unfold goesTo at h ⊢
  cases e:lt x (l[k]?.getD default) with
  |false=>exact e
  |true=>rw [e] at h;exact goesTo_dn lt x l k h
theorem insM_ok {α:Type} [Inhabited α] (lt:α→α→Bool) {x:α} {l:List α} (A:α→Prop) (hA:∀ a,a∈l→A a) (hx:A x)
  (asym:∀ a b,A a→A b→lt a b=true→lt b a=false) (ntr:∀ a b c,A a→A b→A c→lt a b=false→lt b c=false→lt a c=false)
  (hs:l.Pairwise fun a b=>lt b a=false):(insM lt l x).Perm (x::l)∧(insM lt l x).Pairwise fun a b=>lt b a=false:=by
 refine ⟨ins_perm x l _,ins_sorted lt hs (fun a ha=>?_) fun b hb=>?_⟩
 ·obtain ⟨i,hi,rfl⟩:=List.getElem_of_mem ha
  rw [List.length_take] at hi
  have hle:=goesTo_le lt x l l.length
  have hi1:i<goesTo lt x l l.length:=by omega
  have hil:i<l.length:=by omega
  rw [List.getElem_take]
  have hd:=goesTo_dn lt x l l.length (by omega)
  have hp1:goesTo lt x l l.length-1<l.length:=by omega
  rw [List.getElem?_eq_getElem hp1,Option.getD_some] at hd
  by_cases e:i=goesTo lt x l l.length-1
  ·simpa [e] using hd
  ·exact ntr _ _ _ hx (hA _ (List.getElem_mem hp1)) (hA _ (List.getElem_mem hil)) hd (List.pairwise_iff_getElem.1 hs i _ hil hp1 (by omega))
 ·obtain ⟨i,hi,rfl⟩:=List.getElem_of_mem hb
  rw [List.length_drop] at hi
  rw [List.getElem_drop]
  have hil:goesTo lt x l l.length+i<l.length:=by omega
  have:=goesTo_up lt x l l.length (goesTo lt x l l.length+i) (by omega) hil
  rw [List.getElem?_eq_getElem hil,Option.getD_some] at this
  exact asym _ _ hx (hA _ (List.getElem_mem hil)) this
theorem insAll_ok {α:Type} [Inhabited α] (lt:α→α→Bool) (A:α→Prop)
  (asym:∀ a b,A a→A b→lt a b=true→lt b a=false) (ntr:∀ a b c,A a→A b→A c→lt a b=false→lt b c=false→lt a c=false):∀ (l out:List α),(∀ a,a∈l→A a)→(∀ a,a∈out→A a)→
  out.Pairwise (fun a b=>lt b a=false)→(l.foldl (insM lt) out).Perm (l++out)∧(l.foldl (insM lt) out).Pairwise fun a b=>lt b a=false
 |[],out,_,_,hs=>⟨List.Perm.refl _,hs⟩
 |x::l,out,hl,ho,hs=>by
  obtain ⟨h1,h2⟩:=insM_ok lt A ho (hl x (by simp)) asym ntr hs
  obtain ⟨g1,g2⟩:=insAll_ok lt A asym ntr l (insM lt out x) (fun a ha=>hl a (by simp [ha])) (fun a ha=>(List.mem_cons.1 (h1.mem_iff.1 ha)).elim (fun e=>e▸hl x (by simp)) (ho a)) h2
  refine ⟨g1.trans ?_,g2⟩
  exact ((List.Perm.append_left l h1).trans List.perm_middle)
end Go.V
namespace Go.V
set_option linter.unusedVariables false
set_option linter.unusedSimpArgs false
set_option maxRecDepth 100000
theorem insM_len {α:Type} [Inhabited α] (lt:α→α→Bool) (out:List α) (x:α):(insM lt out x).length=out.length+1:=by
 have:=(ins_perm x out (goesTo lt x out out.length)).length_eq
 simpa [insM] using this
theorem l07Sort_eq (docs:List TVal) (sort:List TPart) (lt:TVal→TVal→Bool) (hd:docs.length≤1048576)
  (h:∀ x,x∈docs→∀ y,y∈docs→F174 x y sort=some (lt x y,())):F119 docs sort=some (docs.foldl (insM lt) [],()):=by
 unfold F119
 refine Eq.trans (iter_go (S:=List TVal) (fun i out=>(docs,sort,(i:Int),out,())) (fun i out=>some ((docs.drop i).foldl (insM lt) out,())) docs.length (fun i out=>out.length=i∧∀ y,y∈out→y∈docs) ?_ ?_ fuel 0 [] (Nat.zero_le _) (fuel_gt (by omega)) ⟨rfl,fun _ h=>by cases h⟩) rfl
 ·intro i out hi hI rec hrec
  obtain ⟨hlen,hmem⟩:=hI
  simp only [F119_R3,lt_cast,hi,decide_true,cond_true]
  have key:∀ (e2:List TVal×List TPart×Int×Int×List TVal×Unit→Option (List TVal×Unit)) (n k:Nat),k≤out.length→k<n→iter (F119_R6 e2) n (docs,sort,(i:Int),(k:Int),out,())=e2 (docs,sort,(i:Int),((goesTo lt (nth docs i) out k:Nat):Int),out,()):=by
   intro e2 n
   induction n with
   |zero=>intro k _ h;omega
   |succ n ih=>
    intro k hk hn
    simp only [iter]
    cases k with
    |zero=>simp only [F119_R6,gt_zero,Nat.lt_irrefl,decide_false,cond_false,goesTo]
    |succ k=>
     have hk':k<out.length:=by omega
     have e1:IntKind.wrap IntKind.i64 (((k+1:Nat):Int)-1)=(k:Int):=by rw [wrapI _ (by omega) (by omega)];omega
     have hn':nth out k∈out:=nth_mem hk'
     simp only [F119_R6,gt_zero,Nat.succ_pos,decide_true,cond_true,gd_pos,get_nth hi,Option.bind_some,e1,lt_cast,hk',gd_if,get_nth hk',h _ (nth_mem hi) _ (hmem _ hn')]
     simp only [goesTo]
     rw [show (out[k]?.getD default)=nth out k from rfl]
     cases lt (nth docs i) (nth out k) with
     |true=>exact ih k (by omega) (by omega)
     |false=>rfl
  refine (key _ fuel out.length (Nat.le_refl _) (fuel_gt (by omega))).trans ?_
  have hle:=goesTo_le lt (nth docs i) out out.length
  have hgo:goesTo lt (nth docs i) out out.length≤out.length:=hle
  simp only [le_cast,gd_pos,gd_le,Int.toNat_natCast,get_nth' hi,Option.bind_some,hgo,Nat.le_refl,decide_true,gd_true,List.take_length,List.nil_append,Int.toNat_zero,List.drop_zero,wrap_up i _ hi (by omega)]
  rw [gd_if (by simp only [lim,List.length_drop,List.length_take,List.length_nil];omega),gd_if (by simp only [lim,List.length_drop,List.length_take,List.length_cons,List.length_nil];omega),gd_if (by simp only [lim,List.length_append,List.length_drop,List.length_take,List.length_cons,List.length_nil];omega)]
  rw [drop_cons_nth hi,List.foldl_cons]
  exact hrec (insM lt out (nth docs i)) ⟨by rw [insM_len,hlen],fun y hy=>by
   have:=(ins_perm (nth docs i) out (goesTo lt (nth docs i) out out.length)).mem_iff.1 hy
   rcases List.mem_cons.1 this with h | h
   ·rw [h];exact nth_mem hi
   ·exact hmem y h⟩
 ·intro out hI rec
  simp only [F119_R3,lt_cast,Nat.lt_irrefl,decide_false,cond_false,List.drop_length,List.foldl_nil]
abbrev TQuery:Type:=TFilter×(List TPart×(Int×(Int×(List (List UInt8)×(List UInt8×Unit)))))
def LQuery (n:Nat) (q:TQuery):Prop:=LFilter n q.1∧LS LPart n q.2.1∧LS LStr n q.2.2.2.2.1∧q.2.2.2.2.2.1.length≤n
def cStr (_:List UInt8):Nat:=0
def cQuery (q:TQuery):Nat:=cFilter q.1+cS cPart q.2.1+cS cStr q.2.2.2.2.1
theorem szString_ok:SzOk (fun (y:List UInt8) a=>some (IntKind.wrap IntKind.i64 (a-((y.length:Nat):Int)),())) LStr cStr:=by
 intro x a hx h0 h1
 have g0:x.length≤9223372036854775807:=hx
 refine ⟨a-((x.length:Nat):Int),?_,by omega,fun h=>⟨(show _≤_ by omega),by simp only [cStr];omega⟩⟩
 dsimp only
 rw [wrapI _ (by omega) (by omega)]
theorem szStringS_ok:SzOk F30 (LS LStr) (cS cStr):=szS szString_ok
theorem toStringS_ok:ToOk F41 (LS LStr):=toS (G:=fun y=>some (y,())) _ fun x _=>rfl
theorem eqStringS_ok:EqOk F59 (LS LStr):=eqS (G:=fun x y=>some (x==y,())) fun x _=>by simp only [beq_self_eq_true]
theorem szValueS_ok:SzOk F7 (LS LVal) (cS cValue):=szS szValue_ok
theorem toValueS_ok:ToOk F12 (LS LVal):=toS _ toValue_ok
theorem eqValueS_ok:EqOk F15 (LS LVal):=eqS eqValue_ok
theorem szQuery_ok:SzOk F6 LQuery cQuery:=by
 intro x a hx h0 h1
 have g0:=hx.1
 have g1:=hx.2.1
 have g2:=hx.2.2.1
 have g3:=hx.2.2.2
 unfold F6
 obtain ⟨r0,e0,l0,s0⟩:=szFilter_ok x.1 a g0 (by omega) (by omega)
 rw [e0];simp only [Option.bind_some]
 by_cases c0:r0<0
 ·exact ⟨-1,by simp [c0],by omega,fun h=>absurd h (by decide)⟩
 simp only [c0,decide_false,cond_false]
 obtain ⟨r1,e1,l1,s1⟩:=szPartS_ok x.2.1 r0 g1 (by omega) (by omega)
 rw [e1];simp only [Option.bind_some]
 by_cases c1:r1<0
 ·exact ⟨-1,by simp [c1],by omega,fun h=>absurd h (by decide)⟩
 simp only [c1,decide_false,cond_false]
 obtain ⟨r2,e2,l2,s2⟩:=szStringS_ok x.2.2.2.2.1 r1 g2 (by omega) (by omega)
 rw [e2];simp only [Option.bind_some]
 by_cases c2:r2<0
 ·exact ⟨-1,by simp [c2],by omega,fun h=>absurd h (by decide)⟩
 simp only [c2,decide_false,cond_false]
 rw [show IntKind.wrap IntKind.i64 (r2-((x.2.2.2.2.2.1.length:Nat):Int))=(r2-((x.2.2.2.2.2.1.length:Nat):Int)) from wrapI _ (by omega) (by omega)]
 by_cases c3:(r2-((x.2.2.2.2.2.1.length:Nat):Int))<0
 ·exact ⟨-1,by simp [c3],by omega,fun h=>absurd h (by decide)⟩
 simp only [c3,decide_false,cond_false]
 exact ⟨_,rfl,by omega,fun _=>⟨⟨(s0 (by omega)).1,(s1 (by omega)).1,(s2 (by omega)).1,(show _≤_ by omega)⟩,by have q0:=(s0 (by omega)).2;have q1:=(s1 (by omega)).2;have q2:=(s2 (by omega)).2;simp only [cQuery];omega⟩⟩
theorem toQuery_ok:ToOk F11 LQuery:=by
 intro x hx
 have g0:=toFilter_ok x.1 hx.1
 have g1:=toPartS_ok x.2.1 hx.2.1
 have g2:=toStringS_ok x.2.2.2.2.1 hx.2.2.1
 unfold F11
 rw [g0,Option.bind_some,g1,Option.bind_some,g2]
 rfl
theorem eqQuery_ok:EqOk F16 LQuery:=by
 intro x hx
 have g0:=eqFilter_ok x.1 hx.1
 have g1:=eqPartS_ok x.2.1 hx.2.1
 have g2:=eqStringS_ok x.2.2.2.2.1 hx.2.2.1
 unfold F16
 simp only [g0,g1,g2,bne_self_eq_false,beq_self_eq_true,Option.bind_some,Bool.not_true,cond_false]
theorem markStringS_ok:MkOk F63 LStr cStr:=by
 refine mkS (R:=F63_R2 _) (fun i l k rec hi hL hk hb hlen=>?_) (fun l k rec=>?_)
 ·simp (disch:=omega) only [F63_R2,lt_cast,hi,decide_true,cond_true,gd_pos,List.length_set,List.set_set,get_nth hi,get_setI hi,Option.bind_some,wrapK,mtx_ok,wrap_up i _ hi (by omega)]
  exact ⟨_,_,rfl,by omega,by omega⟩
 ·simp only [F63_R2,lt_cast,Nat.lt_irrefl,decide_false,cond_false]
theorem markValueS_ok:MkOk F19 LVal cValue:=by
 refine mkS (R:=F19_R2 _) (fun i l k rec hi hL hk hb hlen=>?_) (fun l k rec=>?_)
 ·simp (disch:=omega) only [F19_R2,lt_cast,hi,decide_true,cond_true,gd_pos,List.length_set,List.set_set,get_nth hi,get_setI hi,Option.bind_some,wrapK,mtx_ok,wrap_up i _ hi (by omega)]
  exact ⟨_,_,rfl,by omega,by omega⟩
 ·simp only [F19_R2,lt_cast,Nat.lt_irrefl,decide_false,cond_false]
theorem markQuery_ok (q:TQuery) (hq:LQuery 1048576 q) (hc:cQuery q≤1048576):∃ k,F18 q 1=some (k,())∧0≤k∧k≤100000000:=by
 unfold F18 F61
 unfold cQuery at hc
 have hf:cFilter q.1=cS cClause q.1.1:=rfl
 obtain ⟨k1,l1,e1,a1,b1⟩:=markClauseS_ok q.1.1 1 hq.1 (by omega) (by rw [hf] at hc;omega)
 rw [e1,Option.bind_some,Option.bind_some]
 obtain ⟨k2,l2,e2,a2,b2⟩:=markPartS_ok q.2.1 k1 hq.2.1 (by omega) (by omega)
 dsimp only
 rw [e2,Option.bind_some]
 obtain ⟨k3,l3,e3,a3,b3⟩:=markStringS_ok q.2.2.2.2.1 k2 hq.2.2.1 (by omega) (by omega)
 dsimp only
 rw [e3,Option.bind_some]
 exact ⟨_,rfl,by omega,by omega⟩
def partsM (l:List TPart):Bool:=l.all fun p=>pathM p.1
def queryM (q:TQuery):Bool:=
 filterM q.1&&(decide (((q.2.1.length:Nat):Int)≤2)&&(partsM q.2.1&&(inR q.2.2.1 0 100&&(inR q.2.2.2.1 0 100&&(decide (((q.2.2.2.2.1.length:Nat):Int)≤4)&&(q.2.2.2.2.1.all shortM&&((q.2.2.2.2.2.1==[])||shortM q.2.2.2.2.2.1)))))))
theorem not_any {α:Type} (p:α→Bool) (l:List α):(!(l.any fun x=>!p x))=l.all p:=by
 induction l with
 |nil=>rfl
 |cons a l ih=>simp only [List.any_cons,List.all_cons,←ih];cases p a<;>simp
theorem sortOK_eq (l:List TPart) (h:LS LPart 1048576 l):F94 l=some (decide (((l.length:Nat):Int)≤2)&&partsM l,()):=by
 unfold F94
 cases hc:decide (((l.length:Nat):Int)≤2) with
 |false=>rfl
 |true=>
  rw [cond_true,any_part (fun p=>!pathM p.1) l _ (fun x hx=>by
   unfold F147 F148
   rw [implPathOK_eq _ (h.2 x hx)];rfl) (by have:=h.1;omega),Option.bind_some]
  simp only [not_any (fun p:TPart=>pathM p.1) l,Bool.true_and]
  rfl
theorem areShort_eq (l:List (List UInt8)) (h:LS LStr 1048576 l):F96 l=some (l.all shortM,()):=by
 unfold F96
 rw [any_string (fun p=>!shortM p) l _ (fun x hx=>by
  unfold F150
  rw [isShort_eq _ (h.2 x hx)];rfl) (by have:=h.1;omega),Option.bind_some]
 simp only [not_any shortM l]
theorem implQueryOK_eq (q:TQuery) (hq:LQuery 1048576 q):F45 q=some (queryM q,()):=by
 unfold F45 queryM
 rw [implFilterOK_eq _ hq.1,sortOK_eq _ hq.2.1,areShort_eq _ hq.2.2.1,isShort_eq _ hq.2.2.2]
 simp only [Option.bind_some,inRange_eq]
 cases filterM q.1
 ·rfl
 cases decide (((q.2.1.length:Nat):Int)≤2)
 ·rfl
 cases partsM q.2.1
 ·rfl
 cases inR q.2.2.1 0 100
 ·rfl
 cases inR q.2.2.2.1 0 100
 ·rfl
 cases decide (((q.2.2.2.2.1.length:Nat):Int)≤4)
 ·rfl
 cases q.2.2.2.2.1.all shortM
 ·rfl
 cases q.2.2.2.2.2.1==[]<;>rfl
theorem specQueryOK_eq (q:TQuery) (hq:LQuery 1048576 q):F33 q=some (queryM q,()):=by
 unfold F33 queryM
 rw [specFilterOK_eq _ hq.1]
 simp only [Option.bind_some,l01In_eq,l01Name_eq]
 have gt (n:Nat) (z:Int):decide (((n:Nat):Int)>z) = !decide (((n:Nat):Int)≤z):=by
  by_cases h:((n:Nat):Int)≤z
  ·have:¬((n:Nat):Int)>z:=by omega
   simp [h,this]
  ·have:((n:Nat):Int)>z:=by omega
   simp [h,this]
 have key:decide (((q.2.1.length:Nat):Int)≤2)=true→decide (((q.2.2.2.2.1.length:Nat):Int)≤4)=true→
   (iter (F33_R4 (fun y14=>(iter (F33_R9 (fun y23=>(some (true,()))) (fun y24=>(some (y24.1,())))) fuel ((0:Int),y14.1,()))) (fun y15=>(some (y15.1,())))) fuel ((0:Int),q,()))=some (partsM q.2.1&&q.2.2.2.2.1.all shortM,()):=by
  intro h1 h2
  have h1' :=of_decide_eq_true h1
  have h2' :=of_decide_eq_true h2
  refine (iter_all (fun i=>((i:Int),q,())) (fun i=>pathM (nth q.2.1 i).1) (some (q.2.2.2.2.1.all shortM,())) (some (false,())) q.2.1.length 0 fuel ?_ ?_ (fuel_gt (by omega))).trans ?_
  ·intro i _ hi rec
   have hi':i<q.2.1.length:=by omega
   have hp:=hq.2.1.2 _ (nth_mem hi')
   simp only [F33_R4,lt_cast,hi',decide_true,cond_true,gd_pos,get_nth hi',Option.bind_some,specPathOK_eq _ hp,wrap_up i _ hi' (by omega)]
   cases pathM (nth q.2.1 i).1<;>rfl
  ·intro rec
   have:¬(0+q.2.1.length<q.2.1.length):=by omega
   simp only [F33_R4,lt_cast,this,decide_false,cond_false]
   refine (iter_all (fun i=>((i:Int),q,())) (fun i=>shortM (nth q.2.2.2.2.1 i)) (some (true,())) (some (false,())) q.2.2.2.2.1.length 0 fuel ?_ ?_ (fuel_gt (by omega))).trans ?_
   ·intro i _ hi rec
    have hi':i<q.2.2.2.2.1.length:=by omega
    simp only [F33_R9,lt_cast,hi',decide_true,cond_true,gd_pos,get_nth hi',Option.bind_some,l01Name_eq,wrap_up i _ hi' (by omega)]
    cases shortM (nth q.2.2.2.2.1 i)<;>rfl
   ·intro rec
    have:¬(0+q.2.2.2.2.1.length<q.2.2.2.2.1.length):=by omega
    simp only [F33_R9,lt_cast,this,decide_false,cond_false]
   ·rw [allF_list]
    cases q.2.2.2.2.1.all shortM<;>rfl
  ·rw [allF_list (fun p:TPart=>pathM p.1)]
   unfold partsM
   cases q.2.1.all fun p=>pathM p.1<;>rfl
 rw [gt,gt]
 cases filterM q.1
 ·rfl
 cases h1:decide (((q.2.1.length:Nat):Int)≤2)
 ·rfl
 cases inR q.2.2.1 0 100
 ·cases partsM q.2.1<;>rfl
 cases inR q.2.2.2.1 0 100
 ·cases partsM q.2.1<;>rfl
 cases h2:decide (((q.2.2.2.2.1.length:Nat):Int)≤4)
 ·cases partsM q.2.1<;>rfl
 have k:=key h1 h2
 simp only [Bool.not_true,Bool.not_false,cond_false,Bool.true_and]
 cases q.2.2.2.2.2.1==[]
 ·cases shortM q.2.2.2.2.2.1
  ·simp only [Bool.not_false,Bool.not_true,cond_true,cond_false,Bool.false_or]
   cases partsM q.2.1<;>cases q.2.2.2.2.1.all shortM<;>rfl
  ·simp only [Bool.not_false,Bool.not_true,cond_true,cond_false,Bool.false_or]
   rw [k]
   cases partsM q.2.1<;>cases q.2.2.2.2.1.all shortM<;>rfl
 ·simp only [Bool.not_true,cond_false,Bool.true_or,Bool.and_true]
  exact k
def docAt (l:List TVal) (i:Nat):Bool:=isDocM (nth l i)&&(decide (idM (nth l i)≥0)&&(decide (i=0)||decide (idM (nth l (i-1))<idM (nth l i))))
def docsOkM (l:List TVal):Bool:=allF (docAt l) 0 l.length&&decide (((l.length:Nat):Int)≤20)
theorem l06Docs_eq (l:List TVal) (h:LS LVal 1048576 l):F34 l=some (docsOkM l,()):=by
 unfold F34 docsOkM
 have hl:=h.1
 refine (iter_all (fun i=>(l,(i:Int),())) (docAt l) (some (decide (((l.length:Nat):Int)≤20),())) (some (false,())) l.length 0 fuel ?_ ?_ (fuel_gt (by omega))).trans ?_
 ·intro i _ hi rec
  have hi':i<l.length:=by omega
  have hv:=h.2 _ (nth_mem hi')
  simp only [F34_R2,lt_cast,hi',decide_true,cond_true,gd_pos,get_nth hi',Option.bind_some,l03Doc_eq _ hv,l06Id_eq _ hv,wrap_up i _ hi' (by omega),gt_zero]
  have hd:decide (idM (nth l i)<0) = !decide (idM (nth l i)≥0):=by
   by_cases h:idM (nth l i)≥0
   ·have:¬idM (nth l i)<0:=by omega
    simp [h,this]
   ·have:idM (nth l i)<0:=by omega
    simp [h,this]
  rw [hd]
  unfold docAt
  cases isDocM (nth l i)
  ·rfl
  cases decide (idM (nth l i)≥0)
  ·rfl
  cases i with
  |zero=>rfl
  |succ i=>
   have hi2:i<l.length:=by omega
   have hv2:=h.2 _ (nth_mem hi2)
   have e1:IntKind.wrap IntKind.i64 (((i+1:Nat):Int)-1)=(i:Int):=by rw [wrapI _ (by omega) (by omega)];omega
   have hlt:decide (idM (nth l i)≥idM (nth l (i+1))) = !decide (idM (nth l i)<idM (nth l (i+1))):=by
    by_cases h:idM (nth l i)<idM (nth l (i+1))
    ·have:¬idM (nth l i)≥idM (nth l (i+1)):=by omega
     simp [h,this]
    ·have:idM (nth l i)≥idM (nth l (i+1)):=by omega
     simp [h,this]
   simp only [Nat.succ_pos,decide_true,cond_true,Bool.not_true,cond_false,e1,gd_pos,get_nth hi2,Option.bind_some,l06Id_eq _ hv2,hlt,Nat.add_sub_cancel,Nat.succ_ne_zero,decide_false,Bool.false_or,Bool.true_and]
   cases decide (idM (nth l i)<idM (nth l (i+1)))<;>rfl
 ·intro rec
  have:¬(0+l.length<l.length):=by omega
  simp only [F34_R2,lt_cast,this,decide_false,cond_false]
 ·cases allF (docAt l) 0 l.length<;>rfl
theorem hasId_eq (v:TVal) (hv:LVal 1048576 v):F98 v=some (isDocM v&&decide (idM v≥0),()):=by
 unfold F98
 rw [isDoc_eq v hv,Option.bind_some]
 cases h:isDocM v with
 |false=>rfl
 |true=>
  obtain ⟨n,ok,e,h1,h2⟩:=idOf_doc v hv h
  rw [e]
  cases ok with
  |false=>rw [h2 rfl];rfl
  |true=>
   have:=(h1 rfl).2.1
   rw [(h1 rfl).1] at this
   rw [decide_eq_true (show idM v≥0 from this)];rfl
theorem idOf_id (v:TVal) (hv:LVal 1048576 v) (h:isDocM v=true) (h0:idM v≥0):F53 v=some (idM v,true,()):=by
 obtain ⟨n,ok,e,h1,h2⟩:=idOf_doc v hv h
 rw [e]
 cases ok with
 |false=>have:=h2 rfl;omega
 |true=>rw [(h1 rfl).1]
theorem areDocs_eq (l:List TVal) (h:LS LVal 1048576 l):F46 l=some (docsOkM l,()):=by
 unfold F46 docsOkM
 have hl:=h.1
 have key:∀ (m s k:Nat) (b:Int),s+m=l.length→m<k→(s=0→b = -1)→(0<s→b=idM (nth l (s-1)))→
   iter (F46_R3 (fun y10=>(some ((decide ((((List.length y10.1):Nat):Int)≤(20:Int))),()))) (fun y11=>(some (y11.1,())))) k (l,b,l,((l.length:Nat):Int),(s:Int),()) =
   some (allF (docAt l) s m&&decide (((l.length:Nat):Int)≤20),()):=by
  intro m
  induction m with
  |zero=>
   intro s k b hs hk _ _
   cases k with
   |zero=>omega
   |succ k=>
    have:¬s<l.length:=by omega
    simp only [iter,F46_R3,lt_cast,this,decide_false,cond_false,allF,Bool.true_and]
  |succ m ih=>
   intro s k b hs hk h0 h1
   cases k with
   |zero=>omega
   |succ k=>
    have hi:s<l.length:=by omega
    have hv:=h.2 _ (nth_mem hi)
    simp only [iter,F46_R3,lt_cast,hi,decide_true,cond_true,gd_pos,get_nth hi,Option.bind_some,hasId_eq _ hv,allF]
    unfold docAt
    cases hd:isDocM (nth l s)
    ·rfl
    by_cases hz:idM (nth l s)≥0
    ·rw [idOf_id _ hv hd hz,decide_eq_true hz]
     simp only [Bool.true_and,Bool.not_true,cond_false,Option.bind_some,wrap_up s _ hi (by omega)]
     have hb:decide (idM (nth l s)≤b) = !(decide (s=0)||decide (idM (nth l (s-1))<idM (nth l s))):=by
      by_cases hs0:s=0
      ·have:=h0 hs0
       have:¬idM (nth l s)≤b:=by omega
       simp [hs0] at this ⊢
       simpa using this
      ·have:=h1 (by omega)
       rw [this]
       by_cases hlt:idM (nth l (s-1))<idM (nth l s)
       ·have:¬idM (nth l s)≤idM (nth l (s-1)):=by omega
        simp [hs0,hlt,this]
       ·have:idM (nth l s)≤idM (nth l (s-1)):=by omega
        simp [hs0,hlt,this]
     rw [hb]
     cases hc:(decide (s=0)||decide (idM (nth l (s-1))<idM (nth l s)))
     ·rfl
     ·simp only [Bool.not_true,cond_false,Bool.true_and]
      exact ih (s+1) k _ (by omega) (by omega) (by omega) (fun _=>by rw [Nat.add_sub_cancel])
    ·rw [decide_eq_false hz];rfl
 exact key l.length 0 fuel (-1) (by omega) (fuel_gt (by omega)) (fun _=>rfl) (fun h=>absurd h (Nat.lt_irrefl 0))
def leastM:List TVal→TVal
 |[]=>nullV
 |a::l=>l.foldl (fun m x=>cond (decide (ordM 5 x m<0)) x m) a
def firstM (v:TVal) (path:List UInt8):TVal:=leastM (pathsM v path)
theorem least_ok:∀ (l:List TVal),(∀ x,x∈l→okM 5 x=true)→okM 5 (leastM l)=true
 |[],_=>nullV_ok
 |a::l,h=>by
  have:∀ (l:List TVal) (a:TVal),okM 5 a=true→(∀ x,x∈l→okM 5 x=true)→okM 5 (l.foldl (fun m x=>cond (decide (ordM 5 x m<0)) x m) a)=true:=by
   intro l
   induction l with
   |nil=>intro a h _;exact h
   |cons b l ih=>
    intro a ha hl
    refine ih _ ?_ fun x hx=>hl x (by simp [hx])
    dsimp only
    cases decide (ordM 5 b a<0)
    ·exact ha
    ·exact hl b (by simp)
  exact this l a (h a (by simp)) fun x hx=>h x (by simp [hx])
theorem firstM_ok {v:TVal} {path:List UInt8} (hv:okM 5 v=true):okM 5 (firstM v path)=true:=least_ok _ (pathsM_ok hv).2
def leR (G:TVal→TVal→Option (Int×Unit)) (e0_0:TVal×TVal×Unit→Option (TVal×Unit)) (rec:List TVal×Int×TVal×TVal×Unit→Option (TVal×Unit)) (x4:List TVal×Int×TVal×TVal×Unit):Option (TVal×Unit):=
 (cond (decide (x4.2.1<(((List.length x4.1):Nat):Int)))
 (let j10:List TVal×Int×TVal×TVal×Unit→Option (TVal×Unit):=fun (y11:List TVal×Int×TVal×TVal×Unit)=>
 (rec (y11.1,(IntKind.wrap IntKind.i64 (y11.2.1+(1:Int))),y11.2.2.1,y11.2.2.2.1,()))
 (gd (decide ((0:Int)≤x4.2.1))
 (Option.bind x4.1[(Int.toNat x4.2.1)]? fun y7=>
 (Option.bind (G y7 x4.2.2.2.1) fun y8=>
 (cond (decide (y8.1<(0:Int)))
 (gd (decide ((0:Int)≤x4.2.1))
 (Option.bind x4.1[(Int.toNat x4.2.1)]? fun y9=>
 (j10 (x4.1,x4.2.1,x4.2.2.1,y9,()))))
 (j10 (x4.1,x4.2.1,x4.2.2.1,x4.2.2.2.1,())))))))
 (e0_0 (x4.2.2.1,x4.2.2.2.1,())))
theorem le_eq (G:TVal→TVal→Option (Int×Unit)) (a:TVal) (l:List TVal) (z:TVal) (hl:(a::l).length≤1048576) (ho:∀ x,x∈a::l→okM 5 x=true)
  (hG:∀ x y,okM 5 x=true→okM 5 y=true→G x y=some (ordM 5 x y,())) :
  iter (leR G (fun y=>some (y.2.1,()))) fuel (a::l,(1:Int),z,a,())=some (leastM (a::l),()):=by
 have:=iter_go (R:=leR G (fun y=>some (y.2.1,()))) (S:=TVal) (fun i m=>(a::l,(i:Int),z,m,())) (fun i m=>some (((a::l).drop i).foldl (fun m x=>cond (decide (ordM 5 x m<0)) x m) m,())) (a::l).length (fun _ m=>okM 5 m=true)
  (fun i m hi hm rec hrec=>by
   have ho' :=ho _ (nth_mem hi)
   simp only [leR,lt_cast,hi,decide_true,cond_true,gd_pos,get_nth hi,Option.bind_some,hG _ _ ho' hm,wrap_up i _ hi (by omega)]
   rw [drop_cons_nth hi,List.foldl_cons]
   cases decide (ordM 5 (nth (a::l) i) m<0)
   ·exact hrec m hm
   ·exact hrec _ ho')
  (fun m _ rec=>by
   simp only [leR,lt_cast,Nat.lt_irrefl,decide_false,cond_false,List.drop_length,List.foldl_nil]) fuel 1 a (by simp) (fuel_gt (by omega)) (ho a (by simp))
 exact this
theorem firstPath_eq (v:TVal) (path:List UInt8) (hv:okM 5 v=true) (hp:path.length≤1048576):F159 v path=some (firstM v path,()):=by
 unfold F159 firstM
 rw [getPath_eq v path hv hp,Option.bind_some]
 have h:=pathsM_ok (path:=path) hv
 generalize pathsM v path=l at h
 cases l with
 |nil=>rfl
 |cons a l=>
  have e:((((a::l).length:Nat):Int)==0)=false:=by rw [beq_eq_false_iff_ne];simp only [List.length_cons];omega
  dsimp only
  rw [e,cond_false]
  unfold F214
  have e2:decide ((((a::l).length:Nat):Int)<1)=false:=decide_eq_false (by simp only [List.length_cons];omega)
  rw [e2,cond_false]
  have:=le_eq (fun x y=>F158 x y) a l ((0:Int),((0:Int),([],()))) h.1 h.2 (fun x y hx hy=>implOrder_eq x y hx hy)
  exact (congrArg (fun o:Option (TVal×Unit)=>Option.bind o fun y2=>some (y2.1,())) this)
theorem l02First_eq (v:TVal) (path:List UInt8) (hv:okM 5 v=true) (hp:path.length≤1048576):F228 v path=some (firstM v path,()):=by
 unfold F228 firstM
 rw [l02Values_eq v path hv hp,Option.bind_some]
 have h:=pathsM_ok (path:=path) hv
 generalize pathsM v path=l at h
 cases l with
 |nil=>rfl
 |cons a l=>
  have e:((((a::l).length:Nat):Int)==0)=false:=by rw [beq_eq_false_iff_ne];simp only [List.length_cons];omega
  dsimp only
  rw [e,cond_false]
  exact le_eq (fun x y=>F227 x y) a l ((0:Int),((0:Int),([],()))) h.1 h.2 (fun x y hx hy=>specOrder_eq x y hx hy)
def byM:List TPart→TVal→TVal→Int
 |[]=>fun a b=>sgn (idM a) (idM b)
 |p::s=>thenC (fun a b=>cond p.2.1 (- ordM 5 (firstM a p.1) (firstM b p.1)) (ordM 5 (firstM a p.1) (firstM b p.1))) (byM s)
theorem byM_cons (p:TPart) (s:List TPart) (a b:TVal):byM (p::s) a b=if cond p.2.1 (- ordM 5 (firstM a p.1) (firstM b p.1)) (ordM 5 (firstM a p.1) (firstM b p.1))=0 then byM s a b else cond p.2.1 (- ordM 5 (firstM a p.1) (firstM b p.1)) (ordM 5 (firstM a p.1) (firstM b p.1)):=rfl
theorem byM_pc:∀ s,PC (byM s) fun v=>okM 5 v=true
 |[]=>sgn_pc.pull idM fun _ _=>trivial
 |p::s=>by
  refine PC.lex ?_ (byM_pc s)
  have h:PC (fun a b=>ordM 5 (firstM a p.1) (firstM b p.1)) fun v=>okM 5 v=true:=(ordM_pc 5).pull (fun v=>firstM v p.1) fun v hv=>firstM_ok hv
  cases p.2.1
  ·exact h
  ·exact h.neg
theorem byM_zero:∀ s a b,byM s a b=0→idM a=idM b
 |[],a,b,h=>(sgn_zero _ _).1 h
 |p::s,a,b,h=>by
  unfold byM thenC at h
  split at h
  ·exact byM_zero s a b h
  ·rename_i h';exact absurd h h'
def GoodDoc (v:TVal):Prop:=isDocM v=true∧idM v≥0
theorem GoodDoc.ok {v:TVal} (h:GoodDoc v):okM 5 v=true:=doc_ok h.1
theorem GoodDoc.sm {v:TVal} (h:GoodDoc v):LVal 1048576 v:=okM_LVal h.ok
theorem specLess_eq (s:List TPart) (a b:TVal) (ha:okM 5 a=true) (hb:okM 5 b=true) (hs:LS LPart 1048576 s):F174 a b s=some (decide (byM s a b<0),()):=by
 unfold F174
 have hl:=hs.1
 refine (iter_go (S:=Unit) (fun i _=>(s,(i:Int),a,b,())) (fun i _=>some (decide (byM (s.drop i) a b<0),())) s.length (fun _ _=>True) ?_ ?_ fuel 0 () (Nat.zero_le _) (fuel_gt (by omega)) trivial).trans rfl
 ·intro i _ hi _ rec hrec
  have hp:=hs.2 _ (nth_mem hi)
  simp only [F174_R2,lt_cast,hi,decide_true,cond_true,gd_pos,get_nth hi,Option.bind_some,l02First_eq _ _ ha hp,l02First_eq _ _ hb hp,specOrder_eq _ _ (firstM_ok ha) (firstM_ok hb),wrap_up i _ hi (by omega)]
  rw [drop_cons_nth hi,ne_zero_cond,byM_cons,hrec () trivial]
  generalize ordM 5 (firstM a (nth s i).1) (firstM b (nth s i).1)=n
  by_cases z:n=0
  ·subst z
   cases (nth s i).2.1<;>rfl
  ·rw [if_neg z]
   cases (nth s i).2.1
   ·simp only [cond_false,if_neg z]
    cases decide (n<0)<;>rfl
   ·simp only [cond_true]
    rw [if_neg (by omega)]
    by_cases hlt:n<0
    ·have:¬ - n<0:=by omega
     rw [decide_eq_true hlt,decide_eq_false this];rfl
    ·have : - n<0:=by omega
     rw [decide_eq_false hlt,decide_eq_true this];rfl
 ·intro _ _ rec
  simp only [F174_R2,lt_cast,Nat.lt_irrefl,decide_false,cond_false,l06Id_eq _ (okM_LVal ha),l06Id_eq _ (okM_LVal hb),Option.bind_some,List.drop_length,byM]
  refine congrArg (fun x=>some (x,())) ?_
  unfold sgn
  by_cases h1:idM a<idM b
  ·simp [h1]
  ·by_cases h2:idM a>idM b<;>simp [h1,h2]
theorem implBy_eq (s:List TPart) (a b:TVal) (ha:GoodDoc a) (hb:GoodDoc b) (hs:LS LPart 1048576 s):F157 a b s=some (byM s a b,()):=by
 unfold F157
 have hl:=hs.1
 refine (iter_go (S:=Unit) (fun i _=>(s,((s.length:Nat):Int),(i:Int),a,b,())) (fun i _=>some (byM (s.drop i) a b,())) s.length (fun _ _=>True) ?_ ?_ fuel 0 () (Nat.zero_le _) (fuel_gt (by omega)) trivial).trans rfl
 ·intro i _ hi _ rec hrec
  have hp:=hs.2 _ (nth_mem hi)
  have hin:=ordM_in 5 (firstM a (nth s i).1) (firstM b (nth s i).1)
  simp only [F157_R2,lt_cast,hi,decide_true,cond_true,gd_pos,get_nth hi,Option.bind_some,firstPath_eq _ _ ha.ok hp,firstPath_eq _ _ hb.ok hp,implOrder_eq _ _ (firstM_ok ha.ok) (firstM_ok hb.ok),wrap_up i _ hi (by omega)]
  rw [drop_cons_nth hi,byM_cons]
  generalize ordM 5 (firstM a (nth s i).1) (firstM b (nth s i).1)=n at hin ⊢
  rw [wrapI (0-n) (by omega) (by omega),ne_zero_cond,ne_zero_cond,hrec () trivial]
  cases (nth s i).2.1
  ·simp only [cond_false]
   by_cases z:n=0
   ·rw [if_pos z,if_pos z]
   ·rw [if_neg z,if_neg z]
  ·simp only [cond_true]
   by_cases z:n=0
   ·rw [if_pos (by omega),if_pos (by omega)]
   ·rw [if_neg (by omega),if_neg (by omega),Int.zero_sub]
 ·intro _ _ rec
  simp only [F157_R2,lt_cast,Nat.lt_irrefl,decide_false,cond_false,List.drop_length,byM]
  unfold F160
  rw [idOf_id _ ha.sm ha.1 ha.2,idOf_id _ hb.sm hb.1 hb.2]
  simp only [Option.bind_some,cmpInt_eq]
  rfl
def sortM (s:List TPart) (l:List TVal):List TVal:=l.foldl (insM fun a b=>decide (byM s a b<0)) []
structure Docs (l:List TVal):Prop where
 good:∀ x,x∈l→GoodDoc x
 one:∀ x,x∈l→∀ y,y∈l→idM x=idM y→x=y
 len:l.length≤1048576
theorem sortM_ok (s:List TPart) (l:List TVal) (h:Docs l):(sortM s l).Perm l∧(sortM s l).Pairwise fun a b=>decide (byM s b a<0)=false:=by
 have P:=byM_pc s
 have:=insAll_ok (fun a b=>decide (byM s a b<0)) (fun v=>okM 5 v=true) (fun a b ha hb h1=>P.less_as ha hb h1) (fun a b c ha hb hc h1 h2=>P.less_ntr ha hb hc h1 h2) l [] (fun a ha=>(h.good a ha).ok) (fun a ha=>by cases ha) List.Pairwise.nil
 rw [List.append_nil] at this
 exact this
theorem sortM_docs (s:List TPart) {l:List TVal} (h:Docs l):Docs (sortM s l):=by
 have p:=(sortM_ok s l h).1
 exact ⟨fun x hx=>h.good x (p.mem_iff.1 hx),fun x hx y hy=>h.one x (p.mem_iff.1 hx) y (p.mem_iff.1 hy),by rw [p.length_eq];exact h.len⟩
theorem specSort_eq (s:List TPart) (l:List TVal) (h:Docs l) (hs:LS LPart 1048576 s):F119 l s=some (sortM s l,()):=
 l07Sort_eq l s _ h.len fun x hx y hy=>specLess_eq s x y (h.good x hx).ok (h.good y hy).ok hs
theorem cloneVal_eq (l:List TVal) (hl:l.length≤1048576):F51 l=some (l,()):=by
 unfold F51
 dsimp only
 rw [gd_if (by simp only [lim,List.length_nil];omega)]
 cases l with
 |nil=>exact if_pos rfl
 |cons a l=>rfl
theorem implSort_eq (s:List TPart) (l:List TVal) (h:Docs l) (hs:LS LPart 1048576 s):F102 l s=some (sortM s l,()):=by
 unfold F102
 rw [cloneVal_eq l h.len,Option.bind_some]
 have P:=byM_pc s
 have ok:=fun x hx=>(h.good x hx).ok
 have e:sortF (fun x y=>Option.map (fun r:Int×Unit=>r.1) (F157 x y s)) l=some (sortM s l):=
  sortF_eq (fun a b=>decide (byM s a b<0)) (by have:=h.len;simp only [lim];omega) (fun x hx y hy=>⟨byM s x y,by rw [implBy_eq s x y (h.good x hx) (h.good y hy) hs];rfl,rfl⟩)
   (fun x hx=>P.irr (ok x hx)) (fun x hx y hy z hz h1 h2=>P.less_tr (ok x hx) (ok y hy) (ok z hz) h1 h2) (fun x hx y hy z hz h1 h2=>P.less_ntr (ok x hx) (ok y hy) (ok z hz) h1 h2)
   (fun x hx y hy h1 h2=>h.one x hx y hy (byM_zero s x y (by
    have:=P.an x y (ok x hx) (ok y hy)
    have g1:=of_decide_eq_false h1
    have g2:=of_decide_eq_false h2
    omega))) (sortM_ok s l h).1 (sortM_ok s l h).2
 unfold F156
 exact congrArg (fun o:Option (List TVal)=>Option.bind (Option.map (fun l=>(l,())) o) fun y1=>some (y1.1,())) e
theorem docsOkM_docs {l:List TVal} (h:docsOkM l=true):Docs l∧l.length≤20:=by
 unfold docsOkM at h
 rw [Bool.and_eq_true,allF_iff] at h
 obtain ⟨h1,h2⟩:=h
 have h2:((l.length:Nat):Int)≤20:=of_decide_eq_true h2
 have g:∀ i,i<l.length→GoodDoc (nth l i)∧(0<i→idM (nth l (i-1))<idM (nth l i)):=fun i hi=>by
  have:=h1 i (Nat.zero_le _) (by omega)
  unfold docAt at this
  simp only [Bool.and_eq_true,decide_eq_true_eq,Bool.or_eq_true] at this
  exact ⟨⟨this.1,this.2.1⟩,fun h0=>this.2.2.resolve_left (by omega)⟩
 refine ⟨⟨fun x hx=>?_,fun x hx y hy e=>?_,by omega⟩,by omega⟩
 ·obtain ⟨i,hi,rfl⟩:=mem_nth hx
  exact (g i hi).1
 ·obtain ⟨i,hi,rfl⟩:=mem_nth hx
  obtain ⟨j,hj,rfl⟩:=mem_nth hy
  have R:=fun i j (h:i<j) (hj:j<l.length)=>rise_lt' (l:=l) (r:=fun a b=>decide (idM a<idM b)) (fun a b c h1 h2=>decide_eq_true (Int.lt_trans (of_decide_eq_true h1) (of_decide_eq_true h2))) (fun i h0 hi=>decide_eq_true ((g i hi).2 h0)) h hj
  rcases Nat.lt_trichotomy i j with h | h | h
  ·have:=of_decide_eq_true (R i j h hj);omega
  ·rw [h]
  ·have:=of_decide_eq_true (R j i h hi);omega
theorem Docs.sub {l l':List TVal} (h:Docs l) (hs:∀ x,x∈l' →x∈l) (hl:l'.length≤l.length):Docs l' :=
 ⟨fun x hx=>h.good x (hs x hx),fun x hx y hy=>h.one x (hs x hx) y (hs y hy),Nat.le_trans hl h.len⟩
def toB (z:Int):UInt8:=UInt8.ofNat (Int.toNat z)
def eI (n:Int) (m:Nat):Int:=IntKind.wrap .u8 (Int.fdiv n ((2:Int) ^ (Min.min (8*m) 64)))
def downI (n:Int):Nat→List Int
 |0=>[]
 |m+1=>eI n m::downI n m
theorem fuel_more:∃ k,fuel=k+9:=⟨fuel-9,by have:=fuel_eq;omega⟩
theorem eight_eq (n:Int):F266 n=some (downI n 8,()):=by
 unfold F266
 obtain ⟨k,hk⟩:=fuel_more
 rw [hk]
 kernel_rfl
theorem number1_eq (n:Int):F230 n 1=some ((downI n 1).map toB,()):=by
 unfold F230
 obtain ⟨k,hk⟩:=fuel_more
 rw [hk]
 kernel_rfl
theorem number2_eq (n:Int):F230 n 2=some ((downI n 2).map toB,()):=by
 unfold F230
 obtain ⟨k,hk⟩:=fuel_more
 rw [hk]
 kernel_rfl
theorem number8_eq (n:Int):F230 n 8=some ((downI n 8).map toB,()):=by
 unfold F230
 obtain ⟨k,hk⟩:=fuel_more
 rw [hk]
 kernel_rfl
theorem eI_zero (n:Int):eI n 0=IntKind.wrap .u8 n:=by
 unfold eI
 rw [show (2:Int) ^ (Min.min (8*0) 64)=1 from rfl,Int.fdiv_one]
theorem down1 (n:Int):downI n 1=[IntKind.wrap .u8 n]:=by
 rw [show downI n 1=[eI n 0] from rfl,eI_zero]
theorem down2 (n:Int):downI n 2=[IntKind.wrap .u8 (Int.fdiv n ((2:Int) ^ (Min.min (Int.toNat (8:Int)) (IntKind.bits IntKind.i64)))),IntKind.wrap .u8 n]:=by
 rw [show downI n 2=[eI n 1,eI n 0] from rfl,eI_zero];rfl
theorem back (t:List UInt8):(t.map fun v:UInt8=>((v.toNat:Nat):Int)).map toB=t:=by
 rw [List.map_map]
 conv=>rhs;rw [←List.map_id t]
 refine List.map_congr_left fun x _=>?_
 simp [toB]
def encI (v:TVal):List Int:=
 IntKind.wrap .u8 v.1::(if v.1=0 then [] else if v.1=1 then [IntKind.wrap .u8 v.2.1] else if v.1=2 then downI (IntKind.wrap .i64 (v.2.1+4611686018427387904)) 8
  else downI ((v.2.2.1.length:Nat):Int) 2++v.2.2.1.map fun v:UInt8=>((v.toNat:Nat):Int))
def encM (v:TVal):List UInt8:=(encI v).map toB
theorem encI_len {v:TVal} (h:v.2.2.1.length≤300):(encI v).length≤303:=by
 unfold encI
 split
 ·simp
 split
 ·simp
 split
 ·simp [downI]
 ·simp only [List.length_cons,List.length_append,List.length_map,downI,List.length_nil];omega
theorem okM_kinds {d:Nat} {v:TVal} (h:okM d v=true):v.1=0∨v.1=1∨v.1=2∨v.1=3∨v.1=4∨v.1=5:=by
 have:∀ g m,okB g m v=true→v.1=0∨v.1=1∨v.1=2∨v.1=3∨v.1=4∨v.1=5:=by
  intro g m h
  unfold okB at h
  split at h
  ·omega
  split at h
  ·omega
  split at h
  ·omega
  split at h
  ·omega
  split at h
  ·omega
  split at h
  ·omega
  ·cases h
 cases d with
 |zero=>exact this _ _ h
 |succ d=>exact this _ _ h
theorem putValue_eq {d:Nat} (b:List Int) (v:TVal) (h:okM d v=true) (hb:b.length≤1000000):F218 b v=some (b++encI v,()):=by
 have ht:=okM_short h
 unfold F218 encI
 rcases okM_kinds h with k | k | k | k | k | k
 ·rw [k]
  simp only [show ((0:Int)==1)=false from rfl,show ((0:Int)==2)=false from rfl,show ((0:Int)==3)=false from rfl,show ((0:Int)==4)=false from rfl,show ((0:Int)==5)=false from rfl,cond_false,if_true]
  rw [gd_if (by simp only [lim,List.length_singleton];omega)]
 ·rw [k]
  simp only [show ((1:Int)==1)=true from rfl,cond_true,if_true,show ¬((1:Int)=0) by decide,if_false]
  rw [gd_if (by simp only [lim,List.length_singleton];omega),gd_if (by simp only [lim,List.length_append,List.length_singleton];omega)]
  simp only [List.append_assoc,List.singleton_append]
 ·rw [k]
  simp only [show ((2:Int)==1)=false from rfl,show ((2:Int)==2)=true from rfl,cond_true,cond_false,if_true,show ¬((2:Int)=0) by decide,show ¬((2:Int)=1) by decide,if_false,eight_eq,Option.bind_some]
  rw [gd_if (by simp only [lim,List.length_singleton];omega),gd_if (by simp only [lim,List.length_append,List.length_singleton,downI,List.length_cons,List.length_nil];omega)]
  simp only [List.append_assoc,List.singleton_append]
 all_goals
  rw [k]
  simp only [show ((3:Int)==1)=false from rfl,show ((3:Int)==2)=false from rfl,show ((3:Int)==3)=true from rfl,show ((4:Int)==1)=false from rfl,show ((4:Int)==2)=false from rfl,show ((4:Int)==3)=false from rfl,show ((4:Int)==4)=true from rfl,
   show ((5:Int)==1)=false from rfl,show ((5:Int)==2)=false from rfl,show ((5:Int)==3)=false from rfl,show ((5:Int)==4)=false from rfl,show ((5:Int)==5)=true from rfl,cond_true,cond_false,
   show ¬((3:Int)=0) by decide,show ¬((3:Int)=1) by decide,show ¬((3:Int)=2) by decide,show ¬((4:Int)=0) by decide,show ¬((4:Int)=1) by decide,show ¬((4:Int)=2) by decide,show ¬((5:Int)=0) by decide,show ¬((5:Int)=1) by decide,show ¬((5:Int)=2) by decide,if_false]
  rw [gd_if (by simp only [lim,List.length_singleton];omega),gd_if (by simp only [lim,List.length_append,List.length_singleton,List.length_cons,List.length_nil];omega),gd_if (by simp only [lim,List.length_append,List.length_singleton,List.length_cons,List.length_nil,List.length_map];omega),down2]
  simp only [List.append_assoc,List.singleton_append]
  rfl
theorem l01Encode_eq {d:Nat} (v:TVal) (h:okM d v=true):F231 v=some (encM v,()):=by
 have ht:=okM_short h
 unfold F231 encM encI
 rw [number1_eq,Option.bind_some,down1]
 rcases okM_kinds h with k | k | k | k | k | k
 ·rw [k]
  simp only [beq_self_eq_true,cond_true,if_true]
 ·rw [k]
  simp only [show ((1:Int)==0)=false from rfl,show ((1:Int)==1)=true from rfl,cond_true,cond_false,if_true,show ¬((1:Int)=0) by decide,if_false,number1_eq,Option.bind_some,down1]
  rw [gd_if (by simp)]
  rfl
 ·rw [k]
  simp only [show ((2:Int)==0)=false from rfl,show ((2:Int)==1)=false from rfl,show ((2:Int)==2)=true from rfl,cond_true,cond_false,if_true,show ¬((2:Int)=0) by decide,show ¬((2:Int)=1) by decide,if_false,number8_eq,Option.bind_some]
  rw [gd_if (by simp only [List.length_map,downI,List.length_cons,List.length_nil];omega)]
  rfl
 all_goals
  rw [k]
  simp only [show ((3:Int)==0)=false from rfl,show ((3:Int)==1)=false from rfl,show ((3:Int)==2)=false from rfl,show ((4:Int)==0)=false from rfl,show ((4:Int)==1)=false from rfl,show ((4:Int)==2)=false from rfl,show ((5:Int)==0)=false from rfl,
   show ((5:Int)==1)=false from rfl,show ((5:Int)==2)=false from rfl,cond_false,
   show ¬((3:Int)=0) by decide,show ¬((3:Int)=1) by decide,show ¬((3:Int)=2) by decide,show ¬((4:Int)=0) by decide,show ¬((4:Int)=1) by decide,show ¬((4:Int)=2) by decide,show ¬((5:Int)=0) by decide,show ¬((5:Int)=1) by decide,show ¬((5:Int)=2) by decide,if_false,number2_eq,Option.bind_some]
  rw [gd_if (by simp only [List.length_map,down2,List.length_cons,List.length_nil];omega),gd_if (by simp only [List.length_append,List.length_map,down2,List.length_cons,List.length_nil];omega)]
  simp only [List.map_cons,List.map_nil,List.map_append,back,List.append_assoc,List.singleton_append]
  rfl
def fldM (f:TFld):List UInt8:=toB (IntKind.wrap .u8 ((f.1.length:Nat):Int))::(f.1++encM f.2.1)
def docM' (l:List TFld):TVal:=(5,0,l.flatMap fldM,())
def FldOk (f:TFld):Prop:=f.1.length≤12∧okM 4 f.2.1=true
theorem docOf_eq (l:List TFld) (hl:l.length≤300) (hf:∀ f,f∈l→FldOk f):F162 l=some (docM' l,()):=by
 unfold F162 docM'
 refine (iter_go (S:=List Int) (fun i s=>(l,((l.length:Nat):Int),(i:Int),(0,0,[],()),s,())) (fun i s=>some ((5,0,s.map toB++(l.drop i).flatMap fldM,()),())) l.length (fun i s=>s.length≤i*400) ?_ ?_ fuel 0 [] (Nat.zero_le _) (fuel_gt (by omega)) (by simp)).trans rfl
 ·intro i s hi hs rec hrec
  obtain ⟨h1,h2⟩:=hf _ (nth_mem hi)
  have h3:=encI_len (okM_short h2)
  simp only [F162_R3,lt_cast,hi,decide_true,cond_true,gd_pos,get_nth hi,Option.bind_some]
  rw [gd_if (by simp only [lim,List.length_singleton];omega),gd_if (by simp only [lim,List.length_append,List.length_singleton,List.length_map];omega),
   putValue_eq _ _ h2 (by simp only [List.length_append,List.length_singleton,List.length_map];omega)]
  simp only [Option.bind_some,wrap_up i _ hi (by omega)]
  rw [hrec _ (by simp only [List.length_append,List.length_singleton,List.length_map];omega),drop_cons_nth hi,List.flatMap_cons]
  simp only [List.map_append,back,fldM,List.map_cons,List.map_nil,List.append_assoc,List.cons_append,List.nil_append,encM]
 ·intro s _ rec
  simp only [F162_R3,lt_cast,Nat.lt_irrefl,decide_false,cond_false,List.drop_length,List.flatMap_nil,List.append_nil]
  rfl
theorem l01Doc_eq (l:List TFld) (hl:l.length≤300) (hf:∀ f,f∈l→FldOk f):F176 l=some (docM' l,()):=by
 unfold F176 docM'
 refine (iter_go (S:=List UInt8) (fun i s=>(l,s,(i:Int),(0,0,[],()),())) (fun i s=>some ((5,0,s++(l.drop i).flatMap fldM,()),())) l.length (fun i s=>s.length≤i*400) ?_ ?_ fuel 0 [] (Nat.zero_le _) (fuel_gt (by omega)) (by simp)).trans rfl
 ·intro i s hi hs rec hrec
  obtain ⟨h1,h2⟩:=hf _ (nth_mem hi)
  have h3:=encI_len (okM_short h2)
  have h4:(encM (nth l i).2.1).length≤303:=by unfold encM;rw [List.length_map];exact h3
  simp only [F176_R3,lt_cast,hi,decide_true,cond_true,gd_pos,get_nth hi,Option.bind_some,number1_eq,down1,List.map_cons,List.map_nil,l01Encode_eq _ h2,wrap_up i _ hi (by omega)]
  rw [gd_if (by simp only [List.length_singleton];omega),gd_if (by simp only [List.length_append,List.length_singleton];omega),gd_if (by simp only [List.length_append,List.length_singleton];omega)]
  rw [hrec _ (by simp only [List.length_append,List.length_singleton];omega),drop_cons_nth hi,List.flatMap_cons]
  simp only [fldM,List.append_assoc,List.cons_append,List.nil_append]
 ·intro s _ rec
  simp only [F176_R3,lt_cast,Nat.lt_irrefl,decide_false,cond_false,List.drop_length,List.flatMap_nil,List.append_nil]
def dfR {α β:Type} (e0_0:Int×List α×Unit→Option β) (rec:(α→Option Bool)×Int×Int×List α×Unit→Option β) (x4:(α→Option Bool)×Int×Int×List α×Unit):Option β:=
 (cond (decide (x4.2.2.1<(((List.length x4.2.2.2.1):Nat):Int)))
 (let j10:(α→Option Bool)×Int×Int×List α×Unit→Option β:=fun (y11:(α→Option Bool)×Int×Int×List α×Unit)=>
 (rec (y11.1,y11.2.1,(IntKind.wrap IntKind.i64 (y11.2.2.1+(1:Int))),y11.2.2.2.1,()))
 (gd (decide ((0:Int)≤x4.2.2.1))
 (gd (decide (x4.2.2.1<(((List.length x4.2.2.2.1):Nat):Int)))
 (Option.bind x4.2.2.2.1[(Int.toNat x4.2.2.1)]? fun y7=>
 (Option.bind (x4.1 y7) fun y8=>
 (cond (!y8)
 (gd (decide ((0:Int)≤x4.2.1))
 (gd (decide (x4.2.1<(((List.length x4.2.2.2.1):Nat):Int)))
 (Option.bind x4.2.2.2.1[(Int.toNat x4.2.1)]? fun y9=>
 (j10 (x4.1,(IntKind.wrap IntKind.i64 (x4.2.1+(1:Int))),x4.2.2.1,(List.set x4.2.2.2.1 (Int.toNat x4.2.1) y7),())))))
 (j10 (x4.1,x4.2.1,x4.2.2.1,x4.2.2.2.1,()))))))))
 (e0_0 (x4.2.1,x4.2.2.2.1,())))
theorem firstAt_del {α:Type} (p:α→Bool):∀ (i:Nat) (l:List α),(firstAt p i l = -1∧(l.filter fun x=>!p x)=l)∨∃ j,firstAt p i l=((i+j:Nat):Int)∧j<l.length∧((l.take (j+1)).filter fun x=>!p x)=l.take j
 |_,[]=>.inl ⟨rfl,rfl⟩
 |i,a::l=>by
  unfold firstAt
  cases h:p a with
  |true=>exact .inr ⟨0,rfl,by simp,by simp [h]⟩
  |false=>
   rw [cond_false]
   rcases firstAt_del p (i+1) l with ⟨h1,h2⟩ | ⟨j,h1,h2,h3⟩
   ·exact .inl ⟨h1,by rw [List.filter_cons_of_pos (by simp [h]),h2]⟩
   ·exact .inr ⟨j+1,by rw [h1];congr 1;omega,by simp;omega,by rw [List.take_succ_cons,List.filter_cons_of_pos (by simp [h]),h3,List.take_succ_cons]⟩
theorem df_loop {α β:Type} [Inhabited α] (p:α→Bool) (l:List α) (f:α→Option Bool) (hf:∀ x,x∈l→f x=some (p x)) (hl:l.length≤1048576) (E:Int×List α×Unit→Option β) :
  ∀ (m j i k:Nat) (s:List α),j+m=l.length→m<k→s.length=l.length→i≤j→s.take i=(l.take j).filter (fun x=>!p x)→s.drop j=l.drop j→
   ∃ (i':Nat) (s':List α),iter (dfR E) k (f,(i:Int),(j:Int),s,())=E ((i':Int),s',())∧s'.take i'=l.filter (fun x=>!p x)∧i' ≤l.length∧s'.length=l.length
 |0,j,i,k+1,s,hj,hk,hs,hi,h1,h2=>by
  have:¬j<l.length:=by omega
  simp only [iter,dfR,lt_cast,hs,this,decide_false,cond_false]
  exact ⟨i,s,rfl,by rw [h1,List.take_of_length_le (by omega)],by omega,hs⟩
 |m+1,j,i,k+1,s,hj,hk,hs,hi,h1,h2=>by
  have hjl:j<l.length:=by omega
  have hjs:j<s.length:=by omega
  have his:i<s.length:=by omega
  have e:nth s j=nth l j:=by
   have h3:=drop_cons_nth hjs
   rw [h2,drop_cons_nth hjl] at h3
   injection h3 with h3 _
   exact h3.symm
  have e2:s.drop (j+1)=l.drop (j+1):=by
   have h3:=drop_cons_nth hjs
   rw [h2,drop_cons_nth hjl] at h3
   injection h3 with _ h3
   exact h3.symm
  have t1:(l.take (j+1)).filter (fun x=>!p x)=(l.take j).filter (fun x=>!p x)++[nth l j].filter (fun x=>!p x):=by
   rw [←List.filter_append,List.take_add_one,get_nth' hjl];rfl
  have w1:=wrap_up j _ hjl (by omega)
  have w2:=wrap_up i _ (by omega:i<l.length) (by omega)
  simp only [iter,dfR,lt_cast,hjs,his,decide_true,cond_true,gd_pos,gd_true,get_nth hjs,get_nth his,Option.bind_some,e,hf _ (nth_mem hjl),w1,w2]
  cases hp:p (nth l j) with
  |true=>
   simp only [Bool.not_true,cond_false]
   exact df_loop p l f hf hl E m (j+1) i k s (by omega) (by omega) hs (by omega) (by rw [h1,t1];simp [hp]) e2
  |false=>
   simp only [Bool.not_false,cond_true]
   refine df_loop p l f hf hl E m (j+1) (i+1) k (s.set (Int.toNat (i:Int)) (nth l j)) (by omega) (by omega) (by rw [List.length_set];exact hs) (by omega) ?_ ?_
   ·rw [t1,←h1,Int.toNat_natCast,List.take_set,List.take_add_one,get_nth' his]
    simp [hp,List.set_append,Nat.min_eq_left (Nat.le_of_lt his)]
   ·rw [Int.toNat_natCast,←e2]
    apply List.ext_getElem?
    intro q
    rw [List.getElem?_drop,List.getElem?_drop,List.getElem?_set_ne (by omega)]
theorem wipe_take (e:Ty) (s:List e.den) (k n:Nat) (h:k≤s.length):(wipe e s k n).take k=s.take k:=by
 unfold wipe
 rw [List.append_assoc,List.take_append_of_le_length (by simp [h]),List.take_take,Nat.min_self]
theorem wipe_length (e:Ty) (s:List e.den) (k:Nat) (h:k≤s.length):(wipe e s k s.length).length=s.length:=by
 unfold wipe
 simp;omega
theorem delX_no {α:Type} (z:Int) (l:List α) (h:z = -1) (F:Int→Int→Option (List α×Unit)) :
  (cond (((z,()):Int×Unit).1==(-(1:Int))) (some (l,())) (F ((z,()):Int×Unit).1 (IntKind.wrap IntKind.i64 (((z,()):Int×Unit).1+(1:Int)))))=some (l,()):=by subst h;rfl
theorem delX_at {α:Type} (z:Int) (l:List α) {j:Nat} (h:z=(j:Int)) (hj:j<l.length) (hl:l.length≤9223372036854775807) (F:Int→Int→Option (List α×Unit)) :
  (cond (((z,()):Int×Unit).1==(-(1:Int))) (some (l,())) (F ((z,()):Int×Unit).1 (IntKind.wrap IntKind.i64 (((z,()):Int×Unit).1+(1:Int)))))=F (j:Int) ((j+1:Nat):Int):=by
 subst h
 have hne:(((j:Nat):Int)==(-1:Int))=false:=by rw [beq_eq_false_iff_ne];omega
 dsimp only
 rw [hne,cond_false,wrap_up j _ hj hl]
def delX (e:Ty) (y:Int×List e.den×Unit):Option (List e.den×Unit):=
 (gd (decide ((((List.length y.2.1):Nat):Int)≤(((List.length y.2.1):Nat):Int)))
 (gd (decide ((0:Int)≤y.1))
 (gd (decide (y.1≤(((Int.toNat (((List.length y.2.1):Nat):Int)):Nat):Int)))
 (gd (decide ((0:Int)≤y.1))
 (gd (decide (y.1≤(((List.length (wipe e y.2.1 (Int.toNat y.1) (Int.toNat (((List.length y.2.1):Nat):Int)))):Nat):Int)))
 (some ((wipe e y.2.1 (Int.toNat y.1) (Int.toNat (((List.length y.2.1):Nat):Int))).take (Int.toNat y.1),())))))))
theorem del_E (e:Ty) (s:List e.den) (i:Nat) (h:i≤s.length):delX e ((i:Int),s,())=some (s.take i,()):=by
 unfold delX
 dsimp only
 rw [gd_le,gd_pos,gd_if (by rw [Int.toNat_natCast];omega),gd_pos,Int.toNat_natCast,Int.toNat_natCast,gd_if (by have:=wipe_length e s i h;omega),wipe_take e s i _ h]
theorem delete_value (p:TVal→Bool) (l) (f) (hf:∀ x,x∈l→f x=some (p x)) (hl:l.length≤1048576):F50 l f=some (l.filter (fun x=>!p x),()):=by
 unfold F50
 rw [show F110 l f=ixF l f from rfl,ixF_eq p l f hf (by omega),Option.bind_some]
 rcases firstAt_del p 0 l with ⟨h1,h2⟩ | ⟨j,h1,h2,h3⟩
 ·exact (delX_no _ _ h1 (fun a b=>iter _ fuel (f,a,b,l,()))).trans (congrArg (fun x=>some (x,())) h2.symm)
 ·rw [Nat.zero_add] at h1
  refine (delX_at _ _ h1 h2 (by omega) (fun a b=>iter _ fuel (f,a,b,l,()))).trans ?_
  obtain ⟨i',s',e,g1,g2,g3⟩:=df_loop p l f hf hl (delX (.pair (.int .i64) (.pair (.int .i64) (.pair .str .unit)))) (l.length-(j+1)) (j+1) j fuel l (by omega) (fuel_gt (by omega)) rfl (by omega) h3.symm rfl
  have g4:i' ≤s'.length:=by rw [g3];exact g2
  exact (e.trans (del_E (.pair (.int .i64) (.pair (.int .i64) (.pair .str .unit))) s' i' g4)).trans (congrArg (fun x=>some (x,())) g1)
theorem delete_field (p:TFld→Bool) (l) (f) (hf:∀ x,x∈l→f x=some (p x)) (hl:l.length≤1048576):F163 l f=some (l.filter (fun x=>!p x),()):=by
 unfold F163
 rw [show F219 l f=ixF l f from rfl,ixF_eq p l f hf (by omega),Option.bind_some]
 rcases firstAt_del p 0 l with ⟨h1,h2⟩ | ⟨j,h1,h2,h3⟩
 ·exact (delX_no _ _ h1 (fun a b=>iter _ fuel (f,a,b,l,()))).trans (congrArg (fun x=>some (x,())) h2.symm)
 ·rw [Nat.zero_add] at h1
  refine (delX_at _ _ h1 h2 (by omega) (fun a b=>iter _ fuel (f,a,b,l,()))).trans ?_
  obtain ⟨i',s',e,g1,g2,g3⟩:=df_loop p l f hf hl (delX (.pair .str (.pair (.pair (.int .i64) (.pair (.int .i64) (.pair .str .unit))) .unit))) (l.length-(j+1)) (j+1) j fuel l (by omega) (fuel_gt (by omega)) rfl (by omega) h3.symm rfl
  have g4:i' ≤s'.length:=by rw [g3];exact g2
  exact (e.trans (del_E (.pair .str (.pair (.pair (.int .i64) (.pair (.int .i64) (.pair .str .unit))) .unit)) s' i' g4)).trans (congrArg (fun x=>some (x,())) g1)
theorem hasText_eq (l:List (List UInt8)) (t:List UInt8) (hl:l.length≤1048576):F165 l t=some (l.any (fun x=>t==x),()):=by
 unfold F165 F220
 have:iter (F220_R2 (fun y6=>(some ((-(1:Int)),()))) (fun y7=>(some (y7.1,())))) fuel (l,t,(((List.length l):Nat):Int),(0:Int),())=some (firstAt (fun x=>t==x) 0 l,()):=by
  refine (iter_go (S:=Unit) (fun i _=>(l,t,((l.length:Nat):Int),(i:Int),())) (fun i _=>some (firstAt (fun x=>t==x) i (l.drop i),())) l.length (fun _ _=>True) ?_ ?_ fuel 0 () (Nat.zero_le _) (fuel_gt (by omega)) trivial).trans rfl
  ·intro i _ hi _ rec hrec
   simp only [F220_R2,lt_cast,hi,decide_true,cond_true,gd_pos,get_nth hi,Option.bind_some,wrap_up i _ hi (by omega)]
   rw [drop_cons_nth hi,firstAt,hrec () trivial]
   cases t==nth l i<;>rfl
  ·intro _ _ rec
   simp only [F220_R2,lt_cast,Nat.lt_irrefl,decide_false,cond_false,List.drop_length,firstAt]
 rw [this,Option.bind_some]
 simp only [firstAt_any]
def staysM (keep:List (List UInt8)) (f:TFld):Bool:=(f.1==[105,100])||keep.any fun x=>f.1==x
def keepM (keep:List (List UInt8)) (doc:TVal):TVal:=if keep.length=0 then doc else docM' ((fieldsL doc).filter (staysM keep))
theorem good_fields {v:TVal} (h:GoodDoc v):∃ l,fieldsM v.2.2.1=some l∧fieldsL v=l∧l.length≤300∧∀ f,f∈l→FldOk f:=by
 obtain ⟨l,h1,_,_,h4,h5⟩:=doc_fields h.1
 refine ⟨l,h1,by unfold fieldsL;rw [h1];rfl,?_,fun f hf=>⟨?_,(h5 f hf).1⟩⟩
 ·have:=(fieldsM_small _ _ _ (Nat.le_refl _) h1).1;omega
 ·have:=(h5 f hf).2
  unfold shortM at this
  rw [Bool.and_eq_true] at this
  have:=of_decide_eq_true this.1
  omega
theorem keepFields_eq (doc:TVal) (keep:List (List UInt8)) (h:GoodDoc doc) (hk:keep.length≤1048576):F103 doc keep=some (keepM keep doc,()):=by
 unfold F103 keepM
 rw [eq_zero]
 by_cases h0:keep.length=0
 ·rw [if_pos h0,decide_eq_true h0];rfl
 rw [if_neg h0,decide_eq_false h0,cond_false]
 obtain ⟨l,h1,h2,h3,h4⟩:=good_fields h
 rw [implFields_list h.sm h1,Option.bind_some,h2]
 dsimp only
 rw [delete_field (fun f=>!staysM keep f) l _ (fun f hf=>by
  unfold F164 staysM
  rw [hasText_eq keep f.1 hk]
  cases f.1==[105,100]<;>rfl) (by omega),Option.bind_some]
 simp only [Bool.not_not]
 rw [docOf_eq _ (Nat.le_trans (List.length_filter_le _ _) h3) fun f hf=>h4 f (List.mem_filter.1 hf).1]
 rfl
theorem l07Keep_eq (doc:TVal) (keep:List (List UInt8)) (h:GoodDoc doc) (hk:keep.length≤1048576):F120 doc keep=some (keepM keep doc,()):=by
 unfold F120 keepM
 rw [eq_zero]
 by_cases h0:keep.length=0
 ·rw [if_pos h0,decide_eq_true h0];rfl
 rw [if_neg h0,decide_eq_false h0,cond_false]
 obtain ⟨l,h1,h2,h3,h4⟩:=good_fields h
 rw [l01Fields_eq _ h.sm,h1,Option.bind_some,h2]
 dsimp only
 refine (iter_go (S:=List TFld) (fun i out=>(keep,l,(i:Int),(0,0,[],()),out,())) (fun i out=>some (docM' (out++(l.drop i).filter (staysM keep)),())) l.length (fun i out=>out.length≤i∧∀ f,f∈out→f∈l) ?_ ?_ fuel 0 [] (Nat.zero_le _) (fuel_gt (by omega)) ⟨Nat.le_refl _,fun f h=>by cases h⟩).trans rfl
 ·intro i out hi ho rec hrec
  simp only [F120_R6,lt_cast,hi,decide_true,cond_true,gd_pos,get_nth hi,Option.bind_some,wrap_up i _ hi (by omega)]
  refine (iter_go (S:=Bool) (fun k s=>(keep,l,(i:Int),s,(k:Int),(0,0,[],()),out,())) (fun k s=>some (docM' (out++(if s||(keep.drop k).any (fun x=>(nth l i).1==x) then [nth l i] else [])++(l.drop (i+1)).filter (staysM keep)),())) keep.length (fun _ _=>True) ?_ ?_ fuel 0 _ (Nat.zero_le _) (fuel_gt (by omega)) trivial).trans ?_
  ·intro k s hk' _ rec' hrec'
   simp only [F120_R10,lt_cast,hk',decide_true,cond_true,gd_pos,get_nth hi,get_nth hk',Option.bind_some,wrap_up k _ hk' (by omega)]
   rw [drop_cons_nth hk',List.any_cons]
   cases s with
   |true=>rw [cond_true,hrec' true trivial];simp only [Bool.true_or]
   |false=>
    rw [cond_false,hrec' _ trivial]
    have:(nth keep k==(nth l i).1)=((nth l i).1==nth keep k):=by rw [Bool.eq_iff_iff,beq_iff_eq,beq_iff_eq];exact ⟨Eq.symm,Eq.symm⟩
    rw [this];simp only [Bool.false_or]
  ·intro s _ rec'
   simp only [F120_R10,lt_cast,Nat.lt_irrefl,decide_false,cond_false,List.drop_length,List.any_nil,Bool.or_false,gd_pos,get_nth hi,Option.bind_some,wrap_up i _ hi (by omega)]
   cases s with
   |true=>
    rw [cond_true,gd_if (by have:=ho.1;simp only [lim,List.length_singleton];omega),hrec _ ⟨by have:=ho.1;simp only [List.length_append,List.length_singleton];omega,fun f hf=>(List.mem_append.1 hf).elim (ho.2 f) fun hf=>by rw [List.mem_singleton.1 hf];exact nth_mem hi⟩,if_pos rfl]
   |false=>
    rw [cond_false,hrec _ ⟨by have:=ho.1;omega,ho.2⟩,if_neg (by decide),List.append_nil]
  ·rw [drop_cons_nth hi,List.drop_zero]
   unfold staysM
   by_cases hs:((nth l i).1==[105,100]||keep.any fun x=>(nth l i).1==x)=true
   ·rw [if_pos hs,List.filter_cons_of_pos (by exact hs)];simp only [List.append_assoc,List.singleton_append]
   ·rw [if_neg hs,List.filter_cons_of_neg (by exact hs),List.append_nil]
 ·intro out ho rec
  simp only [F120_R6,lt_cast,Nat.lt_irrefl,decide_false,cond_false,List.drop_length,List.filter_nil,List.append_nil]
  rw [l01Doc_eq out (by have:=ho.1;omega) fun f hf=>h4 f (ho.2 f hf)]
  rfl
end Go.V
