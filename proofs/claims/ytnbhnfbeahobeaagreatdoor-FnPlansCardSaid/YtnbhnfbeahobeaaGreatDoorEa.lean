/- An evaluator over the code of the model, on data Cp memory, and the proof that it is right. No condition. -/
import Derived.Calls
import Derived.Orders
import Derived.KernelRfl
import Derived.Laws.Cells
import Derived.Laws.Sem
import Derived.Laws.StructEq
import Derived.Laws.Strings2
import Derived.Laws.Concat
import Derived.Lib.Strings
import Derived.Laws.Slices
import Derived.Lib.LazyBuf
import Derived.Laws.BytesString
import Derived.Deep.AppendSrc
import Derived.Great.BuildSlice
namespace Go.V
theorem Ai5 {α β:Type _} (a:α) (f:α->Option β):(some a).bind f=f a:=rfl
theorem Ai6 {α:Sort _} (a b:α):cond false a b=b:=rfl
theorem Ai7 {α:Sort _} (a b:α):cond true a b=a:=rfl
theorem Ai8 {α:Type _} {a:α}:[a].length=1:=rfl
theorem Ai9 {α:Type _} {as bs:List α}:(as++bs).length=as.length+bs.length:=List.length_append
theorem Aja {α:Type _} {a:α} {as:List α}:(a::as).length=as.length+1:=rfl
theorem Ajb (a b:Bool):((a&&b)=true)=(a=true/\b=true):=Bool.and_eq_true a b
theorem Ajc (a b:Bool):((a||b)=true)=(a=true\/b=true):=Bool.or_eq_true a b
theorem Ajd {α:Type _}:([]:List α).length=0:=rfl
theorem Ajf {α:Type _} {a:α} {s t:List α}:a∈s++t↔a∈s\/a∈t:=List.mem_append
theorem Ajg {p:Prop} [Decidable p]:(decide p=true)=p:=_root_.decide_eq_true_eq
theorem Ajh {α:Type _} {l:List α}:l.drop l.length=[]:=List.drop_length
variable {α:Type}
inductive Ty where
 |int (k:IntKind)
 |bool
 |str
 |unit
 |pair (a b:Ty)
 |slice (e:Ty)
 deriving DecidableEq
def Ty.den:Ty->Type
 |.int _=>Int
 |.bool=>Bool
 |.str=>List UInt8
 |.unit=>Unit
 |.pair a b=>a.den×b.den
 |.slice e=>List e.den
@[reducible] def Bu {e:Ty} (x:(Ty.slice e).den):List e.den:=x
@[reducible] def Hc {k:IntKind} (x:(Ty.int k).den):Int:=x
@[reducible] def Lk (x:Ty.str.den):List UInt8:=x
@[reducible] def Za (x:Ty.bool.den):Bool:=x
def Ty.size:Ty->Nat
 |.int _ | .bool | .str | .slice _=>1
 |.unit=>0
 |.pair a b=>a.size+b.size
def Ty.flat:Ty->Bool
 |.slice _=>false
 |.pair a b=>a.flat&&b.flat
 |_=>true
def Ty.agg:Ty->Bool
 |.pair _ _ | .unit=>true
 |_=>false
def Ty.zero:(t:Ty)->t.den
 |.int _=>(0:Int)
 |.bool=>false
 |.str=>([]:List UInt8)
 |.unit=>()
 |.pair a b=>(a.zero,b.zero)
 |.slice _=>[]
def Ty.eqv:(t:Ty)->t.den->t.den->Bool
 |.int _=>fun (x y:Int)=>decide (x=y)
 |.bool=>fun (x y:Bool)=>x==y
 |.str=>fun (x y:List UInt8)=>x==y
 |.unit=>fun _ _=>true
 |.pair a b=>fun x y=>a.eqv x.1 y.1&&b.eqv x.2 y.2
 |.slice _=>fun _ _=>false
inductive Sh where
 |z
 |pr (a b:Sh)
 |own (e:Sh)
 |gone
 deriving DecidableEq
def Sh.l:Sh->Sh | .pr a _=>a | _=>.z
def Sh.r:Sh->Sh | .pr _ b=>b | _=>.z
def Ty.ownAll:Ty->Sh
 |.slice e=>.own e.ownAll
 |.pair a b=>if a.flat&&b.flat then .z else .pr a.ownAll b.ownAll
 |_=>.z
inductive yd where
 |l | r | at (n:Nat)
 deriving DecidableEq
abbrev Bi:=List yd
abbrev Name:=Nat
structure CH where
 name:Name
 path:Bi
structure Hd where
 t:Ty
 x:t.den
def AB:Bi->(t:Ty)->t.den->(Hd->Option α)->Option α
 |[],t,x,k=>k ⟨t,x⟩
 |.l::p,.pair a _,x,k=>AB p a x.1 k
 |.r::p,.pair _ b,x,k=>AB p b x.2 k
 |.at n::p,.slice e,x,k=>match (Bu x)[n]? with
  |some y=>AB p e y k
  |none=>none
 |_,_,_,_=>none
def Gu:Bi->Ty->Option Ty
 |[],t=>some t
 |.l::p,.pair a _=>Gu p a
 |.r::p,.pair _ b=>Gu p b
 |.at _::p,.slice e=>Gu p e
 |_,_=>none
def BT:Bi->(t:Ty)->t.den->Hd->(t.den->Option α)->Option α
 |[],t,_,d,k=>if h:d.t=t then k (h▸d.x) else none
 |.l::p,.pair a _,x,d,k=>BT p a x.1 d fun y=>k (y,x.2)
 |.r::p,.pair _ b,x,d,k=>BT p b x.2 d fun y=>k (x.1,y)
 |.at n::p,.slice e,x,d,k=>match (Bu x)[n]? with
  |some y=>BT p e y d fun y' =>k ((Bu x).set n y')
  |none=>none
 |_,_,_,_,_=>none
def Eo:Bi->Sh->Sh
 |[],s=>s
 |.l::p,s=>Eo p s.l
 |.r::p,s=>Eo p s.r
 |.at _::p,.own e=>Eo p e
 |.at _::_,_=>.z
def Be:Bi->Sh->Bool
 |[],_=>true
 |.l::p,s=>Be p s.l
 |.r::p,s=>Be p s.r
 |.at _::p,.own e=>Be p e
 |.at _::_,_=>false
def Sh.mk:Sh->Sh->Sh
 |.z,.z=>.z
 |a,b=>.pr a b
theorem Sh.mk_l:∀ a b:Sh,(Sh.mk a b).l=a
 |.z,.z=>rfl
 |.z,.pr _ _=>rfl
 |.z,.own _=>rfl
 |.z,.gone=>rfl
 |.pr _ _,_=>rfl
 |.own _,_=>rfl
 |.gone,_=>rfl
theorem Sh.mk_r:∀ a b:Sh,(Sh.mk a b).r=b
 |.z,.z=>rfl
 |.z,.pr _ _=>rfl
 |.z,.own _=>rfl
 |.z,.gone=>rfl
 |.pr _ _,_=>rfl
 |.own _,_=>rfl
 |.gone,_=>rfl
def BS:Bi->Sh->Sh->Option Sh
 |[],_,n=>some n
 |.l::p,s,n=>(BS p s.l n).map (Sh.mk · s.r)
 |.r::p,s,n=>(BS p s.r n).map (Sh.mk s.l ·)
 |.at m::p,.own e,n=>if BS p e n=some e then some (.own e) else (fun _=>none) m
 |.at _::_,_,_=>none
inductive Slot where
 |undef
 |pv (d:Hd)
 |ref (t:Ty) (p:CH)
 |vw (e:Ty) (p:CH) (lo hi:Nat)
 |ptr (p:CH)
 |fptr (d:Hd)
 |clo (f:FuncId) (caps:List Slot)
 |fnA (a b:Ty) (φ:a.den->Option b.den)
 |tup (l:List Slot)
 |nilS
 |may (e:Bool)
mutual
def Slot.men (n:Name):Slot->Bool
 |.ref _ p | .vw _ p _ _ | .ptr p=>Nat.beq p.name n
 |.clo _ l | .tup l=>Slot.menL n l
 |_=>false
def Slot.menL (n:Name):List Slot->Bool
 |[]=>false
 |s::l=>Slot.men n s||Slot.menL n l
end
mutual
def Slot.lent:Slot->Bool
 |.ref _ _ | .vw _ _ _ _ | .ptr _=>true
 |.clo _ l | .tup l=>Slot.lentL l
 |_=>false
def Slot.lentL:List Slot->Bool
 |[]=>false
 |s::l=>Slot.lent s||Slot.lentL l
end
def Slot.kill (n:Name) (s:Slot):Slot:=match s.men n with | true=>.undef | false=>s
def via:Bi->Bool
 |[]=>false
 |.at _::_=>true
 |.l::p | .r::p=>via p
def LB:Bi->Bi->Bool
 |_,[]=>true
 |[],q=>!via q
 |.l::p,.l::q | .r::p,.r::q | .at _::p,.at _::q=>LB p q
 |_,_=>false
def Qv:Bi->Bi->Bool
 |p,[]=>via p
 |[],_=>false
 |.l::p,.l::q | .r::p,.r::q | .at _::p,.at _::q=>Qv p q
 |_,_=>false
mutual
def Slot.hit (n:Name) (q:Bi):Slot->Bool
 |.ref _ p | .vw _ p _ _=>match Nat.beq p.name n with | true=>LB p.path q | false=>false
 |.ptr p=>match Nat.beq p.name n with | true=>Qv p.path q | false=>false
 |.clo _ l | .tup l=>Slot.hitL n q l
 |_=>false
def Slot.hitL (n:Name) (q:Bi):List Slot->Bool
 |[]=>false
 |s::l=>Slot.hit n q s||Slot.hitL n q l
end
def Slot.lose (n:Name) (q:Bi) (s:Slot):Slot:=match s.hit n q with | true=>.undef | false=>s
inductive AV where
 |data (boxed:Bool) (d:Hd) (sh:Sh)
 |held (s:Slot)
def AV.kill (n:Name):AV->AV
 |.held s=>.held (s.kill n)
 |r=>r
def AV.lose (n:Name) (q:Bi):AV->AV
 |.held s=>.held (s.lose n q)
 |r=>r
structure St where
 slots:List (Nat×Slot)
 mem:List (Name×AV)
def look:List (Nat×α)->Nat->Option α
 |[],_=>none
 |(j,a)::l,i=>match Nat.beq j i with | true=>some a | false=>look l i
def Cp:List (Nat×α)->Nat->List (Nat×α)
 |[],_=>[]
 |(j,a)::l,i=>match Nat.beq j i with | true=>Cp l i | false=>(j,a)::Cp l i
def St.slot (σ:St) (i:Nat):Slot:=(look σ.slots i).getD .undef
def St.set (σ:St) (i:Nat) (s:Slot):St:={σ with slots:=(i,s)::Cp σ.slots i}
def St.root (σ:St) (n:Name):Option AV:=look σ.mem n
def St.lay (σ:St) (n:Name) (r:AV):St:=
 {slots:=σ.slots.map fun x=>(x.1,x.2.kill n),mem:=(n,r)::(Cp σ.mem n).map fun x=>(x.1,x.2.kill n)}
def St.put (σ:St) (n:Name) (r:AV):St:={σ with mem:=(n,r)::Cp σ.mem n}
def St.lose (σ:St) (n:Name) (q:Bi):St:=
 {slots:=σ.slots.map fun x=>(x.1,x.2.lose n q),mem:=σ.mem.map fun x=>(x.1,x.2.lose n q)}
def St.drop (σ:St) (n:Name):St:=
 {slots:=σ.slots.map fun x=>(x.1,x.2.kill n),mem:=(Cp σ.mem n).map fun x=>(x.1,x.2.kill n)}
def CB:List Ty->Type
 |[]=>Unit
 |t::ts=>t.den×CB ts
inductive PM where
 |ro (t:Ty)
 |rp (t:Ty)
 |io (t:Ty) (sh:Sh)
 |tk (t:Ty) (sh:Sh)
 |fn (a b:Ty)
 |st (f:FuncId) (ts:List Ty)
def PM.den:PM->Type
 |.ro t | .rp t | .io t _ | .tk t _=>t.den
 |.fn a b=>a.den->Option b.den
 |.st _ ts=>CB ts
def Args:List PM->Type
 |[]=>Unit
 |p::ps=>p.den×Args ps
def Bh:List PM->List Ty
 |[]=>[]
 |.io t _::ps=>t::Bh ps
 |_::ps=>Bh ps
structure Av where
 ps:List PM
 rs:List (Ty×Sh)
 F:Args ps->Option (CB (rs.map (·.1)++Bh ps))
inductive Src where
 |mem (b off:Nat)
 |val (cs:List Value)
structure Bf where
 n:Nat
 ty:TypeId->Option Ty
 one:TypeId->Bool
 fn:FuncId->Option Av
 deep:Bool:=false
 still:List Nat:=[]
 hints:List (Nat×List Nat×List Nat):=[]
 pin:Option Src:=none
 ext:List (FuncId×Av):=[]
 marks:List Deferred:=[]
def AI {t t':Ty} (x:t.den) (k:t'.den->Option α):Option α:=if h:t=t' then k (h▸x) else none
def Sh.whole:Sh->Bool
 |.gone=>false
 |.pr a b=>a.whole&&b.whole
 |.own e=>e.whole
 |.z=>true
def Bv (σ:St) (p:CH) (k:Hd->Option α):Option α:=
 match σ.root p.name with
 |some (.data _ d sh)=>match (Be p.path sh&&(Eo p.path sh).whole) with
  |true=>AB p.path d.t d.x k
  |false=>none
 |_=>none
def Ep (σ:St) (t:Ty) (s:Slot) (k:t.den->Option α):Option α:=
 match s with
 |.pv d=>AI d.x k
 |.ref _ p=>Bv σ p fun d=>AI d.x k
 |.vw e p lo hi=>Bv σ p fun d=>AI (t' :=.slice e) d.x fun xs=>AI (t:=.slice e) (((Bu xs).take hi).drop lo) k
 |.nilS=>match t with
  |.slice e=>AI (t:=.slice e) ([]:List e.den) k
  |_=>none
 |_=>none
def By (σ:St) (t:Ty) (s:Slot) (k:t.den->Option α):Option α:=
 match s with
 |.ptr p=>Bv σ p fun d=>AI d.x k
 |.fptr d=>AI d.x k
 |_=>none
def DO:Value->Slot
 |.int k n=>.pv ⟨.int k,n⟩
 |.bool b=>.pv ⟨.bool,b⟩
 |.string s=>.pv ⟨.str,s.data.toList⟩
 |.slice none 0 0=>.nilS
 |_=>.undef
def St.val (σ:St):Operand->Slot
 |.tmp t=>σ.slot t
 |.const v=>DO v
 |.func f=>.clo f []
 |.global _=>.undef
def Ao:Nat->Bi
 |0=>[.l]
 |n+1=>.r::Ao n
def CC (σ:St):(ps:List PM)->List Slot->(Args ps->Option α)->Option α
 |[],[],k=>k ()
 |.ro t::ps,s::ss,k=>Ep σ t s fun x=>CC σ ps ss fun r=>k (x,r)
 |.rp t::ps,s::ss,k=>By σ t s fun x=>CC σ ps ss fun r=>k (x,r)
 |_,_,_=>none
def Uk (env:Bf) (σ:St) (a b:Ty) (s:Slot) (k:(a.den->Option b.den)->Option α):Option α:=
 match s with
 |.fnA a' b' φ=>if h:a'=a/\b'=b then k (h.1▸h.2▸φ) else none
 |.clo f caps=>match env.fn f with
  |some ⟨.ro a'::ps,[(b',.z)],F⟩=>match Bh ps,b'.flat with
   |[],true=>CC σ ps caps fun c=>if h:a'=a/\b'=b then k (h.1▸h.2▸fun x=>(F (x,c)).map (·.1)) else none
   |_,_=>none
  |_=>none
 |_=>none
end Go.V
namespace Go.V
variable {α:Type}
def JM (k:IntKind) (n:Int):Slot:=.pv ⟨.int k,n⟩
def Cw (b:Bool):Slot:=.pv ⟨.bool,b⟩
def cE (l:List UInt8):Slot:=.pv ⟨.str,l⟩
def A_:Nat:=4294967296
def cF (op:BinOp) (kk:IntKind) (a b:Int) (k:Slot->Option α):Option α:=
 match op with
 |.add=>k (JM kk (kk.wrap (a+b)))
 |.sub=>k (JM kk (kk.wrap (a-b)))
 |.mul=>k (JM kk (kk.wrap (a*b)))
 |.quo=>match decide (b=0) with | true=>none | false=>k (JM kk (kk.wrap (a.tdiv b)))
 |.rem=>match decide (b=0) with | true=>none | false=>k (JM kk (a.tmod b))
 |.and=>k (JM kk (kk.wrap (BitVec.ofInt kk.bits a &&& BitVec.ofInt kk.bits b).toNat))
 |.or=>k (JM kk (kk.wrap (BitVec.ofInt kk.bits a ||| BitVec.ofInt kk.bits b).toNat))
 |.eql=>k (Cw (a==b))
 |.neq=>k (Cw (a != b))
 |.lss=>k (Cw (decide (a<b)))
 |.leq=>k (Cw (decide (a<=b)))
 |.gtr=>k (Cw (decide (a>b)))
 |.geq=>k (Cw (decide (a>=b)))
 |_=>none
def NQ (op:BinOp) (kk:IntKind) (a b:Int) (k:Slot->Option α):Option α:=
 match decide (b<0) with
 |true=>none
 |false=>match op with
  |.shl=>k (JM kk (kk.wrap (a*2 ^ (min b.toNat kk.bits))))
  |.shr=>k (JM kk (a.fdiv (2 ^ (min b.toNat kk.bits))))
  |_=>none
def cG (op:BinOp) (a b:List UInt8) (k:Slot->Option α):Option α:=
 match op with
 |.add=>match decide (a.length+b.length<=9223372036854775807) with | true=>k (cE (a++b)) | false=>none
 |.eql=>k (Cw (a==b))
 |.neq=>k (Cw (!(a==b)))
 |.lss=>k (Cw (Op.bytesLess a b))
 |.leq=>k (Cw (Op.bytesLess a b||a==b))
 |.gtr=>k (Cw (!(Op.bytesLess a b||a==b)))
 |.geq=>k (Cw (!(Op.bytesLess a b)))
 |_=>none
def cH (env:Bf) (op:BinOp) (t:TypeId) (x y:Slot) (k:Slot->Option α):Option α:=
 match x,y with
 |.pv ⟨.int kk,a⟩,.pv ⟨.int kk',b⟩=>match op with
  |.shl | .shr=>NQ op kk a b k
  |_=>if kk=kk' then cF op kk a b k else none
 |.pv ⟨.str,a⟩,.pv ⟨.str,b⟩=>cG op a b k
 |.pv d,.pv d' =>match d.t.flat&&decide (env.ty t=some d.t) with
  |true=>match op with
   |.eql=>AI (t' :=d.t) d'.x fun y=>k (Cw (d.t.eqv d.x y))
   |.neq=>AI (t' :=d.t) d'.x fun y=>k (Cw (!(d.t.eqv d.x y)))
   |_=>none
  |false=>none
 |_,_=>none
def WI (env:Bf) (σ:St) (op:BinOp) (t:TypeId) (x y:Slot) (k:Slot->Option α):Option α:=
 match y with
 |.nilS=>match op,env.ty t with
  |.eql,some (.slice e)=>Ep σ (.slice e) x fun l=>k (.may (Bu l).isEmpty)
  |_,_=>none
 |y=>cH env op t x y k
def WJ (σ:St) (t:Ty) (s:Slot) (k:Nat->Option α):Option α:=
 match t with
 |.str=>match s with
  |.pv ⟨.str,l⟩=>k (Lk l).length
  |_=>none
 |.slice _=>match s with
  |.pv ⟨.slice _,l⟩=>k (Bu l).length
  |.ref (.slice e) p=>Bv σ p fun d=>AI (t' :=.slice e) d.x fun xs=>k (Bu xs).length
  |.vw e p lo hi=>Bv σ p fun d=>AI (t' :=.slice e) d.x fun xs=>k (((Bu xs).take hi).drop lo).length
  |.nilS=>k 0
  |_=>none
 |_=>none
def He (i:Int) (n:Nat) (k:Nat->Option α):Option α:=
 match decide (0<=i) with
 |true=>match decide (i<=n) with
  |true=>k i.toNat
  |false=>none
 |false=>none
def bound (σ:St) (o:Option Operand) (d:Int) (k:Int->Option α):Option α:=
 match o with
 |none=>k d
 |some x=>match σ.val x with
  |.pv ⟨.int _,i⟩=>k i
  |_=>none
def AA (env:Bf) (σ:St) (op:Op) (k:Slot->Option α):Option α:=
 match op with
 |.move x | .assign x=>k (σ.val x)
 |.pick c a b=>match σ.val c with
  |.pv ⟨.bool,t⟩=>match (Za t) with
   |true=>k (σ.val a)
   |false=>k (σ.val b)
  |_=>none
 |.load t a=>match env.ty t with
  |some t' =>match σ.val a with
   |.ptr p=>match σ.root p.name with
    |some (.data _ d sh)=>match Be p.path sh with
     |true=>AB p.path d.t d.x fun y=>match decide (y.t=t') with
      |true=>match Eo p.path sh with
       |.z=>k (.pv y)
       |_=>k (.ref y.t p)
      |false=>none
     |false=>none
    |_=>none
   |.fptr d=>match decide (d.t=t') with | true=>k (.pv d) | false=>none
   |_=>none
  |none=>match env.one t with
   |true=>match σ.val a with
    |.ptr ⟨n,[]⟩=>match σ.root n with
     |some (.held s)=>k s
     |_=>none
    |_=>none
   |false=>none
 |.nilCheck x=>match σ.val x with
  |.ptr p=>k (.ptr p)
  |.fptr d=>k (.fptr d)
  |_=>none
 |.binOp op t x y _=>WI env σ op t (σ.val x) (σ.val y) k
 |.unOp op _ x=>match op,σ.val x with
  |.not,.pv ⟨.bool,b⟩=>k (Cw (!(Za b)))
  |.neg,.pv ⟨.int kk,n⟩=>k (JM kk (kk.wrap (0-(Hc n))))
  |_,_=>none
 |.convert src dst x=>match env.ty src,env.ty dst with
  |some (.int _),some (.int kk)=>match σ.val x with
   |.pv ⟨.int _,n⟩=>k (JM kk (kk.wrap n))
   |_=>none
  |some .str,some .str=>match σ.val x with
   |.pv ⟨.str,l⟩=>k (cE l)
   |_=>none
  |some (.slice (.int .u8)),some .str=>Ep σ (.slice (.int .u8)) (σ.val x) fun l=>k (cE ((Bu l).map fun n=>UInt8.ofNat (Hc n).toNat))
  |_,_=>none
 |.slice t x lo hi none=>match env.ty t,σ.val x with
  |some .str,.pv ⟨.str,l⟩=>
   bound σ hi (Lk l).length fun h=>bound σ lo 0 fun l' =>He h (Lk l).length fun h=>He l' h fun l' =>
    k (cE (((Lk l).take h).drop l'))
  |some (.slice e),.pv ⟨.slice e',l⟩=>AI (t:=.slice e') (t' :=.slice e) l fun l=>
   bound σ hi (Bu l).length fun h=>bound σ lo 0 fun l' =>He h (Bu l).length fun h=>He l' h fun l' =>
    k (.pv ⟨.slice e,((Bu l).take h).drop l'⟩)
  |some (.slice e),.ref (.slice e') p=>if e=e' then Bv σ p fun d=>AI (t' :=.slice e) d.x fun l=>
   bound σ hi (Bu l).length fun h=>bound σ lo 0 fun l' =>He h (Bu l).length fun h=>He l' h fun l' =>
    k (.vw e p l' h) else none
  |_,_=>none
 |.fieldAddr s x f=>match env.ty s with
  |some ts=>match Gu (Ao f) ts with
   |some tf=>match Nat.beq tf.size 0 with
    |true=>none
    |false=>match σ.val x with
     |.ptr p=>match σ.root p.name with
      |some (.data _ d _)=>match decide (Gu p.path d.t=some ts) with
       |true=>k (.ptr ⟨p.name,p.path++Ao f⟩)
       |false=>none
      |_=>none
     |.fptr d=>match decide (d.t=ts) with
      |true=>AB (Ao f) d.t d.x fun y=>k (.fptr y)
      |false=>none
     |_=>none
   |none=>none
  |none=>none
 |.field s x f=>match σ.val x with
  |.pv d=>match decide (env.ty s=some d.t) with
   |true=>AB (Ao f) d.t d.x fun y=>k (.pv y)
   |false=>none
  |_=>none
 |.indexAddr t x ix=>match σ.val ix with
  |.pv ⟨.int _,i⟩=>match σ.val x with
   |.pv ⟨.slice e,l⟩=>match decide (env.ty t=some (.slice e)) with
    |true=>match decide (0<=(Hc i)) with
     |true=>match (Bu l)[(Hc i).toNat]? with
      |some y=>k (.fptr ⟨e,y⟩)
      |none=>none
     |false=>none
    |false=>none
   |.ref (.slice e) p=>match decide (env.ty t=some (.slice e)) with
    |true=>Bv σ p fun d=>AI (t' :=.slice e) d.x fun l=>match decide (0<=(Hc i)) with
     |true=>match decide ((Hc i)<(Bu l).length) with
      |true=>k (.ptr ⟨p.name,p.path++[.at (Hc i).toNat]⟩)
      |false=>none
     |false=>none
    |false=>none
   |_=>none
  |_=>none
 |.index t x ix=>match env.ty t,σ.val x,σ.val ix with
  |some .str,.pv ⟨.str,l⟩,.pv ⟨.int _,i⟩=>match decide (0<=(Hc i)) with
   |true=>match (Lk l)[(Hc i).toNat]? with
    |some b=>k (JM .u8 b.toNat)
    |none=>none
   |false=>none
  |_,_,_=>none
 |.extract x i=>match σ.val x with
  |.tup l=>match l[i]? with
   |some s=>k s
   |none=>none
  |_=>none
 |.makeFunc (.func f) first caps=>match first.size with
  |0=>k (.clo f (caps.toList.map σ.val))
  |_=>none
 |_=>none
end Go.V
namespace Go.V
variable {α:Type}
def je:List PM->Bool
 |.tk _ _::_=>true
 |_=>false
def Av.quiet (f:Av):Bool:=((match Bh f.ps with | []=>true | _=>false)&&f.rs.all fun x=>decide (x.2 = .z)) && !(je f.ps)
def ER (σ:St):(ts:List Ty)->List Slot->(CB ts->Option α)->Option α
 |[],[],k=>k ()
 |t::ts,s::ss,k=>By σ t s fun x=>ER σ ts ss fun r=>k (x,r)
 |_,_,_=>none
def AP (env:Bf) (σ:St):(ps:List PM)->List Slot->(Args ps->Option α)->Option α
 |[],[],k=>k ()
 |.ro t::ps,s::ss,k=>Ep σ t s fun x=>AP env σ ps ss fun r=>k (x,r)
 |.rp t::ps,s::ss,k=>By σ t s fun x=>AP env σ ps ss fun r=>k (x,r)
 |.fn a b::ps,s::ss,k=>Uk env σ a b s fun φ=>AP env σ ps ss fun r=>k (φ,r)
 |.st f ts::ps,s::ss,k=>match s with
  |.clo g caps=>match Nat.beq g f with
   |true=>ER σ ts caps fun c=>AP env σ ps ss fun r=>k (c,r)
   |false=>none
  |_=>none
 |.io _ sh::ps,s::ss,k=>match s with
  |.ptr p | .ref _ p=>match σ.root p.name with
   |some (.data _ d sh')=>match decide (Be p.path sh'=true/\Eo p.path sh'=sh) with
    |true=>AB p.path d.t d.x fun y=>AI y.x fun x=>AP env σ ps ss fun r=>k (x,r)
    |false=>none
   |_=>none
  |_=>none
 |_,_,_=>none
def JC:List Slot->Slot
 |[s]=>s
 |l=>.tup l
def CD:(rs:List (Ty×Sh))->(io:List Ty)->CB (rs.map (·.1)++io)->List Slot
 |[],_,_=>[]
 |(t,_)::rs,io,r=>.pv ⟨t,r.1⟩::CD rs io r.2
def CV (env:Bf) (σ:St) (f:Av) (ss:List Slot) (k:Slot->Option α):Option α:=
 match Slot.lentL ss && !(f.rs.all fun x=>x.1.flat) with
 |true=>none
 |false=>AP env σ f.ps ss fun az=>match f.F az with
  |some r=>k (JC (CD f.rs (Bh f.ps) r))
  |none=>none
def ES (env:Bf) (σ:St) (f:Av) (ss:List Slot) (k:Slot->Option α):Option α:=
 match (f.rs.all fun x=>x.1.flat) with
 |false=>none
 |true=>AP env σ f.ps ss fun az=>match f.F az with
  |some r=>k (JC (CD f.rs (Bh f.ps) r))
  |none=>none
def IS:List PM->Bool
 |[]=>true
 |.io _ _::_ | .tk _ _::_=>false
 |_::ps=>IS ps
def BI:(rs:List (Ty×Sh))->(t:Ty)->(io:List Ty)->CB (rs.map (·.1)++(t::io))->List Slot×t.den
 |[],_,_,r=>([],r.1)
 |(u,_)::rs,t,io,r=>let q:=BI rs t io r.2;(.pv ⟨u,r.1⟩::q.1,q.2)
def Slot.killE (n:Name) (s:Slot):Slot:=match s with | .ptr ⟨_,[]⟩=>s | s=>s.kill n
def St.redo (σ:St) (n:Name) (r:AV):St:=
 {slots:=σ.slots.map fun x=>(x.1,x.2.killE n),mem:=(σ.lay n r).mem}
def Slot.killR (n:Name) (s:Slot):Slot:=match s with | .ref _ ⟨_,[]⟩=>s | s=>s.kill n
def St.redoR (σ:St) (n:Name) (r:AV):St:=
 {slots:=σ.slots.map fun x=>(x.1,x.2.killR n),mem:=(σ.lay n r).mem}
def IT (env:Bf) (σ:St) (f:Av) (ss:List Slot) (k:Slot->St->Option α):Option α:=
 match f,ss with
 |⟨.io t .z::ps,rs,F⟩,.ptr ⟨n,[]⟩::ss=>match IS ps && !Slot.lentL ss with
  |true=>match σ.root n with
   |some (.data true d .z)=>AI (t' :=t) d.x fun x=>AP env σ ps ss fun az=>match F (x,az) with
    |some r=>k (JC (BI rs t (Bh ps) r).1) (σ.redo n (.data true ⟨t,(BI rs t (Bh ps) r).2⟩ .z))
    |none=>none
   |_=>none
  |false=>none
 |⟨.io (.slice e) (.own s)::ps,rs,F⟩,.ref _ p::ss=>match IS ps&&((rs.all fun x=>x.1.flat) && !Slot.lentL ss) with
  |true=>match σ.root p.name with
   |some (.data b d sh)=>match decide (Be p.path sh=true/\Eo p.path sh = .own s) with
    |true=>AB p.path d.t d.x fun y=>AI (t' :=.slice e) y.x fun x=>AP env σ ps ss fun az=>match F (x,az) with
     |some r=>match (b||via p.path) with
      |true=>BT p.path d.t d.x ⟨.slice e,(BI rs (.slice e) (Bh ps) r).2⟩ fun x' =>match BS p.path sh (.own s) with
       |some sh' =>k (JC (BI rs (.slice e) (Bh ps) r).1) ((σ.lose p.name p.path).put p.name (.data b ⟨d.t,x'⟩ sh'))
       |none=>none
      |false=>match p.path with
       |[]=>k (JC (BI rs (.slice e) (Bh ps) r).1) (σ.redoR p.name (.data false ⟨.slice e,(BI rs (.slice e) (Bh ps) r).2⟩ (.own s)))
       |_=>none
     |none=>none
    |false=>none
   |_=>none
  |false=>none
 |⟨.tk t sh::ps,rs,F⟩,.ref _ ⟨n,[]⟩::ss=>match IS ps&&((rs.all fun x=>x.1.flat) && !Slot.lentL ss) with
  |true=>match σ.root n with
   |some (.data _ d sh')=>match decide (sh'=sh) with
    |true=>AI (t' :=t) d.x fun x=>AP env σ ps ss fun az=>match F (x,az) with
     |some r=>k (JC (CD rs (Bh ps) r)) (σ.drop n)
     |none=>none
    |false=>none
   |_=>none
  |false=>none
 |_,_=>none
def SH (env:Bf) (σ:St) (g:Operand):Option Av:=
 match σ.val g with
 |.clo h []=>match env.fn h with
  |some fu=>match fu.ps with
   |.io _ _::_ | .tk _ _::_=>some fu
   |_=>none
  |none=>none
 |_=>none
def Hf (σ:St) (t:Ty) (s:Slot) (k:t.den->Sh->St->Option α):Option α:=
 match s with
 |.pv d=>AI d.x fun x=>k x .z σ
 |.nilS=>match t with
  |.slice e=>k (([]:List e.den):(Ty.slice e).den) (Ty.slice e).ownAll σ
  |_=>none
 |.ref _ ⟨n,[]⟩=>match σ.root n with
  |some (.data false d sh)=>match sh.whole with
   |true=>AI d.x fun x=>k x sh (σ.drop n)
   |false=>none
  |_=>none
 |_=>none
def JN (σ:St) (t:Ty) (s:Slot) (k:t.den->Sh->St->Option α):Option α:=
 match s with
 |.ref u ⟨n,[]⟩=>match σ.root n with
  |some (.data true d sh)=>match sh.whole with
   |true=>AI d.x fun x=>k x sh (σ.drop n)
   |false=>none
  |_=>Hf σ t (.ref u ⟨n,[]⟩) k
 |s=>Hf σ t s k
def IU (t:Ty):List (Nat×Slot)->t.den->Sh->St->(t.den->Sh->St->Option α)->Option α
 |[],x,sh,σ,k=>k x sh σ
 |(i,s)::l,x,sh,σ,k=>match Gu (Ao i) t with
  |some t' =>Hf σ t' s fun y shy σ=>BT (Ao i) t x ⟨t',y⟩ fun x=>match BS (Ao i) sh shy with
   |some sh=>IU t l x sh σ k
   |none=>none
  |none=>none
def elemsK (e:Ty) (deep:Bool):Nat->List (Nat×Slot)->St->(List e.den->St->Option α)->Option α
 |_,[],σ,k=>k [] σ
 |i,(j,s)::l,σ,k=>match Nat.beq j i with
  |true=>JN σ e s fun y shy σ=>match (deep&&decide (shy≠e.ownAll)) with
   |true=>none
   |false=>elemsK e deep (i+1) l σ fun ys σ=>k (y::ys) σ
  |false=>none
def Slot.lone:Slot->Bool
 |.ptr _ | .fptr _ | .clo _ _ | .fnA _ _ _=>true
 |_=>false
def Bf.esh (env:Bf) (e:Ty):Sh:=match env.deep with | true=>e.ownAll | false=>.z
def AD (o:Oper):Name:=match o.dst with | some d=>d*8 | none=>7
def GQ (a b:List UInt8):List UInt8:=match (Op.bytesLess a b||a==b) with | true=>a | false=>b
def EP (a b:List UInt8):List UInt8:=match (Op.bytesLess a b) with | true=>b | false=>a
def DA (env:Bf) (σ:St) (c:Call) (k:Slot->Option α):Option α:=
 match c.callee with
 |.builtin .len=>match c.args.toList,(c.argTypes[0]?).bind env.ty with
  |[x],some t=>WJ σ t (σ.val x) fun n=>k (JM .i64 n)
  |_,_=>none
 |.builtin .min=>match c.args.toList.map σ.val with
  |[.pv ⟨.int kk,a⟩,.pv ⟨.int _,b⟩]=>k (JM kk (match decide ((Hc b)<(Hc a)) with | true=>Hc b | false=>Hc a))
  |[.pv ⟨.str,a⟩,.pv ⟨.str,b⟩]=>k (.pv ⟨.str,GQ (Lk a) (Lk b)⟩)
  |_=>none
 |.builtin .max=>match c.args.toList.map σ.val with
  |[.pv ⟨.int kk,a⟩,.pv ⟨.int _,b⟩]=>k (JM kk (match decide ((Hc b)>(Hc a)) with | true=>Hc b | false=>Hc a))
  |[.pv ⟨.str,a⟩,.pv ⟨.str,b⟩]=>k (.pv ⟨.str,EP (Lk a) (Lk b)⟩)
  |_=>none
 |.value f=>match σ.val f with
  |.clo g caps=>match env.fn g with
   |some fu=>match fu.quiet with
    |true=>CV env σ fu (c.args.toList.map σ.val++caps) k
    |false=>none
   |none=>match look env.ext g with
    |some fu=>match fu.quiet with
     |true=>ES env σ fu (c.args.toList.map σ.val++caps) k
     |false=>none
    |none=>none
  |.fnA a b φ=>match c.args.toList.map σ.val with
   |[s]=>Ep σ a s fun x=>match φ x with
    |some y=>k (.pv ⟨b,y⟩)
    |none=>none
   |_=>none
  |_=>none
 |_=>none
def JO (env:Bf) (σ:St) (f:FuncId) (x:Slot) (caps:List Slot) (k:Slot->Option α):Option α:=
 match x with
 |.pv d=>match env.fn f with
  |some ⟨.ro t :: .ro a::ps,[(b,.z)],F⟩=>match Bh ps,(b.flat && !Slot.lentL caps) with
   |[],true=>AI (t' :=t) d.x fun x=>CC σ ps caps fun c=>k (.fnA a b fun y=>(F (x,y,c)).map (·.1))
   |_,_=>none
  |_=>none
 |_=>none
def Av.fresh (f:Av):Bool:=((match Bh f.ps with | []=>true | _=>false)&&match f.rs with
 |(_,.z)::_=>false
 |(_,.gone)::rs=>rs.all fun x=>x.1.flat&&decide (x.2 = .z)
 |(_,sh)::rs=>sh.whole&&rs.all fun x=>x.1.flat&&decide (x.2 = .z)
 |[]=>false) && !(je f.ps)
def Hg (env:Bf) (σ:St) (f:Av) (n:Name) (ss:List Slot) (k:AV->Slot->Option α):Option α:=
 match f with
 |⟨ps,(t,.gone)::rs,F⟩=>match Slot.lentL ss with
  |true=>none
  |false=>AP env σ ps ss fun az=>match F az with
   |some r=>k (.data true ⟨t,r.1⟩ .z) (JC (.ptr ⟨n,[]⟩::CD rs (Bh ps) r.2))
   |none=>none
 |⟨ps,(t,sh)::rs,F⟩=>match (Slot.lentL ss && !(decide (sh=t.ownAll))) with
  |true=>none
  |false=>AP env σ ps ss fun az=>match F az with
   |some r=>k (.data false ⟨t,r.1⟩ sh) (JC (.ref t ⟨n,[]⟩::CD rs (Bh ps) r.2))
   |none=>none
 |_=>none
def HK (env:Bf) (σ:St) (g:Operand):Bool:=
 match σ.val g with
 |.clo f _=>match env.fn f with
  |some fu=>fu.fresh
  |none=>false
 |_=>false
def ET (env:Bf) (σ:St) (o:Oper) (k:AV->Slot->Option α):Option α:=
 match o.op with
 |.call c=>match c.callee with
  |.value g=>match σ.val g with
   |.clo f caps=>match env.fn f with
    |some fu=>match fu.fresh with
     |true=>Hg env σ fu (AD o) (c.args.toList.map σ.val++caps) k
     |false=>none
    |none=>none
   |_=>none
  |_=>none
 |_=>none
def aF (env:Bf) (σ:St) (e:Ty) (s:Slot):Sh:=
 match s with
 |.nilS=>env.esh e
 |.ref _ p=>match σ.root p.name with
  |some (.data _ _ sh)=>match Eo p.path sh with
   |.own s=>s
   |_=>.z
  |_=>.z
 |_=>.z
def Ul (σ:St) (s:Slot):Bool:=match s with
 |.ref _ p | .vw _ p _ _=>match σ.root p.name with
  |some (.data _ _ sh)=>decide (Eo p.path sh = .own .z)
  |_=>false
 |_=>false
def KF (σ:St) (e u:Ty) (s:Slot) (k:List e.den->St->Option α):Option α:=
 match u with
 |.str=>match s with
  |.pv ⟨.str,l⟩=>AI (t:=.slice (.int .u8)) (t' :=.slice e) ((Lk l).map fun b=>(b.toNat:Int)) fun ys=>k ys σ
  |_=>none
 |.slice _=>match ((s.lent && !e.flat) && !(Ul σ s)) with
  |true=>match s with
   |.ref _ ⟨m,[]⟩=>match σ.root m with
    |some (.data false d sh)=>match sh.whole with
     |true=>AI (t' :=.slice e) d.x fun ys=>k ys (σ.drop m)
     |false=>none
    |_=>none
   |_=>none
  |false=>Ep σ (.slice e) s fun ys=>k ys σ
 |_=>none
def KG (σ:St) (e u:Ty) (se:Sh) (s:Slot) (k:List e.den->St->Option α):Option α:=
 match se with
 |.z=>KF σ e u s k
 |se=>match u with
  |.slice _=>match s with
   |.ref _ ⟨m,[]⟩=>match σ.root m with
    |some (.data false d sh)=>match (decide (sh = .own se)&&se.whole) with
     |true=>AI (t' :=.slice e) d.x fun ys=>k ys (σ.drop m)
     |false=>none
    |_=>none
   |_=>none
  |_=>none
def OG (σ:St) (s:Slot) (e:Ty) (se:Sh) (nm:Name) (k:List e.den->Name->St->Option α):Option α:=
 match s with
 |.nilS=>k [] nm (σ.lay nm (.data false ⟨.slice e,([]:List e.den)⟩ (.own se)))
 |.ref _ p=>match σ.root p.name with
  |some (.data b d sh)=>match (Be p.path sh&&decide (Eo p.path sh = .own se)) with
   |true=>AB p.path d.t d.x fun y=>AI (t' :=.slice e) y.x fun xs=>match (b||via p.path) with
    |true=>match BS p.path sh .gone with
     |some sh' =>k xs nm ((σ.put p.name (.data b d sh')).lay nm (.data false ⟨.slice e,xs⟩ (.own se)))
     |none=>none
    |false=>match p.path with
     |[]=>match Nat.beq p.name 4 with
      |true=>k xs nm ((σ.drop p.name).lay nm (.data false ⟨.slice e,xs⟩ (.own se)))
      |false=>k xs p.name σ
     |_=>none
   |false=>none
  |_=>none
 |_=>none
def Av.tf (f:Av):Bool:=match f with
 |⟨.tk _ _::_,(.slice _,.own _)::_,_⟩=>true
 |_=>false
def KH (env:Bf) (σ:St) (nm:Name) (f:Av) (args:List Operand) (k:Slot->St->Option α):Option α:=
 match f,args with
 |⟨.tk (.slice e) (.own se)::ps,(.slice u,.own su)::rs,F⟩,y::ys=>match IS ps&&(rs.all fun x=>x.1.flat) with
  |true=>OG σ (σ.val y) e se nm fun xs n σ=>match (!(Slot.lentL (ys.map (σ.drop n).val))||decide (su=u.ownAll)) with
   |true=>AP env (σ.drop n) ps (ys.map (σ.drop n).val) fun az=>match F (xs,az) with
    |some r=>k (JC (.ref (.slice u) ⟨n,[]⟩::CD rs (Bh ps) r.2)) (σ.lay n (.data false ⟨.slice u,r.1⟩ (.own su)))
    |none=>none
   |false=>none
  |false=>none
 |_,_=>none
def Um (env:Bf) (σ:St) (f:Av) (args:List Operand) (k:Slot->St->Option α):Option α:=
 match f,args with
 |⟨.io (.slice e) (.own s)::ps,rs,F⟩,y::ys=>match IS ps&&((rs.all fun x=>x.1.flat)&&decide (s=e.ownAll)) with
  |true=>match σ.val y with
   |.ref _ ⟨n,[]⟩=>match σ.root n with
    |some (.data false d sh)=>match decide (sh = .own s) with
     |true=>AI (t' :=.slice e) d.x fun x=>AP env (σ.drop n) ps (ys.map (σ.drop n).val) fun az=>match F (x,az) with
      |some r=>k (JC (BI rs (.slice e) (Bh ps) r).1) (σ.redoR n (.data false ⟨.slice e,(BI rs (.slice e) (Bh ps) r).2⟩ (.own s)))
      |none=>none
     |false=>none
    |_=>none
   |_=>none
  |false=>none
 |_,_=>none
def JP (σ:St) (args:List Operand):Bool:=match args with
 |[]=>false
 |_::ys=>Slot.lentL (ys.map σ.val)
def Qw:Ty->Sh
 |.slice _=>.gone
 |.pair a b=>.pr (Qw a) (Qw b)
 |_=>.z
def Un (env:Bf) (σ:St) (f:Av) (ss:List Slot) (k:Slot->St->Option α):Option α:=
 match f,ss with
 |⟨.tk t sh::ps,rs,F⟩,.ref _ p::ss=>match IS ps&&((rs.all fun x=>x.1.flat) && !Slot.lentL ss) with
  |true=>match σ.root p.name with
   |some (.data b d shr)=>match decide (Be p.path shr=true/\Eo p.path shr=sh/\(b||via p.path)=true) with
    |true=>AB p.path d.t d.x fun y=>AI (t' :=t) y.x fun x=>AP env σ ps ss fun az=>match F (x,az) with
     |some r=>BT p.path d.t d.x ⟨t,x⟩ fun x' =>match BS p.path shr (Qw t) with
      |some sh' =>k (JC (CD rs (Bh ps) r)) ((σ.lose p.name p.path).put p.name (.data b ⟨d.t,x'⟩ sh'))
      |none=>none
     |none=>none
    |false=>none
   |_=>none
  |false=>none
 |_,_=>none
def Zb (σ:St) (fu:Av) (args:List Operand):Bool:=match fu.ps,args with
 |.tk _ _::_,y::_=>match σ.val y with
  |.ref _ ⟨_,_::_⟩=>true
  |_=>false
 |_,_=>false
def KI (env:Bf) (σ:St) (nm:Name) (fu:Av) (args:List Operand) (k:Slot->St->Option α):Option α:=
 match fu.tf with
 |true=>KH env σ nm fu args k
 |false=>match JP σ args with
  |true=>Um env σ fu args k
  |false=>match Zb σ fu args with
   |true=>Un env σ fu (args.map σ.val) k
   |false=>IT env σ fu (args.map σ.val) k
def HG (e:Ty) (l:List e.den) (lo hi:Nat):List e.den:=(l.take lo++List.replicate (hi-lo) e.zero)++l.drop hi
def Cj (env:Bf) (σ:St) (o:Oper) (k:Slot->St->Option α):Option α:=
 match o.op with
 |.alloc t=>match env.ty t with
  |some t' =>k (.ptr ⟨AD o,[]⟩) (σ.lay (AD o) (.data true ⟨t',t'.zero⟩ t'.ownAll))
  |none=>match env.one t with
   |true=>k (.ptr ⟨AD o,[]⟩) (σ.lay (AD o) (.held .undef))
   |false=>none
 |.box t x=>match env.ty t with
  |some t' =>Hf σ t' (σ.val x) fun y sh σ=>k (.ptr ⟨AD o,[]⟩) (σ.lay (AD o) (.data true ⟨t',y⟩ sh))
  |none=>match (env.one t&&(σ.val x).lone) with
   |true=>k (.ptr ⟨AD o,[]⟩) (σ.lay (AD o) (.held ((σ.val x).kill (AD o))))
   |false=>none
 |.build t parts=>match env.ty t with
  |some t' =>match t'.agg with
   |true=>IU t' (parts.toList.map fun x=>(x.1,σ.val x.2)) t'.zero t'.ownAll σ fun y sh σ=>
    match t'.flat with
    |true=>k (.pv ⟨t',y⟩) σ
    |false=>k (.ref t' ⟨AD o,[]⟩) (σ.lay (AD o) (.data false ⟨t',y⟩ sh))
   |false=>none
  |none=>none
 |.buildSlice t n parts=>match env.ty t with
  |some (.slice e)=>match (Nat.beq n parts.size&&(Nat.blt 0 e.size&&Nat.ble (n*e.size) 16777216)) with
   |true=>elemsK e env.deep 0 (parts.toList.map fun x=>(x.1,σ.val x.2)) σ fun l σ=>
    match decide (AD o∈env.still) with
    |true=>k (.pv ⟨.slice e,l⟩) σ
    |false=>k (.ref (.slice e) ⟨AD o,[]⟩) (σ.lay (AD o) (.data false ⟨.slice e,l⟩ (.own (env.esh e))))
   |false=>none
  |_=>none
 |.store t a x=>match σ.val a with
  |.ptr p=>match σ.root p.name with
   |some (.data b d sh)=>match Gu p.path d.t with
    |some t' =>match decide (env.ty t=some t' /\Be p.path sh=true) with
     |true=>JN σ t' (σ.val x) fun y shy σ' =>match σ'.root p.name with
      |some (.data _ _ _)=>BT p.path d.t d.x ⟨t',y⟩ fun x' =>match BS p.path sh shy with
       |some sh' =>k .undef ((σ'.lose p.name p.path).put p.name (.data b ⟨d.t,x'⟩ sh'))
       |none=>match BS p.path sh .z with
        |some sh' =>k .undef ((σ'.lose p.name p.path).put p.name (.data b ⟨d.t,x'⟩ sh'))
        |none=>none
      |_=>none
     |false=>none
    |none=>none
   |_=>none
  |_=>none
 |.convert src dst x=>match env.ty src,env.ty dst,σ.val x with
  |some .str,some (.slice (.int .u8)),.pv ⟨.str,l⟩=>k (.ref (.slice (.int .u8)) ⟨AD o,[]⟩)
    (σ.lay (AD o) (.data false ⟨.slice (.int .u8),(Lk l).map fun b=>(b.toNat:Int)⟩ (.own .z)))
  |_,_,_=>none
 |.makeSlice t n c=>match env.ty t,σ.val n,σ.val c with
  |some (.slice e),.pv ⟨.int _,i⟩,.pv ⟨.int _,j⟩=>He j A_ fun _=>He i (Hc j).toNat fun i=>
   k (.ref (.slice e) ⟨AD o,[]⟩) (σ.lay (AD o) (.data false ⟨.slice e,List.replicate i e.zero⟩ (.own (env.esh e))))
  |_,_,_=>none
 |.call c=>match c.callee with
  |.builtin .append=>match c.args.toList,c.argTypes.toList with
   |[s,x],[t,tx]=>match env.ty t,env.ty tx with
    |some (.slice e),some u=>match aF env σ e (σ.val s) with
     |se=>KG σ e u se (σ.val x) fun ys σ=>OG σ (σ.val s) e se (AD o) fun xs n σ=>match decide (xs.length+ys.length<=A_) with
      |true=>k (.ref (.slice e) ⟨n,[]⟩) (σ.lay n (.data false ⟨.slice e,xs++ys⟩ (.own se)))
      |false=>none
    |_,_=>none
   |_,_=>none
  |.builtin .clear=>match c.args.toList,c.argTypes.toList with
   |[x],[t]=>match env.ty t,σ.val x with
    |some (.slice e),.vw _ ⟨n,[]⟩ lo hi=>match σ.root n with
     |some (.data false d (.own .z))=>match e.flat with
      |true=>AI (t' :=.slice e) d.x fun l=>k .undef (σ.redoR n (.data false ⟨.slice e,HG e l lo hi⟩ (.own .z)))
      |false=>none
     |_=>none
    |_,_=>none
   |_,_=>none
  |.value g=>match SH env σ g with
   |some fu=>KI env σ (AD o) fu c.args.toList k
   |none=>match HK env σ g with
    |true=>ET env σ o fun R s=>k s (σ.lay (AD o) R)
    |false=>DA env σ c fun s=>k s σ
  |_=>DA env σ c fun s=>k s σ
 |.makeFunc g first caps=>match g,first.toList with
  |.func f,[x]=>JO env σ f (σ.val x) (caps.toList.map σ.val) fun s=>k s σ
  |_,_=>none
 |_=>none
def Lf (o:Oper):Bool:=
 match o.op with
 |.alloc _ | .box _ _ | .store _ _ _ | .makeSlice _ _ _ | .build _ _ | .buildSlice _ _ _ | .call _=>true
 |.makeFunc _ first _=>Nat.beq first.size 1
 |_=>false
def toBytes (env:Bf) (op:Op):Bool:=
 match op with
 |.convert _ dst _=>match env.ty dst with | some (.slice _)=>true | _=>false
 |_=>false
def Pt (env:Bf) (dst:Option Nat) (k:St->Option α) (s:Slot) (σ:St):Option α:=
 match dst with
 |some d=>match Nat.blt d env.n with
  |true=>k (σ.set d s)
  |false=>none
 |none=>k σ
def EJ (env:Bf) (o:Oper) (σ:St) (k:St->Option α):Option α:=
 match (Lf o||toBytes env o.op) with
 |true=>Cj env σ o (Pt env o.dst k)
 |false=>AA env σ o.op fun s=>Pt env o.dst k s σ
def WK (env:Bf) (o:Oper) (σ:St) (k:St->Option α):Option α:=
 match o.dst with
 |some d=>match Nat.blt d env.n with
  |true=>k (σ.set d (.tup []))
  |false=>none
 |none=>k σ
def eJ (env:Bf) (ops:Array Oper) (o:Oper) (σ:St) (k:St->Option α):Option α:=
 match o.guard with
 |none=>EJ env o σ k
 |some (j,want)=>match (ops[j]?).bind (·.dst) with
  |some d=>match Nat.blt d env.n,σ.slot d with
   |true,.pv ⟨.bool,b⟩=>match (Za b) with
    |true=>match want with
     |true=>EJ env o (σ.set d (Cw true)) k
     |false=>WK env o (σ.set d (Cw true)) k
    |false=>match want with
     |true=>WK env o (σ.set d (Cw false)) k
     |false=>EJ env o (σ.set d (Cw false)) k
   |true,.tup []=>WK env o σ k
   |_,_=>none
  |none=>none
def St.frz (σ:St) (i:Nat):St:=
 match σ.slot i with
 |.ref _ ⟨n,[]⟩=>match σ.root n with
  |some (.data false d sh)=>match sh.whole with
   |true=>(σ.drop n).set i (.pv d)
   |false=>σ
  |_=>σ
 |.ptr ⟨n,[]⟩=>match σ.root n with
  |some (.data true d sh)=>match sh.whole with
   |true=>σ.put n (.data true d .z)
   |false=>σ
  |_=>σ
 |_=>σ
def St.frzL (σ:St):List Nat->St
 |[]=>σ
 |i::l=>(σ.frz i).frzL l
def St.frzOp (σ:St) (hints:List (Nat×List Nat×List Name)) (o:Oper):St:=
 match o.dst with
 |some d=>match look hints (d+400000) with
  |some (f,_)=>σ.frzL f
  |none=>σ
 |none=>σ
def eK (env:Bf) (ops:Array Oper):List Nat->St->(St->Option α)->Option α
 |[],σ,k=>k σ
 |i::l,σ,k=>match ops[i]? with
  |some o=>eJ env ops o (σ.frzOp env.hints o) fun σ=>eK env ops l σ k
  |none=>none
def Gr (e:Ty):Nat->List (Nat×Slot)->(List e.den->Option α)->Option α
 |_,[],k=>k []
 |i,(j,s)::l,k=>match Nat.beq j i with
  |true=>match s with
   |.pv d=>AI (t' :=e) d.x fun y=>Gr e (i+1) l fun ys=>k (y::ys)
   |_=>none
  |false=>none
def LC (env:Bf) (σ:St) (o:Oper) (t:TypeId) (n:Nat) (parts:Array (Nat×Operand)) (k:Slot->Option α):Option α:=
 match decide (AD o∈env.still) with
 |false=>none
 |true=>match env.ty t with
  |some (.slice e)=>match (env.deep && !(decide (e.ownAll = .z))) with
   |true=>none
   |false=>match (Nat.beq n parts.size&&(Nat.blt 0 e.size&&Nat.ble (n*e.size) 16777216)) with
    |true=>Gr e 0 (parts.toList.map fun x=>(x.1,σ.val x.2)) fun l=>k (.pv ⟨.slice e,l⟩)
    |false=>none
  |_=>none
def IV (t:Ty):List (Nat×Slot)->t.den->(t.den->Option α)->Option α
 |[],x,k=>k x
 |(i,s)::l,x,k=>match s with
  |.pv d=>match Gu (Ao i) t with
   |some t' =>AI (t' :=t') d.x fun y=>BT (Ao i) t x ⟨t',y⟩ fun x=>IV t l x k
   |none=>none
  |_=>none
def Gv (env:Bf) (σ:St) (t:TypeId) (parts:Array (Nat×Operand)) (k:Slot->Option α):Option α:=
 match env.ty t with
 |some t' =>match t'.agg with
  |true=>IV t' (parts.toList.map fun x=>(x.1,σ.val x.2)) t'.zero fun y=>k (.pv ⟨t',y⟩)
  |false=>none
 |none=>none
def Bp (env:Bf) (σ:St) (o:Oper) (k:Slot->Option α):Option α:=
 match o.op with
 |.call c=>DA env σ c k
 |.buildSlice t n parts=>LC env σ o t n parts k
 |.build t parts=>Gv env σ t parts k
 |.makeFunc g first caps=>match g,first.toList with
  |.func f,[x]=>JO env σ f (σ.val x) (caps.toList.map σ.val) k
  |_,_=>AA env σ (.makeFunc g first caps) k
 |op=>AA env σ op k
def onEdge (o:Oper) (j:Nat):Bool:=o.after.toList.any fun e=>Nat.beq e.on j&&match e.ground with | .textOnly _ | .gcOnly _=>false | _=>true
def eL:List Nat->Nat->Nat
 |[],_=>0
 |j::l,i=>match Nat.beq j i with | true=>0 | false=>eL l i+1
def NR (ops:Array Oper):Bool:=ops.toList.zipIdx.all fun (o,i)=>o.after.toList.all fun e=>Nat.blt e.on i
def rankOk (ops:Array Oper):Bool:=
 let ord:=Region.linearise .gc ops 0
 ops.toList.zipIdx.all fun (o,i)=>o.after.toList.all fun e=>Nat.blt e.on ops.size&&((match e.ground with | .gcOnly _=>true | _=>Nat.blt e.on i) &&
  (match e.ground with | .textOnly _=>true | _=>Nat.blt (eL ord e.on) (eL ord i)))
def Uo (n:Nat) (ops:Array Oper):Bool:=
 (NR ops||rankOk ops) &&
 ops.toList.zipIdx.all fun (o,i)=>(match o.dst with | some d=>Nat.blt d n | none=>false) &&
  (match o.op with | .select _ _=>false | _=>true) &&
  (match o.guard with | some (j,_)=>Nat.blt j i | none=>true) &&
  ops.toList.zipIdx.all fun (o',j)=>match o'.dst with
   |some d=>(Nat.beq i j||(match o.dst with | some d' =>!Nat.beq d d' | none=>false))&&(!((o.looksAt ops).any fun x=>Nat.beq x d)||((Nat.blt j i&&onEdge o j)||(Nat.blt i j&&onEdge o' i)))
   |none=>false
def BM (env:Bf) (ops:Array Oper) (o:Oper) (σ:St) (k:Slot->Option α):Option α:=
 match o.guard with
 |none=>Bp env σ o k
 |some (j,want)=>match (ops[j]?).bind (·.dst) with
  |some d=>match Nat.blt d env.n,σ.slot d with
   |true,.pv ⟨.bool,b⟩=>match (Za b) with
    |true=>match want with
     |true=>Bp env σ o k
     |false=>k (.tup [])
    |false=>match want with
     |true=>k (.tup [])
     |false=>Bp env σ o k
   |true,.tup []=>k (.tup [])
   |_,_=>none
  |none=>none
def Qx (env:Bf) (ops:Array Oper) (o:Oper) (σ:St) (k:Slot->St->Option α):Option α:=
 match o.guard with
 |none=>Bp env σ o fun s=>k s σ
 |some (j,want)=>match (ops[j]?).bind (·.dst) with
  |some d=>match Nat.blt d env.n,σ.slot d with
   |true,.pv ⟨.bool,b⟩=>match (Za b) with
    |true=>match want with
     |true=>Bp env (σ.set d (Cw true)) o fun s=>k s (σ.set d (Cw true))
     |false=>k (.tup []) (σ.set d (Cw true))
    |false=>match want with
     |true=>k (.tup []) (σ.set d (Cw false))
     |false=>Bp env (σ.set d (Cw false)) o fun s=>k s (σ.set d (Cw false))
   |true,.tup []=>k (.tup []) σ
   |_,_=>none
  |none=>none
def WL (env:Bf) (ops:Array Oper):List Nat->St->(St->Option α)->Option α
 |[],σ,k=>k σ
 |i::l,σ,k=>match ops[i]? with
  |some o=>Qx env ops o σ fun s σ=>match o.dst with
   |some d=>WL env ops l (σ.set d s) k
   |none=>none
  |none=>none
def GG (env:Bf) (σ:St) (o:Oper) (k:Name->Bi->AV->Option α):Option α:=
 match o.op with
 |.store t a x=>match σ.val a,σ.val x with
  |.ptr p,.pv dx=>match σ.root p.name with
   |some (.data b d sh)=>match Gu p.path d.t with
    |some t' =>match decide (env.ty t=some t' /\Be p.path sh=true) with
     |true=>AI (t' :=t') dx.x fun y=>BT p.path d.t d.x ⟨t',y⟩ fun x' =>match BS p.path sh .z with
      |some sh' =>k p.name p.path (.data b ⟨d.t,x'⟩ sh')
      |none=>none
     |false=>none
    |none=>none
   |_=>none
  |_,_=>none
 |_=>none
def Qy (o:Oper):Bool:=
 (match o.guard with | none=>true | some _=>false) &&
 match o.op with
 |.move _ | .assign _ | .pick _ _ _ | .binOp _ _ _ _ _ | .unOp _ _ _ | .extract _ _ | .slice _ _ _ _ none=>true
 |.load _ (.tmp _)=>true
 |_=>false
def Up (o:Oper):Bool:=match o.op with | .call _=>true | _=>false
def freeIn (ops:Array Oper) (om o:Oper):Bool:=
 Qy o&&match o.op with
 |.load _ (.tmp x)=>Up om&&ops.toList.all fun o' =>match o'.dst with | some d=>!Nat.beq d x | none=>true
 |_=>true
def Slot.plain:Slot->Bool
 |.pv _=>true
 |.tup l=>l.all fun s=>match s with | .pv _=>true | _=>false
 |_=>false
def freeArgs (σ:St) (o:Oper):Bool:=match o.op with
 |.load _ (.tmp x)=>match σ.slot x with
  |.fptr _=>true
  |.ptr p=>match σ.root p.name with
   |some (.data _ _ _)=>true
   |_=>false
  |_=>false
 |_=>o.op.operands.toList.all fun y=>match y with
  |.tmp t=>(σ.slot t).plain
  |_=>true
inductive GN where
 |put (n:Name) (q:Bi) (R:AV)
 |lay (n:Name) (R:AV) (d:Nat) (s:Slot)
def GN.bad:GN->Slot->Bool
 |.put n q _,s=>s.hit n q
 |.lay n _ _ _,s=>s.men n
def GN.ap:GN->St->St
 |.put n q R,σ=>(σ.lose n q).put n R
 |.lay n R d s,σ=>(σ.lay n R).set d s
def IW (env:Bf) (σ:St) (pd:Option (Nat×Nat×Ty)) (o:Oper) (k:GN->Option α):Option α:=
 match o.op with
 |.store t a x=>match pd with
  |none=>GG env σ o fun n q R=>k (.put n q R)
  |some (_,d,t')=>match a,σ.val x with
   |.tmp y,.pv dx=>match Nat.beq y d&&decide (env.ty t=some t' /\dx.t=t') with
    |true=>k (.lay (d*8) (.data true dx .z) d (.ptr ⟨d*8,[]⟩))
    |false=>none
   |_,_=>none
 |.call _=>match pd,o.dst with
  |none,some d=>ET env σ o fun R s=>k (.lay (AD o) R d s)
  |_,_=>none
 |_=>none
def GO (ops:Array Oper):Nat->List Nat->List Nat
 |0,acc=>acc
 |i+1,acc=>match acc.any fun j=>match ops[j]? with | some o=>onEdge o i | none=>false with
  |true=>GO ops i (i::acc)
  |false=>GO ops i acc
def SI (ops:Array Oper) (om:Oper) (m i:Nat) (o:Oper):Bool:=((Nat.blt i m&&onEdge om i)||(Nat.blt m i&&onEdge o m))||(Nat.blt i m&&(GO ops m [m]).any (Nat.beq i))
def Uq (o:Oper):Bool:=match o.op with | .buildSlice _ _ _=>false | _=>true
def DM (pd:Option (Nat×Nat×Ty)) (i:Nat):Bool:=match pd with | some (j,_,_)=>Nat.beq j i | none=>false
def Zc (pd:Option (Nat×Nat×Ty)) (ops:Array Oper) (m i:Nat) (o:Oper):Bool:=
 match pd with
 |none=>true
 |some (j,d,_)=>Nat.beq i m||(Nat.beq i j||(!((o.looksAt ops).any fun x=>Nat.beq x d)&&Uq o))
def PG (n:Nat) (ops:Array Oper) (m:Nat) (pd:Option (Nat×Nat×Ty)):Bool:=
 (NR ops||rankOk ops) &&
 match ops[m]? with
 |none=>false
 |some om=>(match om.guard with | none=>true | some _=>false)&&((match om.dst with | none=>true | some d=>Nat.blt d n&&(match om.op with | .call _=>true | _=>false)) &&
  ((match pd with
   |none=>true
   |some (i,_,_)=>Nat.blt i m&&(onEdge om i&&(match om.dst with | none=>true | some _=>false))) &&
  ops.toList.zipIdx.all fun (o,i)=>
   (Nat.beq i m||((match o.dst with | some d=>Nat.blt d n | none=>false)&&(DM pd i||(SI ops om m i o||freeIn ops om o)))) &&
   (Zc pd ops m i o &&
   ops.toList.zipIdx.all fun (o',j)=>match o'.dst with
    |some d=>(Nat.beq i j||(match o.dst with | some d' =>!Nat.beq d d' | none=>true))&&(!((o.looksAt ops).any fun x=>Nat.beq x d)||((Nat.blt j i&&onEdge o j)||(Nat.blt i j&&onEdge o' i)))
    |none=>true)))
def segK (env:Bf) (ops:Array Oper) (sk fr:Nat->Bool) (bad:Slot->Bool):List Nat->St->(St->Option α)->Option α
 |[],σ,k=>k σ
 |i::l,σ,k=>match ops[i]? with
  |some o=>match sk i with
   |true=>match o.dst with
    |some d=>segK env ops sk fr bad l (σ.set d .undef) k
    |none=>none
   |false=>match (!(fr i)||freeArgs σ o) with
    |true=>Qx env ops o σ fun s σ=>match (fr i&&bad s) with
     |false=>match o.dst with
      |some d=>segK env ops sk fr bad l (σ.set d s) k
      |none=>none
     |true=>none
    |false=>none
  |none=>none
def JQ (ops:Array Oper) (m i:Nat):Bool:=
 match ops[i]?,ops[m]? with
 |some o,some om=>!(SI ops om m i o)
 |_,_=>false
def Zd (ops:Array Oper) (m:Nat) (bad:Slot->Bool) (σ:St):Bool:=
 (List.range' 0 m).all fun j=>(match (ops[j]?).bind (·.dst) with | some d=>!(bad (σ.slot d)) | none=>false)&&match (ops[j]?).map Oper.op with
  |some (Op.load _ (.tmp x))=>!(bad (σ.slot x))
  |_=>true
def eM (env:Bf) (ops:Array Oper) (m:Nat) (pd:Option (Nat×Nat×Ty)) (σ:St) (k:St->Option α):Option α:=
 segK env ops (DM pd) (JQ ops m) (fun _=>false) (List.range' 0 m) σ fun σ=>match ops[m]? with
  |some om=>IW env σ pd om fun E=>match Zd ops m E.bad σ with
   |true=>segK env ops (fun _=>false) (JQ ops m) E.bad (List.range' (m+1) (ops.size-(m+1))) (E.ap σ) k
   |false=>none
  |none=>none
def Qz (env:Bf) (ops:Array Oper):Option (Nat×Nat×Ty):=ops.toList.zipIdx.findSome? fun x=>match x.1.op,x.1.dst,x.1.guard with
 |.alloc t,some d,none=>(env.ty t).map fun t' =>(x.2,d,t')
 |_,_,_=>none
def nG (env:Bf) (σ:St) (ops:Array Oper):Bool:=!(ops.toList.any fun x=>match x.op with | .call c=>(match c.callee with | .builtin .append | .builtin .clear=>true | _=>false) | _=>false)&&Nat.beq 1 (ops.toList.filter fun x=>match x.dst with
 |none=>true
 |some _=>match x.op with
  |.call c=>match c.callee with
   |.value g=>HK env σ g||(SH env σ g).isSome
   |_=>false
  |_=>false).length
def r7 (env:Bf) (σ:St) (ops:Array Oper):Option Nat:=(ops.toList.zipIdx.find? fun x=>match x.1.dst with
 |none=>true
 |some _=>match x.1.op with
  |.call c=>match c.callee with
   |.value g=>HK env σ g
   |_=>false
  |_=>false).map (·.2)
def jf (ops:Array Oper) (m:Nat):Bool:=ops.toList.zipIdx.any fun x=>match x.1.op with
 |.extract _ _=>JQ ops m x.2&&(GO ops x.2 [x.2]).any (Nat.beq m)
 |_=>false
def Slot.namesL:List Slot->List Name
 |[]=>[]
 |s::l=>(match s with
  |.ref _ p | .vw _ p _ _ | .ptr p=>[p.name]
  |.clo _ caps=>caps.filterMap fun s=>match s with | .ref _ p | .vw _ p _ _ | .ptr p=>some p.name | _=>none
  |_=>[])++Slot.namesL l
def KJ (o:Oper):Bool:=
 match o.op with
 |.move (.tmp _) | .assign (.tmp _) | .load _ (.tmp _) | .fieldAddr _ (.tmp _) _=>true
 |.slice _ (.tmp _) _ _ none | .indexAddr _ (.tmp _) _ | .buildSlice _ _ _ | .binOp _ _ _ _ _ | .convert _ _ _=>true
 |.makeFunc (.func _) first _=>Nat.beq first.size 0
 |.unOp _ _ _ | .pick _ _ _ | .extract _ _ | .index _ _ _ | .build _ _=>true
 |.call c=>match c.callee with
  |.builtin .len | .builtin .min | .builtin .max | .value _=>true
  |_=>false
 |_=>false
def jg (env:Bf) (σ:St) (ops:Array Oper) (i:Nat) (o:Oper) (acc:List Nat):Bool:=
 match o.op with
 |.call c=>match c.callee with
  |.value g=>(match SH env σ g with | none=>!(HK env σ g) | some _=>false)&&(GO ops i [i]).all fun j=>Nat.beq j i||acc.any (Nat.beq j)
  |_=>true
 |.build t parts=>(match env.ty t with | some t' =>t'.flat | none=>false)||parts.toList.all fun x=>match x.2 with
  |.tmp y=>ops.toList.zipIdx.any fun p=>(match p.1.dst with | some d=>Nat.beq d y | none=>false)&&(acc.any (Nat.beq p.2)&&match p.1.op with | .move _ | .assign _=>false | _=>true)
  |_=>true
 |_=>true
def Ur (ops:Array Oper) (i:Nat) (o:Oper) (acc:List Nat):Bool:=
 match o.op,o.dst with
 |.move (.tmp x),some d | .assign (.tmp x),some d | .extract (.tmp x) _,some d=>
  (ops.toList.zipIdx.any fun p=>(match p.1.dst with | some y=>Nat.beq y x | none=>false)&&acc.any (Nat.beq p.2)) &&
   ops.toList.zipIdx.all fun p=>!(Nat.blt p.2 i) || !((p.1.looksAt ops).any (Nat.beq d))
 |_,_=>false
def eN (st:List Name) (o:Oper):Bool:=
 match o.op with
 |.buildSlice _ _ _=>decide (AD o∈st)
 |_=>true
def Ze (ops:Array Oper) (o:Oper) (i:Nat) (x:Nat) (acc:List Nat):Bool:=
 ops.toList.zipIdx.all fun p=>match p.1.dst with
  |some d=>!Nat.beq d x||((acc.any (Nat.beq p.2)&&(onEdge o p.2&&Nat.blt p.2 i))||(!(acc.any (Nat.beq p.2))&&(onEdge p.1 i&&Nat.blt i p.2)))
  |none=>true
def WM (o:Oper):Bool:=match o.op with
 |.store _ _ _=>true
 |.call c=>match c.callee with
  |.builtin .append=>true
  |.builtin .clear=>true
  |_=>false
 |_=>false
def Mj (env:Bf) (σ:St) (ops:Array Oper):List Nat->List Nat->List Nat
 |[],acc=>acc.reverse
 |i::l,acc=>match ops[i]? with
  |some o=>match (KJ o&&eN env.still o)&&((match o.dst with | some _=>true | none=>false)&&((o.looksAt ops).all (fun x=>Ze ops o i x acc) &&
    (jg env σ ops i o acc&&(Ur ops i o acc||(GO ops i [i]).all fun j=>match ops[j]? with | some o' =>!(WM o') | none=>false)))) with
   |true=>Mj env σ ops l (i::acc)
   |false=>Mj env σ ops l acc
  |none=>Mj env σ ops l acc
abbrev Pd:=Option (Nat×Nat×Ty×Nat)
def eO (pd:Pd) (i:Nat):Bool:=match pd with | some (j,_)=>Nat.beq j i | none=>false
def Us (ops:Array Oper) (Q:List Nat) (pd:Pd):List Nat:=(List.range ops.size).filter fun i=>!(Q.any (Nat.beq i)) && !(eO pd i)
def eP (ops:Array Oper) (i:Nat):Bool:=match ops[i]? with
 |some o=>!(Lf o)&&match o.op,o.dst with
  |.convert _ _ _,_=>false
  |_,some _=>true
  |_,none=>false
 |none=>false
def Hh (ops:Array Oper) (Q:List Nat) (pd:Pd):List Nat:=((Us ops Q pd).reverse.takeWhile (eP ops)).reverse
def JR (ops:Array Oper) (Q:List Nat) (pd:Pd):List Nat:=((Us ops Q pd).reverse.dropWhile (eP ops)).reverse
def Mk (ops:Array Oper):List Nat->Bool
 |i::j::l=>(GO ops j [j]).any (Nat.beq i)&&Mk ops (j::l)
 |_=>true
def Ut:List Nat->Bool
 |i::j::l=>Nat.blt i j&&Ut (j::l)
 |_=>true
def PH (n:Nat) (ops:Array Oper) (Q:List Nat) (pd:Pd):Bool:=
 (Ut Q&&Ut (Hh ops Q pd))&&((NR ops||rankOk ops)&&(Mk ops (JR ops Q pd)&&(((Hh ops Q pd).all fun i=>match ops[i]? with
  |some o=>((match o.dst with | some _=>true | none=>false)&&(Q.all (fun q=>(GO ops i [i]).any (Nat.beq q))&&(JR ops Q pd).all fun q=>(GO ops i [i]).any (Nat.beq q))) &&
   (o.looksAt ops).all fun x=>ops.toList.zipIdx.all fun q=>match q.1.dst with | some d=>!Nat.beq d x||(!((Hh ops Q pd).any (Nat.beq q.2))||(onEdge o q.2&&Nat.blt q.2 i)) | none=>true
  |none=>false)&&ops.toList.zipIdx.all fun p=>
  (match p.1.guard with | none=>true | some _=>Q.any (Nat.beq p.2)||(Hh ops Q pd).any (Nat.beq p.2))&&((match p.1.dst with | some d=>Nat.blt d n | none=>true) &&
  ((match Q.any (Nat.beq p.2) with
   |true=>KJ p.1&&((match p.1.dst with | some _=>true | none=>false)&&(p.1.looksAt ops).all fun x=>Ze ops p.1 p.2 x Q)
   |false=>(p.1.looksAt ops).all fun x=>ops.toList.zipIdx.all fun q=>match q.1.dst with | some d=>!Nat.beq d x||(!(Q.any (Nat.beq q.2))||onEdge p.1 q.2) | none=>true) &&
  ops.toList.zipIdx.all fun q=>match p.1.dst,q.1.dst with
   |some d,some d' =>Nat.beq p.2 q.2 || !Nat.beq d d'
   |_,_=>true)))))
def nH (env:Bf) (ops:Array Oper) (Q:List Nat) (pd:Pd):Bool:=match pd with
 |none=>true
 |some (j,d,t,c)=>(match ops[j]? with
  |some o=>(match o.op with | .alloc u=>decide (env.ty u=some t) | _=>false)&&(decide (o.dst=some d)&&match o.guard with | none=>true | some _=>false)
  |none=>false)&&(!(Q.any (Nat.beq j))&&((JR ops Q pd).any (Nat.beq c)&&((GO ops c [c]).any (Nat.beq j)&&(!(Nat.beq j c)&&(Q.all (fun q=>(GO ops c [c]).any (Nat.beq q)) &&
   ((Q++(JR ops Q pd).takeWhile fun i=>!(Nat.beq i c)).all fun i=>match ops[i]? with | some o=>!((o.looksAt ops).any (Nat.beq d)) | none=>false))))))
def nI (env:Bf) (ops:Array Oper) (Q:List Nat):Pd:=match Qz env ops with
 |some (j,d,t)=>((JR ops Q (some (j,d,t,0))).find? fun i=>match ops[i]? with | some o=>(o.looksAt ops).any (Nat.beq d) | none=>false).map fun c=>(j,d,t,c)
 |none=>none
def St.unp (σ:St) (pd:Pd) (i:Nat):St:=match pd with
 |some (_,d,t,c)=>match Nat.beq c i with
  |true=>(σ.lay (d*8) (.data true ⟨t,t.zero⟩ t.ownAll)).set d (.ptr ⟨d*8,[]⟩)
  |false=>σ
 |none=>σ
def Slot.noVw:Slot->Slot
 |.vw _ _ _ _=>.undef
 |s=>s
def IX (fu:Av) (ss:List Slot):Option (List Name):=match fu,ss with
 |⟨.io _ .z::_,_,_⟩,.ptr ⟨n,[]⟩::ss=>match Slot.lentL ss with
  |false=>some [n]
  |true=>none
 |_,_=>none
def KK (env:Bf) (σ:St) (o:Oper):Option (List Name):=
 match o.op with
 |.build _ parts=>some (AD o::Slot.namesL (parts.toList.map fun x=>σ.val x.2))
 |.buildSlice _ _ parts=>some (AD o::Slot.namesL (parts.toList.map fun x=>σ.val x.2))
 |.alloc _=>some [AD o]
 |.store _ a x=>some (Slot.namesL [σ.val a,σ.val x])
 |.call c=>match c.callee with
  |.builtin .append=>some (AD o::Slot.namesL (c.args.toList.map fun x=>(σ.val x).noVw))
  |.builtin .clear=>none
  |.builtin _=>some []
  |.value g=>match SH env σ g with
   |some fu=>match fu.tf with
    |true=>some (AD o::Slot.namesL (c.args.toList.map σ.val))
    |false=>IX fu (c.args.toList.map σ.val)
   |none=>match HK env σ g with
    |true=>some [AD o]
    |false=>some []
  |_=>none
 |op=>match Lf o||toBytes env op with | true=>none | false=>some []
def QA (ops:Array Oper) (σ:St) (T:List Name) (o:Oper):Bool:=
 T.all fun m=>(match o.dst with | some d=>!((σ.slot d).men m) | none=>false)&&(o.looksAt ops).all fun x=>!((σ.slot x).men m)
def Uu (σ:St) (o:Oper):Bool:=match o.op with
 |.move (.tmp x)=>(match σ.slot x with | .ptr ⟨_,[]⟩=>true | _=>false)&&match o.guard with | none=>true | some _=>false
 |_=>false
def HL (env:Bf) (σ:St) (o:Oper):Bool:=match o.op with
 |.call c=>match c.callee with
  |.value g=>match SH env σ g with
   |some fu=>!(fu.tf)&&(IX fu (c.args.toList.map σ.val)).isSome
   |none=>false
  |_=>false
 |_=>false
def eQ (env:Bf) (ops:Array Oper) (Q:List Nat) (i:Nat) (o:Oper) (σ:St):Bool:=
 Q.all fun q=>(GO ops i [i]).any (Nat.beq q)||match KK env σ o,ops[q]? with
  |some T,some oq=>QA ops σ T oq||(HL env σ o&&Uu σ oq)
  |_,_=>false
def Gf (env:Bf) (ops:Array Oper):List Nat->St->(St->Option α)->Option α
 |[],σ,k=>k σ
 |i::l,σ,k=>match ops[i]? with
  |some o=>Qx env ops o σ fun s σ=>match o.dst with
   |some d=>Gf env ops l (σ.set d s) k
   |none=>none
  |none=>none
def eR (env:Bf) (σ:St) (pd:Pd) (o:Oper) (l:List Nat):Bool:=match pd with
 |some (_,_,_,c)=>!(l.any (Nat.beq c))||(KK env σ o).isSome
 |none=>true
def JS (env:Bf) (ops:Array Oper) (Q:List Nat) (pd:Pd):List Nat->St->(St->Option α)->Option α
 |[],σ,k=>k σ
 |i::l,σ,k=>match ops[i]? with
  |some o=>match eQ env ops Q i o σ&&eR env σ pd o l with
   |true=>EJ env o (σ.unp pd i) fun σ=>JS env ops Q pd l σ k
   |false=>none
  |none=>none
def Uv (env:Bf) (ops:Array Oper) (Q:List Nat) (pd:Pd) (σ:St) (k:St->Option α):Option α:=
 match PH env.n ops Q pd&&nH env ops Q pd with
 |true=>Gf env ops Q σ fun σ=>JS env ops Q pd (JR ops Q pd) σ fun σ=>Gf env ops (Hh ops Q pd) σ k
 |false=>none
def aG (env:Bf) (ops:Array Oper) (Q:List Nat) (σ:St) (k:St->Option α):Option α:=
 match PH env.n ops Q none with
 |true=>Uv env ops Q none σ k
 |false=>Uv env ops Q (nI env ops Q) σ k
def St.blank (B:Nat->Bool) (σ:St):St:={slots:=σ.slots.map fun x=>(x.1,match B x.1 with | true=>.undef | false=>x.2),mem:=σ.mem}
structure Gw (α:Type) where
 normal:St->Option α
 exit:Nat->St->Option α
 ret:St->Option α
def St.only (σ:St) (m:List Name):List (Name×AV)->St
 |[]=>σ
 |(n,_)::l=>match decide (n∈m) with
  |true=>σ.only m l
  |false=>(σ.drop n).only m l
def St.keep (σ:St) (l:List Nat) (m:List Name):St:=
 let σ' :=σ.only m σ.mem
 {slots:=l.map fun i=>(i,σ'.slot i),mem:=m.filterMap fun n=>(σ'.root n).map fun r=>(n,r)}
def jh:List Name->List Name->List Name
 |[],acc=>acc.reverse
 |n::l,acc=>match acc.any (Nat.beq n) with
  |true=>jh l acc
  |false=>jh l (n::acc)
def St.reach (σ:St) (l:List Nat):List Name:=
 let ns:=Slot.namesL (l.map σ.slot)
 let hs:=Slot.namesL (ns.filterMap fun n=>match σ.root n with | some (.held s)=>some s | _=>none)
 ns++hs
def St.ren (σ:St) (i:Nat):St:=
 match σ.slot i with
 |.ref t ⟨n,[]⟩=>match Nat.beq n (i*8+1) with
  |true=>σ
  |false=>match σ.root n with
   |some (.data false d sh)=>((σ.drop n).lay (i*8+1) (.data false d sh)).set i (.ref t ⟨i*8+1,[]⟩)
   |_=>σ
 |_=>σ
def St.renL (σ:St):List Nat->St
 |[]=>σ
 |i::l=>(σ.ren i).renL l
def St.keepAt (σ:St) (hints:List (Nat×List Nat×List Name)) (id:Nat):St:=
 match look hints id with
 |some (l,m)=>match look hints (id+200000) with
  |some (f,g)=>((σ.frzL f).renL g).keep l (jh (m++((σ.frzL f).renL g).reach l) [])
  |none=>σ.keep l (jh (m++σ.reach l) [])
 |none=>σ
def QB (hints:List (Nat×List Nat×List Name)) (h:Nat) (step:Gw α->St->Option α) (κ:Gw α):Nat->St->Option α
 |0,_=>none
 |k+1,σ=>step {κ with normal:=fun σ=>QB hints h step κ k (σ.keepAt hints h)} σ
def CJ:Code->Nat
 |.region id _ _=>id
 |.seq a _=>CJ a
 |.block _ c=>CJ c
 |.loop c=>CJ c
 |_=>0
def St.keepOut (σ:St) (hints:List (Nat×List Nat×List Name)) (id:Nat):St:=σ.keepAt hints (id+100000)
open Classical in
noncomputable def both (x y:Option α):Option α:=if x=y then x else none
theorem Te {x y:Option α} {r:α} (h:both x y=some r):x=some r/\y=some r:=by
 unfold both at h;split at h
 ·rename_i e;exact ⟨h,e▸h⟩
 ·cases h
noncomputable def execK (env:Bf) (lp:Nat->Gw α->St->Option α):Code->Gw α->St->Option α
 |.skip,κ,σ=>κ.normal σ
 |.region id ops draw,κ,σ=>match draw with
  |false=>eK env ops (List.range ops.size) (σ.keepAt env.hints id) κ.normal
  |true=>match r7 env (σ.keepAt env.hints id) ops with
   |none=>match Uo env.n ops && !(ops.toList.any WM) with
    |true=>WL env ops (List.range ops.size) (σ.keepAt env.hints id) κ.normal
    |false=>aG env ops (Mj env (σ.keepAt env.hints id) ops (List.range ops.size) []) (σ.keepAt env.hints id) κ.normal
   |some m=>match PG env.n ops m (Qz env ops)&&(nG env (σ.keepAt env.hints id) ops && !(jf ops m)) with
    |true=>eM env ops m (Qz env ops) (σ.keepAt env.hints id) κ.normal
    |false=>aG env ops (Mj env (σ.keepAt env.hints id) ops (List.range ops.size) []) (σ.keepAt env.hints id) κ.normal
 |.seq a b,κ,σ=>execK env lp a {κ with normal:=fun σ=>execK env lp b κ σ} σ
 |.cond c a b,κ,σ=>match σ.val c with
  |.pv ⟨.bool,t⟩=>match (Za t) with
   |true=>execK env lp a κ σ
   |false=>execK env lp b κ σ
  |.may e=>match e with
   |true=>both (execK env lp a κ σ) (execK env lp b κ σ)
   |false=>execK env lp b κ σ
  |_=>none
 |.block id c,κ,σ=>execK env lp c {κ with normal:=fun σ=>κ.normal (σ.keepOut env.hints id),exit:=fun i σ=>match Nat.beq i id with | true=>κ.normal σ | false=>κ.exit i σ} σ
 |.loop c,κ,σ=>lp (CJ c) κ (σ.keepAt env.hints (CJ c))
 |.exit id,κ,σ=>κ.exit id (σ.keepOut env.hints id)
 |.ret,κ,σ=>κ.ret (σ.keepAt env.hints 99999)
 |_,_,_=>none
def Dl (env:Bf) (lp:Nat->Gw α->St->Option α):Code->Prop
 |.seq a b=>Dl env lp a/\Dl env lp b
 |.cond _ a b=>Dl env lp a/\Dl env lp b
 |.block _ c=>Dl env lp c
 |.loop c=>Dl env lp c/\∀ κ σ r,lp (CJ c) κ σ=some r->∃ k,QB env.hints (CJ c) (execK env lp c) κ k σ=some r
 |_=>True
end Go.V
namespace Go.V
variable {α:Type}
def Ia (i:Nat):Name:=i*8+4
def Uw:(ts:List Ty)->CB ts->List Slot
 |[],_=>[]
 |t::ts,x=>.fptr ⟨t,x.1⟩::Uw ts x.2
def BC:(ps:List PM)->Args ps->(i:Nat)->St
 |[],_,_=>⟨[],[]⟩
 |.ro t::ps,az,i=>let σ:=BC ps az.2 (i+1);⟨(i,.pv ⟨t,az.1⟩)::σ.slots,σ.mem⟩
 |.rp t::ps,az,i=>let σ:=BC ps az.2 (i+1);⟨(i,.fptr ⟨t,az.1⟩)::σ.slots,σ.mem⟩
 |.fn a b::ps,az,i=>let σ:=BC ps az.2 (i+1);⟨(i,.fnA a b az.1)::σ.slots,σ.mem⟩
 |.io t .z::ps,az,i=>let σ:=BC ps az.2 (i+1);⟨(i,.ptr ⟨Ia i,[]⟩)::σ.slots,(Ia i,.data true ⟨t,az.1⟩ .z)::σ.mem⟩
 |.io t sh::ps,az,i=>let σ:=BC ps az.2 (i+1);⟨(i,.ref t ⟨Ia i,[]⟩)::σ.slots,(Ia i,.data false ⟨t,az.1⟩ sh)::σ.mem⟩
 |.tk t sh::ps,az,i=>let σ:=BC ps az.2 (i+1);⟨(i,.ref t ⟨Ia i,[]⟩)::σ.slots,(Ia i,.data false ⟨t,az.1⟩ sh)::σ.mem⟩
 |.st f ts::ps,az,i=>let σ:=BC ps az.2 (i+1);⟨(i,.clo f (Uw ts az.1))::σ.slots,σ.mem⟩
def IY (env:Bf) (σ:St) (r:ResultVar) (k:Slot->Option α):Option α:=
 match r with
 |.tmp t=>k (σ.slot t)
 |.cell a ty=>AA env σ (.load ty (.tmp a)) k
def SJ:(ps:List PM)->(i:Nat)->St->(CB (Bh ps)->Option α)->Option α
 |[],_,_,k=>k ()
 |.ro _::ps,i,σ,k=>SJ ps (i+1) σ k
 |.rp _::ps,i,σ,k=>SJ ps (i+1) σ k
 |.fn _ _::ps,i,σ,k=>SJ ps (i+1) σ k
 |.st _ _::ps,i,σ,k=>SJ ps (i+1) σ k
 |.tk _ _::ps,i,σ,k=>SJ ps (i+1) σ k
 |.io t sh::ps,i,σ,k=>match σ.root (Ia i) with
  |some (.data b d sh')=>match decide (sh'=sh/\b=decide (sh = .z)) with
   |true=>AI (t' :=t) d.x fun x=>SJ ps (i+1) σ fun r=>k (x,r)
   |false=>none
  |_=>none
def pre:(t:Ty)->t.den->Nat->t.den
 |.slice _,x,hi=>(Bu x).take hi
 |_,x,_=>x
def nJ (σ:St) (t:Ty) (sh:Sh) (s:Slot) (k:t.den->St->Option α):Option α:=
 match s with
 |.vw _ ⟨n,[]⟩ 0 hi=>match σ.root n with
  |some (.data false d (.own .z))=>match decide (sh = .own .z) with
   |true=>AI d.x fun x=>k (pre t x hi) (σ.drop n)
   |false=>none
  |_=>none
 |.ref _ ⟨n,[]⟩=>match σ.root n with
  |some (.data _ d sh')=>match decide (sh'=sh) with
   |true=>AI d.x fun x=>k x (σ.drop n)
   |false=>none
  |_=>none
 |s=>Hf σ t s fun x sh' σ=>match decide (sh'=sh) with
  |true=>k x σ
  |false=>none
def OH (σ:St) (t:Ty) (sh:Sh) (s:Slot) (k:t.den->St->Option α):Option α:=
 match sh with
 |.z=>match (t.flat || !(s.men 4)) with
  |true=>Ep σ t s fun x=>k x σ
  |false=>none
 |.gone=>match s with
  |.ptr ⟨n,[]⟩=>match σ.root n with
   |some (.data true d .z)=>AI d.x fun x=>k x (σ.drop n)
   |_=>none
  |_=>none
 |sh=>nJ σ t sh s k
def outK (env:Bf):(rs:List (Ty×Sh))->(ps:List PM)->List ResultVar->St->(CB (rs.map (·.1)++Bh ps)->Option α)->Option α
 |[],ps,[],σ,k=>SJ ps 0 σ k
 |(t,sh)::rs,ps,v::vs,σ,k=>IY env σ v fun s=>OH σ t sh s fun x σ=>outK env rs ps vs σ fun r=>k (x,r)
 |_,_,_,_,_=>none
noncomputable def GR (env:Bf) (ps:List PM) (rs:List (Ty×Sh)) (lp:Nat->Gw (CB (rs.map (·.1)++Bh ps))->St->Option (CB (rs.map (·.1)++Bh ps))) (code:Code) (vars:List ResultVar) (az:Args ps):Option (CB (rs.map (·.1)++Bh ps)):=
 let fin (σ:St):Option (CB (rs.map (·.1)++Bh ps)):=outK env rs ps vars σ fun r=>some r
 execK env lp code ⟨fin,fun _ _=>none,fin⟩ (BC ps az 0)
def Bq (f:Func):Code:=f.body.getD .skip
end Go.V
namespace Go.V
abbrev Ab:=Nat->Prop
def Ab.none:Ab:=fun _=>False
def Els {α:Type} (R:α->List Value->Ab->Prop):List α->List Value->Ab->Prop
 |[],cs,F=>cs=[]/\∀ b,¬F b
 |x::xs,cs,F=>∃ c₁ c₂ F₁ F₂,cs=c₁++c₂/\R x c₁ F₁/\Els R xs c₂ F₂/\(∀ b,F b↔F₁ b\/F₂ b)/\∀ b,¬(F₁ b/\F₂ b)
def Rep (w:World) (O:Ab):(t:Ty)->Sh->t.den->List Value->Ab->Prop
 |.int k,_,n,cs,F=>cs=[.int k n]/\∀ b,¬F b
 |.bool,_,n,cs,F=>cs=[.bool n]/\∀ b,¬F b
 |.str,_,l,cs,F=>cs=[.string ⟨(Lk l).toArray⟩]/\∀ b,¬F b
 |.unit,_,_,cs,F=>cs=[]/\∀ b,¬F b
 |.pair a b,sh,x,cs,F=>∃ c₁ c₂ F₁ F₂,cs=c₁++c₂/\Rep w O a sh.l x.1 c₁ F₁/\Rep w O b sh.r x.2 c₂ F₂/\(∀ b,F b↔F₁ b\/F₂ b)/\∀ b,¬(F₁ b/\F₂ b)
 |.slice e,sh,xs,cs,F=>match sh with
  |.own s=>(cs=[.slice none 0 0]/\xs=[]/\∀ b,¬F b)\/
   ∃ b off cap C tid fr F',cs=[.slice (some ⟨b,off,none⟩) (Bu xs).length cap]/\(Bu xs).length<=cap/\
    w.heap[b]? = some (.cells C tid fr)/\(∀ i,i<C.size->¬(fr.1<=i/\i<fr.2))/\off+cap*e.size<=C.size/\
    Els (Rep w O e s) xs ((C.toList.drop off).take ((Bu xs).length*e.size)) F' /\(∀ k,F k↔k=b\/F' k)/\¬F' b/\O b
  |.gone=>(∃ v,cs=[v])/\∀ b,¬F b
  |_=>(∀ b,¬F b)/\∃ a cap,cs=[.slice a (Bu xs).length cap]/\(Bu xs).length<=cap/\
   (a=none->cap=0)/\(∀ a',a=some a' ->a'=a')/\
   (xs=[]\/∃ b off cl,a=some ⟨b,off,none⟩/\b<w.heap.size/\¬O b/\Els (Rep w O e .z) xs cl Ab.none/\∀ i,i<cl.length->w.cell? ⟨b,off+i,none⟩=cl[i]?)
theorem Els.mono {α:Type} {R R':α->List Value->Ab->Prop}:∀ {xs:List α} {cs:List Value} {F:Ab},
  (∀ x,x∈xs->∀ c F',(∀ b,F' b->F b)->R x c F' ->R' x c F')->Els R xs cs F->Els R' xs cs F
 |[],_,_,_,h=>h
 |x::xs,cs,F,hR,⟨c₁,c₂,F₁,F₂,hc,hx,hxs,hF,hd⟩=>
  ⟨c₁,c₂,F₁,F₂,hc,hR x (by simp) c₁ F₁ (fun b hb=>(hF b).2 (.inl hb)) hx,
   Els.mono (fun y hy c F' hF' =>hR y (by simp [hy]) c F' fun b hb=>(hF b).2 (.inr (hF' b hb))) hxs,hF,hd⟩
theorem Rep.frame {w w':World} {O O':Ab} (hsz:w.heap.size<=w'.heap.size) (hO:∀ b,b<w.heap.size->¬O b->w'.heap[b]? = w.heap[b]?) :
  ∀ {t:Ty} {sh:Sh} {x:t.den} {cs:List Value} {F:Ab},(∀ b,F b->w'.heap[b]? = w.heap[b]?)->
   (∀ b,b<w.heap.size->¬O b->¬O' b)->(∀ b,F b->O b->O' b)->Rep w O t sh x cs F->Rep w' O' t sh x cs F:=by
 intro t;induction t with
 |int k=>intro sh x cs F hF hO' hO'' h;exact h
 |bool=>intro sh x cs F hF hO' hO'' h;exact h
 |str=>intro sh x cs F hF hO' hO'' h;exact h
 |unit=>intro sh x cs F hF hO' hO'' h;exact h
 |pair a b iha ihb=>
  intro sh x cs F hF hO' hO'' h;obtain ⟨c₁,c₂,F₁,F₂,hc,h1,h2,hU,hd⟩:=h
  exact ⟨c₁,c₂,F₁,F₂,hc,iha (fun b hb=>hF b ((hU b).2 (.inl hb))) hO' (fun b hb=>hO'' b ((hU b).2 (.inl hb))) h1,
   ihb (fun b hb=>hF b ((hU b).2 (.inr hb))) hO' (fun b hb=>hO'' b ((hU b).2 (.inr hb))) h2,hU,hd⟩
 |slice e ih=>
  intro sh x cs F hF hO' hO'' h
  have frozen:∀ (x:List e.den),((∀ b,¬F b)/\∃ a cap,cs=[.slice a x.length cap]/\x.length<=cap/\
   (a=none->cap=0)/\(∀ a',a=some a' ->a'=a')/\
   (x=[]\/∃ b off cl,a=some ⟨b,off,none⟩/\b<w.heap.size/\¬O b/\Els (Rep w O e .z) x cl Ab.none/\∀ i,i<cl.length->w.cell? ⟨b,off+i,none⟩=cl[i]?))->
   ((∀ b,¬F b)/\∃ a cap,cs=[.slice a x.length cap]/\x.length<=cap/\
   (a=none->cap=0)/\(∀ a',a=some a' ->a'=a')/\
   (x=[]\/∃ b off cl,a=some ⟨b,off,none⟩/\b<w'.heap.size/\¬O' b/\Els (Rep w' O' e .z) x cl Ab.none/\∀ i,i<cl.length->w'.cell? ⟨b,off+i,none⟩=cl[i]?)):=by
   rintro x ⟨hn,a,cap,hc,hl,ha,hs,hx⟩;refine ⟨hn,a,cap,hc,hl,ha,hs,hx.imp id ?_⟩;rintro ⟨b,off,cl,hab,hb,hob,hel,hcell⟩;refine ⟨b,off,cl,hab,Nat.lt_of_lt_of_le hb hsz,hO' b hb hob,?_,?_⟩
   ·exact hel.mono fun y _ c F' hF' hy=>ih (fun b hb=>(hF' b hb).elim) hO' (fun b hb=>(hF' b hb).elim) hy
   ·intro i hi;have:=hcell i hi;rw [<-this];simp only [World.cell?,hO b hb hob]
  unfold Rep at h ⊢;cases sh with
  |own s=>
   dsimp only at h ⊢;rcases h with h | ⟨b,off,cap,C,tid,fr,F',hc,hl,hb,hfr,hsz',hel,hU,hd,hOb⟩
   ·exact .inl h
   ·have hFb:F b:=(hU b).2 (.inl rfl);refine .inr ⟨b,off,cap,C,tid,fr,F',hc,hl,(hF b hFb).trans hb,hfr,hsz',?_,hU,hd,hO'' b hFb hOb⟩;exact hel.mono fun y _ c F'' hF'' hy=>ih (fun b hb=>hF b ((hU b).2 (.inr (hF'' b hb)))) hO' (fun b hb=>hO'' b ((hU b).2 (.inr (hF'' b hb)))) hy
  |gone=>exact h
  |z=>exact frozen x h
  |pr a b=>exact frozen x h
theorem Rep.free {w:World} {O:Ab}:∀ {t:Ty} {x:t.den} {cs:List Value} {F:Ab},Rep w O t .z x cs F->∀ b,¬F b:=by
 intro t;induction t with
 |int k=>intro x cs F h;exact h.2
 |bool=>intro x cs F h;exact h.2
 |str=>intro x cs F h;exact h.2
 |unit=>intro x cs F h;exact h.2
 |pair a b iha ihb=>
  intro x cs F h k hk;obtain ⟨c₁,c₂,F₁,F₂,hc,h1,h2,hU,hd⟩:=h;rcases (hU k).1 hk with h | h
  ·exact iha h1 k h
  ·exact ihb h2 k h
 |slice e ih=>intro x cs F h;exact h.1
theorem Rep.foot {w:World} {O:Ab} {t:Ty} {sh:Sh} {x:t.den} {cs:List Value} {F F':Ab} (h:Rep w O t sh x cs F) (hF:∀ b,F' b↔F b):Rep w O t sh x cs F' :=by
 have:F'=F:=funext fun b=>propext (hF b)
 rw [this];exact h
theorem Rep.len {w:World} {O:Ab}:∀ {t:Ty} {sh:Sh} {x:t.den} {cs:List Value} {F:Ab},Rep w O t sh x cs F->cs.length=t.size:=by
 intro t;induction t with
 |int k=>intro sh x cs F h;rw [h.1];rfl
 |bool=>intro sh x cs F h;rw [h.1];rfl
 |str=>intro sh x cs F h;rw [h.1];rfl
 |unit=>intro sh x cs F h;rw [h.1];rfl
 |pair a b iha ihb=>
  intro sh x cs F h;obtain ⟨c₁,c₂,F₁,F₂,hc,h1,h2,hU,hd⟩:=h;rw [hc,Ai9,iha h1,ihb h2];rfl
 |slice e ih=>
  intro sh x cs F h;unfold Rep at h;cases sh with
  |own s=>
   rcases h with h | ⟨b,off,cap,C,tid,fr,F',hc,_⟩
   ·rw [h.1];rfl
   ·rw [hc];rfl
  |gone=>obtain ⟨⟨v,hv⟩,_⟩:=h;rw [hv];rfl
  |z=>obtain ⟨_,a,cap,hc,_⟩:=h;rw [hc];rfl
  |pr a b=>obtain ⟨_,a,cap,hc,_⟩:=h;rw [hc];rfl
end Go.V
namespace Go.V
theorem Rep.owned {w:World} {O:Ab}:∀ {t:Ty} {sh:Sh} {x:t.den} {cs:List Value} {F:Ab},Rep w O t sh x cs F->∀ b,F b->O b/\b<w.heap.size:=by
 intro t;induction t with
 |int k=>intro sh x cs F h b hb;exact (h.2 b hb).elim
 |bool=>intro sh x cs F h b hb;exact (h.2 b hb).elim
 |str=>intro sh x cs F h b hb;exact (h.2 b hb).elim
 |unit=>intro sh x cs F h b hb;exact (h.2 b hb).elim
 |pair a b iha ihb=>
  intro sh x cs F h k hk;obtain ⟨c₁,c₂,F₁,F₂,hc,h1,h2,hU,hd⟩:=h;exact ((hU k).1 hk).elim (iha h1 k) (ihb h2 k)
 |slice e ih=>
  intro sh x cs F h k hk;unfold Rep at h;cases sh with
  |own s=>
   rcases h with h | ⟨b,off,cap,C,tid,fr,F',hc,hl,hb,hfr,hsz',hel,hU,hd,hOb⟩
   ·exact (h.2.2 k hk).elim
   ·rcases (hU k).1 hk with rfl | hk'
    ·exact ⟨hOb,(Array.getElem?_eq_some_iff.1 hb).1⟩
    ·have key:∀ (xs:List e.den) (cs:List Value) (G:Ab),Els (Rep w O e s) xs cs G->∀ b,G b->O b/\b<w.heap.size:=by
      intro xs;induction xs with
      |nil=>intro cs G h b hb;exact (h.2 b hb).elim
      |cons y ys ihl=>
       rintro cs G ⟨c₁,c₂,F₁,F₂,hc,hy,hys,hU,hd⟩ b hb;exact ((hU b).1 hb).elim (ih hy b) (ihl c₂ F₂ hys b)
     exact key _ _ _ hel k hk'
  |gone=>exact (h.2 k hk).elim
  |z=>exact (h.1 k hk).elim
  |pr a b=>exact (h.1 k hk).elim
theorem Rep.freeze {w:World} {O O':Ab} (hO:∀ b,b<w.heap.size->¬O b->¬O' b) :
  ∀ {t:Ty} {sh:Sh} {x:t.den} {cs:List Value} {F:Ab},sh.whole=true->(∀ b,F b->¬O' b)->Rep w O t sh x cs F->Rep w O' t .z x cs Ab.none:=by
 intro t;induction t with
 |int k=>intro sh x cs F _ _ h;exact ⟨h.1,fun b hb=>hb⟩
 |bool=>intro sh x cs F _ _ h;exact ⟨h.1,fun b hb=>hb⟩
 |str=>intro sh x cs F _ _ h;exact ⟨h.1,fun b hb=>hb⟩
 |unit=>intro sh x cs F _ _ h;exact ⟨h.1,fun b hb=>hb⟩
 |pair a b iha ihb=>
  intro sh x cs F hw hF h;obtain ⟨c₁,c₂,F₁,F₂,hc,h1,h2,hU,hd⟩:=h
  have hwl:sh.l.whole=true/\sh.r.whole=true:=by
   cases sh<;>simp_all [Sh.l,Sh.r,Sh.whole]
  exact ⟨c₁,c₂,Ab.none,Ab.none,hc,iha hwl.1 (fun b hb=>hF b ((hU b).2 (.inl hb))) h1,ihb hwl.2 (fun b hb=>hF b ((hU b).2 (.inr hb))) h2,
   fun b=>by simp [Ab.none],fun b hb=>hb.1⟩
 |slice e ih=>
  intro sh x cs F hw hF h
  have elem:∀ (s:Sh),s.whole=true->∀ (xs:List e.den) (cl:List Value) (G:Ab),(∀ b,G b->¬O' b)->Els (Rep w O e s) xs cl G->Els (Rep w O' e .z) xs cl Ab.none:=by
   intro s hs xs;induction xs with
   |nil=>intro cl G _ h;exact ⟨h.1,fun b hb=>hb⟩
   |cons y ys ihl=>
    rintro cl G hG ⟨c₁,c₂,F₁,F₂,hc,hy,hys,hU,hd⟩
    exact ⟨c₁,c₂,Ab.none,Ab.none,hc,ih hs (fun b hb=>hG b ((hU b).2 (.inl hb))) hy,ihl c₂ F₂ (fun b hb=>hG b ((hU b).2 (.inr hb))) hys,
     fun b=>by simp [Ab.none],fun b hb=>hb.1⟩
  have frozen:((∀ b,¬F b)/\∃ a cap,cs=[.slice a (Bu x).length cap]/\(Bu x).length<=cap/\
   (a=none->cap=0)/\(∀ a',a=some a' ->a'=a')/\
   (x=[]\/∃ b off cl,a=some ⟨b,off,none⟩/\b<w.heap.size/\¬O b/\Els (Rep w O e .z) x cl Ab.none/\∀ i,i<cl.length->w.cell? ⟨b,off+i,none⟩=cl[i]?))->
   Rep w O' (.slice e) .z x cs Ab.none:=by
   rintro ⟨hn,a,cap,hc,hl,ha,hs,hx⟩;refine ⟨fun b hb=>hb,a,cap,hc,hl,ha,hs,hx.imp id ?_⟩;rintro ⟨b,off,cl,hab,hb,hob,hel,hcell⟩;exact ⟨b,off,cl,hab,hb,hO b hb hob,elem .z rfl _ _ _ (fun b hb=>hb.elim) hel,hcell⟩
  cases sh with
  |own s=>
   unfold Rep at h;rcases h with ⟨h1,h2,h3⟩ | ⟨b,off,cap,C,tid,fr,F',hc,hl,hb,hfr,hsz',hel,hU,hd,hOb⟩
   ·subst h2;exact ⟨fun b hb=>hb,none,0,h1,Nat.le_refl _,fun _=>rfl,(fun a' ha=>by cases ha),.inl rfl⟩
   ·refine ⟨fun b hb=>hb,some ⟨b,off,none⟩,cap,hc,hl,(fun h=>by cases h),(fun a' ha=>by cases ha;rfl),.inr ⟨b,off,_,rfl,(Array.getElem?_eq_some_iff.1 hb).1,hF b ((hU b).2 (.inl rfl)),elem s hw _ _ _ (fun b hb=>hF b ((hU b).2 (.inr hb))) hel,?_⟩⟩;intro i hi
    have hi':i<(Bu x).length*e.size:=by
     have:_:=hi;simp only [List.length_take] at this;omega
    simp only [World.cell?,hb,Option.isSome_none,Bool.false_eq_true,if_false];rw [List.getElem?_take_of_lt hi',List.getElem?_drop,Array.getElem?_toList]
  |gone=>simp [Sh.whole] at hw
  |z=>exact frozen h
  |pr a b=>exact frozen h
def Src.left (n:Nat):Src->Src
 |.mem b off=>.mem b off
 |.val cs=>.val (cs.take n)
def Src.right (n:Nat):Src->Src
 |.mem b off=>.mem b (off+n)
 |.val cs=>.val (cs.drop n)
def Al (w:World) (n:Nat):Src->Option (List Value)
 |.mem b off=>match w.heap[b]? with
  |some (.cells C _ _)=>if off+n<=C.size then some ((C.toList.drop off).take n) else none
  |_=>none
 |.val cs=>some cs
def goto (w:World):Bi->Ty->Src->Option (Ty×Src)
 |[],t,s=>some (t,s)
 |.l::p,.pair a _,s=>goto w p a (s.left a.size)
 |.r::p,.pair a b,s=>goto w p b (s.right a.size)
 |.at n::p,.slice e,s=>match Al w 1 s with
  |some [.slice (some ⟨b,off,none⟩) _ _]=>goto w p e (.mem b (off+n*e.size))
  |_=>none
 |_,_,_=>none
structure Ch (w w':World) (b off n:Nat) (F:Ab):Prop where
 size:w.heap.size<=w'.heap.size
 other:∀ k,k<w.heap.size->k≠b->¬F k->w'.heap[k]? = w.heap[k]?
 block:∀ C tid fr,w.heap[b]? = some (.cells C tid fr)->
  ∃ C',w'.heap[b]? = some (.cells C' tid fr)/\C'.size=C.size/\∀ i,(i<off\/off+n<=i)->C'[i]? = C[i]?
theorem BX {α:Type}:∀ (p:Bi) (t:Ty) (x:t.den) (k:Hd->Option α),AB p t x k=(AB p t x some).bind k
 |[],t,x,k=>rfl
 |.l::p,.pair a b,x,k=>BX p a x.1 k
 |.r::p,.pair a b,x,k=>BX p b x.2 k
 |.at n::p,.slice e,x,k=>by
  simp only [AB];cases (Bu x)[n]? with
  |none=>rfl
  |some y=>exact BX p e y k
 |.l::p,.int _,x,k | .l::p,.bool,x,k | .l::p,.str,x,k | .l::p,.unit,x,k | .l::p,.slice _,x,k=>rfl
 |.r::p,.int _,x,k | .r::p,.bool,x,k | .r::p,.str,x,k | .r::p,.unit,x,k | .r::p,.slice _,x,k=>rfl
 |.at _::p,.int _,x,k | .at _::p,.bool,x,k | .at _::p,.str,x,k | .at _::p,.unit,x,k | .at _::p,.pair _ _,x,k=>rfl
theorem Bb {α:Type}:∀ (p:Bi) (t:Ty) (x:t.den) (d:Hd) (k:t.den->Option α),BT p t x d k=(BT p t x d some).bind k
 |[],t,x,d,k=>by
  simp only [BT];split<;>rfl
 |.l::p,.pair a b,x,d,k=>by
  show BT p a x.1 d (fun y=>k (y,x.2))=(BT p a x.1 d fun y=>some (y,x.2)).bind k;have h1:=Bb p a x.1 d (fun y=>k (y,x.2));have h2:=Bb p a x.1 d (fun y=>some ((y,x.2):(Ty.pair a b).den));refine h1.trans (Eq.trans ?_ (congrArg (Option.bind · k) h2).symm);cases BT p a x.1 d some<;>rfl
 |.r::p,.pair a b,x,d,k=>by
  show BT p b x.2 d (fun y=>k (x.1,y))=(BT p b x.2 d fun y=>some (x.1,y)).bind k;have h1:=Bb p b x.2 d (fun y=>k (x.1,y));have h2:=Bb p b x.2 d (fun y=>some ((x.1,y):(Ty.pair a b).den));refine h1.trans (Eq.trans ?_ (congrArg (Option.bind · k) h2).symm);cases BT p b x.2 d some<;>rfl
 |.at n::p,.slice e,x,d,k=>by
  simp only [BT];cases (Bu x)[n]? with
  |none=>rfl
  |some y=>
   have h1:=Bb p e y d (fun y' =>k ((Bu x).set n y'));have h2:=Bb p e y d (fun y' =>some (((Bu x).set n y'):(Ty.slice e).den));refine h1.trans (Eq.trans ?_ (congrArg (Option.bind · k) h2).symm);cases BT p e y d some<;>rfl
 |.l::p,.int _,x,d,k | .l::p,.bool,x,d,k | .l::p,.str,x,d,k | .l::p,.unit,x,d,k | .l::p,.slice _,x,d,k=>rfl
 |.r::p,.int _,x,d,k | .r::p,.bool,x,d,k | .r::p,.str,x,d,k | .r::p,.unit,x,d,k | .r::p,.slice _,x,d,k=>rfl
 |.at _::p,.int _,x,d,k | .at _::p,.bool,x,d,k | .at _::p,.str,x,d,k | .at _::p,.unit,x,d,k | .at _::p,.pair _ _,x,d,k=>rfl
theorem Els.pick {α:Type} {R:α->List Value->Ab->Prop} {sz:Nat} (hR:∀ x c F,R x c F->c.length=sz) :
  ∀ {xs:List α} {cs:List Value} {F:Ab} {n:Nat} {x:α},Els R xs cs F->xs[n]? = some x->
   cs.length=xs.length*sz/\∃ F',R x ((cs.drop (n*sz)).take sz) F' /\(∀ b,F' b->F b)/\
    ∀ (R':α->List Value->Ab->Prop) (x':α) (c':List Value) (F'':Ab),(∀ y∈xs,∀ c G,(∀ b,G b->F b/\¬F' b)->R y c G->R' y c G)->R' x' c' F'' ->(∀ b,F'' b->¬(F b/\¬F' b))->c'.length=sz->
     Els R' (xs.set n x') (cs.take (n*sz)++c'++cs.drop (n*sz+sz)) (fun b=>(F b/\¬F' b)\/F'' b)
 |[],_,_,n,x,_,hx=>by simp at hx
 |y::ys,cs,F,0,x,⟨c₁,c₂,F₁,F₂,hc,hy,hys,hU,hd⟩,hx=>by
  simp at hx;subst hx;have h1:=hR _ _ _ hy
  have hlen:∀ {ys:List α} {c₂:List Value} {F₂:Ab},Els R ys c₂ F₂->c₂.length=ys.length*sz:=by
   intro ys;induction ys with
   |nil=>intro c F h;rw [h.1];simp
   |cons z zs ih=>
    rintro c F ⟨c₁,c₂,F₁,F₂,hc,hz,hzs,_,_⟩;rw [hc,Ai9,hR _ _ _ hz,ih hzs,Aja,Nat.succ_mul];omega
  have h2:=hlen hys;subst hc;refine ⟨by rw [Ai9,h1,h2,Aja,Nat.succ_mul];omega,F₁,?_,fun b hb=>(hU b).2 (.inl hb),?_⟩
  ·rw [Nat.zero_mul,List.drop_zero,List.take_append_of_le_length (by omega),List.take_of_length_le (by omega)];exact hy
  ·intro R' x' c' F'' hR' hx' hd' hc';refine ⟨c',c₂,F'',F₂,?_,hx',?_,?_,?_⟩
   ·rw [Nat.zero_mul,List.take_zero,List.nil_append,Nat.zero_add,List.drop_append_of_le_length (by omega),List.drop_of_length_le (by omega),List.nil_append]
   ·exact hys.mono fun z hz c G hG hz' =>hR' z (by simp [hz]) c G (fun b hb=>⟨(hU b).2 (.inr (hG b hb)),fun hf=>hd b ⟨hf,hG b hb⟩⟩) hz'
   ·intro b;constructor
    ·rintro (⟨hf,hn⟩ | h)
     ·exact .inr (((hU b).1 hf).resolve_left hn)
     ·exact .inl h
    ·rintro (h | h)
     ·exact .inr h
     ·exact .inl ⟨(hU b).2 (.inr h),fun hf=>hd b ⟨hf,h⟩⟩
   ·rintro b ⟨h1,h2⟩;exact hd' b h1 ⟨(hU b).2 (.inr h2),fun hf=>hd b ⟨hf,h2⟩⟩
 |y::ys,cs,F,n+1,x,⟨c₁,c₂,F₁,F₂,hc,hy,hys,hU,hd⟩,hx=>by
  have h1:=hR _ _ _ hy;obtain ⟨hl,F',hx',hF',hset⟩:=Els.pick hR hys (by simpa using hx:ys[n]? = some x);subst hc;have e1:(n+1)*sz=sz+n*sz:=by rw [Nat.succ_mul];omega
  refine ⟨by rw [Ai9,h1,hl,Aja,Nat.succ_mul];omega,F',?_,fun b hb=>(hU b).2 (.inr (hF' b hb)),?_⟩
  ·rw [e1,List.drop_append,List.drop_of_length_le (by omega),List.nil_append,h1,Nat.add_sub_cancel_left];exact hx'
  ·intro R' x' c' F'' hR' hx'' hd' hc';refine ⟨c₁,c₂.take (n*sz)++c'++c₂.drop (n*sz+sz),F₁,fun b=>(F₂ b/\¬F' b)\/F'' b,?_,?_,?_,?_,?_⟩
   ·rw [e1,List.take_append,List.take_of_length_le (by omega),h1,Nat.add_sub_cancel_left,List.drop_append,List.drop_of_length_le (by omega),h1,
     show sz+n*sz+sz-sz=n*sz+sz from by omega]
    simp [List.append_assoc]
   ·exact hR' y (by simp) c₁ F₁ (fun b hb=>⟨(hU b).2 (.inl hb),fun hf=>hd b ⟨hb,hF' b hf⟩⟩) hy
   ·exact hset R' x' c' F'' (fun z hz c G hG=>hR' z (by simp [hz]) c G fun b hb=>⟨(hU b).2 (.inr (hG b hb).1),(hG b hb).2⟩) hx''
     (fun b hb h=>hd' b hb ⟨(hU b).2 (.inr h.1),h.2⟩) hc'
   ·intro b;constructor
    ·rintro (⟨hf,hn⟩ | h)
     ·rcases (hU b).1 hf with hf | hf
      ·exact .inl hf
      ·exact .inr (.inl ⟨hf,hn⟩)
     ·exact .inr (.inr h)
    ·rintro (h | h | h)
     ·exact .inl ⟨(hU b).2 (.inl h),fun hf=>hd b ⟨h,hF' b hf⟩⟩
     ·exact .inl ⟨(hU b).2 (.inr h.1),h.2⟩
     ·exact .inr h
   ·rintro b ⟨h1,h2⟩;rcases h2 with h2 | h2
    ·exact hd b ⟨h1,h2.1⟩
    ·exact hd' b h2 ⟨(hU b).2 (.inl h1),fun hf=>hd b ⟨h1,hF' b hf⟩⟩
end Go.V
namespace Go.V
theorem Bs {w:World} {n b off:Nat} {cs:List Value} (h:Al w n (.mem b off)=some cs) :
  ∃ C tid fr,w.heap[b]? = some (.cells C tid fr)/\off+n<=C.size/\cs=(C.toList.drop off).take n:=by
 unfold Al at h;dsimp only at h;split at h
 ·rename_i C tid fr hb;split at h
  ·rename_i hle;exact ⟨C,tid,fr,hb,hle,by injection h with h;exact h.symm⟩
  ·cases h
 ·cases h
theorem Cc {w:World} {n b off:Nat} {C:Array Value} {tid:TypeId} {fr:Nat×Nat} (hb:w.heap[b]? = some (.cells C tid fr)) (hle:off+n<=C.size) :
  Al w n (.mem b off)=some ((C.toList.drop off).take n):=by
 unfold Al;simp only [hb,if_pos hle]
theorem Ec {w:World} {m n:Nat} {s:Src} {cs:List Value} (h:Al w (m+n) s=some cs) (hs:∀ c,s = .val c->c.length=m+n) :
  Al w m (s.left m)=some (cs.take m):=by
 cases s with
 |mem b off=>
  obtain ⟨C,tid,fr,hb,hle,rfl⟩:=Bs h;rw [Src.left,Cc hb (by omega),List.take_take,Nat.min_eq_left (by omega)]
 |val c=>simp [Al,Src.left] at h ⊢;rw [h]
theorem DI {w:World} {m n:Nat} {s:Src} {cs:List Value} (h:Al w (m+n) s=some cs) (hs:∀ c,s = .val c->c.length=m+n) :
  Al w n (s.right m)=some (cs.drop m):=by
 cases s with
 |mem b off=>
  obtain ⟨C,tid,fr,hb,hle,rfl⟩:=Bs h;rw [Src.right,Cc hb (by omega),List.drop_take,List.drop_drop,Nat.add_sub_cancel_left]
 |val c=>simp [Al,Src.right] at h ⊢;rw [h]
def Src.blk:Src->Ab
 |.mem b _=>fun k=>k=b
 |.val _=>Ab.none
structure r8 (w w':World) (O O':Ab) (F F' F'':Ab) (src:Src) (t':Ty) (b' off':Nat) (cs'':List Value):Prop where
 ch:Ch w w' b' off' t'.size F'
 cells:Al w' t'.size (.mem b' off')=some cs''
 apart:∀ b,F'' b->¬(F b/\¬F' b)
 off:∀ b,F'' b->¬src.blk b
 off':¬F'' b'
 free:∀ b,b<w.heap.size->¬O b->¬O' b
 keep:∀ b,O b->¬F' b->O' b
theorem Ch.cellsAt_other {w w':World} {b off n:Nat} {F:Ab} (h:Ch w w' b off n F) {c o m:Nat} {cs:List Value}
  (hc:Al w m (.mem c o)=some cs) (hF:¬F c) (hd:c≠b\/o+m<=off\/off+n<=o):Al w' m (.mem c o)=some cs:=by
 obtain ⟨C,tid,fr,hb,hle,rfl⟩:=Bs hc;have hlt:=(Array.getElem?_eq_some_iff.1 hb).1;by_cases hcb:c=b
 ·subst hcb;obtain ⟨C',hb',hsz,hsame⟩:=h.block C tid fr hb;rw [Cc hb' (by omega)];congr 1;apply List.ext_getElem?;intro i;by_cases hi:i<m
  ·rw [List.getElem?_take_of_lt hi,List.getElem?_take_of_lt hi,List.getElem?_drop,List.getElem?_drop,Array.getElem?_toList,Array.getElem?_toList];exact hsame _ (by omega)
  ·rw [List.getElem?_take_eq_none (by omega),List.getElem?_take_eq_none (by omega)]
 ·have:=h.other c hlt hcb hF;exact Cc (this.trans hb) hle
theorem Ml {w:World} {m n:Nat} {s:Src} {l r:List Value} (hl:Al w m (s.left m)=some l) (hr:Al w n (s.right m)=some r)
  : Al w (m+n) s=some (l++r):=by
 cases s with
 |mem b off=>
  obtain ⟨C,t₁,f₁,hb,hle,rfl⟩:=Bs hl;obtain ⟨C₂,t₂,f₂,hb₂,hle₂,rfl⟩:=Bs hr;rw [hb] at hb₂;injection hb₂ with hb₂
  injection hb₂ with hb₂
  subst hb₂;rw [Cc hb (by omega),List.take_add,List.drop_drop]
 |val c=>
  simp [Al,Src.left,Src.right] at hl hr ⊢;rw [<-hl,<-hr,List.take_append_drop]
theorem Rep.stay {w w':World} {O O' F F' F'':Ab} {src src₂:Src} {t':Ty} {b' off':Nat} {cs'':List Value}
  (bk:r8 w w' O O' F F' F'' src t' b' off' cs'') {t:Ty} {sh:Sh} {x:t.den} {c:List Value} {F₂:Ab} (h:Rep w O t sh x c F₂) (hc:Al w t.size src₂=some c)
  (hOb':O b') (hF'O:∀ k,F' k->O k) (hb':¬F₂ b') (hF':∀ k,F' k->¬F₂ k) (hs:∀ k,src₂.blk k->¬F' k)
  (hd:∀ sb so,src₂ = .mem sb so->sb≠b' \/so+t.size<=off' \/off'+t'.size<=so) :
  Al w' t.size src₂=some c/\Rep w' O' t sh x c F₂:=by
 refine ⟨?_,?_⟩
 ·cases src₂ with
  |mem sb so=>exact bk.ch.cellsAt_other hc (hs sb rfl) (hd sb so rfl)
  |val cs=>exact hc
 ·refine Rep.frame bk.ch.size ?_ ?_ bk.free ?_ h
  ·intro k hk hOk;exact bk.ch.other k hk (fun e=>hOk (e▸hOb')) (fun hf=>hOk (hF'O k hf))
  ·intro k hk;exact bk.ch.other k (h.owned k hk).2 (fun e=>hb' (e▸hk)) (fun hf=>hF' k hf hk)
  ·intro k hk hOk;exact bk.keep k hOk fun hf=>hF' k hf hk
def Zip (w:World) (O:Ab) (p:Bi) (t:Ty) (sh:Sh) (x:t.den) (F:Ab) (src:Src) (d:Hd):Prop:=
 ∃ src' cs' F',goto w p t src=some (d.t,src')/\Al w d.t.size src'=some cs' /\Rep w O d.t (Eo p sh) d.x cs' F' /\(∀ b,F' b->F b)/\
  (∀ b,src'.blk b->¬F' b/\O b)/\(∀ b,src'.blk b->src.blk b\/F b)/\
  (∀ b off off',src = .mem b off->src' = .mem b off' ->off<=off' /\off'+d.t.size<=off+t.size)/\
  ∀ (w':World) (O' F'':Ab) (b' off':Nat) (sh'' sh₂:Sh) (x'':d.t.den) (cs'':List Value) (y:t.den),
   src' = .mem b' off' ->r8 w w' O O' F F' F'' src d.t b' off' cs'' ->Rep w' O' d.t sh'' x'' cs'' F'' ->
   BT p t x ⟨d.t,x''⟩ some=some y->BS p sh sh''=some sh₂->
   ∃ cs₂,Al w' t.size src=some cs₂/\Rep w' O' t sh₂ y cs₂ (fun b=>(F b/\¬F' b)\/F'' b)
theorem Rep.zip {w:World} {O:Ab}:∀ (p:Bi) {t:Ty} {sh:Sh} {x:t.den} {cs:List Value} {F:Ab} {src:Src} {d:Hd},
  Rep w O t sh x cs F->Al w t.size src=some cs->(∀ b,src.blk b->¬F b/\O b)->Be p sh=true->AB p t x some=some d->
  Zip w O p t sh x F src d:=by
 intro p;induction p with
 |nil=>
  intro t sh x cs F src d h hcs hblk hok hget;simp only [AB] at hget;injection hget with hget
  subst hget;refine ⟨src,cs,F,rfl,hcs,h,fun _ hb=>hb,hblk,fun _ hb=>.inl hb,?_,?_⟩
  ·rintro b off off' rfl h;injection h with _ h
   subst h;exact ⟨Nat.le_refl _,Nat.le_refl _⟩
  ·intro w' O' F'' b' off' sh'' sh₂ x'' cs'' y hsrc hback hrep hset hsh;simp only [BT,dite_true] at hset;injection hset with hset
   subst hset;simp only [BS] at hsh;injection hsh with hsh
   subst hsh;refine ⟨cs'',hsrc▸hback.cells,hrep.foot fun b=>?_⟩;constructor
   ·rintro (⟨h1,h2⟩ | h)
    ·exact (h2 h1).elim
    ·exact h
   ·exact .inr
 |cons st p ih=>
  intro t sh x cs F src d h hcs hblk hok hget;cases t with
  |int k=>cases st<;>simp [AB] at hget
  |bool=>cases st<;>simp [AB] at hget
  |str=>cases st<;>simp [AB] at hget
  |unit=>cases st<;>simp [AB] at hget
  |pair a b=>
   have hlen:=h.len;obtain ⟨c₁,c₂,F₁,F₂,hc,h1,h2,hU,hd⟩:=h;have hl1:=h1.len;have hl2:=h2.len
   have hsv:∀ c,src = .val c->c.length=a.size+b.size:=by
    rintro c rfl;simp [Al] at hcs;rw [hcs,hlen];rfl
   have e1:cs.take a.size=c₁:=by rw [hc,List.take_append_of_le_length (by omega),List.take_of_length_le (by omega)]
   have e2:cs.drop a.size=c₂:=by rw [hc,List.drop_append_of_le_length (by omega),List.drop_of_length_le (by omega),List.nil_append]
   have hcl:Al w a.size (src.left a.size)=some c₁:=e1▸Ec hcs hsv;have hcr:Al w b.size (src.right a.size)=some c₂:=e2▸DI hcs hsv;have bl:∀ {k},(src.left a.size).blk k->src.blk k:=by intro k hk;cases src<;>exact hk
   have lb:∀ {k},src.blk k->(src.left a.size).blk k:=by intro k hk;cases src<;>exact hk
   have br:∀ {k},(src.right a.size).blk k->src.blk k:=by intro k hk;cases src<;>exact hk
   have rb:∀ {k},src.blk k->(src.right a.size).blk k:=by intro k hk;cases src<;>exact hk
   cases st with
   | «at» n=>simp [AB] at hget
   |l=>
    obtain ⟨src',cs',F',hg,hcs',hrep',hF',hb',hin,hrng,hback⟩:=ih h1 hcl (fun k hk=>⟨fun hf=>(hblk k (bl hk)).1 ((hU k).2 (.inl hf)),(hblk k (bl hk)).2⟩) hok hget;refine ⟨src',cs',F',hg,hcs',hrep',fun k hk=>(hU k).2 (.inl (hF' k hk)),hb',fun k hk=>(hin k hk).imp bl fun h=>(hU k).2 (.inl h),?_,?_⟩
    ·rintro c o o' rfl rfl;have:=hrng c o o' rfl rfl;exact ⟨this.1,by simp only [Ty.size];omega⟩
    ·intro w' O' F'' b' off' sh'' sh₂ x'' cs'' y hsrc hbk hrep hset hsh;have hset' :=Bb p a x.1 ⟨d.t,x''⟩ (fun y=>some ((y,x.2):(Ty.pair a b).den));rw [show (BT p a x.1 ⟨d.t,x''⟩ (fun y=>some ((y,x.2):(Ty.pair a b).den)))=some y from hset] at hset';cases hy:BT p a x.1 ⟨d.t,x''⟩ some with
     |none=>rw [hy] at hset';cases hset'
     |some y₁=>
      rw [hy] at hset';injection hset' with hset'
      simp only [BS] at hsh;cases hs:BS p sh.l sh'' with
      |none=>rw [hs] at hsh;cases hsh
      |some s₁=>
       rw [hs] at hsh;injection hsh with hsh
       obtain ⟨cs₂,hcs₂,hrep₂⟩:=hback w' O' F'' b' off' sh'' s₁ x'' cs'' y₁ hsrc
        ⟨hbk.ch,hbk.cells,fun k hk hh=>hbk.apart k hk ⟨(hU k).2 (.inl hh.1),hh.2⟩,fun k hk hh=>hbk.off k hk (bl hh),hbk.off',hbk.free,hbk.keep⟩ hrep hy hs
       obtain ⟨hcr',h2'⟩:=Rep.stay hbk h2 hcr (hb' b' (by rw [hsrc];rfl)).2 (fun k hk=>(h1.owned k (hF' k hk)).1)
        (fun hf=>(hin b' (by rw [hsrc];rfl)).elim (fun h=>(hblk b' (bl h)).1 ((hU b').2 (.inr hf))) (fun h=>hd b' ⟨h,hf⟩))
        (fun k hk hf=>hd k ⟨hF' k hk,hf⟩) (fun k hk hf=>(hblk k (br hk)).1 ((hU k).2 (.inl (hF' k hf))))
        (by
         intro sb so hso;by_cases hsb:sb=b'
         ·subst hsb;cases src with
          |val c=>cases hso
          |mem c o=>
           injection hso with e1 e2
           subst e1;have:=hrng c o off' rfl hsrc;exact .inr (.inr (by omega))
         ·exact .inl hsb)
       refine ⟨cs₂++c₂,Ml hcs₂ hcr',?_⟩;rw [hset',<-hsh];refine ⟨cs₂,c₂,fun b=>(F₁ b/\¬F' b)\/F'' b,F₂,rfl,by dsimp only;rw [Sh.mk_l];exact hrep₂,by dsimp only;rw [Sh.mk_r];exact h2',?_,?_⟩
       ·intro k;constructor
        ·rintro (⟨hf,hn⟩ | h)
         ·rcases (hU k).1 hf with hf | hf
          ·exact .inl (.inl ⟨hf,hn⟩)
          ·exact .inr hf
         ·exact .inl (.inr h)
        ·rintro ((⟨hf,hn⟩ | h) | h)
         ·exact .inl ⟨(hU k).2 (.inl hf),hn⟩
         ·exact .inr h
         ·exact .inl ⟨(hU k).2 (.inr h),fun hf=>hd k ⟨hF' k hf,h⟩⟩
       ·rintro k ⟨(⟨hf,hn⟩ | h1),h2⟩
        ·exact hd k ⟨hf,h2⟩
        ·exact hbk.apart k h1 ⟨(hU k).2 (.inr h2),fun hf=>hd k ⟨hF' k hf,h2⟩⟩
   |r=>
    obtain ⟨src',cs',F',hg,hcs',hrep',hF',hb',hin,hrng,hback⟩:=ih h2 hcr (fun k hk=>⟨fun hf=>(hblk k (br hk)).1 ((hU k).2 (.inr hf)),(hblk k (br hk)).2⟩) hok hget;refine ⟨src',cs',F',hg,hcs',hrep',fun k hk=>(hU k).2 (.inr (hF' k hk)),hb',fun k hk=>(hin k hk).imp br fun h=>(hU k).2 (.inr h),?_,?_⟩
    ·rintro c o o' rfl rfl;have:=hrng c (o+a.size) o' rfl rfl;exact ⟨by omega,by simp only [Ty.size];omega⟩
    ·intro w' O' F'' b' off' sh'' sh₂ x'' cs'' y hsrc hbk hrep hset hsh;have hset' :=Bb p b x.2 ⟨d.t,x''⟩ (fun y=>some ((x.1,y):(Ty.pair a b).den));rw [show (BT p b x.2 ⟨d.t,x''⟩ (fun y=>some ((x.1,y):(Ty.pair a b).den)))=some y from hset] at hset';cases hy:BT p b x.2 ⟨d.t,x''⟩ some with
     |none=>rw [hy] at hset';cases hset'
     |some y₁=>
      rw [hy] at hset';injection hset' with hset'
      simp only [BS] at hsh;cases hs:BS p sh.r sh'' with
      |none=>rw [hs] at hsh;cases hsh
      |some s₁=>
       rw [hs] at hsh;injection hsh with hsh
       obtain ⟨cs₂,hcs₂,hrep₂⟩:=hback w' O' F'' b' off' sh'' s₁ x'' cs'' y₁ hsrc
        ⟨hbk.ch,hbk.cells,fun k hk hh=>hbk.apart k hk ⟨(hU k).2 (.inr hh.1),hh.2⟩,fun k hk hh=>hbk.off k hk (br hh),hbk.off',hbk.free,hbk.keep⟩ hrep hy hs
       obtain ⟨hcl',h1'⟩:=Rep.stay hbk h1 hcl (hb' b' (by rw [hsrc];rfl)).2 (fun k hk=>(h2.owned k (hF' k hk)).1)
        (fun hf=>(hin b' (by rw [hsrc];rfl)).elim (fun h=>(hblk b' (br h)).1 ((hU b').2 (.inl hf))) (fun h=>hd b' ⟨hf,h⟩))
        (fun k hk hf=>hd k ⟨hf,hF' k hk⟩) (fun k hk hf=>(hblk k (bl hk)).1 ((hU k).2 (.inr (hF' k hf))))
        (by
         intro sb so hso;by_cases hsb:sb=b'
         ·subst hsb;cases src with
          |val c=>cases hso
          |mem c o=>
           injection hso with e1 e2
           subst e1 e2;have:=hrng c (o+a.size) off' rfl hsrc;exact .inr (.inl (by omega))
         ·exact .inl hsb)
       refine ⟨c₁++cs₂,Ml hcl' hcs₂,?_⟩;rw [hset',<-hsh];refine ⟨c₁,cs₂,F₁,fun b=>(F₂ b/\¬F' b)\/F'' b,rfl,by dsimp only;rw [Sh.mk_l];exact h1',by dsimp only;rw [Sh.mk_r];exact hrep₂,?_,?_⟩
       ·intro k;constructor
        ·rintro (⟨hf,hn⟩ | h)
         ·rcases (hU k).1 hf with hf | hf
          ·exact .inl hf
          ·exact .inr (.inl ⟨hf,hn⟩)
         ·exact .inr (.inr h)
        ·rintro (h | ⟨hf,hn⟩ | h)
         ·exact .inl ⟨(hU k).2 (.inl h),fun hf=>hd k ⟨h,hF' k hf⟩⟩
         ·exact .inl ⟨(hU k).2 (.inr hf),hn⟩
         ·exact .inr h
       ·rintro k ⟨h1,(⟨hf,hn⟩ | h2)⟩
        ·exact hd k ⟨h1,hf⟩
        ·exact hbk.apart k h2 ⟨(hU k).2 (.inl h1),fun hf=>hd k ⟨h1,hF' k hf⟩⟩
  |slice e=>
   cases st with
   |l=>simp [AB] at hget
   |r=>simp [AB] at hget
   | «at» n=>
    cases sh with
    |z=>simp [Be] at hok
    |gone=>simp [Be] at hok
    |pr u v=>simp [Be] at hok
    |own s=>
     simp only [Be] at hok;cases hx:(Bu x)[n]? with
     |none=>simp [AB,hx] at hget
     |some y₀=>
      simp only [AB,hx] at hget;have hn:n<(Bu x).length:=(List.getElem?_eq_some_iff.1 hx).1;unfold Rep at h;rcases h with ⟨_,hnil,_⟩ | ⟨b,off,cap,C,tid,fr,G,hc,hl,hb,hfr,hsz,hel,hU,hdb,hOb⟩
      ·rw [show Bu x=[] from hnil] at hn;simp at hn
      ·obtain ⟨hlc,G',hy,hG',hput⟩:=Els.pick (sz:=e.size) (fun _ _ _ h=>h.len) hel hx;have hmul:(Bu x).length*e.size<=cap*e.size:=Nat.mul_le_mul_right _ hl
       have hmul':n*e.size+e.size<=(Bu x).length*e.size:=by
        have:=Nat.mul_le_mul_right e.size (show n+1<=(Bu x).length from hn);rw [Nat.succ_mul] at this;omega
       have hcell:Al w e.size (.mem b (off+n*e.size))=some ((((C.toList.drop off).take ((Bu x).length*e.size)).drop (n*e.size)).take e.size):=by
        rw [Cc hb (by omega),List.drop_take,List.drop_drop,List.take_take,Nat.min_eq_left (by omega)]
       obtain ⟨src',cs',F',hg,hcs',hrep',hF',hb',hin,hrng,hback⟩:=ih (src:=.mem b (off+n*e.size)) hy hcell
        (by rintro k rfl;exact ⟨fun hf=>hdb (hG' k hf),hOb⟩) hok hget
       have hFk:∀ k,src'.blk k->F k:=fun k hk=>(hin k hk).elim (fun h=>(hU k).2 (.inl h)) (fun h=>(hU k).2 (.inr (hG' k h)))
       refine ⟨src',cs',F',?_,hcs',hrep',fun k hk=>(hU k).2 (.inr (hG' k (hF' k hk))),hb',fun k hk=>.inr (hFk k hk),?_,?_⟩
       ·simp only [goto];rw [show Al w 1 src=some cs from hcs,hc];exact hg
       ·rintro c o o' rfl rfl;exact ((hblk c rfl).1 (hFk c rfl)).elim
       ·intro w' O' F'' b' off' sh'' sh₂ x'' cs'' y hsrc hbk hrep hset hsh;have hset' :=Bb p e y₀ ⟨d.t,x''⟩ (fun y' =>some ((Bu x).set n y':(Ty.slice e).den));simp only [BT,hx] at hset;rw [show (BT p e y₀ ⟨d.t,x''⟩ (fun y' =>some ((Bu x).set n y':(Ty.slice e).den)))=some y from hset] at hset';cases hy₁:BT p e y₀ ⟨d.t,x''⟩ some with
        |none=>rw [hy₁] at hset';cases hset'
        |some y₁=>
         rw [hy₁] at hset';injection hset' with hset'
         simp only [BS] at hsh;split at hsh
         case isFalse=>cases hsh
         case isTrue hs=>
          injection hsh with hsh
          obtain ⟨cs₂,hcs₂,hrep₂⟩:=hback w' O' F'' b' off' sh'' s x'' cs'' y₁ hsrc
           ⟨hbk.ch,hbk.cells,fun k hk hh=>hbk.apart k hk ⟨(hU k).2 (.inr (hG' k hh.1)),hh.2⟩,
            fun k hk hh=>by cases hh;exact hbk.apart b hk ⟨(hU b).2 (.inl rfl),fun hf=>hdb (hG' b (hF' b hf))⟩,hbk.off',hbk.free,hbk.keep⟩ hrep hy₁ hs
          have hOb':O b' :=(hb' b' (by rw [hsrc];rfl)).2;have hFb':F b' :=hFk b' (by rw [hsrc];rfl)
          have hhead:Al w' 1 src=some cs:=by
           cases src with
           |val c=>exact hcs
           |mem c o=>
            exact hbk.ch.cellsAt_other hcs (fun hf=>(hblk c rfl).1 ((hU c).2 (.inr (hG' c (hF' c hf))))) (.inl fun e=>(hblk c rfl).1 (e▸hFb'))
          refine ⟨cs,hhead,?_⟩
          have harr:∃ C',w'.heap[b]? = some (.cells C' tid fr)/\C'.size=C.size/\
            (C'.toList.drop off).take ((Bu x).length*e.size)=((C.toList.drop off).take ((Bu x).length*e.size)).take (n*e.size)++cs₂++((C.toList.drop off).take ((Bu x).length*e.size)).drop (n*e.size+e.size):=by
           have hcs₂' :=Bs hcs₂;obtain ⟨C₂,t₂,f₂,hb₂,hle₂,he₂⟩:=hcs₂';have hbw:b<w.heap.size:=(Array.getElem?_eq_some_iff.1 hb).1
           have hC':∃ C',w'.heap[b]? = some (.cells C' tid fr)/\C'.size=C.size/\∀ i,(i<off+n*e.size\/off+n*e.size+e.size<=i)->C'[i]? = C[i]?:=by
            by_cases hbb:b=b'
            ·subst hbb;obtain ⟨C',h1,h2,h3⟩:=hbk.ch.block C tid fr hb;have:=hrng b (off+n*e.size) off' rfl hsrc;exact ⟨C',h1,h2,fun i hi=>h3 i (by omega)⟩
            ·exact ⟨C,(hbk.ch.other b hbw hbb (fun hf=>hdb (hG' b (hF' b hf)))).trans hb,rfl,fun _ _=>rfl⟩
           obtain ⟨C',h1,h2,h3⟩:=hC';rw [h1] at hb₂;injection hb₂ with hb₂
           injection hb₂ with hb₂
           subst hb₂;refine ⟨C',h1,h2,?_⟩;apply List.ext_getElem?;intro i;have hl₂:cs₂.length=e.size:=hrep₂.len;have hCl:C.toList.length=C.size:=Array.length_toList;have hC'l:C'.toList.length=C.size:=by rw [Array.length_toList,h2]
           by_cases hi:i<(Bu x).length*e.size
           ·rw [List.getElem?_take_of_lt hi,List.getElem?_drop,Array.getElem?_toList];by_cases hi1:i<n*e.size
            ·rw [List.getElem?_append_left (by simp;omega),List.getElem?_append_left (by simp;omega),List.getElem?_take_of_lt hi1,List.getElem?_take_of_lt hi,List.getElem?_drop,Array.getElem?_toList];exact h3 _ (by omega)
            ·by_cases hi2:i<n*e.size+e.size
             ·rw [List.getElem?_append_left (by simp;omega),List.getElem?_append_right (by simp;omega),he₂];have:(List.take (n*e.size) (List.take ((Bu x).length*e.size) (List.drop off C.toList))).length=n*e.size:=by simp;omega
              rw [this,List.getElem?_take_of_lt (by omega),List.getElem?_drop,Array.getElem?_toList];congr 1;omega
             ·rw [List.getElem?_append_right (by simp;omega),List.getElem?_drop];have:(List.take (n*e.size) (List.take ((Bu x).length*e.size) (List.drop off C.toList))++cs₂).length=n*e.size+e.size:=by simp;omega
              rw [this,List.getElem?_take_of_lt (by omega),List.getElem?_drop,Array.getElem?_toList];rw [h3 _ (by omega)];congr 1;omega
           ·rw [List.getElem?_take_eq_none (by omega)];symm;apply List.getElem?_eq_none;simp;omega
          obtain ⟨C',hb₂,hszC,hcut⟩:=harr;have hls:(Bu (show (Ty.slice e).den from (Bu x).set n y₁)).length=(Bu x).length:=List.length_set;rw [hset',<-hsh];refine .inr ⟨b,off,cap,C',tid,fr,fun k=>(G k/\¬G' k)\/((G' k/\¬F' k)\/F'' k),?_,?_,hb₂,?_,?_,?_,?_,?_,hbk.keep b hOb (fun hf=>hdb (hG' b (hF' b hf)))⟩
          ·exact hc.trans (congrArg (fun k=>[Value.slice (some ⟨b,off,none⟩) k cap]) hls.symm)
          ·exact Nat.le_trans (Nat.le_of_eq hls) hl
          ·rw [hszC];exact hfr
          ·rw [hszC];exact hsz
          ·rw [show (Bu (show (Ty.slice e).den from (Bu x).set n y₁)).length=(Bu x).length from hls,hcut];refine hput _ y₁ cs₂ (fun k=>(G' k/\¬F' k)\/F'' k) ?_ hrep₂ ?_ hrep₂.len
           ·intro z hz c H hH hz';refine Rep.frame hbk.ch.size ?_ ?_ hbk.free ?_ hz'
            ·intro k hk hOk;exact hbk.ch.other k hk (fun e=>hOk (e▸hOb')) (fun hf=>hOk (hy.owned k (hF' k hf)).1)
            ·intro k hk;refine hbk.ch.other k (hz'.owned k hk).2 ?_ (fun hf=>(hH k hk).2 (hF' k hf));intro ekb;rcases hin k (by rw [hsrc];exact ekb) with h | h
             ·have hkb:k=b:=h;exact hdb (hkb▸(hH k hk).1)
             ·exact (hH k hk).2 h
            ·intro k hk hOk;exact hbk.keep k hOk fun hf=>(hH k hk).2 (hF' k hf)
           ·rintro k (⟨h1,h2⟩ | h) hh
            ·exact hh.2 h1
            ·exact hbk.apart k h ⟨(hU k).2 (.inr hh.1),fun hf=>hh.2 (hF' k hf)⟩
          ·intro k;constructor
           ·rintro (⟨hf,hn⟩ | h)
            ·rcases (hU k).1 hf with hf | hf
             ·exact .inl hf
             ·by_cases hg':G' k
              ·exact .inr (.inr (.inl ⟨hg',hn⟩))
              ·exact .inr (.inl ⟨hf,hg'⟩)
            ·exact .inr (.inr (.inr h))
           ·rintro (h | ⟨h1,h2⟩ | ⟨h1,h2⟩ | h)
            ·exact .inl ⟨(hU k).2 (.inl h),fun hf=>hdb (h▸hG' k (hF' k hf))⟩
            ·exact .inl ⟨(hU k).2 (.inr h1),fun hf=>h2 (hF' k hf)⟩
            ·exact .inl ⟨(hU k).2 (.inr (hG' k h1)),h2⟩
            ·exact .inr h
          ·rintro (⟨h1,h2⟩ | ⟨h1,h2⟩ | h)
           ·exact hdb h1
           ·exact hdb (hG' b h1)
           ·exact hbk.apart b h ⟨(hU b).2 (.inl rfl),fun hf=>hdb (hG' b (hF' b hf))⟩
end Go.V
namespace Go.V
def C_ (t:Ty) (v:Value) (cs:List Value):Prop:=match t.agg with | true=>v = .agg cs.toArray | false=>cs=[v]
def Ty.dep:Ty->Nat
 |.pair a b=>max (a.dep+1) b.dep
 |_=>1
def Bw (P:Program):Ty->(TypeId->Prop)×(List Field->Nat->Prop)
 |.int k=>(fun i=>P.underlying i=some (.int k),fun _ _=>False)
 |.bool=>(fun i=>P.underlying i=some .bool,fun _ _=>False)
 |.str=>(fun i=>P.underlying i=some .string,fun _ _=>False)
 |.slice e=>(fun i=>∃ j,P.underlying i=some (.slice j)/\(Bw P e).1 j/\(∃ f,P.info? j=some f/\f.size=e.size/\f.bytes<=32768/\∃ z cs,f.zero=some z/\C_ e z cs/\∀ w O,Rep w O e e.ownAll e.zero cs Ab.none),fun _ _=>False)
 |.unit=>(fun i=>∃ fs,P.underlying i=some (.struct fs)/\P.stoodInHeld i=false/\fs.toList=[],fun fs _=>fs=[])
 |.pair a b=>
  let q : List Field -> Nat -> Prop := fun fs off => ∃ f r, fs = f :: r /\ f.offset = off /\ f.name ≠ "_" /\ (Bw P a).1 f.type /\ (∃ i, P.info? f.type = some i /\ i.size = a.size) /\ (Bw P b).2 r (off + a.size)
  (fun i=>∃ fs,P.underlying i=some (.struct fs)/\P.stoodInHeld i=false/\q fs.toList 0,q)
def TyOk (P:Program) (i:TypeId) (t:Ty):Prop:=
 (Bw P t).1 i/\(t.flat=true->P.eqGuardType P.depth i=false)/\t.dep<=10000/\∃ f,P.info? i=some f/\f.size=t.size/\f.bytes<=32768/\∃ z cs,f.zero=some z/\C_ t z cs/\∀ w O,Rep w O t t.ownAll t.zero cs Ab.none
def Bf.TyOk (env:Bf) (P:Program):Prop:=(∀ i t,env.ty i=some t->V.TyOk P i t)/\
 ∀ i,env.one i=true->(∀ w,(isAgg i).run P w = .ok false w)/\∃ f,P.info? i=some f/\f.size=1/\∃ z,f.zero=some z/\∀ cs,z≠.agg cs
theorem NS {P:Program} {t:Ty} {i:TypeId} (h:(Bw P t).1 i) (w:World):(isAgg i).run P w = .ok t.agg w:=by
 unfold isAgg;cases t with
 |int k=>simp [run_underlying (show P.underlying i=_ from h),Ty.agg]
 |bool=>simp [run_underlying (show P.underlying i=_ from h),Ty.agg]
 |str=>simp [run_underlying (show P.underlying i=_ from h),Ty.agg]
 |slice e=>obtain ⟨j,hj,_⟩:=h;simp [run_underlying hj,Ty.agg]
 |unit=>obtain ⟨fs,hj,_⟩:=h;simp [run_underlying hj,Ty.agg]
 |pair a b=>obtain ⟨fs,hj,_⟩:=h;simp [run_underlying hj,Ty.agg]
theorem DU (b off n:Nat):(⟨b,off,none⟩:Addr).add n=⟨b,off+n,none⟩:=by
 unfold Addr.add;split
 ·rename_i h;subst h;rfl
 ·rfl
theorem Dh {P:Program} {i:TypeId} {f:TypeInfo} (h:P.info? i=some f) (w:World):(sizeOf i).run P w = .ok f.size w:=by
 simp [sizeOf,typeInfo,h]
theorem Mm {P:Program} {t:Ty} {i:TypeId} (h:(Bw P t).1 i) {f:TypeInfo} (hf:P.info? i=some f) (hsz:f.size=t.size)
  {w:World} {b off:Nat} {cs:List Value} (hl:cs.length=t.size) (hc:∀ k,k<cs.length->w.cell? ⟨b,off+k,none⟩=cs[k]?) :
  ∃ v,(loadVar i ⟨b,off,none⟩).run P w = .ok v w/\C_ t v cs:=by
 unfold loadVar;simp only [Sem.run_bind,NS h w,Result.andThen_ok];cases hagg:t.agg with
 |true=>
  refine ⟨.agg cs.toArray,?_,by simp [C_,hagg]⟩;simp only [if_true,Sem.run_bind,Dh hf,Result.andThen_ok,hsz,<-hl]
  rw [run_loadCells_list w ⟨b,off,none⟩ cs (fun j v hj=>by
   rw [DU,hc j (List.getElem?_eq_some_iff.1 hj).1,hj])]
  rfl
 |false=>
  have h1:t.size=1:=by cases t<;>simp_all [Ty.agg,Ty.size]
  obtain ⟨v,rfl⟩:∃ v,cs=[v]:=by
   match cs,hl with
   |[],hl=>simp [h1] at hl
   |[v],_=>exact ⟨v,rfl⟩
   |_::_::_,hl=>simp [h1] at hl
  refine ⟨v,?_,by simp [C_,hagg]⟩;have:=hc 0 (by simp);simp at this;simp [this]
theorem JD {w:World} {n b off:Nat} {cs:List Value} (h:Al w n (.mem b off)=some cs):∀ k,k<cs.length->w.cell? ⟨b,off+k,none⟩=cs[k]?:=by
 obtain ⟨C,tid,fr,hb,hle,rfl⟩:=Bs h;intro k hk;have hk':k<n:=by simp at hk;omega
 rw [List.getElem?_take_of_lt hk',List.getElem?_drop,Array.getElem?_toList];simp [World.cell?,hb]
theorem Rep.flat {w w':World} {O O':Ab}:∀ {t:Ty} {sh sh':Sh} {x:t.den} {cs:List Value} {F:Ab},t.flat=true->Rep w O t sh x cs F->Rep w' O' t sh' x cs Ab.none:=by
 intro t;induction t with
 |int k=>intro sh sh' x cs F _ h;exact ⟨h.1,fun _ hb=>hb⟩
 |bool=>intro sh sh' x cs F _ h;exact ⟨h.1,fun _ hb=>hb⟩
 |str=>intro sh sh' x cs F _ h;exact ⟨h.1,fun _ hb=>hb⟩
 |unit=>intro sh sh' x cs F _ h;exact ⟨h.1,fun _ hb=>hb⟩
 |pair a b iha ihb=>
  intro sh sh' x cs F hf h;simp only [Ty.flat,Ajb] at hf;obtain ⟨c₁,c₂,F₁,F₂,hc,h1,h2,hU,hd⟩:=h;exact ⟨c₁,c₂,Ab.none,Ab.none,hc,iha hf.1 h1,ihb hf.2 h2,fun _=>by simp [Ab.none],fun _ h=>h.1⟩
 |slice e _=>intro sh sh' x cs F hf;simp [Ty.flat] at hf
structure AF (W:Ab) (w w':World):Prop where
 os:w'.os=w.os
 tape:w'.tape=w.tape
 output:w'.output=w.output
 size:w.heap.size<=w'.heap.size
 block:∀ k,k<w.heap.size->¬W k->w'.heap[k]? = w.heap[k]?
theorem AF.refl (W:Ab) (w:World):AF W w w:=⟨rfl,rfl,rfl,Nat.le_refl _,fun _ _ _=>rfl⟩
theorem AF.trans {W W':Ab} {a b c:World} (h:AF W a b) (h':AF W' b c) (hW:∀ k,k<a.heap.size->W' k->W k):AF W a c:=
 ⟨h'.os.trans h.os,h'.tape.trans h.tape,h'.output.trans h.output,Nat.le_trans h.size h'.size,
  fun k hk hn=>(h'.block k (Nat.lt_of_lt_of_le hk h.size) fun hw=>hn (hW k hk hw)).trans (h.block k hk hn)⟩
theorem AF.mono {W W':Ab} {a b:World} (h:AF W a b) (hW:∀ k,k<a.heap.size->W k->W' k):AF W' a b:=
 ⟨h.os,h.tape,h.output,h.size,fun k hk hn=>h.block k hk fun hw=>hn (hW k hk hw)⟩
def FnOk (P:Program) (w:World) (O:Ab) (a b:Ty) (φ:a.den->Option b.den) (v:Value):Prop:=
 ∃ f bnd caps, v = .func (.func f) bnd caps /\ (∃ fn, P.funcs[f]? = some fn /\ fn.body.isSome = true /\ fn.name ≠ "runtime.NumGoroutine") /\
  ∀ w₁,AF O w w₁->∀ x va y cs,C_ a va cs->Rep w₁ Ab.none a .z x cs Ab.none->φ x=some y->
   Calls P f (bnd ++ #[va]++caps) w₁ fun e w₂=>∃ vb cs',e = .returned vb/\AF Ab.none w₁ w₂/\C_ b vb cs' /\Rep w₂ Ab.none b .z y cs' Ab.none
section
variable (P:Program) (w:World) (O:Ab) (σ:St) (γ:Name->Src)
def Da (p:CH):Prop:=∃ b d sh d',σ.root p.name=some (.data b d sh)/\Be p.path sh=true/\AB p.path d.t d.x some=some d'
def Bz (p:CH) (t:Ty) (src:Src):Prop:=∃ b d sh,σ.root p.name=some (.data b d sh)/\Gu p.path d.t=some t/\(Da σ p->goto w p.path d.t (γ p.name)=some (t,src))
inductive Ak:Slot->Value->Prop
 |undef (v:Value):Ak .undef v
 |pv (d:Hd) (v:Value) (cs:List Value):C_ d.t v cs->Rep w O d.t .z d.x cs Ab.none->Ak (.pv d) v
 |ref (t:Ty) (p:CH) (v:Value) (src:Src):Bz w σ γ p t src->(Da σ p->∃ cs,Al w t.size src=some cs/\C_ t v cs)->Ak (.ref t p) v
 |vw (e:Ty) (p:CH) (lo hi:Nat) (src:Src) (a:Option Addr) (n c:Nat):Bz w σ γ p (.slice e) src->(Da σ p->Al w 1 src=some [.slice a n c])->lo<=hi->hi<=n->
   Ak (.vw e p lo hi) (.slice (if c=lo then a else a.map (·.add (lo*e.size))) (hi-lo) (c-lo))
 |ptr (p:CH) (t:Ty) (b off:Nat):Bz w σ γ p t (.mem b off)->Ak (.ptr p) (.pointer (some ⟨b,off,none⟩))
 |ptrH (n:Name) (s:Slot) (b off:Nat):σ.root n=some (.held s)->γ n = .mem b off->Ak (.ptr ⟨n,[]⟩) (.pointer (some ⟨b,off,none⟩))
 |fptr (d:Hd) (b off:Nat) (cs:List Value):b<w.heap.size->¬O b->Rep w O d.t .z d.x cs Ab.none->(∀ k,k<cs.length->w.cell? ⟨b,off+k,none⟩=cs[k]?)->
   Ak (.fptr d) (.pointer (some ⟨b,off,none⟩))
 |clo (f:FuncId) (caps:List Slot) (vs:Array Value):vs.size=caps.length->(∀ (i:Nat) s v,caps[i]? = some s->vs[i]? = some v->Ak s v)->Ak (.clo f caps) (.func (.func f) #[] vs)
 |fnA (a b:Ty) (φ:a.den->Option b.den) (v:Value) (w₀:World) (O₀:Ab):b.flat=true->AF O₀ w₀ w->(∀ b,b<w₀.heap.size->O b->O₀ b)->FnOk P w₀ O₀ a b φ v->Ak (.fnA a b φ) v
 |tup (l:List Slot) (vs:Array Value):vs.size=l.length->(∀ (i:Nat) s v,l[i]? = some s->vs[i]? = some v->Ak s v)->Ak (.tup l) (.tuple vs)
 |nilS:Ak .nilS (.slice none 0 0)
 |may (e b:Bool):(b=true->e=true)->Ak (.may e) (.bool b)
def RootOk:AV->Src->Ab->Prop
 |.data true d sh,src,F=>∃ b off C tid fr cs F',src = .mem b off/\w.heap[b]? = some (.cells C tid fr)/\(∀ i,i<C.size->¬(fr.1<=i/\i<fr.2))/\
   Al w d.t.size (.mem b off)=some cs/\Rep w O d.t sh d.x cs F' /\¬F' b/\O b/\∀ k,F k↔k=b\/F' k
 |.data false d sh,src,F=>∃ cs,src = .val cs/\Rep w O d.t sh d.x cs F
 |.held s,src,F=>∃ b off C tid fr v,src = .mem b off/\w.heap[b]? = some (.cells C tid fr)/\(∀ i,i<C.size->¬(fr.1<=i/\i<fr.2))/\C[off]? = some v/\
   Ak P w O σ γ s v/\O b/\∀ k,F k↔k=b
end
structure Sim (P:Program) (env:Bf) (w₀:World) (O₀ W:Ab) (σ:St) (γ:Name->Src) (φ:Name->Ab) (O:Ab) (a:Act) (w:World):Prop where
 defers:a.defers=env.marks
 size:a.tmps.size=env.n
 kept:AF W w₀ w
 roots:∀ n r,σ.root n=some r->RootOk P w O σ γ r (γ n) (φ n)
 apart:∀ n m r r',σ.root n=some r->σ.root m=some r' ->n≠m->∀ b,¬(φ n b/\φ m b)
 fresh:∀ n r,σ.root n=some r->∀ b,φ n b->(w₀.heap.size<=b\/W b)/\¬O₀ b
 own:∀ b,O b↔O₀ b\/∃ n r,σ.root n=some r/\φ n b
 old:∀ b,O₀ b->b<w.heap.size
 slots:∀ i,Ak P w O σ γ (σ.slot i) (a.tmps.getD i undef)
 pin:∀ s,env.pin=some s->∀ bx d sh,σ.root 4=some (.data bx d sh)->γ 4=s
end Go.V
namespace Go.V
variable {α:Type}
variable {P:Program} {env:Bf} {w₀ w:World} {O₀ W O:Ab} {σ:St} {γ:Name->Src} {φ:Name->Ab} {a:Act}
theorem As {t t':Ty} {x:t.den} {k:t'.den->Option α} {r:α} (h:AI x k=some r):∃ e:t=t',k (e▸x)=some r:=by
 unfold AI at h;split at h
 ·rename_i e;exact ⟨e,h⟩
 ·cases h
theorem Ed {p:Bi} {t:Ty} {x:t.den} {k:Hd->Option α} {r:α} (h:AB p t x k=some r):∃ d,AB p t x some=some d/\k d=some r:=by
 rw [BX] at h;exact Option.bind_eq_some_iff.1 h
theorem BE {p:Bi} {t:Ty} {x:t.den} {d:Hd} {k:t.den->Option α} {r:α} (h:BT p t x d k=some r):∃ y,BT p t x d some=some y/\k y=some r:=by
 rw [Bb] at h;exact Option.bind_eq_some_iff.1 h
theorem Sim.zip (S:Sim P env w₀ O₀ W σ γ φ O a w) {n:Name} {b:Bool} {d d':Hd} {sh:Sh} {p:Bi} (hr:σ.root n=some (.data b d sh))
  (hok:Be p sh=true) (hget:AB p d.t d.x some=some d') :
  ∃ F,Zip w O p d.t sh d.x F (γ n) d' /\(∀ k,F k->φ n k)/\(∀ k,(γ n).blk k->φ n k/\¬F k)/\(∀ k,φ n k->(γ n).blk k\/F k):=by
 have R:=S.roots n _ hr;cases b with
 |true=>
  obtain ⟨b,off,C,tid,fr,cs,F',hsrc,hb,hfr,hcs,hrep,hF',hOb,hU⟩:=R;refine ⟨F',hsrc▸Rep.zip p hrep hcs (by rintro k rfl;exact ⟨hF',hOb⟩) hok hget,fun k hk=>(hU k).2 (.inr hk),?_,?_⟩
  ·rw [hsrc];rintro k rfl;exact ⟨(hU _).2 (.inl rfl),hF'⟩
  ·rw [hsrc];exact fun k hk=>(hU k).1 hk
 |false=>
  obtain ⟨cs,hsrc,hrep⟩:=R;refine ⟨φ n,hsrc▸Rep.zip p hrep (by simp [Al]) (fun k hk=>hk.elim) hok hget,fun _ h=>h,?_,fun _ h=>.inr h⟩;rw [hsrc];intro k hk;exact hk.elim
theorem Sim.place (S:Sim P env w₀ O₀ W σ γ φ O a w) {p:CH} {k:Hd->Option α} {r:α} (h:Bv σ p k=some r) :
  ∃ d',k d'=some r/\Da σ p/\∃ src cs sh F,(∀ t' src',Bz w σ γ p t' src' ->t'=d'.t/\src'=src)/\Al w d'.t.size src=some cs/\Rep w O d'.t sh d'.x cs F/\sh.whole=true/\Rep w O₀ d'.t .z d'.x cs Ab.none/\∀ b,src.blk b->¬O₀ b:=by
 unfold Bv at h;split at h
 ·rename_i b d sh hr;split at h
  ·rename_i hok;rw [Ajb] at hok;obtain ⟨d',hget,hk⟩:=Ed h;obtain ⟨F,⟨src,cs,F',hg,hcs,hrep,hF',_,hblk,_⟩,hFφ,hbφ,_⟩:=S.zip hr hok.1 hget;have hL:Da σ p:=⟨b,d,sh,d',hr,hok.1,hget⟩
   refine ⟨d',hk,hL,src,cs,_,F',?_,hcs,hrep,hok.2,Rep.freeze (fun c _ hn ho=>hn ((S.own c).2 (.inl ho))) hok.2 (fun c hc=>(S.fresh _ _ hr c (hFφ c (hF' c hc))).2) hrep,
    fun c hc=>(S.fresh _ _ hr c ((hblk c hc).elim (fun h=>(hbφ c h).1) (hFφ c))).2⟩
   rintro t' src' ⟨b',d₂,sh',hr',_,hg'⟩;rw [hr] at hr';injection hr' with hr'
   injection hr' with e1 e2 e3
   subst e2;have:=hg' hL;rw [hg] at this;injection this with this
   injection this with e1 e2
   exact ⟨e1.symm,e2.symm⟩
  ·cases h
 ·cases h
theorem Rep.anyone {O':Ab} (hO:∀ b,¬O' b) {t:Ty} {sh:Sh} {x:t.den} {cs:List Value} {F:Ab} (h:Rep w O t sh x cs F) (hw:sh.whole=true):Rep w O' t .z x cs Ab.none:=
 Rep.freeze (fun _ _ _=>hO _) hw (fun _ _=>hO _) h
theorem Els.drop {β:Type} {R:β->List Value->Ab->Prop} {sz:Nat} (hR:∀ x c F,R x c F->c.length=sz) (hN:∀ x c F,R x c F->R x c Ab.none) :
  ∀ {n:Nat} {xs:List β} {cs:List Value} {F:Ab},Els R xs cs F->Els R (xs.drop n) (cs.drop (n*sz)) Ab.none
 |0,xs,cs,F,h=>by
  simp only [List.drop_zero,Nat.zero_mul];induction xs generalizing cs F with
  |nil=>exact ⟨h.1,fun _ hb=>hb⟩
  |cons x xs ih=>
   obtain ⟨c₁,c₂,F₁,F₂,hc,hx,hxs,_,_⟩:=h;exact ⟨c₁,c₂,Ab.none,Ab.none,hc,hN _ _ _ hx,ih _ _ hxs,fun _=>by simp [Ab.none],fun _ h=>h.1⟩
 |n+1,[],cs,F,h=>by
  rw [h.1];simp only [List.drop_nil];exact ⟨rfl,fun _ hb=>hb⟩
 |n+1,x::xs,cs,F,⟨c₁,c₂,F₁,F₂,hc,hx,hxs,_,_⟩=>by
  have:=Els.drop hR hN (n:=n) hxs;rw [hc,List.drop_succ_cons,Nat.succ_mul,Nat.add_comm,<-List.drop_drop,List.drop_append_of_le_length (by rw [hR _ _ _ hx];exact Nat.le_refl _),<-hR _ _ _ hx,Ajh,List.nil_append,hR _ _ _ hx];exact this
theorem Els.take {β:Type} {R:β->List Value->Ab->Prop} {sz:Nat} (hR:∀ x c F,R x c F->c.length=sz) (hN:∀ x c F,R x c F->R x c Ab.none) :
  ∀ {n:Nat} {xs:List β} {cs:List Value} {F:Ab},Els R xs cs F->Els R (xs.take n) (cs.take (n*sz)) Ab.none
 |0,xs,cs,F,h=>by
  simp only [List.take_zero,Nat.zero_mul];exact ⟨rfl,fun _ hb=>hb⟩
 |n+1,[],cs,F,h=>by
  rw [h.1];simp only [List.take_nil];exact ⟨rfl,fun _ hb=>hb⟩
 |n+1,x::xs,cs,F,⟨c₁,c₂,F₁,F₂,hc,hx,hxs,_,_⟩=>by
  have:=Els.take hR hN (n:=n) hxs;have hl:=hR _ _ _ hx;refine ⟨c₁,c₂.take (n*sz),Ab.none,Ab.none,?_,hN _ _ _ hx,this,fun _=>by simp [Ab.none],fun _ h=>h.1⟩;rw [hc,List.take_append,hl,Nat.succ_mul,List.take_of_length_le (by omega),Nat.add_sub_cancel]
theorem Els.len {β:Type} {R:β->List Value->Ab->Prop} {sz:Nat} (hR:∀ x c F,R x c F->c.length=sz):∀ {xs:List β} {cs:List Value} {F:Ab},Els R xs cs F->cs.length=xs.length*sz
 |[],_,_,h=>by rw [h.1];simp
 |x::xs,_,_,⟨c₁,c₂,_,_,hc,hx,hxs,_,_⟩=>by
  rw [hc,Ai9,hR _ _ _ hx,Els.len hR hxs,Aja,Nat.succ_mul,Nat.add_comm]
theorem Rep.cut {e:Ty} {xs:List e.den} {an:Option Addr} {n c:Nat} {lo hi:Nat} (h:Rep w O (.slice e) .z xs [.slice an n c] Ab.none) (h1:lo<=hi) (h2:hi<=xs.length) :
  n=xs.length/\xs.length<=c/\Rep w O (.slice e) .z ((xs.take hi).drop lo) [.slice (if c=lo then an else an.map (·.add (lo*e.size))) (hi-lo) (c-lo)] Ab.none:=by
 obtain ⟨hF,a',cap,hc,hl,ha,hs,hx⟩:=h;injection hc with hc
 injection hc with e1 e2 e3
 subst e1 e2 e3;have hlen:((xs.take hi).drop lo).length=hi-lo:=by simp;omega
 refine ⟨rfl,hl,fun _ hb=>hb,_,c-lo,by simp only [Bu];rw [hlen],by simp only [Bu] at hl ⊢;rw [hlen];omega,?_,?_,?_⟩
 ·intro h;split at h
  ·have:=ha h;omega
  ·cases an with
   |none=>have:=ha rfl;omega
   |some a=>simp at h
 ·intro a' h;split at h
  ·exact hs a' h
  ·cases an with
   |none=>simp at h
   |some a=>
    simp at h;subst h;unfold Addr.add;split
    ·exact hs a rfl
    ·rfl
 ·rcases hx with hx | ⟨b,off,cl,hab,hb,hOb,hel,hcell⟩
  ·left;rw [hx];simp only [List.take_nil,List.drop_nil];rfl
  ·by_cases hcl:c=lo
   ·left;have:hi=lo:=by simp only [Bu] at hl;omega
    apply List.eq_nil_of_length_eq_zero;rw [hlen];omega
   ·right;refine ⟨b,off+lo*e.size,(cl.take (hi*e.size)).drop (lo*e.size),?_,hb,hOb,?_,?_⟩
    ·rw [if_neg hcl,hab];simp [DU]
    ·have hN:∀ x c F,Rep w O e .z x c F->Rep w O e .z x c Ab.none:=fun x c F h=>h.foot fun b=>⟨fun h=>h.elim,fun hb=>(h.free b hb).elim⟩
     exact Els.drop (fun _ _ _ h=>h.len) hN (Els.take (fun _ _ _ h=>h.len) hN hel)
    ·intro i hi';have hcll:=Els.len (sz:=e.size) (fun _ _ _ h=>Rep.len h) hel;have hi2:i<(cl.take (hi*e.size)).length-lo*e.size:=by simpa using hi'
     have hi3:lo*e.size+i<cl.length:=by simp at hi2;omega
     have hi4:lo*e.size+i<hi*e.size:=by simp at hi2;omega
     have:=hcell (lo*e.size+i) hi3;rw [List.getElem?_drop,List.getElem?_take_of_lt hi4,<-this,Nat.add_assoc]
theorem Sim.content (S:Sim P env w₀ O₀ W σ γ φ O a w) {t:Ty} {s:Slot} {v:Value} (hs:Ak P w O σ γ s v) {k:t.den->Option α} {r:α} (h:Ep σ t s k=some r) :
  ∃ x,k x=some r/\∃ cs,C_ t v cs/\Rep w O₀ t .z x cs Ab.none/\(s.lent=false->Rep w O t .z x cs Ab.none):=by
 have low:∀ {t:Ty} {x:t.den} {cs:List Value},Rep w O t .z x cs Ab.none->Rep w O₀ t .z x cs Ab.none:=fun h=>
  Rep.frame (Nat.le_refl _) (fun _ _ _=>rfl) (fun _ _=>rfl) (fun c _ hn ho=>hn ((S.own c).2 (.inl ho))) (fun _ h=>h.elim) h
 cases hs with
 |undef v=>simp [Ep] at h
 |pv d v cs hv hrep=>
  obtain ⟨e,hk⟩:=As h;subst e;exact ⟨d.x,hk,cs,hv,low hrep,fun _=>hrep⟩
 |ref t' p v src hp hlv=>
  obtain ⟨d',hk,hL,src',cs',sh,F,hp',hcs',hrep,hw,hz,_⟩:=S.place h;obtain ⟨cs,hcs,hv⟩:=hlv hL;obtain ⟨e1,e2⟩:=hp' _ _ hp;obtain ⟨e,hk⟩:=As hk;subst e1 e2;subst e;rw [hcs] at hcs';injection hcs' with hcs'
  subst hcs';exact ⟨d'.x,hk,cs,hv,hz,fun h=>by simp [Slot.lent] at h⟩
 |vw e p lo hi src an n c hp hlv hlo hhi=>
  obtain ⟨d',hk,hL,src',cs',sh,F,hp',hcs',hrep,hw,hz,_⟩:=S.place h;have hcs:=hlv hL;obtain ⟨e1,e2⟩:=hp' _ _ hp;obtain ⟨ee,hk⟩:=As hk;obtain ⟨dt,dx⟩:=d';subst e2;dsimp only at *;subst e1;rw [show (Ty.slice e).size=1 from rfl,hcs] at hcs';injection hcs' with hcs'
  subst hcs';obtain ⟨e3,hk⟩:=As hk;subst e3
  have hn:n=(Bu dx).length:=by
   obtain ⟨_,a',cap,hc,_⟩:=hz;injection hc with hc
   injection hc
  obtain ⟨_,_,hcut⟩:=Rep.cut (lo:=lo) (hi:=hi) hz hlo (by rw [<-hn];exact hhi);exact ⟨_,hk,_,rfl,hcut,fun h=>by simp [Slot.lent] at h⟩
 |ptr p t b off hp=>simp [Ep] at h
 |ptrH n s b off h1 h2=>simp [Ep] at h
 |fptr d b off cs h1 h2 h3 h4=>simp [Ep] at h
 |clo f caps vs h1 h2=>simp [Ep] at h
 |fnA a b φ v w₀ O₀ h0 h1 h2 h3=>simp [Ep] at h
 |tup l vs h1 h2=>simp [Ep] at h
 |may e b h=>simp [Ep] at h
 |nilS=>
  cases t with
  |slice e=>
   obtain ⟨e',hk⟩:=As (show AI (t:=.slice e) (t' :=.slice e) ([]:List e.den) k=some r from h)
   refine ⟨([]:List e.den),hk,[.slice none 0 0],rfl,?_,fun _=>?_⟩ <;>
    exact ⟨fun _ hb=>hb,none,0,rfl,Nat.le_refl _,fun _=>rfl,(fun _ h=>by cases h),.inl rfl⟩
  |int k=>simp [Ep] at h
  |bool=>simp [Ep] at h
  |str=>simp [Ep] at h
  |unit=>simp [Ep] at h
  |pair a b=>simp [Ep] at h
end Go.V
namespace Go.V
variable {α:Type}
variable {P:Program} {env:Bf} {w₀ w:World} {O₀ W O:Ab} {σ:St} {γ:Name->Src} {φ:Name->Ab} {a:Act}
theorem Hi:∀ (p:Bi) {t:Ty} {x:t.den} {d:Hd},AB p t x some=some d->Gu p t=some d.t
 |[],t,x,d,h=>by simp only [AB] at h;injection h with h;subst h;rfl
 |.l::p,t,x,d,h=>by
  cases t<;>simp only [AB,Gu] at h ⊢ <;> first | exact Hi p h | cases h
 |.r::p,t,x,d,h=>by
  cases t<;>simp only [AB,Gu] at h ⊢ <;> first | exact Hi p h | cases h
 |.at n::p,t,x,d,h=>by
  cases t<;>simp only [AB,Gu] at h ⊢ <;> try (cases h;done)
  split at h
  ·exact Hi p h
  ·cases h
theorem Zf (v:Value):Ak P w O σ γ (DO v) v:=by
 unfold DO;split
 ·exact .pv _ _ [_] rfl ⟨rfl,fun _ h=>h⟩
 ·exact .pv _ _ [_] rfl ⟨rfl,fun _ h=>h⟩
 ·refine .pv _ _ [_] rfl ⟨?_,fun _ h=>h⟩;simp [Lk]
 ·exact .nilS
 ·exact .undef _
theorem Sim.val (S:Sim P env w₀ O₀ W σ γ φ O a w) (x:Operand):Ak P w O σ γ (σ.val x) (a.eval x):=by
 cases x with
 |tmp t=>exact S.slots t
 |const v=>exact Zf v
 |func f=>exact .clo f [] #[] rfl (fun i s v h=>by simp at h)
 |global g=>exact .undef _
theorem Db {k:IntKind} {n:Int} {v:Value} (h:Ak P w O σ γ (.pv ⟨.int k,n⟩) v):v = .int k n:=by
 cases h with
 |pv d v cs hv hr=>obtain ⟨h1,_⟩:=hr;simp only [C_,Ty.agg] at hv;rw [hv] at h1;injection h1
theorem Ir {n:Bool} {v:Value} (h:Ak P w O σ γ (.pv ⟨.bool,n⟩) v):v = .bool n:=by
 cases h with
 |pv d v cs hv hr=>obtain ⟨h1,_⟩:=hr;simp only [C_,Ty.agg] at hv;rw [hv] at h1;injection h1
theorem DB {l:List UInt8} {v:Value} (h:Ak P w O σ γ (.pv ⟨.str,l⟩) v):v = .string ⟨l.toArray⟩:=by
 cases h with
 |pv d v cs hv hr=>obtain ⟨h1,_⟩:=hr;simp only [C_,Ty.agg] at hv;rw [hv] at h1;injection h1
theorem EB (k:IntKind) (n:Int):Ak P w O σ γ (JM k n) (.int k n):=.pv _ _ [_] rfl ⟨rfl,fun _ h=>h⟩
theorem Dm (b:Bool):Ak P w O σ γ (Cw b) (.bool b):=.pv _ _ [_] rfl ⟨rfl,fun _ h=>h⟩
theorem NT (l:List UInt8):Ak P w O σ γ (cE l) (.string ⟨l.toArray⟩):=.pv _ _ [_] rfl ⟨rfl,fun _ h=>h⟩
def HH (P:Program) (w:World) (O:Ab) (σ:St) (γ:Name->Src) (m:Sem Value) (k:Slot->Option α) (r:α):Prop:=
 ∃ s v,m.run P w = .ok v w/\Ak P w O σ γ s v/\k s=some r
theorem ji {op:BinOp} {kk:IntKind} {x y:Int} {k:Slot->Option α} {r:α} (ho:op≠.shl/\op≠.shr) (t:TypeId) (h:cF op kk x y k=some r) :
  HH P w O σ γ (binOp op t (.int kk x) (.int kk y)) k r:=by
 unfold cF at h;cases op<;>simp only [binOp,ne_eq,not_true_eq_false,if_false]<;>(try simp at ho)
 case add=>exact ⟨_,_,rfl,EB _ _,h⟩
 case sub=>exact ⟨_,_,rfl,EB _ _,h⟩
 case mul=>exact ⟨_,_,rfl,EB _ _,h⟩
 case quo=>
  dsimp only at h;split at h
  ·cases h
  ·rename_i hd;refine ⟨_,_,?_,EB _ _,h⟩;simp only [Op.intDiv,if_neg (show ¬y=0 by simpa using hd)];rfl
 case rem=>
  dsimp only at h;split at h
  ·cases h
  ·rename_i hd;refine ⟨_,_,?_,EB _ _,h⟩;simp only [Op.intDiv,if_neg (show ¬y=0 by simpa using hd)];rfl
 case and=>exact ⟨_,_,rfl,EB _ _,h⟩
 case or=>exact ⟨_,_,rfl,EB _ _,h⟩
 case eql=>exact ⟨_,_,rfl,Dm _,h⟩
 case neq=>exact ⟨_,_,rfl,Dm _,h⟩
 case lss=>exact ⟨_,_,rfl,Dm _,h⟩
 case leq=>exact ⟨_,_,rfl,Dm _,h⟩
 case gtr=>exact ⟨_,_,rfl,Dm _,h⟩
 case geq=>exact ⟨_,_,rfl,Dm _,h⟩
 case xor=>simp at h
 case andNot=>simp at h
theorem Tf {op:BinOp} {kk kk':IntKind} {x y:Int} {k:Slot->Option α} {r:α} (t:TypeId) (ho:op = .shl\/op = .shr) (h:NQ op kk x y k=some r) :
  HH P w O σ γ (binOp op t (.int kk x) (.int kk' y)) k r:=by
 unfold NQ at h;split at h
 ·cases h
 ·rename_i hd;have hd':¬y<0:=by simpa using hd
  rcases ho with rfl | rfl
  ·exact ⟨_,_,by simp only [binOp,Op.shift,if_neg hd'];rfl,EB _ _,h⟩
  ·exact ⟨_,_,by simp only [binOp,Op.shift,if_neg hd'];rfl,EB _ _,h⟩
theorem jj {op:BinOp} {x y:List UInt8} {k:Slot->Option α} {r:α} (t:TypeId) (h:cG op x y k=some r) :
  HH P w O σ γ (binOp op t (.string ⟨x.toArray⟩) (.string ⟨y.toArray⟩)) k r:=by
 unfold cG at h;cases op<;>simp only [binOp,Op.stringOp,ByteArray.toList_mk]<;>(try (simp at h;done))
 case add=>
  dsimp only at h;split at h
  ·rename_i hd;have hd':x.length+y.length<=9223372036854775807:=by simpa using hd
   refine ⟨_,_,?_,NT _,h⟩;rw [if_neg]
   ·rw [ByteArray.mk_append_mk];rfl
   ·simp only [ByteArray.size_mk',List.size_toArray];have:IntKind.max .i64=9223372036854775807:=by decide
    rw [this];omega
  ·cases h
 case eql=>exact ⟨_,_,rfl,Dm _,h⟩
 case neq=>exact ⟨_,_,rfl,Dm _,h⟩
 case lss=>exact ⟨_,_,rfl,Dm _,h⟩
 case leq=>exact ⟨_,_,rfl,Dm _,h⟩
 case gtr=>exact ⟨_,_,rfl,Dm _,h⟩
 case geq=>exact ⟨_,_,rfl,Dm _,h⟩
theorem NU (w:World):∀ (t:Ty),t.flat=true->
  (∀ (D:Nat) (i:TypeId) (x y:t.den) (va vb:Value) (ca cb:List Value),t.dep<=D->(Bw P t).1 i->
   C_ t va ca->C_ t vb cb->Rep w O t .z x ca Ab.none->Rep w O t .z y cb Ab.none->(Op.equalIn D i va vb).run P w = .ok (t.eqv x y) w)/\
  (∀ (D:Nat) (fs:List Field) (off:Nat) (x y:t.den) (ca cb pa pb:List Value),t.dep<=D+1->(Bw P t).2 fs off->pa.length=off->pb.length=off->
   Rep w O t .z x ca Ab.none->Rep w O t .z y cb Ab.none->∀ ra rb,(Op.eqFields D (pa++ca++ra).toArray (pb++cb++rb).toArray fs).run P w = .ok (t.eqv x y) w):=by
 intro t;induction t with
 |int k=>
  intro _;refine ⟨?_,fun _ _ _ _ _ _ _ _ _ _ h=>h.elim⟩;intro D i x y va vb ca cb hD hi hva hvb hx hy;obtain ⟨D,rfl⟩:∃ D',D=D'+1:=⟨D-1,by simp [Ty.dep] at hD;omega⟩;simp only [C_,Ty.agg] at hva hvb;obtain ⟨h1,_⟩:=hx;obtain ⟨h2,_⟩:=hy;rw [hva] at h1;rw [hvb] at h2;injection h1 with h1;injection h2 with h2
  subst h1 h2;exact run_equalIn_int w D i k k (Hc x) (Hc y) hi
 |bool=>
  intro _;refine ⟨?_,fun _ _ _ _ _ _ _ _ _ _ h=>h.elim⟩;intro D i x y va vb ca cb hD hi hva hvb hx hy;obtain ⟨D,rfl⟩:∃ D',D=D'+1:=⟨D-1,by simp [Ty.dep] at hD;omega⟩;simp only [C_,Ty.agg] at hva hvb;obtain ⟨h1,_⟩:=hx;obtain ⟨h2,_⟩:=hy;rw [hva] at h1;rw [hvb] at h2;injection h1 with h1;injection h2 with h2
  subst h1 h2;exact run_equalIn_bool' w D i (Za x) (Za y) hi
 |str=>
  intro _;refine ⟨?_,fun _ _ _ _ _ _ _ _ _ _ h=>h.elim⟩;intro D i x y va vb ca cb hD hi hva hvb hx hy;obtain ⟨D,rfl⟩:∃ D',D=D'+1:=⟨D-1,by simp [Ty.dep] at hD;omega⟩;simp only [C_,Ty.agg] at hva hvb;obtain ⟨h1,_⟩:=hx;obtain ⟨h2,_⟩:=hy;rw [hva] at h1;rw [hvb] at h2;injection h1 with h1;injection h2 with h2
  subst h1 h2;refine (run_equalIn_string w D i _ _ hi).trans ?_;rw [ByteArray.toList_mk,ByteArray.toList_mk];rfl
 |slice e _=>intro h;simp [Ty.flat] at h
 |unit=>
  intro _;refine ⟨?_,?_⟩
  ·intro D i x y va vb ca cb hD hi hva hvb hx hy;obtain ⟨D,rfl⟩:∃ D',D=D'+1:=⟨D-1,by simp [Ty.dep] at hD;omega⟩;obtain ⟨fs,hu,hp,hfs⟩:=hi;simp only [C_,Ty.agg] at hva hvb;subst hva hvb;have hf:P.fieldsOf i=fs:=by simp [Program.fieldsOf,hu]
   rw [run_equalIn_struct w D i _ _ (by rw [hf];exact hu) hp,hf,hfs];rfl
  ·rintro D fs off x y ca cb pa pb hD hfs ha hb hx hy ra rb;have:fs=[]:=hfs;subst this;rfl
 |pair a b iha ihb=>
  intro hf;simp only [Ty.flat,Ajb] at hf
  have key:∀ (D:Nat) (fs:List Field) (off:Nat) (x y:(Ty.pair a b).den) (ca cb pa pb:List Value),(Ty.pair a b).dep<=D+1->(Bw P (.pair a b)).2 fs off->pa.length=off->pb.length=off->
    Rep w O (.pair a b) .z x ca Ab.none->Rep w O (.pair a b) .z y cb Ab.none->∀ ra rb,(Op.eqFields D (pa++ca++ra).toArray (pb++cb++rb).toArray fs).run P w = .ok ((Ty.pair a b).eqv x y) w:=by
   rintro D fs off x y ca cb pa pb hD ⟨f,r,rfl,hoff,hname,hty,⟨inf,hinf,hisz⟩,hrest⟩ ha hb hx hy ra rb;obtain ⟨c₁,c₂,F₁,F₂,hc,hx1,hx2,hU,hd⟩:=hx;obtain ⟨d₁,d₂,G₁,G₂,hcd,hy1,hy2,hV,hg⟩:=hy;have hx1':Rep w O a .z x.1 c₁ Ab.none:=hx1.flat hf.1;have hy1':Rep w O a .z y.1 d₁ Ab.none:=hy1.flat hf.1;have hx2':Rep w O b .z x.2 c₂ Ab.none:=hx2.flat hf.2;have hy2':Rep w O b .z y.2 d₂ Ab.none:=hy2.flat hf.2
   have part_of:∀ (pre c₁ c₂ post:List Value) (x:a.den),pre.length=off->Rep w O a .z x c₁ Ab.none->∃ v,(part f.type (pre++(c₁++c₂)++post).toArray f.offset).run P w = .ok v w/\C_ a v c₁:=by
    intro pre c₁ c₂ post x hpre hr;have hl:=hr.len;unfold part;simp only [Sem.run_bind,NS hty w,Result.andThen_ok];cases hagg:a.agg with
    |true=>
     refine ⟨.agg c₁.toArray,?_,by simp [C_,hagg]⟩;simp only [if_true,Sem.run_bind,Dh hinf,Result.andThen_ok,hoff,hisz,Sem.run_pure];congr 2;apply Array.ext';simp only [List.extract_toArray,List.extract_eq_take_drop];rw [List.append_assoc,List.drop_append_of_le_length (by omega),List.drop_of_length_le (by omega),List.nil_append,List.append_assoc,List.take_append_of_le_length (by omega),List.take_of_length_le (by omega)]
    |false=>
     have h1:a.size=1:=by cases a<;>simp_all [Ty.agg,Ty.size]
     obtain ⟨v,rfl⟩:∃ v,c₁=[v]:=by
      match c₁,hl with
      |[],hl=>simp [h1] at hl
      |[v],_=>exact ⟨v,rfl⟩
      |_::_::_,hl=>simp [h1] at hl
     refine ⟨v,?_,by simp [C_,hagg]⟩;simp only [Bool.false_eq_true,if_false,hoff]
     rw [show ((pre++([v]++c₂)++post).toArray)[off]? = some v by
      simp [<-hpre]]
     rfl
   obtain ⟨v1,hv1,hval1⟩:=part_of pa c₁ c₂ ra x.1 ha hx1';obtain ⟨v2,hv2,hval2⟩:=part_of pb d₁ d₂ rb y.1 hb hy1';subst hc hcd;simp only [Op.eqFields,hname,ne_eq,not_false_eq_true,if_true,Sem.run_bind,hv1,hv2,Result.andThen_ok];rw [(iha hf.1).1 D f.type x.1 y.1 v1 v2 c₁ d₁ (by simp [Ty.dep] at hD;omega) hty hval1 hval2 hx1' hy1'];simp only [Result.andThen_ok,Ty.eqv];cases a.eqv x.1 y.1 with
   |false=>rfl
   |true=>
    simp only [Bool.not_true,Bool.false_eq_true,if_false,Bool.true_and];have:=(ihb hf.2).2 D r (off+a.size) x.2 y.2 c₂ d₂ (pa++c₁) (pb++d₁) (by simp [Ty.dep] at hD;omega) hrest (by simp [ha,hx1'.len]) (by simp [hb,hy1'.len]) hx2' hy2' ra rb;simpa [List.append_assoc] using this
  refine ⟨?_,key⟩;intro D i x y va vb ca cb hD hi hva hvb hx hy;obtain ⟨D,rfl⟩:∃ D',D=D'+1:=⟨D-1,by simp [Ty.dep] at hD;omega⟩;obtain ⟨fs,hu,hp,hq⟩:=hi;simp only [C_,Ty.agg] at hva hvb;subst hva hvb;have hfo:P.fieldsOf i=fs:=by simp [Program.fieldsOf,hu]
  rw [run_equalIn_struct w D i _ _ (by rw [hfo];exact hu) hp,hfo];have:=key D fs.toList 0 x y ca cb [] [] hD hq rfl rfl hx hy [] [];simpa using this
theorem Pu (op:BinOp) (t:TypeId) (xo yo:Operand) (k k':IntKind) (x y:Int):(eqGuard op t xo yo (.int k x) (.int k' y)).run P w = .ok () w:=by
 unfold eqGuard;cases op<;>rfl
theorem Pv (op:BinOp) (t:TypeId) (xo yo:Operand) (x y:ByteArray):(eqGuard op t xo yo (.string x) (.string y)).run P w = .ok () w:=by
 unfold eqGuard;cases op<;>rfl
theorem NV (op:BinOp) (t:TypeId) (xo yo:Operand) (x y:Bool):(eqGuard op t xo yo (.bool x) (.bool y)).run P w = .ok () w:=by
 unfold eqGuard;cases op<;>rfl
theorem HH.guarded {m:Sem Unit} {n:Sem Value} {k:Slot->Option α} {r:α} (hm:m.run P w = .ok () w) (h:HH P w O σ γ n k r):HH P w O σ γ (do m;n) k r:=by
 obtain ⟨s,v,h1,h2,h3⟩:=h;exact ⟨s,v,by simp [hm,h1],h2,h3⟩
theorem C_.one {t:Ty} {v:Value} {cs:List Value} (h:C_ t v cs) (ha:t.agg=false):cs=[v]:=by simpa [C_,ha] using h
theorem C_.many {t:Ty} {v:Value} {cs:List Value} (h:C_ t v cs) (ha:t.agg=true):v = .agg cs.toArray:=by simpa [C_,ha] using h
theorem QC {t:Ty} {i:TypeId} (hf:t.flat=true) (h:TyOk P i t) {x y:t.den} {va vb:Value} {ca cb:List Value} (hva:C_ t va ca) (hvb:C_ t vb cb)
  (hx:Rep w O t .z x ca Ab.none) (hy:Rep w O t .z y cb Ab.none):(Op.equal i va vb).run P w = .ok (t.eqv x y) w:=
 (NU w t hf).1 10000 i x y va vb ca cb h.2.2.1 h.1 hva hvb hx hy
theorem Pw {t:TypeId} {va vb:Value} {neg:Bool} (ha:∀ k n,va≠.int k n) (hs:∀ s,va≠.string s) (hv:(∃ b,va = .bool b)\/∃ cs,va = .agg cs) (hw:(∃ b,vb = .bool b)\/∃ cs,vb = .agg cs) :
  (binOp (if neg then .neq else .eql) t va vb)=(do pure (.bool ((<-Op.equal t va vb) != neg)):Sem Value):=by
 rcases hv with ⟨b,rfl⟩ | ⟨cs,rfl⟩<;>rcases hw with ⟨b',rfl⟩ | ⟨cs',rfl⟩<;>cases neg<;>simp [binOp]
theorem QD {t:Ty} {v:Value} {cs:List Value} {x:t.den} (hf:t.flat=true) (h1:∀ k,t≠.int k) (h2:t≠.str) (hv:C_ t v cs) (h:Rep w O t .z x cs Ab.none) :
  (∃ b,v = .bool b)\/∃ cs,v = .agg cs:=by
 cases t with
 |int k=>exact (h1 k rfl).elim
 |str=>exact (h2 rfl).elim
 |slice e=>simp [Ty.flat] at hf
 |bool=>have e:=h.1;rw [hv.one rfl] at e;injection e with e;exact .inl ⟨_,e⟩
 |unit=>exact .inr ⟨_,hv.many rfl⟩
 |pair a b=>exact .inr ⟨_,hv.many rfl⟩
theorem NW {op:BinOp} {t:TypeId} {xo yo:Operand} {va vb:Value} (hg:P.eqGuardType P.depth t=false) (hv:(∃ b,va = .bool b)\/∃ cs,va = .agg cs) (hw:(∃ b,vb = .bool b)\/∃ cs,vb = .agg cs) :
  (eqGuard op t xo yo va vb).run P w = .ok () w:=by
 rcases hv with ⟨b,rfl⟩ | ⟨cs,rfl⟩<;>rcases hw with ⟨b',rfl⟩ | ⟨cs',rfl⟩
 ·exact NV ..
 ·unfold eqGuard;cases op<;>rfl
 ·unfold eqGuard;cases op<;>rfl
 ·exact run_eqGuard_agg w op t xo yo _ _ hg
theorem jk (hty:env.TyOk P) {op:BinOp} {t:TypeId} {x y:Slot} {vx vy:Value} (hx:Ak P w O σ γ x vx) (hy:Ak P w O σ γ y vy) {xo yo:Operand}
  {k:Slot->Option α} {r:α} (h:cH env op t x y k=some r) :
  HH P w O σ γ (do eqGuard op t xo yo vx vy;binOp op t vx vy) k r:=by
 unfold cH at h;split at h
 ·rename_i kk p kk' q;rw [Db hx,Db hy];refine HH.guarded (Pu ..) ?_;split at h
  ·exact Tf t (.inl rfl) h
  ·exact Tf t (.inr rfl) h
  ·rename_i h1 h2;split at h
   ·rename_i e;subst e;exact ji ⟨h1,h2⟩ t h
   ·cases h
 ·rw [DB hx,DB hy];exact HH.guarded (Pv ..) (jj t h)
 ·rename_i d d' h1 h2;split at h
  case h_2=>cases h
  case h_1 hc=>
   rw [Ajb,Ajg] at hc;obtain ⟨hflat,hty'⟩:=hc;have hT:=hty.1 _ _ hty'
   have main:∀ neg:Bool,op=(if neg then .neq else .eql)->AI (t' :=d.t) d'.x (fun y=>k (Cw (d.t.eqv d.x y != neg)))=some r->
     HH P w O σ γ (do eqGuard op t xo yo vx vy;binOp op t vx vy) k r:=by
    intro neg hop hk;obtain ⟨e,hk⟩:=As hk;obtain ⟨dt,dx⟩:=d;obtain ⟨dt',dx'⟩:=d';dsimp only at e;subst e;dsimp only at *;cases hx with
    |pv _ _ ca hva hxr=>cases hy with
     |pv _ _ cb hvb hyr=>
      have heq:=QC hflat hT hva hvb hxr hyr;have hv:=QD hflat (fun kk e=>by subst e;exact h1 kk dx kk dx' rfl rfl) (fun e=>by subst e;exact h2 dx dx' rfl rfl) hva hxr;have hw:=QD hflat (fun kk e=>by subst e;exact h1 kk dx kk dx' rfl rfl) (fun e=>by subst e;exact h2 dx dx' rfl rfl) hvb hyr;refine HH.guarded (NW (hT.2.1 hflat) hv hw) ⟨_,_,?_,Dm _,hk⟩;rw [hop,Pw (by rcases hv with ⟨b,rfl⟩ | ⟨cs,rfl⟩<;>intro k n h<;>cases h) (by rcases hv with ⟨b,rfl⟩ | ⟨cs,rfl⟩<;>intro s h<;>cases h) hv hw]
      simp only [Sem.run_bind,heq,Result.andThen_ok,Sem.run_pure]
   split at h
   ·exact main false rfl (by simpa using h)
   ·exact main true rfl (by simpa using h)
   ·cases h
 ·cases h
theorem aH (S:Sim P env w₀ O₀ W σ γ φ O a w) (hty:env.TyOk P) {t:TypeId} {x:Operand} {k:Slot->Option α} {r:α} (h:AA env σ (.load t x) k=some r) :
  HH P w O σ γ (Instr.loadAt t (a.eval x)) k r:=by
 have hv:=S.val x;generalize a.eval x=vx at hv ⊢;unfold AA at h;dsimp only at h;split at h
 ·rename_i t' ht;have hT:=hty.1 _ _ ht;obtain ⟨f,hf,hfs,hfb,_⟩:=hT.2.2.2;split at h
  ·rename_i p hp;rw [hp] at hv;split at h
   ·rename_i b d sh hr;split at h
    ·rename_i hok;obtain ⟨d',hget,hk⟩:=Ed h;obtain ⟨F,⟨src,cs,F',hg,hcs,hrep,_⟩,_⟩:=S.zip hr hok hget;have hL:Da σ p:=⟨b,d,sh,d',hr,hok,hget⟩;have hPA:Bz w σ γ p d'.t src:=⟨b,d,sh,hr,Hi _ hget,fun _=>hg⟩;cases hv with
     |ptrH n s bb off h1 h2=>rw [h1] at hr;cases hr
     |ptr _ t₂ bb off hPA' =>
      obtain ⟨b',d₂,sh',hr',_,hg'⟩:=hPA';rw [hr] at hr';injection hr' with hr'
      injection hr' with e1 e2 e3
      subst e2;have:=hg' hL;rw [hg] at this;injection this with this
      injection this with e1 e2
      subst e1 e2;split at hk
      ·rename_i hd;have hd':d'.t=t' :=by simpa using hd
       subst hd';have hl:=hrep.len;obtain ⟨v,hv,hval⟩:=Mm hT.1 hf hfs (w:=w) (b:=bb) (off:=off) hl (JD hcs)
       have hrun:(Instr.loadAt t (.pointer (some ⟨bb,off,none⟩))).run P w = .ok v w:=by
        simp only [Instr.loadAt,Instr.sureAddr,pure_bind];exact hv
       split at hk
       ·rename_i hz;rw [hz] at hrep;exact ⟨_,v,hrun,.pv _ _ cs hval (hrep.foot fun b=>⟨fun h=>h.elim,fun h=>(hrep.free b h).elim⟩),hk⟩
       ·exact ⟨_,v,hrun,.ref _ _ _ _ hPA (fun _=>⟨cs,hcs,hval⟩),hk⟩
      ·cases hk
    ·cases h
   ·cases h
  ·rename_i d hp;rw [hp] at hv;split at h
   ·rename_i hd;have hd':d.t=t' :=by simpa using hd
    subst hd';cases hv with
    |fptr _ bb off cs h1 h2 h3 h4=>
     obtain ⟨v,hv,hval⟩:=Mm hT.1 hf hfs (w:=w) (b:=bb) (off:=off) h3.len h4;exact ⟨_,v,by simp only [Instr.loadAt,Instr.sureAddr,pure_bind];exact hv,.pv _ _ cs hval h3,h⟩
   ·cases h
  ·cases h
 ·split at h
  ·rename_i hone;obtain ⟨hagg,f,hf,hfs,_⟩:=hty.2 _ hone;split at h
   ·rename_i n hp;rw [hp] at hv;split at h
    ·rename_i s hr;cases hv with
     |ptr _ t₂ bb off hPA=>obtain ⟨b,d,sh,h1,_⟩:=hPA;rw [h1] at hr;cases hr
     |ptrH _ s' bb off h1 h2=>
      obtain ⟨b',off',C,tid,fr,v,hsrc,hb,hfr,hC,hs,_⟩:=S.roots _ _ hr;rw [h2] at hsrc;injection hsrc with e1 e2
      subst e1 e2;refine ⟨_,v,?_,hs,h⟩;simp only [Instr.loadAt,Instr.sureAddr,pure_bind,loadVar,Sem.run_bind,hagg,Result.andThen_ok,Bool.false_eq_true,if_false,run_load];simp [World.cell?,hb,hC]
    ·cases h
   ·cases h
  ·cases h
end Go.V
namespace Go.V
variable {α:Type}
variable {P:Program} {env:Bf} {w₀ w:World} {O₀ W O:Ab} {σ:St} {γ:Name->Src} {φ:Name->Ab} {a:Act}
theorem Gx {w:World}:∀ (p q:Bi) {t t':Ty} {s s':Src},goto w p t s=some (t',s')->goto w (p++q) t s=goto w q t' s'
 |[],q,t,t',s,s',h=>by simp only [goto] at h;injection h with h;injection h with e1 e2;subst e1 e2;rfl
 |.l::p,q,t,t',s,s',h=>by
  cases t<;>simp only [goto,List.cons_append] at h ⊢ <;> first | exact Gx p q h | cases h
 |.r::p,q,t,t',s,s',h=>by
  cases t<;>simp only [goto,List.cons_append] at h ⊢ <;> first | exact Gx p q h | cases h
 |.at n::p,q,t,t',s,s',h=>by
  cases t<;>simp only [goto,List.cons_append] at h ⊢ <;> try (cases h;done)
  split at h
  ·exact Gx p q h
  ·cases h
theorem Hj:∀ (p q:Bi) {t t':Ty},Gu p t=some t' ->Gu (p++q) t=Gu q t'
 |[],q,t,t',h=>by simp only [Gu] at h;injection h with h;subst h;rfl
 |.l::p,q,t,t',h=>by
  cases t<;>simp only [Gu,List.cons_append] at h ⊢ <;> first | exact Hj p q h | cases h
 |.r::p,q,t,t',h=>by
  cases t<;>simp only [Gu,List.cons_append] at h ⊢ <;> first | exact Hj p q h | cases h
 |.at n::p,q,t,t',h=>by
  cases t<;>simp only [Gu,List.cons_append] at h ⊢ <;> first | exact Hj p q h | cases h
theorem IZ:∀ (p q:Bi) {sh:Sh},Be (p++q) sh=true->Be p sh=true
 |[],_,_,_=>rfl
 |.l::p,q,sh,h=>by simp only [List.cons_append,Be] at h ⊢;exact IZ p q h
 |.r::p,q,sh,h=>by simp only [List.cons_append,Be] at h ⊢;exact IZ p q h
 |.at n::p,q,sh,h=>by
  cases sh<;>simp only [List.cons_append,Be] at h ⊢ <;> first | exact IZ p q h | cases h
theorem I':∀ (p q:Bi) {t:Ty} {x:t.den} {d:Hd},AB (p++q) t x some=some d->∃ d',AB p t x some=some d'
 |[],_,t,x,_,_=>⟨⟨t,x⟩,rfl⟩
 |.l::p,q,t,x,d,h=>by
  cases t<;>simp only [AB,List.cons_append] at h ⊢ <;> first | exact I' p q h | cases h
 |.r::p,q,t,x,d,h=>by
  cases t<;>simp only [AB,List.cons_append] at h ⊢ <;> first | exact I' p q h | cases h
 |.at n::p,q,t,x,d,h=>by
  cases t<;>simp only [AB,List.cons_append] at h ⊢ <;> try (cases h;done)
  split at h
  ·exact I' p q h
  ·cases h
theorem Da.front {n:Name} {p q:Bi} (h:Da σ ⟨n,p++q⟩):Da σ ⟨n,p⟩:=by
 obtain ⟨b,d,sh,d',hr,hok,hget⟩:=h;obtain ⟨d₂,h2⟩:=I' p q hget;exact ⟨b,d,sh,d₂,hr,IZ p q hok,h2⟩
theorem I_ {w:World} {b:Nat}:∀ (n:Nat) (t tf:Ty) (fs:List Field) (base off:Nat),(Bw P t).2 fs base->Gu (Ao n) t=some tf->
  ∃ f,fs[n]? = some f/\base<=f.offset/\(Bw P tf).1 f.type/\(∃ i,P.info? f.type=some i/\i.size=tf.size)/\f.offset+tf.size<=base+t.size/\
   goto w (Ao n) t (.mem b off)=some (tf,.mem b (off+(f.offset-base)))
 |0,t,tf,fs,base,off,h,ht=>by
  cases t<;>simp only [Ao,Gu] at ht<;>try (cases ht;done)
  injection ht with ht
  subst ht;obtain ⟨f,r,rfl,hoff,hname,hty,hinf,hrest⟩:=h;refine ⟨f,rfl,by omega,hty,hinf,by simp only [Ty.size];omega,?_⟩;simp only [Ao,goto,Src.left,hoff,Nat.sub_self,Nat.add_zero]
 |n+1,t,tf,fs,base,off,h,ht=>by
  cases t<;>simp only [Ao,Gu] at ht<;>try (cases ht;done)
  rename_i u v;obtain ⟨f,r,rfl,hoff,hname,hty,hinf,hrest⟩:=h;obtain ⟨f',h1,h2,h3,h4,h5,h6⟩:=I_ n v tf r (base+u.size) (off+u.size) hrest ht;refine ⟨f',by simpa using h1,by omega,h3,h4,by simp only [Ty.size];omega,?_⟩;simp only [Ao,goto,Src.right];rw [h6];congr 3;omega
theorem Bw.struct {t tf:Ty} {i:TypeId} {n:Nat} (h:(Bw P t).1 i) (ht:Gu (Ao n) t=some tf):∃ fs,P.underlying i=some (.struct fs)/\(Bw P t).2 fs.toList 0:=by
 cases t with
 |pair a b=>obtain ⟨fs,hu,_,hq⟩:=h;exact ⟨fs,hu,hq⟩
 |int k=>cases n<;>simp [Ao,Gu] at ht
 |bool=>cases n<;>simp [Ao,Gu] at ht
 |str=>cases n<;>simp [Ao,Gu] at ht
 |unit=>cases n<;>simp [Ao,Gu] at ht
 |slice e=>cases n<;>simp [Ao,Gu] at ht
theorem OI {t tf:Ty} {i:TypeId} {n:Nat} (h:(Bw P t).1 i) (ht:Gu (Ao n) t=some tf) (hsz:tf.size≠0) (w:World) (b off:Nat) :
  ∃ o,(Instr.fieldAt i (.pointer (some ⟨b,off,none⟩)) n).run P w = .ok (.pointer (some ⟨b,off+o,none⟩)) w/\o+tf.size<=t.size/\
   ∀ w':World,goto w' (Ao n) t (.mem b off)=some (tf,.mem b (off+o)):=by
 obtain ⟨fs,hu,hq⟩:=Bw.struct h ht;obtain ⟨f,h1,h2,h3,⟨inf,h4,h4'⟩,h5,_⟩:=I_ (w:=w) (b:=b) n t tf fs.toList 0 off hq ht;refine ⟨f.offset,?_,by omega,fun w' =>?_⟩
 ·have h1':fs[n]? = some f:=by rw [<-Array.getElem?_toList];exact h1
  unfold Instr.fieldAt;simp only [Sem.run_bind,run_underlying hu,Result.andThen_ok,h1'];simp only [Instr.sureAddr,Sem.run_bind,Sem.run_pure,Result.andThen_ok,fieldPlace,Dh h4,h4',if_neg hsz,DU]
 ·obtain ⟨f',g1,_,_,_,_,g6⟩:=I_ (w:=w') (b:=b) n t tf fs.toList 0 off hq ht;rw [h1] at g1;injection g1 with g1
  subst g1;simpa using g6
theorem Ux (S:Sim P env w₀ O₀ W σ γ φ O a w) (hty:env.TyOk P) {t:TypeId} {x:Operand} {n:Nat} {k:Slot->Option α} {r:α} (h:AA env σ (.fieldAddr t x n) k=some r) :
  HH P w O σ γ (Instr.fieldAt t (a.eval x) n) k r:=by
 have hv:=S.val x;generalize a.eval x=vx at hv ⊢;unfold AA at h;dsimp only at h;split at h
 ·rename_i ts ht;have hT:=(hty.1 _ _ ht).1;split at h
  ·rename_i tf htf;split at h
   ·cases h
   ·rename_i hz;have hsz:tf.size≠0:=by intro e;rw [e] at hz;simp at hz
    split at h
    ·rename_i p hp;rw [hp] at hv;split at h
     ·rename_i b d sh hr;split at h
      ·rename_i hd;have hd':Gu p.path d.t=some ts:=by simpa using hd
       cases hv with
       |ptrH n s bb off h1 h2=>rw [h1] at hr;cases hr
       |ptr _ t₂ bb off hPA=>
        obtain ⟨b',d',sh',hr',htp,hg⟩:=hPA;rw [hr] at hr';injection hr' with hr'
        injection hr' with e1 e2 e3
        subst e2;rw [hd'] at htp;injection htp with this
        subst this;obtain ⟨o,hrun,_,hgo⟩:=OI hT htf hsz w bb off;exact ⟨_,_,hrun,Ak.ptr ⟨p.name,p.path++Ao n⟩ tf bb (off+o) ⟨b,d,sh,hr,by rw [Hj _ _ hd'];exact htf,fun hL=>by rw [Gx _ _ (hg (Da.front hL))];exact hgo w⟩,h⟩
      ·cases h
     ·cases h
    ·rename_i d hp;rw [hp] at hv;split at h
     ·rename_i hd;have hd':d.t=ts:=by simpa using hd
      subst hd';obtain ⟨y,hget,hk⟩:=Ed h;cases hv with
      |fptr _ bb off cs h1 h2 h3 h4=>
       obtain ⟨o,hrun,hle,hgo⟩:=OI hT htf hsz w bb off
       have hyt:y.t=tf:=by
        have:=Hi _ hget;rw [htf] at this;injection this with this
        exact this.symm
       have key:∀ (n:Nat) (t:Ty) (x:t.den) (cs:List Value) (off o:Nat) (y:Hd),AB (Ao n) t x some=some y->Rep w O t .z x cs Ab.none->goto w (Ao n) t (.mem bb off)=some (y.t,.mem bb (off+o))->
         Rep w O y.t .z y.x ((cs.drop o).take y.t.size) Ab.none:=by
        intro n;induction n with
        |zero=>
         intro t x cs off o y hget hrep hg;cases t<;>simp only [Ao,AB] at hget<;>try (cases hget;done)
         injection hget with hget
         subst hget;obtain ⟨c₁,c₂,F₁,F₂,hc,r1,r2,_,_⟩:=hrep;simp only [Ao,goto,Src.left] at hg;injection hg with hg
         injection hg with _ hg
         injection hg with _ hg
         have:o=0:=by omega
         subst this;rw [hc,List.drop_zero,List.take_append_of_le_length (by rw [r1.len];exact Nat.le_refl _),List.take_of_length_le (by rw [r1.len];exact Nat.le_refl _)];exact r1.foot fun b=>⟨fun h=>h.elim,fun h=>(r1.free b h).elim⟩
        |succ n ih=>
         intro t x cs off o y hget hrep hg;cases t<;>simp only [Ao,AB] at hget<;>try (cases hget;done)
         rename_i u v;obtain ⟨c₁,c₂,F₁,F₂,hc,r1,r2,_,_⟩:=hrep;simp only [Ao,goto,Src.right] at hg
         have hle:∃ o',o=u.size+o' :=by
          have:∀ (n:Nat) (t:Ty) (off:Nat) (q:Ty) (o₂:Nat),goto w (Ao n) t (.mem bb off)=some (q,.mem bb o₂)->off<=o₂:=by
           intro n;induction n with
           |zero=>
            intro t off q o₂ h;cases t<;>simp only [Ao,goto,Src.left] at h<;>try (cases h;done)
            injection h with h;injection h with _ h;injection h with _ h;omega
           |succ n ih=>
            intro t off q o₂ h;cases t<;>simp only [Ao,goto,Src.right] at h<;>try (cases h;done)
            have:=ih _ _ _ _ h;omega
          have:=this _ _ _ _ _ hg;exact ⟨o-u.size,by omega⟩
         obtain ⟨o',rfl⟩:=hle;have:=ih v x.2 c₂ (off+u.size) o' y hget (r2.foot fun b=>⟨fun h=>h.elim,fun h=>(r2.free b h).elim⟩) (by rw [Nat.add_assoc];exact hg);have e₁:(c₁++c₂).drop u.size=c₂:=by rw [<-r1.len];simp
         rw [hc,<-List.drop_drop,e₁];exact this
       refine ⟨_,_,hrun,.fptr y bb (off+o) _ h1 h2 (key n _ _ cs off o y hget h3 (by rw [hyt];exact hgo w)) ?_,hk⟩;intro i hi;have hi':i<y.t.size:=by simp at hi;omega
       have hcl:=h3.len;rw [List.getElem?_take_of_lt hi',List.getElem?_drop,<-h4 (o+i) (by rw [hyt] at hi';omega),Nat.add_assoc]
     ·cases h
    ·cases h
  ·cases h
 ·cases h
end Go.V
namespace Go.V
variable {α:Type}
variable {P:Program} {env:Bf} {w₀ w:World} {O₀ W O:Ab} {σ:St} {γ:Name->Src} {φ:Name->Ab} {a:Act}
theorem Rep.head {e:Ty} {sh:Sh} {xs:List e.den} {cs:List Value} {F:Ab} (h:Rep w O (.slice e) sh xs cs F) (hw:sh.whole=true) (hx:xs≠[]) :
  ∃ b off cap,cs=[.slice (some ⟨b,off,none⟩) xs.length cap]:=by
 have fr:((∀ b,¬F b)/\∃ a cap,cs=[.slice a xs.length cap]/\xs.length<=cap/\(a=none->cap=0)/\(∀ a',a=some a' ->a'=a')/\
   (xs=[]\/∃ b off cl,a=some ⟨b,off,none⟩/\b<w.heap.size/\¬O b/\Els (Rep w O e .z) xs cl Ab.none/\∀ i,i<cl.length->w.cell? ⟨b,off+i,none⟩=cl[i]?))->
   ∃ b off cap,cs=[.slice (some ⟨b,off,none⟩) xs.length cap]:=by
  rintro ⟨_,a,cap,hc,_,_,_,h | ⟨b,off,cl,hab,_⟩⟩
  ·exact (hx h).elim
  ·exact ⟨b,off,cap,by rw [hc,hab]⟩
 cases sh with
 |own s=>
  rcases h with ⟨_,h,_⟩ | ⟨b,off,cap,C,tid,fr,F',hc,_⟩
  ·exact (hx h).elim
  ·exact ⟨b,off,cap,hc⟩
 |gone=>simp [Sh.whole] at hw
 |z=>exact fr h
 |pr a b=>exact fr h
theorem Rep.headLen {e:Ty} {sh:Sh} {xs:List e.den} {cs:List Value} {F:Ab} (h:Rep w O (.slice e) sh xs cs F) (hw:sh.whole=true) :
  ∃ a cap,cs=[.slice a xs.length cap]/\xs.length<=cap:=by
 cases sh with
 |own s=>
  rcases h with ⟨h1,h,_⟩ | ⟨b,off,cap,C,tid,fr,F',hc,hl,_⟩
  ·subst h;exact ⟨none,0,h1,Nat.le_refl _⟩
  ·exact ⟨_,cap,hc,hl⟩
 |gone=>simp [Sh.whole] at hw
 |z=>obtain ⟨_,a,cap,hc,hl,_⟩:=h;exact ⟨a,cap,hc,hl⟩
 |pr a b=>obtain ⟨_,a,cap,hc,hl,_⟩:=h;exact ⟨a,cap,hc,hl⟩
theorem Mn {t:TypeId} {e:Ty} (h:(Bw P (.slice e)).1 t) {b off n c:Nat} {k:IntKind} {i:Int} (h0:0<=i) (h1:i<n) (w:World) :
  (Instr.indexAt t (.slice (some ⟨b,off,none⟩) n c) (.int k i)).run P w = .ok (.pointer (some ⟨b,off+i.toNat*e.size,none⟩)) w:=by
 obtain ⟨j,hu,_,⟨f,hf,hfs,_⟩⟩:=h;unfold Instr.indexAt;simp only [asIntOf,Sem.run_bind,run_underlying hu,Result.andThen_ok,Sem.run_pure];simp only [h0,h1,and_self,if_true,Sem.run_bind,Dh hf,Result.andThen_ok,hfs,DU,Sem.run_pure]
theorem Uy (S:Sim P env w₀ O₀ W σ γ φ O a w) (hty:env.TyOk P) {t:TypeId} {x ix:Operand} {k:Slot->Option α} {r:α} (h:AA env σ (.indexAddr t x ix) k=some r) :
  HH P w O σ γ (Instr.indexAt t (a.eval x) (a.eval ix)) k r:=by
 have hv:=S.val x;have hi:=S.val ix;generalize a.eval x=vx at hv ⊢;generalize a.eval ix=vi at hi ⊢;unfold AA at h;dsimp only at h;split at h
 ·rename_i kk i hsi;rw [hsi] at hi;rw [Db hi];split at h
  ·rename_i e l hsx;rw [hsx] at hv;split at h
   case h_2=>cases h
   case h_1 ht=>
    have hT:=(hty.1 _ _ (by simpa using ht)).1;split at h
    case h_2=>cases h
    case h_1 h0=>
     have h0':0<=(Hc i):=by simpa using h0
     split at h
     case h_2=>cases h
     case h_1 y hy=>
      have hlt:=(List.getElem?_eq_some_iff.1 hy).1;cases hv with
      |pv d v cs hval hrep=>
       have e1:=hval.one rfl;subst e1;obtain ⟨hF,an,cap,hc,hl,ha,hs,hx⟩:=hrep;rcases hx with hx | ⟨b,off,cl,hab,hb,hOb,hel,hcell⟩
       ·rw [show Bu l=[] from hx] at hlt;simp at hlt
       ·injection hc with hc
        subst hc;subst hab;obtain ⟨hlc,G,hy',_,_⟩:=Els.pick (sz:=e.size) (fun _ _ _ h=>h.len) hel hy;have hlt':Hc i<(Bu l).length:=by omega
        refine ⟨_,_,Mn hT h0' hlt' w,.fptr ⟨e,y⟩ b (off+(Hc i).toNat*e.size) _ hb hOb (hy'.foot fun b=>⟨fun h=>h.elim,fun h=>(hy'.free b h).elim⟩) ?_,h⟩
        have hmul:(Hc i).toNat*e.size+e.size<=(Bu l).length*e.size:=by
         have:=Nat.mul_le_mul_right e.size (show (Hc i).toNat+1<=(Bu l).length from hlt);rw [Nat.succ_mul] at this;exact this
        intro q hq;have hq':q<e.size:=by simp at hq;omega
        have hlc':cl.length=(Bu l).length*e.size:=hlc;rw [List.getElem?_take_of_lt hq',List.getElem?_drop,<-hcell ((Hc i).toNat*e.size+q) (by omega),Nat.add_assoc]
  ·rename_i e p hsx;rw [hsx] at hv;split at h
   case h_2=>cases h
   case h_1 ht=>
    have hT:=(hty.1 _ _ (by simpa using ht)).1;obtain ⟨d',hk,hL,src',cs',sh,F,hp',hcs',hrep,hw,_⟩:=S.place h;obtain ⟨ee,hk⟩:=As hk;obtain ⟨dt,dx⟩:=d';dsimp only at ee;subst ee;dsimp only at *;split at hk
    case h_2=>cases hk
    case h_1 h0=>
     have h0':0<=(Hc i):=by simpa using h0
     split at hk
     case h_2=>cases hk
     case h_1 h1=>
      have h1':(Hc i)<(Bu dx).length:=by simpa using h1
      cases hv with
      |ref _ _ v src hp hlv=>
       obtain ⟨cs,hcs,hval⟩:=hlv hL;obtain ⟨_,e2⟩:=hp' _ _ hp;subst e2;rw [hcs] at hcs';injection hcs' with hcs'
       subst hcs';have e1:=hval.one rfl;subst e1;obtain ⟨b,off,cap,hc⟩:=hrep.head hw (by intro e;rw [show Bu dx=[] from e] at h1';simp at h1';omega);injection hc with hc
       subst hc;refine ⟨_,_,Mn hT h0' h1' w,?_,hk⟩;obtain ⟨bb,d,sh',hr,htp,hg⟩:=hp;refine Ak.ptr ⟨p.name,p.path++[.at (Hc i).toNat]⟩ e b (off+(Hc i).toNat*e.size) ⟨bb,d,sh',hr,by rw [Hj _ _ htp];rfl,fun _=>?_⟩;rw [Gx _ _ (hg hL)];simp only [goto];rw [show Al w 1 src=_ from hcs]
  ·cases h
 ·cases h
theorem eS (S:Sim P env w₀ O₀ W σ γ φ O a w) (hty:env.TyOk P) {t:TypeId} {x ix:Operand} {k:Slot->Option α} {r:α} (h:AA env σ (.index t x ix) k=some r) :
  HH P w O σ γ (Instr.index t (a.eval x) (a.eval ix)) k r:=by
 have hv:=S.val x;have hi:=S.val ix;generalize a.eval x=vx at hv ⊢;generalize a.eval ix=vi at hi ⊢;unfold AA at h;dsimp only at h;split at h
 ·rename_i l kk i ht hsx hsi;rw [hsi] at hi;rw [hsx] at hv;rw [Db hi,DB hv];have hT:P.underlying t=some .string:=(hty.1 _ _ ht).1;split at h
  case h_2=>cases h
  case h_1 h0=>
   have h0':0<=(Hc i):=by simpa using h0
   split at h
   case h_2=>cases h
   case h_1 b hb=>
    refine ⟨_,_,?_,EB _ _,h⟩;unfold Instr.index;simp only [asIntOf,Sem.run_bind,run_underlying hT,Result.andThen_ok,Sem.run_pure]
    have:(⟨(Lk l).toArray⟩:ByteArray)[(Hc i).toNat]? = some b:=by
     have hlt:=(List.getElem?_eq_some_iff.1 hb).1;rw [ByteArray.getElem?_lt' _ _ (by simpa [ByteArray.size_mk'] using hlt)];congr 1;have:=(List.getElem?_eq_some_iff.1 hb).2;rw [<-this];rfl
    rw [if_pos h0',this];rfl
 ·cases h
theorem EK {i:Int} {n:Nat} {k:Nat->Option α} {r:α} (h:He i n k=some r):0<=i/\i<=n/\k i.toNat=some r:=by
 unfold He at h;split at h
 ·rename_i h0;split at h
  ·rename_i h1;exact ⟨by simpa using h0,by simpa using h1,h⟩
  ·cases h
 ·cases h
theorem Gg (S:Sim P env w₀ O₀ W σ γ φ O a w) {o:Option Operand} {d:Int} {k:Int->Option α} {r:α} (h:bound σ o d k=some r) :
  ∃ i,k i=some r/\((o=none/\i=d)\/∃ x kk,o=some x/\a.eval x = .int kk i):=by
 unfold bound at h;split at h
 ·exact ⟨d,h,.inl ⟨rfl,rfl⟩⟩
 ·rename_i x;split at h
  ·rename_i kk i hx;have:=S.val x;rw [hx] at this;exact ⟨i,h,.inr ⟨x,kk,rfl,Db this⟩⟩
  ·cases h
theorem EU {v:Value} {kk:IntKind} {i:Int} {n:Nat} {code:BoundsCode} (hv:v = .int kk i) (h0:0<=i) (h1:i<=n) (w:World):(Instr.sliceBound v n code).run P w = .ok i.toNat w:=by
 subst hv;simp only [Instr.sliceBound,asIntOf,Sem.run_bind,Sem.run_pure,Result.andThen_ok,h0,h1,and_self,if_true]
theorem LD (isSlice:Bool) {len cap:Nat} {lo hi:Option Operand} {l h:Int} (hcap:len<=cap)
  (hh:(hi=none/\h=len)\/∃ x kk,hi=some x/\a.eval x = .int kk h) (hl:(lo=none/\l=0)\/∃ x kk,lo=some x/\a.eval x = .int kk l)
  (h0:0<=h) (h1:h<=len) (l0:0<=l) (l1:l<=h.toNat) (w:World) :
  (Instr.sliceBounds isSlice len cap (lo.map a.eval) (hi.map a.eval) none).run P w = .ok (l.toNat,h.toNat,cap) w:=by
 unfold Instr.sliceBounds;rcases hh with ⟨rfl,rfl⟩ | ⟨x,kk,rfl,hx⟩<;>rcases hl with ⟨rfl,rfl⟩ | ⟨y,kk',rfl,hy⟩
 ·simp
 ·simp [EU (P:=P) (code:=.sliceB) hy l0 (show l<=(len:Int) by omega)]
 ·simp [EU hx h0 (show h<=cap by omega)]
 ·simp [EU hx h0 (show h<=cap by omega),EU hy l0 l1]
theorem eT (S:Sim P env w₀ O₀ W σ γ φ O a w) (hty:env.TyOk P) {t:TypeId} {x:Operand} {lo hi mx:Option Operand} {k:Slot->Option α} {r:α} (h:AA env σ (.slice t x lo hi mx) k=some r) :
  HH P w O σ γ (Instr.sliceAt t (a.eval x) (lo.map a.eval) (hi.map a.eval) (mx.map a.eval)) k r:=by
 have hv:=S.val x;generalize a.eval x=vx at hv ⊢;cases mx with
 |some m=>simp [AA] at h
 |none=>
 unfold AA at h;dsimp only at h;split at h
 ·rename_i l ht hsx;rw [hsx] at hv;rw [DB hv];have hT:P.underlying t=some .string:=(hty.1 _ _ ht).1;obtain ⟨hh,h,H1⟩:=Gg S h;obtain ⟨ll,h,H2⟩:=Gg S h;obtain ⟨h0,h1,h⟩:=EK h;obtain ⟨l0,l1,h⟩:=EK h;refine ⟨_,_,?_,NT _,h⟩;unfold Instr.sliceAt Instr.slice;have hsz:(⟨(Lk l).toArray⟩:ByteArray).size=(Lk l).length:=by show (Lk l).toArray.size=_;simp
  simp only [Sem.run_bind,run_underlying hT,Result.andThen_ok,Option.map_none,Option.isSome_none,Bool.false_eq_true,if_false];rw [show (⟨List.toArray l⟩:ByteArray).size=(Lk l).length from hsz,LD (P:=P) false (Nat.le_refl _) H1 H2 h0 h1 l0 l1 w];simp only [Result.andThen_ok,Sem.run_pure];exact congrArg (fun s=>Result.ok (Value.string s) w) ((ByteArray.extract_mk (Lk l) _ _).trans (by rw [List.drop_take]))
 ·rename_i e e' l ht hsx;rw [hsx] at hv;obtain ⟨ee,h⟩:=As h;cases ee;have hT:=(hty.1 _ _ ht).1;obtain ⟨j,hu,_,⟨f,hf,hfs,_⟩⟩:=hT;obtain ⟨hh,h,H1⟩:=Gg S h;obtain ⟨ll,h,H2⟩:=Gg S h;obtain ⟨h0,h1,h⟩:=EK h;obtain ⟨l0,l1,h⟩:=EK h;cases hv with
  |pv d v cs hval hrep=>
   have e1:=hval.one rfl;subst e1;obtain ⟨an,cap,hc,hl⟩:=hrep.headLen rfl;injection hc with hc
   subst hc;have h1':hh<=(Bu l).length:=h1;have h1'':hh.toNat<=(Bu l).length:=by omega
   obtain ⟨_,_,hcut⟩:=Rep.cut (lo:=ll.toNat) (hi:=hh.toNat) hrep (by omega) h1'';refine ⟨_,_,?_,.pv ⟨.slice e,((Bu l).take hh.toNat).drop ll.toNat⟩ _ [_] rfl hcut,h⟩;unfold Instr.sliceAt Instr.slice;simp only [Sem.run_bind,run_underlying hu,Result.andThen_ok,Option.map_none];rw [LD (P:=P) true hl H1 H2 h0 h1 l0 l1 w];simp only [Result.andThen_ok,Dh hf,hfs,Sem.run_pure]
 ·rename_i e e' p ht hsx;rw [hsx] at hv;split at h
  case isFalse=>cases h
  case isTrue ee=>
   subst ee;have hT:=(hty.1 _ _ ht).1;obtain ⟨j,hu,_,⟨f,hf,hfs,_⟩⟩:=hT;obtain ⟨d',hk,hL,src',cs',sh,F,hp',hcs',hrep,hw,_⟩:=S.place h;obtain ⟨ee,hk⟩:=As hk;obtain ⟨dt,dx⟩:=d';dsimp only at ee;subst ee;dsimp only at *;obtain ⟨hh,hk,H1⟩:=Gg S hk;obtain ⟨ll,hk,H2⟩:=Gg S hk;obtain ⟨h0,h1,hk⟩:=EK hk;obtain ⟨l0,l1,hk⟩:=EK hk;cases hv with
   |ref _ _ v src hp hlv=>
    obtain ⟨cs,hcs,hval⟩:=hlv hL;obtain ⟨_,e2⟩:=hp' _ _ hp;subst e2;rw [hcs] at hcs';injection hcs' with hcs'
    subst hcs';have e1:=hval.one rfl;subst e1;obtain ⟨an,cap,hc,hl⟩:=hrep.headLen hw;injection hc with hc
    subst hc;refine ⟨_,_,?_,Ak.vw e p ll.toNat hh.toNat src an (Bu dx).length cap hp (fun _=>hcs) (by omega) (by omega),hk⟩;unfold Instr.sliceAt Instr.slice;simp only [Sem.run_bind,run_underlying hu,Result.andThen_ok,Option.map_none];rw [LD (P:=P) true hl H1 H2 h0 h1 l0 l1 w];simp only [Result.andThen_ok,Dh hf,hfs,Sem.run_pure]
 ·cases h
end Go.V
namespace Go.V
variable {α:Type}
variable {P:Program} {env:Bf} {w₀ w:World} {O₀ W O:Ab} {σ:St} {γ:Name->Src} {φ:Name->Ab} {a:Act}
def aI (P:Program) (w:World) (O:Ab) (σ:St) (γ:Name->Src) (m:Sem Next) (k:Slot->Option α) (r:α):Prop:=
 ∃ s v,m.run P w = .ok (.value v) w/\Ak P w O σ γ s v/\k s=some r
theorem HH.next {m:Sem Value} {k:Slot->Option α} {r:α} (h:HH P w O σ γ m k r):aI P w O σ γ (do pure (.value (<-m))) k r:=by
 obtain ⟨s,v,h1,h2,h3⟩:=h;exact ⟨s,v,by simp [h1],h2,h3⟩
theorem eU (S:Sim P env w₀ O₀ W σ γ φ O a w) (hty:env.TyOk P) {t:TypeId} {x:Operand} {n:Nat} {k:Slot->Option α} {r:α} (h:AA env σ (.field t x n) k=some r) :
  HH P w O σ γ (Instr.field t (a.eval x) n) k r:=by
 have hv:=S.val x;generalize a.eval x=vx at hv ⊢;unfold AA at h;dsimp only at h;split at h
 ·rename_i d hsx;rw [hsx] at hv;split at h
  case h_2=>cases h
  case h_1 ht=>
   have hT:=(hty.1 _ _ (by simpa using ht)).1;obtain ⟨y,hget,hk⟩:=Ed h;have htf:=Hi _ hget;obtain ⟨fs,hu,hq⟩:=Bw.struct hT htf;cases hv with
   |pv _ _ cs hval hrep=>
    obtain ⟨f,hf,_,hft,⟨inf,hinf,hisz⟩,hle,_⟩:=I_ (w:=w) (b:=0) n d.t y.t fs.toList 0 0 hq htf
    have hagg:d.t.agg=true:=by
     cases hd:d.t with
     |pair u v=>rfl
     |unit=>rfl
     |int k=>rw [hd] at htf;cases n<;>simp [Ao,Gu] at htf
     |bool=>rw [hd] at htf;cases n<;>simp [Ao,Gu] at htf
     |str=>rw [hd] at htf;cases n<;>simp [Ao,Gu] at htf
     |slice e=>rw [hd] at htf;cases n<;>simp [Ao,Gu] at htf
    have hvx:=hval.many hagg;subst hvx;have hf':fs[n]? = some f:=by rw [<-Array.getElem?_toList];exact hf
    have key:∀ (n:Nat) (t:Ty) (x:t.den) (cs:List Value) (fs:List Field) (base:Nat) (f:Field) (y:Hd),(Bw P t).2 fs base->fs[n]? = some f->AB (Ao n) t x some=some y->Rep w O t .z x cs Ab.none->
      Rep w O y.t .z y.x ((cs.drop (f.offset-base)).take y.t.size) Ab.none/\base<=f.offset:=by
     intro n;induction n with
     |zero=>
      intro t x cs fs base f y hq hf hget hrep;cases t<;>simp only [Ao,AB] at hget<;>try (cases hget;done)
      injection hget with hget
      subst hget;obtain ⟨g,r,rfl,hoff,_⟩:=hq;simp at hf;subst hf;obtain ⟨c₁,c₂,F₁,F₂,hc,r1,r2,_,_⟩:=hrep;have e₁:(c₁++c₂).take c₁.length=c₁:=by simp
      rw [hoff,Nat.sub_self,List.drop_zero,hc,<-r1.len,e₁];exact ⟨r1.foot fun b=>⟨fun h=>h.elim,fun h=>(r1.free b h).elim⟩,Nat.le_refl _⟩
     |succ n ih=>
      intro t x cs fs base f y hq hf hget hrep;cases t<;>simp only [Ao,AB] at hget<;>try (cases hget;done)
      rename_i u v;obtain ⟨g,r,rfl,hoff,_,_,_,hrest⟩:=hq;obtain ⟨c₁,c₂,F₁,F₂,hc,r1,r2,_,_⟩:=hrep;obtain ⟨h1,h2⟩:=ih v x.2 c₂ r (base+u.size) f y hrest (by simpa using hf) hget (r2.foot fun b=>⟨fun h=>h.elim,fun h=>(r2.free b h).elim⟩);refine ⟨?_,by omega⟩;have e₁:(c₁++c₂).drop u.size=c₂:=by rw [<-r1.len];simp
      rw [show f.offset-base=u.size+(f.offset-(base+u.size)) from by omega,hc,<-List.drop_drop,e₁];exact h1
    obtain ⟨hy,_⟩:=key n d.t d.x cs fs.toList 0 f y hq hf hget hrep;rw [Nat.sub_zero] at hy;have hlen:=hy.len;unfold Instr.field
    have hrun:∃ v,(part f.type cs.toArray f.offset).run P w = .ok v w/\C_ y.t v ((cs.drop f.offset).take y.t.size):=by
     unfold part;simp only [Sem.run_bind,NS hft w,Result.andThen_ok];cases ha:y.t.agg with
     |true=>
      refine ⟨.agg ((cs.drop f.offset).take y.t.size).toArray,?_,by simp [C_,ha]⟩;simp only [if_true,Sem.run_bind,Dh hinf,Result.andThen_ok,hisz,Sem.run_pure];congr 2;apply Array.ext';simp only [List.extract_toArray,List.extract_eq_take_drop,Nat.add_sub_cancel_left]
     |false=>
      have h1:y.t.size=1:=by cases hyt:y.t<;>simp_all [Ty.agg,Ty.size]
      rw [h1] at hlen ⊢
      obtain ⟨v,hv⟩:∃ v,(cs.drop f.offset).take 1=[v]:=by
       match hh:(cs.drop f.offset).take 1,hlen with
       |[v],_=>exact ⟨v,rfl⟩
      refine ⟨v,?_,by simp [C_,ha,hv]⟩
      have:cs.toArray[f.offset]? = some v:=by
       rw [List.getElem?_toArray];have:=congrArg (·[0]?) hv;simpa [List.getElem?_take,List.getElem?_drop] using this
      simp only [Bool.false_eq_true,if_false,this,Sem.run_pure]
    obtain ⟨v,hrun,hval'⟩:=hrun;refine ⟨_,v,?_,.pv y v _ hval' hy,hk⟩;simp only [Sem.run_bind,run_underlying hu,Result.andThen_ok,hf',asAgg,Sem.run_pure,hrun]
 ·cases h
theorem QE:∀ (l:List Int) (s:ByteArray),l.foldl (fun r n=>r.push (UInt8.ofNat n.toNat)) s=⟨s.data++(l.map fun n=>UInt8.ofNat n.toNat).toArray⟩
 |[],s=>by simp
 |x::xs,s=>by
  rw [List.foldl_cons,QE xs];congr 1;apply Array.ext';simp [ByteArray.push]
theorem OJ:∀ (l:List Int) (cl:List Value),Els (Rep w O (.int .u8) .z) l cl Ab.none->cl=l.map (Value.int .u8)
 |[],cl,h=>h.1
 |x::xs,cl,⟨c₁,c₂,F₁,F₂,hc,hx,hxs,hU,hd⟩=>by
  have e:F₂=Ab.none:=funext fun b=>propext ⟨fun h=>(hU b).2 (.inr h),fun h=>h.elim⟩
  rw [e] at hxs;rw [hc,hx.1,OJ xs c₂ hxs];rfl
theorem NX (w:World) {O:Ab} (an:Option Addr) (c:Nat) (l:List Int) (h:Rep w O (.slice (.int .u8)) .z l [.slice an l.length c] Ab.none) :
  (Conv.bytesToString (.slice an l.length c)).run P w = .ok (.string ⟨(l.map fun n=>UInt8.ofNat n.toNat).toArray⟩) w:=by
 obtain ⟨_,a',cap,hc,hl,ha,hs,hx⟩:=h;injection hc with hc
 injection hc with e1 e2 e3
 cases an with
 |none=>
  have h0:c=0:=by rw [e3];exact ha e1.symm
  have hl0:l=[]:=by
   apply List.eq_nil_of_length_eq_zero;have:(Bu (e:=.int .u8) l).length<=cap:=hl;simp only [Bu] at this;omega
  subst hl0;rfl
 |some ad=>
  have hload:(loadCells ad l.length).run P w = .ok (l.map (Value.int .u8)).toArray w:=by
   rcases hx with hx | ⟨b,off,cl,hab,hb,hOb,hel,hcell⟩
   ·rw [show l=[] from hx];rfl
   ·rw [<-e1] at hab;injection hab with hab
    subst hab;have hcl:=OJ l cl hel;subst hcl
    have:=run_loadCells_list (P:=P) w ⟨b,off,none⟩ (l.map (Value.int .u8)) (fun j v hj=>by
     rw [DU,hcell j (List.getElem?_eq_some_iff.1 hj).1,hj])
    simpa using this
  rw [run_bytesToString w ad l.length c l hload,QE];congr 3;simp
theorem Zg (S:Sim P env w₀ O₀ W σ γ φ O a w) (hty:env.TyOk P) {src dst:TypeId} {x:Operand} {k:Slot->Option α} {r:α} (h:AA env σ (.convert src dst x) k=some r) :
  HH P w O σ γ (convert src dst (a.eval x)) k r:=by
 have hv:=S.val x;generalize a.eval x=vx at hv ⊢;unfold AA at h;dsimp only at h;split at h
 ·rename_i k' kk hs hd;have h1:P.underlying src=some (.int k'):=(hty.1 _ _ hs).1;have h2:P.underlying dst=some (.int kk):=(hty.1 _ _ hd).1;split at h
  ·rename_i q n hsx;rw [hsx] at hv;rw [Db hv];refine ⟨_,_,?_,EB _ _,h⟩;simp [convert,run_underlying h1,run_underlying h2,Conv.intToInt]
  ·cases h
 ·rename_i hs hd;have h1:P.underlying src=some .string:=(hty.1 _ _ hs).1;have h2:P.underlying dst=some .string:=(hty.1 _ _ hd).1;split at h
  ·rename_i l hsx;rw [hsx] at hv;rw [DB hv];refine ⟨_,_,?_,NT _,h⟩;simp [convert,run_underlying h1,run_underlying h2]
  ·cases h
 ·rename_i hs hd;obtain ⟨j,h1,h1',_⟩:=(hty.1 _ _ hs).1;have h2:P.underlying dst=some .string:=(hty.1 _ _ hd).1;obtain ⟨l,hk,cs,hval,hrep,_⟩:=S.content hv h;have e1:=hval.one rfl;subst e1;obtain ⟨an,cap,hc,hl⟩:=hrep.headLen rfl;injection hc with hc
  subst hc;refine ⟨_,_,?_,NT _,hk⟩;rw [run_convert_bytes_string w src dst j an _ cap h1 h1' h2];exact NX w an cap l hrep
 ·cases h
theorem jl (S:Sim P env w₀ O₀ W σ γ φ O a w) (hty:env.TyOk P) {op:BinOp} {t:TypeId} {x y:Slot} {vx vy:Value} (hx:Ak P w O σ γ x vx) (hy:Ak P w O σ γ y vy) {xo yo:Operand}
  {k:Slot->Option α} {r:α} (h:WI env σ op t x y k=some r):HH P w O σ γ (do eqGuard op t xo yo vx vy;binOp op t vx vy) k r:=by
 unfold WI at h;split at h
 ·split at h
  ·rename_i e ht;cases hy with
   |nilS=>
    obtain ⟨l,hk,cs,hval,hrep,_⟩:=S.content hx h;obtain ⟨j,hu,_⟩:=(hty.1 _ _ ht).1;obtain ⟨_,an,cap,hc,hle,ha,_⟩:=hrep;have e1:=hval.one rfl;rw [hc] at e1;injection e1 with e1
    subst e1;refine HH.guarded (by unfold eqGuard;rfl) ⟨_,_,run_eql_slice_nil w t j an _ cap hu,.may _ _ fun hn=>?_,hk⟩;have h0:=ha (by simpa using hn);exact List.isEmpty_iff.2 (List.eq_nil_of_length_eq_zero (by omega))
  ·cases h
 ·exact jk hty hx hy h
theorem QF (S:Sim P env w₀ O₀ W σ γ φ O a w) (hty:env.TyOk P) {o:Oper} {k:Slot->Option α} {r:α} (h:AA env σ o.op k=some r) :
  aI P w O σ γ (execOp a.eval o) k r:=by
 unfold execOp;cases hop:o.op<;>rw [hop] at h<;>dsimp only
 case move x=>exact ⟨_,_,rfl,S.val x,h⟩
 case assign x=>exact ⟨_,_,rfl,S.val x,h⟩
 case load t x=>exact (aH S hty h).next
 case fieldAddr t x n=>exact (Ux S hty h).next
 case field t x n=>exact (eU S hty h).next
 case indexAddr t x i=>exact (Uy S hty h).next
 case index t x i=>exact (eS S hty h).next
 case slice t x lo hi mx=>exact (eT S hty h).next
 case convert s d x=>exact (Zg S hty h).next
 case binOp op t x y t' =>exact (jl S hty (S.val x) (S.val y) h).next
 case pick c x y=>
  have hc:=S.val c;unfold AA at h;dsimp only at h;split at h
  ·rename_i b hs;rw [hs] at hc;rw [Ir hc];split at h
   ·rename_i hb;exact ⟨_,_,by rw [show b=true from hb];rfl,S.val x,h⟩
   ·rename_i hb;exact ⟨_,_,by rw [show b=false from hb];rfl,S.val y,h⟩
  ·cases h
 case nilCheck x=>
  have hx:=S.val x;unfold AA at h;dsimp only at h;split at h
  ·rename_i p hs;rw [hs] at hx;refine ⟨_,a.eval x,?_,hx,h⟩;generalize a.eval x=v at hx;cases hx<;>rfl
  ·rename_i d hs;rw [hs] at hx;refine ⟨_,a.eval x,?_,hx,h⟩;generalize a.eval x=v at hx;cases hx<;>rfl
  ·cases h
 case unOp op t x=>
  have hx:=S.val x;unfold AA at h;dsimp only at h;split at h
  ·rename_i b hs;rw [hs] at hx;rw [Ir hx];exact ⟨_,_,rfl,Dm _,h⟩
  ·rename_i kk n hs;rw [hs] at hx;rw [Db hx];exact ⟨_,_,rfl,EB _ _,h⟩
  ·cases h
 case extract x i=>
  have hx:=S.val x;unfold AA at h;dsimp only at h;split at h
  ·rename_i l hs;rw [hs] at hx;generalize a.eval x=v at hx ⊢;split at h
   ·rename_i s hl;cases hx with
    |tup _ vs hlen hall=>
     have hlt:=(List.getElem?_eq_some_iff.1 hl).1;have hv:vs[i]? = some vs[i]:=Array.getElem?_eq_getElem (by omega);refine ⟨s,vs[i],?_,hall i s _ hl hv,h⟩;simp [Instr.extract,hv]
   ·cases h
  ·cases h
 case makeFunc fn first caps=>
  unfold AA at h;cases fn with
  |func f=>
   dsimp only at h;split at h
   ·rename_i hz;have hfirst:first = #[]:=Array.eq_empty_of_size_eq_zero hz
    subst hfirst;rw [show (#[]:Array Operand).map a.eval = #[] by simp];refine ⟨_,_,rfl,Ak.clo f (caps.toList.map σ.val) (caps.map a.eval) (by simp) ?_,h⟩;intro i s v hs hv;simp only [List.getElem?_map,Array.getElem?_toList,Array.getElem?_map] at hs hv;cases hc:caps[i]? with
    |none=>rw [hc] at hs;simp at hs
    |some o=>
     rw [hc] at hs hv;simp at hs hv;subst hs hv;exact S.val o
   ·cases h
  |_=>simp at h
 all_goals (unfold AA at h;simp at h)
end Go.V
namespace Go.V
variable {α:Type}
variable {P:Program} {env:Bf} {w₀ w w':World} {O₀ W O O':Ab} {σ σ':St} {γ γ':Name->Src} {φ φ':Name->Ab} {a:Act}
theorem Ci {n:Nat} {s:Src} (h:∀ b,s.blk b->w'.heap[b]? = w.heap[b]?):Al w' n s=Al w n s:=by
 cases s with
 |mem b off=>simp only [Al,h b rfl]
 |val cs=>rfl
theorem Src.left_blk {n:Nat} {s:Src} {b:Nat}:(s.left n).blk b↔s.blk b:=by cases s<;>exact Iff.rfl
theorem Src.right_blk {n:Nat} {s:Src} {b:Nat}:(s.right n).blk b↔s.blk b:=by cases s<;>exact Iff.rfl
theorem Is:∀ (p:Bi) {t:Ty} {sh:Sh} {x:t.den} {cs:List Value} {F:Ab} {src:Src} {d:Hd} {r:Ty×Src},
  Rep w O t sh x cs F->Al w t.size src=some cs->Be p sh=true->AB p t x some=some d->(∀ b,F b->w'.heap[b]? = w.heap[b]?)->(∀ b,src.blk b->w'.heap[b]? = w.heap[b]?)->
  goto w p t src=some r->goto w' p t src=some r
 |[],t,sh,x,cs,F,src,d,r,_,_,_,_,_,_,h=>h
 |st::p,t,sh,x,cs,F,src,d,r,hrep,hcs,hok,hget,hF,hs,h=>by
  cases t with
  |int k=>cases st<;>simp [AB] at hget
  |bool=>cases st<;>simp [AB] at hget
  |str=>cases st<;>simp [AB] at hget
  |unit=>cases st<;>simp [AB] at hget
  |pair a b=>
   have hlen:=hrep.len;obtain ⟨c₁,c₂,F₁,F₂,hc,h1,h2,hU,hd⟩:=hrep;have hl1:=h1.len
   have hsv:∀ c,src = .val c->c.length=a.size+b.size:=by
    rintro c rfl;simp [Al] at hcs;rw [hcs,hlen];rfl
   have e1:cs.take a.size=c₁:=by rw [hc,<-hl1];simp
   have e2:cs.drop a.size=c₂:=by rw [hc,<-hl1];simp
   have hcl:Al w a.size (src.left a.size)=some c₁:=e1▸Ec hcs hsv;have hcr:Al w b.size (src.right a.size)=some c₂:=e2▸DI hcs hsv;cases st with
   | «at» n=>simp [AB] at hget
   |l=>exact Is p h1 hcl hok hget (fun b hb=>hF b ((hU b).2 (.inl hb))) (fun b hb=>hs b (Src.left_blk.1 hb)) h
   |r=>exact Is p h2 hcr hok hget (fun b hb=>hF b ((hU b).2 (.inr hb))) (fun b hb=>hs b (Src.right_blk.1 hb)) h
  |slice e=>
   cases st with
   |l=>simp [AB] at hget
   |r=>simp [AB] at hget
   | «at» n=>
    cases sh with
    |z=>simp [Be] at hok
    |gone=>simp [Be] at hok
    |pr u v=>simp [Be] at hok
    |own s=>
     simp only [Be] at hok;cases hx:(Bu x)[n]? with
     |none=>simp [AB,hx] at hget
     |some y₀=>
      simp only [AB,hx] at hget;have hn:n<(Bu x).length:=(List.getElem?_eq_some_iff.1 hx).1;rcases hrep with ⟨_,hnil,_⟩ | ⟨b,off,cap,C,tid,fr,G,hc,hl,hb,hfr,hsz,hel,hU,hdb,hOb⟩
      ·rw [show Bu x=[] from hnil] at hn;simp at hn
      ·obtain ⟨hlc,G',hy,hG',_⟩:=Els.pick (sz:=e.size) (fun _ _ _ h=>h.len) hel hx;have hmul:(Bu x).length*e.size<=cap*e.size:=Nat.mul_le_mul_right _ hl
       have hmul':n*e.size+e.size<=(Bu x).length*e.size:=by
        have:=Nat.mul_le_mul_right e.size (show n+1<=(Bu x).length from hn);rw [Nat.succ_mul] at this;omega
       have hcell:Al w e.size (.mem b (off+n*e.size))=some ((((C.toList.drop off).take ((Bu x).length*e.size)).drop (n*e.size)).take e.size):=by
        rw [Cc hb (by omega),List.drop_take,List.drop_drop,List.take_take,Nat.min_eq_left (by omega)]
       simp only [goto] at h ⊢;rw [Ci hs,show Al w 1 src=some cs from hcs,hc];rw [show Al w 1 src=some cs from hcs,hc] at h;exact Is p hy hcell hok hget (fun k hk=>hF k ((hU k).2 (.inr (hG' k hk)))) (by rintro k rfl;exact hF _ ((hU _).2 (.inl rfl))) h
def St.foot (σ:St) (φ:Name->Ab) (n:Name):Ab:=fun b=>(∃ r,σ.root n=some r)/\φ n b
structure Iu (w w':World) (O O':Ab) (σ σ':St) (γ γ':Name->Src) (φ φ':Name->Ab) (n:Name):Prop where
 kept:AF (σ.foot φ n) w w'
 free:∀ b,b<w.heap.size->¬O b->¬O' b
 root:∀ m,m≠n->σ'.root m=(σ.root m).map (AV.kill n)
 src:∀ m,m≠n->γ' m=γ m
 foot:∀ m,m≠n->φ' m=φ m
variable {n:Name}
theorem Iu.live (A:Iu w w' O O' σ σ' γ γ' φ φ' n) {p:CH} (hp:p.name≠n):Da σ' p↔Da σ p:=by
 constructor
 ·rintro ⟨b,d,sh,d',hr,h⟩;rw [A.root _ hp] at hr;cases hs:σ.root p.name with
  |none=>rw [hs] at hr;cases hr
  |some r=>
   rw [hs] at hr;injection hr with hr
   cases r with
   |held s=>cases hr
   |data b' d₂ sh₂=>injection hr with e1 e2 e3;subst e1 e2 e3;exact ⟨b',d₂,sh₂,d',hs,h⟩
 ·rintro ⟨b,d,sh,d',hr,h⟩;exact ⟨b,d,sh,d',by rw [A.root _ hp,hr];rfl,h⟩
theorem Iu.way (S:Sim P env w₀ O₀ W σ γ φ O a w) (A:Iu w w' O O' σ σ' γ γ' φ φ' n) {p:CH} (hp:p.name≠n) {b:Bool} {d:Hd} {sh:Sh} (hr:σ.root p.name=some (.data b d sh))
  (hL:Da σ p) {t:Ty} {src:Src} (h:goto w p.path d.t (γ p.name)=some (t,src)) :
  goto w' p.path d.t (γ' p.name)=some (t,src)/\∀ m,Al w' m src=Al w m src:=by
 obtain ⟨b',d₂,sh₂,d',hr',hok,hget⟩:=hL;rw [hr] at hr';injection hr' with hr'
 injection hr' with e1 e2 e3
 subst e1 e2 e3
 have same:∀ k,φ p.name k->k<w.heap.size->w'.heap[k]? = w.heap[k]?:=by
  intro k hk hlt;refine A.kept.block k hlt ?_;rintro ⟨⟨r,hr'⟩,hf⟩;exact S.apart p.name n _ _ hr hr' hp k ⟨hk,hf⟩
 rw [A.src _ hp];obtain ⟨F,hz,hF,hblk,_⟩:=S.zip hr hok hget;obtain ⟨src',cs',F',hg,hcs',hrep',hF',hb',hin,_⟩:=hz;rw [h] at hg;injection hg with hg
 injection hg with e1 e2
 subst e1 e2;have R:=S.roots _ _ hr
 have inner:∀ m,Al w' m src=Al w m src:=by
  intro m;apply Ci;intro k hk;cases src with
  |val cs=>exact hk.elim
  |mem sb so=>
   have hk':k=sb:=hk;subst hk';obtain ⟨C,tid,fr,hb,_⟩:=Bs hcs';refine same k ?_ (Array.getElem?_eq_some_iff.1 hb).1;rcases hin k rfl with h | h
   ·exact (hblk k h).1
   ·exact hF k h
 refine ⟨?_,inner⟩;cases b with
 |true=>
  obtain ⟨bb,off,C,tid,fr,cs,F₂,hsrc,hb,hfr,hcs,hrep,hF₂,hOb,hU⟩:=R;have hbl:=(Array.getElem?_eq_some_iff.1 hb).1;refine Is p.path hrep (hsrc▸hcs) hok hget (fun k hk=>same k ((hU k).2 (.inr hk)) (hrep.owned k hk).2) ?_ h;rw [hsrc];rintro k rfl;exact same _ ((hU _).2 (.inl rfl)) hbl
 |false=>
  obtain ⟨cs,hsrc,hrep⟩:=R;refine Is p.path hrep (by rw [hsrc];rfl) hok hget (fun k hk=>same k hk (hrep.owned k hk).2) ?_ h;rw [hsrc];intro k hk;exact hk.elim
theorem Iu.placeAt (S:Sim P env w₀ O₀ W σ γ φ O a w) (A:Iu w w' O O' σ σ' γ γ' φ φ' n) {p:CH} (hp:p.name≠n) {t:Ty} {src:Src} (h:Bz w σ γ p t src):Bz w' σ' γ' p t src:=by
 obtain ⟨b,d,sh,hr,htp,hg⟩:=h;refine ⟨b,d,sh,by rw [A.root _ hp,hr];rfl,htp,fun hL=>?_⟩;have hL' :=(A.live hp).1 hL;exact (A.way S hp hr hL' (hg hL')).1
theorem Gs (S:Sim P env w₀ O₀ W σ γ φ O a w) {n:Name} {b:Nat} (h:σ.foot φ n b):O b:=by
 obtain ⟨⟨r,hr⟩,hb⟩:=h;exact (S.own b).2 (.inr ⟨n,r,hr,hb⟩)
theorem Slot.kill_of {n:Name} {s:Slot} (h:s.men n=false):s.kill n=s:=by simp [Slot.kill,h]
theorem QG {n:Name}:∀ {l:List Slot} {i:Nat} {s:Slot},Slot.menL n l=false->l[i]? = some s->s.men n=false
 |[],i,s,_,hs=>by simp at hs
 |x::xs,0,s,h,hs=>by simp at hs;subst hs;simp only [Slot.menL,Bool.or_eq_false_iff] at h;exact h.1
 |x::xs,i+1,s,h,hs=>by simp only [Slot.menL,Bool.or_eq_false_iff] at h;exact QG h.2 (by simpa using hs)
theorem Ak.away (S:Sim P env w₀ O₀ W σ γ φ O a w) (A:Iu w w' O O' σ σ' γ γ' φ φ' n) {s:Slot} {v:Value} (h:Ak P w O σ γ s v) (hm:s.men n=false):Ak P w' O' σ' γ' s v:=by
 have hfr:∀ b,b<w.heap.size->¬O b->w'.heap[b]? = w.heap[b]?:=fun b hb hO=>A.kept.block b hb fun hf=>hO (Gs S hf)
 have frame:∀ {t:Ty} {x:t.den} {cs:List Value},Rep w O t .z x cs Ab.none->Rep w' O' t .z x cs Ab.none:=fun hr=>
  Rep.frame A.kept.size hfr (fun _ h=>h.elim) A.free (fun _ h=>h.elim) hr
 have nm:∀ {p:CH},Nat.beq p.name n=false->p.name≠n:=by
  intro p h e;rw [e] at h;simp at h
 induction h with
 |undef v=>exact .undef v
 |pv d v cs hv hr=>exact .pv d v cs hv (frame hr)
 |ref t p v src hp hl=>
  have hn:=nm hm;refine .ref t p v src (A.placeAt S hn hp) fun hL=>?_
  have hL' :=(A.live hn).1 hL;obtain ⟨cs,hcs,hv⟩:=hl hL';obtain ⟨b,d,sh,hr,_,hg⟩:=hp;exact ⟨cs,((A.way S hn hr hL' (hg hL')).2 _).trans hcs,hv⟩
 |vw e p lo hi src an k c hp hl h1 h2=>
  have hn:=nm hm;refine .vw e p lo hi src an k c (A.placeAt S hn hp) (fun hL=>?_) h1 h2;have hL' :=(A.live hn).1 hL;obtain ⟨b,d,sh,hr,_,hg⟩:=hp;exact ((A.way S hn hr hL' (hg hL')).2 _).trans (hl hL')
 |ptr p t b off hp=>exact .ptr p t b off (A.placeAt S (nm hm) hp)
 |ptrH m s b off hr hs=>
  have hn:m≠n:=nm (p:=⟨m,[]⟩) hm;exact .ptrH m (s.kill n) b off (by rw [A.root _ hn,hr];rfl) ((A.src _ hn).trans hs)
 |fptr d b off cs h1 h2 h3 h4=>
  refine .fptr d b off cs (Nat.lt_of_lt_of_le h1 A.kept.size) (A.free b h1 h2) (frame h3) fun k hk=>?_
  rw [<-h4 k hk];simp only [World.cell?,hfr b h1 h2]
 |clo f caps vs hl hall ih=>
  refine .clo f caps vs hl fun i s v hs hv=>ih i s v hs hv ?_
  exact QG hm hs
 |fnA a b φ v w₀' O₀' hf hk ho hfn=>
  refine .fnA a b φ v w₀' O₀' hf (hk.trans A.kept fun k hlt hf=>ho k hlt (Gs S hf)) (fun b hb hO=>?_) hfn;refine ho b hb (Classical.byContradiction fun hn=>A.free b (Nat.lt_of_lt_of_le hb hk.size) hn hO)
 |tup l vs hl hall ih=>
  refine .tup l vs hl fun i s v hs hv=>ih i s v hs hv ?_
  exact QG hm hs
 |nilS=>exact .nilS
 |may e b h=>exact .may e b h
theorem Ak.away' (S:Sim P env w₀ O₀ W σ γ φ O a w) (A:Iu w w' O O' σ σ' γ γ' φ φ' n) {s:Slot} {v:Value} (h:Ak P w O σ γ s v):Ak P w' O' σ' γ' (s.kill n) v:=by
 unfold Slot.kill;split
 ·exact .undef v
 ·rename_i hm;exact h.away S A hm
theorem RootOk.away (S:Sim P env w₀ O₀ W σ γ φ O a w) (A:Iu w w' O O' σ σ' γ γ' φ φ' n) {m:Name} (hm:m≠n) {r:AV} (hr:σ.root m=some r)
  (hO:∀ b,φ m b->O' b):RootOk P w' O' σ' γ' (r.kill n) (γ' m) (φ' m):=by
 have R:=S.roots m r hr;have hfr:∀ b,b<w.heap.size->¬O b->w'.heap[b]? = w.heap[b]?:=fun b hb hO=>A.kept.block b hb fun hf=>hO (Gs S hf)
 have same:∀ k,φ m k->k<w.heap.size->w'.heap[k]? = w.heap[k]?:=by
  intro k hk hlt;refine A.kept.block k hlt ?_;rintro ⟨⟨r,hr'⟩,hf⟩;exact S.apart m n _ _ hr hr' hm k ⟨hk,hf⟩
 rw [A.src m hm,A.foot m hm];cases r with
 |data bx d sh=>
  cases bx with
  |true=>
   obtain ⟨b,off,C,tid,fr,cs,F',hsrc,hb,hfz,hcs,hrep,hF',hOb,hU⟩:=R;have hbl:=(Array.getElem?_eq_some_iff.1 hb).1;have hsb:=same b ((hU b).2 (.inl rfl)) hbl;refine ⟨b,off,C,tid,fr,cs,F',hsrc,hsb.trans hb,hfz,(Ci (by rintro k rfl;exact hsb)).trans hcs,?_,hF',hO b ((hU b).2 (.inl rfl)),hU⟩;exact Rep.frame A.kept.size hfr (fun k hk=>same k ((hU k).2 (.inr hk)) (hrep.owned k hk).2) A.free (fun k hk _=>hO k ((hU k).2 (.inr hk))) hrep
  |false=>
   obtain ⟨cs,hsrc,hrep⟩:=R;exact ⟨cs,hsrc,Rep.frame A.kept.size hfr (fun k hk=>same k hk (hrep.owned k hk).2) A.free (fun k hk _=>hO k hk) hrep⟩
 |held s=>
  obtain ⟨b,off,C,tid,fr,v,hsrc,hb,hfz,hC,hs,hOb,hU⟩:=R;have hbl:=(Array.getElem?_eq_some_iff.1 hb).1;have hsb:=same b ((hU b).2 rfl) hbl;exact ⟨b,off,C,tid,fr,v,hsrc,hsb.trans hb,hfz,hC,hs.away' S A,hO b ((hU b).2 rfl),hU⟩
end Go.V
namespace Go.V
variable {α:Type}
variable {P:Program} {env:Bf} {w₀ w w':World} {O₀ O₁ W O O':Ab} {σ σ':St} {γ γ':Name->Src} {φ φ':Name->Ab} {a a':Act} {n:Name}
theorem EV:∀ (l:List (Nat×α)) (i j:Nat),look (Cp l i) j=if j=i then none else look l j
 |[],i,j=>by simp [Cp,look]
 |(k,x)::l,i,j=>by
  have ih:=EV l i j;unfold Cp;split
  ·rename_i h;have h':k=i:=Nat.eq_of_beq_eq_true h;rw [ih];split
   ·rfl
   ·rename_i hne;simp only [look];split
    ·rename_i h2;have:k=j:=Nat.eq_of_beq_eq_true h2;omega
    ·rfl
  ·rename_i h;have h':k≠i:=fun e=>by rw [e] at h;simp at h
   simp only [look];split
   ·rename_i h2;have:k=j:=Nat.eq_of_beq_eq_true h2;rw [if_neg (by omega)]
   ·exact ih
theorem Er {β:Type} (f:α->β):∀ (l:List (Nat×α)) (j:Nat),look (l.map fun x=>(x.1,f x.2)) j=(look l j).map f
 |[],j=>rfl
 |(k,x)::l,j=>by
  simp only [List.map_cons,look];split
  ·rfl
  ·exact Er f l j
theorem Es (i:Nat):Nat.beq i i=true:=by simp
theorem Dn {i j:Nat} (h:i≠j):Nat.beq i j=false:=by
 cases hb:Nat.beq i j
 ·rfl
 ·exact (h (Nat.eq_of_beq_eq_true hb)).elim
theorem St.slot_set (σ:St) (d:Nat) (s:Slot) (i:Nat):(σ.set d s).slot i=if i=d then s else σ.slot i:=by
 unfold St.slot St.set;simp only [look];by_cases h:i=d
 ·subst h;simp
 ·rw [if_neg h,Dn (fun e=>h e.symm),EV,if_neg h]
theorem St.root_set (σ:St) (d:Nat) (s:Slot) (m:Name):(σ.set d s).root m=σ.root m:=rfl
theorem St.root_lay (σ:St) (n:Name) (r:AV) (m:Name):(σ.lay n r).root m=if m=n then some r else (σ.root m).map (AV.kill n):=by
 unfold St.root St.lay;simp only [look];by_cases h:m=n
 ·subst h;simp
 ·rw [if_neg h,Dn (fun e=>h e.symm),Er,EV,if_neg h]
theorem St.slot_lay (σ:St) (n:Name) (r:AV) (i:Nat):(σ.lay n r).slot i=(σ.slot i).kill n:=by
 unfold St.slot St.lay;rw [Er];cases look σ.slots i<;>rfl
theorem St.root_drop (σ:St) (n m:Name):(σ.drop n).root m=if m=n then none else (σ.root m).map (AV.kill n):=by
 unfold St.root St.drop;rw [Er,EV];split<;>rfl
theorem St.slot_drop (σ:St) (n:Name) (i:Nat):(σ.drop n).slot i=(σ.slot i).kill n:=by
 unfold St.slot St.drop;rw [Er];cases look σ.slots i<;>rfl
theorem Ak.congr (h:∀ n,σ'.root n=σ.root n) {s:Slot} {v:Value} (hs:Ak P w O σ γ s v):Ak P w O σ' γ s v:=by
 have hL:∀ p,Da σ' p->Da σ p:=by rintro p ⟨b,d,sh,d',hr,hh⟩;exact ⟨b,d,sh,d',(h _).symm.trans hr,hh⟩
 have hP:∀ p t src,Bz w σ γ p t src->Bz w σ' γ p t src:=by
  rintro p t src ⟨b,d,sh,hr,ht,hg⟩;exact ⟨b,d,sh,(h _).trans hr,ht,fun hl=>hg (hL p hl)⟩
 induction hs with
 |undef v=>exact .undef v
 |pv d v cs hv hr=>exact .pv d v cs hv hr
 |ref t p v src hp hl=>exact .ref t p v src (hP _ _ _ hp) fun h=>hl (hL _ h)
 |vw e p lo hi src an k c hp hl h1 h2=>exact .vw e p lo hi src an k c (hP _ _ _ hp) (fun h=>hl (hL _ h)) h1 h2
 |ptr p t b off hp=>exact .ptr p t b off (hP _ _ _ hp)
 |ptrH m s b off hr hs=>exact .ptrH m s b off ((h m).trans hr) hs
 |fptr d b off cs h1 h2 h3 h4=>exact .fptr d b off cs h1 h2 h3 h4
 |clo f caps vs hl hall ih=>exact .clo f caps vs hl ih
 |fnA a b φ v w₀' O₀' hf hk ho hfn=>exact .fnA a b φ v w₀' O₀' hf hk ho hfn
 |tup l vs hl hall ih=>exact .tup l vs hl ih
 |nilS=>exact .nilS
 |may e b h=>exact .may e b h
theorem RootOk.congr (h:∀ n,σ'.root n=σ.root n) {r:AV} {src:Src} {F:Ab} (hr:RootOk P w O σ γ r src F):RootOk P w O σ' γ r src F:=by
 cases r with
 |data b d sh=>cases b<;>exact hr
 |held s=>
  obtain ⟨b,off,C,tid,fr,v,h1,h2,h3,h4,h5,h6,h7⟩:=hr;exact ⟨b,off,C,tid,fr,v,h1,h2,h3,h4,h5.congr h,h6,h7⟩
theorem Sim.set (S:Sim P env w₀ O₀ W σ γ φ O a w) {d:Nat} {s:Slot} {v:Value} (hd:d<env.n) (hs:Ak P w O σ γ s v) :
  Sim P env w₀ O₀ W (σ.set d s) γ φ O (a.put (some d) v) w:=by
 refine ⟨S.defers,by simp [Act.put,S.size],S.kept,fun n r hr=>RootOk.congr (σ:=σ) (σ' :=σ.set d s) (fun _=>rfl) (S.roots n r hr),S.apart,S.fresh,S.own,S.old,?_,S.pin⟩;intro i;rw [St.slot_set];split
 ·rename_i h;subst h
  have:(a.put (some i) v).tmps.getD i undef=v:=by
   simp [Act.put,Array.getD_eq_getD_getElem?,S.size,hd]
  rw [this];exact Ak.congr (σ:=σ) (σ' :=σ.set i s) (fun _=>rfl) hs
 ·rename_i h
  have:(a.put (some d) v).tmps.getD i undef=a.tmps.getD i undef:=by
   simp only [Act.put,Array.getD_eq_getD_getElem?,Array.getElem?_setIfInBounds,if_neg (fun e:d=i=>h e.symm)]
  rw [this];exact Ak.congr (σ:=σ) (σ' :=σ.set d s) (fun _=>rfl) (S.slots i)
theorem RootOk.lt {r:AV} {src:Src} {F:Ab} (h:RootOk P w O σ γ r src F) {b:Nat} (hb:F b):b<w.heap.size:=by
 cases r with
 |data bx d sh=>
  cases bx with
  |true=>
   obtain ⟨b',off,C,tid,fr,cs,F',hsrc,hb',hfz,hcs,hrep,hF',hOb,hU⟩:=h;rcases (hU b).1 hb with h | h
   ·subst h;exact (Array.getElem?_eq_some_iff.1 hb').1
   ·exact (hrep.owned b h).2
  |false=>obtain ⟨cs,hsrc,hrep⟩:=h;exact (hrep.owned b hb).2
 |held s=>
  obtain ⟨b',off,C,tid,fr,v,h1,h2,h3,h4,h5,h6,h7⟩:=h;have:=(h7 b).1 hb;subst this;exact (Array.getElem?_eq_some_iff.1 h2).1
theorem Sim.change (S:Sim P env w₀ O₁ W σ γ φ O a w) (A:Iu w w' O O' σ σ' γ γ' φ φ' n) (hsub:∀ b,O₀ b->O₁ b)
  (hown:∀ b,O' b↔O₀ b\/∃ m r,σ'.root m=some r/\φ' m b)
  (hnew:∀ r,σ'.root n=some r->RootOk P w' O' σ' γ' r (γ' n) (φ' n)/\∀ b,φ' n b->w.heap.size<=b\/σ.foot φ n b\/(O₁ b/\¬O₀ b/\(w₀.heap.size<=b\/W b)))
  (hslots:∀ i,σ'.slot i=(σ.slot i).kill n) (hpin:n=4->∀ bx d sh,σ'.root n=some (.data bx d sh)->γ' n=γ n/\∃ bx' d' sh',σ.root n=some (.data bx' d' sh')):Sim P env w₀ O₀ W σ' γ' φ' O' a w' :=by
 have Kp:∀ m r',m≠n->σ'.root m=some r' ->∃ r,σ.root m=some r/\r'=r.kill n:=by
  intro m r' hm hr;rw [A.root m hm] at hr;cases hs:σ.root m with
  |none=>rw [hs] at hr;cases hr
  |some r=>rw [hs] at hr;injection hr with hr;exact ⟨r,rfl,hr.symm⟩
 have sep:∀ m r r',m≠n->σ'.root n=some r->σ'.root m=some r' ->∀ b,¬(φ' n b/\φ' m b):=by
  rintro m r r' hm hr hr' b ⟨h1,h2⟩;obtain ⟨r₂,hr₂,_⟩:=Kp m r' hm hr';rw [A.foot m hm] at h2;rcases (hnew r hr).2 b h1 with h | h | h
  ·exact absurd ((S.roots m r₂ hr₂).lt h2) (by omega)
  ·obtain ⟨⟨r₃,hr₃⟩,h⟩:=h;exact S.apart m n _ _ hr₂ hr₃ hm b ⟨h2,h⟩
  ·exact (S.fresh m r₂ hr₂ b h2).2 h.1
 have pin:∀ s,env.pin=some s->∀ bx d sh,σ'.root 4=some (.data bx d sh)->γ' 4=s:=by
  intro b hb bx d sh hr;by_cases hn:n=4
  ·subst hn;obtain ⟨e,bx',d',sh',hr'⟩:=hpin rfl bx d sh hr;rw [e];exact S.pin b hb bx' d' sh' hr'
  ·obtain ⟨r,hr₁,hr₂⟩:=Kp 4 _ (fun e=>hn e.symm) hr;rw [A.src 4 fun e=>hn e.symm];cases r with
   |data b' d' sh' =>
    exact S.pin b hb b' d' sh' hr₁
   |held s=>cases hr₂
 refine ⟨S.defers,S.size,S.kept.trans A.kept ?_,?_,?_,?_,hown,fun b hb=>Nat.lt_of_lt_of_le (S.old b (hsub b hb)) A.kept.size,?_,pin⟩
 ·rintro k hk ⟨⟨r,hr⟩,hf⟩;rcases (S.fresh n r hr k hf).1 with h | h
  ·omega
  ·exact h
 ·intro m r' hr';by_cases hm:m=n
  ·subst hm;exact (hnew r' hr').1
  ·obtain ⟨r,hr,rfl⟩:=Kp m r' hm hr';refine RootOk.away S A hm hr fun b hb=>(hown b).2 (.inr ⟨m,_,hr',?_⟩)
   rw [A.foot m hm];exact hb
 ·intro m k r r' hr hr' hmk b hh;by_cases hm:m=n
  ·subst hm;exact sep k r r' (fun e=>hmk e.symm) hr hr' b hh
  ·by_cases hk:k=n
   ·subst hk;exact sep m r' r hm hr' hr b ⟨hh.2,hh.1⟩
   ·obtain ⟨r₁,hr₁,_⟩:=Kp m r hm hr;obtain ⟨r₂,hr₂,_⟩:=Kp k r' hk hr';rw [A.foot m hm,A.foot k hk] at hh;exact S.apart m k _ _ hr₁ hr₂ hmk b hh
 ·intro m r hr b hb;by_cases hm:m=n
  ·subst hm;rcases (hnew r hr).2 b hb with h | h | h
   ·exact ⟨.inl (Nat.le_trans S.kept.size h),fun ho=>absurd (S.old b (hsub b ho)) (by omega)⟩
   ·obtain ⟨⟨r₃,hr₃⟩,h⟩:=h;have:=S.fresh m r₃ hr₃ b h;exact ⟨this.1,fun ho=>this.2 (hsub b ho)⟩
   ·exact ⟨h.2.2,h.2.1⟩
  ·obtain ⟨r₁,hr₁,_⟩:=Kp m r hm hr;rw [A.foot m hm] at hb;have:=S.fresh m r₁ hr₁ b hb;exact ⟨this.1,fun ho=>this.2 (hsub b ho)⟩
 ·intro i;rw [hslots i];exact (S.slots i).away' S A
theorem Ee (o:Oper):AD o≠4:=by
 unfold AD;cases o.dst with
 |none=>exact (by decide:(7:Nat)≠4)
 |some d=>
  intro h;have h':(d:Nat)*8=(4:Nat):=h;clear h;have:∀ n:Nat,n*8≠4:=fun n=>by omega
  exact this d h'
theorem Sim.lay' (S:Sim P env w₀ O₁ W σ γ φ O a w) (hk:AF (σ.foot φ n) w w') (hsub:∀ b,O₀ b->O₁ b) {r:AV} {src:Src} {F:Ab}
  (hF:∀ b,F b->w.heap.size<=b\/σ.foot φ n b\/(O₁ b/\¬O₀ b/\(w₀.heap.size<=b\/W b)))
  (hroot:∀ (O':Ab) (γ':Name->Src) (φ':Name->Ab),Iu w w' O O' σ (σ.lay n r) γ γ' φ φ' n->γ' n=src->(∀ b,F b->O' b)->(∀ b,O' b->(O b/\¬σ.foot φ n b)\/F b)->RootOk P w' O' (σ.lay n r) γ' r src F) (hpin:n=4->∀ bx d sh,r = .data bx d sh->src=γ n/\∃ bx' d' sh',σ.root n=some (.data bx' d' sh'):=by first | exact fun e=>absurd e (Ee _) | (intro _ _ _ _ h;cases h;done)) :
  ∃ γ' φ' O',Sim P env w₀ O₀ W (σ.lay n r) γ' φ' O' a w' /\Iu w w' O O' σ (σ.lay n r) γ γ' φ φ' n/\γ' n=src/\φ' n=F:=by
 let γ':Name->Src:=fun m=>if m=n then src else γ m
 let φ':Name->Ab:=fun m=>if m=n then F else φ m
 let O':Ab:=fun b=>O₀ b\/∃ m r',(σ.lay n r).root m=some r' /\φ' m b
 have hγ:γ' n=src:=by simp [γ']
 have hφ:φ' n=F:=by simp [φ']
 have hn:(σ.lay n r).root n=some r:=by rw [St.root_lay,if_pos rfl]
 have A:Iu w w' O O' σ (σ.lay n r) γ γ' φ φ' n:=by
  refine ⟨hk,?_,fun m hm=>by rw [St.root_lay,if_neg hm],fun m hm=>by simp [γ',hm],fun m hm=>by simp [φ',hm]⟩;rintro b hb hO (h | ⟨m,r',hr',hf⟩)
  ·exact hO ((S.own b).2 (.inl (hsub b h)))
  ·by_cases hm:m=n
   ·subst hm;rw [hφ] at hf;rcases hF b hf with h | h | h
    ·omega
    ·exact hO (Gs S h)
    ·exact hO ((S.own b).2 (.inl h.1))
   ·rw [St.root_lay,if_neg hm] at hr';have e:φ' m=φ m:=by simp [φ',hm]
    rw [e] at hf;cases hs:σ.root m with
    |none=>rw [hs] at hr';cases hr'
    |some r₂=>exact hO ((S.own b).2 (.inr ⟨m,r₂,hs,hf⟩))
 refine ⟨γ',φ',O',S.change A hsub (fun b=>Iff.rfl) ?_ (fun i=>St.slot_lay σ n r i) (fun e bx d sh h=>by
  obtain ⟨h1,h2⟩:=hpin e bx d sh (by rw [St.root_lay,if_pos rfl] at h;injection h);exact ⟨hγ.trans h1,h2⟩),A,hγ,hφ⟩
 intro r' hr';rw [hn] at hr';injection hr' with hr'
 subst hr';rw [hγ,hφ];refine ⟨hroot O' γ' φ' A hγ (fun b hb=>.inr ⟨n,r,hn,by rw [hφ];exact hb⟩) ?_,hF⟩;rintro b (h | ⟨m,r',hr',hf⟩)
 ·exact .inl ⟨(S.own b).2 (.inl (hsub b h)),fun ⟨⟨r₂,hr₂⟩,hf⟩=>(S.fresh n r₂ hr₂ b hf).2 (hsub b h)⟩
 ·by_cases hm:m=n
  ·subst hm;rw [hφ] at hf;exact .inr hf
  ·rw [St.root_lay,if_neg hm] at hr';have e:φ' m=φ m:=by simp [φ',hm]
   rw [e] at hf;cases hs:σ.root m with
   |none=>rw [hs] at hr';cases hr'
   |some r₂=>exact .inl ⟨(S.own b).2 (.inr ⟨m,r₂,hs,hf⟩),fun ⟨⟨r₃,hr₃⟩,hf'⟩=>S.apart m n _ _ hs hr₃ hm b ⟨hf,hf'⟩⟩
theorem Sim.lay (S:Sim P env w₀ O₁ W σ γ φ O a w) (hk:AF (σ.foot φ n) w w') (hsub:∀ b,O₀ b->O₁ b) {r:AV} {src:Src} {F:Ab}
  (hF:∀ b,F b->w.heap.size<=b\/σ.foot φ n b\/(O₁ b/\¬O₀ b/\(w₀.heap.size<=b\/W b)))
  (hroot:∀ (O':Ab) (γ':Name->Src) (φ':Name->Ab),Iu w w' O O' σ (σ.lay n r) γ γ' φ φ' n->γ' n=src->(∀ b,F b->O' b)->RootOk P w' O' (σ.lay n r) γ' r src F) (hpin:n=4->∀ bx d sh,r = .data bx d sh->src=γ n/\∃ bx' d' sh',σ.root n=some (.data bx' d' sh'):=by first | exact fun e=>absurd e (Ee _) | (intro _ _ _ _ h;cases h;done)) :
  ∃ γ' φ' O',Sim P env w₀ O₀ W (σ.lay n r) γ' φ' O' a w' /\Iu w w' O O' σ (σ.lay n r) γ γ' φ φ' n/\γ' n=src/\φ' n=F:=
 S.lay' hk hsub hF (fun O' γ' φ' A hg hO _=>hroot O' γ' φ' A hg hO) hpin
theorem Sim.drop (S:Sim P env w₀ O₀ W σ γ φ O a w) {r:AV} (hr:σ.root n=some r) :
  Sim P env w₀ (fun b=>O₀ b\/φ n b) W (σ.drop n) γ φ O a w:=by
 have A:Iu w w O O σ (σ.drop n) γ γ φ φ n:=
  ⟨AF.refl _ _,fun _ _ h=>h,fun m hm=>by rw [St.root_drop,if_neg hm],fun _ _=>rfl,fun _ _=>rfl⟩
 have hn:(σ.drop n).root n=none:=by rw [St.root_drop,if_pos rfl]
 have Kp:∀ m r',(σ.drop n).root m=some r' ->m≠n/\∃ r,σ.root m=some r/\r'=r.kill n:=by
  intro m r' hr';have hm:m≠n:=by rintro rfl;rw [hn] at hr';cases hr'
  rw [A.root m hm] at hr';cases hs:σ.root m with
  |none=>rw [hs] at hr';cases hr'
  |some r=>rw [hs] at hr';injection hr' with hr';exact ⟨hm,r,rfl,hr'.symm⟩
 refine ⟨S.defers,S.size,S.kept,?_,?_,?_,?_,?_,?_,fun b hb bx d sh h=>by
   obtain ⟨_,r,hr₁,hr₂⟩:=Kp 4 _ h;cases r with
   |data b' d' sh' =>
    exact S.pin b hb b' d' sh' hr₁
   |held s=>cases hr₂⟩
 ·intro m r' hr';obtain ⟨hm,r₁,hr₁,rfl⟩:=Kp m r' hr';exact RootOk.away S A hm hr₁ fun b hb=>(S.own b).2 (.inr ⟨m,r₁,hr₁,hb⟩)
 ·intro m k r₁ r₂ h1 h2 hmk;obtain ⟨_,q1,hq1,_⟩:=Kp m r₁ h1;obtain ⟨_,q2,hq2,_⟩:=Kp k r₂ h2;exact S.apart m k _ _ hq1 hq2 hmk
 ·intro m r₁ h1 b hb;obtain ⟨hm,q1,hq1,_⟩:=Kp m r₁ h1;have:=S.fresh m q1 hq1 b hb;refine ⟨this.1,?_⟩;rintro (h | h)
  ·exact this.2 h
  ·exact S.apart m n _ _ hq1 hr hm b ⟨hb,h⟩
 ·intro b;rw [S.own b];constructor
  ·rintro (h | ⟨m,r₁,h1,h2⟩)
   ·exact .inl (.inl h)
   ·by_cases hm:m=n
    ·subst hm;exact .inl (.inr h2)
    ·exact .inr ⟨m,r₁.kill n,by rw [A.root m hm,h1];rfl,h2⟩
  ·rintro ((h | h) | ⟨m,r₁,h1,h2⟩)
   ·exact .inl h
   ·exact .inr ⟨n,r,hr,h⟩
   ·obtain ⟨hm,q1,hq1,_⟩:=Kp m r₁ h1;exact .inr ⟨m,q1,hq1,h2⟩
 ·rintro b (h | h)
  ·exact S.old b h
  ·exact (S.roots n r hr).lt h
 ·intro i;rw [St.slot_drop];exact (S.slots i).away' S A
theorem Sim.dropK (S:Sim P env w₀ O₀ W σ γ φ O a w) (K:AF (σ.foot φ n) w w'):∃ O',Sim P env w₀ O₀ W (σ.drop n) γ φ O' a w' :=by
 let O':Ab:=fun b=>O₀ b\/∃ m r',(σ.drop n).root m=some r' /\φ m b
 have hback:∀ m r',(σ.drop n).root m=some r' ->m≠n/\∃ r,σ.root m=some r:=by
  intro m r' h;rw [St.root_drop] at h;split at h
  ·cases h
  ·rename_i hm;refine ⟨hm,?_⟩;cases hs:σ.root m with
   |none=>rw [hs] at h;cases h
   |some r=>exact ⟨r,rfl⟩
 have A:Iu w w' O O' σ (σ.drop n) γ γ φ φ n:=
  ⟨K,fun b hb hO h=>by
   rcases h with h | ⟨m,r',h1,h2⟩
   ·exact hO ((S.own b).2 (.inl h))
   ·obtain ⟨_,r₂,h3⟩:=hback m r' h1;exact hO ((S.own b).2 (.inr ⟨m,r₂,h3,h2⟩)),fun m hm=>by rw [St.root_drop,if_neg hm],fun _ _=>rfl,fun _ _=>rfl⟩
 refine ⟨O',S.change A (fun _ h=>h) (fun b=>Iff.rfl) ?_ (St.slot_drop σ n) (fun _ bx d sh h=>by rw [St.root_drop,if_pos rfl] at h;cases h)⟩;intro r' h;rw [St.root_drop,if_pos rfl] at h;cases h
end Go.V
namespace Go.V
variable {α:Type}
variable {P:Program} {env:Bf} {w₀ w w':World} {O₀ O₁ W O O':Ab} {σ σ₀ σ':St} {γ γ':Name->Src} {φ φ':Name->Ab} {a a':Act} {n:Name}
def Iv (σ σ₀:St):Prop:=∀ m b d sh,σ.root m=some (.data b d sh)->σ₀.root m=some (.data b d sh)
theorem Iv.refl (σ:St):Iv σ σ:=fun _ _ _ _ h=>h
theorem Iv.drop (h:Iv σ σ₀) (n:Name):Iv (σ.drop n) σ₀:=by
 intro m b d sh hr;rw [St.root_drop] at hr;split at hr
 ·cases hr
 ·cases hs:σ.root m with
  |none=>rw [hs] at hr;cases hr
  |some r=>
   rw [hs] at hr;cases r with
   |held s=>injection hr with hr;cases hr
   |data b' d' sh' =>injection hr with hr;injection hr with e1 e2 e3;subst e1 e2 e3;exact h m _ _ _ hs
theorem Ty.whole_ownAll:∀ t:Ty,t.ownAll.whole=true
 |.int _ | .bool | .str | .unit=>rfl
 |.slice e=>Ty.whole_ownAll e
 |.pair a b=>by
  unfold Ty.ownAll;split
  ·rfl
  ·simp [Sh.whole,Ty.whole_ownAll a,Ty.whole_ownAll b]
theorem Rep.nilOwn {e:Ty}:Rep w O (.slice e) (Ty.slice e).ownAll ([]:List e.den) [.slice none 0 0] Ab.none:=.inl ⟨rfl,rfl,fun _ h=>h⟩
theorem Sim.congrO (S:Sim P env w₀ O₀ W σ γ φ O a w) (h:∀ b,O₁ b↔O₀ b):Sim P env w₀ O₁ W σ γ φ O a w:=by
 have:O₁=O₀:=funext fun b=>propext (h b)
 rw [this];exact S
theorem PI (S:Sim P env w₀ O₁ W σ γ φ O a w) (hl:Iv σ σ₀) {t:Ty} {s:Slot} {v:Value} (hs:Ak P w O σ₀ γ s v) {k:t.den->Sh->St->Option α} {r:α} (h:Hf σ t s k=some r) :
  ∃ x sh σ₁ cs F,k x sh σ₁=some r/\sh.whole=true/\C_ t v cs/\Rep w O t sh x cs F/\Sim P env w₀ (fun b=>O₁ b\/F b) W σ₁ γ φ O a w/\Iv σ₁ σ₀/\
   (∀ b,F b->¬O₁ b/\(w₀.heap.size<=b\/W b)):=by
 unfold Hf at h;split at h
 ·rename_i d;obtain ⟨e,hk⟩:=As h;subst e;cases hs with
  |pv _ _ cs hv hr=>exact ⟨d.x,.z,σ,cs,Ab.none,hk,rfl,hv,hr,S.congrO fun b=>by simp [Ab.none],hl,fun b hb=>hb.elim⟩
 ·cases t with
  |slice e=>
   cases hs with
   |nilS=>exact ⟨([]:List e.den),(Ty.slice e).ownAll,σ,[.slice none 0 0],Ab.none,h,Ty.whole_ownAll _,rfl,Rep.nilOwn,S.congrO fun b=>by simp [Ab.none],hl,fun b hb=>hb.elim⟩
  |int _=>cases h
  |bool=>cases h
  |str=>cases h
  |unit=>cases h
  |pair _ _=>cases h
 ·rename_i t' m;split at h
  ·rename_i d sh hr;split at h
   case h_2=>cases h
   case h_1 hwh=>
   obtain ⟨e,hk⟩:=As h;subst e;have hr₀:=hl m false d sh hr;cases hs with
   |ref _ _ v src hp hlv=>
    have hL:Da σ₀ ⟨m,[]⟩:=⟨false,d,sh,d,hr₀,rfl,rfl⟩;obtain ⟨cs,hcs,hv⟩:=hlv hL;obtain ⟨b',d₂,sh₂,hr₂,_,hg⟩:=hp;rw [hr₀] at hr₂;injection hr₂ with hr₂
    injection hr₂ with e1 e2 e3
    subst e2;have:=hg hL;simp only [goto] at this;injection this with this
    injection this with e1 e2
    subst e1;obtain ⟨cs',hsrc,hrep⟩:=S.roots m _ hr;rw [<-e2,hsrc] at hcs;simp only [Al] at hcs;injection hcs with hcs
    subst hcs;exact ⟨d.x,sh,_,_,φ m,hk,hwh,hv,hrep,S.drop hr,hl.drop m,fun b hb=>⟨(S.fresh m _ hr b hb).2,(S.fresh m _ hr b hb).1⟩⟩
  ·cases h
 ·cases h
theorem AF.alloc (w:World) (o:Obj):AF Ab.none w {w with heap:=w.heap.push o}:=
 ⟨rfl,rfl,rfl,by simp,fun k hk _=>by simp [Array.getElem?_push,Nat.ne_of_lt hk]⟩
theorem cI {t:Ty} {x:t.den} {sh:Sh} {cs:List Value} {F:Ab} (tid:TypeId) (h:Rep w O t sh x cs F)
  {O':Ab} {σ':St} {γ':Name->Src} (hfree:∀ b,b<w.heap.size->¬O b->¬O' b) (hO':∀ b,F b\/b=w.heap.size->O' b) :
  RootOk P {w with heap:=w.heap.push (.cells cs.toArray tid)} O' σ' γ' (.data true ⟨t,x⟩ sh) (.mem w.heap.size 0) (fun b=>b=w.heap.size\/F b):=by
 have K:=AF.alloc w (.cells cs.toArray tid);have hb:({w with heap:=w.heap.push (.cells cs.toArray tid)}:World).heap[w.heap.size]? = some (.cells cs.toArray tid (0,0)):=by simp
 refine ⟨w.heap.size,0,cs.toArray,tid,(0,0),cs,F,rfl,hb,?_,?_,?_,?_,hO' _ (.inr rfl),fun k=>Iff.rfl⟩
 ·intro i _;simp
 ·rw [Cc hb (by simp [h.len])];simp only [List.drop_zero];exact congrArg some (List.take_of_length_le (Nat.le_of_eq h.len))
 ·exact Rep.frame K.size (fun b hb _=>K.block b hb (fun h=>h)) (fun b hb=>K.block b (h.owned b hb).2 (fun h=>h)) hfree (fun b hb _=>hO' b (.inl hb)) h
 ·intro hf;exact absurd (h.owned _ hf).2 (by simp)
theorem C_.cells {t:Ty} {v:Value} {cs:List Value} (h:C_ t v cs) (hv:t.agg=false->∀ c,v≠.agg c):v.cells=cs.toArray:=by
 cases ha:t.agg with
 |true=>rw [h.many ha];rfl
 |false=>
  rw [h.one ha];have:=hv ha;cases v<;>first | rfl | exact (this _ rfl).elim
theorem Rep.notAgg {t:Ty} {sh:Sh} {x:t.den} {v:Value} {cs:List Value} {F:Ab} (h:Rep w O t sh x cs F) (hw:sh≠.gone) (hv:C_ t v cs) (ha:t.agg=false):∀ c,v≠.agg c:=by
 have hc:=hv.one ha;intro c e;subst e;subst hc;cases t with
 |int k=>have:=h.1;injection this with this;cases this
 |bool=>have:=h.1;injection this with this;cases this
 |str=>have:=h.1;injection this with this;cases this
 |unit=>simp [Ty.agg] at ha
 |pair a b=>simp [Ty.agg] at ha
 |slice e=>
  cases sh with
  |own s=>rcases h with ⟨h,_⟩ | ⟨b,off,cap,C,tid,fr,F',h,_⟩<;>(injection h with h;cases h)
  |gone=>exact hw rfl
  |z=>obtain ⟨_,a,cap,h,_⟩:=h;injection h with h;cases h
  |pr a b=>obtain ⟨_,a,cap,h,_⟩:=h;injection h with h;cases h
theorem aJ (S:Sim P env w₀ O₁ W σ γ φ O a w) (hsub:∀ b,O₀ b->O₁ b) (n:Name) (tid:TypeId) {t:Ty} {x:t.den} {sh:Sh} {cs:List Value} {F:Ab} (h:Rep w O t sh x cs F)
  (hF:∀ b,F b->O₁ b/\¬O₀ b/\(w₀.heap.size<=b\/W b)) (hn:n≠4) :
  ∃ γ' φ' O',Sim P env w₀ O₀ W (σ.lay n (.data true ⟨t,x⟩ sh)) γ' φ' O' a {w with heap:=w.heap.push (.cells cs.toArray tid)}/\
   Ak P {w with heap:=w.heap.push (.cells cs.toArray tid)} O' (σ.lay n (.data true ⟨t,x⟩ sh)) γ' (.ptr ⟨n,[]⟩) (.pointer (some ⟨w.heap.size,0,none⟩)):=by
 obtain ⟨γ',φ',O',S',A,hγ,hφ⟩:=S.lay (n:=n) (O₀:=O₀) (r:=.data true ⟨t,x⟩ sh) (src:=.mem w.heap.size 0) (F:=fun b=>b=w.heap.size\/F b)
  ((AF.alloc w (.cells cs.toArray tid)).mono fun _ _ h=>h.elim) hsub
  (by
   rintro b (rfl | hb)
   ·exact .inl (Nat.le_refl _)
   ·exact .inr (.inr (hF b hb)))
  (fun O' γ' φ' A hγ hO=>cI tid h A.free fun b hb=>hO b hb.symm) (fun e=>(hn e).elim)
 refine ⟨γ',φ',O',S',.ptr ⟨n,[]⟩ t w.heap.size 0 ⟨true,⟨t,x⟩,sh,by rw [St.root_lay,if_pos rfl],rfl,fun _=>?_⟩⟩;simp only [goto];rw [hγ]
theorem WN (S:Sim P env w₀ O₀ W σ γ φ O a w) (n:Name) (tid:TypeId) {s:Slot} {v:Value} (h:Ak P w O σ γ s v) :
  ∃ γ' φ' O',Sim P env w₀ O₀ W (σ.lay n (.held (s.kill n))) γ' φ' O' a {w with heap:=w.heap.push (.cells #[v] tid)}/\
   Ak P {w with heap:=w.heap.push (.cells #[v] tid)} O' (σ.lay n (.held (s.kill n))) γ' (.ptr ⟨n,[]⟩) (.pointer (some ⟨w.heap.size,0,none⟩)):=by
 have hb:({w with heap:=w.heap.push (.cells #[v] tid)}:World).heap[w.heap.size]? = some (.cells #[v] tid (0,0)):=by simp
 obtain ⟨γ',φ',O',S',A,hγ,hφ⟩:=S.lay (n:=n) (O₀:=O₀) (r:=.held (s.kill n)) (src:=.mem w.heap.size 0) (F:=fun b=>b=w.heap.size)
  ((AF.alloc w (.cells #[v] tid)).mono fun _ _ h=>h.elim) (fun _ h=>h)
  (by rintro b rfl;exact .inl (Nat.le_refl _))
  (fun O' γ' φ' A hγ hO=>⟨w.heap.size,0,#[v],tid,(0,0),v,rfl,hb,by intro i _;simp,rfl,h.away' S A,hO _ rfl,fun k=>Iff.rfl⟩)
 exact ⟨γ',φ',O',S',.ptrH n (s.kill n) w.heap.size 0 (by rw [St.root_lay,if_pos rfl]) hγ⟩
def HM (P:Program) (env:Bf) (w₀:World) (O₀ W:Ab) (a:Act) (w:World) (m:Sem Next) (k:Slot->St->Option α) (r:α):Prop:=
 ∃ s v σ' γ' φ' O' w',(m.run P w = .ok (.value v) w' \/(m.run P w = .ok .skip w' /\v=undef))/\Sim P env w₀ O₀ W σ' γ' φ' O' a w' /\Ak P w' O' σ' γ' s v/\k s σ'=some r
theorem Hk (w:World) (t:TypeId) (v:Value):(newVar t v).run P w = .ok ⟨w.heap.size,0,none⟩ {w with heap:=w.heap.push (.cells v.cells t)}:=by
 simp [newVar,newRow]
theorem Zh {P:Program} {env:Bf} (hty:env.TyOk P) {t:TypeId} (h:env.one t=true):∃ f,P.info? t=some f/\f.size=1/\∃ z,f.zero=some z/\∀ cs,z≠.agg cs:=(hty.2 t h).2
theorem eV (S:Sim P env w₀ O₀ W σ γ φ O a w) (hty:env.TyOk P) {o:Oper} {t:TypeId} (ho:o.op = .alloc t) {k:Slot->St->Option α} {r:α} (h:Cj env σ o k=some r) :
  HM P env w₀ O₀ W a w (execOp a.eval o) k r:=by
 unfold Cj at h;rw [ho] at h;dsimp only at h;have hex:execOp a.eval o=(do pure (.value (<-Instr.alloc t true (.tuple #[])))):=by unfold execOp;rw [ho]
 rw [hex];split at h
 ·rename_i t' ht;obtain ⟨f,hf,hfs,hfb,z,cs,hz,hval,hrep⟩:=(hty.1 _ _ ht).2.2.2;have hr:=hrep w O;obtain ⟨γ',φ',O',S',hs⟩:=aJ S (fun _ h=>h) (AD o) t hr (fun b hb=>hb.elim) (Ee o);refine ⟨_,_,_,γ',φ',O',_,.inl ?_,S',hs,h⟩;have hne:t'.ownAll≠.gone:=by cases t'<;>simp [Ty.ownAll];split<;>simp
  simp only [Instr.alloc,zeroValue,typeInfo,Sem.run_bind,run_program,Result.andThen_ok,hf,Sem.run_pure,hz,Hk,hval.cells (fun ha=>hr.notAgg hne hval ha)]
 ·split at h
  ·rename_i hone;obtain ⟨f,hf,hfs,z,hz,hza⟩:=Zh hty hone;obtain ⟨γ',φ',O',S',hs⟩:=WN S (AD o) t (s:=.undef) (v:=z) (.undef _);refine ⟨_,_,_,γ',φ',O',_,.inl ?_,S',hs,h⟩;have hzc:z.cells = #[z]:=by cases z<;>first | rfl | exact (hza _ rfl).elim
   simp only [Instr.alloc,zeroValue,typeInfo,Sem.run_bind,run_program,Result.andThen_ok,hf,Sem.run_pure,hz,Hk,hzc]
  ·cases h
end Go.V
namespace Go.V
variable {α:Type}
variable {P:Program} {env:Bf} {w₀ w w':World} {O₀ O₁ W O O':Ab} {σ σ₀ σ':St} {γ γ':Name->Src} {φ φ':Name->Ab} {a a':Act} {n:Name}
theorem Iw (h:∀ b,b<w.heap.size->w'.heap[b]? = w.heap[b]?):∀ (p:Bi) {t:Ty} {s:Src} {r:Ty×Src},goto w p t s=some r->goto w' p t s=some r
 |[],t,s,r,hg=>hg
 |.l::p,t,s,r,hg=>by cases t<;>simp only [goto] at hg ⊢ <;> first | exact Iw h p hg | cases hg
 |.r::p,t,s,r,hg=>by cases t<;>simp only [goto] at hg ⊢ <;> first | exact Iw h p hg | cases hg
 |.at n::p,t,s,r,hg=>by
  cases t<;>simp only [goto] at hg ⊢ <;> try (cases hg;done)
  split at hg
  ·rename_i hc
   have:Al w' 1 s=Al w 1 s:=by
    apply Ci;intro b hb;cases s with
    |val cs=>exact hb.elim
    |mem sb so=>
     have hb':b=sb:=hb;subst hb';obtain ⟨C,tid,fr,hh,_⟩:=Bs hc;exact h _ (Array.getElem?_eq_some_iff.1 hh).1
   rw [this,hc];exact Iw h p hg
  ·cases hg
theorem Do (h:∀ b,b<w.heap.size->w'.heap[b]? = w.heap[b]?) {n:Nat} {s:Src} {cs:List Value} (hc:Al w n s=some cs):Al w' n s=some cs:=by
 cases s with
 |val c=>exact hc
 |mem sb so=>
  obtain ⟨C,tid,fr,hh,_⟩:=Bs hc;rw [Ci (w:=w)]
  ·exact hc
  ·rintro b rfl;exact h _ (Array.getElem?_eq_some_iff.1 hh).1
theorem Ak.grow (K:AF Ab.none w w') {s:Slot} {v:Value} (hs:Ak P w O σ γ s v):Ak P w' O σ γ s v:=by
 have hb:∀ b,b<w.heap.size->w'.heap[b]? = w.heap[b]?:=fun b hb=>K.block b hb fun h=>h
 have frame:∀ {t:Ty} {x:t.den} {cs:List Value},Rep w O t .z x cs Ab.none->Rep w' O t .z x cs Ab.none:=fun hr=>
  Rep.frame K.size (fun b h _=>hb b h) (fun _ h=>h.elim) (fun _ _ h=>h) (fun _ h=>h.elim) hr
 have hP:∀ {p t src},Bz w σ γ p t src->Bz w' σ γ p t src:=by
  rintro p t src ⟨b,d,sh,hr,ht,hg⟩;exact ⟨b,d,sh,hr,ht,fun hl=>Iw hb _ (hg hl)⟩
 induction hs with
 |undef v=>exact .undef v
 |pv d v cs hv hr=>exact .pv d v cs hv (frame hr)
 |ref t p v src hp hl=>exact .ref t p v src (hP hp) fun h=>let ⟨cs,h1,h2⟩:=hl h;⟨cs,Do hb h1,h2⟩
 |vw e p lo hi src an k c hp hl h1 h2=>exact .vw e p lo hi src an k c (hP hp) (fun h=>Do hb (hl h)) h1 h2
 |ptr p t b off hp=>exact .ptr p t b off (hP hp)
 |ptrH m s b off hr hs=>exact .ptrH m s b off hr hs
 |fptr d b off cs h1 h2 h3 h4=>
  refine .fptr d b off cs (Nat.lt_of_lt_of_le h1 K.size) h2 (frame h3) fun k hk=>?_
  rw [<-h4 k hk];simp only [World.cell?,hb b h1]
 |clo f caps vs hl hall ih=>exact .clo f caps vs hl ih
 |fnA a b φ v w₀' O₀' hf hk ho hfn=>exact .fnA a b φ v w₀' O₀' hf (hk.trans K fun _ _ h=>h.elim) ho hfn
 |tup l vs hl hall ih=>exact .tup l vs hl ih
 |nilS=>exact .nilS
 |may e b h=>exact .may e b h
theorem Sim.grow (S:Sim P env w₀ O₀ W σ γ φ O a w) (K:AF Ab.none w w'):Sim P env w₀ O₀ W σ γ φ O a w' :=by
 have hb:∀ b,b<w.heap.size->w'.heap[b]? = w.heap[b]?:=fun b hb=>K.block b hb fun h=>h
 have fr:∀ {t:Ty} {sh:Sh} {x:t.den} {cs:List Value} {F:Ab},Rep w O t sh x cs F->Rep w' O t sh x cs F:=fun h=>
  Rep.frame K.size (fun b hlt _=>hb b hlt) (fun b hf=>hb b (h.owned b hf).2) (fun _ _ h=>h) (fun _ _ h=>h) h
 refine ⟨S.defers,S.size,S.kept.trans K fun _ _ h=>h.elim,?_,S.apart,S.fresh,S.own,fun b h=>Nat.lt_of_lt_of_le (S.old b h) K.size,fun i=>(S.slots i).grow K,S.pin⟩;intro m r hr;have R:=S.roots m r hr;cases r with
 |data bx d sh=>
  cases bx with
  |true=>
   obtain ⟨b,off,C,tid,fr',cs,F',hsrc,hb',hfz,hcs,hrep,hF',hOb,hU⟩:=R;exact ⟨b,off,C,tid,fr',cs,F',hsrc,(hb b (Array.getElem?_eq_some_iff.1 hb').1).trans hb',hfz,Do hb hcs,fr hrep,hF',hOb,hU⟩
  |false=>
   obtain ⟨cs,hsrc,hrep⟩:=R;exact ⟨cs,hsrc,fr hrep⟩
 |held s=>
  obtain ⟨b,off,C,tid,fr',v,hsrc,hb',hfz,hC,hs,hOb,hU⟩:=R;exact ⟨b,off,C,tid,fr',v,hsrc,(hb b (Array.getElem?_eq_some_iff.1 hb').1).trans hb',hfz,hC,hs.grow K,hOb,hU⟩
theorem Ak.gain (K:AF Ab.none w w') (hO:∀ b,b<w.heap.size->¬O b->¬O' b) {s:Slot} {v:Value} (hs:Ak P w O σ γ s v):Ak P w' O' σ γ s v:=by
 have hb:∀ b,b<w.heap.size->w'.heap[b]? = w.heap[b]?:=fun b hb=>K.block b hb fun h=>h
 have frame:∀ {t:Ty} {x:t.den} {cs:List Value},Rep w O t .z x cs Ab.none->Rep w' O' t .z x cs Ab.none:=fun hr=>
  Rep.frame K.size (fun b h _=>hb b h) (fun _ h=>h.elim) hO (fun _ h=>h.elim) hr
 have hP:∀ {p t src},Bz w σ γ p t src->Bz w' σ γ p t src:=by
  rintro p t src ⟨b,d,sh,hr,ht,hg⟩;exact ⟨b,d,sh,hr,ht,fun hl=>Iw hb _ (hg hl)⟩
 induction hs with
 |undef v=>exact .undef v
 |pv d v cs hv hr=>exact .pv d v cs hv (frame hr)
 |ref t p v src hp hl=>exact .ref t p v src (hP hp) fun h=>let ⟨cs,h1,h2⟩:=hl h;⟨cs,Do hb h1,h2⟩
 |vw e p lo hi src an k c hp hl h1 h2=>exact .vw e p lo hi src an k c (hP hp) (fun h=>Do hb (hl h)) h1 h2
 |ptr p t b off hp=>exact .ptr p t b off (hP hp)
 |ptrH m s b off hr hs=>exact .ptrH m s b off hr hs
 |fptr d b off cs h1 h2 h3 h4=>
  refine .fptr d b off cs (Nat.lt_of_lt_of_le h1 K.size) (hO b h1 h2) (frame h3) fun k hk=>?_
  rw [<-h4 k hk];simp only [World.cell?,hb b h1]
 |clo f caps vs hl hall ih=>exact .clo f caps vs hl ih
 |fnA a b φ v w₀' O₀' hf hk ho hfn=>
  refine .fnA a b φ v w₀' O₀' hf (hk.trans K fun _ _ h=>h.elim) (fun c hc hc' =>?_) hfn;by_cases h:O c
  ·exact ho c hc h
  ·exact (hO c (Nat.lt_of_lt_of_le hc hk.size) h hc').elim
 |tup l vs hl hall ih=>exact .tup l vs hl ih
 |nilS=>exact .nilS
 |may e b h=>exact .may e b h
theorem Sim.gain (S:Sim P env w₀ O₀ W σ γ φ O a w) (K:AF Ab.none w w') {G:Ab} (hG:∀ b,G b->w.heap.size<=b/\b<w'.heap.size) :
  Sim P env w₀ (fun b=>O₀ b\/G b) W σ γ φ (fun b=>O b\/G b) a w' :=by
 have hb:∀ b,b<w.heap.size->w'.heap[b]? = w.heap[b]?:=fun b hb=>K.block b hb fun h=>h
 have hO:∀ b,b<w.heap.size->¬O b->¬(O b\/G b):=fun b hlt h h' =>h'.elim h fun hg=>by have:=(hG b hg).1;omega
 have fr:∀ {t:Ty} {sh:Sh} {x:t.den} {cs:List Value} {F:Ab},Rep w O t sh x cs F->Rep w' (fun b=>O b\/G b) t sh x cs F:=fun h=>
  Rep.frame K.size (fun b hlt _=>hb b hlt) (fun b hf=>hb b (h.owned b hf).2) hO (fun _ _ h=>.inl h) h
 refine ⟨S.defers,S.size,S.kept.trans K fun _ _ h=>h.elim,?_,S.apart,?_,?_,?_,fun i=>(S.slots i).gain K hO,S.pin⟩
 ·intro m r hr;have R:=S.roots m r hr;cases r with
  |data bx d sh=>
   cases bx with
   |true=>
    obtain ⟨b,off,C,tid,fr',cs,F',hsrc,hb',hfz,hcs,hrep,hF',hOb,hU⟩:=R;exact ⟨b,off,C,tid,fr',cs,F',hsrc,(hb b (Array.getElem?_eq_some_iff.1 hb').1).trans hb',hfz,Do hb hcs,fr hrep,hF',.inl hOb,hU⟩
   |false=>
    obtain ⟨cs,hsrc,hrep⟩:=R;exact ⟨cs,hsrc,fr hrep⟩
  |held s=>
   obtain ⟨b,off,C,tid,fr',v,hsrc,hb',hfz,hC,hs,hOb,hU⟩:=R;exact ⟨b,off,C,tid,fr',v,hsrc,(hb b (Array.getElem?_eq_some_iff.1 hb').1).trans hb',hfz,hC,hs.gain K hO,.inl hOb,hU⟩
 ·intro n r hr b hf;obtain ⟨h1,h2⟩:=S.fresh n r hr b hf;refine ⟨h1,fun h=>h.elim h2 fun hg=>?_⟩;have hlt:=(S.roots n r hr).lt hf;have:=(hG b hg).1;omega
 ·intro b;constructor
  ·rintro (h | h)
   ·exact ((S.own b).1 h).imp .inl id
   ·exact .inl (.inr h)
  ·rintro ((h | h) | h)
   ·exact .inl ((S.own b).2 (.inl h))
   ·exact .inr h
   ·exact .inl ((S.own b).2 (.inr h))
 ·rintro b (h | h)
  ·exact Nat.lt_of_lt_of_le (S.old b h) K.size
  ·exact (hG b h).2
def Ll (w:World) (O:Ab) (t:Ty) (x:t.den) (v:Value):Prop:=
 ∃ b off cs,v = .pointer (some ⟨b,off,none⟩)/\b<w.heap.size/\¬O b/\Rep w O t .z x cs Ab.none/\∀ k,k<cs.length->w.cell? ⟨b,off+k,none⟩=cs[k]?
def EC (w:World) (O:Ab):(ts:List Ty)->CB ts->List Value->Prop
 |[],_,vs=>vs=[]
 |t::ts,x,vs=>∃ v vs',vs=v::vs' /\Ll w O t x.1 v/\EC w O ts x.2 vs'
def AT (P:Program) (w:World) (O:Ab):(ps:List PM)->Args ps->List Value->Prop
 |[],_,vs=>vs=[]
 |.ro t::ps,az,vs=>∃ v vs' cs,vs=v::vs' /\C_ t v cs/\Rep w O t .z az.1 cs Ab.none/\AT P w O ps az.2 vs'
 |.rp t::ps,az,vs=>∃ v vs',vs=v::vs' /\Ll w O t az.1 v/\AT P w O ps az.2 vs'
 |.fn a b::ps,az,vs=>∃ v vs',vs=v::vs' /\b.flat=true/\FnOk P w O a b az.1 v/\AT P w O ps az.2 vs'
 |.st f ts::ps,az,vs=>∃ cv vs',vs = .func (.func f) #[] (List.toArray cv)::vs' /\EC w O ts az.1 cv/\AT P w O ps az.2 vs'
 |.io _ _::_,_,_ | .tk _ _::_,_,_=>False
def Bc (w:World) (O:Ab):(rs:List (Ty×Sh))->(io:List Ty)->CB (rs.map (·.1)++io)->List Value->Prop
 |[],_,_,vs=>vs=[]
 |(t,_)::rs,io,r,vs=>∃ v vs' cs,vs=v::vs' /\C_ t v cs/\Rep w O t .z r.1 cs Ab.none/\Bc w O rs io r.2 vs'
def CY:List Value->Value
 |[v]=>v
 |vs=>.tuple vs.toArray
def Aa (P:Program) (f:FuncId) (fu:Av):Prop:=
 (∃ fn, P.funcs[f]? = some fn /\ fn.body.isSome = true /\ fn.name ≠ "runtime.NumGoroutine") /\
 ∀ (w:World) (O:Ab) (az:Args fu.ps) (vs:List Value) r,(∀ b,O b->b<w.heap.size)->AT P w O fu.ps az vs->fu.F az=some r->
  Calls P f vs.toArray w fun e w' =>∃ rv,e = .returned (CY rv)/\AF Ab.none w w' /\Bc w' O fu.rs (Bh fu.ps) r rv
def Zi (P:Program) (f:FuncId) (ps:List PM) (t:Ty) (sh:Sh) (rs:List (Ty×Sh)) (F:Args ps->Option (CB (((t,sh)::rs).map (·.1)++Bh ps))):Prop:=
  (∃ fn, P.funcs[f]? = some fn /\ fn.body.isSome = true /\ fn.name ≠ "runtime.NumGoroutine") /\
  ∀ (w:World) (O:Ab) (az:Args ps) (vs:List Value) r,(∀ b,O b->b<w.heap.size)->AT P w O ps az vs->F az=some r->
   Calls P f vs.toArray w fun e w' =>∃ v rv cs G,e = .returned (CY (v::rv))/\AF Ab.none w w' /\(∀ b,G b->w.heap.size<=b)/\C_ t v cs/\
    Rep w' (fun b=>O b\/G b) t sh r.1 cs G/\Bc w' (fun b=>O b\/G b) rs (Bh ps) r.2 rv
def IoAt (w:World) (O:Ab) (t:Ty) (b off:Nat) (x:t.den):Prop:=
 ∃ C tid fr cs,w.heap[b]? = some (.cells C tid fr)/\(∀ i,i<C.size->¬(fr.1<=i/\i<fr.2))/\Al w t.size (.mem b off)=some cs/\Rep w O t .z x cs Ab.none
def r9 (P:Program) (f:FuncId) (ps:List PM) (t:Ty) (rs:List (Ty×Sh)) (F:Args ps->Option (CB (((t,.gone)::rs).map (·.1)++Bh ps))):Prop:=
  (∃ fn, P.funcs[f]? = some fn /\ fn.body.isSome = true /\ fn.name ≠ "runtime.NumGoroutine") /\
  ∀ (w:World) (O:Ab) (az:Args ps) (vs:List Value) r,(∀ b,O b->b<w.heap.size)->AT P w O ps az vs->F az=some r->
   Calls P f vs.toArray w fun e w' =>∃ b off rv,e = .returned (CY (.pointer (some ⟨b,off,none⟩)::rv))/\AF Ab.none w w' /\w.heap.size<=b/\
    IoAt w' (fun c=>O c\/c=b) t b off r.1/\Bc w' (fun c=>O c\/c=b) rs (Bh ps) r.2 rv
def AO (P:Program) (f:FuncId):Av->Prop
 |⟨ps,(t,.gone)::rs,F⟩=>r9 P f ps t rs F
 |⟨ps,(t,sh)::rs,F⟩=>Zi P f ps t sh rs F
 |_=>False
theorem AO.of {P:Program} {f:FuncId} {ps:List PM} {t:Ty} {sh:Sh} {rs:List (Ty×Sh)} {F:Args ps->Option (CB (((t,sh)::rs).map (·.1)++Bh ps))} (hg:sh≠.gone) (h:Zi P f ps t sh rs F):AO P f ⟨ps,(t,sh)::rs,F⟩:=by
 cases sh with
 |gone=>exact absurd rfl hg
 |z=>exact h
 |pr a b=>exact h
 |own e=>exact h
theorem AO.get {P:Program} {f:FuncId} {ps:List PM} {t:Ty} {sh:Sh} {rs:List (Ty×Sh)} {F:Args ps->Option (CB (((t,sh)::rs).map (·.1)++Bh ps))} (hg:sh≠.gone) (h:AO P f ⟨ps,(t,sh)::rs,F⟩):Zi P f ps t sh rs F:=by
 cases sh with
 |gone=>exact absurd rfl hg
 |z=>exact h
 |pr a b=>exact h
 |own e=>exact h
def Ix (P:Program) (w:World):List Slot->List Value->Prop
 |[],[]=>True
 |s::ss,v::vs=>(∀ O σ γ,Ak P w O σ γ s v)/\Ix P w ss vs
 |_,_=>False
def NY (P:Program) (w:World) (O:Ab):List Slot->List Value->Prop
 |[],[]=>True
 |s::ss,v::vs=>(∀ σ γ,Ak P w O σ γ s v)/\NY P w O ss vs
 |_,_=>False
def nK (P:Program) (f:FuncId) (t:Ty) (sh:Sh) (ps:List PM) (rs:List (Ty×Sh)) (F:Args (.tk t sh::ps)->Option (CB (rs.map (·.1)++Bh (.tk t sh::ps)))):Prop:=
 (∃ fn, P.funcs[f]? = some fn /\ fn.body.isSome = true /\ fn.name ≠ "runtime.NumGoroutine") /\
 ∀ (w:World) (O:Ab) (x:t.den) (v:Value) (cs:List Value) (G:Ab) (az:Args ps) (vs:List Value) r,(∀ b,O b->b<w.heap.size)->C_ t v cs->Rep w O t sh x cs G->AT P w O ps az vs->F (x,az)=some r->
  Calls P f (v::vs).toArray w fun e' w' =>∃ rv,e' = .returned (CY rv)/\AF G w w' /\Ix P w' (CD rs (Bh ps) r) rv
def IoOk (P:Program) (f:FuncId):Av->Prop
 |⟨.io t .z::ps,rs,F⟩=>
  (∃ fn, P.funcs[f]? = some fn /\ fn.body.isSome = true /\ fn.name ≠ "runtime.NumGoroutine") /\
  ∀ (w:World) (O:Ab) (b off:Nat) (x:t.den) (az:Args ps) (vs:List Value) r,(∀ b,O b->b<w.heap.size)->O b->IoAt w O t b off x->AT P w O ps az vs->F (x,az)=some r->
   Calls P f (.pointer (some ⟨b,off,none⟩)::vs).toArray w fun e w' =>∃ rv,e = .returned (CY rv)/\AF (fun c=>c=b) w w' /\
    IoAt w' O t b off (BI rs t (Bh ps) r).2/\NY P w' O (BI rs t (Bh ps) r).1 rv
 |⟨.io (.slice e) (.own s)::ps,rs,F⟩=>
  (∃ fn, P.funcs[f]? = some fn /\ fn.body.isSome = true /\ fn.name ≠ "runtime.NumGoroutine") /\
  ∀ (w:World) (O:Ab) (x:(Ty.slice e).den) (v:Value) (G:Ab) (az:Args ps) (vs:List Value) r,(∀ b,O b->b<w.heap.size)->Rep w O (.slice e) (.own s) x [v] G->AT P w O ps az vs->F (x,az)=some r->
   Calls P f (v::vs).toArray w fun e' w' =>∃ rv G',e' = .returned (CY rv)/\AF G w w' /\(∀ b,G' b->G b\/w.heap.size<=b)/\
    Rep w' (fun b=>(O b/\¬G b)\/G' b) (.slice e) (.own s) (BI rs (.slice e) (Bh ps) r).2 [v] G' /\Ix P w' (BI rs (.slice e) (Bh ps) r).1 rv
 |⟨.tk t sh::ps,(.slice u,.own su)::rs,F⟩=>
  (∃ fn, P.funcs[f]? = some fn /\ fn.body.isSome = true /\ fn.name ≠ "runtime.NumGoroutine") /\
  ∀ (w:World) (O:Ab) (x:t.den) (v:Value) (cs:List Value) (G:Ab) (az:Args ps) (vs:List Value) r,(∀ b,O b->b<w.heap.size)->C_ t v cs->Rep w O t sh x cs G->AT P w O ps az vs->F (x,az)=some r->
   Calls P f (v::vs).toArray w fun e' w' =>∃ v' rv G',e' = .returned (CY (v'::rv))/\AF G w w' /\(∀ b,G' b->G b\/w.heap.size<=b)/\
    Rep w' (fun b=>(O b/\¬G b)\/G' b) (.slice u) (.own su) r.1 [v'] G' /\Ix P w' (CD rs (Bh ps) r.2) rv
 |⟨.tk t sh::ps,rs,F⟩=>nK P f t sh ps rs F
 |_=>False
def Tg (P:Program) (f:FuncId) (fu:Av):Prop:=
 ∀ (w:World) (az:Args fu.ps) (vs:List Value) r,AT P w Ab.none fu.ps az vs->fu.F az=some r->
  ∃ rv,(callFunc f vs.toArray).run P w = .ok (.value (CY rv)) w/\Bc w Ab.none fu.rs (Bh fu.ps) r rv
def Bf.FnOk (env:Bf) (P:Program):Prop:=(∀ f fu,env.fn f=some fu->(fu.quiet=true->Aa P f fu)/\(fu.quiet=false->fu.fresh=false->IoOk P f fu)/\(fu.fresh=true->AO P f fu))/\
 ∀ f fu,look env.ext f=some fu->Tg P f fu
theorem Sim.behind (S:Sim P env w₀ O₀ W σ γ φ O a w) {t:Ty} {s:Slot} {v:Value} (hs:Ak P w O σ γ s v) {k:t.den->Option α} {r:α} (h:By σ t s k=some r) :
  ∃ x,k x=some r/\Ll w O₀ t x v/\(s.lent=false->Ll w O t x v):=by
 unfold By at h;split at h
 ·rename_i p;obtain ⟨d',hk,hL,src,cs,sh,F,hp',hcs,hrep,hw,hz,hblk⟩:=S.place h;obtain ⟨e,hk⟩:=As hk;obtain ⟨dt,dx⟩:=d';dsimp only at e;subst e;refine ⟨dx,hk,?_,fun h=>by simp [Slot.lent] at h⟩;cases hs with
  |ptr _ t' b off hp=>
   obtain ⟨_,e2⟩:=hp' _ _ hp;subst e2;obtain ⟨C,tid,fr,hb,_⟩:=Bs hcs;exact ⟨b,off,cs,rfl,(Array.getElem?_eq_some_iff.1 hb).1,hblk b rfl,hz,JD hcs⟩
  |ptrH m s b off hr _=>obtain ⟨_,_,_,_,hr',_⟩:=hL;rw [hr] at hr';cases hr'
 ·rename_i d;obtain ⟨e,hk⟩:=As h;subst e;cases hs with
  |fptr _ b off cs h1 h2 h3 h4=>
   exact ⟨d.x,hk,⟨b,off,cs,rfl,h1,fun h=>h2 ((S.own b).2 (.inl h)),Rep.frame (Nat.le_refl _) (fun _ _ _=>rfl) (fun _ _=>rfl) (fun c _ hn ho=>hn ((S.own c).2 (.inl ho))) (fun _ h=>h.elim) h3,h4⟩,fun _=>⟨b,off,cs,rfl,h1,h2,h3,h4⟩⟩
 ·cases h
def CW (P:Program) (w:World) (O:Ab) (σ:St) (γ:Name->Src):List Slot->List Value->Prop
 |[],[]=>True
 |s::ss,v::vs=>Ak P w O σ γ s v/\CW P w O σ γ ss vs
 |_,_=>False
theorem PJ (S:Sim P env w₀ O₀ W σ γ φ O a w):∀ (ps:List PM) (ss:List Slot) (vs:List Value) {k:Args ps->Option α} {r:α},CW P w O σ γ ss vs->CC σ ps ss k=some r->
  ∃ az,k az=some r/\AT P w O₀ ps az vs/\(Slot.lentL ss=false->AT P w O ps az vs)
 |[],[],[],k,r,_,h=>⟨(),h,rfl,fun _=>rfl⟩
 |[],[],_::_,k,r,hB,h=>hB.elim
 |[],_::_,vs,k,r,hB,h=>by simp [CC] at h
 |.ro t::ps,s::ss,[],k,r,hB,h=>hB.elim
 |.rp t::ps,s::ss,[],k,r,hB,h=>hB.elim
 |.ro t::ps,[],vs,k,r,hB,h=>by simp [CC] at h
 |.rp t::ps,[],vs,k,r,hB,h=>by simp [CC] at h
 |.fn a b::ps,ss,vs,k,r,hB,h=>by cases ss<;>simp [CC] at h
 |.io a b::ps,ss,vs,k,r,hB,h=>by cases ss<;>simp [CC] at h
 |.tk a b::ps,ss,vs,k,r,hB,h=>by cases ss<;>simp [CC] at h
 |.ro t::ps,s::ss,v::vs,k,r,hB,h=>by
  unfold CC at h;obtain ⟨x,hk,cs,hv,hr,hl⟩:=S.content hB.1 h;obtain ⟨az,hk,h1,h2⟩:=PJ S ps ss vs hB.2 hk;refine ⟨(x,az),hk,⟨v,vs,cs,rfl,hv,hr,h1⟩,fun hn=>?_⟩;simp only [Slot.lentL,Bool.or_eq_false_iff] at hn;exact ⟨v,vs,cs,rfl,hv,hl hn.1,h2 hn.2⟩
 |.rp t::ps,s::ss,v::vs,k,r,hB,h=>by
  unfold CC at h;obtain ⟨x,hk,hp,hl⟩:=S.behind hB.1 h;obtain ⟨az,hk,h1,h2⟩:=PJ S ps ss vs hB.2 hk;refine ⟨(x,az),hk,⟨v,vs,rfl,hp,h1⟩,fun hn=>?_⟩;simp only [Slot.lentL,Bool.or_eq_false_iff] at hn;exact ⟨v,vs,rfl,hl hn.1,h2 hn.2⟩
theorem FnOk.move {a b:Ty} {φ:a.den->Option b.den} {v:Value} {w₁:World} {O₁ O₂:Ab} (h:FnOk P w₁ O₁ a b φ v) (K:AF O₁ w₁ w) (hO:∀ b,b<w₁.heap.size->O₂ b->O₁ b):FnOk P w O₂ a b φ v:=by
 obtain ⟨f,bnd,caps,hv,hf,hc⟩:=h;exact ⟨f,bnd,caps,hv,hf,fun w₂ K₂=>hc w₂ (K.trans K₂ hO)⟩
theorem Ll.kept {O₂:Ab} (K:AF O₂ w w') (hO:∀ b,O₂ b->O b) {t:Ty} {x:t.den} {v:Value} (h:Ll w O t x v):Ll w' Ab.none t x v:=by
 obtain ⟨b,off,cs,hv,h1,h2,h3,h4⟩:=h;refine ⟨b,off,cs,hv,Nat.lt_of_lt_of_le h1 K.size,fun h=>h,Rep.frame K.size (fun b h hn=>K.block b h fun ho=>hn (hO b ho)) (fun _ h=>h.elim) (fun _ _ _ h=>h) (fun _ h=>h.elim) h3,fun k hk=>?_⟩;rw [<-h4 k hk];simp only [World.cell?,K.block b h1 fun ho=>h2 (hO b ho)]
theorem EC.kept {O₂:Ab} (K:AF O₂ w w') (hO:∀ b,O₂ b->O b):∀ {ts:List Ty} {x:CB ts} {vs:List Value},EC w O ts x vs->EC w' Ab.none ts x vs
 |[],_,_,h=>h
 |_::_,_,_,⟨v,vs',e,hp,h⟩=>⟨v,vs',e,hp.kept K hO,EC.kept K hO h⟩
theorem WO (S:Sim P env w₀ O₀ W σ γ φ O a w):∀ (ts:List Ty) (ss:List Slot) (vs:List Value) {k:CB ts->Option α} {r:α},CW P w O σ γ ss vs->ER σ ts ss k=some r->
  ∃ x,k x=some r/\EC w O₀ ts x vs/\(Slot.lentL ss=false->EC w O ts x vs)
 |[],[],[],k,r,_,h=>⟨(),h,rfl,fun _=>rfl⟩
 |[],[],_::_,k,r,hB,h=>hB.elim
 |[],_::_,vs,k,r,_,h=>by simp [ER] at h
 |t::ts,[],vs,k,r,_,h=>by simp [ER] at h
 |t::ts,s::ss,[],k,r,hB,h=>hB.elim
 |t::ts,s::ss,v::vs,k,r,hB,h=>by
  unfold ER at h;obtain ⟨x,hk,hp,hl⟩:=S.behind hB.1 h;obtain ⟨az,hk,h1,h2⟩:=WO S ts ss vs hB.2 hk;refine ⟨(x,az),hk,⟨v,vs,rfl,hp,h1⟩,fun hn=>?_⟩;simp only [Slot.lentL,Bool.or_eq_false_iff] at hn;exact ⟨v,vs,rfl,hl hn.1,h2 hn.2⟩
theorem AT.kept {O₂:Ab} (K:AF O₂ w w') (hO:∀ b,O₂ b->O b):∀ (ps:List PM) (az:Args ps) (vs:List Value),AT P w O ps az vs->AT P w' Ab.none ps az vs:=by
 have frame:∀ {t:Ty} {x:t.den} {cs:List Value},Rep w O t .z x cs Ab.none->Rep w' Ab.none t .z x cs Ab.none:=fun hr=>
  Rep.frame K.size (fun b h hn=>K.block b h fun ho=>hn (hO b ho)) (fun _ h=>h.elim) (fun _ _ _ h=>h) (fun _ h=>h.elim) hr
 intro ps;induction ps with
 |nil=>intro az vs h;exact h
 |cons p ps ih=>
  intro az vs h;cases p with
  |ro t=>obtain ⟨v,vs',cs,e,hv,hr,h⟩:=h;exact ⟨v,vs',cs,e,hv,frame hr,ih _ _ h⟩
  |rp t=>
   obtain ⟨v,vs',e,⟨b,off,cs,hv,h1,h2,h3,h4⟩,h⟩:=h;refine ⟨v,vs',e,⟨b,off,cs,hv,Nat.lt_of_lt_of_le h1 K.size,fun h=>h,frame h3,fun k hk=>?_⟩,ih _ _ h⟩;rw [<-h4 k hk];simp only [World.cell?,K.block b h1 fun ho=>h2 (hO b ho)]
  |fn a b=>
   obtain ⟨v,vs',e,hf,hfn,h⟩:=h;exact ⟨v,vs',e,hf,hfn.move (K.mono fun b _ h=>hO b h) (fun _ _ h=>h.elim),ih _ _ h⟩
  |st f ts=>obtain ⟨cv,vs',e,hp,h⟩:=h;exact ⟨cv,vs',e,hp.kept K hO,ih _ _ h⟩
  |io t sh=>exact h.elim
  |tk t sh=>exact h.elim
theorem Ll.less (hO:∀ b,O' b->O b) {t:Ty} {x:t.den} {v:Value}:Ll w O t x v->Ll w O' t x v
 |⟨b,off,cs,hv,h1,h2,h3,h4⟩=>⟨b,off,cs,hv,h1,fun h=>h2 (hO b h),Rep.frame (Nat.le_refl _) (fun _ _ _=>rfl) (fun _ _=>rfl) (fun c _ hn ho=>hn (hO c ho)) (fun _ h=>h.elim) h3,h4⟩
theorem EC.less (hO:∀ b,O' b->O b):∀ {ts:List Ty} {x:CB ts} {vs:List Value},EC w O ts x vs->EC w O' ts x vs
 |[],_,_,h=>h
 |_::_,_,_,⟨v,vs',e,hp,h⟩=>⟨v,vs',e,hp.less hO,EC.less hO h⟩
theorem AT.less (hO:∀ b,O' b->O b):∀ (ps:List PM) (az:Args ps) (vs:List Value),AT P w O ps az vs->AT P w O' ps az vs
 |[],_,_,h=>h
 |.ro _::ps,_,_,⟨v,vs',cs,e,hv,hr,h⟩=>⟨v,vs',cs,e,hv,Rep.frame (Nat.le_refl _) (fun _ _ _=>rfl) (fun _ _=>rfl) (fun c _ hn ho=>hn (hO c ho)) (fun _ h=>h.elim) hr,AT.less hO ps _ _ h⟩
 |.rp _::ps,_,_,⟨v,vs',e,hp,h⟩=>⟨v,vs',e,hp.less hO,AT.less hO ps _ _ h⟩
 |.fn _ _::ps,_,_,⟨v,vs',e,hf,hfn,h⟩=>⟨v,vs',e,hf,hfn.move (AF.refl _ _) (fun b _ h=>hO b h),AT.less hO ps _ _ h⟩
 |.st _ _::ps,_,_,⟨cv,vs',e,hp,h⟩=>⟨cv,vs',e,hp.less hO,AT.less hO ps _ _ h⟩
 |.io _ _::_,_,_,h=>h.elim
 |.tk _ _::_,_,_,h=>h.elim
theorem CW.get:∀ {ss:List Slot} {vs:Array Value},vs.size=ss.length->(∀ (i:Nat) s v,ss[i]? = some s->vs[i]? = some v->Ak P w O σ γ s v)->CW P w O σ γ ss vs.toList:=by
 intro ss;induction ss with
 |nil=>intro vs hl _;have:vs = #[]:=Array.eq_empty_of_size_eq_zero hl;subst this;trivial
 |cons s ss ih=>
  intro vs hl h;obtain ⟨l⟩:=vs;cases l with
  |nil=>simp at hl
  |cons v l=>
   refine ⟨h 0 s v rfl rfl,?_⟩;exact ih (vs:=⟨l⟩) (by simpa using hl) fun i s' v' h1 h2=>h (i+1) s' v' (by simpa using h1) (by simpa using h2)
theorem rA (S:Sim P env w₀ O₀ W σ γ φ O a w) (hfn:env.FnOk P) {t u:Ty} {s:Slot} {v:Value} (hs:Ak P w O σ γ s v) {k:(t.den->Option u.den)->Option α} {r:α} (h:Uk env σ t u s k=some r) :
  ∃ ψ,k ψ=some r/\u.flat=true/\FnOk P w O₀ t u ψ v/\(s.lent=false->FnOk P w O t u ψ v):=by
 unfold Uk at h;split at h
 ·rename_i t' u' ψ;split at h
  case isFalse=>cases h
  case isTrue e=>
   obtain ⟨rfl,rfl⟩:=e;cases hs with
   |fnA _ _ _ _ w₁ O₁ hf hk ho hfn=>exact ⟨ψ,h,hf,hfn.move hk (fun b hb h=>ho b hb ((S.own b).2 (.inl h))),fun _=>hfn.move hk ho⟩
 ·rename_i f caps;split at h
  case h_2=>cases h
  case h_1 t' ps u' F hF=>
   split at h
   case h_2=>cases h
   case h_1 hio hfl=>
    cases hs with
    |clo _ _ vs hl hall=>
     obtain ⟨c,hk,hc1,hc2⟩:=PJ S ps caps vs.toList (CW.get hl hall) h;split at hk
     case isFalse=>cases hk
     case isTrue e=>
      obtain ⟨rfl,rfl⟩:=e;have hq:(⟨.ro t'::ps,[(u',.z)],F⟩:Av).quiet=true:=by simp [Av.quiet,je,Bh,hio]
      obtain ⟨hfd,hcall⟩:=(hfn.1 f _ hF).1 hq
      have main:∀ O₂:Ab,(∀ w₁,AF O₂ w w₁->AT P w₁ Ab.none ps c vs.toList)->FnOk P w O₂ t' u' (fun x=>(F (x,c)).map (·.1)) (.func (.func f) #[] vs):=by
       intro O₂ hcap;refine ⟨f,#[],vs,rfl,hfd,fun w₁ K x va y cs hva hx hy=>?_⟩;obtain ⟨r',hr',hy'⟩:=Option.map_eq_some_iff.1 hy;have hargs:AT P w₁ Ab.none (.ro t'::ps) (x,c) (va::vs.toList):=⟨va,vs.toList,cs,rfl,hva,hx,hcap w₁ K⟩;have:=hcall w₁ Ab.none (x,c) (va::vs.toList) r' (fun b h=>h.elim) hargs hr';rw [show (va::vs.toList).toArray = #[] ++ #[va]++vs by apply Array.ext';simp] at this;refine this.mono ?_;rintro e w₂ ⟨rv,he,hk₂,vb,rv',cs',hrv,hvb,hrb,hnil⟩;have hnil':rv'=[]:=hnil;subst hnil' hrv;refine ⟨vb,cs',he,hk₂,hvb,?_⟩;rw [<-hy'];exact hrb
      refine ⟨_,hk,hfl,main O₀ fun w₁ K=>hc1.kept K fun _ h=>h,fun hn=>main O fun w₁ K=>?_⟩;exact (hc2 (by simpa [Slot.lent] using hn)).kept K fun _ h=>h
 ·cases h
theorem DP (S:Sim P env w₀ O₀ W σ γ φ O a w) (hfn:env.FnOk P):∀ (ps:List PM) (ss:List Slot) (vs:List Value) {k:Args ps->Option α} {r:α},Bh ps=[]->CW P w O σ γ ss vs->AP env σ ps ss k=some r->
  ∃ az,k az=some r/\AT P w O₀ ps az vs/\(Slot.lentL ss=false->AT P w O ps az vs)
 |[],[],[],k,r,_,_,h=>⟨(),h,rfl,fun _=>rfl⟩
 |[],[],_::_,k,r,_,hB,h=>hB.elim
 |[],_::_,vs,k,r,_,hB,h=>by simp [AP] at h
 |.ro t::ps,s::ss,[],k,r,_,hB,h=>hB.elim
 |.rp t::ps,s::ss,[],k,r,_,hB,h=>hB.elim
 |.fn t u::ps,s::ss,[],k,r,_,hB,h=>hB.elim
 |.st f ts::ps,s::ss,[],k,r,_,hB,h=>hB.elim
 |.st f ts::ps,[],vs,k,r,_,hB,h=>by simp [AP] at h
 |.st f ts::ps,s::ss,v::vs,k,r,hi,hB,h=>by
  unfold AP at h;split at h
  ·rename_i g caps;split at h
   ·rename_i hg
    obtain ⟨cv,hv,hcB⟩:∃ cv:List Value,v = .func (.func f) #[] cv.toArray/\CW P w O σ γ caps cv:=by
     rw [<-Nat.eq_of_beq_eq_true hg];have:=hB.1;generalize hs:(Slot.clo g caps)=s at this;cases this with
     |clo g' caps' vs' hl hall=>
      injection hs with e1 e2
      subst e1 e2;exact ⟨vs'.toList,by simp,CW.get hl hall⟩
     |_=>cases hs
    obtain ⟨c,h,hc1,hc2⟩:=WO S ts caps cv hcB h;obtain ⟨az,hk,h1,h2⟩:=DP S hfn ps ss vs hi hB.2 h;refine ⟨(c,az),hk,⟨cv,vs,by rw [hv],hc1,h1⟩,fun hn=>?_⟩;simp only [Slot.lentL,Slot.lent,Bool.or_eq_false_iff] at hn;exact ⟨cv,vs,by rw [hv],hc2 hn.1,h2 hn.2⟩
   ·cases h
  ·cases h
 |.ro t::ps,[],vs,k,r,_,hB,h=>by simp [AP] at h
 |.rp t::ps,[],vs,k,r,_,hB,h=>by simp [AP] at h
 |.fn t u::ps,[],vs,k,r,_,hB,h=>by simp [AP] at h
 |.io t u::ps,ss,vs,k,r,hi,hB,h=>by simp [Bh] at hi
 |.tk t u::ps,ss,vs,k,r,hi,hB,h=>by cases ss<;>simp [AP] at h
 |.ro t::ps,s::ss,v::vs,k,r,hi,hB,h=>by
  unfold AP at h;obtain ⟨x,hk,cs,hv,hr,hl⟩:=S.content hB.1 h;obtain ⟨az,hk,h1,h2⟩:=DP S hfn ps ss vs hi hB.2 hk;refine ⟨(x,az),hk,⟨v,vs,cs,rfl,hv,hr,h1⟩,fun hn=>?_⟩;simp only [Slot.lentL,Bool.or_eq_false_iff] at hn;exact ⟨v,vs,cs,rfl,hv,hl hn.1,h2 hn.2⟩
 |.rp t::ps,s::ss,v::vs,k,r,hi,hB,h=>by
  unfold AP at h;obtain ⟨x,hk,hp,hl⟩:=S.behind hB.1 h;obtain ⟨az,hk,h1,h2⟩:=DP S hfn ps ss vs hi hB.2 hk;refine ⟨(x,az),hk,⟨v,vs,rfl,hp,h1⟩,fun hn=>?_⟩;simp only [Slot.lentL,Bool.or_eq_false_iff] at hn;exact ⟨v,vs,rfl,hl hn.1,h2 hn.2⟩
 |.fn t u::ps,s::ss,v::vs,k,r,hi,hB,h=>by
  unfold AP at h;obtain ⟨x,hk,hf,hp,hl⟩:=rA S hfn hB.1 h;obtain ⟨az,hk,h1,h2⟩:=DP S hfn ps ss vs hi hB.2 hk;refine ⟨(x,az),hk,⟨v,vs,rfl,hf,hp,h1⟩,fun hn=>?_⟩;simp only [Slot.lentL,Bool.or_eq_false_iff] at hn;exact ⟨v,vs,rfl,hf,hl hn.1,h2 hn.2⟩
theorem Iy:∀ (rs:List (Ty×Sh)) (io:List Ty) (r:CB (rs.map (·.1)++io)) (rv:List Value),Bc w O rs io r rv->CW P w O σ γ (CD rs io r) rv
 |[],_,_,rv,h=>by rw [show rv=[] from h];trivial
 |(t,sh)::rs,io,r,rv,⟨v,vs',cs,hrv,hv,hr,h⟩=>by
  subst hrv;exact ⟨.pv ⟨t,r.1⟩ v cs hv hr,Iy rs io r.2 vs' h⟩
theorem CW.length:∀ {ss:List Slot} {vs:List Value},CW P w O σ γ ss vs->ss.length=vs.length
 |[],[],_=>rfl
 |[],_::_,h=>h.elim
 |_::_,[],h=>h.elim
 |_::ss,_::vs,h=>by simp [CW.length h.2]
theorem CW.at:∀ {ss:List Slot} {vs:List Value},CW P w O σ γ ss vs->∀ (i:Nat) s v,ss[i]? = some s->vs[i]? = some v->Ak P w O σ γ s v
 |[],[],_,i,s,v,h,_=>by simp at h
 |[],_::_,h,_,_,_,_,_=>h.elim
 |_::_,[],h,_,_,_,_,_=>h.elim
 |_::ss,_::vs,h,0,s,v,h1,h2=>by simp at h1 h2;subst h1 h2;exact h.1
 |_::ss,_::vs,h,i+1,s,v,h1,h2=>h.2.at i s v (by simpa using h1) (by simpa using h2)
theorem CW.one {ss:List Slot} {vs:List Value} (h:CW P w O σ γ ss vs):Ak P w O σ γ (JC ss) (CY vs):=by
 match ss,vs,h with
 |[],[],h=>exact .tup [] #[] rfl (by intro i s v h;simp at h)
 |[s],[v],h=>exact h.1
 |s::s'::ss,v::v'::vs,h=>
  refine .tup _ _ (by simp [h.2.2.length]) ?_;intro i s₁ v₁ h1 h2;exact h.at i s₁ v₁ h1 (by simpa using h2)
theorem Bc.flat {O₁ O₂:Ab}:∀ (rs:List (Ty×Sh)) (io:List Ty) (r:CB (rs.map (·.1)++io)) (rv:List Value),(rs.all fun x=>x.1.flat)=true->Bc w O₁ rs io r rv->Bc w O₂ rs io r rv
 |[],_,_,rv,_,h=>h
 |(t,sh)::rs,io,r,rv,hf,⟨v,vs',cs,hrv,hv,hr,h⟩=>by
  simp only [List.all_cons,Ajb] at hf;exact ⟨v,vs',cs,hrv,hv,hr.flat hf.1,Bc.flat rs io r.2 vs' hf.2 h⟩
end Go.V
namespace Go.V
variable {α:Type}
variable {P:Program} {env:Bf} {w₀ w w':World} {O₀ O₁ W O O':Ab} {σ σ₀ σ':St} {γ γ':Name->Src} {φ φ':Name->Ab} {a a':Act} {n:Name}
theorem Sim.bound (S:Sim P env w₀ O₀ W σ γ φ O a w):∀ b,O b->b<w.heap.size:=by
 intro b hb;rcases (S.own b).1 hb with h | ⟨n,r,hr,hf⟩
 ·exact S.old b h
 ·exact (S.roots n r hr).lt hf
theorem Av.quiet_ios {f:Av} (h:f.quiet=true):Bh f.ps=[]:=by
 unfold Av.quiet at h;cases hi:Bh f.ps with
 |nil=>rfl
 |cons t l=>rw [hi] at h;simp at h
theorem Uz (S:Sim P env w₀ O₀ W σ γ φ O a w) (hfn:env.FnOk P) {g:FuncId} {fu:Av} (hF:env.fn g=some fu) (hq:fu.quiet=true) {ss:List Slot} {vs:List Value} (hB:CW P w O σ γ ss vs)
  {k:Slot->Option α} {r:α} (h:CV env σ fu ss k=some r) {R:Ending->World->Prop}
  (hR:∀ s v w',Sim P env w₀ O₀ W σ γ φ O a w' ->Ak P w' O σ γ s v->k s=some r->AF Ab.none w w' ->R (.returned v) w'):Calls P g vs.toArray w R:=by
 unfold CV at h;split at h
 case h_1=>cases h
 case h_2 hl=>
  obtain ⟨az,hk,h1,h2⟩:=DP S hfn _ ss vs (Av.quiet_ios hq) hB h;split at hk
  case h_2=>cases hk
  case h_1 res hres=>
   have hcall:=((hfn.1 g fu hF).1 hq).2 w
   have done:∀ O₁,(∀ b,O₁ b->b<w.heap.size)->AT P w O₁ fu.ps az vs->(∀ w' rv,AF Ab.none w w' ->Bc w' O₁ fu.rs (Bh fu.ps) res rv->Bc w' O fu.rs (Bh fu.ps) res rv)->Calls P g vs.toArray w R:=by
    intro O₁ hO₁ hargs hup;refine (hcall O₁ az vs res hO₁ hargs hres).mono ?_;rintro e w' ⟨rv,rfl,K,hrv⟩;exact hR _ _ _ (S.grow K) (CW.one (Iy _ _ _ _ (hup w' rv K hrv))) hk K
   by_cases hlent:Slot.lentL ss=false
   ·exact done O S.bound (h2 hlent) fun _ _ _ h=>h
   ·have hfl:(fu.rs.all fun x=>x.1.flat)=true:=by
     simp only [Bool.and_eq_false_iff,Bool.not_eq_false'] at hl;rcases hl with h | h
     ·exact (hlent h).elim
     ·exact h
    exact done O₀ S.old h1 fun w' rv _ hrv=>hrv.flat _ _ _ _ hfl
theorem EW {c:Call} {f:Operand} (hc:c.callee = .value f) {fn:Fn} {first captured:Array Value} (hv:a.eval f = .func fn first captured) (t:TypeId) (w:World) :
  (resolve a.eval c t).run P w = .ok {target:=.fn fn captured,args:=first++c.args.map a.eval} w:=by
 unfold resolve;rw [hc];simp [hv,Deferred.ofValue]
theorem ED {g : FuncId} {fn : Func} (hf : P.funcs[g]? = some fn) (hb : fn.body.isSome = true) (hn : fn.name ≠ "runtime.NumGoroutine") (args : Array Value) (w : World) :
  (callFunc g args).run P w = .ok (.enter g args) w:=by
 unfold callFunc;have hb':fn.body≠none:=by intro e;rw [e] at hb;cases hb
 simp [hf,hn,hb']
theorem JT {o:Oper} {c:Call} (ho:o.op = .call c) {f:Operand} (hc:c.callee = .value f) {g:FuncId} {caps:Array Value} (hv:a.eval f = .func (.func g) #[] caps)
  (hfd : ∃ fn, P.funcs[g]? = some fn /\ fn.body.isSome = true /\ fn.name ≠ "runtime.NumGoroutine") (w : World) :
  (execOp a.eval o).run P w = .ok (.enter g (c.args.map a.eval++caps)) w:=by
 obtain ⟨fn,hf,hb,hn⟩:=hfd;unfold execOp;rw [ho];dsimp only;rw [Sem.run_bind,EW hc hv,Result.andThen_ok];simp only [invoke];rw [ED hf hb hn];simp
theorem UA {o:Oper} {c:Call} (ho:o.op = .call c) {f:Operand} (hc:c.callee = .value f) {g:FuncId} {bnd caps:Array Value} (hv:a.eval f = .func (.func g) bnd caps)
  (hfd : ∃ fn, P.funcs[g]? = some fn /\ fn.body.isSome = true /\ fn.name ≠ "runtime.NumGoroutine") (w : World) :
  (execOp a.eval o).run P w = .ok (.enter g (bnd++c.args.map a.eval++caps)) w:=by
 obtain ⟨fn,hf,hb,hn⟩:=hfd;unfold execOp;rw [ho];dsimp only;rw [Sem.run_bind,EW hc hv,Result.andThen_ok];simp only [invoke];rw [ED hf hb hn]
theorem CW.append:∀ {ss ss':List Slot} {vs vs':List Value},CW P w O σ γ ss vs->CW P w O σ γ ss' vs' ->CW P w O σ γ (ss++ss') (vs++vs')
 |[],_,[],_,_,h=>h
 |[],_,_::_,_,h,_=>h.elim
 |_::_,_,[],_,h,_=>h.elim
 |_::_,_,_::_,_,h,h' =>⟨h.1,h.2.append h'⟩
theorem Sim.vals (S:Sim P env w₀ O₀ W σ γ φ O a w):∀ (l:List Operand),CW P w O σ γ (l.map σ.val) (l.map a.eval)
 |[]=>trivial
 |x::l=>⟨S.val x,S.vals l⟩
theorem UB (S:Sim P env w₀ O₀ W σ γ φ O a w) (hfn:env.FnOk P) {o:Oper} {c:Call} (ho:o.op = .call c) {f:Operand} (hc:c.callee = .value f)
  {k:Slot->Option α} {r:α} (h:DA env σ c k=some r)
  {next:Act->World->Prop} {Q:Exit->Act->World->Prop}
  (hnext:∀ s v w',Sim P env w₀ O₀ W σ γ φ O a w' ->Ak P w' O σ γ s v->k s=some r->AF Ab.none w w' ->next (a.put o.dst v) w') :
  o.upon P a next Q ((execOp a.eval o).run P w):=by
 unfold DA at h;rw [hc] at h;dsimp only at h;have hs:=S.val f;split at h
 ·rename_i g caps hv;rw [hv] at hs;generalize hvv:a.eval f=v at hs;cases hs with
  |clo _ _ vs hl hall=>
   split at h
   case h_2=>
    split at h
    case h_2=>cases h
    case h_1 fu hF=>
     split at h
     case h_2=>cases h
     case h_1 hq=>
      unfold ES at h;split at h
      case h_1=>cases h
      case h_2 hfl=>
       have hB:=(S.vals c.args.toList).append (CW.get hl hall);obtain ⟨az,hk,h1,_⟩:=DP S hfn _ _ _ (Av.quiet_ios hq) hB h;split at hk
       case h_2=>cases hk
       case h_1 res hres=>
        obtain ⟨rv,hrun,hrv⟩:=hfn.2 g fu hF w az _ res (AT.less (fun _ h=>h.elim) _ _ _ h1) hres
        have e:(c.args.map a.eval++vs)=((c.args.toList.map a.eval)++vs.toList).toArray:=by
         apply Array.ext';simp
        have hex:(execOp a.eval o).run P w = .ok (.value (CY rv)) w:=by
         unfold execOp;rw [ho];dsimp only;rw [Sem.run_bind,EW hc hvv,Result.andThen_ok];simp only [invoke];rw [show ((#[]++c.args.map a.eval)++vs)=((c.args.toList.map a.eval)++vs.toList).toArray by rw [<-e];simp];rw [hrun]
        rw [hex,Oper.upon_value];exact hnext _ _ _ S (CW.one (Iy _ _ _ _ (hrv.flat _ _ _ _ hfl))) hk (AF.refl _ _)
   case h_1 fu hF=>
    split at h
    case h_2=>cases h
    case h_1 hq=>
     have hfd:=((hfn.1 g fu hF).1 hq).1;rw [JT ho hc hvv hfd w,Oper.upon_enter];have hB:=(S.vals c.args.toList).append (CW.get hl hall)
     have e:(c.args.map a.eval++vs)=((c.args.toList.map a.eval)++vs.toList).toArray:=by
      apply Array.ext';simp
     rw [e];exact Uz S hfn hF hq hB h hnext
 ·rename_i t u ψ hv;rw [hv] at hs;generalize hvv:a.eval f=v at hs;cases hs with
  |fnA _ _ _ _ w₁ O₁ hf hk ho' hfn' =>
   obtain ⟨g,bnd,caps,rfl,hfd,hcall⟩:=hfn'.move hk ho';split at h
   case h_2=>cases h
   case h_1 s hs1=>
    obtain ⟨x,hx⟩:∃ x,c.args.toList=[x]:=by
     cases hx:c.args.toList with
     |nil=>rw [hx] at hs1;cases hs1
     |cons x l=>
      cases l with
      |nil=>exact ⟨x,rfl⟩
      |cons y l=>rw [hx] at hs1;simp at hs1
    rw [hx] at hs1;simp only [List.map_cons,List.map_nil,List.cons.injEq,and_true] at hs1;subst hs1;obtain ⟨y,hy,cs,hva,hr1,hr2⟩:=S.content (S.val x) h;split at hy
    case h_2=>cases hy
    case h_1 z hz=>
     have he:c.args.map a.eval = #[a.eval x]:=by apply Array.ext';simp [hx]
     rw [UA ho hc hvv hfd w,Oper.upon_enter,he];refine (hcall w (AF.refl _ _) y (a.eval x) z cs hva (hr1.anyone (fun _ h=>h) rfl) hz).mono ?_;rintro e w' ⟨vb,cs',rfl,K,hvb,hrb⟩;exact hnext _ _ _ (S.grow K) (.pv _ _ cs' hvb (hrb.flat hf)) hy K
 ·cases h
theorem Cr {o:Oper} {c:Call} (ho:o.op = .call c) {b:Builtin} (hc:c.callee = .builtin b) :
  ∃ consts,(execOp a.eval o).run P w=(builtin b c.argTypes o.type consts (c.args.map a.eval)).run P w:=by
 unfold execOp;rw [ho];dsimp only;unfold resolve;rw [hc];simp only [Sem.run_bind,Sem.run_pure,Result.andThen_ok,invoke];exact ⟨_,rfl⟩
theorem jm (S:Sim P env w₀ O₀ W σ γ φ O a w) {t:Ty} {s:Slot} {v:Value} (hs:Ak P w O σ γ s v) {k:Nat->Option α} {r:α} (h:WJ σ t s k=some r) :
  ∃ n,k n=some r/\((t = .str/\∃ b:ByteArray,v = .string b/\b.size=n)\/(∃ e,t = .slice e)/\∃ an c,v = .slice an n c):=by
 have slice:∀ {e:Ty} {p:Slot} {j:List e.den->Option α},Ak P w O σ γ p v->Ep σ (.slice e) p j=some r->∃ xs,j xs=some r/\∃ an c,v = .slice an xs.length c:=by
  intro e p j hp hj;obtain ⟨xs,hk,cs,hv,hr,_⟩:=S.content hp hj;refine ⟨xs,hk,?_⟩;obtain ⟨_,an,c,hc,_⟩:=hr;have:=hv.one rfl;rw [hc] at this;injection this with this
  exact ⟨an,c,this.symm⟩
 unfold WJ at h;split at h
 ·split at h
  ·rename_i l;exact ⟨_,h,.inl ⟨rfl,_,DB hs,List.size_toArray⟩⟩
  ·cases h
 ·rename_i e;split at h
  ·rename_i e' l;obtain ⟨xs,hk,an,c,hv⟩:=slice hs (j:=fun xs=>k xs.length) (show Ep σ (.slice e') (.pv ⟨.slice e',l⟩) _=some r by unfold Ep AI;simpa using h);exact ⟨_,hk,.inr ⟨⟨e,rfl⟩,an,c,hv⟩⟩
  ·rename_i e' p;obtain ⟨xs,hk,an,c,hv⟩:=slice hs (j:=fun xs=>k xs.length) h;exact ⟨_,hk,.inr ⟨⟨e,rfl⟩,an,c,hv⟩⟩
  ·rename_i e' p lo hi;obtain ⟨xs,hk,an,c,hv⟩:=slice hs (e:=e') (j:=fun xs=>k xs.length) (by unfold Ep;simp only [AI];exact h);exact ⟨_,hk,.inr ⟨⟨e,rfl⟩,an,c,hv⟩⟩
  ·cases hs with
   |nilS=>exact ⟨_,h,.inr ⟨⟨e,rfl⟩,none,0,rfl⟩⟩
  ·cases h
 ·cases h
theorem Mo {c:Call} {x y:Slot} (h:c.args.toList.map σ.val=[x,y]):∃ p q,c.args.toList=[p,q]/\σ.val p=x/\σ.val q=y:=by
 match hl:c.args.toList,h with
 |[],h=>simp at h
 |[_],h=>simp at h
 |[p,q],h=>simp only [List.map_cons,List.map_nil,List.cons.injEq,and_true] at h;exact ⟨p,q,rfl,h.1,h.2⟩
 |_::_::_::_,h=>simp at h
theorem nL (x y:Int):(if y<x then y else x)=(match decide (y<x) with | true=>y | false=>x):=by by_cases h:y<x<;>simp [h]
theorem nM (x y:Int):(if y>x then y else x)=(match decide (y>x) with | true=>y | false=>x):=by by_cases h:y>x<;>simp [h]
theorem eW (x y:List UInt8):(Builtin.min2 (.string ⟨x.toArray⟩) (.string ⟨y.toArray⟩)).run P w = .ok (.string ⟨(GQ x y).toArray⟩) w:=by
 simp only [Builtin.min2,Op.stringOp,ByteArray.toList_mk,Sem.run_bind,Sem.run_pure,Result.andThen_ok];unfold GQ;cases Op.bytesLess x y<;>cases x==y<;>rfl
theorem eX (x y:List UInt8):(Builtin.max2 (.string ⟨x.toArray⟩) (.string ⟨y.toArray⟩)).run P w = .ok (.string ⟨(EP x y).toArray⟩) w:=by
 simp only [Builtin.max2,Op.stringOp,ByteArray.toList_mk,Sem.run_bind,Sem.run_pure,Result.andThen_ok];unfold EP;cases Op.bytesLess x y<;>rfl
theorem eY (S:Sim P env w₀ O₀ W σ γ φ O a w) (hty:env.TyOk P) {o:Oper} {c:Call} (ho:o.op = .call c) {b:Builtin} (hc:c.callee = .builtin b)
  {k:Slot->Option α} {r:α} (h:DA env σ c k=some r):aI P w O σ γ (execOp a.eval o) k r:=by
 unfold DA at h;rw [hc] at h;cases b<;>(try dsimp only at h)<;>first | (cases h;done) | skip
 case len=>
  split at h
  case h_2=>cases h
  case h_1 x t hx ht=>
   obtain ⟨n,hk,hv⟩:=jm S (S.val x) h;obtain ⟨i,hi,hit⟩:=Option.bind_eq_some_iff.1 ht;have hinfo:=(hty.1 _ _ hit).1;have ha:(c.args.map a.eval)[0]? = some (a.eval x):=by rw [<-Array.getElem?_toList];simp [hx]
   refine ⟨JM .i64 n,.int .i64 n,?_,EB _ _,hk⟩;obtain ⟨consts,hrun⟩:=Cr (a:=a) (w:=w) (P:=P) ho hc;rw [hrun];unfold builtin;dsimp only;simp only [Builtin.len_,hi,ha,Sem.run_bind];rcases hv with ⟨rfl,s,hv,rfl⟩ | ⟨⟨e,rfl⟩,an,cap,hv⟩
   ·have hu:P.underlying i=some .string:=hinfo;simp [run_underlying hu,hv,goInt]
   ·obtain ⟨j,hu,_⟩:=hinfo;simp [run_underlying hu,hv,goInt]
 case min=>
  split at h
  case h_3=>cases h
  case h_1 kk x kk' y hx=>
   obtain ⟨p,q,hl,hp,hq⟩:=Mo hx;have hvp:=S.val p;have hvq:=S.val q;rw [hp] at hvp;rw [hq] at hvq;have hvp:=Db hvp;have hvq:=Db hvq;refine ⟨_,.int kk _,?_,EB _ _,h⟩;obtain ⟨consts,hrun⟩:=Cr (a:=a) (w:=w) (P:=P) ho hc;rw [hrun];unfold builtin;dsimp only;simp only [Builtin.min_,Array.toList_map,hl,List.map_cons,List.map_nil,List.foldlM_cons,List.foldlM_nil,hvp,hvq,Builtin.min2,Sem.run_bind,Sem.run_pure,Result.andThen_ok];exact congrArg (fun n=>Result.ok (Next.value (Value.int kk n)) w) (nL x y)
  case h_2 x y hx=>
   obtain ⟨p,q,hl,hp,hq⟩:=Mo hx;have hvp:=S.val p;have hvq:=S.val q;rw [hp] at hvp;rw [hq] at hvq;have hvp:=DB hvp;have hvq:=DB hvq;refine ⟨_,_,?_,NT _,h⟩;obtain ⟨consts,hrun⟩:=Cr (a:=a) (w:=w) (P:=P) ho hc;rw [hrun];unfold builtin;dsimp only;simp only [Builtin.min_,Array.toList_map,hl,List.map_cons,List.map_nil,List.foldlM_cons,List.foldlM_nil,hvp,hvq,Sem.run_bind,Sem.run_pure];rw [eW (w:=w) (P:=P) x y];rfl
 case max=>
  split at h
  case h_3=>cases h
  case h_1 kk x kk' y hx=>
   obtain ⟨p,q,hl,hp,hq⟩:=Mo hx;have hvp:=S.val p;have hvq:=S.val q;rw [hp] at hvp;rw [hq] at hvq;have hvp:=Db hvp;have hvq:=Db hvq;refine ⟨_,.int kk _,?_,EB _ _,h⟩;obtain ⟨consts,hrun⟩:=Cr (a:=a) (w:=w) (P:=P) ho hc;rw [hrun];unfold builtin;dsimp only;simp only [Builtin.max_,Array.toList_map,hl,List.map_cons,List.map_nil,List.foldlM_cons,List.foldlM_nil,hvp,hvq,Builtin.max2,Sem.run_bind,Sem.run_pure,Result.andThen_ok];exact congrArg (fun n=>Result.ok (Next.value (Value.int kk n)) w) (nM x y)
  case h_2 x y hx=>
   obtain ⟨p,q,hl,hp,hq⟩:=Mo hx;have hvp:=S.val p;have hvq:=S.val q;rw [hp] at hvp;rw [hq] at hvq;have hvp:=DB hvp;have hvq:=DB hvq;refine ⟨_,_,?_,NT _,h⟩;obtain ⟨consts,hrun⟩:=Cr (a:=a) (w:=w) (P:=P) ho hc;rw [hrun];unfold builtin;dsimp only;simp only [Builtin.max_,Array.toList_map,hl,List.map_cons,List.map_nil,List.foldlM_cons,List.foldlM_nil,hvp,hvq,Sem.run_bind,Sem.run_pure];rw [eX (w:=w) (P:=P) x y];rfl
theorem callE_ok (S:Sim P env w₀ O₀ W σ γ φ O a w) (hty:env.TyOk P) (hfn:env.FnOk P) {o:Oper} {c:Call} (ho:o.op = .call c)
  {k:Slot->Option α} {r:α} (h:DA env σ c k=some r) {next:Act->World->Prop} {Q:Exit->Act->World->Prop}
  (hnext:∀ s v w',Sim P env w₀ O₀ W σ γ φ O a w' ->Ak P w' O σ γ s v->k s=some r->AF Ab.none w w' ->next (a.put o.dst v) w') :
  o.upon P a next Q ((execOp a.eval o).run P w):=by
 cases hc:c.callee with
 |builtin b=>
  obtain ⟨s,v,hrun,hs,hk⟩:=eY S hty ho hc h;rw [hrun];exact hnext s v w S hs hk (AF.refl _ _)
 |value f=>exact UB S hfn ho hc h hnext
 |invoke recv name=>unfold DA at h;rw [hc] at h;cases h
theorem Rep.ownAny:∀ {t:Ty} {x:t.den} {cs:List Value} {F:Ab},Rep w O t t.ownAll x cs F->(∀ b,F b->O' b)->Rep w O' t t.ownAll x cs F:=by
 intro t;induction t with
 |int k=>intro x cs F h _;exact h
 |bool=>intro x cs F h _;exact h
 |str=>intro x cs F h _;exact h
 |unit=>intro x cs F h _;exact h
 |pair a b iha ihb=>
  intro x cs F h hF;by_cases hfl:(a.flat&&b.flat)=true
  ·have hz:(Ty.pair a b).ownAll = .z:=by simp only [Ty.ownAll,hfl,if_true]
   rw [hz] at h ⊢;have hn:∀ k,¬F k:=h.free;exact (Rep.flat (t:=.pair a b) (by simpa [Ty.flat] using hfl) h).foot fun k=>⟨fun hk=>(hn k hk).elim,fun hk=>hk.elim⟩
  ·have hz:(Ty.pair a b).ownAll = .pr a.ownAll b.ownAll:=by simp only [Ty.ownAll,hfl];rfl
   rw [hz] at h ⊢;obtain ⟨c₁,c₂,F₁,F₂,hc,h1,h2,hU,hd⟩:=h;exact ⟨c₁,c₂,F₁,F₂,hc,iha h1 fun k hk=>hF k ((hU k).2 (.inl hk)),ihb h2 fun k hk=>hF k ((hU k).2 (.inr hk)),hU,hd⟩
 |slice e ih=>
  intro x cs F h hF;have h:Rep w O (.slice e) (.own e.ownAll) x cs F:=h;show Rep w O' (.slice e) (.own e.ownAll) x cs F;rcases h with h | ⟨b,off,cap,C,tid,fr,F',hc,hl,hb,hfr,hsz,hel,hU,hdb,hOb⟩
  ·exact .inl h
  ·exact .inr ⟨b,off,cap,C,tid,fr,F',hc,hl,hb,hfr,hsz,hel.mono fun y _ c F'' hF'' hy=>ih hy fun k hk=>hF k ((hU k).2 (.inr (hF'' k hk))),hU,hdb,hF b ((hU b).2 (.inl rfl))⟩
theorem UC (S:Sim P env w₀ O₀ W σ γ φ O a w) (hfn:env.FnOk P) {g:FuncId} {fu:Av} (hF:AO P g fu) (hq:fu.fresh=true) {ss:List Slot} {vs:List Value} (hB:CW P w O σ γ ss vs) {n:Name} (hn4:n≠4)
  {k:AV->Slot->Option α} {r:α} (h:Hg env σ fu n ss k=some r) {T:Ending->World->Prop}
  (hR:∀ R s v γ' φ' O' w',Sim P env w₀ O₀ W (σ.lay n R) γ' φ' O' a w' ->Ak P w' O' (σ.lay n R) γ' s v->k R s=some r->T (.returned v) w'):Calls P g vs.toArray w T:=by
 unfold Hg at h;split at h
 case h_3=>cases h
 case h_1 ps t rs F=>
  unfold Av.fresh at hq;rw [Ajb] at hq
  replace hq:=hq.1
  rw [Ajb] at hq
  have hio:Bh ps=[]:=by
   have:=hq.1;dsimp only at this;split at this
   ·assumption
   ·cases this
  have hrf:(rs.all fun x=>x.1.flat)=true:=by
   have:=hq.2;dsimp only at this;rw [List.all_eq_true] at this ⊢;intro x hx;have:=this x hx;rw [Ajb] at this;exact this.1
  split at h
  case h_1=>cases h
  case h_2 hl=>
   obtain ⟨az,hk,h1,h2⟩:=DP S hfn _ ss vs hio hB h;split at hk
   case h_2=>cases hk
   case h_1 res hres=>
    refine ((show r9 P g ps t rs F from hF).2 w O az vs res S.bound (h2 hl) hres).mono ?_;rintro e w' ⟨b,off,rv,rfl,K,hb,⟨C,tid,fr,cs,hheap,hfz,hcs,hrep⟩,hrv⟩;have hlt:b<w'.heap.size:=(Array.getElem?_eq_some_iff.1 hheap).1;have S₁:=S.gain K (G:=fun c=>c=b) fun c hc=>⟨by rw [hc];exact hb,by rw [hc];exact hlt⟩
    obtain ⟨γ',φ',O',S',A,hγ,hφ⟩:=S₁.lay (n:=n) (O₀:=O₀) (r:=.data true ⟨t,res.1⟩ .z) (src:=.mem b off) (F:=fun c=>c=b) (AF.refl _ _) (fun _=>.inl)
     (fun c hc=>.inr (.inr ⟨.inr hc,fun ho=>by have:=S.old c ho;rw [hc] at this;omega,.inl (by rw [hc];exact Nat.le_trans S.kept.size hb)⟩))
     (fun O' γ' φ' A hγ hO=>⟨b,off,C,tid,fr,cs,Ab.none,rfl,hheap,hfz,hcs,Rep.frame (Nat.le_refl _) (fun _ _ _=>rfl) (fun _ h=>h.elim) A.free (fun _ h=>h.elim) hrep,id,hO b rfl,fun k=>⟨.inl,fun h=>h.resolve_right id⟩⟩) (fun e=>absurd e hn4)
    refine hR _ _ _ γ' φ' O' w' S' (CW.one (ss:=.ptr ⟨n,[]⟩::_) (vs:=.pointer (some ⟨b,off,none⟩)::rv) ⟨.ptr ⟨n,[]⟩ t b off ⟨true,_,_,by rw [St.root_lay,if_pos rfl],rfl,fun _=>?_⟩,
     Iy _ _ _ _ (hrv.flat _ _ _ _ hrf)⟩) hk
    simp only [goto];rw [hγ]
 case h_2 ps t sh rs F hne=>
  have hgo:sh≠.gone:=hne
  replace hF:=AO.get hgo hF
  unfold Av.fresh at hq;rw [Ajb] at hq
  replace hq:=hq.1
  rw [Ajb] at hq
  have hio:Bh ps=[]:=by
   have:=hq.1;dsimp only at this;split at this
   ·assumption
   ·cases this
  have hrf:(rs.all fun x=>x.1.flat)=true:=by
   have:=hq.2;dsimp only at this;split at this
   ·cases this
   ·rename_i heq;injection heq with e1 e2
    injection e1 with _ e1
    exact absurd e1 hgo
   ·rename_i _ _ heq;injection heq with e1 e2
    subst e2;rw [Ajb,List.all_eq_true] at this;rw [List.all_eq_true];intro x hx;have:=this.2 x hx;rw [Ajb] at this;exact this.1
   ·cases this
  split at h
  case h_1=>cases h
  case h_2 hl=>
   obtain ⟨az,hk,h1,h2⟩:=DP S hfn _ ss vs hio hB h;split at hk
   case h_2=>cases hk
   case h_1 res hres=>
    have hcall:Calls P g vs.toArray w fun e w' =>∃ v rv cs G,e = .returned (CY (v::rv))/\AF Ab.none w w' /\(∀ b,G b->w.heap.size<=b)/\C_ t v cs/\
      Rep w' (fun b=>O b\/G b) t sh res.1 cs G/\Bc w' (fun b=>O b\/G b) rs (Bh ps) res.2 rv:=by
     by_cases hlent:Slot.lentL ss=false
     ·exact hF.2 w O az vs res S.bound (h2 hlent) hres
     ·have hall:sh=t.ownAll:=by
       simp only [Bool.not_eq_false] at hlent;simpa [hlent] using hl
      subst hall;refine (hF.2 w O₀ az vs res S.old h1 hres).mono ?_;rintro e w' ⟨v,rv,cs,G,rfl,K,hG,hv,hrep,hrv⟩;exact ⟨v,rv,cs,G,rfl,K,hG,hv,hrep.ownAny fun b hb=>.inr hb,hrv.flat _ _ _ _ hrf⟩
    refine hcall.mono ?_;rintro e w' ⟨v,rv,cs,G,rfl,K,hG,hv,hrep,hrv⟩;have S₁:=S.gain K (G:=G) fun b hb=>⟨hG b hb,(hrep.owned b hb).2⟩
    obtain ⟨γ',φ',O',S',A,hγ,hφ⟩:=S₁.lay (n:=n) (O₀:=O₀) (r:=.data false ⟨t,res.1⟩ sh) (src:=.val cs) (F:=G) (AF.refl _ _) (fun _=>.inl)
     (fun b hb=>.inr (.inr ⟨.inr hb,fun ho=>by have:=S.old b ho;have:=hG b hb;omega,.inl (Nat.le_trans S.kept.size (hG b hb))⟩))
     (fun O' γ' φ' A hγ hO=>⟨cs,rfl,Rep.frame (Nat.le_refl _) (fun _ _ _=>rfl) (fun _ _=>rfl) A.free (fun b hb _=>hO b hb) hrep⟩) (fun e=>absurd e hn4)
    refine hR _ _ _ γ' φ' O' w' S' (CW.one (ss:=.ref t ⟨n,[]⟩::_) (vs:=v::rv) ⟨.ref t ⟨n,[]⟩ v (.val cs) ⟨false,_,_,by rw [St.root_lay,if_pos rfl],rfl,fun _=>?_⟩ fun _=>⟨cs,rfl,hv⟩,
     Iy _ _ _ _ (hrv.flat _ _ _ _ hrf)⟩) hk
    simp only [goto];rw [hγ]
theorem WP (S:Sim P env w₀ O₀ W σ γ φ O a w) (hfn:env.FnOk P) {o:Oper} {k:AV->Slot->Option α} {r:α} (h:ET env σ o k=some r)
  {next:Act->World->Prop} {Q:Exit->Act->World->Prop}
  (hnext:∀ R s v γ' φ' O' w',Sim P env w₀ O₀ W (σ.lay (AD o) R) γ' φ' O' a w' ->Ak P w' O' (σ.lay (AD o) R) γ' s v->k R s=some r->next (a.put o.dst v) w') :
  o.upon P a next Q ((execOp a.eval o).run P w):=by
 unfold ET at h;split at h
 case h_2=>cases h
 case h_1 c ho=>
  split at h
  case h_2=>cases h
  case h_1 f hc=>
   have hs:=S.val f;split at h
   case h_2=>cases h
   case h_1 g caps hv=>
    rw [hv] at hs;generalize hvv:a.eval f=v at hs;cases hs with
    |clo _ _ vs hl hall=>
     split at h
     case h_2=>cases h
     case h_1 fu hF=>
      split at h
      case h_2=>cases h
      case h_1 hq=>
       have hFr:=(hfn.1 g fu hF).2.2 hq
       have hfd : ∃ fn, P.funcs[g]? = some fn /\ fn.body.isSome = true /\ fn.name ≠ "runtime.NumGoroutine" := by
        unfold AO at hFr;split at hFr
        ·exact hFr.1
        ·exact hFr.1
        ·exact hFr.elim
       rw [JT ho hc hvv hfd w,Oper.upon_enter];have hB:=(S.vals c.args.toList).append (CW.get hl hall)
       have e:(c.args.map a.eval++vs)=((c.args.toList.map a.eval)++vs.toList).toArray:=by
        apply Array.ext';simp
       rw [e];exact UC S hfn hFr hq hB (Ee o) h hnext
theorem WQ (S:Sim P env w₀ O₀ W σ γ φ O a w) (hfn:env.FnOk P) {o:Oper} {f:FuncId} {first caps:Array Operand} (ho:o.op = .makeFunc (.func f) first caps) {x:Operand} (hx:first.toList=[x])
  {k:Slot->Option α} {r:α} (h:JO env σ f (σ.val x) (caps.toList.map σ.val) k=some r):aI P w O σ γ (execOp a.eval o) k r:=by
 have hfirst:first = #[x]:=by apply Array.ext';simpa using hx
 subst hfirst
 have hex:(execOp a.eval o).run P w = .ok (.value (.func (.func f) #[a.eval x] (caps.map a.eval))) w:=by
  unfold execOp;rw [ho];dsimp only;rw [show (#[x]:Array Operand).map a.eval = #[a.eval x] by simp];rfl
 unfold JO at h;split at h
 case h_2=>cases h
 case h_1 d hd=>
  split at h
  case h_2=>cases h
  case h_1 t u ps b F hF=>
   split at h
   case h_2=>cases h
   case h_1 hio hc=>
    rw [Ajb,Bool.not_eq_true'] at hc;obtain ⟨hfl,hlent⟩:=hc;obtain ⟨e,h⟩:=As h;obtain ⟨dt,dx⟩:=d;dsimp only at e;subst e;dsimp only at h;have hB:CW P w O σ γ (caps.toList.map σ.val) (caps.toList.map a.eval):=S.vals caps.toList;obtain ⟨c,hk,_,hc2⟩:=PJ S ps _ _ hB h;have hvx:=S.val x;rw [hd] at hvx;have hq:(⟨.ro dt :: .ro u::ps,[(b,.z)],F⟩:Av).quiet=true:=by simp [Av.quiet,je,Bh,hio]
    obtain ⟨hfd,hcall⟩:=(hfn.1 f _ hF).1 hq;refine ⟨_,_,hex,.fnA u b _ _ w O hfl (AF.refl _ _) (fun _ _ h=>h) ?_,hk⟩;refine ⟨f,#[a.eval x],caps.map a.eval,rfl,hfd,fun w₁ K y va z cs hva hy hz=>?_⟩;obtain ⟨r',hr',hz'⟩:=Option.map_eq_some_iff.1 hz;have hargs:AT P w₁ Ab.none (.ro u::ps) (y,c) (va::caps.toList.map a.eval):=⟨va,_,cs,rfl,hva,hy,(hc2 hlent).kept K fun _ h=>h⟩
    have hbnd:∃ cs,C_ dt (a.eval x) cs/\Rep w₁ Ab.none dt .z dx cs Ab.none:=by
     cases hvx with
     |pv _ _ cs hv hr=>exact ⟨cs,hv,Rep.frame K.size (fun b h hn=>K.block b h hn) (fun _ h=>h.elim) (fun _ _ _ h=>h) (fun _ h=>h.elim) hr⟩
    obtain ⟨cs',hv',hr''⟩:=hbnd;have hargs':AT P w₁ Ab.none (.ro dt :: .ro u::ps) (dx,y,c) (a.eval x::va::caps.toList.map a.eval):=⟨_,_,cs',rfl,hv',hr'',hargs⟩;have:=hcall w₁ Ab.none (dx,y,c) _ r' (fun b h=>h.elim) hargs' hr';rw [show (a.eval x::va::caps.toList.map a.eval).toArray = #[a.eval x] ++ #[va]++caps.map a.eval by apply Array.ext';simp] at this;refine this.mono ?_;rintro e w₂ ⟨rv,he,hk₂,vb,rv',cs'',hrv,hvb,hrb,hnil⟩;have hnil':rv'=[]:=hnil;subst hnil' hrv;refine ⟨vb,cs'',he,hk₂,hvb,?_⟩;rw [<-hz'];exact hrb
end Go.V
namespace Go.V
variable {α:Type}
variable {P:Program} {env:Bf} {w₀ w w':World} {O₀ O₁ W O O':Ab} {σ σ₀ σ' σ₁:St} {γ γ':Name->Src} {φ φ':Name->Ab} {a a':Act} {n:Name}
theorem Ak.less (hO:∀ b,b<w.heap.size->¬O b->¬O' b) {s:Slot} {v:Value} (h:Ak P w O σ γ s v):Ak P w O' σ γ s v:=by
 have frame:∀ {t:Ty} {x:t.den} {cs:List Value},Rep w O t .z x cs Ab.none->Rep w O' t .z x cs Ab.none:=fun hr=>
  Rep.frame (Nat.le_refl _) (fun _ _ _=>rfl) (fun _ h=>h.elim) hO (fun _ h=>h.elim) hr
 induction h with
 |undef v=>exact .undef v
 |pv d v cs hv hr=>exact .pv d v cs hv (frame hr)
 |ref t p v src hp hl=>exact .ref t p v src hp hl
 |vw e p lo hi src an k c hp hl h1 h2=>exact .vw e p lo hi src an k c hp hl h1 h2
 |ptr p t b off hp=>exact .ptr p t b off hp
 |ptrH m s b off hr hs=>exact .ptrH m s b off hr hs
 |fptr d b off cs h1 h2 h3 h4=>exact .fptr d b off cs h1 (hO b h1 h2) (frame h3) h4
 |clo f caps vs hl hall ih=>exact .clo f caps vs hl ih
 |fnA a b φ v w₀' O₀' hf hk ho hfn=>
  exact .fnA a b φ v w₀' O₀' hf hk (fun b hb hO' =>ho b hb (Classical.byContradiction fun hn=>hO b (Nat.lt_of_lt_of_le hb hk.size) hn hO')) hfn
 |tup l vs hl hall ih=>exact .tup l vs hl ih
 |nilS=>exact .nilS
 |may e b h=>exact .may e b h
theorem Sim.forget (S:Sim P env w₀ O₁ W σ γ φ O a w) (hsub:∀ b,O₀ b->O₁ b):∃ O',Sim P env w₀ O₀ W σ γ φ O' a w/\∀ b,¬O b->¬O' b:=by
 let O':Ab:=fun b=>O₀ b\/∃ m r',σ.root m=some r' /\φ m b
 have hle:∀ b,¬O b->¬O' b:=by
  rintro b hO (h | h)
  ·exact hO ((S.own b).2 (.inl (hsub b h)))
  ·exact hO ((S.own b).2 (.inr h))
 refine ⟨O',⟨S.defers,S.size,S.kept,?_,S.apart,fun n r hr b hb=>⟨(S.fresh n r hr b hb).1,fun h=>(S.fresh n r hr b hb).2 (hsub b h)⟩,fun b=>Iff.rfl,fun b hb=>S.old b (hsub b hb),fun i=>(S.slots i).less fun b _=>hle b,S.pin⟩,hle⟩;intro m r hr;have R:=S.roots m r hr;have hO':∀ b,φ m b->O' b:=fun b hb=>.inr ⟨m,r,hr,hb⟩
 have fr:∀ {t:Ty} {sh:Sh} {x:t.den} {cs:List Value} {F:Ab},(∀ b,F b->φ m b)->Rep w O t sh x cs F->Rep w O' t sh x cs F:=fun hF h=>
  Rep.frame (Nat.le_refl _) (fun _ _ _=>rfl) (fun _ _=>rfl) (fun b _=>hle b) (fun b hb _=>hO' b (hF b hb)) h
 cases r with
 |data bx d sh=>
  cases bx with
  |true=>
   obtain ⟨b,off,C,tid,fr',cs,F',hsrc,hb,hfz,hcs,hrep,hF',hOb,hU⟩:=R;exact ⟨b,off,C,tid,fr',cs,F',hsrc,hb,hfz,hcs,fr (fun k hk=>(hU k).2 (.inr hk)) hrep,hF',hO' b ((hU b).2 (.inl rfl)),hU⟩
  |false=>
   obtain ⟨cs,hsrc,hrep⟩:=R;exact ⟨cs,hsrc,fr (fun _ h=>h) hrep⟩
 |held s=>
  obtain ⟨b,off,C,tid,fr',v,hsrc,hb,hfz,hC,hs,hOb,hU⟩:=R;exact ⟨b,off,C,tid,fr',v,hsrc,hb,hfz,hC,hs.less fun b _=>hle b,hO' b ((hU b).2 rfl),hU⟩
theorem Sh.whole_gone {sh:Sh} (h:sh.whole=true):sh≠.gone:=by rintro rfl;cases h
theorem Zj {s:Slot} {v:Value} (h:Ak P w O σ γ s v) (hl:s.lone=true):v.cells = #[v]:=by
 cases h with
 |ptr p t b off hp=>rfl
 |ptrH m s b off hr hs=>rfl
 |fptr d b off cs h1 h2 h3 h4=>rfl
 |clo f caps vs hl hall=>rfl
 |fnA a b φ v w₀' O₀' hf hk ho hfn=>obtain ⟨f,bnd,caps,rfl,_⟩:=hfn;rfl
 |undef v=>cases hl
 |pv d v cs hv hr=>cases hl
 |ref t p v src hp hl' =>cases hl
 |vw e p lo hi src an k c hp hl' h1 h2=>cases hl
 |tup l vs hl' hall=>cases hl
 |nilS=>cases hl
 |may e b h=>cases hl
theorem nN (S:Sim P env w₀ O₀ W σ γ φ O a w) {o:Oper} {t:TypeId} {x:Operand} (ho:o.op = .box t x) {k:Slot->St->Option α} {r:α} (h:Cj env σ o k=some r) :
  HM P env w₀ O₀ W a w (execOp a.eval o) k r:=by
 unfold Cj at h;rw [ho] at h;dsimp only at h;have hex:execOp a.eval o=(do pure (.value (<-Instr.box t (a.eval x)))):=by unfold execOp;rw [ho]
 rw [hex];split at h
 ·rename_i t' ht;obtain ⟨y,sh,σ₁,cs,F,hk,hwh,hval,hrep,S₁,_,hF⟩:=PI S (Iv.refl σ) (S.val x) h;obtain ⟨γ',φ',O',S',hs⟩:=aJ S₁ (fun _ h=>.inl h) (AD o) t hrep (fun b hb=>⟨.inr hb,hF b hb⟩) (Ee o);refine ⟨_,_,_,γ',φ',O',_,.inl ?_,S',hs,hk⟩;simp only [Instr.box,Sem.run_bind,Sem.run_pure,Result.andThen_ok,Hk,hval.cells (fun ha=>hrep.notAgg (Sh.whole_gone hwh) hval ha)]
 ·split at h
  ·rename_i hone;simp only [Ajb] at hone;obtain ⟨γ',φ',O',S',hs⟩:=WN S (AD o) t (S.val x);refine ⟨_,_,_,γ',φ',O',_,.inl ?_,S',hs,h⟩;simp only [Instr.box,Sem.run_bind,Sem.run_pure,Result.andThen_ok,Hk,Zj (S.val x) hone.2]
  ·cases h
def QH (off:Nat) (new cs:List Value):List Value:=cs.take off++(new++cs.drop (off+new.length))
theorem WR (off:Nat) (v:Array Value) (cells:Array Value) (h:off+v.size<=cells.size) :
  v.zipIdx.foldl (fun cs (c,j)=>cs.setIfInBounds (off+j) c) cells=(QH off v.toList cells.toList).toArray:=by
 rw [<-Array.foldl_toList,Array.toList_zipIdx];have h2:=(Great.foldl_set off v.toList 0 cells).2;apply Array.ext_getElem?;intro k;refine (h2 k).trans ?_;unfold QH;simp only [Nat.add_zero,Array.length_toList,List.getElem?_toArray];by_cases h3:k<off
 ·rw [if_neg (by omega),List.getElem?_append_left (by simp;omega),List.getElem?_take_of_lt h3,Array.getElem?_toList]
 ·rw [List.getElem?_append_right (by simp;omega)];have e:(List.take off cells.toList).length=off:=by simp;omega
  rw [e];by_cases h4:k<off+v.size
  ·rw [if_pos ⟨by omega,h4,by omega⟩,List.getElem?_append_left (by simp;omega)]
  ·rw [if_neg (by omega),List.getElem?_append_right (by simp;omega),List.getElem?_drop,<-Array.getElem?_toList];congr 1;simp;omega
def Ty.off:Nat->Ty->Nat
 |n+1,.pair a b=>a.size+b.off n
 |_,_=>0
theorem eZ:∀ (n:Nat) {t tf:Ty},Gu (Ao n) t=some tf->t.off n+tf.size<=t.size
 |0,t,tf,h=>by
  cases t<;>simp only [Ao,Gu] at h<;>try (cases h;done)
  injection h with h
  subst h;simp only [Ty.off,Ty.size];omega
 |n+1,t,tf,h=>by
  cases t<;>simp only [Ao,Gu] at h<;>try (cases h;done)
  have:=eZ n h;simp only [Ty.off,Ty.size];omega
theorem WS:∀ (n:Nat) {t tf:Ty} {sh:Sh} {x:t.den} {cs:List Value} {F:Ab} {shy:Sh} {y:tf.den} {cy:List Value} {Fy:Ab} {x':t.den} {sh':Sh},
  Gu (Ao n) t=some tf->Rep w O t sh x cs F->Rep w O tf shy y cy Fy->(∀ b,¬(F b/\Fy b))->BT (Ao n) t x ⟨tf,y⟩ some=some x' ->BS (Ao n) sh shy=some sh' ->
  ∃ F',Rep w O t sh' x' (QH (t.off n) cy cs) F' /\∀ b,F' b->F b\/Fy b
 |0,t,tf,sh,x,cs,F,shy,y,cy,Fy,x',sh',ht,hr,hy,hd,hx,hs=>by
  cases t<;>simp only [Ao,Gu] at ht<;>try (cases ht;done)
  injection ht with ht
  subst ht;obtain ⟨c₁,c₂,F₁,F₂,hc,h1,h2,hU,hd'⟩:=hr;simp only [Ao,BT,dif_pos] at hx;injection hx with hx
  subst hx;simp only [Ao,BS,Option.map_some] at hs;injection hs with hs
  subst hs;refine ⟨fun b=>Fy b\/F₂ b,⟨cy,c₂,Fy,F₂,?_,by rw [Sh.mk_l];exact hy,by rw [Sh.mk_r];exact h2,fun _=>Iff.rfl,fun b hb=>hd b ⟨(hU b).2 (.inr hb.2),hb.1⟩⟩,fun b hb=>?_⟩
  ·subst hc;unfold QH Ty.off;rw [Nat.zero_add,List.take_zero,List.nil_append,hy.len,<-h1.len,List.drop_left]
  ·rcases hb with hb | hb
   ·exact .inr hb
   ·exact .inl ((hU b).2 (.inr hb))
 |n+1,t,tf,sh,x,cs,F,shy,y,cy,Fy,x',sh',ht,hr,hy,hd,hx,hs=>by
  cases t<;>simp only [Ao,Gu] at ht<;>try (cases ht;done)
  rename_i u v;obtain ⟨c₁,c₂,F₁,F₂,hc,h1,h2,hU,hd'⟩:=hr;simp only [Ao,BT] at hx;obtain ⟨x₂,hx₂,e⟩:=BE hx;injection e with e
  subst e;simp only [Ao,BS] at hs;obtain ⟨s₂,hs₂,e⟩:=Option.map_eq_some_iff.1 hs;subst e;obtain ⟨F₂',hr₂,hF₂⟩:=WS n ht h2 hy (fun b hb=>hd b ⟨(hU b).2 (.inr hb.1),hb.2⟩) hx₂ hs₂;refine ⟨fun b=>F₁ b\/F₂' b,⟨c₁,_,F₁,F₂',?_,by rw [Sh.mk_l];exact h1,by rw [Sh.mk_r];exact hr₂,fun _=>Iff.rfl,fun b hb=>?_⟩,fun b hb=>?_⟩
  ·subst hc;unfold QH;simp only [Ty.off];have e:=h1.len;rw [<-e,List.take_length_add_append,Nat.add_assoc,List.drop_length_add_append,List.append_assoc]
  ·rcases hF₂ b hb.2 with h | h
   ·exact hd' b ⟨hb.1,h⟩
   ·exact hd b ⟨(hU b).2 (.inl hb.1),h⟩
  ·rcases hb with hb | hb
   ·exact .inl ((hU b).2 (.inl hb))
   ·rcases hF₂ b hb with h | h
    ·exact .inl ((hU b).2 (.inr h))
    ·exact .inr h
theorem NZ:∀ (t:Ty) (fs:List Field) (base:Nat),(Bw P t).2 fs base->
  ∃ places,fs.mapM (fun f=>(P.info? f.type).map fun i=>(f.offset,i.size))=some places/\∀ n tf,Gu (Ao n) t=some tf->places[n]? = some (base+t.off n,tf.size)
 |.int _,fs,base,h=>h.elim
 |.bool,fs,base,h=>h.elim
 |.str,fs,base,h=>h.elim
 |.slice _,fs,base,h=>h.elim
 |.unit,fs,base,h=>by
  have h:fs=[]:=h;subst h;exact ⟨[],rfl,fun n tf ht=>by cases n<;>simp [Ao,Gu] at ht⟩
 |.pair u v,fs,base,h=>by
  obtain ⟨f,rest,rfl,hoff,_,_,⟨i,hi,his⟩,hrest⟩:=h;obtain ⟨places,hp,hpl⟩:=NZ v rest (base+u.size) hrest;refine ⟨(f.offset,i.size)::places,by simp [List.mapM_cons,hi,hp],?_⟩;intro n tf ht;cases n with
  |zero=>
   simp only [Ao,Gu] at ht;injection ht with ht
   subst ht;simp [hoff,his,Ty.off]
  |succ n=>
   simp only [Ao,Gu] at ht;have:=hpl n tf ht;simp only [List.getElem?_cons_succ,this,Ty.off,Nat.add_assoc]
theorem QI (S:Sim P env w₀ O₀ W σ γ φ O a w) {t:Ty} {places:List (Nat×Nat)} (hpl:∀ n tf,Gu (Ao n) t=some tf->places[n]? = some (t.off n,tf.size)) {k:t.den->Sh->St->Option α} {r:α} :
  ∀ (l:List (Nat×Operand)) {x:t.den} {sh:Sh} {cs:List Value} {F O₁:Ab} {σ₁:St},Sim P env w₀ O₁ W σ₁ γ φ O a w->Iv σ₁ σ->Rep w O t sh x cs F->
   (∀ b,F b->O₁ b/\¬O₀ b/\(w₀.heap.size<=b\/W b))->(∀ b,O₀ b->O₁ b)->IU t (l.map fun x=>(x.1,σ.val x.2)) x sh σ₁ k=some r->
   ∃ x' sh' σ₂ cs' F' O₂,k x' sh' σ₂=some r/\Sim P env w₀ O₂ W σ₂ γ φ O a w/\Iv σ₂ σ/\Rep w O t sh' x' cs' F' /\
    (∀ b,F' b->O₂ b/\¬O₀ b/\(w₀.heap.size<=b\/W b))/\(∀ b,O₀ b->O₂ b)/\Instr.fill (places.toArray[·]?) cs.toArray (l.map fun x=>(x.1,a.eval x.2))=some cs'.toArray
 |[],x,sh,cs,F,O₁,σ₁,S₁,hl,hr,hF,hsub,h=>⟨x,sh,σ₁,cs,F,O₁,h,S₁,hl,hr,hF,hsub,rfl⟩
 |(i,q)::l,x,sh,cs,F,O₁,σ₁,S₁,hl,hr,hF,hsub,h=>by
  simp only [List.map_cons] at h;unfold IU at h;split at h
  case h_2=>cases h
  case h_1 tf htf=>
   obtain ⟨y,shy,σ₂,cy,Fy,hk,hwh,hval,hry,S₂,hl₂,hFy⟩:=PI S₁ hl (S.val q) h;obtain ⟨x',hx',hk⟩:=BE hk;split at hk
   case h_2=>cases hk
   case h_1 sh' hsh=>
    obtain ⟨F',hr',hF'⟩:=WS i htf hr hry (fun b hb=>(hFy b hb.2).1 (hF b hb.1).1) hx' hsh
    obtain ⟨x₃,sh₃,σ₃,cs₃,F₃,O₃,g1,g2,g3,g4,g5,g6,g7⟩:=QI S hpl l S₂ hl₂ hr' (fun b hb=>by
     rcases hF' b hb with h | h
     ·exact ⟨.inl (hF b h).1,(hF b h).2⟩
     ·exact ⟨.inr h,fun h0=>(hFy b h).1 (hsub b h0),(hFy b h).2⟩) (fun b hb=>.inl (hsub b hb)) hk
    refine ⟨x₃,sh₃,σ₃,cs₃,F₃,O₃,g1,g2,g3,g4,g5,g6,?_⟩;have hcells:=hval.cells (fun ha=>hry.notAgg (Sh.whole_gone hwh) hval ha);have hle:=eZ i htf;have hcl:=hr.len;have hcy:=hry.len;simp only [List.map_cons];unfold Instr.fill;have hp:places.toArray[i]? = some (t.off i,tf.size):=by rw [List.getElem?_toArray];exact hpl i tf htf
    simp only [hp,hcells];rw [if_neg (by simp;omega),WR _ _ _ (by simp;omega)];exact g7
theorem e_ (S:Sim P env w₀ O₀ W σ γ φ O a w) (hty:env.TyOk P) {o:Oper} {t:TypeId} {parts:Array (Nat×Operand)} (ho:o.op = .build t parts) {k:Slot->St->Option α} {r:α} (h:Cj env σ o k=some r) :
  HM P env w₀ O₀ W a w (execOp a.eval o) k r:=by
 unfold Cj at h;rw [ho] at h;dsimp only at h;have hex:execOp a.eval o=(do pure (.value (<-Instr.build t (parts.map fun (i,x)=>(i,a.eval x))))):=by unfold execOp;rw [ho]
 rw [hex];split at h
 case h_2=>cases h
 case h_1 t' ht=>
  split at h
  case h_2=>cases h
  case h_1 hagg=>
   obtain ⟨hinf,_,_,it,hit,hits,_,z,cs,hz,hval,hrep⟩:=hty.1 _ _ ht
   obtain ⟨fs,hu,hfs⟩:∃ fs,P.underlying t=some (.struct fs)/\(Bw P t').2 fs.toList 0:=by
    cases t' with
    |pair u v=>obtain ⟨fs,hu,_,hq⟩:=hinf;exact ⟨fs,hu,hq⟩
    |unit=>obtain ⟨fs,hu,_,hq⟩:=hinf;exact ⟨fs,hu,hq⟩
    |int _=>cases hagg
    |bool=>cases hagg
    |str=>cases hagg
    |slice _=>cases hagg
   obtain ⟨places,hp,hpl⟩:=NZ t' fs.toList 0 hfs;simp only [Nat.zero_add] at hpl;obtain ⟨x',sh',σ₂,cs',F',O₂,hk,S₂,_,hr',hF',hsub,hfill⟩:=QI S hpl parts.toList S (Iv.refl σ) (hrep w O) (fun b hb=>hb.elim) (fun _ h=>h) h;have hzv:=hval.many hagg
   have hrun:(Instr.build t (parts.map fun (i,x)=>(i,a.eval x))).run P w = .ok (.agg cs'.toArray) w:=by
    apply run_build;unfold Program.built;simp only [hit,hu,hz,hp,hzv,Value.cells,Array.toList_map];exact hfill
   have hv':C_ t' (.agg cs'.toArray) cs' :=by simp [C_,hagg]
   split at hk
   ·rename_i hfl;obtain ⟨O₃,S₃,_⟩:=S₂.forget hsub;exact ⟨_,_,_,γ,φ,O₃,w,.inl (by simp [hrun]),S₃,.pv _ _ cs' hv' (hr'.flat hfl),hk⟩
   ·obtain ⟨γ',φ',O',S',A,hγ,hφ⟩:=S₂.lay (n:=AD o) (O₀:=O₀) (r:=.data false ⟨t',x'⟩ sh') (src:=.val cs') (F:=F') (AF.refl _ _) hsub (fun b hb=>.inr (.inr (hF' b hb)))
     (fun O' γ' φ' A hγ hO=>⟨cs',rfl,Rep.frame (Nat.le_refl _) (fun _ _ _=>rfl) (fun _ _=>rfl) A.free (fun b hb _=>hO b hb) hr'⟩)
    refine ⟨_,.agg cs'.toArray,_,γ',φ',O',w,.inl (by simp [hrun]),S',?_,hk⟩;refine .ref t' ⟨AD o,[]⟩ _ (.val cs') ⟨false,⟨t',x'⟩,sh',by rw [St.root_lay,if_pos rfl],rfl,fun _=>?_⟩ fun _=>⟨cs',?_,hv'⟩
    ·simp only [goto];rw [hγ]
    ·rfl
end Go.V
