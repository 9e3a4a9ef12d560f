/-
  A text of mine, of several parts: EngDef, EngStep, EngRel, EngKeys, EngMem, EngMem2, EngGather, EngOps1, EngOps2, EngOps3, EngOps4, EngOps5.
-/
import Derived.Handy
import Derived.Laws.Sem
import Derived.Below
import Derived.Maps.AppendAt
import Derived.DeepKeys3
import Derived.Maps.Keyed
import Derived.Maps.Own
import Derived.Maps.OwnSet
import Derived.Maps.Views
import Derived.Maps.Range
import Derived.Sort.KeysCollected
import Derived.Laws.Small
import Derived.Laws.StructEq
import Derived.Laws.Slices
import Derived.Laws.CopyRow
import Derived.Great.FillDense
import Derived.Laws.MakeOwn
set_option linter.all false
namespace Go.Eng

inductive Ty where
  | int (k : IntKind) | bool | str | unit
  | cons (t u : Ty) | sl (t : Ty) | ptr (t : Ty) | fn (a r : Ty) | err | fp
  deriving DecidableEq

abbrev Ty.El : Ty → Type
  | .int _ => Int
  | .bool => Bool
  | .str => ByteArray
  | .unit => Unit
  | .cons t u => t.El × u.El
  | .sl t => List t.El
  | .ptr t => Option t.El
  | .fn a r => a.El → r.El
  | .err => Bool
  | .fp => Option FuncId

def Ty.size : Ty → Nat
  | .unit => 0
  | .cons t u => t.size + u.size
  | _ => 1

def Ty.isAgg : Ty → Bool
  | .unit | .cons .. => true
  | _ => false

def Ty.flat : Ty → Bool
  | .int _ | .bool | .str | .unit | .err => true
  | .cons t u => t.flat && u.flat
  | _ => false

def Ty.arr : Nat → Ty → Ty
  | 0, _ => .unit
  | n + 1, t => .cons t (.arr n t)

def Ty.zero : (t : Ty) → t.El
  | .int _ => (0 : Int)
  | .bool => false
  | .str => ByteArray.empty
  | .unit => ()
  | .cons t u => (t.zero, u.zero)
  | .sl _ => []
  | .ptr _ => none
  | .fn _ r => fun _ => r.zero
  | .err => false
  | .fp => none

def keyable : Ty → Bool
  | .int _ | .bool | .str | .unit => true
  | .cons t u => keyable t && keyable u
  | _ => false

def Ty.eqb : (t : Ty) → t.El → t.El → Bool
  | .int _, (x : Int), (y : Int) => decide (x = y)
  | .bool, (x : Bool), (y : Bool) => x == y
  | .str, (x : ByteArray), (y : ByteArray) => decide (x = y)
  | .unit, _, _ => true
  | .cons t u, x, y => t.eqb x.1 y.1 && u.eqb x.2 y.2
  | _, _, _ => false

theorem eqb_eq : ∀ (t : Ty), t.flat = true → ∀ x y : t.El, t.eqb x y = true → x = y
  | .int _, _, (x : Int), (y : Int), h => of_decide_eq_true (show decide (x = y) = true from h)
  | .bool, _, (x : Bool), (y : Bool), h => by simpa [Ty.eqb] using h
  | .str, _, (x : ByteArray), (y : ByteArray), h => of_decide_eq_true (show decide (x = y) = true from h)
  | .unit, _, _, _, _ => rfl
  | .err, _, _, _, h => by simp [Ty.eqb] at h
  | .fp, _, _, _, h => by simp [Ty.eqb] at h
  | .cons t u, hf, x, y, h => by
    simp only [Ty.flat, Bool.and_eq_true] at hf
    simp only [Ty.eqb, Bool.and_eq_true] at h
    exact Prod.ext (eqb_eq t hf.1 _ _ h.1) (eqb_eq u hf.2 _ _ h.2)

def repOf (t : Ty) (n : Nat) (xs : List t.El) : Option (List t.El) := if t.flat && xs.all (fun y => t.eqb y t.zero) && decide (xs.length = n) then some (List.replicate n t.zero) else none
theorem repOf_eq {t : Ty} {n : Nat} {xs ys : List t.El} (h : repOf t n xs = some ys) : ys = xs := by
  unfold repOf at h
  split at h
  · rename_i hc
    simp only [Bool.and_eq_true, decide_eq_true_eq, List.all_eq_true] at hc
    obtain rfl := Option.some.inj h
    exact (List.eq_replicate_iff.2 ⟨hc.2, fun b hb => eqb_eq t hc.1.1 _ _ (hc.1.2 b hb)⟩).symm
  · cases h

inductive D where
  | dat (t : Ty) (x : t.El)
  | agg (ds : List D)
  | tup (ds : List D)
  | pt (o off : Nat)
  | pe (o i sub : Nat)
  | arr (o off n m : Nat)
  | arx (o base len lo hi : Nat) (p : Bool)
  | own (o : Nat)
  | fn (f : FuncId) (caps : List D)
  | cst (v : Value)
  | clip (t : Ty) (xs : List t.El)
  | ifc (T : TypeId) (t : Ty) (x : t.El)
  | gd (t : Nat) (want : Bool) (d : D)
  | any
  deriving Inhabited

inductive Blk where
  | cells (ty : TypeId) (ds : List D)
  | row (e : TypeId) (t : Ty) (xs : List t.El)
  | frow (t : Ty) (xs : List t.El)
  | brow (t : Ty) (xs : List t.El)
  | fcells (ty : TypeId) (ds : List D)
  | map (T : TypeId) (kt vt : Ty) (n : Nat) (f : kt.El → Option vt.El)
  | iter (s : ByteArray) (pos : Nat)
  | miter (vt : Ty) (f : ByteArray → Option vt.El) (left : ByteArray → Bool) (cnt : Nat) (cur : Option (ByteArray × vt.El))
  | dead
  | far
  | rfar
  | gone

abbrev Env := List (Nat × D)
abbrev Own := List (Nat × Blk)

def look : Env → Nat → D
  | [], _ => .any
  | (s, d) :: r, t => if s = t then d else look r t

def lookO : Own → Nat → Blk
  | [], _ => .gone
  | (s, b) :: r, t => if s = t then b else lookO r t

def cast? (t t' : Ty) (x : t.El) : Option t'.El := if h : t = t' then some (h ▸ x) else none

def leaves : (t : Ty) → t.El → List D
  | .unit, _ => []
  | .cons t u, x => leaves t x.1 ++ leaves u x.2
  | .int k, x => [.dat (.int k) x]
  | .bool, x => [.dat .bool x]
  | .str, x => [.dat .str x]
  | .sl t, x => [.dat (.sl t) x]
  | .ptr t, x => [.dat (.ptr t) x]
  | .fn a r, x => [.dat (.fn a r) x]
  | .err, x => [.dat .err x]
  | .fp, x => [.dat .fp x]

def flat : D → List D
  | .dat t x => leaves t x
  | .agg ds => ds
  | d => [d]

def gleaf (t : Ty) (d : D) (r : List D) : Option (t.El × List D) := match d with
  | .dat t' x => (cast? t' t x).map (·, r)
  | _ => none

def intsOf (k : IntKind) : List D → Option (List Int)
  | [] => some []
  | .dat (.int k') n :: r => if k' = k then match intsOf k r with
      | some ns => some (n :: ns)
      | none => none
    else none
  | _ :: _ => none
def arxL (t : Ty) (base len lo hi : Nat) (ds : List D) : Option (List t.El) := match t with
  | .int k => match intsOf k ((ds.drop base).take len) with
    | some ns => if ns.length = len ∧ len ≤ 65536 then some ((ns.take hi).drop lo : List Int) else none
    | none => none
  | _ => none
def gather (own : Own) : (t : Ty) → List D → Option (t.El × List D)
  | .unit, ds => some ((), ds)
  | .cons t u, ds => match gather own t ds with
    | some (x, r) => match gather own u r with
      | some (y, r') => some ((x, y), r')
      | none => none
    | none => none
  | .sl t, d :: r => match d with
    | .dat t' x => (cast? t' (.sl t) x).map (·, r)
    | .clip t' xs => (cast? (.sl t') (.sl t) xs).map (·, r)
    | .cst (.slice none 0 0) => some (([] : List t.El), r)
    | .own o => match lookO own o with
      | .row _ t' xs => (cast? (.sl t') (.sl t) xs).map (·, r)
      | .frow t' xs => (cast? (.sl t') (.sl t) xs).map (·, r)
      | _ => none
    | .arx o base len lo hi false => match lookO own o with
      | .cells _ ds => match arxL t base len lo hi ds with
        | some xs => some (xs, r)
        | none => none
      | _ => none
    | _ => none
  | .ptr t, d :: r => match d with
    | .dat t' x => (cast? t' (.ptr t) x).map (·, r)
    | .cst (.pointer none) => some ((none : Option t.El), r)
    | .pt o off => match lookO own o with
      | .cells _ ds => match gather own t (ds.drop off) with
        | some (x, _) => some (some x, r)
        | none => none
      | .fcells _ ds => match gather own t (ds.drop off) with
        | some (x, _) => some (some x, r)
        | none => none
      | _ => none
    | _ => none
  | .fp, d :: r => match d with
    | .dat t' x => (cast? t' .fp x).map (·, r)
    | .cst .nilFunc => some ((none : Option FuncId), r)
    | .fn f [] => some ((some f : Option FuncId), r)
    | _ => none
  | t, d :: r => gleaf t d r
  | _, [] => none

def freeze1 (own : Own) : D → Own
  | .own o => match lookO own o with
    | .row _ t xs => (o, .frow t xs) :: own
    | _ => own
  | .pt o _ => match lookO own o with
    | .cells ty ds => (o, .fcells ty ds) :: own
    | _ => own
  | _ => own
def freeze (own : Own) : List D → Own
  | [] => own
  | d :: r => freeze (freeze1 own d) r

def castF (kt vt kt' vt' : Ty) (f : kt.El → Option vt.El) : Option (kt'.El → Option vt'.El) := if h : kt = kt' then if h' : vt = vt' then some (h ▸ h' ▸ f) else none else none

def stayB : Blk → Blk
  | .frow t xs => .frow t xs
  | .fcells ty ds => .fcells ty ds
  | .gone => .gone
  | _ => .dead
def stay (own : Own) : Own := own.map fun p => (p.1, stayB p.2)
def showB : Blk → Blk
  | .brow t xs => .frow t xs
  | b => b
def shown (own : Own) : Own := own.map fun p => (p.1, showB p.2)

def leafB : D → Bool
  | .dat t _ => !t.isAgg
  | .cst v => v.oneCell'
  | .pt .. | .pe .. | .arr .. | .arx .. | .own _ | .fn .. | .clip .. | .ifc .. => true
  | _ => false

end Go.Eng
namespace Go.Eng

structure Cnd where
  p : Prop
  b : Bool
  ok : b = true → p
instance : CoeSort Cnd Prop := ⟨Cnd.p⟩
def cn (p : Prop) [Decidable p] : Cnd := ⟨p, decide p, of_decide_eq_true⟩
def Cnd.imp (c : Bool) (q : Cnd) : Cnd := ⟨c = true → q.p, !c || q.b, fun h hc => q.ok (by rw [hc] at h; exact h)⟩

structure Contract where
  a : Ty
  r : Ty
  pre : a.El → Prop
  F : a.El → r.El
  preB : a.El → Bool := fun _ => false
  preOk : ∀ x, preB x = true → pre x := by intro _ h; cases h
  fresh : Option TypeId := none
  clip : Bool := false

structure QCon where
  T : TypeId
  kt : Ty
  vt : Ty
  n : Nat
  f : kt.El → Option vt.El

structure St where
  env : Env
  own : Own
  nxt : Nat
  n : Nat

structure LoopAnn where
  α : Type
  keep : List Nat
  okeep : List Nat
  env : St → α → Env
  own : St → α → Own
  nxt : Nat
  inv : St → α → Prop
  mu : St → α → Nat
  pick : Option (St → St → α) := none
  frz : St → List D := fun _ => []

abbrev nilL (α : Type) : List α := []
abbrev noneO (α : Type) : Option α := none
structure Box (α : Type) where
  out : α
def Box.cast {t' : Ty} (t : Ty) (x : t'.El) : Box t.El := match cast? t' t x with
  | some y => ⟨y⟩
  | none => ⟨t.zero⟩
def bD (t : Ty) (own : Own) (d : D) : Box t.El := match d with
  | .dat t' x => .cast (t' := t') t x
  | .clip t' xs => .cast (t' := .sl t') t xs
  | .gd .. => ⟨t.zero⟩
  | d => match gather own t (flat d) with
    | some (y, []) => ⟨y⟩
    | _ => ⟨t.zero⟩
def bR (t : Ty) (own : Own) (d : D) : Box (List t.El) := match d with
  | .own o => match lookO own o with
    | .row _ t' xs => .cast (t' := .sl t') (.sl t) xs
    | .brow t' xs => .cast (t' := .sl t') (.sl t) xs
    | .frow t' xs => .cast (t' := .sl t') (.sl t) xs
    | _ => ⟨[]⟩
  | .pe o _ _ => match lookO own o with
    | .row _ t' xs => .cast (t' := .sl t') (.sl t) xs
    | _ => ⟨[]⟩
  | .dat t' xs => .cast (t' := t') (.sl t) xs
  | _ => ⟨[]⟩
def bM (kt vt : Ty) (own : Own) (d : D) : Box (Nat × (kt.El → Option vt.El)) := match d with
  | .own o => match lookO own o with
    | .map _ kt' vt' n f => match castF kt' vt' kt vt f with
      | some g => ⟨(n, g)⟩
      | none => ⟨(0, fun _ => none)⟩
    | _ => ⟨(0, fun _ => none)⟩
  | _ => ⟨(0, fun _ => none)⟩
def bDat (t : Ty) (s : St) (k : Nat) : Box t.El := bD t s.own (look s.env k)
def bRow (t : Ty) (s : St) (k : Nat) : Box (List t.El) := bR t s.own (look s.env k)
def bMap (kt vt : Ty) (s : St) (k : Nat) : Box (Nat × (kt.El → Option vt.El)) := bM kt vt s.own (look s.env k)
def cells (s : St) (k : Nat) : List D := match look s.env k with
  | .pt o off => match lookO s.own o with
    | .cells _ ds => ds.drop off
    | _ => []
  | _ => []
def cDat (t : Ty) (s : St) (k off : Nat) : Box t.El := match gather s.own t ((cells s k).drop off) with
  | some (y, _) => ⟨y⟩
  | none => ⟨t.zero⟩
def cRow (t : Ty) (s : St) (k off : Nat) : Box (List t.El) := bR t s.own ((cells s k).getD off .any)
def cMap (kt vt : Ty) (s : St) (k off : Nat) : Box (Nat × (kt.El → Option vt.El)) := bM kt vt s.own ((cells s k).getD off .any)

inductive TK where
  | int (k : IntKind) | bool | str
  | st (fs : List (Nat × TypeId)) | arr (n : Nat) (e : TypeId)
  | sl (e : TypeId) | mp (k e : TypeId) | ptr (e : TypeId) | fn | ifc | other

structure TI where
  size : Nat
  bytes : Nat
  zero : List Value
  kind : TK
  ty : Option Ty

structure MCon where
  e : TypeId
  t : Ty
  a : Ty
  fns : List FuncId := []
  pre : List t.El → a.El → Prop
  F : List t.El → a.El → List t.El
  eats : Bool

structure BCon where
  a : Ty
  t : Ty
  r : Ty
  pre : a.El → List t.El → Prop
  F : a.El → List t.El → r.El

structure Cfg where
  tab : List (TypeId × TI)
  cons : List (FuncId × Contract)
  inls : List (FuncId × Func)
  loops : List (Nat × LoopAnn)
  cuts : List (Nat × LoopAnn) := []
  unroll : Bool := false
  arrs : List Nat := []
  keys : List TypeId := []
  mcons : List (FuncId × MCon) := []
  bcons : List (FuncId × BCon) := []
  lets : List FuncId := []
  dyn : List (Nat × FuncId) := []
  qcons : List (FuncId × QCon) := []

def assoc {β : Type} : List (Nat × β) → Nat → Option β
  | [], _ => none
  | (s, b) :: r, t => if s = t then some b else assoc r t
def assocC : List (Nat × Contract) → Nat → Option Contract
  | [], _ => none
  | (s, b) :: r, t => if s = t then some b else assocC r t
def assocL : List (Nat × LoopAnn) → Nat → Option LoopAnn
  | [], _ => none
  | (s, b) :: r, t => if s = t then some b else assocL r t

def constD : Value → D
  | .int k n => if k.wrap n = n then .dat (.int k) n else .any
  | .bool b => .dat .bool b
  | .string s => if s.size ≤ maxLen then .dat .str s else .any
  | v => .cst v

structure Res where
  side : List Cnd
  hyp : List Prop
  d : D
  own : Own
  nxt : Nat

def Res.val (own : Own) (nxt : Nat) (d : D) : Res := ⟨[], [], d, own, nxt⟩

section
variable (C : Cfg)

def sizeT (T : TypeId) : Nat := match assoc C.tab T with | some i => i.size | none => 0
def bytesT (T : TypeId) : Nat := match assoc C.tab T with | some i => i.bytes | none => 0
def kindT (T : TypeId) : TK := match assoc C.tab T with | some i => i.kind | none => .other
def tyT (T : TypeId) : Option Ty := match assoc C.tab T with | some i => i.ty | none => none
def aggK : TK → Option Bool
  | .st _ | .arr .. => some true
  | .other => none
  | _ => some false
def aggT (T : TypeId) : Option Bool := aggK (kindT C T)
def zeroT (T : TypeId) : Option (List D) := match assoc C.tab T with
  | some i => some (i.zero.map constD)
  | none => none
def fieldT (T : TypeId) (f : Nat) : Option (Nat × TypeId) := match kindT C T with
  | .st fs => fs[f]?
  | _ => none

def opnd (env : Env) : Operand → D
  | .tmp t => look env t
  | .const v => constD v
  | .func f => .fn f []
  | .global _ => .any

def ungd : D → D
  | .gd .. => .any
  | d => d

def cut (agg : Bool) (k n : Nat) (ds : List D) : Option D :=
  match agg with
  | true => if ((ds.drop k).take n).length = n then some (.agg ((ds.drop k).take n)) else none
  | false => ds[k]?

def subAt : (t : Ty) → (off size : Nat) → Option (Σ u : Ty, t.El → u.El)
  | .cons t u, off, size =>
    if off = 0 ∧ t.size = size then some ⟨t, fun x => x.1⟩
    else if off < t.size then match subAt t off size with
      | some ⟨v, f⟩ => some ⟨v, fun x => f x.1⟩
      | none => none
    else match subAt u (off - t.size) size with
      | some ⟨v, f⟩ => some ⟨v, fun x => f x.2⟩
      | none => none
  | t, off, size => if off = 0 ∧ t.size = size then some ⟨t, fun x => x⟩ else none

def splice (ds : List D) (k : Nat) (new : List D) : List D := ds.take k ++ (new ++ ds.drop (k + new.length))

def slOf (own : Own) : D → Option (Σ t : Ty, List t.El)
  | .dat (.sl t) xs => some ⟨t, xs⟩
  | .clip t xs => some ⟨t, xs⟩
  | .own o => match lookO own o with
    | .row _ t xs => some ⟨t, xs⟩
    | .frow t xs => some ⟨t, xs⟩
    | _ => none
  | _ => none

def intD : D → Option (IntKind × Int)
  | .dat (.int k) n => some (k, n)
  | _ => none

def andI (k : IntKind) (x y : Int) : Int := k.wrap (BitVec.toNat (BitVec.ofInt k.bits x &&& BitVec.ofInt k.bits y))
def orI (k : IntKind) (x y : Int) : Int := k.wrap (BitVec.toNat (BitVec.ofInt k.bits x ||| BitVec.ofInt k.bits y))
def xorI (k : IntKind) (x y : Int) : Int := k.wrap (BitVec.toNat (BitVec.ofInt k.bits x ^^^ BitVec.ofInt k.bits y))
def nandI (k : IntKind) (x y : Int) : Int := k.wrap (BitVec.toNat (BitVec.ofInt k.bits x &&& ~~~BitVec.ofInt k.bits y))
def byteAt (s : ByteArray) (i : Nat) : Int := (((ByteArray.data s).toList.getD i 0).toNat : Int)
def subS (s : ByteArray) (l h : Nat) : ByteArray := s.extract l h
def bytesL (s : ByteArray) : List UInt8 := (ByteArray.data s).toList
def binStr (op : BinOp) (x y : ByteArray) : Option (List Cnd × D) :=
  match op with
  | .add => some ([cn (x.size + y.size ≤ maxLen)], .dat .str (x ++ y))
  | .eql => some ([], .dat .bool (decide (x = y)))
  | .neq => some ([], .dat .bool (!decide (x = y)))
  | .lss => some ([], .dat .bool (Op.bytesLess (bytesL x) (bytesL y)))
  | .gtr => some ([], .dat .bool (!(Op.bytesLess (bytesL x) (bytesL y) || decide (x = y))))
  | .leq => some ([], .dat .bool (Op.bytesLess (bytesL x) (bytesL y) || decide (x = y)))
  | .geq => some ([], .dat .bool (!Op.bytesLess (bytesL x) (bytesL y)))
  | _ => none
def shiftI (op : BinOp) (k : IntKind) (x y : Int) : Option (List Cnd × D) :=
  match op with
  | .shl => some ([cn (0 ≤ y)], .dat (.int k) (k.wrap (x * 2 ^ min y.toNat k.bits)))
  | .shr => some ([cn (0 ≤ y)], .dat (.int k) (x.fdiv (2 ^ min y.toNat k.bits)))
  | _ => none
def isShift : BinOp → Bool
  | .shl | .shr => true
  | _ => false
def binInt (op : BinOp) (k : IntKind) (x y : Int) : Option (List Cnd × D) :=
  match op with
  | .add => some ([], .dat (.int k) (k.wrap (x + y)))
  | .sub => some ([], .dat (.int k) (k.wrap (x - y)))
  | .mul => some ([], .dat (.int k) (k.wrap (x * y)))
  | .quo => some ([cn (y ≠ 0)], .dat (.int k) (k.wrap (x.tdiv y)))
  | .rem => some ([cn (y ≠ 0)], .dat (.int k) (x.tmod y))
  | .and => some ([], .dat (.int k) (andI k x y))
  | .or => some ([], .dat (.int k) (orI k x y))
  | .xor => some ([], .dat (.int k) (xorI k x y))
  | .andNot => some ([], .dat (.int k) (nandI k x y))
  | .eql => some ([], .dat .bool (decide (x = y)))
  | .neq => some ([], .dat .bool (!decide (x = y)))
  | .lss => some ([], .dat .bool (decide (x < y)))
  | .leq => some ([], .dat .bool (decide (x ≤ y)))
  | .gtr => some ([], .dat .bool (decide (x > y)))
  | .geq => some ([], .dat .bool (decide (x ≥ y)))
  | _ => none

def fits : Ty → List D → Bool
  | .cons t u, d :: r => (match d with
      | .agg ds => t.isAgg && ds.length == t.size
      | .dat t' _ => t.isAgg == t'.isAgg && t'.size == t.size
      | .any => false
      | .gd .. => false
      | .tup _ => false
      | .cst v => v.oneCell' && !t.isAgg
      | _ => !t.isAgg) && fits u r
  | .unit, [] => true
  | _, _ => false

def binAgg (own : Own) (op : BinOp) (t : Ty) (x y : D) : Option D :=
  if fits (.cons t (.cons t .unit)) [x, y] then
  match gather own t (flat x), gather own t (flat y) with
  | some (a, []), some (b, []) => match op with
    | .eql => some (.dat .bool (t.eqb a b))
    | .neq => some (.dat .bool (!t.eqb a b))
    | _ => none
  | _, _ => none
  else none

def binD (own : Own) (op : BinOp) (T : TypeId) (x y : D) : Option (List Cnd × D) :=
  match x, y with
  | .dat (.int k) a, .dat (.int k') b => if isShift op then shiftI op k a b else if k = k' then binInt op k a b else none
  | .dat .str a, .dat .str b => binStr op a b
  | .dat .bool a, .dat .bool b => match kindT C T with
    | .bool => match op with
      | .eql => some ([], .dat .bool (a == b))
      | .neq => some ([], .dat .bool (!(a == b)))
      | _ => none
    | _ => none
  | _, _ => match tyT C T with
    | some t => if t.isAgg && t.flat then match binAgg own op t x y with
      | some d => some ([], d)
      | none => none
      else none
    | none => none

def lenD (own : Own) : D → Option Int
  | .dat (.sl _) xs => some (List.length xs)
  | .clip _ xs => some xs.length
  | .cst (.slice none 0 0) => some 0
  | .arr _ _ n _ => if n ≤ 16777216 then some n else none
  | .arx _ _ len lo hi false => if len ≤ 65536 then some ((hi - lo : Nat) : Int) else none
  | .own o => match lookO own o with
    | .row _ _ xs => some xs.length
    | .frow _ xs => some xs.length
    | _ => none
  | _ => none

def flats (ds : List D) : List D := ds.flatMap flat
def argsOf (own : Own) (a : Ty) (ds : List D) : Option a.El := match gather own a (flats ds) with
  | some (x, []) => some x
  | _ => none

def resOf : (r : Ty) → r.El → List D
  | .cons t u, x => .dat t x.1 :: resOf u x.2
  | _, _ => []
def retD (ds : List D) : D := match ds with
  | [d] => d
  | ds => .tup ds

def resC (c : Contract) (x : c.a.El) : D := if c.clip then match (⟨c.r, c.F x⟩ : Σ r : Ty, r.El) with
    | ⟨.cons (.sl t) .unit, y⟩ => .clip t y.1
    | ⟨r, y⟩ => retD (resOf r y)
  else retD (resOf c.r (c.F x))

def callCon (c : Contract) (own : Own) (nxt : Nat) (guarded : Bool) (ds : List D) : Option Res :=
  if fits c.a ds then
    match c.r.flat, guarded with
    | true, _ => match c.fresh with
      | none => match argsOf (shown own) c.a ds with
        | some x => some ⟨[⟨c.pre x, c.preB x, c.preOk x⟩], [], resC c x, own, nxt⟩
        | none => none
      | some _ => none
    | false, true => match c.fresh with
      | none => match argsOf (stay own) c.a ds with
        | some x => some ⟨[⟨c.pre x, c.preB x, c.preOk x⟩], [], resC c x, own, nxt⟩
        | none => none
      | some _ => none
    | false, false => match argsOf (stay (freeze own (flats ds))) c.a ds with
      | some x => match c.fresh with
        | none => some ⟨[⟨c.pre x, c.preB x, c.preOk x⟩], [], resC c x, freeze own (flats ds), nxt⟩
        | some e => match (⟨c.r, c.F x⟩ : Σ r : Ty, r.El) with
          | ⟨.cons (.sl t) .unit, y⟩ => some ⟨[⟨c.pre x, c.preB x, c.preOk x⟩], [], .own nxt, (nxt, .row e t y.1) :: freeze own (flats ds), nxt + 1⟩
          | _ => none
      | none => none
  else none

def callB (c : BCon) (own : Own) (nxt : Nat) (ds : List D) : Option Res :=
  match ds.getLast? with
  | some dl => if fits c.a ds.dropLast && fits (.cons (.sl c.t) .unit) [dl] then match argsOf (stay own) c.a ds.dropLast with
      | some x => match argsOf (shown own) (.cons (.sl c.t) .unit) [dl] with
        | some y => some ⟨[⟨c.pre x y.1, false, fun h => by cases h⟩], [], retD (resOf c.r (c.F x y.1)), own, nxt⟩
        | none => none
      | none => none
    else none
  | none => none

def isFns : List FuncId → List D → Bool
  | [], [] => true
  | f :: fs, .fn g [] :: ds => (f == g) && isFns fs ds
  | _, _ => false
def mArgs (mc : MCon) (own : Own) (ds : List D) : Option (Nat × List mc.t.El × mc.a.El) := match ds with
  | .own o :: r => match lookO own o with
    | .row e t xs => if e = mc.e then match cast? (.sl t) (.sl mc.t) xs with
        | some xs => if isFns mc.fns (r.drop (r.length - mc.fns.length)) && fits mc.a (r.take (r.length - mc.fns.length)) then match argsOf (stay own) mc.a (r.take (r.length - mc.fns.length)) with
            | some y => some (o, xs, y)
            | none => none
          else none
        | none => none
      else none
    | _ => none
  | _ => none
def mBlk (mc : MCon) (xs : List mc.t.El) : Blk := if mc.eats then .dead else .row mc.e mc.t xs
def mRes (mc : MCon) (xs : List mc.t.El) : D := if mc.eats then .dat (.sl mc.t) xs else .tup []

def ownB : D → Bool
  | .own _ => true
  | _ => false
def appendTo (own : Own) (nxt : Nat) (e : TypeId) (t : Ty) (ys : List t.El) (fr : Bool) (s : D) : Option Res :=
  match s with
  | .own o => match lookO own o with
    | .row e' t' xs => match cast? (.sl t') (.sl t) xs with
      | some (xs : List t.El) => if e = e' then some ⟨[cn ((xs.length + ys.length) * bytesT C e ≤ 140737488355328)], [], .own nxt, (nxt, .row e t (xs ++ ys)) :: (o, .dead) :: own, nxt + 1⟩ else none
      | none => none
    | _ => none
  | .cst (.slice none 0 0) => some ⟨[cn (ys.length * bytesT C e ≤ 140737488355328)], [], .own nxt, (nxt, .row e t ys) :: own, nxt + 1⟩
  | .clip t' xs => match cast? (.sl t') (.sl t) xs with
    | some (xs : List t.El) => if fr then some ⟨[cn ((xs.length + ys.length) * bytesT C e ≤ 140737488355328), cn (0 < ys.length)], [], .own nxt, (nxt, .row e t (xs ++ ys)) :: own, nxt + 1⟩
      else some ⟨[cn ((xs.length + ys.length) * bytesT C e ≤ 140737488355328)], [], .dat (.sl t) (xs ++ ys), own, nxt⟩
    | none => none
  | _ => none

def appendD (own : Own) (nxt : Nat) (e : TypeId) (s x : D) : Option Res :=
  match slOf own x with
  | some ⟨t, ys⟩ => if sizeT C e = t.size ∧ 0 < t.size ∧ bytesT C e ≠ 0 then appendTo C own nxt e t ys (ownB x) s else none
  | none => none

def isAggD : D → Bool
  | .agg _ => true
  | .dat t _ => t.isAgg
  | _ => false
def strI (xs : List Int) : ByteArray := ⟨(xs.map fun n => UInt8.ofNat n.toNat).toArray⟩
def bytesI (s : ByteArray) : List Int := s.data.toList.map fun b => (b.toNat : Int)
def u8K (k : TK) : Bool := match k with
  | .int .u8 => true
  | _ => false
def zeroU8 (l : Option (List D)) : Bool := match l with
  | some [.dat (.int .u8) n] => decide ((n : Int) = 0)
  | _ => false
def appendS (own : Own) (nxt : Nat) (e : TypeId) (s : D) (str : ByteArray) : Option Res :=
  if sizeT C e = 1 ∧ bytesT C e = 1 ∧ zeroU8 (zeroT C e) = true ∧ u8K (kindT C e) = true then match s with
    | .own o => match lookO own o with
      | .row e' t xs => match cast? (.sl t) (.sl (.int .u8)) xs with
        | some (xs : List Int) => if e = e' then some ⟨[cn (xs.length + ByteArray.size str ≤ 140737488355328)], [], .own nxt, (nxt, .row e (.int .u8) (xs ++ bytesI str)) :: (o, .dead) :: own, nxt + 1⟩ else none
        | none => none
      | _ => none
    | .cst (.slice none 0 0) => some ⟨[cn (ByteArray.size str ≤ 140737488355328)], [], .own nxt, (nxt, .row e (.int .u8) (bytesI str)) :: own, nxt + 1⟩
    | _ => none
  else none

def arxNs (own : Own) (k base len : Nat) (kk : IntKind) : Option (List Int) := match lookO own k with
  | .cells _ ds => match intsOf kk ((ds.drop base).take len) with
    | some ns => if ns.length = len ∧ len ≤ 65536 then some ns else none
    | none => none
  | _ => none
def mkInts (kk : IntKind) (len : Nat) (l : List Int) : List D := (List.range len).map fun j => .dat (.int kk) (l.getD j 0)
def cpL (ns : List Int) (lo m : Nat) (xs : List Int) : List Int := ns.take lo ++ (xs.take m ++ ns.drop (lo + min m xs.length))
def boundD (d : Option D) (dflt : Int) : Option Int := match d with
  | none => some dflt
  | some d => match intD d with
    | some (_, n) => some n
    | none => none

def sliceD (xs : D) (own : Own) (lo hi mx : Option D) : Option (List Cnd × D) :=
  match slOf own xs with
  | some ⟨t, xs⟩ => match boundD lo 0, boundD hi xs.length with
    | some l, some h => match mx with
      | none => some ([cn (0 ≤ l), cn (l ≤ h), cn (h ≤ xs.length)], .dat (.sl t) ((xs.take h.toNat).drop l.toNat))
      | some m => match hi, intD m with
        | some _, some (_, m) => some ([cn (0 ≤ l), cn (l ≤ h), cn (h ≤ xs.length), cn (m = h)], .clip t ((xs.take h.toNat).drop l.toNat))
        | _, _ => none
    | _, _ => none
  | none => none

def loadD (own : Own) (T : TypeId) (g : Bool) (a : D) : Option (List Cnd × D) := match a with
  | .pt k off => match lookO own k with
    | .cells _ ds => match cut g off (sizeT C T) ds with
      | some d => some ([], d)
      | none => none
    | _ => none
  | .pe k i sub => match lookO own k with
    | .row _ t xs => match cut g sub (sizeT C T) (leaves t (xs.getD i t.zero)) with
      | some d => some ([], d)
      | none => none
    | _ => none
  | .dat (.ptr t) p => if t.size = sizeT C T ∧ t.isAgg = g then some ([cn (Option.isSome p = true)], .dat t (Option.getD p t.zero)) else none
  | .arx k base len i _ true => match kindT C T with
    | .int kk => if g = false then match arxNs own k base len kk with
        | some ns => some ([], .dat (.int kk) (ns.getD i 0))
        | none => none
      else none
    | _ => none
  | _ => none

def storeD (own : Own) (a : D) (new : List D) : Option Own := match a with
  | .pt k off => match lookO own k with
    | .cells ty ds => if off + new.length ≤ ds.length ∧ new.all leafB then some ((k, .cells ty (splice ds off new)) :: own) else none
    | _ => none
  | .pe k i sub => match lookO own k with
    | .row e t xs => if sub + new.length ≤ t.size ∧ new.all leafB then match gather (stay own) t (splice (leaves t (xs.getD i t.zero)) sub new) with
        | some (x, []) => some ((k, .row e t (xs.set i x)) :: own)
        | _ => none
      else none
    | _ => none
  | .arx k base len i _ true => match lookO own k, new with
    | .cells ty ds, [.dat (.int kk) v] => match arxNs own k base len kk with
      | some ns => if base + len ≤ ds.length then some ((k, .cells ty (splice ds base (mkInts kk len (ns.set i v)))) :: own) else none
      | none => none
    | _, _ => none
  | _ => none

def fieldAddrD (off size : Nat) : D → Option (List Cnd × D)
  | .pt k o => some ([], .pt k (o + off))
  | .pe k i s => some ([], .pe k i (s + off))
  | .dat (.ptr t) p => match subAt t off size with
    | some ⟨u, g⟩ => some ([cn (Option.isSome p = true)], .dat (.ptr u) (Option.map g p))
    | none => none
  | _ => none

def indexAddrD (own : Own) (size : Nat) (n : Int) (x : D) : Option (List Cnd × D) :=
  match x with
  | .own k => match lookO own k with
    | .row _ t xs => if t.size = size then some ([cn (0 ≤ n), cn (n < xs.length)], .pe k n.toNat 0) else none
    | .frow t xs => if t.size = size then some ([cn (0 ≤ n), cn (n < xs.length)], .dat (.ptr t) (some (xs.getD n.toNat t.zero))) else none
    | _ => none
  | .dat (.sl t) xs => if t.size = size then some ([cn (0 ≤ n), cn (n < (List.length xs : Int))], .dat (.ptr t) (some (List.getD xs n.toNat t.zero))) else none
  | .clip t xs => if t.size = size then some ([cn (0 ≤ n), cn (n < xs.length)], .dat (.ptr t) (some (xs.getD n.toNat t.zero))) else none
  | .arr k off len _ => if 0 ≤ n ∧ n < (len : Int) then some ([], .pt k (off + n.toNat * size)) else none
  | .arx k base len lo hi false => if size = 1 then some ([cn (0 ≤ n), cn (n < ((hi - lo : Nat) : Int))], .arx k base len (lo + n.toNat) (lo + n.toNat) true) else none
  | _ => none

def placeT (T : TypeId) (i : Nat) : Option (Nat × Nat) := match kindT C T with
  | .st fs => match fs[i]? with
    | some (off, ft) => some (off, sizeT C ft)
    | none => none
  | .arr _ e => some (i * sizeT C e, sizeT C e)
  | _ => none

def arrOk (T : TypeId) : Bool := match kindT C T with
  | .arr _ e => decide (sizeT C e ≠ 0)
  | _ => true

def buildD (T : TypeId) (ds : List D) : List (Nat × D) → Option (List D)
  | [] => some ds
  | (f, d) :: r => match placeT C T f with
    | some (off, n) => if (flat d).length = n ∧ n ≠ 0 ∧ off + (flat d).length ≤ ds.length ∧ (flat d).all leafB then buildD T (splice ds off (flat d)) r else none
    | none => none

def elemsD (own : Own) (t : Ty) : Nat → List (Nat × D) → Option (List t.El)
  | _, [] => some []
  | k, (i, d) :: r => if i = k ∧ (flat d).all leafB then match gather own t (flat d) with
      | some (x, []) => match elemsD own t (k + 1) r with
        | some xs => some (x :: xs)
        | none => none
      | _ => none
    else none

def keyK (k : TypeId) (kt : Ty) : Bool := match kindT C k, kt with
  | .int q, .int q' => decide (q = q')
  | .str, .str => true
  | .bool, .bool => true
  | .st _, .cons t u => C.keys.contains k && decide (tyT C k = some (.cons t u))
  | .arr _ _, .cons t u => C.keys.contains k && decide (tyT C k = some (.cons t u))
  | _, _ => false
def okK : TK → Bool
  | .ifc | .other => false
  | _ => true
def datum (own : Own) (t : Ty) (d : D) : Option t.El := if fits (.cons t .unit) [d] then match gather own t (flat d) with
    | some (x, []) => some x
    | _ => none
  else none
def zeroD (e : TypeId) (t : Ty) : Option t.El := match zeroT C e with
  | some ds => if t.size = sizeT C e ∧ 0 < t.size ∧ ds.all leafB = true ∧ aggT C e = some t.isAgg then match gather [] t ds with
      | some (x, []) => some x
      | _ => none
    else none
  | none => none
def updF (kt vt : Ty) (f : kt.El → Option vt.El) (key : kt.El) (y : vt.El) : kt.El → Option vt.El := fun x => bif kt.eqb x key then some y else f x

def gatherL (t : Ty) : Nat → List D → Option (List t.El)
  | 0, [] => some []
  | n + 1, ds => match gather [] t ds with
    | some (x, r) => match gatherL t n r with
      | some xs => some (x :: xs)
      | none => none
    | none => none
  | _, _ => none
def allocArr (T : TypeId) (own : Own) (nxt : Nat) : Option Res := match kindT C T with
  | .arr n e => if 16 < n ∧ n ≤ 65536 then match tyT C e with
    | some t => match zeroT C T with
      | some ds => if 0 < t.size ∧ t.size = sizeT C e ∧ ds.all leafB = true then match gatherL t n ds with
          | some xs => match repOf t n xs with
            | some xs => some ⟨[], [], .pe nxt 0 0, (nxt, .row T t xs) :: own, nxt + 1⟩
            | none => none
          | none => none
        else none
      | none => none
    | none => none
    else none
  | _ => none

def nilCmp (k : TK) (d : D) (y : Operand) : Option Bool := match k, d, y with
  | .ifc, .dat .err a, .const .nilIface => some (!a)
  | .ptr _, .dat (.ptr _) p, .const (.pointer none) => some (Option.isNone p)
  | .ptr _, .pt _ _, .const (.pointer none) => some false
  | .fn, .fn .., .const .nilFunc => some false
  | .fn, .dat .fp f, .const .nilFunc => some (Option.isNone f)
  | _, _, _ => none

def withS (own : Own) (nxt : Nat) (r : Option (List Cnd × D)) : Option Res := match r with
  | some (s, d) => some ⟨s, [], d, own, nxt⟩
  | none => none
def withD (own : Own) (nxt : Nat) (r : Option D) : Option Res := match r with
  | some d => some ⟨[], [], d, own, nxt⟩
  | none => none

def stepF (lk : Operand → D) (own : Own) (nxt : Nat) (o : Oper) (guarded : Bool) : Option Res :=
  match o.op with
  | .move x => some (.val own nxt (lk x))
  | .assign x => some (.val own nxt (lk x))
  | .alloc T => if guarded then none else match allocArr C T own nxt with
    | some r => some r
    | none => match zeroT C T with
    | some ds => if ds.all leafB then some ⟨[], [], .pt nxt 0, (nxt, .cells T ds) :: own, nxt + 1⟩ else none
    | none => none
  | .box T x => if guarded then none else
    if (flat (lk x)).all leafB then some ⟨[], [], .pt nxt 0, (nxt, .cells T (flat (lk x))) :: own, nxt + 1⟩ else none
  | .build T parts => match zeroT C T with
    | some z => if z.all leafB ∧ aggT C T = some true ∧ arrOk C T = true then match buildD C T z (parts.toList.map fun p => (p.1, lk p.2)) with
        | some ds => some (.val own nxt (.agg ds))
        | none => none
      else none
    | none => none
  | .buildSlice T len parts => match kindT C T with
    | .sl e => match tyT C e with
      | some t => if t.size = sizeT C e ∧ 0 < t.size ∧ parts.size = len ∧ len * t.size ≤ 16777216 then
          if C.arrs.contains T then
            if guarded = false ∧ (parts.toList.map (·.1) = List.range len) ∧ ((parts.toList.map fun p => flat (lk p.2)).all fun ds => ds.all leafB && decide (ds.length = t.size)) = true then
              some ⟨[], [], .arr nxt 0 len len, (nxt, .cells e (parts.toList.flatMap fun p => flat (lk p.2))) :: own, nxt + 1⟩
            else none
          else if guarded then match elemsD (stay own) t 0 (parts.toList.map fun p => (p.1, lk p.2)) with
            | some xs => some (.val own nxt (.dat (.sl t) xs))
            | none => none
          else match elemsD (stay (freeze own (flats (parts.toList.map fun p => lk p.2)))) t 0 (parts.toList.map fun p => (p.1, lk p.2)) with
            | some xs => some ⟨[], [], .own nxt, (nxt, .row e t xs) :: freeze own (flats (parts.toList.map fun p => lk p.2)), nxt + 1⟩
            | none => none
        else none
      | none => none
    | _ => none
  | .makeSlice T l c => match intD (lk l), intD (lk c), kindT C T with
    | some (_, n), some (_, m), .sl e => match tyT C e, zeroT C e with
      | some t, some ds => if t.size = sizeT C e ∧ 0 < t.size ∧ ds.all leafB = true then match gather [] t ds with
          | some (x, []) => if guarded then some ⟨[cn (0 ≤ n), cn (n ≤ m), cn ((bytesT C e : Int) * m ≤ 281474976710656), cn (m ≤ 9223372036854775807)], [], .dat (.sl t) (List.replicate n.toNat x), own, nxt⟩
            else some ⟨[cn (0 ≤ n), cn (n ≤ m), cn ((bytesT C e : Int) * m ≤ 281474976710656), cn (m ≤ 9223372036854775807)], [], .own nxt, (nxt, .row e t (List.replicate n.toNat x)) :: own, nxt + 1⟩
          | _ => none
        else none
      | _, _ => none
    | _, _, _ => none
  | .makeMap T none => if guarded then none else match kindT C T with
    | .mp k e => match tyT C k, tyT C e with
      | some kt, some vt => some ⟨[], [], .own nxt, (nxt, .map T kt vt 0 (fun _ => none)) :: own, nxt + 1⟩
      | _, _ => none
    | _ => none
  | .lookup T m x ok => match lk m with
    | .own o => match lookO own o with
      | .map T' kt vt _ f => if T = T' then match kindT C T with
        | .mp k e => if keyK C k kt then match datum own kt (lk x), zeroD C e vt with
          | some x, some z => some (.val own nxt (match ok with | true => .tup [.dat vt ((f x).getD z), .dat .bool (f x).isSome] | false => .dat vt ((f x).getD z)))
          | _, _ => none
          else none
        | _ => none
        else none
      | _ => none
    | _ => none
  | .mapUpdate T m x v | .insert T m x v => if guarded then none else match lk m with
    | .own o => match lookO own o with
      | .map T' kt vt n f => if T = T' then match kindT C T with
        | .mp k _ => if keyK C k kt then match datum own kt (lk x), datum (stay own) vt (lk v) with
          | some x, some y => some ⟨[cn (n < maxLen)], [], .any, (o, .map T kt vt (n + 1) (updF kt vt f x y)) :: own, nxt⟩
          | _, _ => none
          else none
        | _ => none
        else none
      | _ => none
    | _ => none
  | .load T a => match aggT C T with
    | some g => withS own nxt (loadD C own T g (lk a))
    | none => none
  | .store T a v => if guarded then none else
    if (flat (lk v)).length = sizeT C T ∧ (aggT C T).isSome = true then match storeD own (lk a) (flat (lk v)) with
      | some own' => some ⟨[], [], .any, own', nxt⟩
      | none => none
    else none
  | .nilCheck x => match lk x with
    | .pt k off => some (.val own nxt (.pt k off))
    | .pe k i s => some (.val own nxt (.pe k i s))
    | .dat (.ptr t) p => some ⟨[cn (Option.isSome p = true)], [], .dat (.ptr t) p, own, nxt⟩
    | .fn f caps => some (.val own nxt (.fn f caps))
    | _ => none
  | .fieldAddr T x f => match fieldT C T f with
    | some (off, ft) => if sizeT C ft = 0 then none else withS own nxt (fieldAddrD off (sizeT C ft) (lk x))
    | none => none
  | .field T x f => match fieldT C T f with
    | some (off, ft) => match aggT C ft with
      | some g => match lk x with
        | .agg ds => withD own nxt (cut g off (sizeT C ft) ds)
        | .dat t y => if t.isAgg then withD own nxt (cut g off (sizeT C ft) (leaves t y)) else none
        | _ => none
      | none => none
    | none => none
  | .indexAddr T x i => match intD (lk i) with
    | some (_, n) => match kindT C T with
      | .sl e => if sizeT C e = 0 then none else withS own nxt (indexAddrD own (sizeT C e) n (lk x))
      | .arr len e => match lk x, i with
        | .pe k 0 0, _ => match lookO own k with
          | .row T' t xs => if T' = T ∧ t.size = sizeT C e ∧ sizeT C e ≠ 0 then some ⟨[cn (List.length xs = len), cn (0 ≤ n), cn (n < len)], [], .pe k n.toNat 0, own, nxt⟩ else none
          | _ => none
        | .pt k off, .const _ => if 0 ≤ n ∧ n < len ∧ sizeT C e ≠ 0 then some (.val own nxt (.pt k (off + n.toNat * sizeT C e))) else none
        | .pt k off, _ => if sizeT C e = 1 then some ⟨[cn (0 ≤ n), cn (n < len)], [], .arx k off len n.toNat n.toNat true, own, nxt⟩ else none
        | _, _ => none
      | _ => none
    | none => none
  | .extract t i => match lk t with
    | .tup ds => match ds[i]? with
      | some d => some (.val own nxt d)
      | none => none
    | _ => none
  | .binOp op T x y _ => match nilCmp (kindT C T) (lk x) y with
    | some b => match op with
      | .eql => some (.val own nxt (.dat .bool b))
      | .neq => some (.val own nxt (.dat .bool (!b)))
      | _ => none
    | none => withS own nxt (binD C own op T (lk x) (lk y))
  | .unOp op _ x => match op, lk x with
    | .not, .dat .bool b => some (.val own nxt (.dat .bool (!b)))
    | .neg, .dat (.int k) n => some (.val own nxt (.dat (.int k) (k.wrap (0 - n))))
    | _, _ => none
  | .convert src dst x => match kindT C src, kindT C dst, lk x with
    | .int _, .int k, .dat (.int _) n => some (.val own nxt (.dat (.int k) (k.wrap n)))
    | .str, .str, .dat .str s => some (.val own nxt (.dat .str s))
    | .sl e, .str, d => match kindT C e, slOf own d with
      | .int .u8, some ⟨.int .u8, xs⟩ => some ⟨[cn (List.length xs ≤ maxLen)], [], .dat .str (strI xs), own, nxt⟩
      | _, _ => none
    | _, _, _ => none
  | .makeInterface T x => if okK (kindT C T) then match tyT C T with
      | some t => match datum (stay own) t (lk x) with
        | some y => some (.val own nxt (.ifc T t y))
        | none => none
      | none => none
    else none
  | .typeAssert x _ T ok => if okK (kindT C T) then match lk x with
      | .ifc T' t y => if T' = T then some (.val own nxt (match ok with | true => .tup [.dat t y, .dat .bool true] | false => .dat t y))
        else if ok then some (.val own nxt (.tup [.any, .dat .bool false])) else none
      | _ => none
    else none
  | .makeFunc (.func f) first caps => if first.size = 0 then some (.val own nxt (.fn f (caps.toList.map lk))) else none
  | .slice T x lo hi mx => match kindT C T with
    | .sl e => match slOf own (lk x) with
      | some ⟨t, _⟩ => if t.size = sizeT C e ∧ sizeT C e ≠ 0 then match lk x with
          | .own k => if guarded then none else withS (freeze own [.own k]) nxt (sliceD (.own k) (freeze own [.own k]) (lo.map lk) (hi.map lk) (mx.map lk))
          | d => withS own nxt (sliceD d own (lo.map lk) (hi.map lk) (mx.map lk))
        else none
      | none => none
    | .str => match lk x, mx with
      | .dat .str s, none => match boundD (lo.map lk) 0, boundD (hi.map lk) (ByteArray.size s : Int) with
        | some l, some h => some ⟨[cn (0 ≤ l), cn (l ≤ h), cn (h ≤ (ByteArray.size s : Int))], [], .dat .str (subS s l.toNat h.toNat), own, nxt⟩
        | _, _ => none
      | _, _ => none
    | .arr len e => if sizeT C e = 1 then match lk x, mx with
        | .pt k off, none => match boundD (lo.map lk) 0, boundD (hi.map lk) (len : Int) with
          | some l, some h => some ⟨[cn (0 ≤ l), cn (l ≤ h), cn (h ≤ (len : Int))], [], .arx k off len l.toNat h.toNat false, own, nxt⟩
          | _, _ => none
        | .pe k 0 0, none => if guarded then none else match lookO own k with
          | .row T' t xs => if T' = T ∧ t.size = 1 then match boundD (lo.map lk) 0, boundD (hi.map lk) (len : Int) with
              | some l, some h => some ⟨[cn (0 ≤ l), cn (l ≤ h), cn (h ≤ (len : Int)), cn (List.length xs = len)], [], .dat (.sl t) ((xs.take h.toNat).drop l.toNat), freeze own [.own k], nxt⟩
              | _, _ => none
            else none
          | _ => none
        | _, _ => none
      else none
    | _ => none
  | .index T x i => match kindT C T, lk x, intD (lk i) with
    | .str, .dat .str s, some (_, n) => some ⟨[cn (0 ≤ n), cn (n < (ByteArray.size s : Int))], [], .dat (.int .u8) (byteAt s n.toNat), own, nxt⟩
    | .arr len e, d, some (_, n) => match kindT C e with
      | .int kk => if isAggD d then match intsOf kk (flat d) with
          | some ns => if ns.length = len ∧ sizeT C e = 1 then some ⟨[cn (0 ≤ n), cn (n < len)], [], .dat (.int kk) (ns.getD n.toNat 0), own, nxt⟩ else none
          | none => none
        else none
      | _ => none
    | _, _, _ => none
  | .entry x => if guarded then none else match lk x with
    | .own k => match lookO own k with
      | .miter vt _ _ _ (some (s, y)) => some (.val own nxt (.tup [.dat .str s, .dat vt y]))
      | _ => none
    | _ => none
  | .range T x => if guarded then none else match kindT C T, lk x with
    | .str, .dat .str s => some ⟨[], [], .own nxt, (nxt, .iter s 0) :: own, nxt + 1⟩
    | .mp k _, .own mo => match lookO own mo with
      | .map T' .str vt n f => match kindT C k with
        | .str => if T = T' then some ⟨[], [], .own nxt, (nxt, .miter vt f (fun s => (f s).isSome) n none) :: (mo, .dead) :: own, nxt + 1⟩ else none
        | _ => none
      | _ => none
    | _, _ => none
  | .call { callee := .builtin b, args, argTypes } => match b, args.toList, argTypes.toList with
    | .len, [x], [T] => match kindT C T with
      | .sl _ => match lenD own (lk x) with
        | some n => some (.val own nxt (.dat (.int .i64) n))
        | none => none
      | .str => match lk x with
        | .dat .str s => some (.val own nxt (.dat (.int .i64) (ByteArray.size s : Int)))
        | _ => none
      | _ => none
    | .append, [s, x], [T, T'] => if T = T' ∧ guarded = false then match kindT C T with
        | .sl e => appendD C own nxt e (lk s) (lk x)
        | _ => none
      else if guarded = false then match kindT C T, kindT C T', lk x with
        | .sl e, .str, .dat .str str => appendS C own nxt e (lk s) str
        | _, _, _ => none
      else none
    | .copy, [d, s], [T, T'] => if guarded = false ∧ T = T' then match kindT C T with
        | .sl e => match lk d with
          | .arx k base len lo hi false => match lookO own k, slOf own (lk s), kindT C e with
            | .cells ty ds, some ⟨.int kk, xs⟩, .int k2 => if k2 = kk ∧ sizeT C e = 1 ∧ base + len ≤ ds.length then match arxNs own k base len kk with
                | some ns => some ⟨[], [], .dat (.int .i64) ((min (hi - lo) (List.length xs) : Nat) : Int), (k, .cells ty (splice ds base (mkInts kk len (cpL ns lo (hi - lo) xs)))) :: own, nxt⟩
                | none => none
              else none
            | _, _, _ => none
          | _ => none
        | _ => none
      else none
    | .max, [x, y], [_, _] => match lk x, lk y with
      | .dat (.int k) a, .dat (.int k') b => if k = k' then some (.val own nxt (.dat (.int k) (max (α := Int) a b))) else none
      | _, _ => none
    | .min, [x, y], [_, _] => match lk x, lk y with
      | .dat (.int k) a, .dat (.int k') b => if k = k' then some (.val own nxt (.dat (.int k) (min (α := Int) a b))) else none
      | _, _ => none
    | .max, [x, y, z], [_, _, _] => match lk x, lk y, lk z with
      | .dat (.int k) a, .dat (.int k') b, .dat (.int k'') c => if k = k' ∧ k = k'' then some (.val own nxt (.dat (.int k) (max (α := Int) (max (α := Int) a b) c))) else none
      | _, _, _ => none
    | .min, [x, y, z], [_, _, _] => match lk x, lk y, lk z with
      | .dat (.int k) a, .dat (.int k') b, .dat (.int k'') c => if k = k' ∧ k = k'' then some (.val own nxt (.dat (.int k) (min (α := Int) (min (α := Int) a b) c))) else none
      | _, _, _ => none
    | _, _, _ => none
  | .call { callee := .value f, args, .. } => match lk f with
    | .fn g caps => match assocC C.cons g with
      | some c => callCon c own nxt guarded (args.toList.map lk ++ caps)
      | none => match assoc C.bcons g with
        | some c => callB c own nxt (args.toList.map lk ++ caps)
        | none => match assoc C.qcons g with
          | some q => match args.toList.map lk ++ caps, guarded with
            | [], false => some ⟨[], [], .own nxt, (nxt, .map q.T q.kt q.vt q.n q.f) :: own, nxt + 1⟩
            | _, _ => none
          | none => none
    | _ => none
  | _ => none

end

def bcase (c : Bool) (A B : Prop) : Prop := match c with | true => A | false => B
structure Wr (p : Prop) : Prop where
  out : p
def andL : List Cnd → Prop → Prop
  | [], q => q
  | p :: r, q => Wr p.p ∧ andL r q
def allL : List Prop → Prop
  | [] => True
  | [p] => Wr p
  | p :: r => Wr p ∧ allL r
def impL : List Prop → Prop → Prop
  | [], q => q
  | p :: r, q => Wr p → impL r q

theorem bcase_iff (c : Bool) (A B : Prop) : bcase c A B ↔ (c = true → A) ∧ (c = false → B) := by cases c <;> simp [bcase]

def strip (t : Nat) (w : Bool) : D → D
  | .gd t' w' d => if t' = t ∧ w' = w then d else .any
  | d => d

def pickD (env : Env) (c a b : Operand) (f : D → D) : Option D :=
  match c with
  | .tmp t => match f (look env t) with
    | .dat .bool x => match a with
      | .const (.bool true) => match strip t false (f (opnd env b)) with
        | .dat .bool y => some (.dat .bool (x || y))
        | _ => none
      | a => match b with
        | .const (.bool false) => match strip t true (f (opnd env a)) with
          | .dat .bool y => some (.dat .bool (x && y))
          | _ => none
        | _ => none
    | _ => none
  | _ => none

def strip' (t : Nat) (w : Bool) : D → D
  | .gd t' w' d => if t' = t ∧ w' = w then d else .gd t' w' d
  | d => d

def onE (t : Nat) (w : Bool) (env : Env) : Env := (t, .dat .bool w) :: env.map fun p => (p.1, strip' t w p.2)
def offE (n t : Nat) (w : Bool) (env : Env) : Env := (t, .dat .bool (!w)) :: (n + t, .gd t w (.cst (.bool true))) :: env
def offM (env : Env) (n t : Nat) (w : Bool) : Bool := match look env (n + t) with
  | .gd t' w' (.cst (.bool true)) => t' == t && w' == w
  | _ => false

def condB (env : Env) : Nat → Nat → Bool → Option Bool
  | 0, _, _ => none
  | n + 1, t, w => match look env t with
    | .dat .bool g => some (cond w g (!g))
    | .gd t' w' (.dat .bool g) => match condB env n t' w' with
      | some c => some (c && cond w g (!g))
      | none => none
    | _ => none

def outG (env : Env) (t : Nat) : Option (Nat × Bool × Bool) := match look env t with
  | .gd t' w' (.dat .bool _) => match look env t' with
    | .dat .bool b => some (t', w', b)
    | _ => none
  | _ => none

inductive Item where
  | code (c : Code)
  | ops (all rest : List Oper)

def retOf (C : Cfg) (env : Env) (own : Own) : List ResultVar → Option (List D)
  | [] => some []
  | .tmp t :: r => match retOf C env own r with
    | some ds => some (ungd (look env t) :: ds)
    | none => none
  | .cell t T :: r => match retOf C env own r with
    | some ds => match ungd (look env t), aggT C T with
      | .pt k off, some g => match lookO own k with
        | .cells _ cs => match cut g off (sizeT C T) cs with
          | some d => some (d :: ds)
          | none => none
        | _ => none
      | _, _ => none
    | none => none

def put (env : Env) (dst : Option Nat) (d : D) : Env := match dst with
  | some t => (t, d) :: env
  | none => env
def putOk (n : Nat) (dst : Option Nat) : Bool := match dst with
  | some t => decide (t < n)
  | none => true

def cleanD : D → D
  | .gd .. => .any
  | d => d
def clean (env : Env) : Env := env.map fun p => (p.1, cleanD p.2)

structure DR where
  side : List Cnd
  d : D
  delta : Own

def hypNil : List Prop → Bool
  | [] => true
  | _ => false

def fresh (own : Own) (nxt : Nat) : Bool := match lookO own nxt with
  | .gone => true
  | _ => false

def stepD (C : Cfg) (all : List Oper) (env : Env) (own : Own) (nxt : Nat) (o : Oper) : Option DR :=
  match o.guard with
  | none => match o.op with
    | .pick c a b => match pickD env c a b id with
      | some d => some ⟨[], d, []⟩
      | none => none
    | _ => match stepF C (fun x => ungd (opnd env x)) own nxt o false with
      | some r => if hypNil r.hyp && (r.nxt == nxt || fresh own nxt) then some ⟨r.side, r.d, r.own.take (r.own.length - own.length)⟩ else none
      | none => none
  | some (j, w) => match (all[j]?).bind (·.dst) with
    | some t => if o.dst != some t then match condB env 9 t w with
      | some c => match o.op with
        | .pick p a b => match pickD env p a b (strip' t w) with
          | some d => some ⟨[], .gd t w d, []⟩
          | none => none
        | _ => match stepF C (fun x => ungd (strip' t w (opnd env x))) own nxt o true with
          | some r => if hypNil r.hyp then some ⟨r.side.map (Cnd.imp c), .gd t w r.d, []⟩ else none
          | none => none
      | none => none
      else none
    | none => none

def edgeMask (ancs : List Nat) : List Edge → Nat
  | [] => 0
  | e :: r => if Region.binds .any e then (edgeMask ancs r ||| (1 <<< e.on)) ||| (ancs.getD e.on 0) else edgeMask ancs r
def ancsOf : List Oper → List Nat → List Nat
  | [], acc => acc
  | o :: r, acc => ancsOf r (acc ++ [edgeMask acc o.after.toList])

structure DZ where
  i : Nat
  o : Oper
  r : DR

def dEnv (p : Nat → Bool) (base : Env) : List DZ → Env
  | [] => base
  | z :: r => if p z.i then put (dEnv p base r) z.o.dst z.r.d else dEnv p base r
def dOwn (p : Nat → Bool) (base : Own) : List DZ → Own
  | [] => base
  | z :: r => if p z.i then z.r.delta ++ dOwn p base r else dOwn p base r

def unord (ancs : List Nat) (i k : Nat) : Bool := k != i && !((ancs.getD i 0).testBit k) && !((ancs.getD k 0).testBit i)

def hidE (ancs : List Nat) (i : Nat) : Nat → List Oper → Env → Env
  | _, [], e => e
  | k, o :: r, e => if unord ancs i k then put (hidE ancs i (k + 1) r e) o.dst .any else hidE ancs i (k + 1) r e
def hidN (ancs : List Nat) (i : Nat) : Nat → List (List (Nat × Nat)) → List (Nat × Nat)
  | _, [] => []
  | k, w :: r => if unord ancs i k then w ++ hidN ancs i (k + 1) r else hidN ancs i (k + 1) r

def isCells : Blk → Bool
  | .cells .. => true
  | _ => false

def kindB : Blk → Nat
  | .cells .. => 1
  | .row .. => 2
  | _ => 0

structure Hid where
  hid : List Nat
  far : List Nat
  rar : List Nat

mutual
def av (h : Hid) : D → Bool
  | .pt o _ => !h.hid.contains o || h.far.contains o
  | .arr o .. => !h.hid.contains o || h.far.contains o
  | .arx o .. => !h.hid.contains o || h.far.contains o
  | .pe o _ _ => !h.hid.contains o
  | .own o => !h.hid.contains o || h.rar.contains o
  | .agg ds => avs h ds
  | .tup ds => avs h ds
  | .fn _ ds => avs h ds
  | .gd _ _ d => av h d
  | _ => true
def avs (h : Hid) : List D → Bool
  | [] => true
  | d :: r => av h d && avs h r
end
def avB (h : Hid) : Blk → Bool
  | .cells _ ds => avs h ds
  | .fcells _ ds => avs h ds
  | _ => true

def closeH (own : Own) (far rar : List Nat) : Nat → List Nat → List Nat
  | 0, hid => hid
  | n + 1, hid => closeH own far rar n (hid ++ own.filterMap fun p => if hid.contains p.1 then none else if avB ⟨hid, far, rar⟩ (lookO own p.1) then none else some p.1)

def hideO (own : Own) (far rar : List Nat) : List Nat → Own
  | [] => own
  | o :: r => (o, if far.contains o then .far else if rar.contains o then .rfar else .dead) :: hideO own far rar r

def preD (C : Cfg) (all : List Oper) (nxt : Nat) : Nat → List Oper → Env → Own → List (List (Nat × Nat))
  | _, [], _, _ => []
  | i, o :: rest, env, own => match stepD C all env own (nxt + i) o with
    | some r => r.delta.map (fun p => (p.1, kindB p.2)) :: preD C all nxt (i + 1) rest (put env o.dst r.d) (r.delta ++ own)
    | none => []

def viewE (all : List Oper) (ancs : List Nat) (base : Env) (i : Nat) (acc : List DZ) : Env := hidE ancs i 0 all (dEnv (fun k => (ancs.getD i 0).testBit k) base acc)
def farOf (k : Nat) (own : Own) (l : List (Nat × Nat)) : List Nat := (l.map (·.1)).filter fun o => kindB (lookO own o) == k && l.all fun p => p.1 != o || p.2 == k
def farIn (k : Nat) (own : Own) (l : List (Nat × Nat)) (hid : List Nat) : List Nat := hid.filter fun o => kindB (lookO own o) == k && l.all fun p => p.1 != o || p.2 == k
def viewH (ws : List (List (Nat × Nat))) (ancs : List Nat) (base : Own) (i : Nat) (acc : List DZ) : Hid :=
  let far := farOf 1 (dOwn (fun k => (ancs.getD i 0).testBit k) base acc) (hidN ancs i 0 ws)
  let rar := farOf 2 (dOwn (fun k => (ancs.getD i 0).testBit k) base acc) (hidN ancs i 0 ws)
  let hid := closeH (dOwn (fun k => (ancs.getD i 0).testBit k) base acc) far rar 3 ((hidN ancs i 0 ws).map (·.1))
  ⟨hid, farIn 1 (dOwn (fun k => (ancs.getD i 0).testBit k) base acc) (hidN ancs i 0 ws) hid, farIn 2 (dOwn (fun k => (ancs.getD i 0).testBit k) base acc) (hidN ancs i 0 ws) hid⟩
def viewO (ws : List (List (Nat × Nat))) (ancs : List Nat) (base : Own) (i : Nat) (acc : List DZ) : Own := hideO (dOwn (fun k => (ancs.getD i 0).testBit k) base acc) (viewH ws ancs base i acc).far (viewH ws ancs base i acc).rar (viewH ws ancs base i acc).hid

def checkD (ws : List (List (Nat × Nat))) (ancs : List Nat) (n : Nat) (i : Nat) (o : Oper) (r : DR) (h : Hid) (own : Own) (acc : List DZ) : Bool :=
  r.delta.all (fun p => (ws.getD i []).contains (p.1, kindB p.2) && !h.hid.contains p.1) && av h r.d &&
  (r.delta ++ own).all (fun p => h.hid.contains p.1 || avB h (lookO (r.delta ++ own) p.1)) &&
  acc.all (fun z => z.o.dst != o.dst || o.dst == none) && putOk n o.dst &&
  (match o.guard with | some (j, _) => (ancs.getD i 0).testBit j | none => true) && decide (ancs.getD i 0 < 2 ^ i)

def runD (C : Cfg) (all : List Oper) (ws : List (List (Nat × Nat))) (ancs : List Nat) (st : St) : Nat → List Oper → List DZ → Option (List DZ)
  | _, [], acc => some acc
  | i, o :: rest, acc => match stepD C all (viewE all ancs st.env i acc) (viewO ws ancs st.own i acc) (st.nxt + i) o with
    | some r => if checkD ws ancs st.n i o r (viewH ws ancs st.own i acc) (viewO ws ancs st.own i acc) acc then runD C all ws ancs st (i + 1) rest (⟨i, o, r⟩ :: acc) else none
    | none => none

def sidesD : List DZ → List Cnd
  | [] => []
  | z :: r => sidesD r ++ z.r.side

def drawR (C : Cfg) (all : List Oper) (st : St) : Option (List Cnd × St) :=
  match runD C all (preD C all st.nxt 0 all st.env st.own) (ancsOf all []) st 0 all [] with
  | some acc => some (sidesD acc, ⟨dEnv (fun _ => true) st.env acc, dOwn (fun _ => true) st.own acc, st.nxt + all.length, st.n⟩)
  | none => none

structure Fuse where
  pre : List Oper
  lk : Oper
  ad : Oper
  me : Oper
  ex : Oper
  es : Oper
  T : TypeId
  m : Nat
  k : Nat
  c : Nat
  d : Nat
  e : Nat
  f : Nat
  U : TypeId
  n : Int
def Fuse.last (u : Fuse) : Oper := { u.es with op := .mapUpdate u.T (.tmp u.m) (.tmp u.k) (.tmp u.d), dst := none, after := u.es.after.filter fun e => decide (e.on < u.pre.length + 2) }
def Fuse.fused (u : Fuse) : List Oper := u.pre ++ [u.lk, u.ad, u.last]
def fuseOf (L : List Oper) : Option Fuse := match L.reverse with
  | es :: ex :: me :: ad :: lk :: r => match me.op, ex.op, es.op, lk.op, ad.op, me.dst, ex.dst, lk.dst, ad.dst with
    | .mapEntry T (.tmp m) (.tmp k), .extract (.tmp e') 1, .entryStore _ (.tmp m') (.tmp f') (.tmp d'), .lookup T2 (.tmp m2) (.tmp k2) false, .binOp .add U (.tmp c') (.const (.int .i64 n)) _, some e, some f, some c, some d =>
      if (m' = m ∧ e' = e ∧ f' = f ∧ d' = d) ∧ T2 = T ∧ m2 = m ∧ k2 = k ∧ c' = c then some ⟨r.reverse, lk, ad, me, ex, es, T, m, k, c, d, e, f, U, n⟩ else none
    | _, _, _, _, _, _, _, _, _ => none
  | _ => none
def befB (o : Oper) (n : Nat) : Bool := o.guard.isNone && o.after.all (fun e => !Region.binds .any e || decide (e.on < n))
def onB (o : Oper) (n : Nat) : Bool := o.after.any (fun e => Region.binds .any e && decide (e.on = n))
def Fuse.ok (C : Cfg) (n : Nat) (u : Fuse) : Bool :=
  let p := u.pre.length
  (befB u.lk p && (befB u.ad (p + 1) && (befB u.me p && (befB u.ex (p + 3) && (befB u.es (p + 4) && u.es.dst.isNone))))) &&
  ((onB u.ad p && (onB u.ex (p + 2) && (onB u.es (p + 1) && onB u.es (p + 3)))) &&
  (((List.range p).all (fun j => (edgeMask (ancsOf u.fused []) u.lk.after.toList).testBit j) && (List.range p).all (fun j => (edgeMask (ancsOf u.fused []) u.me.after.toList).testBit j)) &&
  ((decide (u.e ≠ u.f ∧ u.c ≠ u.d ∧ u.c ≠ u.e ∧ u.c ≠ u.f ∧ u.d ≠ u.e ∧ u.d ≠ u.f) && decide (u.m ≠ u.c ∧ u.m ≠ u.d ∧ u.m ≠ u.e ∧ u.m ≠ u.f ∧ u.k ≠ u.c ∧ u.k ≠ u.d ∧ u.k ≠ u.e ∧ u.k ≠ u.f)) &&
  (decide (u.e < n ∧ u.f < n ∧ u.c < n ∧ u.d < n) &&
  (u.pre.all (fun o => o.dst != some u.e && (o.dst != some u.f && (match o.guard with | none => true | some (j, _) => decide (j < p)))) &&
  ((match kindT C u.T with | .mp k e => C.keys.contains k && (tyT C k).isSome && (zeroT C e).isSome | _ => false) && (match tyT C u.U with | some t => !t.isAgg | none => true)))))))
def drawM (C : Cfg) (all : List Oper) (st : St) : Option (List Cnd × St) :=
  match fuseOf all with
  | some u => if u.ok C st.n then match drawR C u.fused st with
      | some (ps, st') => some (ps, ⟨put (put st'.env (some u.e) .any) (some u.f) .any, st'.own, st'.nxt, st'.n⟩)
      | none => none
    else none
  | none => none

def tailOk (F : List Oper) (o : Oper) : Bool := befB o F.length && ((List.range F.length).all (fun j => (edgeMask (ancsOf F []) o.after.toList).testBit j) && F.all fun p => match p.guard with | none => true | some (j, _) => decide (j < F.length))
def tailOf (L : List Oper) : Option (List Oper × Oper) := match L.reverse with
  | o :: r => if tailOk r.reverse o = true then some (r.reverse, o) else none
  | [] => none

def firstRegion : Code → Option Nat
  | .region id _ _ => some id
  | .seq a b => match firstRegion a with
    | some k => some k
    | none => firstRegion b
  | .cond _ a b => match firstRegion a with
    | some k => some k
    | none => firstRegion b
  | .block _ b => firstRegion b
  | .loop b => firstRegion b
  | .scope b => firstRegion b
  | _ => none

def pairs1 : D → D → List (Nat × D)
  | d, .own o => [(o, d)]
  | .pt o _, .pt o' _ => [(o', .own o)]
  | .arr o .., .arr o' .. => [(o', .own o)]
  | .pe o _ _, .pe o' _ _ => [(o', .own o)]
  | _, _ => []
def pairsL : List D → List D → List (Nat × D)
  | d :: r, d' :: r' => pairs1 d d' ++ pairsL r r'
  | _, _ => []
def pairs2 : D → D → List (Nat × D)
  | .fn _ ds, .fn _ ds' => pairsL ds ds'
  | d, d' => pairs1 d d'

def isRow : Blk → Bool
  | .row .. => true
  | .frow .. => true
  | .brow .. => true
  | .map .. => true
  | .iter .. => true
  | .miter .. => true
  | _ => false

def entD0 (own own' : Own) (ren : List (Nat × D)) (d d' : D) : Option (List Prop) :=
  match d' with
  | .any => some []
  | .dat t y => if fits (.cons t .unit) [d] then match gather (stay own) t (flat d) with
      | some (x, []) => some [x = y]
      | _ => none
    else none
  | .own o' => if isRow (lookO own' o') then match assoc ren o' with
      | some (.own k) => match d with
        | .own k' => if k = k' ∧ isRow (lookO own k) = true then some [] else none
        | _ => none
      | some (.cst (.slice none 0 0)) => match d with
        | .cst (.slice none 0 0) => some []
        | _ => none
      | _ => none
    else none
  | .pt o' k' => if isCells (lookO own' o') then match assoc ren o' with
      | some (.own o) => match d with
        | .pt o2 k => if o = o2 ∧ k = k' ∧ isCells (lookO own o) = true then some [] else none
        | _ => none
      | _ => none
    else none
  | .arr o' k' n' m' => if isCells (lookO own' o') then match assoc ren o' with
      | some (.own o) => match d with
        | .arr o2 k n m => if o = o2 ∧ k = k' ∧ n = n' ∧ m = m' ∧ isCells (lookO own o) = true then some [] else none
        | _ => none
      | _ => none
    else none
  | .cst (.slice none 0 0) => match d with
    | .cst (.slice none 0 0) => some []
    | _ => none
  | .pe o' i' s' => match lookO own' o' with
    | .row _ t' xs' => match assoc ren o' with
      | some (.own o) => match d with
        | .pe o2 i s => match lookO own o with
          | .row _ t _ => if o = o2 ∧ i = i' ∧ s = s' ∧ t = t' then some [i' < List.length xs'] else none
          | _ => none
        | _ => none
      | _ => none
    | _ => none
  | _ => none

def both (a b : Option (List Prop)) : Option (List Prop) := match a with
  | some p => match b with
    | some q => some (p ++ q)
    | none => none
  | none => none
def entDs0 (own own' : Own) (ren : List (Nat × D)) : List D → List D → Option (List Prop)
  | [], [] => some []
  | d :: r, d' :: r' => both (entD0 own own' ren d d') (entDs0 own own' ren r r')
  | _, _ => none
def entD (own own' : Own) (ren : List (Nat × D)) (d d' : D) : Option (List Prop) := match d' with
  | .fn g' caps' => match d with
    | .fn g caps => if g = g' then entDs0 own own' ren caps caps' else none
    | _ => none
  | d' => entD0 own own' ren d d'
def entDs (own own' : Own) (ren : List (Nat × D)) : List D → List D → Option (List Prop)
  | [], [] => some []
  | d :: r, d' :: r' => both (entD own own' ren d d') (entDs own own' ren r r')
  | _, _ => none

def entB (own own' : Own) (ren : List (Nat × D)) (o' : Nat) (b : Blk) : Option (List Prop) :=
  match b with
  | .dead => some []
  | .gone => some []
  | .cells ty' ds' => match assoc ren o' with
    | some (.own o) => match lookO own o with
      | .cells ty ds => if ty = ty' then entDs own own' ren ds ds' else none
      | _ => none
    | _ => none
  | .row e' t' xs' => match assoc ren o' with
    | some (.own o) => match lookO own o with
      | .row e t xs => if e = e' then match cast? (.sl t) (.sl t') xs with
          | some x => some [x = xs']
          | none => none
        else none
      | _ => none
    | some (.cst (.slice none 0 0)) => if 0 < t'.size then some [xs' = []] else none
    | _ => none
  | .frow t' xs' => match assoc ren o' with
    | some (.own o) => match lookO own o with
      | .frow t xs => match cast? (.sl t) (.sl t') xs with
        | some x => some [x = xs']
        | none => none
      | _ => none
    | _ => none
  | .brow t' xs' => match assoc ren o' with
    | some (.own o) => match lookO own o with
      | .brow t xs => match cast? (.sl t) (.sl t') xs with
        | some x => some [x = xs']
        | none => none
      | _ => none
    | _ => none
  | .map T' kt' vt' n' f' => match assoc ren o' with
    | some (.own o) => match lookO own o with
      | .map T kt vt n f => if T = T' then match castF kt vt kt' vt' f with
          | some f => some [n ≤ n', f = f']
          | none => none
        else none
      | _ => none
    | _ => none
  | .iter s' p' => match assoc ren o' with
    | some (.own o) => match lookO own o with
      | .iter s p => some [s = s', p = p']
      | _ => none
    | _ => none
  | .miter vt' f' l' n' none => match assoc ren o' with
    | some (.own o) => match lookO own o with
      | .miter vt f l n _ => match castF .str vt .str vt' f with
          | some f => some [f = f', l = l', n = n']
          | none => none
      | _ => none
    | _ => none
  | .miter .. => none
  | .far => none
  | .rfar => none
  | .fcells .. => none

def entEnv (env : Env) (own own' : Own) (ren : List (Nat × D)) : Env → Option (List Prop)
  | [] => some []
  | (s, d') :: r => both (entD own own' ren (ungd (look env s)) d') (entEnv env own own' ren r)
def entOwn (own own' : Own) (ren : List (Nat × D)) : Own → Option (List Prop)
  | [] => some []
  | (o', b) :: r => both (entB own own' ren o' b) (entOwn own own' ren r)

def blkPairs (own : Own) (ren : List (Nat × D)) : Own → List (Nat × D)
  | [] => []
  | (o', .cells _ ds') :: r => (match assoc ren o' with
    | some (.own o) => match lookO own o with
      | .cells _ ds => pairsL ds ds'
      | _ => []
    | _ => []) ++ blkPairs own ren r
  | _ :: r => blkPairs own ren r

def renOf (st st' : St) : List (Nat × D) :=
  let ren := st'.env.flatMap fun p => pairs2 (look st.env p.1) p.2
  ren ++ blkPairs st.own ren st'.own

def renInj (ren : List (Nat × D)) (own' : Own) : Bool :=
  own'.all fun p => own'.all fun q => p.1 == q.1 || (match assoc ren p.1 with
    | some (.own k) => match assoc ren q.1 with
      | some (.own k') => k != k'
      | _ => true
    | _ => true)

def entWith (st st' : St) (ren : List (Nat × D)) : Prop :=
  if renInj ren st'.own then
    match both (entEnv st.env st.own st'.own ren st'.env) (entOwn st.own st'.own ren st'.own) with
    | some ps => allL ps
    | none => False
  else False
def ent (st st' : St) : Prop := entWith st st' (renOf st st')

def LoopAnn.st (L : LoopAnn) (s : St) (x : L.α) : St :=
  ⟨L.env s x ++ L.keep.map fun t => (t, look s.env t), L.own s x ++ L.okeep.map fun o => (o, lookO s.own o), L.nxt, s.n⟩

def isNil : D → Bool
  | .cst (.slice none 0 0) => true
  | _ => false

def isSl : TK → Bool
  | .sl _ => true
  | _ => false

inductive Md where
  | top | goes | keep (g : Nat) (N : List Nat)

def isCall (o : Oper) : Bool := match o.op with
  | .call { callee := .value _, .. } => true
  | _ => false
def hasLoop : Code → Bool
  | .loop _ => true
  | .region _ ops _ => ops.toList.any isCall
  | .seq a b => hasLoop a || hasLoop b
  | .cond _ a b => hasLoop a || hasLoop b
  | .block _ b => hasLoop b
  | .scope b => hasLoop b
  | _ => false

def loopKey (md : Md) (id : Nat) : Option Nat := match md with
  | .top => some id
  | .goes => none
  | .keep g _ => some ((g + 1) * 10000 + id)

def loopAnn (C : Cfg) (md : Md) (b : Code) : Option LoopAnn := match firstRegion b with
  | some id => match loopKey md id with
    | some key => assocL C.loops key
    | none => none
  | none => none

def cutAnn (C : Cfg) (md : Md) (b : Code) : Option LoopAnn := match firstRegion b with
  | some id => match loopKey md id with
    | some key => assocL C.cuts key
    | none => none
  | none => none

def turnK : Blk → Blk → Bool
  | .gone, _ => true
  | .cells .., .cells .. => true
  | .row .., .row .. => true
  | .row .., .frow .. => true
  | .frow .., .frow .. => true
  | .brow .., .brow .. => true
  | .map .., .map .. => true
  | .iter .., .iter .. => true
  | .miter .., .miter .. => true
  | .dead, .dead => true
  | _, _ => false

def Md.own (md : Md) (s : St) : Own := match md with
  | .keep _ N => N.map fun o => (o, lookO s.own o)
  | _ => []
def LoopAnn.stM (L : LoopAnn) (md : Md) (s : St) (x : L.α) : St := ⟨(L.st s x).env, (L.st s x).own ++ (md.own s).filter (fun p => !((L.st s x).own.any fun q => q.1 == p.1)), (L.st s x).nxt, (L.st s x).n⟩
def renM (md : Md) (st st' : St) : List (Nat × D) := match md with
  | .keep _ N => renOf st st' ++ N.map fun o => (o, .own o)
  | _ => renOf st st'
def keptB (md : Md) (ren : List (Nat × D)) (own own' : Own) : Bool := match md with
  | .keep _ N => N.all fun o => (match assoc ren o with
    | some (.own k) => k == o
    | _ => false) && turnK (lookO own o) (lookO own' o)
  | _ => true
def entM (md : Md) (st st' : St) : Prop := if keptB md (renM md st st') st.own st'.own then entWith st st' (renM md st st') else False

def LoopAnn.frS (L : LoopAnn) (st : St) : St := ⟨st.env, freeze st.own (L.frz st), st.nxt, st.n⟩
def LoopAnn.holds (L : LoopAnn) (md : Md) (st st' : St) : Prop := match L.pick with
  | some f => Wr (L.inv st (f st st')) ∧ entM md (L.frS st') (L.stM md st (f st st'))
  | none => ∃ x, Wr (L.inv st x) ∧ entM md (L.frS st') (L.stM md st x)
def LoopAnn.goesOn (L : LoopAnn) (md : Md) (st : St) (x : L.α) (st' : St) : Prop := match L.pick with
  | some f => Wr (L.inv st (f st st')) ∧ Wr (L.mu st (f st st') < L.mu st x) ∧ entM md (L.frS st') (L.stM md st (f st st'))
  | none => ∃ x', Wr (L.inv st x') ∧ Wr (L.mu st x' < L.mu st x) ∧ entM md (L.frS st') (L.stM md st x')
theorem LoopAnn.holds_ex {L : LoopAnn} {md : Md} {st st' : St} (h : L.holds md st st') : ∃ x, Wr (L.inv st x) ∧ entM md (L.frS st') (L.stM md st x) := by
  unfold LoopAnn.holds at h
  split at h
  · exact ⟨_, h⟩
  · exact h
theorem LoopAnn.goesOn_ex {L : LoopAnn} {md : Md} {st st' : St} {x : L.α} (h : L.goesOn md st x st') : ∃ x', Wr (L.inv st x') ∧ Wr (L.mu st x' < L.mu st x) ∧ entM md (L.frS st') (L.stM md st x') := by
  unfold LoopAnn.goesOn at h
  split at h
  · exact ⟨_, h⟩
  · exact h

mutual
def avN (N : List Nat) : D → Bool
  | .pt o _ => N.contains o
  | .arr o .. => N.contains o
  | .arx o .. => N.contains o
  | .pe .. => false
  | .own o => N.contains o
  | .agg ds => avNs N ds
  | .tup ds => avNs N ds
  | .fn _ ds => avNs N ds
  | .gd _ _ d => avN N d
  | _ => true
def avNs (N : List Nat) : List D → Bool
  | [] => true
  | d :: r => avN N d && avNs N r
end
def keepE (md : Md) (env : Env) : Env := match md with
  | .keep _ N => env.map fun p => (p.1, if avN N p.2 then p.2 else .any)
  | _ => env
def subMd : Md → Md → Bool
  | .top, _ => true
  | _, .goes => true
  | .keep _ N, .keep _ N' => N.all fun o => N'.contains o
  | _, _ => false
def isRowB : Blk → Bool
  | .row .. => true
  | _ => false
def laidMd (C : Cfg) (g : Nat) (body : Code) (own : Own) : Md := if hasLoop body then .keep g ((if C.lets.contains g then own.filter (fun p => !isRowB (lookO own p.1)) else own).map (·.1)) else .goes

def frzG (C : Cfg) (env : Env) (own : Own) (t : Nat) (w : Bool) (o : Oper) : Own := match o.op with
  | .call { callee := .value f, args, .. } => match ungd (strip' t w (opnd env f)) with
    | .fn g caps => match assocC C.cons g with
      | some c => if c.r.flat then own else freeze own (flats (args.toList.map (fun x => ungd (strip' t w (opnd env x))) ++ caps))
      | none => own
    | _ => own
  | _ => own

def whyD (C : Cfg) (all : List Oper) (ws : List (List (Nat × Nat))) (ancs : List Nat) (st : St) : Nat → List Oper → List DZ → Nat
  | _, [], _ => 0
  | i, o :: rest, acc => match stepD C all (viewE all ancs st.env i acc) (viewO ws ancs st.own i acc) (st.nxt + i) o with
    | some r =>
      let hid := viewH ws ancs st.own i acc
      let own := viewO ws ancs st.own i acc
      if checkD ws ancs st.n i o r hid own acc then whyD C all ws ancs st (i + 1) rest (⟨i, o, r⟩ :: acc) else
      1000 + 10 * i + (if r.delta.all (fun p => (ws.getD i []).contains (p.1, kindB p.2)) then if r.delta.all (fun p => !hid.hid.contains p.1) then if av hid r.d then if (r.delta ++ own).all (fun p => hid.hid.contains p.1 || avB hid (lookO (r.delta ++ own) p.1)) then 5 else 4 else 3 else 2 else 1)
    | none => 1000 + 10 * i
def drawWhy (C : Cfg) (all : List Oper) (st : St) : Nat :=
  whyD C all (preD C all st.nxt 0 all st.env st.own) (ancsOf all []) st 0 all []

def runeAt (s : ByteArray) (pos : Nat) : Int := ((Utf8.decode s pos).1 : Int)
def nextP (s : ByteArray) (pos : Nat) : Nat := pos + (Utf8.decode s pos).2
def nextD (s : ByteArray) (pos : Nat) : D := .tup [.dat .bool true, .dat (.int .i64) (pos : Int), .dat (.int .i32) (runeAt s pos)]

def dynOf (C : Cfg) (env : Env) (o : Oper) : Option (Nat × Option FuncId) := match C.dyn, o.guard, o.op with
  | _ :: _, none, .call { callee := .value (.tmp t), .. } => match look env t with
    | .dat .fp e => some (t, e)
    | _ => none
  | _, _, _ => none
def dynL : List (Nat × FuncId) → Nat → List FuncId
  | [], _ => []
  | (s, g) :: r, t => if s = t then g :: dynL r t else dynL r t
def dynB : List FuncId → Option FuncId → (FuncId → Prop) → Prop
  | [], _, _ => True
  | g :: r, e, q => (Wr (e = some g) → q g) ∧ dynB r e q
def dynA (l : List FuncId) (e : Option FuncId) (q : FuncId → Prop) : Prop := Wr ((l.any fun g => decide (e = some g)) = true) ∧ dynB l e q
theorem dynB_out {e : Option FuncId} {q : FuncId → Prop} {g : FuncId} : ∀ {l : List FuncId}, dynB l e q → g ∈ l → e = some g → q g
  | h :: r, ⟨h1, h2⟩, hm, he => by
    rcases List.mem_cons.1 hm with rfl | hm
    · exact h1 ⟨he⟩
    · exact dynB_out h2 hm he
theorem dynA_out {l : List FuncId} {e : Option FuncId} {q : FuncId → Prop} (h : dynA l e q) : ∃ g, e = some g ∧ q g := by
  obtain ⟨⟨h1⟩, h2⟩ := h
  obtain ⟨g, hg, he⟩ := List.any_eq_true.1 h1
  exact ⟨g, of_decide_eq_true he, dynB_out h2 hg (of_decide_eq_true he)⟩

inductive Fail : Nat → Nat → Prop
theorem Fail.elim {n m : Nat} {α : Prop} (h : Fail n m) : α := by cases h

structure Dfr where
  pre : List Oper
  all : List Oper
  h : FuncId
  args : List Operand
  rest : Code
def deferOf : Code → Option Dfr
  | .seq (.region _ ops false) rest => match ops.toList.reverse with
    | o :: pre => match o.op, o.guard, o.dst with
      | .defer { callee := .value (.func h), args, .. }, none, none => some ⟨pre.reverse, ops.toList, h, args.toList, rest⟩
      | _, _, _ => none
    | [] => none
  | _ => none
def keptD (md : Md) (d : D) : Bool := match md with
  | .top => false
  | .goes => true
  | .keep _ N => avN N d

variable (C : Cfg)
def exec (md : Md) : Nat → Item → St → (Exit → St → Prop) → Prop
  | 0, _, _, _ => Fail 1 0
  | n + 1, .code c, st, K => match c with
    | .skip => K .normal st
    | .seq a b => match cutAnn C md b with
      | some L => (exec md n (.code a) st fun e st' => match e with
          | .normal => if st'.n = st.n then L.holds md st st' else Fail 27 0
          | e => K e st') ∧ ∀ x, Wr (L.inv st x) → exec md n (.code b) (L.stM md st x) K
      | none => exec md n (.code a) st fun e st' => match e with
        | .normal => exec md n (.code b) st' K
        | e => K e st'
    | .cond c a b => match opnd st.env c with
      | .dat .bool x => bcase x (exec md n (.code a) st K) (exec md n (.code b) st K)
      | _ => Fail 2 0
    | .block id b => exec md n (.code b) st fun e st' => match e with
      | .exit id' => if id' = id then K .normal st' else K (.exit id') st'
      | e => K e st'
    | .exit id => K (.exit id) st
    | .ret => K .ret st
    | .region _ ops false => exec md n (.ops ops.toList ops.toList) { st with env := clean st.env } K
    | .region id ops true => match drawR C ops.toList { st with env := clean st.env } with
      | some (ps, st') => andL ps (K .normal st')
      | none => match drawM C ops.toList { st with env := clean st.env } with
        | some (ps, st') => andL ps (K .normal st')
        | none => match tailOf ops.toList with
          | some (F, o) => match drawR C F { st with env := clean st.env } with
            | some (ps, st') => andL ps (exec md n (.ops ops.toList [o]) { st' with env := clean st'.env } K)
            | none => Fail (drawWhy C F { st with env := clean st.env }) id
          | none => Fail (drawWhy C ops.toList { st with env := clean st.env }) id
    | .scope b => exec md n (.code b) st fun e st' => match e with
      | .goto _ => Fail 26 0
      | e => K e st'
    | .label _ => K .normal st
    | .loop b => match loopAnn C md b with
      | some L => L.holds md st st ∧ ∀ x, Wr (L.inv st x) → exec md n (.code b) (L.stM md st x) fun e st' => match e with
        | .normal => if st'.n = st.n then L.goesOn md st x st' else Fail 4 0
        | e => K e st'
      | none => if C.unroll then exec md n (.code b) st fun e st' => match e with
          | .normal => exec md n (.code (.loop b)) st' K
          | e => K e st'
        else Fail 5 ((firstRegion b).getD 999)
    | _ => Fail 8 0
  | n + 1, .ops all rest, st, K => match rest with
    | [] => K .normal st
    | o :: rest => if putOk st.n o.dst then match dynOf C st.env o with
      | some (t, e) => dynA (dynL C.dyn t) e fun g => exec md n (.ops all (o :: rest)) { st with env := (t, .fn g []) :: st.env } K
      | none => match o.guard with
      | none => match o.op with
        | .pick c a b => match pickD st.env c a b id with
          | some d => exec md n (.ops all rest) { st with env := put st.env o.dst d } K
          | none => Fail 9 (o.dst.getD 999)
        | _ => match stepF C (fun x => ungd (opnd st.env x)) st.own st.nxt o false with
          | some r => if r.nxt = st.nxt ∨ fresh st.own st.nxt = true then andL r.side (impL r.hyp (exec md n (.ops all rest) ⟨put st.env o.dst r.d, r.own, r.nxt, st.n⟩ K)) else Fail 10 (o.dst.getD 999)
          | none => match o.op with
            | .call { callee := .value f, args, .. } => match ungd (opnd st.env f) with
              | .fn g caps => match assoc C.mcons g with
                | some mc => match mArgs mc st.own (args.toList.map (fun x => ungd (opnd st.env x)) ++ caps) with
                  | some (k, xs, y) => Wr (mc.pre xs y) ∧ exec md n (.ops all rest) ⟨put st.env o.dst (mRes mc (mc.F xs y)), (k, mBlk mc (mc.F xs y)) :: st.own, st.nxt, st.n⟩ K
                  | none => Fail 32 (o.dst.getD 999)
                | none => match assoc C.inls g with
                | some fn => match fn.body with
                  | some body => match deferOf body with
                    | some dd => if args.size + caps.length ≤ fn.ntmps ∧ subMd md (laidMd C g body st.own) = true then
                        exec (laidMd C g body st.own) n (.ops dd.all dd.pre) ⟨clean ((List.range (args.size + caps.length)).zip (args.toList.map (fun x => ungd (opnd st.env x)) ++ caps)), st.own, st.nxt, fn.ntmps⟩ fun e1 st1 => match e1 with
                        | .normal => exec (laidMd C g body st.own) n (.code dd.rest) st1 fun e2 st2 => match e2 with
                          | .normal | .ret => match assoc C.inls dd.h with
                            | some fn2 => match fn2.body with
                              | some body2 => if dd.args.length ≤ fn2.ntmps ∧ subMd (laidMd C g body st.own) (laidMd C dd.h body2 st2.own) = true ∧ (dd.args.all fun x => keptD (laidMd C g body st.own) (ungd (opnd st1.env x))) = true then
                                  exec (laidMd C dd.h body2 st2.own) n (.code body2) ⟨(List.range dd.args.length).zip (dd.args.map fun x => ungd (opnd st1.env x)), st2.own, st2.nxt, fn2.ntmps⟩ fun e3 st3 => match e3 with
                                  | .normal | .ret => match retOf C st3.env st3.own fn2.results.toList with
                                    | some _ => match retOf C (keepE (laidMd C dd.h body2 st2.own) st2.env) st3.own fn.results.toList with
                                      | some ds => exec md n (.ops all rest) ⟨put (keepE (laidMd C g body st.own) st.env) o.dst (retD ds), st3.own, st3.nxt, st.n⟩ K
                                      | none => Fail 33 (o.dst.getD 999)
                                    | none => Fail 34 (o.dst.getD 999)
                                  | _ => Fail 35 (o.dst.getD 999)
                                else Fail 36 (o.dst.getD 999)
                              | none => Fail 37 (o.dst.getD 999)
                            | none => Fail 38 (o.dst.getD 999)
                          | _ => Fail 39 (o.dst.getD 999)
                        | _ => Fail 40 (o.dst.getD 999)
                      else Fail 41 (o.dst.getD 999)
                    | none => if args.size + caps.length ≤ fn.ntmps ∧ subMd md (laidMd C g body st.own) = true then exec (laidMd C g body st.own) n (.code body) ⟨(List.range (args.size + caps.length)).zip (args.toList.map (fun x => ungd (opnd st.env x)) ++ caps), st.own, st.nxt, fn.ntmps⟩ fun e st' => match e with
                    | .normal | .ret => match retOf C st'.env st'.own fn.results.toList with
                      | some ds => exec md n (.ops all rest) ⟨put (keepE (laidMd C g body st.own) st.env) o.dst (retD ds), st'.own, st'.nxt, st.n⟩ K
                      | none => Fail 11 (o.dst.getD 999)
                    | _ => Fail 12 (o.dst.getD 999)
                    else Fail 13 (o.dst.getD 999)
                  | none => Fail 14 (o.dst.getD 999)
                | none => Fail 15 (o.dst.getD 999)
              | _ => Fail 16 (o.dst.getD 999)
            | .binOp .eql T x y _ => match slOf st.own (ungd (opnd st.env x)) with
              | some ⟨_, xs⟩ => if isNil (ungd (opnd st.env y)) && isSl (kindT C T) then ∀ b : Bool, Wr (b = true → xs = []) → exec md n (.ops all rest) { st with env := put st.env o.dst (.dat .bool b) } K else Fail 17 (o.dst.getD 999)
              | none => Fail 18 (o.dst.getD 999)
            | .next x true => match ungd (opnd st.env x) with
              | .own k => match lookO st.own k with
                | .iter s pos => bcase (decide (pos < s.size)) (exec md n (.ops all rest) ⟨put st.env o.dst (nextD s pos), (k, .iter s (nextP s pos)) :: st.own, st.nxt, st.n⟩ K) (exec md n (.ops all rest) ⟨put st.env o.dst (.tup [.dat .bool false]), st.own, st.nxt, st.n⟩ K)
                | _ => Fail 28 (o.dst.getD 999)
              | _ => Fail 29 (o.dst.getD 999)
            | .next x false => match ungd (opnd st.env x) with
              | .own k => match lookO st.own k with
                | .miter vt f left cnt _ => (∀ (s : ByteArray) (y : vt.El) (m : Nat), Wr (left s = true ∧ f s = some y ∧ m < cnt) → exec md n (.ops all rest) ⟨put st.env o.dst (.tup [.dat .bool true, .dat .str s, .dat vt y]), (k, .miter vt f (fun x => left x && !decide (x = s)) m (some (s, y))) :: st.own, st.nxt, st.n⟩ K) ∧
                    (Wr (∀ s, left s = false) → exec md n (.ops all rest) ⟨put st.env o.dst (.tup [.dat .bool false]), st.own, st.nxt, st.n⟩ K)
                | _ => Fail 30 (o.dst.getD 999)
              | _ => Fail 31 (o.dst.getD 999)
            | _ => Fail 19 (o.dst.getD 999)
      | some (j, w) => match (all[j]?).bind (·.dst) with
        | some t => match condB st.env 9 t w with
          | some c => if rest.all (fun o => o.dst != some t) && o.dst != some t then if offM st.env st.n t w then exec md n (.ops all rest) { st with env := put st.env o.dst (.gd t w (.dat .bool false)) } K else match o.op with
            | .pick p a b => match pickD st.env p a b (strip' t w) with
              | some d => exec md n (.ops all rest) { st with env := put st.env o.dst (.gd t w d) } K
              | none => Fail 20 (o.dst.getD 999)
            | _ => match stepF C (fun x => ungd (strip' t w (opnd st.env x))) (frzG C st.env st.own t w o) st.nxt o true with
              | some r => andL (r.side.map (Cnd.imp c)) (impL (r.hyp.map fun p => c = true → p) (exec md n (.ops all rest) ⟨put st.env o.dst (.gd t w r.d), frzG C st.env st.own t w o, st.nxt, st.n⟩ K))
              | none => match look st.env t with
                | .dat .bool b => bcase (cond w b (!b)) (exec md n (.ops all ({ o with guard := none } :: rest)) { st with env := onE t w st.env } K)
                    (exec md n (.ops all rest) { st with env := put (offE st.n t w st.env) o.dst (.gd t w (.dat .bool false)) } K)
                | _ => match outG st.env t with
                  | some (t2, w2, b2) => bcase (cond w2 b2 (!b2)) (exec md n (.ops all (o :: rest)) { st with env := onE t2 w2 st.env } K)
                      (exec md n (.ops all rest) { st with env := put (offE st.n t2 w2 st.env) o.dst (.gd t w (.dat .bool false)) } K)
                  | none => Fail 21 (o.dst.getD 999)
            else Fail 22 (o.dst.getD 999)
          | none => Fail 23 (o.dst.getD 999)
        | none => Fail 24 (o.dst.getD 999)
      else Fail 25 (o.dst.getD 999)

def vcFn (fuel : Nat) (fn : Func) (c : Contract) : Prop :=
  match fn.body with
  | some body => ∀ x : c.a.El, Wr (c.pre x) → if (resOf c.a x).length ≤ fn.ntmps then exec C .top fuel (.code body)
      ⟨(List.range (resOf c.a x).length).zip (resOf c.a x), [], 0, fn.ntmps⟩ fun e st => match e with
      | .ret | .normal => match retOf C st.env st.own fn.results.toList with
        | some ds => match c.fresh with
          | none => if fits c.r ds then match argsOf (stay (freeze st.own (flats ds))) c.r ds with
              | some y => if c.clip then match ds with
                  | [.clip ..] => y = c.F x
                  | _ => False
                else y = c.F x
              | none => False
            else False
          | some e => match (⟨c.r, c.F x⟩ : Σ r : Ty, r.El) with
            | ⟨.cons (.sl t) .unit, y⟩ => match ds with
              | [.own o] => match lookO st.own o with
                | .row e' t' xs => if e = e' then match cast? (.sl t') (.sl t) xs with
                    | some xs => xs = y.1
                    | none => False
                  else False
                | _ => False
              | [.cst (.slice none 0 0)] => if 0 < t.size then y.1 = [] else False
              | _ => False
            | _ => False
        | none => False
      | _ => False
    else False
  | none => False

end Go.Eng
namespace Go.Eng
open Go.RowKit

def Lies (w : World) (b off : Nat) (es : List Value) : Prop := ∀ j v, es[j]? = some v → w.cell? ⟨b, off + j, none⟩ = some v

def vOf (t : Ty) (cs : List Value) : Value := if t.isAgg then .agg cs.toArray else cs.headD undef

def group : Ty → List Value → List Value
  | .cons t u, cs => vOf t (cs.take t.size) :: group u (cs.drop t.size)
  | _, _ => []
def retV (r : Ty) (cs : List Value) : Value := match group r cs with
  | [v] => v
  | vs => .tuple vs.toArray

def Stays (S : Nat → Prop) (w : World) (S' : Nat → Prop) (w' : World) : Prop := ∀ b, S b → S' b ∧ w'.heap[b]? = w.heap[b]?

variable (P : Program)

def RdC : (t : Ty) → (S : Nat → Prop) → (w : World) → t.El → List Value → Prop
  | .int k, _, _, n, cs => cs = [.int k n] ∧ k.wrap n = n
  | .bool, _, _, b, cs => cs = [.bool b]
  | .str, _, _, s, cs => cs = [.string s] ∧ s.size ≤ maxLen
  | .unit, _, _, _, cs => cs = []
  | .cons t u, S, w, x, cs => ∃ c1 c2, cs = c1 ++ c2 ∧ RdC t S w x.1 c1 ∧ RdC u S w x.2 c2
  | .sl t, S, w, xs, cs => ∃ base cap, cs = [.slice base (List.length xs) cap] ∧ List.length xs ≤ cap ∧ cap ≤ maxLen ∧
      (xs ≠ [] → ∃ b off, base = some ⟨b, off, none⟩ ∧ S b ∧ ∀ i x, xs[i]? = some x → ∃ es, RdC t S w x es ∧ Lies w b (off + i * t.size) es)
  | .ptr t, S, w, p, cs => match p with
    | none => cs = [.pointer none]
    | some x => ∃ b off es, cs = [.pointer (some ⟨b, off, none⟩)] ∧ S b ∧ RdC t S w x es ∧ Lies w b off es
  | .err, _, _, b, cs => (b = true ∧ ∃ t u, cs = [.iface t u]) ∨ (b = false ∧ cs = [.nilIface])
  | .fp, _, _, f, cs => match f with
    | none => cs = [.nilFunc]
    | some g => cs = [.func (.func g) #[] #[]]
  | .fn a r, S, w, f, cs => ∃ g caps, cs = [.func (.func g) #[] caps] ∧ ∀ S' w', Stays S w S' w' → (∀ b, S' b → b < w'.heap.size) → ∀ x xs, RdC a S' w' x xs →
      Calls P g ((group a xs).toArray ++ caps) w' fun e w'' => Below w'.heap.size w' w'' ∧ ∃ rs, e = .returned (retV r rs) ∧ RdC r (fun b => S' b ∨ w'.heap.size ≤ b ∧ b < w''.heap.size) w'' (f x) rs

variable {P}

theorem Stays.refl (S : Nat → Prop) (w : World) : Stays S w S w := fun _ h => ⟨h, rfl⟩
theorem Stays.trans {S S' S'' : Nat → Prop} {w w' w'' : World} (h : Stays S w S' w') (h' : Stays S' w' S'' w'') : Stays S w S'' w'' :=
  fun b hb => ⟨(h' b (h b hb).1).1, (h' b (h b hb).1).2.trans (h b hb).2⟩

theorem Lies.mono {w w' : World} {b off : Nat} {es : List Value} (h : Lies w b off es) (hb : w'.heap[b]? = w.heap[b]?) : Lies w' b off es := by
  intro j v hj
  rw [World.cell?_of_block (w := w) (w' := w') hb]
  exact h j v hj

theorem RdC.mono : ∀ {t : Ty} {S S' : Nat → Prop} {w w' : World} {x : t.El} {cs : List Value}, RdC P t S w x cs → Stays S w S' w' → RdC P t S' w' x cs
  | .int _, _, _, _, _, _, _, h, _ => h
  | .bool, _, _, _, _, _, _, h, _ => h
  | .str, _, _, _, _, _, _, h, _ => h
  | .unit, _, _, _, _, _, _, h, _ => h
  | .err, _, _, _, _, _, _, h, _ => h
  | .fp, _, _, _, _, none, _, h, _ => h
  | .fp, _, _, _, _, some _, _, h, _ => h
  | .cons t u, S, S', w, w', x, cs, h, hs => by
    obtain ⟨c1, c2, e, h1, h2⟩ := h
    exact ⟨c1, c2, e, h1.mono hs, h2.mono hs⟩
  | .sl t, S, S', w, w', xs, cs, h, hs => by
    obtain ⟨base, cap, e, h1, h2, h3⟩ := h
    refine ⟨base, cap, e, h1, h2, fun hne => ?_⟩
    obtain ⟨b, off, hb, hS, hel⟩ := h3 hne
    refine ⟨b, off, hb, (hs b hS).1, fun i x hi => ?_⟩
    obtain ⟨es, hes, hl⟩ := hel i x hi
    exact ⟨es, hes.mono hs, hl.mono (hs b hS).2⟩
  | .ptr t, S, S', w, w', none, cs, h, hs => h
  | .ptr t, S, S', w, w', some x, cs, h, hs => by
    obtain ⟨b, off, es, e, hS, hr, hl⟩ := h
    exact ⟨b, off, es, e, (hs b hS).1, hr.mono hs, hl.mono (hs b hS).2⟩
  | .fn a r, S, S', w, w', f, cs, h, hs => by
    obtain ⟨g, caps, e, hc⟩ := h
    exact ⟨g, caps, e, fun S'' w'' h' hb x xs hx => hc S'' w'' (hs.trans h') hb x xs hx⟩

theorem RdC.length : ∀ {t : Ty} {S : Nat → Prop} {w : World} {x : t.El} {cs : List Value}, RdC P t S w x cs → cs.length = t.size
  | .int _, _, _, _, _, h => by rw [h.1]; rfl
  | .bool, _, _, _, _, h => by rw [show _ = _ from h]; rfl
  | .str, _, _, _, _, h => by rw [h.1]; rfl
  | .unit, _, _, _, _, h => by rw [show _ = _ from h]; rfl
  | .err, _, _, _, _, h => by rcases h with ⟨_, t, u, rfl⟩ | ⟨_, rfl⟩ <;> rfl
  | .fp, _, _, none, _, h => by rw [show _ = _ from h]; rfl
  | .fp, _, _, some _, _, h => by rw [show _ = _ from h]; rfl
  | .cons t u, S, w, x, cs, h => by
    obtain ⟨c1, c2, e, h1, h2⟩ := h
    rw [e, List.length_append, h1.length, h2.length]; rfl
  | .sl t, S, w, xs, cs, h => by obtain ⟨base, cap, e, _⟩ := h; rw [e]; rfl
  | .ptr t, S, w, none, cs, h => by rw [show cs = _ from h]; rfl
  | .ptr t, S, w, some x, cs, h => by obtain ⟨b, off, es, e, _⟩ := h; rw [e]; rfl
  | .fn a r, S, w, f, cs, h => by obtain ⟨g, caps, e, _⟩ := h; rw [e]; rfl

theorem RdC.one : ∀ {t : Ty} {S : Nat → Prop} {w : World} {x : t.El} {cs : List Value}, RdC P t S w x cs → ∀ v ∈ cs, v.oneCell' = true
  | .int _, _, _, _, _, h, v, hv => by rw [h.1] at hv; simp at hv; rw [hv]; rfl
  | .bool, _, _, _, cs, h, v, hv => by rw [show cs = _ from h] at hv; simp at hv; rw [hv]; rfl
  | .str, _, _, _, _, h, v, hv => by rw [h.1] at hv; simp at hv; rw [hv]; rfl
  | .unit, _, _, _, cs, h, v, hv => by rw [show cs = _ from h] at hv; simp at hv
  | .fp, _, _, none, cs, h, v, hv => by rw [show cs = _ from h] at hv; simp at hv; rw [hv]; rfl
  | .fp, _, _, some _, cs, h, v, hv => by rw [show cs = _ from h] at hv; simp at hv; rw [hv]; rfl
  | .err, _, _, _, cs, h, v, hv => by
    rcases h with ⟨_, t, u, rfl⟩ | ⟨_, rfl⟩
    · simp at hv; rw [hv]; rfl
    · simp at hv; rw [hv]; rfl
  | .cons t u, S, w, x, cs, h, v, hv => by
    obtain ⟨c1, c2, e, h1, h2⟩ := h
    rw [e] at hv
    rcases List.mem_append.1 hv with hv | hv
    · exact h1.one v hv
    · exact h2.one v hv
  | .sl t, S, w, xs, cs, h, v, hv => by obtain ⟨base, cap, e, _⟩ := h; rw [e] at hv; simp at hv; rw [hv]; rfl
  | .ptr t, S, w, none, cs, h, v, hv => by rw [show cs = _ from h] at hv; simp at hv; rw [hv]; rfl
  | .ptr t, S, w, some x, cs, h, v, hv => by obtain ⟨b, off, es, e, _⟩ := h; rw [e] at hv; simp at hv; rw [hv]; rfl
  | .fn a r, S, w, f, cs, h, v, hv => by obtain ⟨g, caps, e, _⟩ := h; rw [e] at hv; simp at hv; rw [hv]; rfl

theorem RdC.flat : ∀ {t : Ty} {S S' : Nat → Prop} {w w' : World} {x : t.El} {cs : List Value}, t.flat = true → RdC P t S w x cs → RdC P t S' w' x cs
  | .int _, _, _, _, _, _, _, _, h => h
  | .bool, _, _, _, _, _, _, _, h => h
  | .str, _, _, _, _, _, _, _, h => h
  | .unit, _, _, _, _, _, _, _, h => h
  | .err, _, _, _, _, _, _, _, h => h
  | .fp, _, _, _, _, none, _, _, h => h
  | .fp, _, _, _, _, some _, _, _, h => h
  | .cons t u, _, _, _, _, _, _, hf, h => by
    obtain ⟨c1, c2, e, h1, h2⟩ := h
    simp only [Ty.flat, Bool.and_eq_true] at hf
    exact ⟨c1, c2, e, h1.flat hf.1, h2.flat hf.2⟩

def RdL (P : Program) (t : Ty) (S : Nat → Prop) (w : World) : List t.El → List Value → Prop
  | [], cs => cs = []
  | x :: r, cs => ∃ c1 c2, cs = c1 ++ c2 ∧ RdC P t S w x c1 ∧ RdL P t S w r c2

end Go.Eng
namespace Go.Eng

def lits : (t : Ty) → t.El → List Lit
  | .int k, n => [.int k n]
  | .bool, b => [.bool b]
  | .str, s => [.string (ByteArray.data s).toList]
  | .cons t u, x => lits t x.1 ++ lits u x.2
  | _, _ => []
def litWf : (t : Ty) → t.El → Bool
  | .int k, n => (Lit.int k n).wf
  | .str, s => decide ((ByteArray.data s).toList.length ≤ maxLen)
  | .cons t u, x => litWf t x.1 && litWf u x.2
  | _, _ => true

def litFields (f : TypeId → Ty → Bool) (P : Program) : List Field → Ty → Nat → Bool
  | [], .unit, _ => true
  | fd :: r, .cons t u, off => decide (fd.offset = off) && (decide (P.cellsOf fd.type = t.size) && (f fd.type t && litFields f P r u (off + t.size)))
  | _, _, _ => false
def litArr (f : TypeId → Ty → Bool) (e : TypeId) (c : Nat) : Nat → Ty → Bool
  | 0, .unit => true
  | n + 1, .cons t u => decide (c = t.size) && (f e t && litArr f e c n u)
  | _, _ => false
def litTB (P : Program) : Nat → TypeId → Ty → Bool
  | 0, _, _ => false
  | D + 1, T, t => match P.underlying T with
    | some .bool => decide (t = .bool)
    | some (.int q) => decide (t = .int q)
    | some .string => decide (t = .str)
    | some (.array n e) => decide (t.size = P.cellsOf T) && litArr (litTB P D) e (P.cellsOf e) n t
    | some (.struct fs) => decide (t.size = P.cellsOf T) && (fs.all (·.name != "_") && litFields (litTB P D) P fs.toList t 0)
    | _ => false

variable {P : Program}

theorem litFields_ok {D : Nat} (IH : ∀ T t, litTB P D T t = true → ∀ S w (x : t.El) cs, RdC P t S w x cs → P.keyLits D T cs = some (lits t x)) :
    ∀ (fs : List Field) (t : Ty) (off : Nat), litFields (litTB P D) P fs t off = true → ∀ S w (x : t.El) (pre cs : List Value), pre.length = off → RdC P t S w x cs →
      ∃ aa, (fs.mapM fun f => P.keyLits D f.type (((pre ++ cs).drop f.offset).take (P.cellsOf f.type))) = some aa ∧ aa.flatten = lits t x
  | [], t, off, h, S, w, x, pre, cs, hp, hr => by
    cases t <;> simp only [litFields, Bool.false_eq_true] at h
    exact ⟨[], rfl, rfl⟩
  | fd :: r, t, off, h, S, w, x, pre, cs, hp, hr => by
    cases t <;> simp only [litFields, Bool.false_eq_true] at h
    rename_i t u
    simp only [Bool.and_eq_true, decide_eq_true_eq] at h
    obtain ⟨h1, h2, h3, h4⟩ := h
    obtain ⟨c1, c2, rfl, r1, r2⟩ := hr
    obtain ⟨aa, ha, hf⟩ := litFields_ok IH r u _ h4 S w x.2 (pre ++ c1) c2 (by rw [List.length_append, hp, r1.length]) r2
    refine ⟨lits t x.1 :: aa, ?_, by simp [hf, lits]⟩
    have e1 : ((pre ++ (c1 ++ c2)).drop fd.offset).take (P.cellsOf fd.type) = c1 := by
      rw [h1, ← hp, List.drop_left, h2, ← r1.length, List.take_left]
    rw [List.mapM_cons, e1, IH _ _ h3 S w x.1 c1 r1]
    rw [List.append_assoc] at ha
    simp [ha]

theorem litArr_ok {D : Nat} {e : TypeId} (IH : ∀ T t, litTB P D T t = true → ∀ S w (x : t.El) cs, RdC P t S w x cs → P.keyLits D T cs = some (lits t x)) :
    ∀ (n : Nat) (t : Ty) (i : Nat), litArr (litTB P D) e (P.cellsOf e) n t = true → ∀ S w (x : t.El) (pre cs : List Value), pre.length = i * P.cellsOf e → RdC P t S w x cs →
      ∃ aa, ((List.range' i n).mapM fun i => P.keyLits D e (((pre ++ cs).drop (i * P.cellsOf e)).take (P.cellsOf e))) = some aa ∧ aa.flatten = lits t x
  | 0, t, i, h, S, w, x, pre, cs, hp, hr => by
    cases t <;> simp only [litArr, Bool.false_eq_true] at h
    exact ⟨[], rfl, rfl⟩
  | n + 1, t, i, h, S, w, x, pre, cs, hp, hr => by
    cases t <;> simp only [litArr, Bool.false_eq_true] at h
    rename_i t u
    simp only [Bool.and_eq_true, decide_eq_true_eq] at h
    obtain ⟨h2, h3, h4⟩ := h
    obtain ⟨c1, c2, rfl, r1, r2⟩ := hr
    obtain ⟨aa, ha, hf⟩ := litArr_ok IH n u (i + 1) h4 S w x.2 (pre ++ c1) c2 (by rw [List.length_append, hp, r1.length, h2, Nat.succ_mul]) r2
    refine ⟨lits t x.1 :: aa, ?_, by simp [hf, lits]⟩
    have e1 : ((pre ++ (c1 ++ c2)).drop (i * P.cellsOf e)).take (P.cellsOf e) = c1 := by
      rw [← hp, List.drop_left, h2, ← r1.length, List.take_left]
    rw [List.range'_succ, List.mapM_cons, e1, IH _ _ h3 S w x.1 c1 r1]
    rw [List.append_assoc] at ha
    simp [ha]

theorem lit_int_wf' {q : IntKind} {n : Int} (h : q.wrap n = n) : (Lit.int q n).wf = true := by
  have := Go.wf_wrap q n
  rwa [h] at this

theorem lits_ok : ∀ D T t, litTB P D T t = true → ∀ S w (x : t.El) cs, RdC P t S w x cs → P.keyLits D T cs = some (lits t x)
  | 0, _, _, h => by simp [litTB] at h
  | D + 1, T, t, h => by
    intro S w x cs hr
    unfold litTB at h
    unfold Program.keyLits
    split at h
    · rename_i hu; obtain rfl := of_decide_eq_true h
      obtain rfl := (show cs = _ from hr)
      simp [hu, lits]
    · rename_i q hu; obtain rfl := of_decide_eq_true h
      obtain ⟨rfl, hw⟩ := hr
      simp [hu, lits, lit_int_wf' hw]
    · rename_i hu; obtain rfl := of_decide_eq_true h
      obtain ⟨rfl, hw⟩ := hr
      simp [hu, lits, hw]
    · rename_i n e hu
      simp only [Bool.and_eq_true, decide_eq_true_eq] at h
      obtain ⟨aa, h1, h2⟩ := litArr_ok (lits_ok D) n t 0 h.2 S w x [] cs (by simp) hr
      simp only [hu, hr.length, h.1, if_true]
      rw [List.range_eq_range']
      simp only [List.nil_append] at h1
      rw [h1, Option.map_some, h2]
    · rename_i fs hu
      simp only [Bool.and_eq_true, decide_eq_true_eq] at h
      obtain ⟨aa, h1, h2⟩ := litFields_ok (lits_ok D) fs.toList t 0 h.2.2 S w x [] cs (by simp) hr
      simp only [List.nil_append] at h1
      simp only [hu, hr.length, h.1, h.2.1, and_self, if_true, h1, Option.map_some, h2]
    · cases h

theorem litWf_of : ∀ {t : Ty} {S : Nat → Prop} {w : World} {x : t.El} {cs : List Value}, RdC P t S w x cs → litWf t x = true
  | .int _, _, _, _, _, h => lit_int_wf' h.2
  | .str, _, _, _, _, h => by have := h.2; simp only [litWf, decide_eq_true_eq, Array.length_toList]; exact this
  | .cons t u, _, _, _, _, h => by
    obtain ⟨_, _, _, h1, h2⟩ := h
    simp [litWf, litWf_of h1, litWf_of h2]
  | .bool, _, _, _, _, _ => rfl
  | .unit, _, _, _, _, _ => rfl
  | .sl _, _, _, _, _, _ => rfl
  | .ptr _, _, _, _, _, _ => rfl
  | .fn .., _, _, _, _, _ => rfl
  | .err, _, _, _, _, _ => rfl
  | .fp, _, _, _, _, _ => rfl

theorem lits_len : ∀ (t : Ty) (x y : t.El), (lits t x).length = (lits t y).length
  | .cons t u, x, y => by simp [lits, lits_len t x.1 y.1, lits_len u x.2 y.2]
  | .int _, _, _ => rfl
  | .str, _, _ => rfl
  | .bool, _, _ => rfl
  | .unit, _, _ => rfl
  | .sl _, _, _ => rfl
  | .ptr _, _, _ => rfl
  | .fn .., _, _ => rfl
  | .err, _, _ => rfl
  | .fp, _, _ => rfl

theorem lits_alike : ∀ (t : Ty) (x y : t.El), Alike (lits t x) (lits t y)
  | .cons t u, x, y => by simp only [lits]; exact (lits_alike t x.1 y.1).append (lits_alike u x.2 y.2)
  | .int _, _, _ => ⟨rfl, trivial⟩
  | .str, _, _ => ⟨trivial, trivial⟩
  | .bool, _, _ => ⟨trivial, trivial⟩
  | .unit, _, _ => trivial
  | .sl _, _, _ => trivial
  | .ptr _, _, _ => trivial
  | .fn .., _, _ => trivial
  | .err, _, _ => trivial
  | .fp, _, _ => trivial

theorem lits_wf : ∀ (t : Ty) (x : t.El), litWf t x = true → ∀ a ∈ lits t x, a.keyWf
  | .cons t u, x, h => by
    simp only [litWf, Bool.and_eq_true] at h
    intro a ha
    simp only [lits, List.mem_append] at ha
    rcases ha with ha | ha
    · exact lits_wf t x.1 h.1 a ha
    · exact lits_wf u x.2 h.2 a ha
  | .int _, _, h => by simp only [lits, List.mem_singleton]; rintro a rfl; exact h
  | .str, _, h => by simp only [lits, List.mem_singleton]; rintro a rfl; simp only [litWf, decide_eq_true_eq] at h; exact h
  | .bool, _, _ => by simp only [lits, List.mem_singleton]; rintro a rfl; trivial
  | .unit, _, _ => by simp [lits]
  | .sl _, _, _ => by simp [lits]
  | .ptr _, _, _ => by simp [lits]
  | .fn .., _, _ => by simp [lits]
  | .err, _, _ => by simp [lits]
  | .fp, _, _ => by simp [lits]

theorem lits_inj : ∀ (t : Ty), keyable t = true → ∀ x y : t.El, lits t x = lits t y → x = y
  | .cons t u, hk, x, y, h => by
    simp only [keyable, Bool.and_eq_true] at hk
    simp only [lits] at h
    obtain ⟨h1, h2⟩ := List.append_inj h (lits_len t x.1 y.1)
    exact Prod.ext (lits_inj t hk.1 _ _ h1) (lits_inj u hk.2 _ _ h2)
  | .int _, _, x, y, h => by simpa [lits] using h
  | .str, _, x, y, h => by
    simp only [lits, List.cons.injEq, Lit.string.injEq, and_true] at h
    have h3 : ByteArray.data x = ByteArray.data y := Array.toList_inj.1 h
    cases x; cases y; simp only at h3; rw [h3]
  | .bool, _, x, y, h => by simpa [lits] using h
  | .unit, _, _, _, _ => rfl
  | .sl _, hk, _, _, _ => by simp [keyable] at hk
  | .ptr _, hk, _, _, _ => by simp [keyable] at hk
  | .fn .., hk, _, _, _ => by simp [keyable] at hk
  | .err, hk, _, _, _ => by simp [keyable] at hk
  | .fp, hk, _, _, _ => by simp [keyable] at hk

theorem eqb_iff : ∀ (t : Ty), keyable t = true → ∀ x y : t.El, t.eqb x y = true ↔ x = y
  | .cons t u, hk, x, y => by
    simp only [keyable, Bool.and_eq_true] at hk
    simp only [Ty.eqb, Bool.and_eq_true, eqb_iff t hk.1, eqb_iff u hk.2]
    exact ⟨fun h => Prod.ext h.1 h.2, fun h => by rw [h]; exact ⟨rfl, rfl⟩⟩
  | .int _, _, x, y => by simp [Ty.eqb]
  | .str, _, x, y => by simp [Ty.eqb]
  | .bool, _, x, y => by simp [Ty.eqb]
  | .unit, _, _, _ => by simp [Ty.eqb]
  | .sl _, hk, _, _ => by simp [keyable] at hk
  | .ptr _, hk, _, _ => by simp [keyable] at hk
  | .fn .., hk, _, _ => by simp [keyable] at hk
  | .err, hk, _, _ => by simp [keyable] at hk
  | .fp, hk, _, _ => by simp [keyable] at hk

def keyTB (P : Program) (T : TypeId) (t : Ty) : Bool :=
  keyable t && t.isAgg && litTB P (P.types.size + 1) T t && P.keyTypeAt 20 T && P.keyType T && P.tiled 20 T && (match P.underlying T with | some (.array _ _) | some (.struct _) => true | _ => false) && decide (t.size = P.cellsOf T)

theorem keyTB_law {T : TypeId} {t : Ty} (h : keyTB P T t = true) : WideMaps.KeyLaw P T := by
  unfold keyTB at h
  simp only [Bool.and_eq_true, decide_eq_true_eq] at h
  obtain ⟨⟨⟨⟨⟨⟨⟨h1, h2⟩, h3⟩, h4⟩, h5⟩, h6⟩, h7⟩, h8⟩ := h
  exact deep_law (m := 20) (by omega) h4 h6 h7

theorem keyTB_ok {T : TypeId} {t : Ty} (h : keyTB P T t = true) : keyable t = true ∧ t.isAgg = true ∧ Maps.Keyed P T ∧
    ∀ (S : Nat → Prop) (w : World) (x : t.El) (cs : List Value), RdC P t S w x cs → keyOf P T (vOf t cs) = some (.string (keyBytes (lits t x))) := by
  unfold keyTB at h
  simp only [Bool.and_eq_true, decide_eq_true_eq] at h
  obtain ⟨⟨⟨⟨⟨⟨⟨h1, h2⟩, h3⟩, h4⟩, h5⟩, h6⟩, h7⟩, h8⟩ := h
  refine ⟨h1, h2, Maps.Keyed.of_law (deep_law (m := 20) (by omega) h4 h6 h7), fun S w x cs hr => ?_⟩
  have hl := lits_ok _ T t h3 S w x cs hr
  have hs : cs.toArray.size = P.cellsOf T := by rw [List.size_toArray, hr.length, h8]
  unfold keyOf
  simp only [vOf, h2, if_true, Value.formed, Value.cells]
  split at h7
  · rename_i hu; simp [hu, h5, hs, hl]
  · rename_i hu; simp [hu, h5, hs, hl]
  · cases h7

end Go.Eng
namespace Go.Eng
open Go.RowKit

structure Cx where
  S : Nat → Prop
  w : World
  ρ : Nat → Value
  own : Own

variable (P : Program)

def arxV (b base len lo hi : Nat) (p : Bool) : Value := match p with
  | true => .pointer (some ⟨b, base + lo, none⟩)
  | false => .slice (some ⟨b, if lo = len then base else base + lo, none⟩) (hi - lo) (len - lo)
theorem arxV_one (b base len lo hi : Nat) (p : Bool) : (arxV b base len lo hi p).oneCell' = true := by cases p <;> rfl
mutual
def RV (c : Cx) : D → Value → Prop
  | .dat t x, v => ∃ cs, RdC P t c.S c.w x cs ∧ v = vOf t cs
  | .agg ds, v => ∃ cs, v = .agg cs.toArray ∧ RVs c ds cs
  | .tup ds, v => ∃ vs, v = .tuple vs.toArray ∧ RVs c ds vs
  | .pt o off, v => match lookO c.own o with
    | .cells .. => ∃ b, c.ρ o = .pointer (some ⟨b, 0, none⟩) ∧ v = .pointer (some ⟨b, off, none⟩)
    | .far => ∃ b, c.ρ o = .pointer (some ⟨b, 0, none⟩) ∧ v = .pointer (some ⟨b, off, none⟩)
    | .fcells .. => ∃ b, c.ρ o = .pointer (some ⟨b, 0, none⟩) ∧ v = .pointer (some ⟨b, off, none⟩)
    | .gone => False
    | _ => ∃ b k, v = .pointer (some ⟨b, k, none⟩)
  | .arr o off n m, v => match lookO c.own o with
    | .cells .. => ∃ b, c.ρ o = .pointer (some ⟨b, 0, none⟩) ∧ v = .slice (some ⟨b, off, none⟩) n m
    | .far => ∃ b, c.ρ o = .pointer (some ⟨b, 0, none⟩) ∧ v = .slice (some ⟨b, off, none⟩) n m
    | .fcells .. => ∃ b, c.ρ o = .pointer (some ⟨b, 0, none⟩) ∧ v = .slice (some ⟨b, off, none⟩) n m
    | .gone => False
    | _ => ∃ b k, v = .slice (some ⟨b, k, none⟩) n m
  | .arx o base len lo hi p, v => lo ≤ hi ∧ hi ≤ len ∧ (p = true → lo < len) ∧ match lookO c.own o with
    | .cells .. => ∃ b, c.ρ o = .pointer (some ⟨b, 0, none⟩) ∧ v = arxV b base len lo hi p
    | .far => ∃ b, c.ρ o = .pointer (some ⟨b, 0, none⟩) ∧ v = arxV b base len lo hi p
    | .fcells .. => ∃ b, c.ρ o = .pointer (some ⟨b, 0, none⟩) ∧ v = arxV b base len lo hi p
    | .gone => False
    | _ => ∃ b k, v = arxV b k len lo hi p
  | .pe o i sub, v => match lookO c.own o with
    | .row _ t xs => ∃ b n m, c.ρ o = .slice (some ⟨b, 0, none⟩) n m ∧ v = .pointer (some ⟨b, i * t.size + sub, none⟩) ∧ i < xs.length
    | .gone => False
    | _ => ∃ b k, v = .pointer (some ⟨b, k, none⟩)
  | .own o, v => match lookO c.own o with
    | .row .. => v = c.ρ o
    | .frow .. => v = c.ρ o
    | .brow .. => v = c.ρ o
    | .map .. => v = c.ρ o
    | .iter .. => v = c.ρ o
    | .miter .. => v = c.ρ o
    | .rfar => v = c.ρ o
    | .gone => False
    | _ => v.oneCell' = true
  | .fn f caps, v => ∃ vs, v = .func (.func f) #[] vs.toArray ∧ RVs c caps vs
  | .cst u, v => v = u
  | .clip t xs, v => ∃ base, v = .slice base xs.length xs.length ∧ RdC P (.sl t) c.S c.w xs [v]
  | .ifc T t x, v => ∃ cs, v = .iface T (vOf t cs) ∧ RdC P t c.S c.w x cs
  | .gd .., _ => False
  | .any, _ => True
def RVs (c : Cx) : List D → List Value → Prop
  | [], vs => vs = []
  | d :: r, vs => ∃ v vs', vs = v :: vs' ∧ RV c d v ∧ RVs c r vs'
end

def Turns (b b' : Blk) (h h' : Value) : Prop := match b with
  | .gone => True
  | .cells .. => match b' with
    | .cells .. => h' = h
    | .far => h' = h
    | .fcells .. => h' = h
    | .dead => True
    | _ => False
  | .row _ t xs => match b' with
    | .row _ t' xs' => h' = h ∧ t' = t ∧ xs'.length = xs.length
    | .rfar => h' = h
    | .frow .. => h' = h
    | .dead => True
    | _ => False
  | .frow .. => match b' with
    | .frow .. => h' = h
    | .dead => True
    | _ => False
  | .fcells .. => match b' with
    | .fcells .. => h' = h
    | .dead => True
    | _ => False
  | .brow .. => match b' with
    | .brow .. => h' = h
    | .dead => True
    | _ => False
  | .map .. => match b' with
    | .map .. => h' = h
    | .dead => True
    | _ => False
  | .iter .. => match b' with
    | .iter .. => h' = h
    | .dead => True
    | _ => False
  | .miter .. => match b' with
    | .miter .. => h' = h
    | .dead => True
    | _ => False
  | .dead => match b' with
    | .dead => True
    | _ => False
  | .far => match b' with
    | .far => h' = h
    | .dead => True
    | _ => False
  | .rfar => match b' with
    | .rfar => h' = h
    | .dead => True
    | _ => False

structure Goes (c c' : Cx) : Prop where
  stays : Stays c.S c.w c'.S c'.w
  turns : ∀ o, Turns (lookO c.own o) (lookO c'.own o) (c.ρ o) (c'.ρ o)

theorem Turns.refl (b : Blk) (h : Value) : Turns b b h h := by
  unfold Turns; cases b <;> simp
theorem Goes.refl (c : Cx) : Goes c c := ⟨Stays.refl _ _, fun _ => Turns.refl _ _⟩
theorem Turns.trans {a b d : Blk} {h h' h'' : Value} (x : Turns a b h h') (y : Turns b d h' h'') : Turns a d h h'' := by
  unfold Turns at *
  cases a <;> cases b <;> cases d <;> simp_all
theorem Goes.trans {a b c : Cx} (x : Goes a b) (y : Goes b c) : Goes a c := ⟨x.stays.trans y.stays, fun o => (x.turns o).trans (y.turns o)⟩

variable {P}

theorem RV.pt_some {c : Cx} {o off : Nat} {v : Value} (h : RV P c (.pt o off) v) : ∃ b k, v = .pointer (some ⟨b, k, none⟩) := by
  simp only [RV] at h
  split at h
  · obtain ⟨b, _, rfl⟩ := h; exact ⟨b, off, rfl⟩
  · obtain ⟨b, _, rfl⟩ := h; exact ⟨b, off, rfl⟩
  · obtain ⟨b, _, rfl⟩ := h; exact ⟨b, off, rfl⟩
  · exact h.elim
  · exact h
theorem RV.arr_some {c : Cx} {o off n m : Nat} {v : Value} (h : RV P c (.arr o off n m) v) : ∃ b k, v = .slice (some ⟨b, k, none⟩) n m := by
  simp only [RV] at h
  split at h
  · obtain ⟨b, _, rfl⟩ := h; exact ⟨b, off, rfl⟩
  · obtain ⟨b, _, rfl⟩ := h; exact ⟨b, off, rfl⟩
  · obtain ⟨b, _, rfl⟩ := h; exact ⟨b, off, rfl⟩
  · exact h.elim
  · exact h
theorem RV.arx_some {c : Cx} {o base len lo hi : Nat} {p : Bool} {v : Value} (h : RV P c (.arx o base len lo hi p) v) : ∃ b k, v = arxV b k len lo hi p := by
  simp only [RV] at h
  replace h := h.2.2.2
  split at h
  · obtain ⟨b, _, rfl⟩ := h; exact ⟨b, base, rfl⟩
  · obtain ⟨b, _, rfl⟩ := h; exact ⟨b, base, rfl⟩
  · obtain ⟨b, _, rfl⟩ := h; exact ⟨b, base, rfl⟩
  · exact h.elim
  · exact h
theorem RV.pe_some {c : Cx} {o i s : Nat} {v : Value} (h : RV P c (.pe o i s) v) : ∃ b k, v = .pointer (some ⟨b, k, none⟩) := by
  simp only [RV] at h
  split at h
  · obtain ⟨b, n, m, _, rfl, _⟩ := h; exact ⟨b, _, rfl⟩
  · exact h.elim
  · exact h

def notB : Blk → Bool
  | .brow .. => false
  | .dead => false
  | _ => true
theorem Turns.notB {b b' : Blk} {h h' : Value} (ht : Turns b b' h h') (hn : notB b' = true) : ∀ t xs, b ≠ .brow t xs := by
  intro t xs e
  subst e
  cases b' <;> simp [Turns, Go.Eng.notB] at ht hn
def Handles (c : Cx) : Prop := ∀ o, (c.ρ o).oneCell' = true

mutual
theorem RV.goes {c c' : Cx} (hg : Goes c c') (hh : Handles c) : ∀ {d : D} {v : Value}, RV P c d v → RV P c' d v
  | .dat t x, v, h => by
    obtain ⟨cs, h1, h2⟩ := h
    exact ⟨cs, h1.mono hg.stays, h2⟩
  | .agg ds, v, h => by
    obtain ⟨cs, h1, h2⟩ := h
    exact ⟨cs, h1, RVs.goes hg hh h2⟩
  | .tup ds, v, h => by
    obtain ⟨cs, h1, h2⟩ := h
    exact ⟨cs, h1, RVs.goes hg hh h2⟩
  | .pt o off, v, h => by
    have ht := hg.turns o
    simp only [RV] at h ⊢
    unfold Turns at ht
    cases h1 : lookO c.own o <;> cases h2 : lookO c'.own o <;> simp_all <;> (first | (obtain ⟨b, hb, rfl⟩ := h; first | exact ⟨b, hb, rfl⟩ | exact ⟨_, _, rfl⟩))
  | .arr o off n m, v, h => by
    have ht := hg.turns o
    simp only [RV] at h ⊢
    unfold Turns at ht
    cases h1 : lookO c.own o <;> cases h2 : lookO c'.own o <;> simp_all <;> (first | (obtain ⟨b, hb, rfl⟩ := h; first | exact ⟨b, hb, rfl⟩ | exact ⟨_, _, rfl⟩))
  | .arx o base len lo hi p, v, h => by
    have ht := hg.turns o
    simp only [RV] at h ⊢
    refine ⟨h.1, h.2.1, h.2.2.1, ?_⟩
    replace h := h.2.2.2
    unfold Turns at ht
    cases h1 : lookO c.own o <;> cases h2 : lookO c'.own o <;> simp_all <;> (first | (obtain ⟨b, hb, rfl⟩ := h; first | exact ⟨b, hb, rfl⟩ | exact ⟨_, _, rfl⟩))
  | .pe o i sub, v, h => by
    have ht := hg.turns o
    simp only [RV] at h ⊢
    unfold Turns at ht
    cases h1 : lookO c.own o <;> cases h2 : lookO c'.own o <;> simp_all <;> (first | (obtain ⟨b, ⟨n, m, hb⟩, rfl, h3⟩ := h; first | exact ⟨b, ⟨n, m, hb⟩, rfl, h3⟩ | exact ⟨_, _, rfl⟩))
  | .own o, v, h => by
    have ht := hg.turns o
    have hv := hh o
    simp only [RV] at h ⊢
    unfold Turns at ht
    cases h1 : lookO c.own o <;> cases h2 : lookO c'.own o <;> simp_all
  | .fn f caps, v, h => by
    obtain ⟨cs, h1, h2⟩ := h
    exact ⟨cs, h1, RVs.goes hg hh h2⟩
  | .cst u, v, h => h
  | .clip t xs, v, h => by
    obtain ⟨base, h1, h2⟩ := h
    exact ⟨base, h1, h2.mono hg.stays⟩
  | .ifc T t x, v, h => by
    obtain ⟨cs, h1, h2⟩ := h
    exact ⟨cs, h1, h2.mono hg.stays⟩
  | .gd .., v, h => h
  | .any, v, h => h
theorem RVs.goes {c c' : Cx} (hg : Goes c c') (hh : Handles c) : ∀ {ds : List D} {vs : List Value}, RVs P c ds vs → RVs P c' ds vs
  | [], vs, h => h
  | d :: r, vs, h => by
    obtain ⟨v, vs', e, h1, h2⟩ := h
    exact ⟨v, vs', e, RV.goes hg hh h1, RVs.goes hg hh h2⟩
end

def blkOf (b : Blk) (h : Value) : Option Nat := match b with
  | .cells .. => match h with
    | .pointer (some a) => some a.block
    | _ => none
  | .row .. => match h with
    | .slice (some a) _ _ => some a.block
    | _ => none
  | .brow _ xs => bif xs.isEmpty then none else match h with
    | .slice (some a) _ _ => some a.block
    | _ => none
  | .map .. => match h with
    | .map b => b
    | _ => none
  | .iter .. => match h with
    | .pointer (some a) => some a.block
    | _ => none
  | .miter .. => match h with
    | .pointer (some a) => some a.block
    | _ => none
  | _ => none

def litOf : (t : Ty) → t.El → Option Lit
  | .int k, n => some (.int k n)
  | .bool, b => some (.bool b)
  | .str, s => some (.string (ByteArray.data s).toList)
  | .cons t u, x => bif litWf (.cons t u) x then some (.string (keyBytes (lits (.cons t u) x))) else none
  | _, _ => none

def heldElem (v : Value) : Option (DataW Value × List MemPlace) := some (.held v, [])

def MapIs (P : Program) (S : Nat → Prop) (w : World) (kt vt : Ty) (D : DataW Value) (f : kt.El → Option vt.El) : Prop :=
  ∀ x l, litOf kt x = some l → Maps.has D l = (f x).isSome ∧ ∀ y, f x = some y → ∃ cs, RdC P vt S w y cs ∧ ∀ z, D.atKey l z = .held (vOf vt cs)

def BlkOk (P : Program) (B : Nat) (c : Cx) (o : Nat) : Prop := match lookO c.own o with
  | .cells ty ds => ∃ b cs, c.ρ o = .pointer (some ⟨b, 0, none⟩) ∧ c.w.heap[b]? = some (.cells cs.toArray ty (0, 0)) ∧ RVs P c ds cs ∧ (∀ v ∈ cs, v.oneCell' = true) ∧ B ≤ b ∧ ¬ c.S b
  | .row e t xs => 0 < t.size ∧ ∃ cs, c.w.ownsRow B e t.size (c.ρ o) xs.length cs ∧ RdL P t c.S c.w xs cs ∧ ∀ b, (c.ρ o).ownBlock = some b → ¬ c.S b
  | .frow t xs => RdC P (.sl t) c.S c.w xs [c.ρ o]
  | .fcells ty ds => ∃ b cs, c.ρ o = .pointer (some ⟨b, 0, none⟩) ∧ c.w.heap[b]? = some (.cells cs.toArray ty (0, 0)) ∧ RVs P c ds cs ∧ (∀ v ∈ cs, v.oneCell' = true) ∧ c.S b
  | .brow t xs => RdC P (.sl t) (fun b => blkOf (.brow t xs) (c.ρ o) = some b) c.w xs [c.ρ o] ∧ ∀ b, blkOf (.brow t xs) (c.ρ o) = some b → ∃ ob, c.w.heap[b]? = some ob
  | .map T kt vt n f => ∃ b D k e, c.ρ o = .map (some b) ∧ P.underlying T = some (.map k e) ∧ c.w.ownsMap P k heldElem b n D ∧ MapIs P c.S c.w kt vt D f ∧ B ≤ b ∧ ¬ c.S b
  | .iter s pos => ∃ b, c.ρ o = .pointer (some ⟨b, 0, none⟩) ∧ c.w.heap[b]? = some (.stringIter s pos) ∧ s.size ≤ maxLen ∧ B ≤ b ∧ ¬ c.S b
  | .miter vt f left cnt cur => ∃ r b n D k L cn, c.ρ o = .pointer (some ⟨r, 0, none⟩) ∧ c.S b ∧ Maps.Keyed P k ∧ P.underlying k = some .string ∧ c.w.ranges P k heldElem b r n D L cn ∧ cn ≤ cnt ∧ MapIs P c.S c.w .str vt D f ∧
      (∀ s : ByteArray, L (.string (ByteArray.data s).toList) = left s) ∧ B ≤ r ∧ ¬ c.S r ∧
      (∀ s y, cur = some (s, y) → s.size ≤ maxLen ∧ ∃ cs, RdC P vt c.S c.w y cs ∧ ∀ w' : World, w'.heap[r]? = c.w.heap[r]? → w'.heap[b]? = c.w.heap[b]? → (Instr.entry (.pointer (some ⟨r, 0, none⟩))).run P w' = .ok (.tuple #[.string s, vOf vt cs]) w')
  | _ => True

structure Mem (P : Program) (B : Nat) (w0 : World) (S0 : Nat → Prop) (c : Cx) : Prop where
  ok : ∀ o, BlkOk P B c o
  apart : ∀ o o' b, o ≠ o' → blkOf (lookO c.own o) (c.ρ o) = some b → blkOf (lookO c.own o') (c.ρ o') = some b → False
  bound : ∀ b, c.S b → b < c.w.heap.size
  from_ : ∀ b, S0 b → c.S b
  to_ : ∀ b, c.S b → S0 b ∨ B ≤ b
  below : Below B w0 c.w
  base : B ≤ c.w.heap.size
  one : Handles c
  frame : ∀ b, S0 b → c.w.heap[b]? = w0.heap[b]?
theorem Mem.frm {P : Program} {B : Nat} {w0 : World} {S0 : Nat → Prop} {c c' : Cx} (h : Mem P B w0 S0 c) (hg : Goes c c') : ∀ b, S0 b → c'.w.heap[b]? = w0.heap[b]? :=
  fun b hb => ((hg.stays b (h.from_ b hb)).2).trans (h.frame b hb)

end Go.Eng
namespace Go.Eng
open Go.RowKit

variable {P : Program}

theorem RdL.mono {t : Ty} {S S' : Nat → Prop} {w w' : World} : ∀ {xs : List t.El} {cs : List Value}, RdL P t S w xs cs → Stays S w S' w' → RdL P t S' w' xs cs
  | [], _, h, _ => h
  | x :: r, cs, h, hs => by
    obtain ⟨c1, c2, e, h1, h2⟩ := h
    exact ⟨c1, c2, e, h1.mono hs, h2.mono hs⟩
theorem RdL.length {t : Ty} {S : Nat → Prop} {w : World} : ∀ {xs : List t.El} {cs : List Value}, RdL P t S w xs cs → cs.length = xs.length * t.size
  | [], cs, h => by rw [show cs = [] from h]; simp
  | x :: r, cs, h => by
    obtain ⟨c1, c2, e, h1, h2⟩ := h
    rw [e, List.length_append, h1.length, h2.length, List.length_cons, Nat.succ_mul, Nat.add_comm]
theorem RdL.one {t : Ty} {S : Nat → Prop} {w : World} : ∀ {xs : List t.El} {cs : List Value}, RdL P t S w xs cs → ∀ v ∈ cs, v.oneCell' = true
  | [], cs, h, v, hv => by rw [show cs = [] from h] at hv; cases hv
  | x :: r, cs, h, v, hv => by
    obtain ⟨c1, c2, e, h1, h2⟩ := h
    rw [e] at hv
    rcases List.mem_append.1 hv with hv | hv
    · exact h1.one v hv
    · exact h2.one v hv
theorem RdL.append {t : Ty} {S : Nat → Prop} {w : World} : ∀ {xs ys : List t.El} {cs ds : List Value}, RdL P t S w xs cs → RdL P t S w ys ds → RdL P t S w (xs ++ ys) (cs ++ ds)
  | [], ys, cs, ds, h, h' => by rw [show cs = [] from h]; exact h'
  | x :: r, ys, cs, ds, h, h' => by
    obtain ⟨c1, c2, e, h1, h2⟩ := h
    exact ⟨c1, c2 ++ ds, by rw [e, List.append_assoc], h1, h2.append h'⟩
theorem RdL.get {t : Ty} {S : Nat → Prop} {w : World} : ∀ {xs : List t.El} {cs : List Value}, RdL P t S w xs cs → ∀ {i : Nat} {x : t.El}, xs[i]? = some x →
    ∃ es, RdC P t S w x es ∧ ∀ j v, es[j]? = some v → cs[i * t.size + j]? = some v
  | [], cs, h, i, x, hi => by simp at hi
  | y :: r, cs, h, i, x, hi => by
    obtain ⟨c1, c2, e, h1, h2⟩ := h
    subst e
    cases i with
    | zero =>
      simp at hi
      subst hi
      refine ⟨c1, h1, fun j v hj => ?_⟩
      rw [Nat.zero_mul, Nat.zero_add, List.getElem?_append_left (by have := (List.getElem?_eq_some_iff.1 hj).1; omega)]
      exact hj
    | succ i =>
      simp at hi
      obtain ⟨es, he, hj⟩ := h2.get hi
      refine ⟨es, he, fun j v hv => ?_⟩
      rw [Nat.succ_mul, List.getElem?_append_right (by rw [h1.length]; omega), h1.length, show i * t.size + t.size + j - t.size = i * t.size + j by omega]
      exact hj j v hv
theorem RdL.set {t : Ty} {S : Nat → Prop} {w : World} : ∀ {xs : List t.El} {cs : List Value}, RdL P t S w xs cs → ∀ {i : Nat} {x : t.El} {es : List Value}, i < xs.length → RdC P t S w x es →
    RdL P t S w (xs.set i x) (cs.take (i * t.size) ++ (es ++ cs.drop (i * t.size + t.size)))
  | [], cs, h, i, x, es, hi, hx => by simp at hi
  | y :: r, cs, h, i, x, es, hi, hx => by
    obtain ⟨c1, c2, e, h1, h2⟩ := h
    subst e
    cases i with
    | zero =>
      refine ⟨es, c2, ?_, hx, h2⟩
      rw [Nat.zero_mul, List.take_zero, List.nil_append, Nat.zero_add, ← h1.length, List.drop_left]
    | succ i =>
      refine ⟨c1, _, ?_, h1, h2.set (by simpa using hi) hx⟩
      have e1 : (i + 1) * t.size = c1.length + i * t.size := by rw [Nat.succ_mul, h1.length, Nat.add_comm]
      have e2 : (i + 1) * t.size + t.size = c1.length + (i * t.size + t.size) := by rw [e1, Nat.add_assoc]
      rw [e2, e1, List.take_length_add_append, List.append_assoc, List.drop_length_add_append]

theorem RVs.length {c : Cx} : ∀ {ds : List D} {vs : List Value}, RVs P c ds vs → vs.length = ds.length
  | [], vs, h => by rw [show vs = [] from h]; rfl
  | d :: r, vs, h => by
    obtain ⟨v, vs', e, _, h2⟩ := h
    rw [e, List.length_cons, List.length_cons, h2.length]
theorem RVs.append {c : Cx} : ∀ {ds es : List D} {vs us : List Value}, RVs P c ds vs → RVs P c es us → RVs P c (ds ++ es) (vs ++ us)
  | [], es, vs, us, h, h' => by rw [show vs = [] from h]; exact h'
  | d :: r, es, vs, us, h, h' => by
    obtain ⟨v, vs', e, h1, h2⟩ := h
    exact ⟨v, vs' ++ us, by rw [e]; rfl, h1, h2.append h'⟩
theorem RVs.split {c : Cx} : ∀ {ds es : List D} {vs : List Value}, RVs P c (ds ++ es) vs → ∃ v1 v2, vs = v1 ++ v2 ∧ RVs P c ds v1 ∧ RVs P c es v2
  | [], es, vs, h => ⟨[], vs, rfl, rfl, h⟩
  | d :: r, es, vs, h => by
    obtain ⟨v, vs', e, h1, h2⟩ := h
    obtain ⟨v1, v2, e', h3, h4⟩ := RVs.split (ds := r) h2
    exact ⟨v :: v1, v2, by rw [e, e']; rfl, ⟨v, v1, rfl, h1, h3⟩, h4⟩
theorem RVs.take {c : Cx} (k : Nat) : ∀ {ds : List D} {vs : List Value}, RVs P c ds vs → RVs P c (ds.take k) (vs.take k) := by
  induction k with
  | zero => intro ds vs _; simp only [List.take_zero]; rfl
  | succ k ih =>
    intro ds vs h
    cases ds with
    | nil => rw [show vs = [] from h]; rfl
    | cons d r =>
      obtain ⟨v, vs', e, h1, h2⟩ := h
      rw [e]
      exact ⟨v, vs'.take k, rfl, h1, ih h2⟩
theorem RVs.drop {c : Cx} (k : Nat) : ∀ {ds : List D} {vs : List Value}, RVs P c ds vs → RVs P c (ds.drop k) (vs.drop k) := by
  induction k with
  | zero => intro ds vs h; exact h
  | succ k ih =>
    intro ds vs h
    cases ds with
    | nil => rw [show vs = [] from h]; rfl
    | cons d r =>
      obtain ⟨v, vs', e, h1, h2⟩ := h
      rw [e]
      exact ih h2
theorem RVs.get {c : Cx} : ∀ {ds : List D} {vs : List Value}, RVs P c ds vs → ∀ {k : Nat} {d : D}, ds[k]? = some d → ∃ v, vs[k]? = some v ∧ RV P c d v
  | [], vs, h, k, d, hk => by simp at hk
  | e :: r, vs, h, k, d, hk => by
    obtain ⟨v, vs', e, h1, h2⟩ := h
    subst e
    cases k with
    | zero => simp at hk; subst hk; exact ⟨v, rfl, h1⟩
    | succ k => simp at hk; obtain ⟨u, hu, hr⟩ := h2.get hk; exact ⟨u, by simpa using hu, hr⟩

theorem MapIs.mono {S S' : Nat → Prop} {w w' : World} {kt vt : Ty} {D : DataW Value} {f : kt.El → Option vt.El} (h : MapIs P S w kt vt D f) (hs : Stays S w S' w') : MapIs P S' w' kt vt D f := by
  intro x l hl
  obtain ⟨h1, h2⟩ := h x l hl
  refine ⟨h1, fun y hy => ?_⟩
  obtain ⟨cs, h3, h4⟩ := h2 y hy
  exact ⟨cs, h3.mono hs, h4⟩
theorem ownsMap_block {w w' : World} {k : TypeId} {R : Value → Option (DataW Value × List MemPlace)} {b n : Nat} {D : DataW Value} (h : w.ownsMap P k R b n D) (hb : w'.heap[b]? = w.heap[b]?) : w'.ownsMap P k R b n D := by
  obtain ⟨es, clock, h1, h2⟩ := h
  exact ⟨es, clock, hb.trans h1, h2⟩

theorem ranges_block {w w' : World} {k : TypeId} {R : Value → Option (DataW Value × List MemPlace)} {b r n cnt : Nat} {D : DataW Value} {L : Lit → Bool} (h : w.ranges P k R b r n D L cnt) (hb : w'.heap[b]? = w.heap[b]?) (hr : w'.heap[r]? = w.heap[r]?) : w'.ranges P k R b r n D L cnt := by
  obtain ⟨es, clock, since, seen, c0, h1, h2, h3, h4, h5, h6⟩ := h
  exact ⟨es, clock, since, seen, c0, hb.trans h1, h2, h3, h4, hr.trans h5, h6⟩

theorem BlkOk.keep {B : Nat} {c c' : Cx} {o : Nat} (h : BlkOk P B c o) (hg : Goes c c') (hh : Handles c) (ho : lookO c'.own o = lookO c.own o) (hρ : c'.ρ o = c.ρ o)
    (hw : ∀ b, blkOf (lookO c.own o) (c.ρ o) = some b → c'.w.heap[b]? = c.w.heap[b]? ∧ (c'.S b → c.S b)) : BlkOk P B c' o := by
  unfold BlkOk at h ⊢
  rw [ho, hρ]
  cases hb : lookO c.own o with
  | cells ty ds =>
    simp only [hb] at h hw
    obtain ⟨b, cs, h1, h2, h3, h4, h5, h6⟩ := h
    have hk := hw b (by simp [blkOf, h1])
    exact ⟨b, cs, h1, by rw [hk.1]; exact h2, RVs.goes hg hh h3, h4, h5, fun hs => h6 (hk.2 hs)⟩
  | row e t xs =>
    simp only [hb] at h hw
    obtain ⟨hz, cs, h1, h2, h3⟩ := h
    refine ⟨hz, cs, ⟨h1.1, ?_⟩, h2.mono hg.stays, fun b hb' hs => ?_⟩
    · rcases h1.2 with h | ⟨g, cap, cur, hv, hg', hh', r⟩
      · exact Or.inl h
      · exact Or.inr ⟨g, cap, cur, hv, hg', by rw [(hw g (by simp [blkOf, hv])).1]; exact hh', r⟩
    · have : blkOf (.row e t xs) (c.ρ o) = some b := by
        revert hb'; unfold Value.ownBlock blkOf
        cases c.ρ o <;> simp
        rename_i a n m; cases a <;> simp
      exact h3 b hb' ((hw b this).2 hs)
  | frow t xs =>
    simp only [hb] at h
    exact h.mono hg.stays
  | fcells ty ds =>
    simp only [hb] at h
    obtain ⟨b, cs, h1, h2, h3, h4, hS⟩ := h
    exact ⟨b, cs, h1, by rw [(hg.stays b hS).2]; exact h2, RVs.goes hg hh h3, h4, (hg.stays b hS).1⟩
  | brow t xs =>
    simp only [hb] at h hw
    exact ⟨h.1.mono fun b hb' => ⟨hb', (hw b hb').1⟩, fun b hb' => by rw [(hw b hb').1]; exact h.2 b hb'⟩
  | map T kt vt n f =>
    simp only [hb] at h hw
    obtain ⟨b, D, k, e, h1, h2, h3, h4, h5, h6⟩ := h
    have hk := hw b (by simp [blkOf, h1])
    exact ⟨b, D, k, e, h1, h2, ownsMap_block h3 hk.1, h4.mono hg.stays, h5, fun hs => h6 (hk.2 hs)⟩
  | iter s pos =>
    simp only [hb] at h hw
    obtain ⟨b, h1, h2, h3, h5, h6⟩ := h
    have hk := hw b (by simp [blkOf, h1])
    exact ⟨b, h1, by rw [hk.1]; exact h2, h3, h5, fun hs => h6 (hk.2 hs)⟩
  | miter vt f left cnt cur =>
    simp only [hb] at h hw
    obtain ⟨r, b, n, D, k, L, cn, h1, hS, hK, hu, h2, hc, h3, h4, h5, h6, h7⟩ := h
    have hk := hw r (by simp [blkOf, h1])
    exact ⟨r, b, n, D, k, L, cn, h1, (hg.stays b hS).1, hK, hu, ranges_block h2 (hg.stays b hS).2 hk.1, hc, h3.mono hg.stays, h4, h5, fun hs => h6 (hk.2 hs), fun s y e => by
      obtain ⟨q1, cs, q2, q3⟩ := h7 s y e
      exact ⟨q1, cs, q2.mono hg.stays, fun w' e1 e2 => q3 w' (e1.trans hk.1) (e2.trans (hg.stays b hS).2)⟩⟩
  | dead => trivial
  | gone => trivial
  | far => trivial
  | rfar => trivial

theorem Mem.grow {B : Nat} {w0 : World} {S0 : Nat → Prop} {c : Cx} (h : Mem P B w0 S0 c) {w' : World} (hb : Below c.w.heap.size c.w w') (N : Nat → Prop) (hN : ∀ b, N b → c.w.heap.size ≤ b ∧ b < w'.heap.size) :
    Mem P B w0 S0 { c with S := fun b => c.S b ∨ N b, w := w' } ∧ Goes c { c with S := fun b => c.S b ∨ N b, w := w' } := by
  have hlt : ∀ o b, blkOf (lookO c.own o) (c.ρ o) = some b → b < c.w.heap.size := by
    intro o b hb'
    have hk := h.ok o
    unfold BlkOk at hk
    cases ho : lookO c.own o with
    | cells ty ds =>
      simp only [ho] at hk hb'
      obtain ⟨b2, cs, h1, h2, _⟩ := hk
      simp [blkOf, h1] at hb'
      subst hb'
      exact (Array.getElem?_eq_some_iff.1 h2).1
    | row e t xs =>
      simp only [ho] at hk hb'
      obtain ⟨_, cs, h1, _⟩ := hk
      have := h1.lt b (by
        revert hb'; unfold Value.ownBlock blkOf
        cases c.ρ o <;> simp
        rename_i a n m; cases a <;> simp)
      exact this.2
    | frow t xs => rw [ho] at hb'; simp [blkOf] at hb'
    | fcells ty ds => rw [ho] at hb'; simp [blkOf] at hb'
    | brow t xs =>
      simp only [ho] at hk hb'
      obtain ⟨_, hk⟩ := hk.2 b hb'
      exact (Array.getElem?_eq_some_iff.1 hk).1
    | map T kt vt n f =>
      simp only [ho] at hk hb'
      obtain ⟨b2, D, k, e, h1, _, h3, _⟩ := hk
      simp [blkOf, h1] at hb'
      subst hb'
      exact h3.lt
    | iter s pos =>
      simp only [ho] at hk hb'
      obtain ⟨b2, h1, h2, _⟩ := hk
      simp [blkOf, h1] at hb'
      subst hb'
      exact (Array.getElem?_eq_some_iff.1 h2).1
    | miter vt f left cnt cur =>
      simp only [ho] at hk hb'
      obtain ⟨r, b2, n, D, k, L, cn, h1, _, _, _, h2, _⟩ := hk
      simp [blkOf, h1] at hb'
      subst hb'
      exact h2.lt
    | dead => rw [ho] at hb'; simp [blkOf] at hb'
    | gone => rw [ho] at hb'; simp [blkOf] at hb'
    | far => rw [ho] at hb'; simp [blkOf] at hb'
    | rfar => rw [ho] at hb'; simp [blkOf] at hb'
  have hst : Stays c.S c.w (fun b => c.S b ∨ N b) w' := fun b hS => ⟨.inl hS, hb.block b (h.bound b hS)⟩
  have hg : Goes c { c with S := fun b => c.S b ∨ N b, w := w' } := ⟨hst, fun o => Turns.refl _ _⟩
  refine ⟨⟨fun o => (h.ok o).keep hg h.one rfl rfl fun b hb' => ⟨hb.block b (hlt o b hb'), fun hs => hs.resolve_right fun hn => by have := hlt o b hb'; have := (hN b hn).1; omega⟩, h.apart, ?_, fun b hS => .inl (h.from_ b hS), ?_, h.below.trans (hb.mono h.base), Nat.le_trans h.base hb.size, h.one, h.frm hg⟩, hg⟩
  · rintro b (hS | hn)
    · exact Nat.lt_of_lt_of_le (h.bound b hS) hb.size
    · exact (hN b hn).2
  · rintro b (hS | hn)
    · exact h.to_ b hS
    · exact .inr (Nat.le_trans h.base (hN b hn).1)

theorem Mem.blk_lt {B : Nat} {w0 : World} {S0 : Nat → Prop} {c : Cx} (h : Mem P B w0 S0 c) (o b : Nat) (hb' : blkOf (lookO c.own o) (c.ρ o) = some b) : b < c.w.heap.size := by
  have hk := h.ok o
  unfold BlkOk at hk
  cases ho : lookO c.own o with
  | cells ty ds =>
    simp only [ho] at hk hb'
    obtain ⟨b2, cs, h1, h2, _⟩ := hk
    simp [blkOf, h1] at hb'
    subst hb'
    exact (Array.getElem?_eq_some_iff.1 h2).1
  | row e t xs =>
    simp only [ho] at hk hb'
    obtain ⟨_, cs, h1, _⟩ := hk
    have := h1.lt b (by
      revert hb'; unfold Value.ownBlock blkOf
      cases c.ρ o <;> simp
      rename_i a n m; cases a <;> simp)
    exact this.2
  | frow t xs => rw [ho] at hb'; simp [blkOf] at hb'
  | fcells ty ds => rw [ho] at hb'; simp [blkOf] at hb'
  | brow t xs =>
    simp only [ho] at hk hb'
    obtain ⟨_, hk⟩ := hk.2 b hb'
    exact (Array.getElem?_eq_some_iff.1 hk).1
  | map T kt vt n f =>
    simp only [ho] at hk hb'
    obtain ⟨b2, D, k, e, h1, _, h3, _⟩ := hk
    simp [blkOf, h1] at hb'
    subst hb'
    exact h3.lt
  | iter s pos =>
    simp only [ho] at hk hb'
    obtain ⟨b2, h1, h2, _⟩ := hk
    simp [blkOf, h1] at hb'
    subst hb'
    exact (Array.getElem?_eq_some_iff.1 h2).1
  | miter vt f left cnt cur =>
    simp only [ho] at hk hb'
    obtain ⟨r, b2, n, D, k, L, cn, h1, _, _, _, h2, _⟩ := hk
    simp [blkOf, h1] at hb'
    subst hb'
    exact h2.lt
  | dead => rw [ho] at hb'; simp [blkOf] at hb'
  | gone => rw [ho] at hb'; simp [blkOf] at hb'
  | far => rw [ho] at hb'; simp [blkOf] at hb'
  | rfar => rw [ho] at hb'; simp [blkOf] at hb'

def Cx.add (c : Cx) (o : Nat) (b : Blk) (v : Value) : Cx := { c with own := (o, b) :: c.own, ρ := fun k => if k = o then v else c.ρ k }

theorem lookO_add (c : Cx) (o : Nat) (b : Blk) (v : Value) (k : Nat) : lookO (c.add o b v).own k = if k = o then b else lookO c.own k := by
  simp only [Cx.add, lookO]
  by_cases h : o = k
  · rw [if_pos h, if_pos h.symm]
  · rw [if_neg h, if_neg (fun e => h e.symm)]

theorem Goes.add {c : Cx} {o : Nat} {b : Blk} {v : Value} (ht : Turns (lookO c.own o) b (c.ρ o) v) : Goes c (c.add o b v) := by
  refine ⟨Stays.refl _ _, fun k => ?_⟩
  rw [lookO_add]
  by_cases h : k = o
  · subst h; simp [Cx.add]; exact ht
  · simp [Cx.add, h]; exact Turns.refl _ _

theorem Mem.add {B : Nat} {w0 : World} {S0 : Nat → Prop} {c : Cx} (h : Mem P B w0 S0 c) {o : Nat} {b : Blk} {v : Value} (ht : Turns (lookO c.own o) b (c.ρ o) v) (h1 : v.oneCell' = true)
    (hok : BlkOk P B (c.add o b v) o) (hap : ∀ k g, k ≠ o → blkOf b v = some g → blkOf (lookO c.own k) (c.ρ k) = some g → False) : Mem P B w0 S0 (c.add o b v) := by
  have hg := Goes.add ht
  refine ⟨fun k => ?_, fun k k' g hne hk hk' => ?_, h.bound, h.from_, h.to_, h.below, h.base, fun k => ?_, h.frm hg⟩
  · by_cases hk : k = o
    · subst hk; exact hok
    · exact (h.ok k).keep hg h.one (by rw [lookO_add, if_neg hk]) (by simp [Cx.add, hk]) fun b _ => ⟨rfl, id⟩
  · rw [lookO_add] at hk hk'
    simp only [Cx.add] at hk hk'
    by_cases e : k = o
    · have e' : k' ≠ o := fun e' => hne (e.trans e'.symm)
      rw [if_pos e, if_pos e] at hk
      rw [if_neg e', if_neg e'] at hk'
      exact hap k' g e' hk hk'
    · rw [if_neg e, if_neg e] at hk
      by_cases e' : k' = o
      · rw [if_pos e', if_pos e'] at hk'
        exact hap k g e hk' hk
      · rw [if_neg e', if_neg e'] at hk'
        exact h.apart k k' g hne hk hk'
  · simp only [Cx.add]
    by_cases e : k = o
    · rw [if_pos e]; exact h1
    · rw [if_neg e]; exact h.one k


structure Fr (c c' : Cx) : Prop where
  size : c.w.heap.size ≤ c'.w.heap.size
  keep : ∀ b, b < c.w.heap.size → (∀ o, blkOf (lookO c.own o) (c.ρ o) ≠ some b) → c'.w.heap[b]? = c.w.heap[b]? ∧ (c'.S b → c.S b) ∧ ∀ o, blkOf (lookO c'.own o) (c'.ρ o) ≠ some b

theorem Fr.refl (c : Cx) : Fr c c := ⟨Nat.le_refl _, fun _ _ h => ⟨rfl, id, h⟩⟩
theorem Fr.trans {a b c : Cx} (x : Fr a b) (y : Fr b c) : Fr a c := ⟨Nat.le_trans x.size y.size, fun k hk ho => by
  obtain ⟨h1, h2, h3⟩ := x.keep k hk ho
  obtain ⟨g1, g2, g3⟩ := y.keep k (Nat.lt_of_lt_of_le hk x.size) h3
  exact ⟨g1.trans h1, fun h => h2 (g2 h), g3⟩⟩
theorem Fr.grow {c : Cx} {w' : World} (hb : Below c.w.heap.size c.w w') (N : Nat → Prop) (hN : ∀ b, N b → c.w.heap.size ≤ b) : Fr c { c with S := fun b => c.S b ∨ N b, w := w' } :=
  ⟨hb.size, fun k hk ho => ⟨hb.block k hk, fun h => h.resolve_right fun hn => by have := hN k hn; omega, ho⟩⟩
theorem Fr.grow' {c : Cx} {w' : World} (hb : Below c.w.heap.size c.w w') : Fr c { c with w := w' } :=
  ⟨hb.size, fun k hk ho => ⟨hb.block k hk, id, ho⟩⟩
theorem Fr.add {c0 c : Cx} (h : Fr c0 c) {o : Nat} {b : Blk} {v : Value} (hv : ∀ g, blkOf b v = some g → c0.w.heap.size ≤ g ∨ ∃ o, blkOf (lookO c0.own o) (c0.ρ o) = some g) : Fr c0 (c.add o b v) :=
  ⟨h.size, fun k hk ho => by
    obtain ⟨h1, h2, h3⟩ := h.keep k hk ho
    refine ⟨h1, h2, fun j hj => ?_⟩
    rw [lookO_add] at hj
    simp only [Cx.add] at hj
    by_cases e : j = o
    · rw [if_pos e, if_pos e] at hj
      rcases hv k hj with h | ⟨i, h⟩
      · omega
      · exact ho i h
    · rw [if_neg e, if_neg e] at hj
      exact h3 j hj⟩

end Go.Eng
namespace Go.Eng
open Go.RowKit

variable {P : Program}

theorem cast?_some {t t' : Ty} {x : t.El} {y : t'.El} (h : cast? t t' x = some y) : ∃ e : t = t', e ▸ x = y := by
  unfold cast? at h
  split at h
  · rename_i e; subst e; exact ⟨rfl, by simpa using h⟩
  · cases h

theorem RdC.leaf {t : Ty} {S : Nat → Prop} {w : World} {x : t.El} {cs : List Value} (h : RdC P t S w x cs) (ht : t.isAgg = false) : cs = [vOf t cs] := by
  have hl := h.length
  have h1 : t.size = 1 := by cases t <;> simp_all [Ty.isAgg, Ty.size]
  rw [h1] at hl
  match cs, hl with
  | [v], _ => simp [vOf, ht]

theorem RV.leaf {c : Cx} {t : Ty} {x : t.El} {v : Value} (h : RV P c (.dat t x) v) (ht : t.isAgg = false) : RdC P t c.S c.w x [v] := by
  obtain ⟨cs, h1, rfl⟩ := h
  rw [← h1.leaf ht]; exact h1

structure Vis (P : Program) (own : Own) (c : Cx) (T : Nat → Prop) : Prop where
  S : ∀ b, c.S b → T b
  row : ∀ o e t xs, lookO own o = .row e t xs → RdC P (.sl t) T c.w xs [c.ρ o] ∧ (∀ v, RV P c (.own o) v → v = c.ρ o)
  frow : ∀ o t xs, lookO own o = .frow t xs → RdC P (.sl t) T c.w xs [c.ρ o] ∧ (∀ v, RV P c (.own o) v → v = c.ρ o)
  fcells : ∀ o ty ds, lookO own o = .fcells ty ds → ∃ b cs, T b ∧ c.w.heap[b]? = some (.cells cs.toArray ty (0, 0)) ∧ RVs P c ds cs ∧ (∀ off v, RV P c (.pt o off) v → v = .pointer (some ⟨b, off, none⟩))
  cells : ∀ o ty ds, lookO own o = .cells ty ds → ∃ b cs, T b ∧ c.w.heap[b]? = some (.cells cs.toArray ty (0, 0)) ∧ RVs P c ds cs ∧ (∀ off v, RV P c (.pt o off) v → v = .pointer (some ⟨b, off, none⟩)) ∧
    (∀ base len lo hi p v, RV P c (.arx o base len lo hi p) v → lo ≤ hi ∧ hi ≤ len ∧ (p = true → lo < len) ∧ v = arxV b base len lo hi p)

theorem lies_of_block {w : World} {b : Nat} {cs : List Value} {ty : TypeId} {fr : Nat × Nat} (h : w.heap[b]? = some (.cells cs.toArray ty fr)) (off : Nat) (es rest : List Value) (he : cs.drop off = es ++ rest) : Lies w b off es := by
  intro j v hj
  have : cs[off + j]? = some v := by
    rw [← List.getElem?_drop, he, List.getElem?_append_left (List.getElem?_eq_some_iff.1 hj).1]
    exact hj
  simp [World.cell?, h, this]

theorem intsOf_ok {c : Cx} {k : IntKind} : ∀ {ds : List D} {cs : List Value} {ns : List Int}, intsOf k ds = some ns → RVs P c ds cs → cs = ns.map (Value.int k) ∧ ∀ n ∈ ns, k.wrap n = n
  | [], cs, ns, h, hr => by
    obtain rfl := Option.some.inj h
    obtain rfl : cs = [] := hr
    exact ⟨rfl, fun n hn => by cases hn⟩
  | d :: r, cs, ns, h, hr => by
    obtain ⟨v, vs', rfl, h1, h2⟩ := hr
    unfold intsOf at h
    split at h
    · rename_i e; cases e
    · rename_i k' n r' e
      cases e
      split at h
      · rename_i hk
        subst hk
        split at h
        · rename_i ns' hns
          obtain rfl := Option.some.inj h
          obtain ⟨e1, e2⟩ := intsOf_ok hns h2
          have hv : v = .int k' n ∧ k'.wrap n = n := by
            obtain ⟨cs0, ⟨rfl, hw⟩, rfl⟩ := h1
            exact ⟨rfl, hw⟩
          rw [hv.1, e1]
          refine ⟨rfl, fun m hm => ?_⟩
          rcases List.mem_cons.1 hm with rfl | hm
          · exact hv.2
          · exact e2 m hm
        · cases h
      · cases h
    · cases h
theorem arx_ints {c : Cx} {k : IntKind} {base len : Nat} {ds : List D} {cs : List Value} {ns : List Int} (h : intsOf k ((ds.drop base).take len) = some ns) (hl : ns.length = len) (hr : RVs P c ds cs) :
    (∀ i, i < len → cs[base + i]? = some (.int k (ns.getD i 0))) ∧ (∀ n ∈ ns, k.wrap n = n) ∧ base + len ≤ cs.length ∨ len = 0 := by
  obtain ⟨e1, e2⟩ := intsOf_ok h ((hr.drop base).take len)
  by_cases hz : len = 0
  · exact .inr hz
  have hlen : ((cs.drop base).take len).length = len := by rw [e1, List.length_map, hl]
  rw [List.length_take, List.length_drop] at hlen
  refine .inl ⟨fun i hi => ?_, e2, by omega⟩
  have h3 : ((cs.drop base).take len)[i]? = some (.int k (ns.getD i 0)) := by
    rw [e1, List.getElem?_map, List.getElem?_eq_getElem (by omega), List.getD_eq_getElem?_getD, List.getElem?_eq_getElem (by omega)]
    rfl
  rw [List.getElem?_take, if_pos hi, List.getElem?_drop] at h3
  exact h3
theorem arx_rd {c : Cx} {T : Nat → Prop} {t : Ty} {b base len lo hi : Nat} {v : Value} {ty : TypeId} {ds : List D} {cs : List Value} {xs : List t.El} (h1 : lo ≤ hi) (h2 : hi ≤ len) (hv : v = arxV b base len lo hi false) (hb : T b)
    (hh : c.w.heap[b]? = some (.cells cs.toArray ty (0, 0))) (hr : RVs P c ds cs) (hx : arxL t base len lo hi ds = some xs) : RdC P (.sl t) T c.w xs [v] := by
  unfold arxL at hx
  split at hx
  · rename_i k
    split at hx
    · rename_i ns hns
      split at hx
      · rename_i hl
        have hx' : (ns.take hi).drop lo = xs := Option.some.inj hx
        subst hx'
        have hlen : ((ns.take hi).drop lo).length = hi - lo := by rw [List.length_drop, List.length_take]; omega
        refine ⟨some ⟨b, if lo = len then base else base + lo, none⟩, len - lo, by rw [hv, hlen]; rfl, by rw [hlen]; omega, by unfold maxLen; omega, fun hne => ⟨b, _, rfl, hb, fun i x hi' => ?_⟩⟩
        have hi2 : i < hi - lo := by
          have := (List.getElem?_eq_some_iff.1 hi').1
          rw [hlen] at this; exact this
        rw [if_neg (by omega)]
        rcases arx_ints hns hl.1 hr with ⟨q1, q2, q3⟩ | q
        · have hg := q1 (lo + i) (by omega)
          have hxe : x = ns.getD (lo + i) 0 := by
            rw [List.getElem?_drop, List.getElem?_take, if_pos (by omega), List.getElem?_eq_getElem (by omega)] at hi'
            rw [List.getD_eq_getElem?_getD, List.getElem?_eq_getElem (by omega)]
            exact (Option.some.inj hi').symm
          refine ⟨[.int k x], ⟨rfl, ?_⟩, fun j u hj => ?_⟩
          · apply q2
            rw [hxe, List.getD_eq_getElem?_getD, List.getElem?_eq_getElem (by omega)]
            exact List.getElem_mem _
          · match j, hj with
            | 0, hj =>
              simp only [List.getElem?_cons_zero, Option.some.injEq] at hj
              subst hj
              rw [hxe]
              have e : base + lo + i * (Ty.int k).size + 0 = base + (lo + i) := by simp [Ty.size]; omega
              rw [e]
              simp [World.cell?, hh, hg]
            | j + 1, hj => simp at hj
        · omega
      · cases hx
    · cases hx
  · cases hx

theorem gather_ok {own : Own} {c : Cx} {T : Nat → Prop} (hv : Vis P own c T) : ∀ (t : Ty) {ds r : List D} {x : t.El} {cs : List Value}, gather own t ds = some (x, r) → RVs P c ds cs →
    ∃ c1 c2, cs = c1 ++ c2 ∧ RdC P t T c.w x c1 ∧ RVs P c r c2 := by
  have hst : Stays c.S c.w T c.w := fun b h => ⟨hv.S b h, rfl⟩
  -- a datum in one cell
  have one : ∀ (t : Ty) (_ : t.isAgg = false) {t' : Ty} {y : t'.El} {x : t.El} {v : Value}, cast? t' t y = some x → RV P c (.dat t' y) v → RdC P t T c.w x [v] := by
    intro t ht t' y x v hc hr
    obtain ⟨rfl, rfl⟩ := cast?_some hc
    exact (hr.leaf ht).mono hst
  have simple : ∀ (t : Ty) (_ : t.isAgg = false) {d : D} {r0 r : List D} {x : t.El} {cs : List Value}, gleaf t d r0 = some (x, r) → RVs P c (d :: r0) cs →
      ∃ c1 c2, cs = c1 ++ c2 ∧ RdC P t T c.w x c1 ∧ RVs P c r c2 := by
    intro t ht d r0 r x cs h hr
    obtain ⟨v, vs', rfl, h1, h2⟩ := hr
    unfold gleaf at h
    cases d <;> simp only at h <;> try (cases h; done)
    rename_i t' y
    cases hc : cast? t' t y with
    | none => rw [hc] at h; cases h
    | some z =>
      rw [hc] at h
      simp only [Option.map_some, Option.some.injEq, Prod.mk.injEq] at h
      obtain ⟨rfl, rfl⟩ := h
      exact ⟨[v], vs', rfl, one t ht hc h1, h2⟩
  intro t
  induction t with
  | unit =>
    intro ds r x cs h hr
    simp only [gather, Option.some.injEq, Prod.mk.injEq] at h
    obtain ⟨_, rfl⟩ := h
    exact ⟨[], cs, rfl, rfl, hr⟩
  | cons t u iht ihu =>
    intro ds r x cs h hr
    unfold gather at h
    split at h
    · rename_i y r1 h1
      split at h
      · rename_i z r2 h2
        simp only [Option.some.injEq, Prod.mk.injEq] at h
        obtain ⟨rfl, rfl⟩ := h
        obtain ⟨c1, c2, rfl, h3, h4⟩ := iht h1 hr
        obtain ⟨c3, c4, rfl, h5, h6⟩ := ihu h2 h4
        exact ⟨c1 ++ c3, c4, by rw [List.append_assoc], ⟨c1, c3, rfl, h3, h5⟩, h6⟩
      · cases h
    · cases h
  | int k =>
    intro ds r x cs h hr
    cases ds with
    | nil => simp [gather] at h
    | cons d r0 => exact simple (.int k) rfl h hr
  | bool =>
    intro ds r x cs h hr
    cases ds with
    | nil => simp [gather] at h
    | cons d r0 => exact simple .bool rfl h hr
  | str =>
    intro ds r x cs h hr
    cases ds with
    | nil => simp [gather] at h
    | cons d r0 => exact simple .str rfl h hr
  | err =>
    intro ds r x cs h hr
    cases ds with
    | nil => simp [gather] at h
    | cons d r0 => exact simple .err rfl h hr
  | fp =>
    intro ds r x cs h hr
    cases ds with
    | nil => simp [gather] at h
    | cons d r0 =>
      obtain ⟨v, vs', rfl, h1, h2⟩ := hr
      unfold gather at h
      split at h
      · rename_i t' y
        cases hc : cast? t' .fp y with
        | none => rw [hc] at h; cases h
        | some z =>
          rw [hc] at h
          simp only [Option.map_some, Option.some.injEq, Prod.mk.injEq] at h
          obtain ⟨rfl, rfl⟩ := h
          exact ⟨[v], vs', rfl, one .fp rfl hc h1, h2⟩
      · simp only [Option.some.injEq, Prod.mk.injEq] at h
        obtain ⟨rfl, rfl⟩ := h
        obtain rfl : v = _ := h1
        exact ⟨[_], vs', rfl, rfl, h2⟩
      · simp only [Option.some.injEq, Prod.mk.injEq] at h
        obtain ⟨rfl, rfl⟩ := h
        obtain ⟨vs, rfl, hvs⟩ := h1
        obtain rfl : vs = [] := hvs
        exact ⟨[_], vs', rfl, rfl, h2⟩
      · cases h
  | fn a b =>
    intro ds r x cs h hr
    cases ds with
    | nil => simp [gather] at h
    | cons d r0 => exact simple (.fn a b) rfl h hr
  | sl t _ =>
    intro ds r x cs h hr
    cases ds with
    | nil => simp [gather] at h
    | cons d r0 =>
      obtain ⟨v, vs', rfl, h1, h2⟩ := hr
      have fin : ∀ {t' : Ty} {ys : List t'.El}, (cast? (.sl t') (.sl t) ys).map (·, r0) = some (x, r) → RdC P (.sl t') T c.w ys [v] → ∃ c1 c2, v :: vs' = c1 ++ c2 ∧ RdC P (.sl t) T c.w x c1 ∧ RVs P c r c2 := by
        intro t' ys hc hr
        cases hc2 : cast? (.sl t') (.sl t) ys with
        | none => rw [hc2] at hc; cases hc
        | some z =>
          rw [hc2] at hc
          simp only [Option.map_some, Option.some.injEq, Prod.mk.injEq] at hc
          obtain ⟨rfl, rfl⟩ := hc
          obtain ⟨e, rfl⟩ := cast?_some hc2
          cases e
          exact ⟨[v], vs', rfl, hr, h2⟩
      unfold gather at h
      split at h
      · rename_i t' y
        cases hc : cast? t' (.sl t) y with
        | none => rw [hc] at h; cases h
        | some z =>
          rw [hc] at h
          simp only [Option.map_some, Option.some.injEq, Prod.mk.injEq] at h
          obtain ⟨rfl, rfl⟩ := h
          exact ⟨[v], vs', rfl, one _ rfl hc h1, h2⟩
      · rename_i t' ys
        obtain ⟨base, e, hr⟩ := h1
        exact fin h (hr.mono hst)
      · simp only [Option.some.injEq, Prod.mk.injEq] at h
        obtain ⟨rfl, rfl⟩ := h
        obtain rfl : v = _ := h1
        exact ⟨[_], vs', rfl, ⟨none, 0, rfl, Nat.le_refl _, by simp [maxLen], fun hne => absurd rfl hne⟩, h2⟩
      · rename_i o
        split at h
        · rename_i e t' ys hl
          obtain ⟨h3, h4⟩ := hv.row o e t' ys hl
          obtain rfl := h4 v h1
          exact fin h h3
        · rename_i t' ys hl
          obtain ⟨h3, h4⟩ := hv.frow o t' ys hl
          obtain rfl := h4 v h1
          exact fin h h3
        · cases h
      · rename_i o base len lo hi
        split at h
        · rename_i ty ds hl
          split at h
          · rename_i xs hxs
            simp only [Option.some.injEq, Prod.mk.injEq] at h
            obtain ⟨rfl, rfl⟩ := h
            obtain ⟨b, cs, hb, hheap, hrs, hpt⟩ := hv.cells o ty ds hl
            obtain ⟨q1, q2, q3, q4⟩ := hpt.2 _ _ _ _ _ _ h1
            exact ⟨[v], vs', rfl, arx_rd q1 q2 q4 hb hheap hrs hxs, h2⟩
          · cases h
        · cases h
      · cases h
  | ptr t iht =>
    intro ds r x cs h hr
    cases ds with
    | nil => simp [gather] at h
    | cons d r0 =>
      obtain ⟨v, vs', rfl, h1, h2⟩ := hr
      unfold gather at h
      split at h
      · rename_i t' y
        cases hc : cast? t' (.ptr t) y with
        | none => rw [hc] at h; cases h
        | some z =>
          rw [hc] at h
          simp only [Option.map_some, Option.some.injEq, Prod.mk.injEq] at h
          obtain ⟨rfl, rfl⟩ := h
          exact ⟨[v], vs', rfl, one _ rfl hc h1, h2⟩
      · simp only [Option.some.injEq, Prod.mk.injEq] at h
        obtain ⟨rfl, rfl⟩ := h
        obtain rfl : v = _ := h1
        exact ⟨[_], vs', rfl, rfl, h2⟩
      · rename_i o off
        split at h
        · rename_i ty ds hl
          split at h
          · rename_i y r1 hg
            simp only [Option.some.injEq, Prod.mk.injEq] at h
            obtain ⟨rfl, rfl⟩ := h
            obtain ⟨b, cs, hT, hb, hr, hp, _⟩ := hv.cells o ty ds hl
            obtain ⟨c1, c2, hc, h3, _⟩ := iht hg (hr.drop off)
            exact ⟨[v], vs', rfl, ⟨b, off, c1, by rw [hp off v h1], hT, h3, lies_of_block hb off c1 c2 hc⟩, h2⟩
          · cases h
        · rename_i ty ds hl
          split at h
          · rename_i y r1 hg
            simp only [Option.some.injEq, Prod.mk.injEq] at h
            obtain ⟨rfl, rfl⟩ := h
            obtain ⟨b, cs, hT, hb, hr, hp⟩ := hv.fcells o ty ds hl
            obtain ⟨c1, c2, hc, h3, _⟩ := iht hg (hr.drop off)
            exact ⟨[v], vs', rfl, ⟨b, off, c1, by rw [hp off v h1], hT, h3, lies_of_block hb off c1 c2 hc⟩, h2⟩
          · cases h
        · cases h
      · cases h

theorem RV.flat {c : Cx} (hh : Handles c) {d : D} {v : Value} (h : RV P c d v) (hd : match d with | .any | .gd .. | .tup _ => False | .cst u => u.oneCell' = true | _ => True) : RVs P c (flat d) v.cells.toList := by
  have leaf : ∀ (t : Ty) (x : t.El) (cs : List Value), RdC P t c.S c.w x cs → RVs P c (leaves t x) cs := by
    intro t
    induction t with
    | unit => intro x cs h; exact h
    | cons t u iht ihu =>
      intro x cs h
      obtain ⟨c1, c2, rfl, h1, h2⟩ := h
      exact (iht x.1 c1 h1).append (ihu x.2 c2 h2)
    | int k => intro x cs h; have := h.leaf rfl; exact ⟨_, [], this, ⟨cs, h, rfl⟩, rfl⟩
    | bool => intro x cs h; have := RdC.leaf h rfl; exact ⟨_, [], this, ⟨cs, h, rfl⟩, rfl⟩
    | str => intro x cs h; have := RdC.leaf h rfl; exact ⟨_, [], this, ⟨cs, h, rfl⟩, rfl⟩
    | fp => intro x cs h; have := RdC.leaf h rfl; exact ⟨_, [], this, ⟨cs, h, rfl⟩, rfl⟩
    | sl t _ => intro x cs h; have := RdC.leaf h rfl; exact ⟨_, [], this, ⟨cs, h, rfl⟩, rfl⟩
    | err => intro x cs h; have := RdC.leaf h rfl; exact ⟨_, [], this, ⟨cs, h, rfl⟩, rfl⟩
    | ptr t _ => intro x cs h; have := RdC.leaf h rfl; exact ⟨_, [], this, ⟨cs, h, rfl⟩, rfl⟩
    | fn a b _ _ => intro x cs h; have := RdC.leaf h rfl; exact ⟨_, [], this, ⟨cs, h, rfl⟩, rfl⟩
  have single : ∀ {d : D} {v : Value}, RV P c d v → v.oneCell' = true → RVs P c [d] v.cells.toList := by
    intro d v h h1
    have : v.cells.toList = [v] := by cases v <;> simp_all [Value.cells, Value.oneCell']
    rw [this]
    exact ⟨v, [], rfl, h, rfl⟩
  cases d with
  | dat t x =>
    obtain ⟨cs, h1, rfl⟩ := h
    by_cases ht : t.isAgg = true
    · simp only [vOf, ht, if_true, Value.cells]
      exact leaf t x cs h1
    · have ht : t.isAgg = false := by simpa using ht
      have h2 := h1.leaf ht
      have h3 : (vOf t cs).oneCell' = true := h1.one _ (by rw [h2]; simp [vOf, ht])
      have : (vOf t cs).cells.toList = cs := by
        have h4 : ∀ u : Value, u.oneCell' = true → u.cells.toList = [u] := by intro u hu; cases u <;> first | rfl | cases hu
        rw [h4 _ h3]; exact h2.symm
      rw [this]
      exact leaf t x cs h1
  | agg ds => obtain ⟨cs, rfl, h2⟩ := h; exact h2
  | tup ds => exact hd.elim
  | any => exact hd.elim
  | gd t w d => exact hd.elim
  | pt o off => obtain ⟨b, k, rfl⟩ := h.pt_some; exact single h rfl
  | arr o off n m => obtain ⟨b, k, rfl⟩ := h.arr_some; exact single h rfl
  | arx o base len lo hi p => obtain ⟨b, k, rfl⟩ := h.arx_some; exact single h (arxV_one ..)
  | pe o i s => obtain ⟨b, k, rfl⟩ := h.pe_some; exact single h rfl
  | own o =>
    refine single h ?_
    simp only [RV] at h
    split at h
    all_goals first | (rw [h]; exact hh o) | exact h.elim | exact h
  | fn f caps => obtain ⟨vs, rfl, h2⟩ := h; exact single ⟨vs, rfl, h2⟩ rfl
  | cst u =>
    obtain rfl : v = u := h
    exact single (d := .cst v) rfl hd
  | clip t xs => obtain ⟨base, rfl, h2⟩ := h; exact single ⟨base, rfl, h2⟩ rfl
  | ifc T t x => obtain ⟨cs, rfl, h2⟩ := h; exact single ⟨cs, rfl, h2⟩ rfl

end Go.Eng
namespace Go.Eng
open Go.RowKit

def kindOf : TypeDesc → TK
  | .int k => .int k
  | .bool => .bool
  | .string => .str
  | .struct fs => .st (fs.toList.map fun f => (f.offset, f.type))
  | .array n e => .arr n e
  | .slice e => .sl e
  | .map k e => .mp k e
  | .pointer e => .ptr e
  | .func .. => .fn
  | .interface _ => .ifc
  | _ => .other

def shapeOk (z : Value) (k : TK) : Bool := match aggK k with
  | some true => match z with
    | .agg _ => true
    | _ => false
  | some false => z.oneCell'
  | none => true

def rowOk (P : Program) (p : TypeId × TI) : Prop :=
  ∃ i d z, P.info? p.1 = some i ∧ P.underlying p.1 = some d ∧ i.size = p.2.size ∧ i.bytes = p.2.bytes ∧ i.zero = some z ∧ z.cells.toList = p.2.zero ∧ kindOf d = p.2.kind ∧ z.cells.size = i.size ∧ (∀ fs, d = .struct fs → fs.toList.all (fun f => (P.info? f.type).isSome) = true) ∧ shapeOk z p.2.kind = true

def Callable (P : Program) (g : FuncId) : Prop := ∃ fn, P.funcs[g]? = some fn ∧ (fn.name == "runtime.NumGoroutine") = false ∧ fn.body.isNone = false
def ValidAt (P : Program) (g : FuncId) (c : Contract) (w : World) : Prop :=
  ∀ (S : Nat → Prop) (x : c.a.El) (cs : List Value), (∀ b, S b → b < w.heap.size) → RdC P c.a S w x cs → c.pre x →
    Calls P g (group c.a cs).toArray w fun e w' => Below w.heap.size w w' ∧ match c.fresh with
      | none => ∃ rs, e = .returned (retV c.r rs) ∧ RdC P c.r (fun b => S b ∨ w.heap.size ≤ b ∧ b < w'.heap.size) w' (c.F x) rs ∧ (c.clip = true → ∃ base n, retV c.r rs = .slice base n n)
      | some et => match (⟨c.r, c.F x⟩ : Σ r : Ty, r.El) with
        | ⟨.cons (.sl t) .unit, y⟩ => ∃ v cs, e = .returned v ∧ v.oneCell' = true ∧ 0 < t.size ∧ w'.ownsRow w.heap.size et t.size v (List.length y.1) cs ∧
            RdL P t (fun b => S b ∨ w.heap.size ≤ b ∧ b < w'.heap.size ∧ v.ownBlock ≠ some b) w' y.1 cs
        | _ => False

def Valid (P : Program) (G : World → Prop) (g : FuncId) (c : Contract) : Prop := Callable P g ∧ ∀ w, G w → ValidAt P g c w

def MValidAt (P : Program) (g : FuncId) (mc : MCon) (w : World) : Prop :=
  ∀ (base : Nat) (S : Nat → Prop) (v : Value) (xs : List mc.t.El) (cs : List Value) (y : mc.a.El) (ys : List Value),
    (∀ b, S b → b < w.heap.size) → 0 < mc.t.size → v.oneCell' = true → w.ownsRow base mc.e mc.t.size v xs.length cs → RdL P mc.t S w xs cs → (∀ b, v.ownBlock = some b → ¬ S b) → RdC P mc.a S w y ys → mc.pre xs y →
    Calls P g (v :: (group mc.a ys ++ mc.fns.map fun f => .func (.func f) #[] #[])).toArray w fun e w' => w.grownBy w' v.ownBlock ∧
      ((mc.eats = true ∧ ∃ r, e = .returned r ∧ RdC P (.sl mc.t) (fun b => S b ∨ (w.heap.size ≤ b ∧ b < w'.heap.size) ∨ v.ownBlock = some b) w' (mc.F xs y) [r]) ∨
        (mc.eats = false ∧ e = .returned (.tuple #[]) ∧ (mc.F xs y).length = xs.length ∧ ∃ cs', w'.ownsRow base mc.e mc.t.size v xs.length cs' ∧ RdL P mc.t (fun b => S b ∨ (w.heap.size ≤ b ∧ b < w'.heap.size)) w' (mc.F xs y) cs'))
def MValid (P : Program) (G : World → Prop) (g : FuncId) (c : MCon) : Prop := Callable P g ∧ ∀ w, G w → MValidAt P g c w

def QValidAt (P : Program) (g : FuncId) (q : QCon) (w : World) : Prop :=
  Calls P g #[] w fun e w' => Below w.heap.size w w' ∧ ∃ b D k t, e = .returned (.map (some b)) ∧ w.heap.size ≤ b ∧ b < w'.heap.size ∧ P.underlying q.T = some (.map k t) ∧ w'.ownsMap P k heldElem b q.n D ∧ MapIs P (fun _ => False) w' q.kt q.vt D q.f
def QValid (P : Program) (G : World → Prop) (g : FuncId) (q : QCon) : Prop := Callable P g ∧ ∀ w, G w → QValidAt P g q w

def BValidAt (P : Program) (g : FuncId) (bc : BCon) (w : World) : Prop :=
  ∀ (S : Nat → Prop) (x : bc.a.El) (cs : List Value) (xs : List bc.t.El) (v : Value), (∀ b, S b → b < w.heap.size) → RdC P bc.a S w x cs → RdC P (.sl bc.t) (fun b => b < w.heap.size) w xs [v] → bc.pre x xs →
    Calls P g (group bc.a cs ++ [v]).toArray w fun e w' => Below w.heap.size w w' ∧ ∃ rs, e = .returned (retV bc.r rs) ∧ RdC P bc.r (fun b => S b ∨ w.heap.size ≤ b ∧ b < w'.heap.size) w' (bc.F x xs) rs
def BValid (P : Program) (G : World → Prop) (g : FuncId) (c : BCon) : Prop := Callable P g ∧ ∀ w, G w → BValidAt P g c w

def EqOk (P : Program) (T : TypeId) (t : Ty) : Prop := ∀ (w : World) (S : Nat → Prop) (x y : t.El) (xs ys : List Value), RdC P t S w x xs → RdC P t S w y ys →
  (∀ op u v, (eqGuard op T u v (.agg xs.toArray) (.agg ys.toArray)).run P w = .ok () w) ∧ (Op.equal T (.agg xs.toArray) (.agg ys.toArray)).run P w = .ok (t.eqb x y) w

structure CfgOk (P : Program) (C : Cfg) (B : Nat) (w0 : World) : Prop where
  mixed : P.follows .mixedOrders = true
  eqs : ∀ T t, tyT C T = some t → t.isAgg = true → t.flat = true → EqOk P T t
  tab : ∀ T ti, assoc C.tab T = some ti → rowOk P (T, ti)
  cons : ∀ g c, assocC C.cons g = some c → Callable P g ∧ ∀ w, Below B w0 w → ValidAt P g c w
  inls : ∀ g fn, assoc C.inls g = some fn → P.funcs[g]? = some fn ∧ (fn.name == "runtime.NumGoroutine") = false
  keys : ∀ T ∈ C.keys, ∀ t, tyT C T = some t → keyTB P T t = true
  mcons : ∀ g c, assoc C.mcons g = some c → Callable P g ∧ ∀ w, Below B w0 w → MValidAt P g c w
  bcons : ∀ g c, assoc C.bcons g = some c → Callable P g ∧ ∀ w, Below B w0 w → BValidAt P g c w
  qcons : ∀ g c, assoc C.qcons g = some c → Callable P g ∧ ∀ w, Below B w0 w → QValidAt P g c w

variable {P : Program} {C : Cfg} {B : Nat} {w0 : World}

section
variable {B : Nat} {w0 : World} {S0 : Nat → Prop} {c : Cx} {a : Act} {K : Act → World → Prop} {Q : Exit → Act → World → Prop} {o : Oper}

def Owed (P : Program) (B : Nat) (w0 : World) (S0 : Nat → Prop) (c : Cx) (a : Act) (o : Oper) (r : Res) : Prop :=
  ∀ (K : Act → World → Prop) (Q : Exit → Act → World → Prop), (∀ v c', Mem P B w0 S0 c' → Goes c c' → Fr c c' → c'.own = r.own → RV P c' r.d v → (∀ p ∈ r.hyp, p) → K (a.put o.dst v) c'.w) → o.wp P a c.w K Q

theorem owed_same (hm : Mem P B w0 S0 c) {d : D} {v : Value} {nxt : Nat} {s : List Cnd} (hr : (execOp a.eval o).run P c.w = .ok (.value v) c.w) (hv : RV P c d v) :
    Owed P B w0 S0 c a o ⟨s, [], d, c.own, nxt⟩ := by
  intro K Q hK
  unfold Oper.wp
  rw [hr, Oper.upon_value]
  exact hK v c hm (Goes.refl c) (Fr.refl c) rfl hv (fun p hp => by cases hp)

theorem owed_move (hm : Mem P B w0 S0 c) {lk : Operand → D} (hlk : ∀ x, RV P c (lk x) (a.eval x)) {x : Operand} {nxt : Nat} (ho : o.op = .move x ∨ o.op = .assign x) :
    Owed P B w0 S0 c a o (.val c.own nxt (lk x)) :=
  owed_same hm (by rcases ho with ho | ho <;> (unfold execOp; rw [ho]; rfl)) (hlk x)

theorem owed_nilCheck (hm : Mem P B w0 S0 c) {lk : Operand → D} (hlk : ∀ x, RV P c (lk x) (a.eval x)) {x : Operand} {nxt : Nat} (ho : o.op = .nilCheck x) {g : Bool} {r : Res}
    (h : stepF C lk c.own nxt o g = some r) (hs : ∀ p ∈ r.side, p) : Owed P B w0 S0 c a o r := by
  have hx := hlk x
  unfold stepF at h
  rw [ho] at h
  simp only at h
  have run : ∀ b k, a.eval x = .pointer (some ⟨b, k, none⟩) → (execOp a.eval o).run P c.w = .ok (.value (a.eval x)) c.w := by
    intro b k hv
    unfold execOp
    rw [ho]
    simp only [hv]
    rfl
  split at h
  · rename_i k off hl
    obtain rfl := Option.some.inj h
    rw [hl] at hx
    obtain ⟨b, k', hv⟩ := hx.pt_some
    exact owed_same hm (run _ _ hv) hx
  · rename_i k off hl
    obtain rfl := Option.some.inj h
    rw [hl] at hx
    obtain ⟨b, k', hv⟩ := hx.pe_some
    exact owed_same hm (run _ _ hv) hx
  · rename_i t p hl
    obtain rfl := Option.some.inj h
    rw [hl] at hx
    have h1 := hs _ (List.mem_singleton.2 rfl)
    obtain ⟨y, rfl⟩ := Option.isSome_iff_exists.1 h1
    obtain ⟨cs, h2, h3⟩ := id hx
    obtain ⟨b, off, es, rfl, h4⟩ := h2
    exact owed_same hm (run _ _ h3) hx
  · rename_i f caps hl
    obtain rfl := Option.some.inj h
    rw [hl] at hx
    obtain ⟨vs, hv, _⟩ := id hx
    refine owed_same hm ?_ hx
    unfold execOp
    rw [ho]
    simp only [hv]
    rfl
  · cases h

theorem owed_extract (hm : Mem P B w0 S0 c) {lk : Operand → D} (hlk : ∀ x, RV P c (lk x) (a.eval x)) {x : Operand} {i : Nat} {nxt : Nat} (ho : o.op = .extract x i) {g : Bool} {r : Res}
    (h : stepF C lk c.own nxt o g = some r) : Owed P B w0 S0 c a o r := by
  have hx := hlk x
  unfold stepF at h
  rw [ho] at h
  simp only at h
  split at h
  · rename_i ds hl
    split at h
    · rename_i d hd
      obtain rfl := Option.some.inj h
      rw [hl] at hx
      obtain ⟨vs, hv, hr⟩ := hx
      obtain ⟨v, hv2, hr2⟩ := hr.get hd
      refine owed_same hm (v := v) ?_ hr2
      unfold execOp
      rw [ho]
      simp [Instr.extract, hv, hv2]
    · cases h
  · cases h

theorem RVs.of_map {c : Cx} {a : Act} {lk : Operand → D} (hlk : ∀ x, RV P c (lk x) (a.eval x)) : ∀ l : List Operand, RVs P c (l.map lk) (l.map a.eval)
  | [] => rfl
  | x :: r => ⟨_, _, rfl, hlk x, RVs.of_map hlk r⟩

theorem owed_makeFunc (hm : Mem P B w0 S0 c) {lk : Operand → D} (hlk : ∀ x, RV P c (lk x) (a.eval x)) {f : FuncId} {first caps : Array Operand} {nxt : Nat} (ho : o.op = .makeFunc (.func f) first caps) {g : Bool} {r : Res}
    (h : stepF C lk c.own nxt o g = some r) : Owed P B w0 S0 c a o r := by
  unfold stepF at h
  rw [ho] at h
  simp only at h
  split at h
  · rename_i h0
    obtain rfl := Option.some.inj h
    obtain rfl : first = #[] := by cases first; simp_all
    refine owed_same hm (v := .func (.func f) #[] (caps.map a.eval)) ?_ ⟨caps.toList.map a.eval, by rw [← Array.toList_map], RVs.of_map hlk _⟩
    unfold execOp
    rw [ho]
    simp [Instr.makeFunc]
  · cases h

theorem wrap_wrap (k : IntKind) (n : Int) : k.wrap (k.wrap n) = k.wrap n := by
  cases k <;> simp only [IntKind.wrap, IntKind.bits, IntKind.signed] <;> (try split) <;> (try split) <;> simp_all <;> omega

theorem RV.int {c : Cx} {k : IntKind} {n : Int} {v : Value} (h : RV P c (.dat (.int k) n) v) : v = .int k n ∧ k.wrap n = n := by
  obtain ⟨cs, ⟨rfl, hw⟩, rfl⟩ := h
  exact ⟨rfl, hw⟩
theorem RV.of_int {c : Cx} {k : IntKind} {n : Int} (hw : k.wrap n = n) : RV P c (.dat (.int k) n) (.int k n) := ⟨_, ⟨rfl, hw⟩, rfl⟩
theorem RV.bool {c : Cx} {b : Bool} {v : Value} (h : RV P c (.dat .bool b) v) : v = .bool b := by
  obtain ⟨cs, h1, rfl⟩ := h
  rw [show cs = _ from h1]; rfl
theorem RV.of_bool {c : Cx} (b : Bool) : RV P c (.dat .bool b) (.bool b) := ⟨_, rfl, rfl⟩
theorem RV.str {c : Cx} {s : ByteArray} {v : Value} (h : RV P c (.dat .str s) v) : v = .string s ∧ s.size ≤ maxLen := by
  obtain ⟨cs, ⟨rfl, hw⟩, rfl⟩ := h
  exact ⟨rfl, hw⟩

theorem owed_unOp (hm : Mem P B w0 S0 c) {lk : Operand → D} (hlk : ∀ x, RV P c (lk x) (a.eval x)) {op : UnOp} {T : TypeId} {x : Operand} {nxt : Nat} (ho : o.op = .unOp op T x) {g : Bool} {r : Res}
    (h : stepF C lk c.own nxt o g = some r) : Owed P B w0 S0 c a o r := by
  have hx := hlk x
  unfold stepF at h
  rw [ho] at h
  simp only at h
  split at h
  · rename_i b hl
    obtain rfl := Option.some.inj h
    rw [hl] at hx
    refine owed_same hm (v := .bool !b) ?_ (.of_bool _)
    unfold execOp
    rw [ho]
    simp [Op.unary, hx.bool]
  · rename_i k n hl
    obtain rfl := Option.some.inj h
    rw [hl] at hx
    refine owed_same hm (v := .int k (k.wrap (0 - n))) ?_ (.of_int (wrap_wrap _ _))
    unfold execOp
    rw [ho]
    simp [Op.unary, hx.int.1, Op.intArith]
  · cases h

theorem tabOk (hC : CfgOk P C B w0) {T : TypeId} {k : TK} (h : kindT C T = k) (hk : k ≠ .other) : ∃ i d z, P.info? T = some i ∧ P.underlying T = some d ∧ i.size = sizeT C T ∧ i.bytes = bytesT C T ∧ i.zero = some z ∧ zeroT C T = some (z.cells.toList.map constD) ∧ kindOf d = k := by
  unfold kindT at h
  cases ha : assoc C.tab T with
  | none => rw [ha] at h; exact absurd h.symm hk
  | some ti =>
    rw [ha] at h
    obtain ⟨i, d, z, h1, h2, h3, h4, h5, h6, h7, _, _⟩ := hC.tab T ti ha
    refine ⟨i, d, z, h1, h2, ?_, ?_, h5, ?_, ?_⟩
    · unfold sizeT; rw [ha]; exact h3
    · unfold bytesT; rw [ha]; exact h4
    · unfold zeroT; rw [ha]; simp only [h6]
    · exact h7.trans h

theorem kind_int {d : TypeDesc} {k : IntKind} (h : kindOf d = .int k) : d = .int k := by cases d <;> simp_all [kindOf]
theorem kind_str {d : TypeDesc} (h : kindOf d = .str) : d = .string := by cases d <;> simp_all [kindOf]
theorem kind_bool {d : TypeDesc} (h : kindOf d = .bool) : d = .bool := by cases d <;> simp_all [kindOf]
theorem kind_sl {d : TypeDesc} {e : TypeId} (h : kindOf d = .sl e) : d = .slice e := by cases d <;> simp_all [kindOf]
theorem kind_arr {d : TypeDesc} {n : Nat} {e : TypeId} (h : kindOf d = .arr n e) : d = .array n e := by cases d <;> simp_all [kindOf]
theorem kind_st {d : TypeDesc} {fs : List (Nat × TypeId)} (h : kindOf d = .st fs) : ∃ fields, d = .struct fields ∧ fs = fields.toList.map fun f => (f.offset, f.type) := by
  cases d <;> simp_all [kindOf]

theorem wrap_tmod {k : IntKind} {x y : Int} (h : k.wrap x = x) : k.wrap (x.tmod y) = x.tmod y := by
  have h1 : (x.tmod y).natAbs ≤ x.natAbs := by
    rw [Int.natAbs_tmod]; exact Nat.mod_le _ _
  have h2 : 0 ≤ x → 0 ≤ x.tmod y := fun hx => Int.tmod_nonneg _ hx
  have h3 : x ≤ 0 → x.tmod y ≤ 0 := by
    intro hx
    have := Int.tmod_nonneg (a := -x) y (by omega)
    rw [Int.neg_tmod] at this; omega
  have key : ∀ n : Int, k.wrap n = n ↔ k.min ≤ n ∧ n ≤ k.max := by
    intro n
    cases k <;> simp only [IntKind.wrap, IntKind.min, IntKind.max, IntKind.bits, IntKind.signed] <;> (try split) <;> simp_all <;> omega
  rw [key] at h ⊢
  have h4 : k.min ≤ 0 ∧ 0 ≤ k.max := by cases k <;> simp [IntKind.min, IntKind.max, IntKind.bits, IntKind.signed]
  omega

theorem run_eqGuard_int (op : BinOp) (T : TypeId) (x y : Operand) (k k' : IntKind) (u v : Int) (w : World) : (eqGuard op T x y (.int k u) (.int k' v)).run P w = .ok () w := by
  unfold eqGuard; cases op <;> rfl
theorem run_eqGuard_bool (op : BinOp) (T : TypeId) (x y : Operand) (u v : Bool) (w : World) : (eqGuard op T x y (.bool u) (.bool v)).run P w = .ok () w := by
  unfold eqGuard; cases op <;> rfl

theorem binInt_ok {w : World} {op : BinOp} {T : TypeId} {k : IntKind} {x y : Int} (hx : k.wrap x = x) {s : List Cnd} {d : D} (h : binInt op k x y = some (s, d)) (hs : ∀ p ∈ s, p) :
    ∃ v, (binOp op T (.int k x) (.int k y)).run P w = .ok v w ∧ RV P c d v := by
  unfold binInt at h
  split at h <;> (try (cases h; done)) <;> (simp only [Option.some.injEq, Prod.mk.injEq] at h; obtain ⟨rfl, rfl⟩ := h)
  · exact ⟨_, by simp [binOp, Op.intArith], .of_int (wrap_wrap _ _)⟩
  · exact ⟨_, by simp [binOp, Op.intArith], .of_int (wrap_wrap _ _)⟩
  · exact ⟨_, by simp [binOp, Op.intArith], .of_int (wrap_wrap _ _)⟩
  · have : y ≠ 0 := hs _ (List.mem_singleton.2 rfl)
    exact ⟨_, by simp [binOp, Op.intDiv, this], .of_int (wrap_wrap _ _)⟩
  · have : y ≠ 0 := hs _ (List.mem_singleton.2 rfl)
    exact ⟨_, by simp [binOp, Op.intDiv, this], .of_int (wrap_tmod hx)⟩
  · exact ⟨_, by simp [binOp, Op.intBits, andI], .of_int (wrap_wrap _ _)⟩
  · exact ⟨_, by simp [binOp, Op.intBits, orI], .of_int (wrap_wrap _ _)⟩
  · exact ⟨_, by simp [binOp, Op.intBits, xorI], .of_int (wrap_wrap _ _)⟩
  · exact ⟨_, by simp [binOp, Op.intBits, nandI], .of_int (wrap_wrap _ _)⟩
  · exact ⟨.bool (decide (x = y)), by simp [binOp, Op.intCmp]; rfl, .of_bool _⟩
  · exact ⟨.bool (!decide (x = y)), by simp [binOp, Op.intCmp, bne]; rfl, .of_bool _⟩
  · exact ⟨_, by simp [binOp, Op.intCmp], .of_bool _⟩
  · exact ⟨_, by simp [binOp, Op.intCmp], .of_bool _⟩
  · exact ⟨_, by simp [binOp, Op.intCmp], .of_bool _⟩
  · exact ⟨_, by simp [binOp, Op.intCmp], .of_bool _⟩

end
end Go.Eng
namespace Go.Eng
open Go.RowKit

variable {P : Program} {C : Cfg} {B : Nat} {w0 : World}

theorem add_none (b off j : Nat) : (⟨b, off, none⟩ : Addr).add j = ⟨b, off + j, none⟩ := by
  unfold Addr.add; split
  · rename_i h; subst h; rfl
  · rfl

theorem run_isAgg (hC : CfgOk P C B w0) {T : TypeId} {g : Bool} (h : aggT C T = some g) (w : World) : (isAgg T).run P w = .ok g w := by
  unfold aggT at h
  obtain ⟨i, d, z, _, hu, _, _, _, _, hd⟩ := tabOk hC (k := kindT C T) rfl (by intro e; rw [e] at h; simp [aggK] at h)
  rw [← hd] at h
  unfold isAgg underlying
  cases d <;> simp_all [kindOf, aggK]
theorem run_sizeOf (hC : CfgOk P C B w0) {T : TypeId} (h : kindT C T ≠ .other) (w : World) : (sizeOf T).run P w = .ok (sizeT C T) w := by
  obtain ⟨i, d, z, hi, hu, hs, _⟩ := tabOk hC (k := kindT C T) rfl h
  simp [sizeOf, typeInfo, hi, hs]
theorem agg_ne {T : TypeId} {g : Bool} (h : aggT C T = some g) : kindT C T ≠ .other := by
  intro e; unfold aggT at h; rw [e] at h; simp [aggK] at h

theorem run_loadVar (hC : CfgOk P C B w0) {T : TypeId} {g : Bool} (hg : aggT C T = some g) {w : World} {b off : Nat} {cs : List Value} (hl : g = true → cs.length = sizeT C T) (h1 : g = false → cs.length = 1) (h : Lies w b off cs) :
    (loadVar T ⟨b, off, none⟩).run P w = .ok (if g then .agg cs.toArray else cs.headD undef) w := by
  unfold loadVar
  simp only [Sem.run_bind, run_isAgg hC hg, Result.andThen_ok]
  cases g with
  | true =>
    simp only [if_true, Sem.run_bind, run_sizeOf hC (agg_ne hg), Result.andThen_ok]
    rw [← hl rfl, run_loadCells_list w ⟨b, off, none⟩ cs (fun j v hj => by rw [add_none]; exact h j v hj)]
    rfl
  | false =>
    match cs, h1 rfl with
    | [v], _ =>
      have := h 0 v rfl
      simp only [Bool.false_eq_true, if_false, run_load]
      rw [show (⟨b, off, none⟩ : Addr) = ⟨b, off + 0, none⟩ from rfl, this]
      rfl

theorem getElem?_of_take_drop {α : Type} {l : List α} {k n j : Nat} {v : α} (h : ((l.drop k).take n)[j]? = some v) : l[k + j]? = some v := by
  rw [List.getElem?_take] at h
  split at h
  · rwa [List.getElem?_drop] at h
  · cases h

theorem cut_ok {c : Cx} {g : Bool} {k n : Nat} {ds : List D} {d : D} {cs : List Value} (h : cut g k n ds = some d) (hr : RVs P c ds cs) :
    ∃ es : List Value, (g = true → es.length = n) ∧ (g = false → es.length = 1) ∧ (∀ (j : Nat) (v : Value), es[j]? = some v → cs[k + j]? = some v) ∧ RV P c d (if g then .agg es.toArray else es.headD undef) := by
  cases g with
  | true =>
    simp only [cut] at h
    split at h
    · rename_i hl
      obtain rfl := Option.some.inj h
      refine ⟨(cs.drop k).take n, fun _ => ?_, (fun e => by cases e), fun j v hj => getElem?_of_take_drop hj, ?_⟩
      · have h2 := hr.length
        simp only [List.length_take, List.length_drop] at hl ⊢
        omega
      · exact ⟨_, rfl, (hr.drop k).take n⟩
    · cases h
  | false =>
    simp only [cut] at h
    obtain ⟨v, hv, hr2⟩ := hr.get h
    refine ⟨[v], (fun e => by cases e), fun _ => rfl, fun j u hj => ?_, hr2⟩
    cases j with
    | zero => simp at hj; subst hj; exact hv
    | succ j => simp at hj

theorem leaves_ok {c : Cx} {S : Nat → Prop} (hS : ∀ b, S b → c.S b) : ∀ (t : Ty) {x : t.El} {cs : List Value}, RdC P t S c.w x cs → RVs P c (leaves t x) cs := by
  have hst : Stays S c.w c.S c.w := fun b h => ⟨hS b h, rfl⟩
  intro t
  induction t with
  | unit => intro x cs h; exact h
  | cons t u iht ihu =>
    intro x cs h
    obtain ⟨c1, c2, rfl, h1, h2⟩ := h
    exact (iht h1).append (ihu h2)
  | int k => intro x cs h; have := h.leaf rfl; exact ⟨_, [], this, ⟨cs, h.mono hst, rfl⟩, rfl⟩
  | bool => intro x cs h; have := RdC.leaf h rfl; exact ⟨_, [], this, ⟨cs, RdC.mono h hst, rfl⟩, rfl⟩
  | str => intro x cs h; have := RdC.leaf h rfl; exact ⟨_, [], this, ⟨cs, RdC.mono h hst, rfl⟩, rfl⟩
  | err => intro x cs h; have := RdC.leaf h rfl; exact ⟨_, [], this, ⟨cs, RdC.mono h hst, rfl⟩, rfl⟩
  | fp => intro x cs h; have := RdC.leaf h rfl; exact ⟨_, [], this, ⟨cs, RdC.mono h hst, rfl⟩, rfl⟩
  | sl t _ => intro x cs h; have := RdC.leaf h rfl; exact ⟨_, [], this, ⟨cs, h.mono hst, rfl⟩, rfl⟩
  | ptr t _ => intro x cs h; have := RdC.leaf h rfl; exact ⟨_, [], this, ⟨cs, RdC.mono h hst, rfl⟩, rfl⟩
  | fn a b _ _ => intro x cs h; have := RdC.leaf h rfl; exact ⟨_, [], this, ⟨cs, RdC.mono h hst, rfl⟩, rfl⟩

theorem row_cells {B : Nat} {c : Cx} {k : Nat} {e : TypeId} {t : Ty} {xs : List t.El} (hk : BlkOk P B c k) (ho : lookO c.own k = .row e t xs) {b n m : Nat} (hρ : c.ρ k = .slice (some ⟨b, 0, none⟩) n m) :
    n = xs.length ∧ ∃ (cur : Array Value) (cs : List Value), c.w.heap[b]? = some (.cells cur e (0, 0)) ∧ RdL P t c.S c.w xs cs ∧ (∀ (j : Nat) (v : Value), cs[j]? = some v → cur[j]? = some v) ∧ cs.length = xs.length * t.size ∧ xs.length ≤ m ∧ cur.size = m * t.size ∧ m ≤ maxLen ∧ B ≤ b ∧ ¬ c.S b ∧ cur.toList.take (xs.length * t.size) = cs := by
  unfold BlkOk at hk
  simp only [ho] at hk
  obtain ⟨hz, cs, ⟨hl, h1⟩, h2, h3⟩ := hk
  rcases h1 with ⟨h1, _⟩ | ⟨g, cap, cur, hv, hg, hh, hcap, hmax, hsz, htk⟩
  · rw [hρ] at h1; cases h1
  · rw [hρ] at hv
    simp only [Value.slice.injEq, Option.some.injEq, Addr.mk.injEq] at hv
    obtain ⟨⟨rfl, _⟩, rfl, rfl⟩ := hv
    refine ⟨rfl, cur, cs, hh, h2, fun j v hj => ?_, hl, hcap, hsz, hmax, hg, h3 b (by rw [hρ]; rfl), htk⟩
    rw [← htk, List.getElem?_take] at hj
    split at hj
    · simpa using hj
    · cases hj

section
variable {B : Nat} {w0 : World} {S0 : Nat → Prop} {c : Cx} {a : Act} {o : Oper}

theorem arxNs_ok (hm : Mem P B w0 S0 c) {k base len : Nat} {kk : IntKind} {ns : List Int} (h : arxNs c.own k base len kk = some ns) :
    ∃ ty ds b cs, lookO c.own k = .cells ty ds ∧ c.ρ k = .pointer (some ⟨b, 0, none⟩) ∧ c.w.heap[b]? = some (.cells cs.toArray ty (0, 0)) ∧ RVs P c ds cs ∧ ns.length = len ∧ intsOf kk ((ds.drop base).take len) = some ns ∧ len ≤ 65536 ∧
      (∀ v ∈ cs, v.oneCell' = true) ∧ B ≤ b ∧ ¬ c.S b := by
  unfold arxNs at h
  split at h
  · rename_i ty ds hb
    split at h
    · rename_i ns' hns
      split at h
      · rename_i hl
        obtain rfl := Option.some.inj h
        have hk := hm.ok k
        unfold BlkOk at hk
        simp only [hb] at hk
        obtain ⟨b, cs, h1, h2, h3, h4, h5, h6⟩ := hk
        exact ⟨ty, ds, b, cs, hb, h1, h2, h3, hl.1, hns, hl.2, h4, h5, h6⟩
      · cases h
    · cases h
  · cases h
theorem mkInts_ok {kk : IntKind} {len : Nat} {l : List Int} (hl : l.length = len) (hw : ∀ n ∈ l, kk.wrap n = n) : RVs P c (mkInts kk len l) (l.map (Value.int kk)) := by
  have e : mkInts kk len l = l.map fun n => D.dat (.int kk) n := by
    unfold mkInts
    subst hl
    apply List.ext_getElem
    · simp
    · intro i h1 h2
      simp only [List.getElem_map, List.getElem_range]
      rw [List.getD_eq_getElem?_getD, List.getElem?_eq_getElem (by simpa using h1)]
      rfl
  rw [e]
  clear e hl
  induction l with
  | nil => rfl
  | cons n r ih =>
    exact ⟨.int kk n, _, rfl, ⟨[.int kk n], ⟨rfl, hw n List.mem_cons_self⟩, rfl⟩, ih fun m hm => hw m (List.mem_cons_of_mem _ hm)⟩

theorem owed_load (hC : CfgOk P C B w0) (hm : Mem P B w0 S0 c) {lk : Operand → D} (hlk : ∀ x, RV P c (lk x) (a.eval x)) {T : TypeId} {x : Operand} {nxt : Nat} (ho : o.op = .load T x) {g : Bool} {r : Res}
    (h : stepF C lk c.own nxt o g = some r) (hs : ∀ p ∈ r.side, p) : Owed P B w0 S0 c a o r := by
  have hx := hlk x
  unfold stepF at h
  rw [ho] at h
  simp only at h
  split at h
  · rename_i g' hg
    have fin : ∀ {b off : Nat} {cs : List Value} {d : D}, a.eval x = .pointer (some ⟨b, off, none⟩) → (g' = true → cs.length = sizeT C T) → (g' = false → cs.length = 1) → Lies c.w b off cs → RV P c d (if g' then .agg cs.toArray else cs.headD undef) →
        ∀ s : List Cnd, Owed P B w0 S0 c a o ⟨s, [], d, c.own, nxt⟩ := by
      intro b off cs d hv hl hl1 hlie hr s
      refine owed_same hm ?_ hr
      unfold execOp
      rw [ho]
      simp only [Instr.loadAt, Instr.sureAddr, hv, Sem.run_bind, Sem.run_pure, Result.andThen_ok, run_loadVar hC hg hl hl1 hlie]
    unfold withS at h
    split at h
    · rename_i s d hl
      obtain rfl := Option.some.inj h
      unfold loadD at hl
      split at hl
      · rename_i k off hp
        rw [hp] at hx
        split at hl
        · rename_i ty ds hb
          split at hl
          · rename_i d' hcut
            simp only [Option.some.injEq, Prod.mk.injEq] at hl
            obtain ⟨rfl, rfl⟩ := hl
            have hk := hm.ok k
            unfold BlkOk at hk
            simp only [hb] at hk
            obtain ⟨b, cs, hρ, hheap, hrs, _⟩ := hk
            simp only [RV, hb] at hx
            obtain ⟨b', hρ', hv⟩ := hx
            rw [hρ] at hρ'
            simp only [Value.pointer.injEq, Option.some.injEq, Addr.mk.injEq] at hρ'
            obtain ⟨rfl, _⟩ := hρ'
            obtain ⟨es, he1, he2, he3, he4⟩ := cut_ok hcut hrs
            refine fin hv he1 he2 (fun j v hj => ?_) he4 _
            simp [World.cell?, hheap, he3 j v hj]
          · cases hl
        · cases hl
      · rename_i k i sub hp
        rw [hp] at hx
        split at hl
        · rename_i e t xs hb
          split at hl
          · rename_i d' hcut
            simp only [Option.some.injEq, Prod.mk.injEq] at hl
            obtain ⟨rfl, rfl⟩ := hl
            simp only [RV, hb] at hx
            obtain ⟨b, n, m, hρ, hv, hi⟩ := hx
            obtain ⟨rfl, cur, cs, hheap, hrd, hcs, _⟩ := row_cells (hm.ok k) hb hρ
            have hget : xs[i]? = some (xs.getD i t.zero) := by simp [List.getD, hi]
            obtain ⟨es, hes, hin⟩ := hrd.get hget
            obtain ⟨fs, he1, he2, he3, he4⟩ := cut_ok hcut (leaves_ok (fun _ h => h) t hes)
            refine fin hv he1 he2 (fun j v hj => ?_) he4 _
            have := hcs _ _ (hin _ _ (he3 j v hj))
            rw [← Nat.add_assoc] at this
            simp [World.cell?, hheap, this]
          · cases hl
        · cases hl
      · rename_i t p hp
        rw [hp] at hx
        split at hl
        · rename_i hsz
          simp only [Option.some.injEq, Prod.mk.injEq] at hl
          obtain ⟨rfl, rfl⟩ := hl
          have h2 := hs _ (List.mem_singleton.2 rfl)
          obtain ⟨y, rfl⟩ := Option.isSome_iff_exists.1 h2
          obtain ⟨cs, hrd, hv⟩ := hx
          obtain ⟨b, off, es, rfl, hS, hes, hlie⟩ := hrd
          refine fin hv (fun _ => by rw [hes.length, hsz.1]) (fun e => by rw [hes.leaf (hsz.2.trans e)]; rfl) hlie ?_ _
          refine ⟨es, hes, ?_⟩
          unfold vOf
          rw [hsz.2]
        · cases hl
      · rename_i k base len i i' hp
        rw [hp] at hx
        split at hl
        · rename_i kk hkk
          split at hl
          · rename_i hgf
            split at hl
            · rename_i ns hns
              simp only [Option.some.injEq, Prod.mk.injEq] at hl
              obtain ⟨rfl, rfl⟩ := hl
              obtain ⟨ty, ds, b, cs, h1, h2, h3, h4, h5, h6, h7, _⟩ := arxNs_ok hm hns
              simp only [RV, h1] at hx
              obtain ⟨q1, q2, q3, b', q4, q5⟩ := hx
              rw [h2] at q4
              simp only [Value.pointer.injEq, Option.some.injEq, Addr.mk.injEq] at q4
              obtain ⟨rfl, _⟩ := q4
              have hlt := q3 (by trivial)
              obtain ⟨e1, e2⟩ := intsOf_ok h6 ((h4.drop base).take len)
              have hget : cs[base + i]? = some (.int kk (ns.getD i 0)) := by
                rcases arx_ints h6 h5 h4 with ⟨k1, _⟩ | k1
                · exact k1 i hlt
                · omega
              refine fin (cs := [.int kk (ns.getD i 0)]) q5 (fun e => by rw [hgf] at e; cases e) (fun _ => rfl) (fun j v hj => ?_) ?_ _
              · match j, hj with
                | 0, hj =>
                  simp only [List.getElem?_cons_zero, Option.some.injEq] at hj
                  subst hj
                  simp [World.cell?, h3, hget]
                | j + 1, hj => simp at hj
              · rw [hgf]
                refine ⟨[.int kk (ns.getD i 0)], ⟨rfl, ?_⟩, rfl⟩
                apply e2
                rw [List.getD_eq_getElem?_getD, List.getElem?_eq_getElem (by omega)]
                exact List.getElem_mem _
            · cases hl
          · cases hl
        · cases hl
      · cases hl
    · cases h
  · cases h

end
end Go.Eng
namespace Go.Eng
open Go.RowKit

variable {P : Program} {C : Cfg} {B : Nat} {w0 : World}

theorem splice_in {α : Type} (cl ns : List α) (k s sub L : Nat) (h : sub + ns.length ≤ s) (h2 : k + s ≤ L) (h3 : L ≤ cl.length) :
    (cl.take (k + sub) ++ (ns ++ cl.drop (k + sub + ns.length))).take L =
      (cl.take L).take k ++ (((((cl.take L).drop k).take s).take sub ++ (ns ++ (((cl.take L).drop k).take s).drop (sub + ns.length))) ++ (cl.take L).drop (k + s)) := by
  apply List.ext_getElem?
  intro j
  simp only [List.getElem?_take, List.getElem?_append, List.getElem?_drop, List.length_take, List.length_drop, List.length_append]
  by_cases h1 : j < k
  · grind
  by_cases h1 : j < k + sub
  · grind
  by_cases h1 : j < k + sub + ns.length
  · grind
  by_cases h1 : j < k + s
  · grind
  by_cases h1 : j < L
  · grind
  · grind

theorem BlkOk.notS {B : Nat} {c : Cx} {k b : Nat} (h : BlkOk P B c k) (hnb : ∀ t xs, lookO c.own k ≠ .brow t xs) (hb : blkOf (lookO c.own k) (c.ρ k) = some b) : ¬ c.S b ∧ B ≤ b := by
  unfold BlkOk at h
  cases ho : lookO c.own k with
  | cells ty ds =>
    simp only [ho] at h hb
    obtain ⟨b2, cs, h1, _, _, _, h5, h6⟩ := h
    simp [blkOf, h1] at hb
    subst hb
    exact ⟨h6, h5⟩
  | row e t xs =>
    simp only [ho] at h hb
    obtain ⟨_, cs, h1, _, h3⟩ := h
    have : (c.ρ k).ownBlock = some b := by
      revert hb; unfold Value.ownBlock blkOf
      cases c.ρ k <;> simp
      rename_i a n m; cases a <;> simp
    exact ⟨h3 b this, (h1.lt b this).1⟩
  | frow t xs => rw [ho] at hb; simp [blkOf] at hb
  | fcells ty ds => rw [ho] at hb; simp [blkOf] at hb
  | brow t xs => exact absurd ho (hnb t xs)
  | map T kt vt n f =>
    simp only [ho] at h hb
    obtain ⟨b2, D, k', e, h1, _, _, _, h5, h6⟩ := h
    simp [blkOf, h1] at hb
    subst hb
    exact ⟨h6, h5⟩
  | iter s pos =>
    simp only [ho] at h hb
    obtain ⟨b2, h1, _, _, h5, h6⟩ := h
    simp [blkOf, h1] at hb
    subst hb
    exact ⟨h6, h5⟩
  | miter vt f left cnt cur =>
    simp only [ho] at h hb
    obtain ⟨r, b2, n, D, k', L, cn, h1, _, _, _, _, _, _, _, h5, h6, _⟩ := h
    simp [blkOf, h1] at hb
    subst hb
    exact ⟨h6, h5⟩
  | dead => rw [ho] at hb; simp [blkOf] at hb
  | gone => rw [ho] at hb; simp [blkOf] at hb
  | far => rw [ho] at hb; simp [blkOf] at hb
  | rfar => rw [ho] at hb; simp [blkOf] at hb

def Cx.written (c : Cx) (k : Nat) (nb : Blk) (b : Nat) (cur : Array Value) : Cx := { c.add k nb (c.ρ k) with w := c.w.setRow b cur }

theorem lookO_written (c : Cx) (k : Nat) (nb : Blk) (b : Nat) (cur : Array Value) : lookO (c.written k nb b cur).own k = nb := by
  rw [show (c.written k nb b cur).own = (c.add k nb (c.ρ k)).own from rfl, lookO_add, if_pos rfl]
theorem ρ_written (c : Cx) (k : Nat) (nb : Blk) (b : Nat) (cur : Array Value) : (c.written k nb b cur).ρ k = c.ρ k := by
  simp [Cx.written, Cx.add]

theorem Fr.written {c : Cx} {k b : Nat} {nb : Blk} {cur : Array Value} (hb : blkOf (lookO c.own k) (c.ρ k) = some b) (hb' : blkOf nb (c.ρ k) = some b) : Fr c (c.written k nb b cur) := by
  refine ⟨by simp [Cx.written, World.setRow], fun j hj ho => ⟨setRow_other c.w b j cur (fun e => ho k (by rw [e]; exact hb)), id, fun i hi => ?_⟩⟩
  have hlo : lookO (c.written k nb b cur).own i = if i = k then nb else lookO c.own i := lookO_add c k nb (c.ρ k) i
  have hρ : (c.written k nb b cur).ρ i = c.ρ i := by
    simp only [Cx.written, Cx.add]; split
    · rename_i e; rw [e]
    · rfl
  rw [hlo, hρ] at hi
  by_cases e : i = k
  · subst e
    rw [if_pos rfl, hb'] at hi
    exact ho i (by rw [hb]; exact hi)
  · rw [if_neg e] at hi
    exact ho i hi

theorem Mem.write {B : Nat} {w0 : World} {S0 : Nat → Prop} {c : Cx} (hm : Mem P B w0 S0 c) {k b : Nat} {nb : Blk} {cur : Array Value} (hb : blkOf (lookO c.own k) (c.ρ k) = some b) (hb' : blkOf nb (c.ρ k) = some b)
    (ht : Turns (lookO c.own k) nb (c.ρ k) (c.ρ k)) (hok : Goes c (c.written k nb b cur) → BlkOk P B (c.written k nb b cur) k) (hnk : notB nb = true := by rfl) : Mem P B w0 S0 (c.written k nb b cur) ∧ Goes c (c.written k nb b cur) := by
  obtain ⟨hnS, hB⟩ := (hm.ok k).notS (ht.notB hnk) hb
  have hoth : ∀ g, g ≠ b → (c.w.setRow b cur).heap[g]? = c.w.heap[g]? := fun g hg => setRow_other c.w b g cur hg
  have hst : Stays c.S c.w c.S (c.w.setRow b cur) := fun g hg => ⟨hg, hoth g (fun e => hnS (e ▸ hg))⟩
  have hlo : ∀ j, lookO (c.written k nb b cur).own j = if j = k then nb else lookO c.own j := lookO_add c k nb (c.ρ k)
  have hρ : ∀ j, (c.written k nb b cur).ρ j = c.ρ j := by
    intro j; simp only [Cx.written, Cx.add]; split
    · rename_i e; rw [e]
    · rfl
  have hg : Goes c (c.written k nb b cur) := ⟨hst, fun j => by
    rw [hlo, hρ]
    by_cases e : j = k
    · subst e; rw [if_pos rfl]; exact ht
    · rw [if_neg e]; exact Turns.refl _ _⟩
  refine ⟨⟨fun j => ?_, fun j j' g hne hj hj' => ?_, ?_, hm.from_, hm.to_, ?_, ?_, fun j => by rw [hρ]; exact hm.one j, hm.frm hg⟩, hg⟩
  · by_cases e : j = k
    · subst e; exact hok hg
    · refine (hm.ok j).keep hg hm.one (by rw [hlo, if_neg e]) (hρ j) fun g hg' => ⟨hoth g (fun e' => ?_), id⟩
      subst e'
      exact hm.apart j k g e hg' hb
  · rw [hlo, hρ] at hj hj'
    have h1 : blkOf (lookO c.own j) (c.ρ j) = some g := by
      by_cases e : j = k
      · subst e; rw [if_pos rfl, hb'] at hj; rw [hb]; exact hj
      · rwa [if_neg e] at hj
    have h2 : blkOf (lookO c.own j') (c.ρ j') = some g := by
      by_cases e : j' = k
      · subst e; rw [if_pos rfl, hb'] at hj'; rw [hb]; exact hj'
      · rwa [if_neg e] at hj'
    exact hm.apart j j' g hne h1 h2
  · intro g hg'
    show g < (c.w.setRow b cur).heap.size
    rw [size_setRow]; exact hm.bound g hg'
  · refine hm.below.trans ⟨rfl, rfl, rfl, ?_, fun g hg' => hoth g (by omega)⟩
    show _ ≤ (c.w.setRow b cur).heap.size
    rw [size_setRow]; exact Nat.le_refl _
  · show B ≤ (c.w.setRow b cur).heap.size
    rw [size_setRow]; exact hm.base

theorem lookO_stay (own : Own) (o : Nat) : lookO (stay own) o = stayB (lookO own o) := by
  induction own with
  | nil => rfl
  | cons p r ih =>
    obtain ⟨s, b⟩ := p
    simp only [stay, List.map_cons, lookO] at ih ⊢
    by_cases h : s = o
    · rw [if_pos h, if_pos h]
    · rw [if_neg h, if_neg h]; exact ih

theorem fcells_vis {c : Cx} {o : Nat} {ty : TypeId} {ds : List D} {T : Nat → Prop} (hl : lookO c.own o = .fcells ty ds) (hk : ∃ b cs, c.ρ o = .pointer (some ⟨b, 0, none⟩) ∧ c.w.heap[b]? = some (.cells cs.toArray ty (0, 0)) ∧ RVs P c ds cs ∧ (∀ v ∈ cs, v.oneCell' = true) ∧ c.S b) (hT : ∀ {b}, c.S b → T b) :
    ∃ b cs, T b ∧ c.w.heap[b]? = some (.cells cs.toArray ty (0, 0)) ∧ RVs P c ds cs ∧ (∀ off v, RV P c (.pt o off) v → v = .pointer (some ⟨b, off, none⟩)) := by
  obtain ⟨b, cs, h1, h2, h3, h4, h5⟩ := hk
  refine ⟨b, cs, hT h5, h2, h3, fun off v hv => ?_⟩
  simp only [RV, hl] at hv
  obtain ⟨b', hb', rfl⟩ := hv
  rw [h1] at hb'
  simp only [Value.pointer.injEq, Option.some.injEq, Addr.mk.injEq] at hb'
  rw [hb'.1]
theorem Vis.stay {B : Nat} {w0 : World} {S0 : Nat → Prop} {c : Cx} (hm : Mem P B w0 S0 c) : Vis P (stay c.own) c c.S := by
  refine ⟨fun _ h => h, fun o e t xs h => ?_, fun o t xs h => ?_, fun o ty ds h => ?_, fun o ty ds h => ?_⟩
  · rw [lookO_stay] at h; cases hl : lookO c.own o <;> rw [hl] at h <;> simp [stayB] at h
  · rw [lookO_stay] at h
    have hk := hm.ok o
    unfold BlkOk at hk
    cases hl : lookO c.own o <;> rw [hl] at h <;> simp [stayB] at h
    rename_i t' xs'
    obtain ⟨rfl, h⟩ := h
    cases h
    simp only [hl] at hk
    refine ⟨hk, fun v hv => ?_⟩
    simp only [RV, hl] at hv
    exact hv
  · rw [lookO_stay] at h
    have hk := hm.ok o
    unfold BlkOk at hk
    cases hl : lookO c.own o <;> rw [hl] at h <;> simp [stayB] at h
    obtain ⟨rfl, rfl⟩ := h
    simp only [hl] at hk
    exact fcells_vis hl hk id
  · rw [lookO_stay] at h; cases hl : lookO c.own o <;> rw [hl] at h <;> simp [stayB] at h

theorem lookO_shown (own : Own) (o : Nat) : lookO (shown own) o = showB (lookO own o) := by
  induction own with
  | nil => rfl
  | cons p r ih =>
    simp only [shown, List.map_cons, lookO] at ih ⊢
    by_cases h : p.1 = o
    · rw [if_pos h, if_pos h]
    · rw [if_neg h, if_neg h]; exact ih
theorem Vis.all {B : Nat} {w0 : World} {S0 : Nat → Prop} {c : Cx} (hm : Mem P B w0 S0 c) : Vis P c.own c (fun b => b < c.w.heap.size) := by
  have hst : Stays c.S c.w (fun b => b < c.w.heap.size) c.w := fun b h => ⟨hm.bound b h, rfl⟩
  refine ⟨hm.bound, fun o e t xs h => ?_, fun o t xs h => ?_, fun o ty ds h => ?_, fun o ty ds h => ?_⟩
  · have hk := hm.ok o
    unfold BlkOk at hk
    simp only [h] at hk
    refine ⟨?_, fun v hv => by simp only [RV, h] at hv; exact hv⟩
    obtain ⟨hz, cs, h1, h2, h3⟩ := hk
    rcases h1.2 with ⟨hv, hn⟩ | ⟨g, cap, cur, hv, hg, hh, hcap, hmax, hsz, htk⟩
    · obtain rfl : xs = [] := List.length_eq_zero_iff.1 hn
      exact ⟨none, 0, by rw [hv]; rfl, Nat.le_refl _, by simp [maxLen], fun hne => absurd rfl hne⟩
    · refine ⟨some ⟨g, 0, none⟩, cap, by rw [hv], hcap, hmax, fun _ => ⟨g, 0, rfl, (Array.getElem?_eq_some_iff.1 hh).1, fun i x hi => ?_⟩⟩
      obtain ⟨es, hes, hin⟩ := h2.get hi
      refine ⟨es, hes.mono hst, fun j v hj => ?_⟩
      have h4 := hin j v hj
      rw [← htk, List.getElem?_take] at h4
      split at h4
      · have h4' : cur[i * t.size + j]? = some v := by simpa using h4
        simp only [Nat.zero_add, World.cell?, hh, Option.isSome_none, Bool.false_eq_true, if_false]
        exact h4'
      · cases h4
  · have hk := hm.ok o
    unfold BlkOk at hk
    simp only [h] at hk
    exact ⟨RdC.mono (t := .sl t) hk hst, fun v hv => by simp only [RV, h] at hv; exact hv⟩
  · have hk := hm.ok o
    unfold BlkOk at hk
    simp only [h] at hk
    exact fcells_vis h hk (hm.bound _)
  · have hk := hm.ok o
    unfold BlkOk at hk
    simp only [h] at hk
    obtain ⟨b, cs, h1, h2, h3, _⟩ := hk
    have he : ∀ b' : Nat, c.ρ o = .pointer (some ⟨b', 0, none⟩) → b' = b := by
      intro b' hb'
      rw [h1] at hb'
      simp only [Value.pointer.injEq, Option.some.injEq, Addr.mk.injEq] at hb'
      exact hb'.1.symm
    refine ⟨b, cs, (Array.getElem?_eq_some_iff.1 h2).1, h2, h3, fun off v hv => ?_, fun base len lo hi p v hv => ?_⟩
    · simp only [RV, h] at hv
      obtain ⟨b', hb', rfl⟩ := hv
      rw [he b' hb']
    · simp only [RV, h] at hv
      obtain ⟨q1, q2, q3, b', hb', rfl⟩ := hv
      rw [he b' hb']
      exact ⟨q1, q2, q3, rfl⟩

theorem Vis.shown {B : Nat} {w0 : World} {S0 : Nat → Prop} {c : Cx} (hm : Mem P B w0 S0 c) : Vis P (Go.Eng.shown c.own) c (fun b => b < c.w.heap.size) := by
  have hv := Vis.all hm
  refine ⟨hv.S, fun o e t xs h => ?_, fun o t xs h => ?_, fun o ty ds h => ?_, fun o ty ds h => ?_⟩
  · rw [lookO_shown] at h
    refine hv.row o e t xs ?_
    cases hl : lookO c.own o <;> rw [hl] at h <;> simp [showB] at h ⊢
    all_goals exact h
  · rw [lookO_shown] at h
    cases hl : lookO c.own o <;> rw [hl] at h <;> simp [showB] at h
    · obtain ⟨rfl, h⟩ := h; cases h; exact hv.frow o _ _ hl
    · obtain ⟨rfl, h⟩ := h; cases h
      have hk := hm.ok o
      unfold BlkOk at hk
      simp only [hl] at hk
      exact ⟨hk.1.mono fun b hb => ⟨(Array.getElem?_eq_some_iff.1 (hk.2 b hb).choose_spec).1, rfl⟩, fun v hv => by simp only [RV, hl] at hv; exact hv⟩
  · rw [lookO_shown] at h
    refine hv.fcells o ty ds ?_
    cases hl : lookO c.own o <;> rw [hl] at h <;> simp [showB] at h ⊢
    all_goals exact h
  · rw [lookO_shown] at h
    refine hv.cells o ty ds ?_
    cases hl : lookO c.own o <;> rw [hl] at h <;> simp [showB] at h ⊢
    all_goals exact h

theorem RV.leafB {c : Cx} (hh : Handles c) {d : D} {v : Value} (h : RV P c d v) (hd : leafB d = true) : v.oneCell' = true := by
  cases d with
  | dat t x =>
    obtain ⟨cs, h1, rfl⟩ := h
    have ht : t.isAgg = false := by simpa [Go.Eng.leafB] using hd
    exact h1.one _ (by rw [h1.leaf ht]; simp [vOf, ht])
  | pt o off => obtain ⟨b, k, rfl⟩ := h.pt_some; rfl
  | arr o off n m => obtain ⟨b, k, rfl⟩ := h.arr_some; rfl
  | arx o base len lo hi p => obtain ⟨b, k, rfl⟩ := h.arx_some; exact arxV_one ..
  | pe o i s => obtain ⟨b, k, rfl⟩ := h.pe_some; rfl
  | own o =>
    simp only [RV] at h
    split at h
    all_goals first | (rw [h]; exact hh _) | exact h.elim | exact h
  | fn f caps => obtain ⟨vs, rfl, _⟩ := h; rfl
  | cst u => rw [show v = _ from h]; exact hd
  | clip t xs => obtain ⟨base, rfl, _⟩ := h; rfl
  | ifc T t x => obtain ⟨cs, rfl, _⟩ := h; rfl
  | agg ds => cases hd
  | tup ds => cases hd
  | gd t w d => cases hd
  | any => cases hd
theorem RVs.leafB {c : Cx} (hh : Handles c) : ∀ {ds : List D} {vs : List Value}, RVs P c ds vs → ds.all Go.Eng.leafB = true → ∀ v ∈ vs, v.oneCell' = true
  | [], vs, h, _, v, hv => by rw [show vs = [] from h] at hv; cases hv
  | d :: r, vs, h, hd, v, hv => by
    obtain ⟨u, us, rfl, h1, h2⟩ := h
    simp only [List.all_cons, Bool.and_eq_true] at hd
    rcases List.mem_cons.1 hv with rfl | hv
    · exact h1.leafB hh hd.1
    · exact h2.leafB hh hd.2 v hv

theorem RV.flat' {c : Cx} (hh : Handles c) {d : D} {v : Value} (h : RV P c d v) (hd : (Go.Eng.flat d).all Go.Eng.leafB = true) : RVs P c (Go.Eng.flat d) v.cells.toList := by
  refine RV.flat hh h ?_
  cases d <;> simp_all [Go.Eng.flat, Go.Eng.leafB]

theorem splice_ok {c : Cx} {ds new : List D} {cs ns : List Value} {k : Nat} (h : RVs P c ds cs) (hn : RVs P c new ns) : RVs P c (splice ds k new) (cs.take k ++ (ns ++ cs.drop (k + ns.length))) := by
  unfold splice
  rw [← hn.length]
  exact (h.take k).append (hn.append (h.drop _))

section
variable {B : Nat} {w0 : World} {S0 : Nat → Prop} {c : Cx} {a : Act} {o : Oper}

theorem run_storeVar (hC : CfgOk P C B w0) {T : TypeId} (hT : kindT C T ≠ .other) {w : World} {b off : Nat} {v : Value} (hs : v.cells.size = sizeT C T) {ty : TypeId} {cur : Array Value} (hb : w.heap[b]? = some (.cells cur ty (0, 0)))
    (hl : off + v.cells.size ≤ cur.size) (h1 : ∀ u ∈ v.cells.toList, u.oneCell' = true) :
    (storeVar T ⟨b, off, none⟩ v).run P w = .ok () (w.setRow b (cur.toList.take off ++ (v.cells.toList ++ cur.toList.drop (off + v.cells.toList.length))).toArray) := by
  unfold storeVar
  simp only [Sem.run_bind, run_sizeOf hC hT, Result.andThen_ok, hs, ne_eq, not_true_eq_false, if_false]
  have := run_storeCells_at P b off ty v.cells.toList 0 cur w hb (by simpa using hl) h1
  rw [this]
  simp [List.append_assoc]

theorem owed_store (hC : CfgOk P C B w0) (hm : Mem P B w0 S0 c) {lk : Operand → D} (hlk : ∀ x, RV P c (lk x) (a.eval x)) {T : TypeId} {x y : Operand} {nxt : Nat} (ho : o.op = .store T x y) {g : Bool} {r : Res}
    (h : stepF C lk c.own nxt o g = some r) : Owed P B w0 S0 c a o r := by
  have hx := hlk x
  have hy := hlk y
  unfold stepF at h
  rw [ho] at h
  simp only at h
  split at h
  · cases h
  split at h
  · rename_i hlen
    split at h
    · rename_i own' hst
      obtain rfl := Option.some.inj h
      have go : ∀ {b off : Nat} {ty : TypeId} {cur : Array Value} {c' : Cx}, a.eval x = .pointer (some ⟨b, off, none⟩) → c.w.heap[b]? = some (.cells cur ty (0, 0)) → (flat (lk y)).all leafB = true → off + (flat (lk y)).length ≤ cur.size →
          (∀ ns : List Value, ns = (a.eval y).cells.toList → RVs P c (flat (lk y)) ns → c'.w = c.w.setRow b (cur.toList.take off ++ (ns ++ cur.toList.drop (off + ns.length))).toArray ∧ c'.own = own' ∧ Mem P B w0 S0 c' ∧ Goes c c' ∧ Fr c c') →
          Owed P B w0 S0 c a o ⟨[], [], .any, own', nxt⟩ := by
        intro b off ty cur c' hv hb hall hsz hc K Q hK
        have hns := hy.flat' hm.one hall
        obtain ⟨h1, h2, h3, h4, h5⟩ := hc _ rfl hns
        have hl : (a.eval y).cells.size = (flat (lk y)).length := by rw [← hns.length]; simp
        unfold Oper.wp execOp
        rw [ho]
        simp only [Instr.storeAt, Instr.sureAddr, hv, Sem.run_bind, Sem.run_pure, Result.andThen_ok]
        rw [run_storeVar hC (T := T) (by obtain ⟨g', hg'⟩ := Option.isSome_iff_exists.1 hlen.2; exact agg_ne hg') (by rw [hl]; exact hlen.1) hb (by rw [hl]; exact hsz) (hns.leafB hm.one hall)]
        simp only [Result.andThen_ok, Oper.upon_skip]
        rw [← h1]
        exact hK undef c' h3 h4 h5 h2 trivial (fun p hp => by cases hp)
      unfold storeD at hst
      split at hst
      · rename_i k off hp
        rw [hp] at hx
        split at hst
        · rename_i ty ds hb
          split at hst
          · rename_i hcond
            obtain rfl := Option.some.inj hst
            have hk := hm.ok k
            unfold BlkOk at hk
            simp only [hb] at hk
            obtain ⟨b, cs, hρ, hheap, hrs, hone, hB, hS⟩ := hk
            simp only [RV, hb] at hx
            obtain ⟨b', hρ', hv⟩ := hx
            rw [hρ] at hρ'
            simp only [Value.pointer.injEq, Option.some.injEq, Addr.mk.injEq] at hρ'
            obtain ⟨rfl, _⟩ := hρ'
            refine go (c' := c.written k (.cells ty (splice ds off (flat (lk y)))) b (cs.take off ++ ((a.eval y).cells.toList ++ cs.drop (off + (a.eval y).cells.toList.length))).toArray) hv hheap hcond.2 (by rw [show cs.toArray.size = cs.length from rfl, hrs.length]; exact hcond.1) ?_
            intro ns hns hrn
            subst hns
            have hm' := Mem.write (P := P) hm (k := k) (b := b) (nb := .cells ty (splice ds off (flat (lk y)))) (cur := (cs.take off ++ ((a.eval y).cells.toList ++ cs.drop (off + (a.eval y).cells.toList.length))).toArray)
              (by rw [hb]; simp [blkOf, hρ]) (by simp [blkOf, hρ]) (by rw [hb]; simp [Turns]) (fun hgo => by
                unfold BlkOk
                rw [lookO_written]
                refine ⟨b, _, by rw [ρ_written]; exact hρ, setRow_heap c.w b _ _ ty _ hheap, RVs.goes hgo hm.one (splice_ok hrs hrn), ?_, hB, hS⟩
                intro u hu
                rcases List.mem_append.1 hu with hu | hu
                · exact hone u (List.mem_of_mem_take hu)
                · rcases List.mem_append.1 hu with hu | hu
                  · exact hrn.leafB hm.one hcond.2 u hu
                  · exact hone u (List.mem_of_mem_drop hu))
            exact ⟨rfl, rfl, hm'.1, hm'.2, Fr.written (k := k) (by rw [hb]; simp [blkOf, hρ]) (by simp [blkOf, hρ])⟩
          · cases hst
        · cases hst
      · rename_i k i sub hp
        rw [hp] at hx
        split at hst
        · rename_i e t xs hb
          split at hst
          · rename_i hcond
            split at hst
            · rename_i x' hga
              obtain rfl := Option.some.inj hst
              simp only [RV, hb] at hx
              obtain ⟨b, n, m, hρ, hv, hi⟩ := hx
              obtain ⟨rfl, cur, cs, hheap, hrd, hcs, hcl, hnm, hcsz, hmx, hB, hS, htk⟩ := row_cells (hm.ok k) hb hρ
              have hzero : 0 < t.size := by
                have hk := hm.ok k; unfold BlkOk at hk; simp only [hb] at hk; exact hk.1
              have hget : xs[i]? = some (xs.getD i t.zero) := by simp [List.getD, hi]
              obtain ⟨es, hes, hin⟩ := hrd.get hget
              have hil : i * t.size + t.size ≤ xs.length * t.size := by
                rw [← Nat.succ_mul]; exact Nat.mul_le_mul_right _ hi
              have hmul : xs.length * t.size ≤ m * t.size := Nat.mul_le_mul_right _ hnm
              have hes' : es = (cs.drop (i * t.size)).take t.size := by
                apply List.ext_getElem?
                intro j
                rw [List.getElem?_take, List.getElem?_drop]
                split
                · rename_i hj
                  have : j < es.length := by rw [hes.length]; exact hj
                  rw [List.getElem?_eq_getElem this]
                  exact (hin j _ (List.getElem?_eq_getElem this)).symm
                · rename_i hj
                  rw [List.getElem?_eq_none]; rw [hes.length]; omega
              refine go (c' := c.written k (.row e t (xs.set i x')) b (cur.toList.take (i * t.size + sub) ++ ((a.eval y).cells.toList ++ cur.toList.drop (i * t.size + sub + (a.eval y).cells.toList.length))).toArray) hv hheap hcond.2 (by rw [hcsz]; omega) ?_
              intro ns hns hrn
              subst hns
              have hnl : (a.eval y).cells.toList.length = (flat (lk y)).length := hrn.length
              have hnew := splice_ok (k := sub) (leaves_ok (fun _ h => h) t hes) hrn
              obtain ⟨c1, c2, hc, hr1, hr2⟩ := gather_ok (Vis.stay hm) t hga hnew
              obtain rfl : c2 = [] := hr2
              rw [List.append_nil] at hc
              have hm' := Mem.write (P := P) hm (k := k) (b := b) (nb := .row e t (xs.set i x')) (cur := (cur.toList.take (i * t.size + sub) ++ ((a.eval y).cells.toList ++ cur.toList.drop (i * t.size + sub + (a.eval y).cells.toList.length))).toArray)
                (by rw [hb]; simp [blkOf, hρ]) (by simp [blkOf, hρ]) (by rw [hb]; simp [Turns]) (fun hgo => by
                  unfold BlkOk
                  rw [lookO_written]
                  have hset := hrd.set hi hr1
                  refine ⟨hzero, _, ⟨?_, .inr ⟨b, m, _, by rw [ρ_written, hρ, List.length_set], hB, setRow_heap c.w b _ _ e _ hheap, by rw [List.length_set]; exact hnm, hmx, ?_, ?_⟩⟩, hset.mono hgo.stays, ?_⟩
                  · exact hset.length
                  · have e1 : (a.eval y).cells.size = (a.eval y).cells.toList.length := by simp
                    have e2 := hcond.1
                    simp only [List.size_toArray, List.length_append, List.length_take, List.length_drop, Array.length_toList, hcsz]
                    omega
                  · rw [List.length_set, ← hc, hes']
                    have := splice_in cur.toList (a.eval y).cells.toList (i * t.size) t.size sub (xs.length * t.size) (by omega) hil (by simp [hcsz]; omega)
                    rw [htk] at this
                    simpa [List.append_assoc] using this
                  · intro g hg'
                    rw [ρ_written, hρ] at hg'
                    simp only [Value.ownBlock, Option.some.injEq] at hg'
                    subst hg'
                    exact hS)
              exact ⟨rfl, rfl, hm'.1, hm'.2, Fr.written (k := k) (by rw [hb]; simp [blkOf, hρ]) (by simp [blkOf, hρ])⟩
            · cases hst
          · cases hst
        · cases hst
      · rename_i k base len i i' hp
        rw [hp] at hx
        split at hst
        · rename_i ty ds kk v hb hflat
          split at hst
          · rename_i ns hns
            split at hst
            · rename_i hbl
              obtain rfl := Option.some.inj hst
              obtain ⟨ty', ds', b, cs, h1, hρ, hheap, hrs, h5, h6, h7, hone, hB, hS⟩ := arxNs_ok hm hns
              rw [hb] at h1
              cases h1
              simp only [RV, hb] at hx
              obtain ⟨q1, q2, q3, b', q4, q5⟩ := hx
              rw [hρ] at q4
              simp only [Value.pointer.injEq, Option.some.injEq, Addr.mk.injEq] at q4
              obtain ⟨rfl, _⟩ := q4
              have hlt := q3 (by trivial)
              obtain ⟨e1, e2⟩ := intsOf_ok h6 ((hrs.drop base).take len)
              have hcl : cs.length = ds.length := hrs.length
              have hlen1 : (flat (lk y)).length = 1 := by rw [hflat]; rfl
              refine go (c' := c.written k (.cells ty (splice ds base (mkInts kk len (ns.set i v)))) b (cs.take (base + i) ++ ((a.eval y).cells.toList ++ cs.drop (base + i + (a.eval y).cells.toList.length))).toArray) q5 hheap (by rw [hflat]; rfl) (by rw [hlen1, show cs.toArray.size = cs.length from rfl, hcl]; omega) ?_
              intro vs hvs hrn
              subst hvs
              rw [hflat] at hrn
              obtain ⟨u, us, hu, hu1, hu2⟩ := hrn
              obtain rfl : us = [] := hu2
              obtain ⟨hv1, hv2⟩ : u = .int kk v ∧ kk.wrap v = v := by
                obtain ⟨cs0, ⟨rfl, hw⟩, rfl⟩ := hu1
                exact ⟨rfl, hw⟩
              subst hv1
              have hmk := mkInts_ok (P := P) (c := c) (kk := kk) (len := len) (l := ns.set i v) (by rw [List.length_set, h5]) (by
                intro n hn
                rcases List.mem_or_eq_of_mem_set hn with hn | rfl
                · exact e2 n hn
                · exact hv2)
              have heq : cs.take (base + i) ++ ((a.eval y).cells.toList ++ cs.drop (base + i + (a.eval y).cells.toList.length)) = cs.take base ++ ((ns.set i v).map (Value.int kk) ++ cs.drop (base + ((ns.set i v).map (Value.int kk)).length)) := by
                rw [hu]
                apply List.ext_getElem?
                intro j
                simp only [List.length_map, List.length_set, h5, List.length_singleton]
                rw [List.getElem?_append, List.getElem?_append, List.getElem?_append, List.getElem?_append]
                simp only [List.length_take, List.length_map, List.length_set, h5, List.length_singleton]
                have b1 : min (base + i) cs.length = base + i := by omega
                have b2 : min base cs.length = base := by omega
                rw [b1, b2]
                by_cases j1 : j < base
                · rw [if_pos (by omega), if_pos j1, List.getElem?_take, List.getElem?_take, if_pos (by omega), if_pos j1]
                · rw [if_neg j1]
                  by_cases j2 : j < base + i
                  · rw [if_pos j2, if_pos (by omega), List.getElem?_take, if_pos j2, List.getElem?_map, List.getElem?_set_ne (by omega)]
                    have := congrArg (fun l => l[j - base]?) e1
                    simp only [List.getElem?_map] at this
                    rw [← this, List.getElem?_take, if_pos (by omega), List.getElem?_drop]
                    congr 1; omega
                  · rw [if_neg j2]
                    by_cases j3 : j = base + i
                    · subst j3
                      rw [if_pos (by omega), if_pos (by omega), List.getElem?_map]
                      have : base + i - base = i := by omega
                      rw [this, List.getElem?_set_self (by omega)]
                      simp
                    · rw [if_neg (by omega)]
                      by_cases j4 : j < base + len
                      · rw [if_pos (by omega), List.getElem?_map, List.getElem?_set_ne (by omega), List.getElem?_drop]
                        have := congrArg (fun l => l[j - base]?) e1
                        simp only [List.getElem?_map] at this
                        rw [← this, List.getElem?_take, if_pos (by omega), List.getElem?_drop]
                        congr 1; omega
                      · rw [if_neg (by omega), List.getElem?_drop, List.getElem?_drop]
                        congr 1; omega
              have hsp := splice_ok (k := base) hrs hmk
              rw [← heq] at hsp
              have hm' := Mem.write (P := P) hm (k := k) (b := b) (nb := .cells ty (splice ds base (mkInts kk len (ns.set i v)))) (cur := (cs.take (base + i) ++ ((a.eval y).cells.toList ++ cs.drop (base + i + (a.eval y).cells.toList.length))).toArray)
                (by rw [hb]; simp [blkOf, hρ]) (by simp [blkOf, hρ]) (by rw [hb]; simp [Turns]) (fun hgo => by
                  unfold BlkOk
                  rw [lookO_written]
                  refine ⟨b, _, by rw [ρ_written]; exact hρ, setRow_heap c.w b _ _ ty _ hheap, RVs.goes hgo hm.one hsp, ?_, hB, hS⟩
                  intro u hu'
                  rcases List.mem_append.1 hu' with hu' | hu'
                  · exact hone u (List.mem_of_mem_take hu')
                  · rcases List.mem_append.1 hu' with hu' | hu'
                    · rw [hu] at hu'
                      rw [List.mem_singleton.1 hu']; rfl
                    · exact hone u (List.mem_of_mem_drop hu'))
              exact ⟨rfl, rfl, hm'.1, hm'.2, Fr.written (k := k) (by rw [hb]; simp [blkOf, hρ]) (by simp [blkOf, hρ])⟩
            · cases hst
          · cases hst
        · cases hst
      · cases hst
    · cases h
  · cases h

end
end Go.Eng
namespace Go.Eng
open Go.RowKit

variable {P : Program} {C : Cfg} {B : Nat} {w0 : World}

theorem run_sizeOf' (hC : CfgOk P C B w0) {T : TypeId} (h : sizeT C T ≠ 0) (w : World) : (sizeOf T).run P w = .ok (sizeT C T) w := by
  unfold sizeT at h ⊢
  cases ha : assoc C.tab T with
  | none => rw [ha] at h; exact absurd rfl h
  | some ti =>
    obtain ⟨i, d, z, hi, hu, hs, _⟩ := hC.tab T ti ha
    simp [sizeOf, typeInfo, hi, hs]

theorem fieldT_ok (hC : CfgOk P C B w0) {T : TypeId} {f off : Nat} {ft : TypeId} (h : fieldT C T f = some (off, ft)) :
    ∃ fields fd, P.underlying T = some (.struct fields) ∧ fields[f]? = some fd ∧ fd.offset = off ∧ fd.type = ft := by
  unfold fieldT at h
  split at h
  · rename_i fs hk
    obtain ⟨i, d, z, _, hu, _, _, _, _, hd⟩ := tabOk hC hk (by simp)
    obtain ⟨fields, rfl, rfl⟩ := kind_st hd
    rw [List.getElem?_map] at h
    cases hf : fields.toList[f]? with
    | none => rw [hf] at h; cases h
    | some fd =>
      rw [hf] at h
      simp only [Option.map_some, Option.some.injEq, Prod.mk.injEq] at h
      exact ⟨fields, fd, hu, by simpa using hf, h.1, h.2⟩
  · cases h

theorem subAt_ok {S : Nat → Prop} {w : World} : ∀ (t : Ty) {off size : Nat} {u : Ty} {g : t.El → u.El} {x : t.El} {es : List Value} {b o : Nat}, subAt t off size = some ⟨u, g⟩ → RdC P t S w x es → Lies w b o es →
    ∃ fs, RdC P u S w (g x) fs ∧ Lies w b (o + off) fs ∧ u.size = size := by
  have base : ∀ (t : Ty) {off size : Nat} {u : Ty} {g : t.El → u.El} {x : t.El} {es : List Value} {b o : Nat}, (if off = 0 ∧ t.size = size then some (⟨t, fun x => x⟩ : Σ u : Ty, t.El → u.El) else none) = some ⟨u, g⟩ → RdC P t S w x es → Lies w b o es →
      ∃ fs, RdC P u S w (g x) fs ∧ Lies w b (o + off) fs ∧ u.size = size := by
    intro t off size u g x es b o h hr hl
    split at h
    · rename_i h0
      obtain ⟨rfl, hs⟩ := h0
      cases h
      exact ⟨es, hr, hl, hs⟩
    · cases h
  intro t
  induction t with
  | cons t u' iht ihu =>
    intro off size u g x es b o h hr hl
    obtain ⟨c1, c2, rfl, h1, h2⟩ := hr
    have hl1 : Lies w b o c1 := fun j v hj => hl j v (by rw [List.getElem?_append_left (List.getElem?_eq_some_iff.1 hj).1]; exact hj)
    have hl2 : Lies w b (o + t.size) c2 := fun j v hj => by
      have := hl (t.size + j) v (by rw [← h1.length, List.getElem?_append_right (by omega)]; simpa using hj)
      rwa [← Nat.add_assoc] at this
    unfold subAt at h
    split at h
    · rename_i h0
      obtain ⟨rfl, hs⟩ := h0
      cases h
      exact ⟨c1, h1, hl1, hs⟩
    · split at h
      · split at h
        · rename_i v f hv
          cases h
          exact iht hv h1 hl1
        · cases h
      · rename_i h0
        split at h
        · rename_i v f hv
          cases h
          obtain ⟨fs, h3, h4, h5⟩ := ihu hv h2 hl2
          exact ⟨fs, h3, by rwa [show o + t.size + (off - t.size) = o + off by omega] at h4, h5⟩
        · cases h
  | unit => intro off size u g x es b o h hr hl; exact base _ h hr hl
  | int k => intro off size u g x es b o h hr hl; exact base (.int k) h hr hl
  | bool => intro off size u g x es b o h hr hl; exact base .bool h hr hl
  | str => intro off size u g x es b o h hr hl; exact base .str h hr hl
  | err => intro off size u g x es b o h hr hl; exact base .err h hr hl
  | fp => intro off size u g x es b o h hr hl; exact base .fp h hr hl
  | sl t _ => intro off size u g x es b o h hr hl; exact base (.sl t) h hr hl
  | ptr t _ => intro off size u g x es b o h hr hl; exact base (.ptr t) h hr hl
  | fn a r _ _ => intro off size u g x es b o h hr hl; exact base (.fn a r) h hr hl

section
variable {B : Nat} {w0 : World} {S0 : Nat → Prop} {c : Cx} {a : Act} {o : Oper}

theorem RV.pt_add {c : Cx} {k off n b m : Nat} (h : RV P c (.pt k off) (.pointer (some ⟨b, m, none⟩))) : RV P c (.pt k (off + n)) (.pointer (some ⟨b, m + n, none⟩)) := by
  simp only [RV] at h ⊢
  split at h
  · rename_i hb
    obtain ⟨b', h1, h2⟩ := h
    simp only [Value.pointer.injEq, Option.some.injEq, Addr.mk.injEq] at h2
    obtain ⟨rfl, rfl, _⟩ := h2
    exact ⟨b, h1, rfl⟩
  · obtain ⟨b', h1, h2⟩ := h
    simp only [Value.pointer.injEq, Option.some.injEq, Addr.mk.injEq] at h2
    obtain ⟨rfl, rfl, _⟩ := h2
    exact ⟨b, h1, rfl⟩
  · obtain ⟨b', h1, h2⟩ := h
    simp only [Value.pointer.injEq, Option.some.injEq, Addr.mk.injEq] at h2
    obtain ⟨rfl, rfl, _⟩ := h2
    exact ⟨b, h1, rfl⟩
  · exact h.elim
  · exact ⟨_, _, rfl⟩
theorem RV.pe_add {c : Cx} {k i s n b m : Nat} (h : RV P c (.pe k i s) (.pointer (some ⟨b, m, none⟩))) : RV P c (.pe k i (s + n)) (.pointer (some ⟨b, m + n, none⟩)) := by
  simp only [RV] at h ⊢
  split at h
  · obtain ⟨b', x, y, h1, h2, h3⟩ := h
    simp only [Value.pointer.injEq, Option.some.injEq, Addr.mk.injEq] at h2
    obtain ⟨rfl, rfl, _⟩ := h2
    exact ⟨b, x, y, h1, by rw [Nat.add_assoc], h3⟩
  · exact h.elim
  · exact ⟨_, _, rfl⟩

theorem owed_fieldAddr (hC : CfgOk P C B w0) (hm : Mem P B w0 S0 c) {lk : Operand → D} (hlk : ∀ x, RV P c (lk x) (a.eval x)) {T : TypeId} {x : Operand} {f : Nat} {nxt : Nat} (ho : o.op = .fieldAddr T x f) {g : Bool} {r : Res}
    (h : stepF C lk c.own nxt o g = some r) (hs : ∀ p ∈ r.side, p) : Owed P B w0 S0 c a o r := by
  have hx := hlk x
  unfold stepF at h
  rw [ho] at h
  simp only at h
  split at h
  · rename_i off ft hf
    split at h
    · cases h
    · rename_i hsz
      obtain ⟨fields, fd, hu, hfd, rfl, rfl⟩ := fieldT_ok hC hf
      have run : ∀ {b k : Nat}, a.eval x = .pointer (some ⟨b, k, none⟩) → (execOp a.eval o).run P c.w = .ok (.value (.pointer (some ⟨b, k + fd.offset, none⟩))) c.w := by
        intro b k hv
        unfold execOp
        rw [ho]
        simp only [Instr.fieldAt, underlying, hv, Instr.sureAddr, fieldPlace, Sem.run_bind, run_program, Sem.run_pure, Result.andThen_ok, hu, hfd, run_sizeOf' hC hsz, hsz, if_false, add_none]
      unfold withS at h
      split at h
      · rename_i s d hd
        obtain rfl := Option.some.inj h
        unfold fieldAddrD at hd
        split at hd
        · rename_i k off' hp
          simp only [Option.some.injEq, Prod.mk.injEq] at hd
          obtain ⟨rfl, rfl⟩ := hd
          rw [hp] at hx
          obtain ⟨b, m, hv⟩ := hx.pt_some
          rw [hv] at hx
          exact owed_same hm (run hv) hx.pt_add
        · rename_i k i s' hp
          simp only [Option.some.injEq, Prod.mk.injEq] at hd
          obtain ⟨rfl, rfl⟩ := hd
          rw [hp] at hx
          obtain ⟨b, m, hv⟩ := hx.pe_some
          rw [hv] at hx
          exact owed_same hm (run hv) hx.pe_add
        · rename_i t p hp
          rw [hp] at hx
          split at hd
          · rename_i u gg hsub
            simp only [Option.some.injEq, Prod.mk.injEq] at hd
            obtain ⟨rfl, rfl⟩ := hd
            have h2 := hs _ (List.mem_singleton.2 rfl)
            obtain ⟨y, rfl⟩ := Option.isSome_iff_exists.1 h2
            obtain ⟨cs, hrd, hv⟩ := hx
            obtain ⟨b, k, es, rfl, hS, hes, hlie⟩ := hrd
            obtain ⟨fs, h3, h4, _⟩ := subAt_ok t hsub hes hlie
            exact owed_same hm (run hv) ⟨_, ⟨b, k + fd.offset, fs, rfl, hS, h3, h4⟩, rfl⟩
          · cases hd
        · cases hd
      · cases h
  · cases h

theorem run_part (hC : CfgOk P C B w0) {T : TypeId} {g : Bool} (hg : aggT C T = some g) {w : World} {cs : List Value} {off : Nat} {d : D} {ds : List D} (hcut : cut g off (sizeT C T) ds = some d) (hr : RVs P c ds cs) :
    ∃ v, (part T cs.toArray off).run P w = .ok v w ∧ RV P c d v := by
  unfold part
  simp only [Sem.run_bind, run_isAgg hC hg, Result.andThen_ok]
  cases g with
  | true =>
    simp only [cut] at hcut
    split at hcut
    · obtain rfl := Option.some.inj hcut
      simp only [if_true, Sem.run_bind, run_sizeOf hC (agg_ne hg), Result.andThen_ok, Sem.run_pure]
      refine ⟨_, rfl, _, ?_, (hr.drop off).take (sizeT C T)⟩
      congr 1
      apply Array.ext'
      simp [List.take_drop]
    · cases hcut
  | false =>
    simp only [cut] at hcut
    obtain ⟨v, hv, hr2⟩ := hr.get hcut
    refine ⟨v, ?_, hr2⟩
    simp [hv]

theorem owed_field (hC : CfgOk P C B w0) (hm : Mem P B w0 S0 c) {lk : Operand → D} (hlk : ∀ x, RV P c (lk x) (a.eval x)) {T : TypeId} {x : Operand} {f : Nat} {nxt : Nat} (ho : o.op = .field T x f) {g : Bool} {r : Res}
    (h : stepF C lk c.own nxt o g = some r) : Owed P B w0 S0 c a o r := by
  have hx := hlk x
  unfold stepF at h
  rw [ho] at h
  simp only at h
  split at h
  · rename_i off ft hf
    obtain ⟨fields, fd, hu, hfd, rfl, rfl⟩ := fieldT_ok hC hf
    split at h
    · rename_i g' hg
      have run : ∀ {ds : List D} {cs : List Value}, RVs P c ds cs → a.eval x = .agg cs.toArray → withD c.own nxt (cut g' fd.offset (sizeT C fd.type) ds) = some r → Owed P B w0 S0 c a o r := by
        intro ds cs hr hv h
        unfold withD at h
        split at h
        · rename_i d hcut
          obtain rfl := Option.some.inj h
          obtain ⟨v, hrun, hrv⟩ := run_part (c := c) (w := c.w) hC hg hcut hr
          refine owed_same hm ?_ hrv
          unfold execOp
          rw [ho]
          simp only [Instr.field, underlying, hv, asAgg, Sem.run_bind, run_program, Sem.run_pure, Result.andThen_ok, hu, hfd, hrun]
        · cases h
      split at h
      · rename_i ds hp
        rw [hp] at hx
        obtain ⟨cs, hv, hr⟩ := hx
        exact run hr hv h
      · rename_i t y hp
        rw [hp] at hx
        split at h
        · rename_i hagg
          obtain ⟨cs, hr, hv⟩ := hx
          unfold vOf at hv
          rw [if_pos hagg] at hv
          exact run (leaves_ok (fun _ h => h) t hr) hv h
        · cases h
      · cases h
    · cases h
  · cases h

end
end Go.Eng
namespace Go.Eng
open Go.RowKit

variable {P : Program} {C : Cfg} {B : Nat} {w0 : World}
section
variable {B : Nat} {w0 : World} {S0 : Nat → Prop} {c : Cx} {a : Act} {o : Oper}

theorem S_false (S : Nat → Prop) : (fun b => S b ∨ False) = S := by funext b; simp

theorem Mem.block (hm : Mem P B w0 S0 c) (ob : Obj) : Mem P B w0 S0 { c with w := c.w.alloc ob } ∧ Goes c { c with w := c.w.alloc ob } := by
  have := hm.grow (w' := c.w.alloc ob) ((Below.refl _ _).alloc (Nat.le_refl _) _) (fun _ => False) (fun b h => h.elim)
  simpa only [S_false] using this

theorem Fr.newBlock {k : Nat} {b : Blk} {v : Value} {ob : Obj} (hv : ∀ g, blkOf b v = some g → c.w.heap.size ≤ g) : Fr c (Cx.add { c with w := c.w.alloc ob } k b v) :=
  (Fr.grow' ((Below.refl _ _).alloc (Nat.le_refl _) _)).add fun g hg => .inl (hv g hg)

theorem Mem.newVar (hm : Mem P B w0 S0 c) {k : Nat} (hk : lookO c.own k = .gone) {ty : TypeId} {ds : List D} {cs : List Value} (hr : RVs P c ds cs) (h1 : ∀ v ∈ cs, v.oneCell' = true) :
    Mem P B w0 S0 (Cx.add { c with w := c.w.alloc (.cells cs.toArray ty) } k (.cells ty ds) (.pointer (some ⟨c.w.heap.size, 0, none⟩))) ∧
    Goes c (Cx.add { c with w := c.w.alloc (.cells cs.toArray ty) } k (.cells ty ds) (.pointer (some ⟨c.w.heap.size, 0, none⟩))) := by
  obtain ⟨hm1, hg1⟩ := hm.block (.cells cs.toArray ty)
  have ht : Turns (lookO c.own k) (.cells ty ds) (c.ρ k) (.pointer (some ⟨c.w.heap.size, 0, none⟩)) := by rw [hk]; trivial
  have hg2 := Goes.add (c := { c with w := c.w.alloc (.cells cs.toArray ty) }) (o := k) (b := .cells ty ds) (v := .pointer (some ⟨c.w.heap.size, 0, none⟩)) ht
  refine ⟨hm1.add ht rfl ?_ ?_, hg1.trans hg2⟩
  · unfold BlkOk
    rw [lookO_add, if_pos rfl]
    refine ⟨c.w.heap.size, cs, by simp [Cx.add], ?_, RVs.goes (hg1.trans hg2) hm.one hr, h1, hm.base, fun hs => ?_⟩
    · exact heap_alloc_new c.w _
    · exact absurd (hm.bound _ hs) (Nat.lt_irrefl _)
  · intro j g hj hg hj'
    simp only [blkOf, Option.some.injEq] at hg
    subst hg
    exact absurd (hm.blk_lt j _ hj') (Nat.lt_irrefl _)

theorem Mem.newRow (hm : Mem P B w0 S0 c) {k : Nat} (hk : lookO c.own k = .gone) {e : TypeId} {t : Ty} {xs : List t.El} {cs : List Value} (hz : 0 < t.size) (hr : RdL P t c.S c.w xs cs) (hl : xs.length ≤ maxLen) :
    Mem P B w0 S0 (Cx.add { c with w := c.w.alloc (.cells cs.toArray e) } k (.row e t xs) (.slice (some ⟨c.w.heap.size, 0, none⟩) xs.length xs.length)) ∧
    Goes c (Cx.add { c with w := c.w.alloc (.cells cs.toArray e) } k (.row e t xs) (.slice (some ⟨c.w.heap.size, 0, none⟩) xs.length xs.length)) := by
  obtain ⟨hm1, hg1⟩ := hm.block (.cells cs.toArray e)
  have ht : Turns (lookO c.own k) (.row e t xs) (c.ρ k) (.slice (some ⟨c.w.heap.size, 0, none⟩) xs.length xs.length) := by rw [hk]; trivial
  have hg2 := Goes.add (c := { c with w := c.w.alloc (.cells cs.toArray e) }) (o := k) (b := .row e t xs) (v := .slice (some ⟨c.w.heap.size, 0, none⟩) xs.length xs.length) ht
  refine ⟨hm1.add ht rfl ?_ ?_, hg1.trans hg2⟩
  · unfold BlkOk
    rw [lookO_add, if_pos rfl]
    refine ⟨hz, cs, ⟨hr.length, .inr ⟨c.w.heap.size, xs.length, cs.toArray, by simp [Cx.add], hm.base, heap_alloc_new c.w _, Nat.le_refl _, hl, by simp [hr.length], ?_⟩⟩, hr.mono (hg1.trans hg2).stays, ?_⟩
    · rw [← hr.length]; simp
    · intro b hb hs
      simp only [Cx.add, if_true, Value.ownBlock, Option.some.injEq] at hb
      subst hb
      exact absurd (hm.bound _ hs) (Nat.lt_irrefl _)
  · intro j g hj hg hj'
    simp only [blkOf, Option.some.injEq] at hg
    subst hg
    exact absurd (hm.blk_lt j _ hj') (Nat.lt_irrefl _)

theorem RV.at_cells {c : Cx} {k : Nat} {ty : TypeId} {ds : List D} {b off : Nat} (hk : lookO c.own k = .cells ty ds) (hρ : c.ρ k = .pointer (some ⟨b, 0, none⟩)) : RV P c (.pt k off) (.pointer (some ⟨b, off, none⟩)) := by
  simp only [RV, hk]; exact ⟨b, hρ, rfl⟩
theorem RV.at_row {c : Cx} {k : Nat} {e : TypeId} {t : Ty} {xs : List t.El} (hk : lookO c.own k = .row e t xs) : RV P c (.own k) (c.ρ k) := by
  simp only [RV, hk]

theorem constD_ok {c : Cx} (v : Value) (h : leafB (constD v) = true) : RV P c (constD v) v ∧ v.oneCell' = true := by
  unfold constD at h ⊢
  split at h
  · split at h
    · rename_i hw
      simp only [hw, if_true]; exact ⟨.of_int hw, rfl⟩
    · cases h
  · exact ⟨.of_bool _, rfl⟩
  · split at h
    · rename_i hw
      simp only [hw, if_true]; exact ⟨⟨_, ⟨rfl, hw⟩, rfl⟩, rfl⟩
    · cases h
  · exact ⟨rfl, h⟩
theorem constDs_ok {c : Cx} : ∀ (vs : List Value), (vs.map constD).all leafB = true → RVs P c (vs.map constD) vs ∧ ∀ v ∈ vs, v.oneCell' = true
  | [], _ => ⟨rfl, fun v hv => by cases hv⟩
  | v :: r, h => by
    simp only [List.map_cons, List.all_cons, Bool.and_eq_true] at h
    obtain ⟨h1, h2⟩ := constD_ok (c := c) v h.1
    obtain ⟨h3, h4⟩ := constDs_ok (c := c) r h.2
    refine ⟨⟨v, r, rfl, h1, h3⟩, fun u hu => ?_⟩
    rcases List.mem_cons.1 hu with rfl | hu
    · exact h2
    · exact h4 u hu

theorem zeroT_ok (hC : CfgOk P C B w0) {T : TypeId} {ds : List D} (h : zeroT C T = some ds) : ∃ i z, P.info? T = some i ∧ i.zero = some z ∧ ds = z.cells.toList.map constD ∧ i.size = sizeT C T := by
  unfold zeroT at h
  unfold sizeT
  cases ha : assoc C.tab T with
  | none => rw [ha] at h; cases h
  | some ti =>
    rw [ha] at h
    obtain ⟨i, d, z, h1, h2, h3, h4, h5, h6, h7, _, _⟩ := hC.tab T ti ha
    simp only [Option.some.injEq] at h
    exact ⟨i, z, h1, h5, by rw [h6]; exact h.symm, h3⟩

theorem Vis.none0 (c : Cx) : Vis P [] c c.S := ⟨fun _ h => h, fun o e t xs h => (by cases h), fun o t xs h => (by cases h), fun o ty ds h => (by cases h), fun o ty ds h => (by cases h)⟩

theorem gatherL_ok {c : Cx} {t : Ty} : ∀ {n : Nat} {ds : List D} {xs : List t.El} {cs : List Value}, gatherL t n ds = some xs → RVs P c ds cs → RdL P t c.S c.w xs cs ∧ xs.length = n
  | 0, ds, xs, cs, h, hr => by
    cases ds with
    | nil => cases h; exact ⟨hr, rfl⟩
    | cons d r => cases h
  | n + 1, ds, xs, cs, h, hr => by
    unfold gatherL at h
    split at h
    · rename_i x r hg
      split at h
      · rename_i ys hy
        cases h
        obtain ⟨c1, c2, e, h1, h2⟩ := gather_ok (Vis.none0 c) t hg hr
        obtain ⟨h3, h4⟩ := gatherL_ok hy h2
        exact ⟨⟨c1, c2, e, h1, h3⟩, by rw [List.length_cons, h4]⟩
      · cases h
    · cases h

theorem owed_alloc (hC : CfgOk P C B w0) (hm : Mem P B w0 S0 c) {lk : Operand → D} {T : TypeId} {nxt : Nat} (ho : o.op = .alloc T) {g : Bool} {r : Res}
    (h : stepF C lk c.own nxt o g = some r) (hf : r.nxt = nxt ∨ lookO c.own nxt = .gone) : Owed P B w0 S0 c a o r := by
  unfold stepF at h
  rw [ho] at h
  simp only at h
  split at h
  · cases h
  split at h
  · rename_i r' hr'
    obtain rfl := Option.some.inj h
    unfold allocArr at hr'
    split at hr'
    · rename_i n e hk
      split at hr'
      · rename_i hn
        split at hr'
        · rename_i t ht
          split at hr'
          · rename_i ds hz
            split at hr'
            · rename_i hc
              obtain ⟨hpos, hsz, hall⟩ := hc
              split at hr'
              · rename_i xs0 hg
                split at hr'
                case h_2 => cases hr'
                rename_i xs hrep
                obtain rfl := repOf_eq hrep
                obtain rfl := Option.some.inj hr'
                have hfr : lookO c.own nxt = .gone := hf.resolve_left (by simp)
                obtain ⟨i, z, hi, hiz, rfl, _⟩ := zeroT_ok hC hz
                obtain ⟨h1, h2⟩ := constDs_ok (P := P) (c := c) _ hall
                obtain ⟨hrl, hlen⟩ := gatherL_ok hg h1
                obtain ⟨hm', hg'⟩ := hm.newRow hfr (e := T) hpos hrl (by rw [hlen]; simp only [maxLen]; omega)
                intro K Q hK
                unfold Oper.wp execOp
                rw [ho]
                simp only [Instr.alloc, zeroValue, typeInfo, newVar, newRow, Sem.run_bind, run_program, Sem.run_pure, Result.andThen_ok, hi, hiz, run_newObj, World.alloc_eq, Oper.upon_value]
                have e1 : z.cells.toList.toArray = z.cells := by simp
                rw [e1] at hm' hg'
                refine hK _ _ hm' hg' (Fr.newBlock (by intro g hg; simp [blkOf] at hg; omega)) rfl ?_ (fun p hp => by cases hp)
                simp only [RV, lookO_add, if_true]
                exact ⟨c.w.heap.size, xs.length, xs.length, by simp [Cx.add], by simp, by omega⟩
              · cases hr'
            · cases hr'
          · cases hr'
        · cases hr'
      · cases hr'
    · cases hr'
  split at h
  · rename_i ds hz
    split at h
    · rename_i hall
      obtain rfl := Option.some.inj h
      have hfr : lookO c.own nxt = .gone := hf.resolve_left (by simp)
      obtain ⟨i, z, hi, hiz, rfl, _⟩ := zeroT_ok hC hz
      obtain ⟨h1, h2⟩ := constDs_ok (P := P) (c := c) _ hall
      obtain ⟨hm', hg'⟩ := hm.newVar hfr (ty := T) h1 h2
      intro K Q hK
      unfold Oper.wp execOp
      rw [ho]
      simp only [Instr.alloc, zeroValue, typeInfo, newVar, newRow, Sem.run_bind, run_program, Sem.run_pure, Result.andThen_ok, hi, hiz, run_newObj, World.alloc_eq, Oper.upon_value]
      refine hK _ _ hm' hg' (Fr.newBlock (by intro g hg; simp [blkOf] at hg; omega)) rfl ?_ (fun p hp => by cases hp)
      refine RV.at_cells (ty := T) (ds := z.cells.toList.map constD) ?_ ?_
      · rw [lookO_add, if_pos rfl]
      · simp [Cx.add]
    · cases h
  · cases h

theorem owed_box (hm : Mem P B w0 S0 c) {lk : Operand → D} (hlk : ∀ x, RV P c (lk x) (a.eval x)) {T : TypeId} {x : Operand} {nxt : Nat} (ho : o.op = .box T x) {g : Bool} {r : Res}
    (h : stepF C lk c.own nxt o g = some r) (hf : r.nxt = nxt ∨ lookO c.own nxt = .gone) : Owed P B w0 S0 c a o r := by
  have hx := hlk x
  unfold stepF at h
  rw [ho] at h
  simp only at h
  split at h
  · cases h
  split at h
  · rename_i hall
    obtain rfl := Option.some.inj h
    have hfr : lookO c.own nxt = .gone := hf.resolve_left (by simp)
    have hns := hx.flat' hm.one hall
    obtain ⟨hm', hg'⟩ := hm.newVar hfr (ty := T) hns (hns.leafB hm.one hall)
    intro K Q hK
    unfold Oper.wp execOp
    rw [ho]
    simp only [Instr.box, newVar, newRow, Sem.run_bind, Sem.run_pure, Result.andThen_ok, run_newObj, World.alloc_eq, Oper.upon_value]
    have e : (a.eval x).cells.toList.toArray = (a.eval x).cells := by simp
    rw [e] at hm' hg'
    refine hK _ _ hm' hg' (Fr.newBlock (by intro g hg; simp [blkOf] at hg; omega)) rfl ?_ (fun p hp => by cases hp)
    refine RV.at_cells (ty := T) (ds := flat (lk x)) ?_ ?_
    · rw [lookO_add, if_pos rfl]
    · simp [Cx.add]
  · cases h

theorem owed_indexAddr (hC : CfgOk P C B w0) (hm : Mem P B w0 S0 c) {lk : Operand → D} (hlk : ∀ x, RV P c (lk x) (a.eval x)) {T : TypeId} {x y : Operand} {nxt : Nat} (ho : o.op = .indexAddr T x y) {g : Bool} {r : Res}
    (h : stepF C lk c.own nxt o g = some r) (hs : ∀ p ∈ r.side, p) : Owed P B w0 S0 c a o r := by
  have hx := hlk x
  have hy := hlk y
  unfold stepF at h
  rw [ho] at h
  simp only at h
  split at h
  · rename_i kk n hn
    have hyv : a.eval y = .int kk n := by
      unfold intD at hn
      split at hn
      · rename_i k' n' hl
        simp only [Option.some.injEq, Prod.mk.injEq] at hn
        obtain ⟨rfl, rfl⟩ := hn
        rw [hl] at hy
        exact hy.int.1
      · cases hn
    split at h
    · rename_i e hk
      obtain ⟨i, d, z, _, hu, _, _, _, _, hd⟩ := tabOk hC hk (by simp)
      have hu := (kind_sl hd) ▸ hu
      split at h
      · cases h
      rename_i hze
      have run : ∀ {b off len cap : Nat}, a.eval x = .slice (some ⟨b, off, none⟩) len cap → 0 ≤ n → n < (len : Int) → (execOp a.eval o).run P c.w = .ok (.value (.pointer (some ⟨b, off + n.toNat * sizeT C e, none⟩))) c.w := by
        intro b off len cap hv h0 h1
        unfold execOp
        rw [ho]
        simp only [Instr.indexAt, hyv, hv, asIntOf, underlying, Sem.run_bind, run_program, Sem.run_pure, Result.andThen_ok, hu]
        have h2 : 0 ≤ n ∧ n < (len : Int) := ⟨h0, h1⟩
        simp only [h2, and_self, if_true, Sem.run_bind, run_sizeOf' hC hze, Result.andThen_ok, Sem.run_pure, add_none]
      unfold withS at h
      split at h
      · rename_i s d' hd'
        obtain rfl := Option.some.inj h
        have ro : ∀ {t : Ty} {xs : List t.El}, RdC P (.sl t) c.S c.w xs [a.eval x] → t.size = sizeT C e → 0 ≤ n → n < (xs.length : Int) → Owed P B w0 S0 c a o ⟨s, [], .dat (.ptr t) (some (xs.getD n.toNat t.zero)), c.own, nxt⟩ := by
          intro t xs hrd hsz h0 h1
          obtain ⟨base, cap, hv, h2, h3, h4⟩ := hrd
          have hlt : n.toNat < xs.length := by omega
          have hne : xs ≠ [] := by intro e; rw [e] at hlt; simp at hlt
          obtain ⟨b, off, rfl, hS, hel⟩ := h4 hne
          have hget : xs[n.toNat]? = some (xs.getD n.toNat t.zero) := by simp [List.getD, hlt]
          obtain ⟨es, hes, hlie⟩ := hel _ _ hget
          rw [hsz] at hlie
          exact owed_same hm (run (List.cons.inj hv).1 h0 h1) ⟨_, ⟨b, _, es, rfl, hS, hes, hlie⟩, rfl⟩
        unfold indexAddrD at hd'
        split at hd'
        · rename_i k hp
          rw [hp] at hx
          split at hd'
          · rename_i e' t xs hb
            split at hd'
            · rename_i hsz
              simp only [Option.some.injEq, Prod.mk.injEq] at hd'
              obtain ⟨rfl, rfl⟩ := hd'
              have h0 : 0 ≤ n := hs (cn (0 ≤ n)) (by simp)
              have h1 : n < (xs.length : Int) := hs (cn (n < (xs.length : Int))) (by simp)
              simp only [RV, hb] at hx
              have hk := hm.ok k
              unfold BlkOk at hk
              simp only [hb] at hk
              obtain ⟨_, cs, hown, _⟩ := hk
              rcases hown.2 with ⟨hv, hnn⟩ | ⟨gg, cap, cur, hv, _⟩
              · exfalso; omega
              · refine owed_same hm (run (by rw [hx]; exact hv) h0 h1) ?_
                simp only [RV, hb]
                exact ⟨gg, _, cap, hv, by rw [hsz]; simp, by omega⟩
            · cases hd'
          · rename_i t xs hb
            split at hd'
            · rename_i hsz
              simp only [Option.some.injEq, Prod.mk.injEq] at hd'
              obtain ⟨rfl, rfl⟩ := hd'
              have hk := hm.ok k
              unfold BlkOk at hk
              simp only [hb] at hk
              simp only [RV, hb] at hx
              rw [← hx] at hk
              exact ro hk hsz (hs _ List.mem_cons_self) (hs _ (List.mem_cons_of_mem _ List.mem_cons_self))
            · cases hd'
          · cases hd'
        · rename_i t xs hp
          rw [hp] at hx
          split at hd'
          · rename_i hsz
            simp only [Option.some.injEq, Prod.mk.injEq] at hd'
            obtain ⟨rfl, rfl⟩ := hd'
            exact ro (hx.leaf rfl) hsz (hs _ List.mem_cons_self) (hs _ (List.mem_cons_of_mem _ List.mem_cons_self))
          · cases hd'
        · rename_i t xs hp
          rw [hp] at hx
          split at hd'
          · rename_i hsz
            simp only [Option.some.injEq, Prod.mk.injEq] at hd'
            obtain ⟨rfl, rfl⟩ := hd'
            obtain ⟨base, hv, hrd⟩ := hx
            exact ro hrd hsz (hs _ List.mem_cons_self) (hs _ (List.mem_cons_of_mem _ List.mem_cons_self))
          · cases hd'
        · rename_i k off len cp hp
          rw [hp] at hx
          split at hd'
          · rename_i hn
            simp only [Option.some.injEq, Prod.mk.injEq] at hd'
            obtain ⟨rfl, rfl⟩ := hd'
            simp only [RV] at hx
            cases hb : lookO c.own k <;> simp only [hb] at hx
            all_goals first
              | exact hx.elim
              | (obtain ⟨b, h1, h2⟩ := hx
                 refine owed_same hm (run h2 hn.1 hn.2) ?_
                 simp only [RV, hb]
                 first
                   | exact ⟨b, h1, rfl⟩
                   | exact ⟨b, _, rfl⟩)
              | (obtain ⟨b, kk, h2⟩ := hx
                 refine owed_same hm (run h2 hn.1 hn.2) ?_
                 simp only [RV, hb]
                 exact ⟨b, _, rfl⟩)
          · cases hd'
        · rename_i k base len lo hi hp
          rw [hp] at hx
          split at hd'
          · rename_i hsz
            simp only [Option.some.injEq, Prod.mk.injEq] at hd'
            obtain ⟨rfl, rfl⟩ := hd'
            have h0 : 0 ≤ n := hs (cn (0 ≤ n)) (by simp)
            have h1 : n < ((hi - lo : Nat) : Int) := hs (cn (n < ((hi - lo : Nat) : Int))) (by simp)
            simp only [RV] at hx
            obtain ⟨q1, q2, _, q4⟩ := hx
            have hne : ¬ lo = len := by omega
            have hv : ∀ b kk : Nat, a.eval x = arxV b kk len lo hi false → a.eval x = .slice (some ⟨b, kk + lo, none⟩) (hi - lo) (len - lo) := by
              intro b kk h
              rw [h]
              simp [arxV, hne]
            have hr : ∀ b kk : Nat, Value.pointer (some ⟨b, kk + lo + n.toNat * sizeT C e, none⟩) = arxV b kk len (lo + n.toNat) (lo + n.toNat) true := by
              intro b kk
              rw [hsz]
              simp [arxV]
              first | done | omega
            cases hb : lookO c.own k <;> simp only [hb] at q4
            all_goals first
              | exact q4.elim
              | (obtain ⟨b, h2, h3⟩ := q4
                 refine owed_same hm (run (hv b base h3) h0 h1) ?_
                 simp only [RV, hb]
                 first
                   | exact ⟨by omega, by omega, fun _ => by omega, b, h2, hr b base⟩
                   | exact ⟨by omega, by omega, fun _ => by omega, b, base, hr b base⟩)
              | (obtain ⟨b, kk, h3⟩ := q4
                 refine owed_same hm (run (hv b kk h3) h0 h1) ?_
                 simp only [RV, hb]
                 exact ⟨by omega, by omega, fun _ => by omega, b, kk, hr b kk⟩)
          · cases hd'
        · cases hd'
      · cases h
    · rename_i len e hk
      obtain ⟨i, d, z, _, hu, _, _, _, _, hd⟩ := tabOk hC hk (by simp)
      have hu := (kind_arr hd) ▸ hu
      split at h
      · rename_i k hp
        rw [hp] at hx
        split at h
        · rename_i T' t xs hb
          split at h
          · rename_i hc
            obtain ⟨rfl, hsz, hze⟩ := hc
            obtain rfl := Option.some.inj h
            have hxl : List.length xs = len := hs (cn (List.length xs = len)) (by simp)
            have h0 : 0 ≤ n := hs (cn (0 ≤ n)) (by simp)
            have h1 : n < (len : Int) := hs (cn (n < (len : Int))) (by simp)
            simp only [RV, hb] at hx
            obtain ⟨b, p, q, hρ, hv, _⟩ := hx
            refine owed_same hm (v := .pointer (some ⟨b, n.toNat * t.size + 0, none⟩)) ?_ ?_
            · unfold execOp
              rw [ho]
              simp only [Instr.indexAt, Instr.sureAddr, hyv, hv, asIntOf, underlying, Sem.run_bind, run_program, Sem.run_pure, Result.andThen_ok, hu]
              have h2 : 0 ≤ n ∧ n < (len : Int) := ⟨h0, h1⟩
              simp only [h2, and_self, if_true, Sem.run_bind, run_sizeOf' hC hze, Result.andThen_ok, Sem.run_pure, add_none, hsz]
              simp
            · simp only [RV, hb]
              exact ⟨b, p, q, hρ, rfl, by omega⟩
          · cases h
        · cases h
      · rename_i k off v hp
        rw [hp] at hx
        split at h
        · rename_i hc
          obtain rfl := Option.some.inj h
          obtain ⟨b, m, hv⟩ := hx.pt_some
          rw [hv] at hx
          refine owed_same hm ?_ hx.pt_add
          unfold execOp
          rw [ho]
          simp only [Instr.indexAt, Instr.sureAddr, hyv, hv, asIntOf, underlying, Sem.run_bind, run_program, Sem.run_pure, Result.andThen_ok, hu]
          have h2 : 0 ≤ n ∧ n < (len : Int) := ⟨hc.1, hc.2.1⟩
          simp only [h2, and_self, if_true, Sem.run_bind, run_sizeOf' hC hc.2.2, Result.andThen_ok, Sem.run_pure, add_none]
        · cases h
      · rename_i k off hp _
        rw [hp] at hx
        split at h
        · rename_i hsz
          obtain rfl := Option.some.inj h
          have h0 : 0 ≤ n := hs (cn (0 ≤ n)) (by simp)
          have h1 : n < (len : Int) := hs (cn (n < (len : Int))) (by simp)
          have run : ∀ {b m : Nat}, a.eval x = .pointer (some ⟨b, m, none⟩) → (execOp a.eval o).run P c.w = .ok (.value (arxV b m len n.toNat n.toNat true)) c.w := by
            intro b m hv
            unfold execOp
            rw [ho]
            simp only [Instr.indexAt, Instr.sureAddr, hyv, hv, asIntOf, underlying, Sem.run_bind, run_program, Sem.run_pure, Result.andThen_ok, hu]
            have h2 : 0 ≤ n ∧ n < (len : Int) := ⟨h0, h1⟩
            simp only [h2, and_self, if_true, Sem.run_bind, run_sizeOf' hC (by rw [hsz]; decide : sizeT C e ≠ 0), Result.andThen_ok, Sem.run_pure, add_none, hsz]
            simp [arxV]
          simp only [RV] at hx
          cases hb : lookO c.own k <;> simp only [hb] at hx
          all_goals first
            | exact hx.elim
            | (obtain ⟨b, h2, h3⟩ := hx
               refine owed_same hm (run h3) ?_
               simp only [RV, hb]
               first
                 | exact ⟨by omega, by omega, fun _ => by omega, b, h2, rfl⟩
                 | exact ⟨by omega, by omega, fun _ => by omega, b, off, rfl⟩)
            | (obtain ⟨b, kk, h3⟩ := hx
               refine owed_same hm (run h3) ?_
               simp only [RV, hb]
               exact ⟨by omega, by omega, fun _ => by omega, b, kk, rfl⟩)
        · cases h
      · cases h
    · cases h
  · cases h

end
end Go.Eng
