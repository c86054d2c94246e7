import PyProof.Rows.All
import Wide.All
import OpenK.AllK
import Wide.FinOn
import HandS.ForExc
import HandS.Comp
import HandS.Dict
import HandS.Iter
import HandS.Text
import HandS.Walk
import HandS.Deep
import HandS.IsInst
import HandS.Wide
import HandS.TupAny
import HandS.TupMul
import HandS.CallSlots
import HandS.Lambda
import HandS.HeadHook1
import HandS.Style
import HandS.ForMost
import HandS.RevTup
import HandS.SortKw
import HandS.Conv
import KE.SortData
import HandS.Zip
import KE.GoesMore
import HandS.WordsDict
import KE.SortKeyHeap
import HandS.ExcField
import HandS.Defaults
import HandS.ExcInit
import HandS.Words
import HandS.WordsExc
import HandS.Head0
import HandS.Head1
import HandS.Head2
import HandS.HeadEnd
import HandS.HeadHook2
import HandS.HeadWalk
import PySem.Challenge.RW_stillends_k01_inner_texts_and_rows
import KE.KStateDown
set_option Elab.async false
set_option linter.all false
set_option maxRecDepth 100000
set_option maxHeartbeats 4000000
set_option linter.all false
/-! Mp1: values, slots, the small language and its evaluator. Plain Lean. -/
namespace Mp

inductive PVm where
  | non | bl (b : Bool) | int (i : Int) | str (s : List Nat) | tup (l : List PVm) | lst (l : List PVm) | rol (l : List PVm) | ref (n : Nat)
instance : Inhabited PVm := ⟨.non⟩

mutual
def PVm.beq : PVm → PVm → Bool
  | .non, .non => true
  | .bl a, .bl b => a == b
  | .int a, .int b => a == b
  | .str a, .str b => a == b
  | .tup a, .tup b => PVm.beqL a b
  | .lst a, .lst b => PVm.beqL a b
  | .rol a, .rol b => PVm.beqL a b
  | .ref a, .ref b => a == b
  | _, _ => false
def PVm.beqL : List PVm → List PVm → Bool
  | [], [] => true
  | a :: as, b :: bs => PVm.beq a b && PVm.beqL as bs
  | _, _ => false
end
mutual
theorem PVm.beq_eq : ∀ a b : PVm, PVm.beq a b = true ↔ a = b
  | .non, b => by cases b <;> simp [PVm.beq]
  | .bl _, b => by cases b <;> simp [PVm.beq]
  | .int _, b => by cases b <;> simp [PVm.beq]
  | .str _, b => by cases b <;> simp [PVm.beq]
  | .ref _, b => by cases b <;> simp [PVm.beq]
  | .tup l, b => by
    cases b <;> simp [PVm.beq]
    exact PVm.beqL_eq l _
  | .lst l, b => by
    cases b <;> simp [PVm.beq]
    exact PVm.beqL_eq l _
  | .rol l, b => by
    cases b <;> simp [PVm.beq]
    exact PVm.beqL_eq l _
theorem PVm.beqL_eq : ∀ a b : List PVm, PVm.beqL a b = true ↔ a = b
  | [], b => by cases b <;> simp [PVm.beqL]
  | a :: as, b => by
    cases b with
    | nil => simp [PVm.beqL]
    | cons c cs => simp [PVm.beqL, PVm.beq_eq a c, PVm.beqL_eq as cs]
end
instance : DecidableEq PVm := fun a b => decidable_of_iff _ (PVm.beq_eq a b)

/-- a mutable object -/
inductive MOm where
  | lst (l : List PVm)
  | dic (l : List (PVm × PVm))
  | dit (l : List (PVm × PVm))
  | tbl (n : List Nat)
  deriving DecidableEq

/-- a local name's state: unset, a value, an object of its own, an object lent by the caller, a caught exception -/
inductive Slotm where
  | no | val (v : PVm) | own (o : MOm) | lent (o : MOm) | exc (c : Nat) (a : List PVm)
  deriving DecidableEq

structure Sm where
  env : List Slotm
  hp : List MOm

/-- an expression's outcome: a value, a new object, the object of a slot -/
inductive RVm where
  | val (v : PVm) | own (o : MOm) | at (i : Nat)

structure Exm where
  cls : Nat
  args : List PVm

inductive Resm (α : Type) where
  | stuck
  | err (x : Exm) (st : Sm)
  | ok (a : α) (st : Sm)

def Resm.bind {α β : Type} (r : Resm α) (f : α → Sm → Resm β) : Resm β :=
  match r with
  | .stuck => .stuck
  | .err x st => .err x st
  | .ok a st => f a st
@[simp] theorem Resm.bind_ok {α β : Type} (a : α) (st : Sm) (f : α → Sm → Resm β) : Resm.bind (.ok a st) f = f a st := rfl
@[simp] theorem Resm.bind_err {α β : Type} (x : Exm) (st : Sm) (f : α → Sm → Resm β) : Resm.bind (.err x st) f = .err x st := rfl
@[simp] theorem Resm.bind_stuck {α β : Type} (f : α → Sm → Resm β) : Resm.bind .stuck f = .stuck := rfl

/-- what an outcome shows -/
inductive Viewm where
  | p (v : PVm) | m (o : MOm)

def look (r : RVm) (st : Sm) : Option Viewm :=
  match r with
  | .val (.ref n) => (st.hp[n]?).map Viewm.m
  | .val v => some (.p v)
  | .own o => some (.m o)
  | .at i => match st.env[i]? with
    | some (.own o) => some (.m o)
    | some (.lent o) => some (.m o)
    | some (.val (.ref n)) => (st.hp[n]?).map Viewm.m
    | some (.val v) => some (.p v)
    | _ => none

/-- an outcome made a value for good: its list is frozen -/
def fixR (r : RVm) (st : Sm) : Resm PVm :=
  match r with
  | .val v => .ok v st
  | .own (.lst l) => .ok (.lst l) st
  | .own _ => .stuck
  | .at i => match st.env[i]? with
    | some (.own (.lst l)) => .ok (.lst l) { st with env := st.env.set i (.val (.lst l)) }
    | some (.val v) => .ok v st
    | _ => .stuck
def fixAll : List RVm → Sm → Resm (List PVm)
  | [], st => .ok [] st
  | r :: rs, st => (fixR r st).bind fun v st => (fixAll rs st).bind fun vs st => .ok (v :: vs) st

/-! ### the language -/
inductive BOp where | add | sub | mul | fdiv | mod | pow
inductive COp where | eq | ne | lt | le | gt | ge | isin | notin | isN | notN
inductive Tym where | int | str | bool | tuple | list | dict | non
  deriving DecidableEq
inductive Bim where | len | int | list | tuple | isi (t : Tym) | max2 | min2 | ord | abs | sum | sorted
inductive Mem where | append | extend | pop | pop0 | join | startswith
/-- a target -/
inductive Tgtm where | v (i : Nat) | t (l : List Tgtm)

mutual
inductive CE where
  | var (i : Nat)
  | cst (v : PVm)
  | esc (i : Nat)
  | tup (es : CEs)
  | lst (es : CEs)
  | bin (op : BOp) (a b : CE)
  | neg (a : CE)
  | cmp (op : COp) (a b : CE)
  | chain (o1 o2 : COp) (a b c : CE)
  | and (a b : CE)
  | or (a b : CE)
  | not (a : CE)
  | ite (c a b : CE)
  | idx (a i : CE)
  | slc (a lo hi : CE)
  | rev (a : CE)
  | call (f : Nat) (args : CEs) (perm : List Nat)
  | bi (b : Bim) (args : CEs)
  | meth (m : Mem) (r : CE) (args : CEs)
  | comp (e : CE) (t : Tgtm) (it : CI) (c : CE) (w : List Nat)
  | excf (i k : Nat)
  | dnew (t : Bool)
  | dget (d k : CE)
  | din (neg : Bool) (k d : CE)
  | dget2 (d k x : CE)
  | srt (t : Nat) (n : List Nat) (a : CE)
inductive CEs where
  | nil
  | cons (e : CE) (es : CEs)
inductive CI where
  | seq (e : CE)
  | rng (as : CEs)
  | enum (as : CEs)
  | zip (as : CEs)
end

/-- what a clause gives back: a written value, a field of the exception -/
inductive Hitm where
  | cst (v : PVm) | fld (k : Nat)
mutual
inductive CS where
  | expr (e : CE)
  | asg (t : Tgtm) (e : CE)
  | par (is : List Nat) (es : CEs)
  | aug (op : BOp) (i : Nat) (e : CE)
  | setI (a i e : CE)
  | ret (e : CE)
  | retN
  | pass
  | brk
  | cont
  | ite (c : CE) (a b : CSs)
  | whl (c : CE) (b : CSs)
  | loop (t : Tgtm) (it : CI) (b : CSs)
  | tr (b : CSs) (c i : Nat) (k : Nat) (hs : List Hitm)
  | raise (c : Nat) (args : CEs)
  | dput (d k e : CE)
inductive CSs where
  | nil
  | cons (s : CS) (r : CSs)
end

/-! ### values -/
def b2i (b : Bool) : Int := if b then 1 else 0

mutual
def PVm.noref : PVm → Bool
  | .ref _ => false
  | .rol _ => false
  | .tup l => PVm.norefL l
  | .lst l => PVm.norefL l
  | _ => true
def PVm.norefL : List PVm → Bool
  | [] => true
  | a :: as => PVm.noref a && PVm.norefL as
end
mutual
def PVm.depth : PVm → Nat
  | .tup l => PVm.depthL l + 1
  | .lst l => PVm.depthL l + 1
  | _ => 0
def PVm.depthL : List PVm → Nat
  | [] => 0
  | a :: as => max (PVm.depth a) (PVm.depthL as)
end
mutual
/-- Python's == -/
def PVm.eqv : PVm → PVm → Bool
  | .non, .non => true
  | .bl a, .bl b => a == b
  | .bl a, .int j => b2i a == j
  | .int i, .bl b => i == b2i b
  | .int a, .int b => a == b
  | .str a, .str b => a == b
  | .tup a, .tup b => PVm.eqvL a b
  | .lst a, .lst b => PVm.eqvL a b
  | _, _ => false
def PVm.eqvL : List PVm → List PVm → Bool
  | [], [] => true
  | a :: as, b :: bs => PVm.eqv a b && PVm.eqvL as bs
  | _, _ => false
end
/-- may be compared -/
def PVm.cmpOk (a : PVm) : Bool := a.noref && decide (a.depth ≤ 60)

/-- a view as a value that may be compared -/
def Viewm.pv : Viewm → Option PVm
  | .p v => some v
  | .m (.lst l) => some (.lst l)
  | .m _ => none
def Viewm.lstOf : Viewm → Option (List PVm)
  | .p (.lst l) => some l
  | .m (.lst l) => some l
  | _ => none
def Viewm.seqOf : Viewm → Option (List PVm)
  | .p (.lst l) => some l
  | .p (.tup l) => some l
  | .m (.lst l) => some l
  | .p (.rol l) => some l
  | _ => none
def truth : Viewm → Option Bool
  | .p .non => some false
  | .p (.bl b) => some b
  | .p (.int i) => some (i != 0)
  | .p (.str s) => some (!s.isEmpty)
  | .p (.tup l) => some (!l.isEmpty)
  | .p (.lst l) => some (!l.isEmpty)
  | .p (.rol l) => some (!l.isEmpty)
  | .m (.lst l) => some (!l.isEmpty)
  | .m (.dic l) => some (!l.isEmpty)
  | _ => none

/-- the place of index i among n -/
def ixN (n : Nat) (i : Int) : Option Nat :=
  if 0 ≤ i then (if i < n then some i.toNat else none) else if -(n : Int) ≤ i then some (i + n).toNat else none
def atI {α : Type} (xs : List α) (i : Int) : Option α := (ixN xs.length i).bind fun j => xs[j]?
/-- a slice's bound -/
def sIx (n d : Nat) : Option Int → Nat
  | none => d
  | some v => if v < 0 then (v + n).toNat else min v.toNat n
def cut {α : Type} (xs : List α) (lo hi : Option Int) : List α :=
  (xs.drop (sIx xs.length 0 lo)).take (sIx xs.length xs.length hi - sIx xs.length 0 lo)

/-- a product that is taken -/
def mulOk (i j : Int) : Bool :=
  decide (i.natAbs < 2 ^ 64) || decide (j.natAbs < 2 ^ 64) || decide (i.natAbs.log2 + j.natAbs.log2 < 1000000)
def rep {α : Type} (k : Int) (l : List α) : List α := (List.replicate k.toNat l).flatten
def repOk (k : Int) (n : Nat) : Bool := decide (-(2 ^ 63) ≤ k) && decide (k < 2 ^ 63) && decide (n * k.toNat ≤ 16777216)

def lstAdd (x y : Option (List PVm)) : Option RVm :=
  match x, y with
  | some a, some b => if a.length + b.length ≤ 16777216 then some (.own (.lst (a ++ b))) else none
  | _, _ => none
def addV (x y : Viewm) : Option RVm :=
  match x with
  | .p (.int a) => (match y with
    | .p (.int b) => some (.val (.int (a + b)))
    | _ => none)
  | .p (.str a) => (match y with
    | .p (.str b) => if a.length + b.length ≤ 16777216 then some (.val (.str (a ++ b))) else none
    | _ => none)
  | .p (.tup a) => (match y with
    | .p (.tup b) => if a.length + b.length ≤ 16777216 then some (.val (.tup (a ++ b))) else none
    | _ => none)
  | x => lstAdd x.lstOf y.lstOf
def subV (x y : Viewm) : Option RVm :=
  match x, y with
  | .p (.int a), .p (.int b) => some (.val (.int (a - b)))
  | _, _ => none
def lstMul (x : Option (List PVm)) (k : Int) : Option RVm :=
  match x with
  | some a => if repOk k a.length then some (.own (.lst (rep k a))) else none
  | _ => none
def mulV (x y : Viewm) : Option RVm :=
  match y with
  | .p (.int k) => (match x with
    | .p (.int a) => if mulOk a k then some (.val (.int (a * k))) else none
    | .p (.str a) => if repOk k a.length then some (.val (.str (rep k a))) else none
    | .p (.tup a) => if -(2 ^ 63) ≤ k ∧ k ≤ 1000 ∧ a.length ≤ 1000 then some (.val (.tup (rep k a))) else none
    | x => lstMul x.lstOf k)
  | _ => none
def fdivV (x y : Viewm) : Option RVm :=
  match x, y with
  | .p (.int a), .p (.int b) => if 0 < b ∧ b.natAbs.log2 < 9000 then some (.val (.int (a / b))) else none
  | _, _ => none
def modV (x y : Viewm) : Option RVm :=
  match x, y with
  | .p (.int a), .p (.int b) => if 0 < b then some (.val (.int (a % b))) else none
  | _, _ => none
def powV (x y : Viewm) : Option RVm :=
  match x, y with
  | .p (.int a), .p (.int b) => if 0 ≤ b ∧ b ≤ 1000000 ∧ a.natAbs < 2 ^ 64 then some (.val (.int (a ^ b.toNat))) else none
  | _, _ => none
def binV (op : BOp) (x y : Viewm) : Option RVm :=
  match op with
  | .add => addV x y
  | .sub => subV x y
  | .mul => mulV x y
  | .fdiv => fdivV x y
  | .mod => modV x y
  | .pow => powV x y

/-- Python's < of texts -/
def strLt (a b : List Nat) : Bool := decide (a < b)

/-- c in t, texts -/
def subStr (c t : List Nat) : Bool := (List.range (t.length + 1)).any fun i => (t.drop i).take c.length == c

def eqO (x y : Option PVm) : Option Bool :=
  match x, y with
  | some a, some b => if a.cmpOk && b.cmpOk then some (a.eqv b) else none
  | _, _ => none
def ltO (x y : Viewm) : Option Bool :=
  match x, y with
  | .p (.int a), .p (.int b) => some (decide (a < b))
  | .p (.str a), .p (.str b) => some (strLt a b)
  | _, _ => none
def leO (x y : Viewm) : Option Bool :=
  match x, y with
  | .p (.int a), .p (.int b) => some (decide (a ≤ b))
  | _, _ => none
def inSeq (x : Option PVm) (y : Option (List PVm)) : Option Bool :=
  match x, y with
  | some a, some l => if a.cmpOk && (PVm.lst l).cmpOk then some (l.any fun z => z.eqv a) else none
  | _, _ => none
def inO (x y : Viewm) : Option Bool :=
  match y with
  | .p (.str t) => (match x with
    | .p (.str [c]) => some (decide (c ∈ t))
    | _ => none)
  | y => inSeq x.pv y.seqOf
def isNon : Viewm → Bool
  | .p .non => true
  | _ => false
def cmpV (op : COp) (x y : Viewm) : Option Bool :=
  match op with
  | .eq => eqO x.pv y.pv
  | .ne => (eqO x.pv y.pv).map (!·)
  | .lt => ltO x y
  | .le => leO x y
  | .gt => ltO y x
  | .ge => leO y x
  | .isin => inO x y
  | .notin => (inO x y).map (!·)
  | .isN => some (isNon x)
  | .notN => some (!isNon x)

def idxV (x : Viewm) (i : Viewm) : Option PVm :=
  match i with
  | .p (.int i) => (match x with
    | .p (.str s) => (atI s i).map fun c => .str [c]
    | x => x.seqOf.bind fun l => atI l i)
  | _ => none

def partOf : Viewm → Option (Option Int)
  | .p .non => some none
  | .p (.int i) => some (some i)
  | _ => none
def slcV (x : Viewm) (l h : Option Int) : Option RVm :=
  match x with
  | .p (.str s) => some (.val (.str (cut s l h)))
  | .p (.tup s) => some (.val (.tup (cut s l h)))
  | x => x.lstOf.map fun s => .own (.lst (cut s l h))
def revV (x : Viewm) : Option RVm :=
  x.lstOf.map fun s => .own (.lst s.reverse)

def tyName : Viewm → Option Tym
  | .p (.int _) => some .int
  | .p (.bl _) => some .bool
  | .p (.str _) => some .str
  | .p (.tup _) => some .tuple
  | .p (.lst _) => some .list
  | .p (.rol _) => some .list
  | .p .non => some .non
  | .m (.lst _) => some .list
  | .m (.dic _) => some .dict
  | _ => none
def isTy (t : Tym) (u : Tym) : Bool := t == u || (t == .int && u == .bool)

/-- all ints -/
def intsOf : List PVm → Option (List Int)
  | [] => some []
  | .int i :: r => (intsOf r).map (i :: ·)
  | _ => none
def strsOf : List PVm → Option (List (List Nat))
  | [] => some []
  | .str i :: r => (strsOf r).map (i :: ·)
  | _ => none
def joinS (sep : List Nat) : List (List Nat) → List Nat
  | [] => []
  | [x] => x
  | x :: y :: r => x ++ sep ++ joinS sep (y :: r)

def lenV : Viewm → Option Nat
  | .p (.str s) => some s.length
  | .m (.dic l) => some l.length
  | x => x.seqOf.map List.length
def bi1 (b : Bim) (x : Viewm) : Option RVm :=
  match b with
  | .len => (lenV x).map fun (n : Nat) => RVm.val (.int (n : Int))
  | .int => (match x with
    | .p (.int i) => some (.val (.int i))
    | .p (.bl k) => some (.val (.int (b2i k)))
    | _ => none)
  | .list => (match x with
    | .m (.dic l) => some (.own (.lst (l.map (·.1))))
    | x => x.seqOf.map fun l => .own (.lst l))
  | .max2 => (x.lstOf.bind intsOf).bind fun l => (match l with
    | [] => none
    | a :: r => some (.val (.int (r.foldl (fun m y => if y > m then y else m) a))))
  | .min2 => (x.lstOf.bind intsOf).bind fun l => (match l with
    | [] => none
    | a :: r => some (.val (.int (r.foldl (fun m y => if y < m then y else m) a))))
  | .tuple => x.seqOf.map fun l => .val (.tup l)
  | .isi t => (tyName x).map fun u => .val (.bl (isTy t u))
  | .ord => (match x with
    | .p (.str [c]) => some (.val (.int c))
    | _ => none)
  | .abs => (match x with
    | .p (.int a) => some (.val (.int (if a < 0 then -a else a)))
    | _ => none)
  | .sum => (x.seqOf.bind intsOf).map fun l => .val (.int l.sum)
  | .sorted => (x.lstOf.bind strsOf).map fun l => .own (.lst ((l.mergeSort fun a b => decide (a ≤ b)).map .str))
def bi2 (b : Bim) (x y : Viewm) : Option RVm :=
  match b with
  | .max2 => (match x, y with
    | .p (.int a), .p (.int b) => some (.val (.int (if b > a then b else a)))
    | _, _ => none)
  | .min2 => (match x, y with
    | .p (.int a), .p (.int b) => some (.val (.int (if b < a then b else a)))
    | _, _ => none)
  | _ => none
def biV (b : Bim) (xs : List Viewm) : Option RVm :=
  match xs with
  | [x] => bi1 b x
  | [x, y] => bi2 b x y
  | _ => none

/-- the receiver's object is written -/
def putO (r : RVm) (o : MOm) (st : Sm) : Option Sm :=
  match r with
  | .val (.ref n) => if n < st.hp.length then some { st with hp := st.hp.set n o } else none
  | .val _ => none
  | .own _ => none
  | .at i => match st.env[i]? with
    | some (.own _) => some { st with env := st.env.set i (.own o) }
    | some (.lent _) => some { st with env := st.env.set i (.lent o) }
    | some (.val (.ref n)) => if n < st.hp.length then some { st with hp := st.hp.set n o } else none
    | _ => none

/-- a method's receiver -/
def recvOk (m : Mem) (u : Option Viewm) : Bool :=
  match m, u with
  | .append, some (.m (.lst _)) => true
  | .extend, some (.m (.lst _)) => true
  | .pop, some (.m (.lst _)) => true
  | .pop0, some (.m (.lst _)) => true
  | .join, some (.p (.str _)) => true
  | .startswith, some (.p (.str _)) => true
  | _, _ => false
def meAppend (r x : RVm) (st : Sm) : Resm RVm :=
  (fixR x st).bind fun v st => match look r st with
    | some (.m (.lst l)) => if l.length < 16777216 then (match putO r (.lst (l ++ [v])) st with
        | some st => .ok (.val .non) st
        | none => .stuck) else .stuck
    | _ => .stuck
def meExtend (r x : RVm) (st : Sm) : Resm RVm :=
  match look r st, (look x st).bind Viewm.lstOf with
  | some (.m (.lst l)), some ys => if l.length + ys.length ≤ 16777216 then (match putO r (.lst (l ++ ys)) st with
      | some st => .ok (.val .non) st
      | none => .stuck) else .stuck
  | _, _ => .stuck
def mePop (r : RVm) (st : Sm) : Resm RVm :=
  match look r st with
  | some (.m (.lst l)) => (match l.getLast? with
    | some y => (match putO r (.lst l.dropLast) st with
      | some st => .ok (.val y) st
      | none => .stuck)
    | none => .stuck)
  | _ => .stuck
def mePop0 (r x : RVm) (st : Sm) : Resm RVm :=
  match look r st, x with
  | some (.m (.lst (y :: l))), .val (.int 0) => (match putO r (.lst l) st with
    | some st => .ok (.val y) st
    | none => .stuck)
  | _, _ => .stuck
def meJoin (r x : RVm) (st : Sm) : Resm RVm :=
  match look r st, (look x st).bind fun v => v.seqOf.bind strsOf with
  | some (.p (.str sep)), some l => if (l.map List.length).sum + l.length * sep.length ≤ 16777216 then .ok (.val (.str (joinS sep l))) st else .stuck
  | _, _ => .stuck
def meStarts (r x : RVm) (st : Sm) : Resm RVm :=
  match look r st, look x st with
  | some (.p (.str s)), some (.p (.str t)) => .ok (.val (.bl (t.isPrefixOf s))) st
  | _, _ => .stuck
def me1 (m : Mem) (r x : RVm) (st : Sm) : Resm RVm :=
  match m with
  | .append => meAppend r x st
  | .extend => meExtend r x st
  | .pop0 => mePop0 r x st
  | .join => meJoin r x st
  | .startswith => meStarts r x st
  | _ => .stuck
def meR (m : Mem) (r : RVm) (xs : List RVm) (st : Sm) : Resm RVm :=
  match xs with
  | [] => (match m with
    | .pop => mePop r st
    | _ => .stuck)
  | [x] => me1 m r x st
  | _ => .stuck

/-! ### the evaluator -/
inductive CRes where
  | stuck
  | err (x : Exm) (sl : List Slotm) (hp : List MOm)
  | ok (r : RVm) (sl : List Slotm) (hp : List MOm)
abbrev CallEnv := Nat → List Slotm → List MOm → CRes

/-- arguments as the callee's slots, with the slots that are lent -/
def slotsOf : List RVm → Sm → Nat → Option (List Slotm × List (Nat × Nat))
  | [], _, _ => some ([], [])
  | r :: rs, st, j => match slotsOf rs st (j + 1) with
    | none => none
    | some (ss, ls) => match r with
      | .val v => some (.val v :: ss, ls)
      | .own o => some (.own o :: ss, ls)
      | .at i => match st.env[i]? with
        | some (.own o) => some (.lent o :: ss, (j, i) :: ls)
        | some (.lent o) => some (.lent o :: ss, (j, i) :: ls)
        | some (.val v) => some (.val v :: ss, ls)
        | _ => none
/-- what was lent comes back -/
def backAll : List (Nat × Nat) → List Slotm → List Slotm → Option (List Slotm)
  | [], _, env => some env
  | (j, i) :: ls, fin, env => match fin[j]?, env[i]? with
    | some (.lent o), some (.own _) => backAll ls fin (env.set i (.own o))
    | some (.lent o), some (.lent _) => backAll ls fin (env.set i (.lent o))
    | _, _ => none
def callR (C : CallEnv) (f : Nat) (rs : List RVm) (st : Sm) : Resm RVm :=
  match slotsOf rs st 0 with
  | none => .stuck
  | some (ss, ls) => if (ls.map (·.2)).Nodup then
      match C f ss st.hp with
      | .stuck => .stuck
      | .err x fin hp => (match backAll ls fin st.env with
        | some env => .err x ⟨env, hp⟩
        | none => .stuck)
      | .ok r fin hp => (match backAll ls fin st.env with
        | some env => .ok r ⟨env, hp⟩
        | none => .stuck)
    else .stuck

/-- a value stored at a target -/
def sets (i : Nat) (s : Slotm) (st : Sm) : Option Sm :=
  match st.env[i]? with
  | some (.lent _) => none
  | some _ => some { st with env := st.env.set i s }
  | none => none
mutual
def bindT : Tgtm → PVm → Sm → Option Sm
  | .v i, v, st => sets i (.val v) st
  | .t ts, v, st => match v with
    | .tup l => bindTs ts l st
    | _ => none
def bindTs : List Tgtm → List PVm → Sm → Option Sm
  | [], [], st => some st
  | t :: ts, v :: vs, st => match bindT t v st with
    | some st => bindTs ts vs st
    | none => none
  | _, _, _ => none
end

/-- what is walked: the items; the slots whose lists must stay -/
structure Itmm where
  items : List PVm
  deps : List (Nat × List PVm)
def depOk (st : Sm) (d : Nat × List PVm) : Bool :=
  match st.env[d.1]? with
  | some (.own (.lst l)) => l == d.2
  | some (.lent (.lst l)) => l == d.2
  | _ => false
def depsOk (ds : List (Nat × List PVm)) (st : Sm) : Bool := ds.all (depOk st)
/-- a list or tuple that is walked; whether it is a tuple -/
def seqIt (r : RVm) (st : Sm) : Option (Bool × Itmm) :=
  match r with
  | .at i => match st.env[i]? with
    | some (.own (.lst l)) => some (false, ⟨l, [(i, l)]⟩)
    | some (.lent (.lst l)) => some (false, ⟨l, [(i, l)]⟩)
    | some (.val (.lst l)) => some (false, ⟨l, []⟩)
    | some (.val (.tup l)) => some (true, ⟨l, []⟩)
    | some (.val (.rol l)) => some (false, ⟨l, []⟩)
    | _ => none
  | .own (.lst l) => some (false, ⟨l, []⟩)
  | .val (.lst l) => some (false, ⟨l, []⟩)
  | .val (.tup l) => some (true, ⟨l, []⟩)
  | .val (.rol l) => some (false, ⟨l, []⟩)
  | _ => none

inductive Flm where
  | nx | brk | cont | ret (r : RVm)

def forL (ds : List (Nat × List PVm)) (b : PVm → Sm → Resm Flm) : List PVm → Sm → Resm Flm
  | [], st => if depsOk ds st then .ok .nx st else .stuck
  | x :: xs, st => if depsOk ds st then (b x st).bind fun fl st' => match fl with
      | .nx => forL ds b xs st'
      | .cont => forL ds b xs st'
      | .brk => .ok .nx st'
      | .ret r => .ok (.ret r) st'
    else .stuck
def compL (ds : List (Nat × List PVm)) (b : PVm → Sm → Resm (Option PVm)) : List PVm → List PVm → Sm → Resm (List PVm)
  | [], acc, st => if depsOk ds st then .ok acc st else .stuck
  | x :: xs, acc, st => if depsOk ds st then (b x st).bind fun o st' => match o with
      | some v => if acc.length < 16777216 then compL ds b xs (acc ++ [v]) st' else .stuck
      | none => compL ds b xs acc st'
    else .stuck
/-- the comprehension's names are wiped -/
def wipeS : List Nat → List Slotm → List Slotm
  | [], env => env
  | i :: is, env => (wipeS is env).set i .no
/-- .. and set back -/
def unwipe (old : List Slotm) : List Nat → List Slotm → List Slotm
  | [], env => env
  | i :: is, env => (unwipe old is env).set i (old[i]?.getD .no)

/-- none of these slots holds an object -/
def noOwn (w : List Nat) (env : List Slotm) : Bool := w.all fun i => match env[i]? with
  | some (.own _) => false
  | some (.lent _) => false
  | some _ => true
  | none => false
def wipeC {α : Type} (w : List Nat) (a : α) (st : Sm) : Resm α := if noOwn w st.env then .ok a { st with env := wipeS w st.env } else .stuck
def opt {α : Type} (o : Option α) (st : Sm) : Resm α :=
  match o with
  | some a => .ok a st
  | none => .stuck
@[simp] theorem opt_some {α : Type} (a : α) (st : Sm) : opt (some a) st = .ok a st := rfl
@[simp] theorem opt_none {α : Type} (st : Sm) : opt (none : Option α) st = .stuck := rfl

def looks : List RVm → Sm → Option (List Viewm)
  | [], _ => some []
  | r :: rs, st => match look r st, looks rs st with
    | some v, some vs => some (v :: vs)
    | _, _ => none
/-- arguments by the parameters' order -/
def permL {α : Type} (p : List Nat) (rs : List α) : Option (List α) :=
  match p with
  | [] => some []
  | i :: is => match rs[i]?, permL is rs with
    | some r, some t => some (r :: t)
    | _, _ => none

def enumL : Nat → List PVm → List PVm
  | _, [] => []
  | k, x :: xs => .tup [.int (k : Int), x] :: enumL (k + 1) xs
def rngL (lo : Int) (n : Nat) : List PVm := (List.range n).map fun (k : Nat) => PVm.int (lo + (k : Int))

def rngI (rs : List RVm) (st : Sm) : Resm Itmm :=
  match rs with
  | [.val (.int j)] => if -(2 ^ 62) ≤ j ∧ j < 2 ^ 62 then .ok ⟨rngL 0 j.toNat, []⟩ st else .stuck
  | [.val (.int i), .val (.int j)] => if -(2 ^ 62) ≤ i ∧ i < 2 ^ 62 ∧ -(2 ^ 62) ≤ j ∧ j < 2 ^ 62 then .ok ⟨rngL i (j - i).toNat, []⟩ st else .stuck
  | _ => .stuck
def enumI (rs : List RVm) (st : Sm) : Resm Itmm :=
  match rs with
  | [r] => (match seqIt r st with
    | some I => .ok ⟨enumL 0 I.2.items, I.2.deps⟩ st
    | none => .stuck)
  | _ => .stuck
def zipI (rs : List RVm) (st : Sm) : Resm Itmm :=
  match rs with
  | [r, q] => (match seqIt r st, seqIt q st with
    | some I, some J => if I.1 = J.1 then .ok ⟨I.2.items.zipWith (fun x y => PVm.tup [x, y]) J.2.items, I.2.deps ++ J.2.deps⟩ st else .stuck
    | _, _ => .stuck)
  | _ => .stuck
def seqI (r : RVm) (st : Sm) : Resm Itmm :=
  match r with
  | .val (.str s) => .ok ⟨s.map fun c => .str [c], []⟩ st
  | r => (match seqIt r st with
    | some I => .ok I.2 st
    | none => .stuck)

/-- an expression's truth -/
def tst (v : Sm → Resm RVm) : Sm → Resm Bool := fun st => (v st).bind fun r st => match (look r st).bind truth with
  | some k => .ok k st
  | none => .stuck
def pl (v : Sm → Resm RVm) : (Sm → Resm RVm) × (Sm → Resm Bool) := (v, tst v)
def eVar (i : Nat) : Sm → Resm RVm := fun st => match st.env[i]? with
  | some (.val v) => .ok (.val v) st
  | some (.own _) => .ok (.at i) st
  | some (.lent _) => .ok (.at i) st
  | _ => .stuck
def eTup (ms : Sm → Resm (List RVm)) : Sm → Resm RVm := fun st => (ms st).bind fun rs st => (fixAll rs st).bind fun vs st => .ok (.val (.tup vs)) st
def eLst (ms : Sm → Resm (List RVm)) : Sm → Resm RVm := fun st => (ms st).bind fun rs st => (fixAll rs st).bind fun vs st => .ok (.own (.lst vs)) st
def eBin (op : BOp) (ma mb : Sm → Resm RVm) : Sm → Resm RVm := fun st => (ma st).bind fun x st => (mb st).bind fun y st =>
  match look x st, look y st with
  | some u, some v => opt (binV op u v) st
  | _, _ => .stuck
def eNeg (ma : Sm → Resm RVm) : Sm → Resm RVm := fun st => (ma st).bind fun x st => match x with
  | .val (.int i) => .ok (.val (.int (-i))) st
  | _ => .stuck
def eCmp (op : COp) (ma mb : Sm → Resm RVm) : Sm → Resm RVm := fun st => (ma st).bind fun x st => (mb st).bind fun y st =>
  match look x st, look y st with
  | some u, some v => (match cmpV op u v with
    | some k => .ok (.val (.bl k)) st
    | none => .stuck)
  | _, _ => .stuck
def eChain (o1 o2 : COp) (ma mb mc : Sm → Resm RVm) : Sm → Resm RVm := fun st => (ma st).bind fun x st => (mb st).bind fun y st =>
  match look x st, look y st with
  | some u, some v => (match cmpV o1 u v with
    | some true => (mc st).bind fun z st => (match look y st, look z st with
      | some v, some w => (match cmpV o2 v w with
        | some k => .ok (.val (.bl k)) st
        | none => .stuck)
      | _, _ => .stuck)
    | some false => .ok (.val (.bl false)) st
    | none => .stuck)
  | _, _ => .stuck
def eAnd (ma mb : Sm → Resm RVm) : Sm → Resm RVm := fun st => (ma st).bind fun x st => match x with
  | .val (.bl true) => mb st
  | .val (.bl false) => .ok (.val (.bl false)) st
  | _ => .stuck
def eOr (ma mb : Sm → Resm RVm) : Sm → Resm RVm := fun st => (ma st).bind fun x st => match x with
  | .val (.bl true) => .ok (.val (.bl true)) st
  | .val (.bl false) => mb st
  | _ => .stuck
def eNot (ma : Sm → Resm RVm) : Sm → Resm RVm := fun st => (ma st).bind fun x st => match x with
  | .val (.bl k) => .ok (.val (.bl (!k))) st
  | _ => .stuck
def eIte {α : Type} (tc : Sm → Resm Bool) (ma mb : Sm → Resm α) : Sm → Resm α := fun st => (tc st).bind fun k st => if k then ma st else mb st
def eIdx (ma mb : Sm → Resm RVm) : Sm → Resm RVm := fun st => (ma st).bind fun x st => (mb st).bind fun y st =>
  match look x st, look y st with
  | some u, some v => (match idxV u v with
    | some w => .ok (.val w) st
    | none => .stuck)
  | _, _ => .stuck
def eSlc (ma mb mc : Sm → Resm RVm) : Sm → Resm RVm := fun st => (ma st).bind fun x st => (mb st).bind fun y st => match (look y st).bind partOf with
  | some l => (mc st).bind fun z st => (match look x st, (look z st).bind partOf with
    | some u, some h => opt (slcV u l h) st
    | _, _ => .stuck)
  | none => .stuck
def eRev (ma : Sm → Resm RVm) : Sm → Resm RVm := fun st => (ma st).bind fun x st => match look x st with
  | some u => opt (revV u) st
  | none => .stuck
def eCall (C : CallEnv) (f : Nat) (ms : Sm → Resm (List RVm)) (p : List Nat) : Sm → Resm RVm := fun st => (ms st).bind fun rs st => match permL p rs with
  | some rs => callR C f rs st
  | none => .stuck
def eBi (b : Bim) (ms : Sm → Resm (List RVm)) : Sm → Resm RVm := fun st => (ms st).bind fun rs st => match looks rs st with
  | some vs => opt (biV b vs) st
  | none => .stuck
def eMeth (m : Mem) (ma : Sm → Resm RVm) (ms : Sm → Resm (List RVm)) : Sm → Resm RVm := fun st => (ma st).bind fun x st => if recvOk m (look x st) then (ms st).bind fun rs st => meR m x rs st else .stuck
/-- a turn of a comprehension -/
def compB (t : Tgtm) (mt : Sm → Resm Bool) (me : Sm → Resm RVm) (w : List Nat) : PVm → Sm → Resm (Option PVm) := fun x st => match bindT t x st with
  | none => .stuck
  | some st => (mt st).bind fun k st => if k then (me st).bind fun r st => (fixR r st).bind fun v st => wipeC w (some v) st else wipeC w none st
def eComp (me : Sm → Resm RVm) (t : Tgtm) (mi : Sm → Resm Itmm) (mt : Sm → Resm Bool) (w : List Nat) : Sm → Resm RVm := fun st => (mi st).bind fun I st => if noOwn w st.env = false then .stuck else
  match compL I.deps (compB t mt me w) I.items [] { st with env := wipeS w st.env } with
  | .ok acc st' => .ok (.own (.lst acc)) { st' with env := unwipe st.env w st'.env }
  | _ => .stuck
def eExcf (i k : Nat) : Sm → Resm RVm := fun st => match st.env[i]? with
  | some (.exc _ a) => (match a[k]? with
    | some v => .ok (.val v) st
    | none => .stuck)
  | _ => .stuck
/-! dicts -/
def keyK : PVm → Bool
  | .int _ => true
  | .str _ => true
  | _ => false
def keyT : PVm → Bool
  | .tup l => l.all keyK
  | _ => false
def dLook (l : List (PVm × PVm)) (k : PVm) : Option PVm := (l.find? fun q => decide (q.1 = k)).map (·.2)
def dPut (l : List (PVm × PVm)) (k v : PVm) : List (PVm × PVm) := if (l.any fun q => decide (q.1 = k)) = true then l.map (fun q => if q.1 = k then (q.1, v) else q) else l ++ [(k, v)]
/-- what a dict has at a key that it may be asked for -/
def dAt (u v : Option Viewm) : Option (Option PVm) :=
  match u, v with
  | some (.m (.dic l)), some (.p k) => if keyK k then some (dLook l k) else none
  | some (.m (.dit l)), some (.p k) => if keyT k then some (dLook l k) else none
  | _, _ => none
def dSet (u v : Option Viewm) (x : PVm) : Option MOm :=
  match u, v with
  | some (.m (.dic l)), some (.p k) => if keyK k && decide (l.length < 16777216) then some (.dic (dPut l k x)) else none
  | some (.m (.dit l)), some (.p k) => if keyT k && decide (l.length < 16777216) then some (.dit (dPut l k x)) else none
  | _, _ => none
def eDnew (t : Bool) : Sm → Resm RVm := fun st => .ok (.own (if t then .dit [] else .dic [])) st
def eDget (md mk : Sm → Resm RVm) : Sm → Resm RVm := fun st => (md st).bind fun x st => (mk st).bind fun y st => match dAt (look x st) (look y st) with
  | some (some v) => .ok (.val v) st
  | _ => .stuck
def eDin (neg : Bool) (mk md : Sm → Resm RVm) : Sm → Resm RVm := fun st => (mk st).bind fun y st => (md st).bind fun x st => match dAt (look x st) (look y st) with
  | some o => .ok (.val (.bl (o.isSome != neg))) st
  | _ => .stuck
def isDic : Option Viewm → Bool
  | some (.m (.dic _)) => true
  | some (.m (.dit _)) => true
  | _ => false
def eDget2 (md mk mx : Sm → Resm RVm) : Sm → Resm RVm := fun st => (md st).bind fun x st => if isDic (look x st) then (mk st).bind fun y st => (mx st).bind fun z st => match dAt (look x st) (look y st), z with
  | some o, .val p => .ok (.val (o.getD p)) st
  | _, _ => .stuck
  else .stuck
/-- a slot's object is made one of the heap -/
def eEsc (i : Nat) : Sm → Resm RVm := fun st => match st.env[i]? with
  | some (.own o) => .ok (.val (.ref st.hp.length)) ⟨st.env.set i (.val (.ref st.hp.length)), st.hp ++ [o]⟩
  | some (.val v) => .ok (.val v) st
  | _ => .stuck
/-! sorted by length, then as texts: the key is a lambda, made in the def of the name n, whose table of code objects is the t-th object -/
def leLT (a b : List Nat) : Bool := decide (a.length < b.length ∨ (a.length = b.length ∧ a ≤ b))
def eSrt (t : Nat) (n : List Nat) (ma : Sm → Resm RVm) : Sm → Resm RVm := fun st => (ma st).bind fun r st =>
  match st.hp[t]?, ((look r st).bind Viewm.lstOf).bind strsOf with
  | some (.tbl n'), some l => if n' = n then .ok (.own (.lst ((l.mergeSort leLT).map .str))) st else .stuck
  | _, _ => .stuck
mutual
def evP (C : CallEnv) : CE → (Sm → Resm RVm) × (Sm → Resm Bool)
  | .var i => pl (eVar i)
  | .cst v => pl fun st => .ok (.val v) st
  | .esc i => pl (eEsc i)
  | .tup es => pl (eTup (evs C es))
  | .lst es => pl (eLst (evs C es))
  | .bin op a b => pl (eBin op (evP C a).1 (evP C b).1)
  | .neg a => pl (eNeg (evP C a).1)
  | .cmp op a b => pl (eCmp op (evP C a).1 (evP C b).1)
  | .chain o1 o2 a b c => pl (eChain o1 o2 (evP C a).1 (evP C b).1 (evP C c).1)
  | .and a b => (eAnd (evP C a).1 (evP C b).1, eIte (evP C a).2 (evP C b).2 fun st => .ok false st)
  | .or a b => (eOr (evP C a).1 (evP C b).1, eIte (evP C a).2 (fun st => .ok true st) (evP C b).2)
  | .not a => (eNot (evP C a).1, fun st => ((evP C a).2 st).bind fun k st => .ok (!k) st)
  | .ite c a b => pl (eIte (evP C c).2 (evP C a).1 (evP C b).1)
  | .idx a i => pl (eIdx (evP C a).1 (evP C i).1)
  | .slc a lo hi => pl (eSlc (evP C a).1 (evP C lo).1 (evP C hi).1)
  | .rev a => pl (eRev (evP C a).1)
  | .call f args p => pl (eCall C f (evs C args) p)
  | .bi b args => pl (eBi b (evs C args))
  | .meth m r args => pl (eMeth m (evP C r).1 (evs C args))
  | .comp e t it c w => pl (eComp (evP C e).1 t (evI C it) (evP C c).2 w)
  | .excf i k => pl (eExcf i k)
  | .dnew t => pl (eDnew t)
  | .dget d k => pl (eDget (evP C d).1 (evP C k).1)
  | .din neg k d => pl (eDin neg (evP C k).1 (evP C d).1)
  | .dget2 d k x => pl (eDget2 (evP C d).1 (evP C k).1 (evP C x).1)
  | .srt t n a => pl (eSrt t n (evP C a).1)
def evs (C : CallEnv) : CEs → Sm → Resm (List RVm)
  | .nil => fun st => .ok [] st
  | .cons e es => fun st => ((evP C e).1 st).bind fun r st => (evs C es st).bind fun rs st => .ok (r :: rs) st
def evI (C : CallEnv) : CI → Sm → Resm Itmm
  | .seq e => fun st => ((evP C e).1 st).bind fun r st => seqI r st
  | .rng as => fun st => (evs C as st).bind fun rs st => rngI rs st
  | .enum as => fun st => (evs C as st).bind fun rs st => enumI rs st
  | .zip as => fun st => (evs C as st).bind fun rs st => zipI rs st
end
def ev (C : CallEnv) (c : CE) : Sm → Resm RVm := (evP C c).1
def evT (C : CallEnv) (c : CE) : Sm → Resm Bool := (evP C c).2

/-! ### while -/
def loopW (c : Sm → Resm Bool) (b : Sm → Resm Flm) : Nat → Sm → Resm Flm
  | 0, _ => .stuck
  | n + 1, st => (c st).bind fun k st => if k then (b st).bind fun fl st' => match fl with
      | .nx => loopW c b n st'
      | .cont => loopW c b n st'
      | .brk => .ok .nx st'
      | .ret r => .ok (.ret r) st'
    else .ok .nx st
open Classical in
noncomputable def whileR (c : Sm → Resm Bool) (b : Sm → Resm Flm) (st : Sm) : Resm Flm :=
  if h : ∃ n, loopW c b n st ≠ .stuck then loopW c b h.choose st else .stuck

mutual
def Tgtm.vars : Tgtm → List Nat
  | .v i => [i]
  | .t l => Tgtm.varsL l
def Tgtm.varsL : List Tgtm → List Nat
  | [] => []
  | x :: xs => Tgtm.vars x ++ Tgtm.varsL xs
end
mutual
/-- the slots that a statement may store -/
def CS.sto : CS → List Nat
  | .asg t _ => t.vars
  | .par is _ => is
  | .aug _ i _ => [i]
  | .ite _ a b => a.stos ++ b.stos
  | .whl _ b => b.stos
  | .loop t _ b => t.vars ++ b.stos
  | .tr b _ i _ _ => i :: b.stos
  | _ => []
def CSs.stos : CSs → List Nat
  | .nil => []
  | .cons s r => s.sto ++ r.stos
end
/-- a store of a value that was made: what the run says, and what the store asks -/
def asgF (t : Tgtm) (r : RVm) (st : Sm) : Resm Flm := match t, r with
  | .v i, .own o => (match sets i (.own o) st with
    | some st => .ok .nx st
    | none => .stuck)
  | t, r => (fixR r st).bind fun v st => match bindT t v st with
    | some st => .ok .nx st
    | none => .stuck
/-- xs[i] = e, a list -/
def setF (m1 m2 m3 : Sm → Resm RVm) : Sm → Resm Flm := fun st => (m1 st).bind fun v st => (m2 st).bind fun x st => (m3 st).bind fun y st => (fixR v st).bind fun v st =>
      match look x st, look y st with
      | some (.m (.lst l)), some (.p (.int k)) => (match ixN l.length k with
        | some j => (match putO x (.lst (l.set j v)) st with
          | some st => .ok .nx st
          | none => .stuck)
        | none => .stuck)
      | _, _ => .stuck
/-- d[k] = e, a dict -/
def dputF (m1 m2 m3 : Sm → Resm RVm) : Sm → Resm Flm := fun st => (m1 st).bind fun v st => (m2 st).bind fun x st => (m3 st).bind fun y st => (fixR v st).bind fun v st =>
      match dSet (look x st) (look y st) v with
      | some o => (match putO x o st with
        | some st => .ok .nx st
        | none => .stuck)
      | none => .stuck
/-- only ints are stored so -/
def augI (op : BOp) (i : Nat) (m : Sm → Resm RVm) : Sm → Resm Flm := fun st => match st.env[i]? with
    | some (.val (.int v)) => (m st).bind fun y st => (match y with
      | .val (.int u) => (match binV op (.p (.int v)) (.p (.int u)) with
        | some (.val z) => (match sets i (.val z) st with
          | some st => .ok .nx st
          | none => .stuck)
        | _ => .stuck)
      | _ => .stuck)
    | _ => .stuck
def parF (is : List Nat) (m : Sm → Resm (List RVm)) : Sm → Resm Flm := fun st => (m st).bind fun rs st => (fixAll rs st).bind fun vs st => match bindTs (is.map .v) vs st with
    | some st => .ok .nx st
    | none => .stuck
def hItems (a : List PVm) : List Hitm → Option (List PVm)
  | [] => some []
  | .cst v :: r => (hItems a r).map (v :: ·)
  | .fld k :: r => match a[k]?, hItems a r with
    | some v, some l => some (v :: l)
    | _, _ => none
/-- what the clause gives: a tuple (0), a list (1) -/
def hRes (k : Nat) (ps : List PVm) : RVm := if k = 0 then .val (.tup ps) else .own (.lst ps)
def tryF (c i k : Nat) (hs : List Hitm) (m : Sm → Resm Flm) : Sm → Resm Flm := fun st => match m st with
  | .err x st => if x.cls = c then (match hItems x.args hs with
      | some ps => if i < st.env.length then .ok (.ret (hRes k ps)) { st with env := st.env.set i .no } else .stuck
      | none => .stuck) else .err x st
  | r => r
def raiF (c : Nat) (m : Sm → Resm (List RVm)) : Sm → Resm Flm := fun st => (m st).bind fun rs st => (fixAll rs st).bind fun vs st => .err ⟨c, vs⟩ st
noncomputable section
mutual
def exec (C : CallEnv) : CS → Sm → Resm Flm
  | .expr e, st => (ev C e st).bind fun _ st => .ok .nx st
  | .asg t e, st => (ev C e st).bind fun r st => asgF t r st
  | .par is es, st => parF is (evs C es) st
  | .aug op i e, st => augI op i (ev C e) st
  | .setI a i e, st => setF (ev C e) (ev C a) (ev C i) st
  | .ret e, st => (ev C e st).bind fun r st => .ok (.ret r) st
  | .retN, st => .ok (.ret (.val .non)) st
  | .pass, st => .ok .nx st
  | .brk, st => .ok .brk st
  | .cont, st => .ok .cont st
  | .ite c a b, st => (evT C c st).bind fun k st => if k then execs C a st else execs C b st
  | .whl c b, st => whileR (evT C c) (execs C b) st
  | .loop t it b, st => (evI C it st).bind fun I st => if (I.deps.any fun d => (t.vars ++ b.stos).contains d.1) then .stuck else forL I.deps (fun x st => match bindT t x st with
      | some st => execs C b st
      | none => .stuck) I.items st
  | .tr b c i k hs, st => tryF c i k hs (execs C b) st
  | .raise c args, st => raiF c (evs C args) st
  | .dput d k e, st => dputF (ev C e) (ev C d) (ev C k) st
def execs (C : CallEnv) : CSs → Sm → Resm Flm
  | .nil, st => .ok .nx st
  | .cons s r, st => (exec C s st).bind fun fl st => match fl with
    | .nx => execs C r st
    | fl => .ok fl st
end

structure Defm where
  npar : Nat
  nloc : Nat
  body : CSs

/-- what a caller takes back of the parameters -/
def keepLent : Slotm → Slotm
  | .lent o => .lent o
  | _ => .no
/-- the parameters that come back: those that were not stored -/
def finL (A : List Nat) : Nat → List Slotm → List Slotm
  | _, [] => []
  | i, s :: r => (if A.contains i then .no else keepLent s) :: finL A (i + 1) r
def finS (n : Nat) (A : List Nat) (st : Sm) : List Slotm := finL A 0 (st.env.take n)
def retR (r : RVm) (st : Sm) (n : Nat) (A : List Nat) : CRes :=
  match r with
  | .val v => .ok (.val v) (finS n A st) st.hp
  | .own o => .ok (.own o) (finS n A st) st.hp
  | .at i => match st.env[i]? with
    | some (.own o) => .ok (.own o) (finS n A st) st.hp
    | some (.val v) => .ok (.val v) (finS n A st) st.hp
    | _ => .stuck
def runD (C : CallEnv) (d : Defm) (ss : List Slotm) (hp : List MOm) : CRes :=
  if ss.length = d.npar then
    match execs C d.body ⟨ss ++ List.replicate d.nloc .no, hp⟩ with
    | .stuck => .stuck
    | .err x st => .err x (finS d.npar d.body.stos st) st.hp
    | .ok .nx st => .ok (.val .non) (finS d.npar d.body.stos st) st.hp
    | .ok (.ret r) st => retR r st d.npar d.body.stos
    | .ok _ _ => .stuck
  else .stuck
def callK (P : List Defm) : Nat → CallEnv
  | 0 => fun _ _ _ => .stuck
  | k + 1 => fun f ss hp => match P[f]? with
    | some d => runD (callK P k) d ss hp
    | none => .stuck
end
end Mp

set_option Elab.async false
set_option linter.all false
set_option maxRecDepth 100000
/-! Mp2: what a state of the small language says of the heap; how it stays. -/
namespace Mp
open PySem PySem.Spec PyProof.Rows L2

/-- a world: where the heap's objects stand; what is frozen -/
structure Wl where
  io : List Addr
  S : Addr → Prop
structure Wl.le (w w' : Wl) : Prop where
  io : ∀ (n : Nat) (a : Addr), w.io[n]? = some a → w'.io[n]? = some a
  S : ∀ a, w.S a → w'.S a
theorem Wl.le.refl (w : Wl) : w.le w := ⟨fun _ _ h => h, fun _ h => h⟩
theorem Wl.le.trans {a b c : Wl} (h : a.le b) (k : b.le c) : a.le c := ⟨fun n x e => k.io n x (h.io n x e), fun x e => k.S x (h.S x e)⟩

section
variable (K : PySem.W.Frag)
/-- a frozen list -/
def FrL (H : Hp) (w : Wl) (a : Addr) (xs : List V) : Prop := w.S a ∧ H a = some (.lst xs)
/-- a list that is only read: known to the object, or of the written part -/
def RoL (H : Hp) (w : Wl) (a : Addr) (xs : List V) : Prop := FrL H w a xs ∨ (∃ o, H a = some (.frz o (.lst xs))) ∨
  ∃ (o : Obj) (its : Array Value) (n : Nat), K.lookup a = some o ∧ o.cls = .type "list" ∧ o.dict = none ∧ o.data = .seq its n ∧ its.size ≤ sizeLine ∧ Vals xs its.toList
theorem RoL.sq {K : PySem.W.Frag} {H : Hp} {w : Wl} {a : Addr} {xs : List V} (h : RoL K H w a xs) : SqL K H a xs := by
  rcases h with h | h | h
  · exact .inl (.inl h.2)
  · exact .inl (.inr h)
  · exact .inr h
/-- a text that can be -/
def sOk (s : List Nat) : Prop := s.length ≤ 16777216 ∧ ∀ c ∈ s, c < 1114112
mutual
inductive Rp (H : Hp) (w : Wl) : V → PVm → Prop
  | non : Rp H w .non .non
  | bl (b : Bool) : Rp H w (.bl b) (.bl b)
  | int (i : Int) : Rp H w (.int i) (.int i)
  | str (s : List Nat) : sOk s → Rp H w (.str ⟨s.toArray⟩) (.str s)
  | tup {a : Addr} {vs : List V} {l : List PVm} : H a = some (.tup vs) → RpL H w vs l → Rp H w (.ref a) (.tup l)
  | lst {a : Addr} {vs : List V} {l : List PVm} : FrL H w a vs → RpL H w vs l → Rp H w (.ref a) (.lst l)
  | rol {a : Addr} {vs : List V} {l : List PVm} : RoL K H w a vs → RpL H w vs l → Rp H w (.ref a) (.rol l)
  | ref {a : Addr} {n : Nat} : w.io[n]? = some a → Rp H w (.ref a) (.ref n)
inductive RpL (H : Hp) (w : Wl) : List V → List PVm → Prop
  | nil : RpL H w [] []
  | cons {v : V} {vs : List V} {p : PVm} {l : List PVm} : Rp H w v p → RpL H w vs l → RpL H w (v :: vs) (p :: l)
end
end

/-- a tuple that is told -/
theorem tuT {K : PySem.W.Frag} {H : Hp} {a : Addr} {vs : List V} (h : H a = some (.tup vs)) : SqT K H a vs := .inl (.inl h)
/-- what stays between two heaps: tuples, frozen things -/
structure Stays (w : Wl) (H H' : Hp) : Prop where
  tup : ∀ a xs, H a = some (.tup xs) → H' a = some (.tup xs)
  frz : ∀ a o u, H a = some (.frz o u) → H' a = some (.frz o u)
  S : ∀ a u, w.S a → H a = some u → H' a = some u
section
variable {K : PySem.W.Frag} {H H' : Hp} {w w' : Wl}
theorem Stays.sqT (s : Stays w H H') {a : Addr} {xs : List V} (h : SqT K H a xs) : SqT K H' a xs := by
  rcases h with (h | ⟨o, h⟩) | h
  · exact .inl (.inl (s.tup a xs h))
  · exact .inl (.inr ⟨o, s.frz a o _ h⟩)
  · exact .inr h
theorem Stays.frL (s : Stays w H H') (le : w.le w') {a : Addr} {xs : List V} (h : FrL H w a xs) : FrL H' w' a xs := ⟨le.S a h.1, s.S a _ h.1 h.2⟩
theorem Stays.roL (s : Stays w H H') (le : w.le w') {a : Addr} {xs : List V} (h : RoL K H w a xs) : RoL K H' w' a xs := by
  rcases h with h | ⟨o, h⟩ | h
  · exact .inl (s.frL le h)
  · exact .inr (.inl ⟨o, s.frz a o _ h⟩)
  · exact .inr (.inr h)
mutual
theorem Rp.stay (s : Stays w H H') (le : w.le w') : ∀ {v : V} {p : PVm}, Rp K H w v p → Rp K H' w' v p
  | _, _, .non => .non
  | _, _, .bl b => .bl b
  | _, _, .int i => .int i
  | _, _, .str x h => .str x h
  | _, _, .tup h r => .tup (s.tup _ _ h) (RpL.stay s le r)
  | _, _, .lst h r => .lst (s.frL le h) (RpL.stay s le r)
  | _, _, .rol h r => .rol (s.roL le h) (RpL.stay s le r)
  | _, _, .ref h => .ref (le.io _ _ h)
theorem RpL.stay (s : Stays w H H') (le : w.le w') : ∀ {v : List V} {p : List PVm}, RpL K H w v p → RpL K H' w' v p
  | _, _, .nil => .nil
  | _, _, .cons r t => .cons (Rp.stay s le r) (RpL.stay s le t)
end
theorem RpL.length : ∀ {vs : List V} {l : List PVm}, RpL K H w vs l → vs.length = l.length
  | _, _, .nil => rfl
  | _, _, .cons _ t => congrArg (· + 1) (RpL.length t)
theorem RpL.get : ∀ {vs : List V} {l : List PVm} {i : Nat} {p : PVm}, RpL K H w vs l → l[i]? = some p → ∃ v, vs[i]? = some v ∧ Rp K H w v p
  | _, _, _, _, .nil, h => by simp at h
  | _, _, 0, _, .cons r _, h => by simp at h; subst h; exact ⟨_, rfl, r⟩
  | _, _, i + 1, _, .cons _ t, h => by
    obtain ⟨v, e, r⟩ := RpL.get (i := i) t (by simpa using h)
    exact ⟨v, by simpa using e, r⟩
theorem RpL.getV : ∀ {vs : List V} {l : List PVm} {i : Nat} {v : V}, RpL K H w vs l → vs[i]? = some v → ∃ p, l[i]? = some p ∧ Rp K H w v p
  | _, _, _, _, .nil, h => by simp at h
  | _, _, 0, _, .cons r _, h => by simp at h; subst h; exact ⟨_, rfl, r⟩
  | _, _, i + 1, _, .cons _ t, h => by
    obtain ⟨v, e, r⟩ := RpL.getV (i := i) t (by simpa using h)
    exact ⟨v, by simpa using e, r⟩
theorem RpL.app : ∀ {vs us : List V} {l m : List PVm}, RpL K H w vs l → RpL K H w us m → RpL K H w (vs ++ us) (l ++ m)
  | _, _, _, _, .nil, h => h
  | _, _, _, _, .cons r t, h => .cons r (RpL.app t h)
theorem RpL.take : ∀ {vs : List V} {l : List PVm} (n : Nat), RpL K H w vs l → RpL K H w (vs.take n) (l.take n)
  | _, _, 0, _ => by simp; exact .nil
  | _, _, _ + 1, .nil => .nil
  | _, _, n + 1, .cons r t => .cons r (RpL.take n t)
theorem RpL.drop : ∀ {vs : List V} {l : List PVm} (n : Nat), RpL K H w vs l → RpL K H w (vs.drop n) (l.drop n)
  | _, _, 0, h => h
  | _, _, _ + 1, .nil => .nil
  | _, _, n + 1, .cons _ t => RpL.drop n t
theorem RpL.set {v : V} {p : PVm} (r : Rp K H w v p) : ∀ {vs : List V} {l : List PVm} (i : Nat), RpL K H w vs l → RpL K H w (vs.set i v) (l.set i p)
  | _, _, _, .nil => .nil
  | _, _, 0, .cons _ t => .cons r t
  | _, _, i + 1, .cons q t => .cons q (RpL.set r i t)
theorem RpL.dropLast {vs : List V} {l : List PVm} (h : RpL K H w vs l) : RpL K H w vs.dropLast l.dropLast := by
  rw [List.dropLast_eq_take, List.dropLast_eq_take, h.length]; exact h.take _
theorem RpL.rev : ∀ {vs : List V} {l : List PVm}, RpL K H w vs l → RpL K H w vs.reverse l.reverse
  | _, _, .nil => .nil
  | _, _, .cons r t => by
    rw [List.reverse_cons, List.reverse_cons]
    exact (RpL.rev t).app (.cons r .nil)
theorem RpL.rep {vs : List V} {l : List PVm} (h : RpL K H w vs l) : ∀ k : Nat, RpL K H w (List.replicate k vs).flatten (List.replicate k l).flatten
  | 0 => .nil
  | k + 1 => by
    rw [List.replicate_succ, List.replicate_succ, List.flatten_cons, List.flatten_cons]
    exact h.app (RpL.rep h k)

/-- a key -/
inductive KeyP : Key → PVm → Prop
  | int (i : Int) : KeyP (.inl i) (.int i)
  | str (s : List Nat) : sOk s → KeyP (.inr ⟨s.toArray⟩) (.str s)
inductive RpD (K : PySem.W.Frag) (H : Hp) (w : Wl) : List (Key × V) → List (PVm × PVm) → Prop
  | nil : RpD K H w [] []
  | cons {k : Key} {v : V} {kvs : List (Key × V)} {pk pv : PVm} {l : List (PVm × PVm)} : KeyP k pk → Rp K H w v pv → RpD K H w kvs l → RpD K H w ((k, v) :: kvs) ((pk, pv) :: l)
theorem RpD.stay (s : Stays w H H') (le : w.le w') : ∀ {v : List (Key × V)} {p : List (PVm × PVm)}, RpD K H w v p → RpD K H' w' v p
  | _, _, .nil => .nil
  | _, _, .cons k r t => .cons k (r.stay s le) (RpD.stay s le t)

/-- a tuple's keys -/
inductive KeyL : List Key → List PVm → Prop
  | nil : KeyL [] []
  | cons {k : Key} {p : PVm} {ks : List Key} {l : List PVm} : KeyP k p → KeyL ks l → KeyL (k :: ks) (p :: l)
inductive RpT (K : PySem.W.Frag) (H : Hp) (w : Wl) : List (List Key × V) → List (PVm × PVm) → Prop
  | nil : RpT K H w [] []
  | cons {k : List Key} {v : V} {kvs : List (List Key × V)} {lk : List PVm} {pv : PVm} {l : List (PVm × PVm)} : KeyL k lk → Rp K H w v pv → RpT K H w kvs l → RpT K H w ((k, v) :: kvs) ((.tup lk, pv) :: l)
theorem RpT.stay (s : Stays w H H') (le : w.le w') : ∀ {v : List (List Key × V)} {p : List (PVm × PVm)}, RpT K H w v p → RpT K H' w' v p
  | _, _, .nil => .nil
  | _, _, .cons k r t => .cons k (r.stay s le) (RpT.stay s le t)

/-- the name of a lambda in the def of that name -/
def lamQ (n : List Nat) : Str := ((⟨n.toArray⟩ : Str) ++ ".<locals>.") ++ "<lambda>"
/-- the table of code objects of the def of that name, by the written part -/
def tabC (K : PySem.W.Frag) (n : List Nat) : Option Addr := match K.lookup (He.ga K ⟨n.toArray⟩) with
  | some ⟨_, _, .func fd, _⟩ => (match fd.code with
    | .ref c => some c
    | _ => none)
  | _ => none
def tabP (K : PySem.W.Frag) (c : Addr) : Option Addr := match K.lookup c with
  | some ⟨_, _, .fields vs, _⟩ => (match (vs : Array Value)[11]? with
    | some (Value.ref P) => some P
    | _ => none)
  | _ => none
def tabA (K : PySem.W.Frag) (n : List Nat) : Option Addr := (tabC K n).bind (tabP K)
/-- a mutable object stands at a -/
def MOk (K : PySem.W.Frag) (H : Hp) (w : Wl) (a : Addr) : MOm → Prop
  | .tbl n => tabA K n = some a ∧ ∃ ps : Array Value, H a = some (.tbl ps) ∧ TriplesOk ps.toList ∧ ∀ (pos : Pos) (cv : Value), codeAmong pos ps.toList = some cv → ∃ c, cv = .ref c ∧ w.S c ∧ H c = some (LamX.CodeO c (lamQ n))
  | .lst l => ∃ vs, H a = some (.lst vs) ∧ RpL K H w vs l
  | .dic l => ∃ kvs, H a = some (.dK kvs) ∧ RpD K H w kvs l
  | .dit l => ∃ kvs, H a = some (.dT kvs) ∧ RpT K H w kvs l
theorem MOk.stay {a : Addr} {o : MOm} (s : Stays w H H') (le : w.le w') (ha : H' a = H a) (h : MOk K H w a o) : MOk K H' w' a o := by
  cases o with
  | lst l => obtain ⟨vs, e, r⟩ := h; exact ⟨vs, by rw [ha, e], r.stay s le⟩
  | dic l => obtain ⟨vs, e, r⟩ := h; exact ⟨vs, by rw [ha, e], r.stay s le⟩
  | dit l => obtain ⟨vs, e, r⟩ := h; exact ⟨vs, by rw [ha, e], r.stay s le⟩
  | tbl n =>
    obtain ⟨t, ps, e, t1, t2⟩ := h
    refine ⟨t, ps, by rw [ha, e], t1, fun pos cv hc => ?_⟩
    obtain ⟨c, e1, e2, e3⟩ := t2 pos cv hc
    exact ⟨c, e1, le.S c e2, s.S c _ e2 e3⟩
theorem MOk.some {a : Addr} {o : MOm} (h : MOk K H w a o) : ∃ u, H a = some u := by
  cases o with
  | lst l => obtain ⟨vs, e, r⟩ := h; exact ⟨_, e⟩
  | dic l => obtain ⟨vs, e, r⟩ := h; exact ⟨_, e⟩
  | dit l => obtain ⟨vs, e, r⟩ := h; exact ⟨_, e⟩
  | tbl n => obtain ⟨_, ps, e, _⟩ := h; exact ⟨_, e⟩
end

/-- slot i's own object stands at a -/
def OwnAt (env : List Slotm) (σ : L2.St) (i : Nat) (a : Addr) : Prop := σ[i]? = some (some (.ref a)) ∧ ∃ o, env[i]? = some (.own o) ∨ env[i]? = some (.lent o)
/-- the addresses that the state may write -/
def Foot (env : List Slotm) (σ : L2.St) (w : Wl) (a : Addr) : Prop := a ∈ w.io ∨ ∃ i, OwnAt env σ i a

structure Rel (K : PySem.W.Frag) (w : Wl) (σ : L2.St) (H : Hp) (st : Sm) : Prop where
  len : σ.length = st.env.length
  val : ∀ (i : Nat) (v : PVm), st.env[i]? = some (.val v) → ∃ x, σ[i]? = some (some x) ∧ Rp K H w x v
  obj : ∀ (i : Nat) (o : MOm), (st.env[i]? = some (.own o) ∨ st.env[i]? = some (.lent o)) → ∃ a, σ[i]? = some (some (.ref a)) ∧ MOk K H w a o
  hl : w.io.length = st.hp.length
  hob : ∀ (n : Nat) (a : Addr) (o : MOm), w.io[n]? = some a → st.hp[n]? = some o → MOk K H w a o
  nd : w.io.Nodup
  nio : ∀ i a, OwnAt st.env σ i a → a ∉ w.io
  inj : ∀ i j a, OwnAt st.env σ i a → OwnAt st.env σ j a → i = j
  sS : ∀ a, w.S a → ¬ Foot st.env σ w a
  tS : ∀ a, w.S a → H a ≠ none

/-- from one heap and its footprint to another -/
structure Ext (H : Hp) (F S : Addr → Prop) (H' : Hp) (F' S' : Addr → Prop) : Prop where
  keep : ∀ a o, H a = some o → ¬ F a → H' a = some o
  trk : ∀ a, H a ≠ none → H' a ≠ none
  grow : ∀ a, F' a → F a ∨ H a = none
  growS : ∀ a, S' a → S a ∨ F a ∨ H a = none
  tup : ∀ a xs, H a = some (.tup xs) → H' a = some (.tup xs)
  frz : ∀ a o u, H a = some (.frz o u) → H' a = some (.frz o u)
section
variable {H H1 H2 : Hp} {F S F1 S1 F2 S2 G : Addr → Prop}
theorem Ext.refl : Ext H F S H F S := ⟨fun _ _ e _ => e, fun _ h => h, fun _ h => .inl h, fun _ h => .inl h, fun _ _ h => h, fun _ _ _ h => h⟩
/-- the second step's footprint lies in the first's; what else the first made is kept along -/
theorem Ext.trans (a : Ext H F S H1 F1 S1) (hG : ∀ x, G x → F1 x) (b : Ext H1 G S1 H2 F2 S2) : Ext H F S H2 (fun x => F2 x ∨ F1 x) S2 where
  keep := fun x o e n => b.keep x o (a.keep x o e n) fun g => by
    rcases a.grow x (hG x g) with h | h
    · exact n h
    · rw [h] at e; cases e
  trk := fun x h => b.trk x (a.trk x h)
  grow := fun x h => by
    rcases h with h | h
    · rcases b.grow x h with h | h
      · exact a.grow x (hG x h)
      · by_cases z : H x = none
        · exact .inr z
        · exact absurd h (a.trk x z)
    · exact a.grow x h
  growS := fun x h => by
    rcases b.growS x h with h | h | h
    · exact a.growS x h
    · exact .inr (a.grow x (hG x h))
    · by_cases z : H x = none
      · exact .inr (.inr z)
      · exact absurd h (a.trk x z)
  tup := fun x xs h => b.tup x xs (a.tup x xs h)
  frz := fun x o u h => b.frz x o u (a.frz x o u h)
theorem Ext.weak (a : Ext H F S H1 F1 S1) (h : ∀ x, G x → F1 x) : Ext H F S H1 G S1 := ⟨a.keep, a.trk, fun x g => a.grow x (h x g), a.growS, a.tup, a.frz⟩
theorem Ext.stays {w : Wl} (a : Ext H F w.S H1 F1 S1) (hS : ∀ x, w.S x → ¬ F x) : Stays w H H1 := ⟨a.tup, a.frz, fun x u hs e => a.keep x _ e (hS x hs)⟩
end
section
variable {K : PySem.W.Frag} {w w' : Wl} {σ : L2.St} {H H' : Hp} {st st' : Sm}
theorem Rel.footSome (R : Rel K w σ H st) : ∀ a, Foot st.env σ w a → ∃ u, H a = some u := fun a h => by
  rcases h with h | ⟨i, e, o, h⟩
  · obtain ⟨n, hn⟩ := List.getElem?_of_mem h
    have hlt : n < st.hp.length := by
      rw [← R.hl]
      exact (List.getElem?_eq_some_iff.mp hn).1
    exact (R.hob n a _ hn (List.getElem?_eq_getElem hlt)).some
  · obtain ⟨b, e', m⟩ := R.obj i o h
    rw [e] at e'; cases e'
    exact m.some
theorem Rel.stays (R : Rel K w σ H st) {F1 S1 : Addr → Prop} (x : Ext H (Foot st.env σ w) w.S H' F1 S1) : Stays w H H' := x.stays R.sS

/-- an outcome stands at v -/
def RRel (K : PySem.W.Frag) (w : Wl) (σ : L2.St) (H : Hp) (v : V) : RVm → Prop
  | .val p => Rp K H w v p
  | .own o => ∃ a, v = .ref a ∧ MOk K H w a o ∧ ¬ w.S a
  | .at i => σ[i]? = some (some v)
def ResA (r : RVm) (v : V) (a : Addr) : Prop := (∃ o, r = .own o) ∧ v = .ref a

/-- the end of an expression -/
structure PostE (K : PySem.W.Frag) (w : Wl) (σ : L2.St) (H : Hp) (st : Sm) (r : RVm) (st' : Sm) (v : V) (H' : Hp) (w' : Wl) : Prop where
  le : w.le w'
  rel : Rel K w' σ H' st'
  res : RRel K w' σ H' v r
  ext : Ext H (Foot st.env σ w) w.S H' (fun a => Foot st'.env σ w' a ∨ ResA r v a) w'.S
  new : ∀ a, ResA r v a → ¬ Foot st'.env σ w' a
  len : st'.env.length = st.env.length

/-- exceptions: classes by number, fields by name; what an error's object shows -/
structure ExT where
  n : Nat
  cls : Nat → Addr
  fields : Nat → List Str
def ExR (T : ExT) (K : PySem.W.Frag) (w : Wl) (H : Hp) (x : Exm) (cls : Value) (d : Option Addr) : Prop :=
  x.cls < T.n ∧ cls = .ref (T.cls x.cls) ∧ ∃ vs, RpL K H w vs x.args ∧ vs.length = (T.fields x.cls).length ∧
    ∃ dd kvs, d = some dd ∧ H dd = some (.xd kvs) ∧ ∀ f, kvs.lookup f = ((T.fields x.cls).zip vs).lookup f

/-- the end by an error -/
structure PostX (T : ExT) (K : PySem.W.Frag) (w : Wl) (σ : L2.St) (H : Hp) (st : Sm) (x : Exm) (st' : Sm) (cls : Value) (d : Option Addr) (σ' : L2.St) (H' : Hp) (w' : Wl) : Prop where
  le : w.le w'
  rel : Rel K w' σ' H' st'
  exc : ExR T K w' H' x cls d
  ext : Ext H (Foot st.env σ w) w.S H' (Foot st'.env σ' w') w'.S
  len : st'.env.length = st.env.length

/-- what the readings ask, from a run of the small language -/
def EndE (T : ExT) (K : PySem.W.Frag) (W : WX) (w : Wl) (σ : L2.St) (H : Hp) (st : Sm) (Q : VK) : Resm RVm → Prop
  | .stuck => False
  | .err x st' => ∀ cls d H' w', PostX T K w σ H st x st' cls d σ H' w' → W cls d σ H'
  | .ok r st' => ∀ v H' w', PostE K w σ H st r st' v H' w' → Q v H'
/-- the reading of an expression that runs as m -/
def rdE (T : ExT) (K : PySem.W.Frag) (W : WX) (m : Sm → Resm RVm) : TE := fun σ H Q => ∃ w st, Rel K w σ H st ∧ EndE T K W w σ H st Q (m st)
end
theorem PE.imp {X : Cx} {e : Expr} {t t' : TE} (h : PE X e t) (i : ∀ σ H Q, t' σ H Q → t σ H Q) : PE X e t' := ⟨fun pins s σ H Q I q => h.run pins s σ H Q I (i σ H Q q)⟩

section
variable {T : ExT} {K : PySem.W.Frag} {W : WX} {w w1 w2 : Wl} {σ σ2 : L2.St} {H H1 H2 : Hp} {st st1 st2 : Sm} {r r2 : RVm} {v v2 : V}
/-- a first outcome, kept while more is run -/
theorem RRel.stay {F S : Addr → Prop} (P : PostE K w σ H st r st1 v H1 w1) (le : w1.le w2) (x : Ext H1 (Foot st1.env σ w1) w1.S H2 F S) (hS : ∀ a, ResA r v a → ¬ w2.S a) : RRel K w2 σ H2 v r := by
  have s := P.rel.stays x
  have q := P.res
  cases r with
  | val p => exact Rp.stay s le q
  | own o =>
    obtain ⟨a, e, m, n⟩ := q
    obtain ⟨u, eu⟩ := m.some
    have nf := P.new a ⟨⟨o, rfl⟩, e⟩
    exact ⟨a, e, m.stay s le (by rw [eu]; exact x.keep a u eu nf), hS a ⟨⟨o, rfl⟩, e⟩⟩
  | «at» i => exact q
/-- the first outcome's address is not taken by what is run behind -/
theorem PostE.apart {F : Addr → Prop} (P : PostE K w σ H st r st1 v H1 w1) {S2 : Addr → Prop} (x : Ext H1 (Foot st1.env σ w1) w1.S H2 F S2) (a : Addr) (h : ResA r v a) : ¬ F a ∧ ¬ S2 a := by
  obtain ⟨⟨o, rfl⟩, e⟩ := h
  obtain ⟨b, e', m, n⟩ := P.res
  rw [e] at e'
  obtain rfl : a = b := V.ref.inj e'
  obtain ⟨u, eu⟩ := m.some
  have nf := P.new a ⟨⟨o, rfl⟩, e⟩
  refine ⟨fun f => ?_, fun f => ?_⟩
  · rcases x.grow a f with h | h
    · exact nf h
    · rw [eu] at h; cases h
  · rcases x.growS a f with h | h | h
    · exact n h
    · exact nf h
    · rw [eu] at h; cases h
theorem PostX.after {x : Exm} {cls : Value} {d : Option Addr} (P : PostE K w σ H st r st1 v H1 w1) (Q : PostX T K w1 σ H1 st1 x st2 cls d σ2 H2 w2) : PostX T K w σ H st x st2 cls d σ2 H2 w2 :=
  ⟨P.le.trans Q.le, Q.rel, Q.exc, (P.ext.trans (fun _ h => .inl h) Q.ext).weak fun _ h => .inl h, Q.len.trans P.len⟩
/-- two in a row: the second's end as an end of both; the first's outcome beside it -/
theorem PostE.after (P : PostE K w σ H st r st1 v H1 w1) (Q : PostE K w1 σ H1 st1 r2 st2 v2 H2 w2) : PostE K w σ H st r2 st2 v2 H2 w2 :=
  ⟨P.le.trans Q.le, Q.rel, Q.res, (P.ext.trans (fun _ h => .inl h) Q.ext).weak fun _ h => .inl h, Q.new, Q.len.trans P.len⟩
theorem PostE.first (P : PostE K w σ H st r st1 v H1 w1) (Q : PostE K w1 σ H1 st1 r2 st2 v2 H2 w2) : RRel K w2 σ H2 v r :=
  P.res |> fun _ => RRel.stay P Q.le Q.ext fun a h => (P.apart Q.ext a h).2
theorem PostE.nofoot (P : PostE K w σ H st r st1 v H1 w1) (Q : PostE K w1 σ H1 st1 r2 st2 v2 H2 w2) (a : Addr) (h : ResA r v a) : ¬ Foot st2.env σ w2 a ∧ ¬ ResA r2 v2 a := by
  have := (P.apart Q.ext a h).1
  exact ⟨fun z => this (.inl z), fun z => this (.inr z)⟩
theorem PostE.both (P : PostE K w σ H st r st1 v H1 w1) (Q : PostE K w1 σ H1 st1 r2 st2 v2 H2 w2) : Ext H (Foot st.env σ w) w.S H2 (fun a => (Foot st2.env σ w2 a ∨ ResA r2 v2 a) ∨ ResA r v a) w2.S :=
  (P.ext.trans (fun _ h => .inl h) Q.ext).weak fun a h => by
    rcases h with h | h
    · exact .inl h
    · exact .inr (.inr h)

/-- EndE of a run that is bound -/
theorem EndE.bind {m : Resm RVm} {f : RVm → Sm → Resm RVm} {Q : VK} (h : EndE T K W w σ H st Q (m.bind f)) :
    EndE T K W w σ H st (fun v H1 => ∃ r st1 w1, PostE K w σ H st r st1 v H1 w1 ∧ EndE T K W w1 σ H1 st1 Q (f r st1)) m := by
  cases m with
  | stuck => exact h
  | err x st' => exact h
  | ok r st1 =>
    intro v H1 w1 P
    have h : EndE T K W w σ H st Q (f r st1) := h
    refine ⟨r, st1, w1, P, ?_⟩
    cases e : f r st1 with
    | stuck => rw [e] at h; exact h
    | err x st2 => rw [e] at h; exact fun cls d H' w' q => h cls d H' w' (PostX.after P q)
    | ok r2 st2 => rw [e] at h; exact fun v2 H2 w2 q => h v2 H2 w2 (P.after q)
theorem EndE.mono {m : Resm RVm} {Q Q' : VK} (h : EndE T K W w σ H st Q m) (i : ∀ v H, Q v H → Q' v H) : EndE T K W w σ H st Q' m := by
  cases m with
  | stuck => exact h
  | err x st' => exact h
  | ok r st1 => exact fun v H1 w1 P => i _ _ (h v H1 w1 P)

/-- what a view says of v -/
def VRel (K : PySem.W.Frag) (w : Wl) (H : Hp) (v : V) : Viewm → Prop
  | .p p => Rp K H w v p
  | .m o => ∃ a, v = .ref a ∧ MOk K H w a o
theorem look_rel {u : Viewm} (R : Rel K w σ H st) (h : RRel K w σ H v r) (e : look r st = some u) : VRel K w H v u := by
  have atn : ∀ (n : Nat) (a : Addr), w.io[n]? = some a → (st.hp[n]?).map Viewm.m = some u → v = .ref a → VRel K w H v u := by
    intro n a hn e hv
    cases q : st.hp[n]? with
    | none => rw [q] at e; cases e
    | some o =>
      rw [q] at e
      cases e
      exact ⟨a, hv, R.hob n a o hn q⟩
  cases r with
  | val p =>
    cases p <;> first
      | (cases e; exact h)
      | (cases h with
         | ref hn => exact atn _ _ hn e rfl)
  | own o =>
    cases e
    obtain ⟨a, e, m, _⟩ := h
    exact ⟨a, e, m⟩
  | «at» i =>
    have h : σ[i]? = some (some v) := h
    unfold look at e
    simp only at e
    split at e
    · rename_i o q
      cases e
      obtain ⟨a, e', m⟩ := R.obj i o (.inl q)
      rw [h] at e'; cases e'
      exact ⟨a, rfl, m⟩
    · rename_i o q
      cases e
      obtain ⟨a, e', m⟩ := R.obj i o (.inr q)
      rw [h] at e'; cases e'
      exact ⟨a, rfl, m⟩
    · rename_i n q
      obtain ⟨x, e', m⟩ := R.val i _ q
      rw [h] at e'; cases e'
      cases m with
      | ref hn => exact atn _ _ hn e rfl
    · rename_i p hp q
      cases e
      obtain ⟨x, e', m⟩ := R.val i _ q
      rw [h] at e'; cases e'
      exact m
    · cases e

/-- a new object is laid -/
theorem Rel.laid {p : Addr} {o : HO} (R : Rel K w σ H st) (hp : H p = none) : Rel K w σ (upd H p o) st := by
  have ne : ∀ a u, H a = some u → a ≠ p := fun a u e z => by rw [z, hp] at e; cases e
  have s : Stays w H (upd H p o) := ⟨fun a xs e => by rw [upd_ne (ne a _ e)]; exact e, fun a o u e => by rw [upd_ne (ne a _ e)]; exact e, fun a u _ e => by rw [upd_ne (ne a _ e)]; exact e⟩
  have mo : ∀ a o', MOk K H w a o' → MOk K (upd H p o) w a o' := fun a o' m => by
    obtain ⟨u, e⟩ := m.some
    exact m.stay s (.refl w) (upd_ne (ne a u e))
  refine ⟨R.len, fun i v e => ?_, fun i o' e => ?_, R.hl, fun n a o' h1 h2 => mo _ _ (R.hob n a o' h1 h2), R.nd, R.nio, R.inj, R.sS, fun a h => ?_⟩
  · obtain ⟨x, e1, r⟩ := R.val i v e
    exact ⟨x, e1, r.stay s (.refl w)⟩
  · obtain ⟨a, e1, m⟩ := R.obj i o' e
    exact ⟨a, e1, mo _ _ m⟩
  · cases q : H a with
    | none => exact absurd q (R.tS a h)
    | some u =>
      rw [upd_ne (ne a u q), q]
      exact fun z => nomatch z
theorem laid_ext {F S : Addr → Prop} {p : Addr} {o : HO} {H : Hp} (hp : H p = none) : Ext H F S (upd H p o) (fun a => F a ∨ a = p) S := by
  have ne : ∀ a u, H a = some u → a ≠ p := fun a u e z => by rw [z, hp] at e; cases e
  refine ⟨fun a u e _ => by rw [upd_ne (ne a u e)]; exact e, fun a h => ?_, fun a h => ?_, fun a h => .inl h, fun a xs e => by rw [upd_ne (ne a _ e)]; exact e, fun a o u e => by rw [upd_ne (ne a _ e)]; exact e⟩
  · cases q : H a with
    | none => exact absurd q h
    | some u =>
      rw [upd_ne (ne a u q), q]
      exact fun z => nomatch z
  · rcases h with h | h
    · exact .inl h
    · exact .inr (by rw [h]; exact hp)

/-- an outcome that is given: a value as it stands, or a new object -/
inductive Gives (K : PySem.W.Frag) (w : Wl) (H : Hp) : RVm → V → Hp → Prop
  | val {p : PVm} {z : V} : Rp K H w z p → Gives K w H (.val p) z H
  | tup {a : Addr} {vs : List V} {l : List PVm} : H a = none → RpL K H w vs l → Gives K w H (.val (.tup l)) (.ref a) (upd H a (.tup vs))
  | lst {a : Addr} {vs : List V} {l : List PVm} : H a = none → RpL K H w vs l → Gives K w H (.own (.lst l)) (.ref a) (upd H a (.lst vs))
  | dic {a : Addr} : H a = none → Gives K w H (.own (.dic [])) (.ref a) (upd H a (.dK []))
  | dit {a : Addr} : H a = none → Gives K w H (.own (.dit [])) (.ref a) (upd H a (.dT []))
theorem laid_stays {p : Addr} {o : HO} {H : Hp} (hp : H p = none) : Stays w H (upd H p o) := by
  have ne : ∀ a u, H a = some u → a ≠ p := fun a u e z => by rw [z, hp] at e; cases e
  exact ⟨fun a xs e => by rw [upd_ne (ne a _ e)]; exact e, fun a o u e => by rw [upd_ne (ne a _ e)]; exact e, fun a u _ e => by rw [upd_ne (ne a _ e)]; exact e⟩
theorem Gives.post {z : V} {H' : Hp} (R : Rel K w σ H st) (g : Gives K w H r z H') : PostE K w σ H st r st z H' w := by
  have nf : ∀ a, H a = none → ¬ Foot st.env σ w a := fun a h f => by
    obtain ⟨u, e⟩ := R.footSome a f
    rw [h] at e; cases e
  have nS : ∀ a, H a = none → ¬ w.S a := fun a h f => R.tS a f h
  cases g with
  | val h => exact ⟨.refl w, R, h, Ext.refl.weak fun a h => h.elim id fun h => (by obtain ⟨⟨o, z⟩, _⟩ := h; cases z), fun a h => (by obtain ⟨⟨o, z⟩, _⟩ := h; cases z), rfl⟩
  | tup hp h =>
    exact ⟨.refl w, R.laid hp, .tup upd_same (h.stay (laid_stays hp) (.refl w)), (laid_ext hp).weak fun a h => h.elim .inl fun h => (by obtain ⟨⟨o, z⟩, _⟩ := h; cases z), fun a h => (by obtain ⟨⟨o, z⟩, _⟩ := h; cases z), rfl⟩
  | lst hp h =>
    exact ⟨.refl w, R.laid hp, ⟨_, rfl, ⟨_, upd_same, h.stay (laid_stays hp) (.refl w)⟩, nS _ hp⟩, (laid_ext hp).weak fun a h => h.elim .inl fun h => (by obtain ⟨_, z⟩ := h; cases z; exact .inr rfl), fun a h => (by obtain ⟨_, z⟩ := h; cases z; exact nf _ hp), rfl⟩
  | dic hp =>
    exact ⟨.refl w, R.laid hp, ⟨_, rfl, ⟨_, upd_same, .nil⟩, nS _ hp⟩, (laid_ext hp).weak fun a h => h.elim .inl fun h => (by obtain ⟨_, z⟩ := h; cases z; exact .inr rfl), fun a h => (by obtain ⟨_, z⟩ := h; cases z; exact nf _ hp), rfl⟩
  | dit hp =>
    exact ⟨.refl w, R.laid hp, ⟨_, rfl, ⟨_, upd_same, .nil⟩, nS _ hp⟩, (laid_ext hp).weak fun a h => h.elim .inl fun h => (by obtain ⟨_, z⟩ := h; cases z; exact .inr rfl), fun a h => (by obtain ⟨_, z⟩ := h; cases z; exact nf _ hp), rfl⟩
theorem EndE.gives {Q : VK} {z : V} {H' : Hp} (R : Rel K w σ H st) (h : EndE T K W w σ H st Q (.ok r st)) (g : Gives K w H r z H') : Q z H' := h z H' w (g.post R)
end
end Mp

set_option Elab.async false
set_option linter.all false
set_option maxRecDepth 100000
set_option maxHeartbeats 1000000
/-! Mp3: the rules for operators, subscripts, built-ins, methods, by views. -/
namespace Mp
open PySem PySem.Spec PyProof.Rows L2
section
variable {K : PySem.W.Frag} {w : Wl} {H : Hp} {v : V}
theorem VRel.int_inv {i : Int} (h : VRel K w H v (.p (.int i))) : v = .int i := by cases h; rfl
theorem VRel.bl_inv {i : Bool} (h : VRel K w H v (.p (.bl i))) : v = .bl i := by cases h; rfl
theorem VRel.str_inv {x : List Nat} (h : VRel K w H v (.p (.str x))) : v = .str ⟨x.toArray⟩ ∧ sOk x := by
  cases h with
  | str _ z => exact ⟨rfl, z⟩
theorem VRel.tup_inv {l : List PVm} (h : VRel K w H v (.p (.tup l))) : ∃ a vs, v = .ref a ∧ H a = some (.tup vs) ∧ RpL K H w vs l := by
  cases h with
  | tup h1 h2 => exact ⟨_, _, rfl, h1, h2⟩
theorem VRel.lst_inv {u : Viewm} {l : List PVm} (h : VRel K w H v u) (e : u.lstOf = some l) : ∃ a vs, v = .ref a ∧ H a = some (.lst vs) ∧ RpL K H w vs l := by
  cases u with
  | p p =>
    cases p <;> try (cases e; done)
    cases e
    cases h with
    | lst h1 h2 => exact ⟨_, _, rfl, h1.2, h2⟩
  | m o =>
    cases o <;> try (cases e; done)
    cases e
    obtain ⟨a, e, vs, h1, h2⟩ := h
    exact ⟨a, vs, e, h1, h2⟩
theorem VRel.seq_inv {u : Viewm} {l : List PVm} (h : VRel K w H v u) (e : u.seqOf = some l) : ∃ a vs, v = .ref a ∧ (SqL K H a vs ∨ H a = some (.tup vs)) ∧ RpL K H w vs l := by
  cases u with
  | p p =>
    cases p <;> try (cases e; done)
    · cases e
      cases h with
      | tup h1 h2 => exact ⟨_, _, rfl, .inr h1, h2⟩
    · cases e
      cases h with
      | lst h1 h2 => exact ⟨_, _, rfl, .inl (SqL.of h1.2), h2⟩
    · cases e
      cases h with
      | rol h1 h2 => exact ⟨_, _, rfl, .inl h1.sq, h2⟩
  | m o =>
    cases o <;> try (cases e; done)
    cases e
    obtain ⟨a, e, vs, h1, h2⟩ := h
    exact ⟨a, vs, e, .inl (SqL.of h1), h2⟩
end
theorem slen (s : List Nat) : (⟨s.toArray⟩ : Str).length = s.length := by
  show s.toArray.size = s.length
  simp
theorem sapp (s t : List Nat) : (⟨s.toArray⟩ : Str) ++ ⟨t.toArray⟩ = ⟨(s ++ t).toArray⟩ := by
  show (⟨s.toArray ++ t.toArray⟩ : Str) = _
  simp
theorem sl_eq : (sizeLine : Nat) = 16777216 := sizeLine_eq
theorem opt_inv {α : Type} {c : Prop} [Decidable c] {x y : α} (h : (if c then some x else none) = some y) : c ∧ x = y := by
  split at h
  · exact ⟨by assumption, Option.some.inj h⟩
  · cases h

/-- an operator, by its function on views -/
def rBin (K : PySem.W.Frag) (f : Viewm → Viewm → Option RVm) : R2 := fun x y H Q => ∃ w u v r, VRel K w H x u ∧ VRel K w H y v ∧ f u v = some r ∧ ∀ z H', Gives K w H r z H' → Q z H'
section
variable {X : Cx}
theorem ob_add : OpR X (binaryOp .Add) (rBin X.K addV) := by
  intro pins s σ H x y v u Q I rx ry ⟨w, a, b, r, ha, hb, e, q⟩
  unfold addV at e
  split at e
  · split at e <;> try (cases e; done)
    cases e
    obtain rfl := ha.int_inv
    obtain rfl := hb.int_inv
    exact op_add pins s σ H _ _ v u Q I rx ry ⟨_, _, rfl, rfl, q _ _ (.val (.int _))⟩
  · split at e <;> try (cases e; done)
    obtain ⟨hl, rfl⟩ := opt_inv e
    obtain ⟨rfl, h1⟩ := ha.str_inv
    obtain ⟨rfl, h2⟩ := hb.str_inv
    refine op_add_str pins s σ H _ _ v u Q I rx ry ⟨_, _, rfl, rfl, by rw [slen, slen, sl_eq]; exact hl, ?_⟩
    rw [sapp]
    exact q _ _ (.val (.str _ ⟨by rw [List.length_append]; exact hl, fun c hc => (List.mem_append.mp hc).elim (h1.2 c) (h2.2 c)⟩))
  · split at e <;> try (cases e; done)
    obtain ⟨hl, rfl⟩ := opt_inv e
    obtain ⟨p, xs, rfl, h1, r1⟩ := ha.tup_inv
    obtain ⟨p', ys, rfl, h2, r2⟩ := hb.tup_inv
    refine op_catA pins s σ H _ _ v u Q I rx ry ⟨p, p', xs, ys, rfl, rfl, tuT h1, tuT h2, by rw [r1.length, r2.length, sl_eq]; exact hl, fun z => ?_, fun _ z => ?_, fun _ _ t ht => ?_⟩
    · subst z
      cases r1
      exact q _ _ (.val (.tup h2 r2))
    · subst z
      cases r2
      exact q _ _ (.val (.tup h1 (by rw [List.append_nil]; exact r1)))
    · exact q _ _ (.tup ht (r1.app r2))
  · unfold lstAdd at e
    split at e <;> try (cases e; done)
    rename_i e1 e2
    obtain ⟨hl, rfl⟩ := opt_inv e
    obtain ⟨p, xs, rfl, h1, r1⟩ := ha.lst_inv e1
    obtain ⟨p', ys, rfl, h2, r2⟩ := hb.lst_inv e2
    exact op_cat pins s σ H _ _ v u Q I rx ry ⟨p, p', xs, ys, rfl, rfl, h1, h2, by rw [r1.length, r2.length, sl_eq]; exact hl, fun t ht => q _ _ (.lst ht (r1.app r2))⟩
theorem ob_sub : OpR X (binaryOp .Sub) (rBin X.K subV) := by
  intro pins s σ H x y v u Q I rx ry ⟨w, a, b, r, ha, hb, e, q⟩
  unfold subV at e
  split at e <;> try (cases e; done)
  cases e
  obtain rfl := ha.int_inv
  obtain rfl := hb.int_inv
  exact op_sub pins s σ H _ _ v u Q I rx ry ⟨_, _, rfl, rfl, q _ _ (.val (.int _))⟩
theorem mulOk_ok {i j : Int} (h : mulOk i j = true) : IntMulOk i j := by
  unfold mulOk at h
  simp only [Bool.or_eq_true, decide_eq_true_eq] at h
  rcases h with (h | h) | h
  · exact CMul.ok (.inl ⟨by omega, by omega⟩)
  · exact CMul.ok (.inr ⟨by omega, by omega⟩)
  · exact CMulW.ok h
theorem op_mulA : OpR X (binaryOp .Mult) (rI (fun i j => IntMulOk i j) fun i j => .int (i * j)) := opI fun _ _ _ _ _ _ _ hc q => mul_int q hc
theorem repOk_ok {k : Int} {n : Nat} (h : repOk k n = true) : -(2 ^ 63) ≤ k ∧ k < 2 ^ 63 ∧ n * k.toNat ≤ 16777216 := by
  unfold repOk at h
  simp only [Bool.and_eq_true, decide_eq_true_eq] at h
  exact ⟨h.1.1, h.1.2, h.2⟩
theorem rep_str (l : List Nat) : ∀ (m : Nat) (acc : Array Nat), (List.replicate m l.toArray).foldl (· ++ ·) acc = acc ++ ((List.replicate m l).flatten).toArray
  | 0, acc => by simp
  | m + 1, acc => by
    rw [List.replicate_succ, List.replicate_succ, List.foldl_cons, rep_str l m, List.flatten_cons]
    simp
theorem rep_len {α : Type} (k : Int) (l : List α) : (rep k l).length = l.length * k.toNat := by
  unfold rep
  rw [List.length_flatten, List.map_replicate, List.sum_replicate_nat, Nat.mul_comm]
theorem op_mul_str : OpR X (binaryOp .Mult) (fun x y H Q => ∃ (l : List Nat) (k : Int), x = .str ⟨l.toArray⟩ ∧ y = .int k ∧ repOk k l.length = true ∧ Q (.str ⟨(rep k l).toArray⟩) H) := by
  intro pins s σ H x y v u Q I rx ry ⟨l, k, e1, e2, hr, q⟩
  subst e1 e2
  obtain ⟨t, rfl⟩ := rx
  obtain ⟨t', rfl⟩ := ry
  obtain ⟨h1, h2, h3⟩ := repOk_ok hr
  have hs : (⟨l.toArray⟩ : Str).length = l.length := slen l
  refine PySem.P.mul_str ?_ (fun hk hz => ?_) (fun hk hz => ?_) ?_
  · rw [decide_eq_false (by omega), decide_eq_false (by omega)]
    rfl
  · rw [hs]
    intro hc
    have hk2 : (0 : Int) < k := by omega
    have : ((l.length : Int) * k) ≤ 16777216 := by
      have z : ((l.length * k.toNat : Nat) : Int) ≤ ((16777216 : Nat) : Int) := Int.ofNat_le.mpr h3
      rw [Int.natCast_mul, Int.toNat_of_nonneg (by omega)] at z
      exact z
    have h4 : (l.length : Int) ≤ (2 ^ 63 - 1) / k := (Int.le_ediv_iff_mul_le hk2).mpr (by omega)
    omega
  · rw [hs]
    have e := sl_eq
    exact decide_eq_false (by omega)
  · by_cases hk : k < 1
    · rw [if_pos hk]
      refine ⟨by decide, ⟨.str _, H, I.tok _, ⟨_, rfl⟩, ?_⟩⟩
      have : rep k l = [] := by
        unfold rep
        have : k.toNat = 0 := by omega
        rw [this]; rfl
      rw [this] at q
      exact q
    · rw [if_neg hk]
      by_cases hz : (k == 1 || (⟨l.toArray⟩ : Str).length == 0) = true
      · rw [if_pos hz]
        refine ⟨.str _, H, I, ⟨_, rfl⟩, ?_⟩
        have : rep k l = l := by
          rw [Bool.or_eq_true] at hz
          unfold rep
          rcases hz with hz | hz
          · have : k = 1 := by simpa using hz
            subst this
            simp
          · rw [hs] at hz
            have : l = [] := List.length_eq_zero_iff.mp (by simpa using hz)
            subst this
            simp
        rw [this] at q
        exact q
      · rw [if_neg hz]
        have e : (⟨(List.replicate k.toNat l.toArray).foldl (· ++ ·) #[]⟩ : Str) = ⟨(rep k l).toArray⟩ := by
          rw [rep_str]
          unfold rep
          simp
        show Made.post (Made.str (⟨(List.replicate k.toNat l.toArray).foldl (· ++ ·) #[]⟩ : Str)) _ _
        rw [e]
        refine ⟨?_, ⟨.str _, H, I.tok _, ⟨_, rfl⟩, q⟩⟩
        show (⟨(rep k l).toArray⟩ : Str).length ≤ _
        rw [slen, rep_len]
        have e := sl_eq
        omega
/-! ### a tuple times 0, times 1 -/
theorem tuple_mulS (l : Addr) (items : Array Value) (n : Nat) (sl : Array (Option Value)) (x : Int) (u : Tok) (c0 : (decide (x < -(2 ^ 63)) || decide (x ≥ 2 ^ 63)) = false) (c1 : (items.isEmpty || x == 1) = true) (dd : Option Addr) :
    Meets (Builtin.«tuple.__mul__» ⟨[.ref l, .int x u], []⟩) (fun _ R s => s.heap.get? l = some { cls := .type "tuple", dict := dd, data := .seq items n, slots := sl } ∧ R (.ok (.ret (.ref l))) s) :=
  .of_wp fun prog w A R s h => by
    obtain ⟨hp, g, d, tk, os⟩ := s
    obtain ⟨hl, h⟩ := h
    have f1 := AutoSeq1.idx_int
    wp_walk using wpAny_loadPart' hl
    repeat (first
      | (refine wpAny_ite_false (decide_eq_false (by rw [c0]; exact Bool.false_ne_true)) ?_; wp_walk using wpAny_loadPart' hl)
      | (refine wpAny_ite_true (decide_eq_true c1) ?_; wp_walk using wpAny_loadPart' hl))
    exact ⟨_, rfl, h⟩
theorem tuple_mul0 (l : Addr) (items : Array Value) (n : Nat) (sl : Array (Option Value)) (x : Int) (u : Tok) (c0 : (decide (x < -(2 ^ 63)) || decide (x ≥ 2 ^ 63)) = false) (c1 : (items.isEmpty || x == 1) = false) (c2 : (decide (x ≤ 0) || items.isEmpty) = true) (dd : Option Addr) :
    Meets (Builtin.«tuple.__mul__» ⟨[.ref l, .int x u], []⟩) (fun _ R s => s.heap.get? l = some { cls := .type "tuple", dict := dd, data := .seq items n, slots := sl } ∧
      R (.ok (.ret (Value.ref s.heap.objs.size))) { s with heap := s.heap.push { cls := Value.type "tuple", data := Data.seq #[] }, toks := s.toks }) :=
  .of_wp fun prog w A R s h => by
    obtain ⟨hp, g, d, tk, os⟩ := s
    obtain ⟨hl, h⟩ := h
    have f1 := AutoSeq1.idx_int
    wp_walk using wpAny_loadPart' hl
    repeat (first
      | (refine wpAny_ite_false (decide_eq_false (by rw [c0]; exact Bool.false_ne_true)) ?_; wp_walk using wpAny_loadPart' hl)
      | (refine wpAny_ite_false (decide_eq_false (by rw [c1]; exact Bool.false_ne_true)) ?_; wp_walk using wpAny_loadPart' hl)
      | (refine wpAny_ite_true (decide_eq_true c2) ?_; wp_walk using wpAny_loadPart' hl))
    exact ⟨_, rfl, h⟩
theorem op_repS : OpR X (binaryOp .Mult) (fun x y H Q => ∃ l k xs, x = .ref l ∧ y = .int k ∧ SqT X.K H l xs ∧ -(2 ^ 63) ≤ k ∧ k < 2 ^ 63 ∧ (xs = [] ∨ k = 1) ∧ Q (.ref l) H) := by
  intro pins s σ H x y v u Q I rx ry h
  obtain ⟨l, k, xs, rfl, rfl, hT, h1, h2, h3, q⟩ := h
  cases rx
  obtain ⟨t, rfl⟩ := ry
  obtain ⟨its, r, ⟨⟨cls, dd, data, sl⟩, ho, hc, n, hd⟩, hs⟩ := I.tuple hT
  simp only at hc hd
  subst hc hd
  have c0 : (decide (k < -(2 ^ 63)) || decide (k ≥ 2 ^ 63)) = false := by
    rw [decide_eq_false (by omega), decide_eq_false (by omega)] <;> rfl
  have c1 : (its.toArray.isEmpty || k == 1) = true := by
    rcases h3 with rfl | rfl
    · cases r; rfl
    · simp
  exact wpAny_binaryOp_repeat_ref (T := "tuple") (U := "int") (by decide) ⟨_, ho, rfl⟩ (fun s' => typeIs_int s' k t) noFill_tuple_mul F.fills_int_mul F.slot_int_rmul repeat_tuple F.slot_int_index.lookup
    (call_meets F.slot_int_rmul (typeIs_int s k t) F.entry_int_rmul (F.args_int_rmul_2 _ _) (int_rmul_tuple k t l its.toArray n dd sl)
      ⟨ho, rfl, ⟨_, ho, rfl⟩, call_meets F.slot_tuple_mul ⟨_, ho, rfl⟩ F.entry_tuple_mul (F.args_tuple_mul_2 _ _) (tuple_mulS l its.toArray n sl k t c0 c1 dd) ⟨ho, ⟨.ref l, H, I, rfl, q⟩⟩⟩)
theorem op_rep0 : OpR X (binaryOp .Mult) (fun x y H Q => ∃ l k xs, x = .ref l ∧ y = .int k ∧ SqT X.K H l xs ∧ -(2 ^ 63) ≤ k ∧ k ≤ 0 ∧ xs ≠ [] ∧ ∀ p, H p = none → Q (.ref p) (upd H p (.tup []))) := by
  intro pins s σ H x y v u Q I rx ry h
  obtain ⟨l, k, xs, rfl, rfl, hT, h1, h2, h3, q⟩ := h
  cases rx
  obtain ⟨t, rfl⟩ := ry
  obtain ⟨its, r, ⟨⟨cls, dd, data, sl⟩, ho, hc, n, hd⟩, hs⟩ := I.tuple hT
  simp only at hc hd
  subst hc hd
  have c0 : (decide (k < -(2 ^ 63)) || decide (k ≥ 2 ^ 63)) = false := by
    rw [decide_eq_false (by omega), decide_eq_false (by omega)] <;> rfl
  have hi : its.toArray.isEmpty = false := by
    cases its with
    | nil => cases r; exact absurd rfl h3
    | cons a b => rfl
  have c1 : (its.toArray.isEmpty || k == 1) = false := by
    rw [hi, Bool.false_or]
    exact beq_eq_false_iff_ne.mpr (by omega)
  have c2 : (decide (k ≤ 0) || its.toArray.isEmpty) = true := by
    rw [decide_eq_true h2] <;> rfl
  refine wpAny_binaryOp_repeat_ref (T := "tuple") (U := "int") (by decide) ⟨_, ho, rfl⟩ (fun s' => typeIs_int s' k t) noFill_tuple_mul F.fills_int_mul F.slot_int_rmul repeat_tuple F.slot_int_index.lookup
    (call_meets F.slot_int_rmul (typeIs_int s k t) F.entry_int_rmul (F.args_int_rmul_2 _ _) (int_rmul_tuple k t l its.toArray n dd sl)
      ⟨ho, rfl, ⟨_, ho, rfl⟩, call_meets F.slot_tuple_mul ⟨_, ho, rfl⟩ F.entry_tuple_mul (F.args_tuple_mul_2 _ _) (tuple_mul0 l its.toArray n sl k t c0 c1 c2 dd) ⟨ho, ?_⟩⟩)
  refine ⟨.ref s.heap.objs.size, _, I.laid (t' := s.toks) (o := .tup []) (fun b ob q => Heap.get?_push_of_some _ q) (Nat.le_refl _) ?_, rfl, q _ (I.hok.fresh (Nat.le_refl _))⟩
  exact ⟨Nat.zero_le _, [], .nil, IsTup.new _ _⟩
theorem ob_mul : OpR X (binaryOp .Mult) (rBin X.K mulV) := by
  intro pins s σ H x y v u Q I rx ry ⟨w, a, b, r, ha, hb, e, q⟩
  unfold mulV at e
  split at e <;> try (cases e; done)
  obtain rfl := hb.int_inv
  split at e
  · obtain ⟨hl, rfl⟩ := opt_inv e
    obtain rfl := ha.int_inv
    exact op_mulA pins s σ H _ _ v u Q I rx ry ⟨_, _, rfl, rfl, mulOk_ok hl, q _ _ (.val (.int _))⟩
  · obtain ⟨hl, rfl⟩ := opt_inv e
    obtain ⟨rfl, h1⟩ := ha.str_inv
    refine op_mul_str pins s σ H _ _ v u Q I rx ry ⟨_, _, rfl, rfl, hl, q _ _ (.val (.str _ ⟨?_, fun c hc => h1.2 c ?_⟩))⟩
    · rw [rep_len]
      exact (repOk_ok hl).2.2
    · unfold rep at hc
      obtain ⟨l, hl, hc⟩ := List.mem_flatten.mp hc
      rw [List.eq_of_mem_replicate hl] at hc
      exact hc
  · rename_i k _ a
    obtain ⟨⟨h2, h3, h4⟩, rfl⟩ := opt_inv e
    obtain ⟨p, xs, rfl, hs, r1⟩ := ha.tup_inv
    have hl := r1.length
    by_cases h1 : xs = []
    · subst h1
      cases r1
      refine op_repS pins s σ H _ _ v u Q I rx ry ⟨_, _, _, rfl, rfl, tuT hs, h2, by omega, .inl rfl, q _ _ (.val ?_)⟩
      have e : ∀ k : Nat, (List.replicate k ([] : List PVm)).flatten = [] := fun k => by induction k with
        | zero => rfl
        | succ k ih => rw [List.replicate_succ, List.flatten_cons, ih]; rfl
      unfold rep
      rw [e]
      exact .tup hs .nil
    · by_cases h5 : k = 1
      · subst h5
        refine op_repS pins s σ H _ _ v u Q I rx ry ⟨_, _, _, rfl, rfl, tuT hs, h2, by omega, .inr rfl, q _ _ (.val ?_)⟩
        unfold rep
        show Rp _ _ _ _ (.tup (List.replicate 1 _).flatten)
        rw [List.replicate_one, List.flatten_singleton]
        exact .tup hs r1
      · by_cases h6 : k ≤ 0
        · refine op_rep0 pins s σ H _ _ v u Q I rx ry ⟨_, _, _, rfl, rfl, tuT hs, h2, h6, h1, fun t ht => q _ _ ?_⟩
          have e : k.toNat = 0 := by omega
          unfold rep
          rw [e]
          exact .tup ht .nil
        · exact op_repT pins s σ H _ _ v u Q I rx ry ⟨_, _, _, rfl, rfl, tuT hs, h1, by omega, h3, by omega, fun t ht => q _ _ (.tup ht (r1.rep _))⟩
  · unfold lstMul at e
    split at e <;> try (cases e; done)
    rename_i e1
    obtain ⟨hl, rfl⟩ := opt_inv e
    obtain ⟨p, xs, rfl, h1, r1⟩ := ha.lst_inv e1
    obtain ⟨g1, g2, g3⟩ := repOk_ok hl
    exact op_rep pins s σ H _ _ v u Q I rx ry ⟨p, _, xs, rfl, rfl, h1, g1, g2, by rw [r1.length, sl_eq]; exact g3, fun t ht => q _ _ (.lst ht (r1.rep _))⟩
theorem ob_fdiv : OpR X (binaryOp .FloorDiv) (rBin X.K fdivV) := by
  intro pins s σ H x y v u Q I rx ry ⟨w, a, b, r, ha, hb, e, q⟩
  unfold fdivV at e
  split at e <;> try (cases e; done)
  obtain ⟨hl, rfl⟩ := opt_inv e
  obtain rfl := ha.int_inv
  obtain rfl := hb.int_inv
  exact op_fdivW pins s σ H _ _ v u Q I rx ry ⟨_, _, rfl, rfl, hl, q _ _ (.val (.int _))⟩
theorem ob_mod : OpR X (binaryOp .Mod) (rBin X.K modV) := by
  intro pins s σ H x y v u Q I rx ry ⟨w, a, b, r, ha, hb, e, q⟩
  unfold modV at e
  split at e <;> try (cases e; done)
  obtain ⟨hl, rfl⟩ := opt_inv e
  obtain rfl := ha.int_inv
  obtain rfl := hb.int_inv
  exact op_mod pins s σ H _ _ v u Q I rx ry ⟨_, _, rfl, rfl, hl, q _ _ (.val (.int _))⟩
theorem ob_pow : OpR X (binaryOp .Pow) (rBin X.K powV) := by
  intro pins s σ H x y v u Q I rx ry ⟨w, a, b, r, ha, hb, e, q⟩
  unfold powV at e
  split at e <;> try (cases e; done)
  obtain ⟨hl, rfl⟩ := opt_inv e
  obtain rfl := ha.int_inv
  obtain rfl := hb.int_inv
  exact op_pow pins s σ H _ _ v u Q I rx ry ⟨_, _, rfl, rfl, hl, q _ _ (.val (.int _))⟩

/-! ### comparisons -/
def rCmp (K : PySem.W.Frag) (f : Viewm → Viewm → Option Bool) : R2 := fun x y H Q => ∃ w u v k, VRel K w H x u ∧ VRel K w H y v ∧ f u v = some k ∧ Q (.bl k) H
mutual
/-- as the library's data -/
def toD : PVm → PyData
  | .non => .none
  | .bl b => .bool b
  | .int i => .int i
  | .str s => .str ⟨s.toArray⟩
  | .tup l => .tuple (toDs l)
  | .lst l => .list (toDs l)
  | .rol _ => .none
  | .ref _ => .none
def toDs : List PVm → List PyData
  | [] => []
  | a :: as => toD a :: toDs as
end
theorem str_beq (a b : List Nat) : ((⟨a.toArray⟩ : Str) == ⟨b.toArray⟩) = (a == b) := by
  rw [Bool.eq_iff_iff, beq_iff_eq, beq_iff_eq]
  exact ⟨fun h => by injection h with h; simpa using h, fun h => by rw [h]⟩
mutual
theorem eqv_toD : ∀ a b : PVm, a.noref = true → b.noref = true → PyData.eqv (toD a) (toD b) = a.eqv b
  | .non, b, _, hb => by cases b <;> first | (cases hb; done) | simp [toD, PyData.eqv, PVm.eqv]
  | .bl _, b, _, hb => by cases b <;> first | (cases hb; done) | simp [toD, PyData.eqv, PVm.eqv, b2i]
  | .int _, b, _, hb => by cases b <;> first | (cases hb; done) | simp [toD, PyData.eqv, PVm.eqv, b2i]
  | .str x, b, _, hb => by
    cases b <;> first | (cases hb; done) | (simp [toD, PyData.eqv, PVm.eqv]; done) | skip
    rename_i y
    simp only [toD, PyData.eqv, PVm.eqv]
    exact str_beq x y
  | .ref _, _, h, _ => by cases h
  | .rol _, _, h, _ => by cases h
  | .tup x, b, h, hb => by
    cases b <;> first | (cases hb; done) | (simp [toD, PyData.eqv, PVm.eqv]; done) | skip
    rename_i y
    simp only [toD, PyData.eqv, PVm.eqv]
    exact eqv_toDs x y h hb
  | .lst x, b, h, hb => by
    cases b <;> first | (cases hb; done) | (simp [toD, PyData.eqv, PVm.eqv]; done) | skip
    rename_i y
    simp only [toD, PyData.eqv, PVm.eqv]
    exact eqv_toDs x y h hb
theorem eqv_toDs : ∀ a b : List PVm, PVm.norefL a = true → PVm.norefL b = true → PyData.eqvAll (toDs a) (toDs b) = PVm.eqvL a b
  | [], b, _, _ => by cases b <;> simp [toDs, PyData.eqvAll, PVm.eqvL]
  | a :: as, b, h, hb => by
    cases b with
    | nil => simp [toDs, PyData.eqvAll, PVm.eqvL]
    | cons b bs =>
      simp only [PVm.norefL, Bool.and_eq_true] at h hb
      simp only [toDs, PyData.eqvAll, PVm.eqvL, eqv_toD a b h.1 hb.1, eqv_toDs as bs h.2 hb.2]
end
mutual
theorem depth_toD : ∀ a : PVm, (toD a).depth = a.depth
  | .non => rfl
  | .bl _ => rfl
  | .int _ => rfl
  | .str _ => rfl
  | .ref _ => rfl
  | .rol _ => rfl
  | .tup l => by simp only [toD, PyData.depth, PVm.depth, depth_toDs l]
  | .lst l => by simp only [toD, PyData.depth, PVm.depth, depth_toDs l]
theorem depth_toDs : ∀ a : List PVm, PyData.depthAll (toDs a) = PVm.depthL a
  | [] => rfl
  | a :: as => by simp only [toDs, PyData.depthAll, PVm.depthL, depth_toD a, depth_toDs as]
end
section
variable {K : PySem.W.Frag} {w : Wl} {H : Hp}
mutual
theorem Rp.dp : ∀ {v : V} {p : PVm}, Rp K H w v p → p.noref = true → Dp K H v (toD p) ∧ (toD p).canLay0 = true
  | _, _, .non, _ => ⟨.non, rfl⟩
  | _, _, .bl b, _ => ⟨.bl b, rfl⟩
  | _, _, .int i, _ => ⟨.int i, rfl⟩
  | _, _, .str s h, _ => ⟨.str _, by
      show PyData.strOk _ = true
      unfold PyData.strOk
      rw [Array.all_eq_true']
      intro c hc
      exact decide_eq_true (h.2 c (by simpa using hc))⟩
  | _, _, .tup h r, n => ⟨.tup (tuT h) (RpL.dp r n).1, (RpL.dp r n).2⟩
  | _, _, .lst h r, n => ⟨.lst (SqL.of h.2) (RpL.dp r n).1, (RpL.dp r n).2⟩
  | _, _, .rol h r, n => by cases n
  | _, _, .ref h, n => by cases n
theorem RpL.dp : ∀ {v : List V} {p : List PVm}, RpL K H w v p → PVm.norefL p = true → DpAll K H v (toDs p) ∧ PyData.canLayAll0 (toDs p) = true
  | _, _, .nil, _ => ⟨.nil, rfl⟩
  | _, _, .cons r t, n => by
    simp only [PVm.norefL, Bool.and_eq_true] at n
    exact ⟨.cons (Rp.dp r n.1).1 (RpL.dp t n.2).1, by
      simp only [toDs, PyData.canLayAll0, Bool.and_eq_true]
      exact ⟨(Rp.dp r n.1).2, (RpL.dp t n.2).2⟩⟩
end
theorem Rp.dpOk {v : V} {p : PVm} (h : Rp K H w v p) (c : p.cmpOk = true) : Dp K H v (toD p) ∧ SeqAt.shaped (toD p) = true := by
  unfold PVm.cmpOk at c
  simp only [Bool.and_eq_true, decide_eq_true_eq] at c
  obtain ⟨h1, h2⟩ := h.dp c.1
  refine ⟨h1, ?_⟩
  unfold SeqAt.shaped
  simp only [Bool.and_eq_true, decide_eq_true_eq]
  exact ⟨h2, by rw [depth_toD]; omega⟩
/-- a view that may be compared -/
theorem VRel.dpOk {v : V} {u : Viewm} {p : PVm} (h : VRel K w H v u) (e : u.pv = some p) (c : p.cmpOk = true) : Dp K H v (toD p) ∧ SeqAt.shaped (toD p) = true := by
  cases u with
  | p q => cases e; exact Rp.dpOk h c
  | m o =>
    cases o <;> try (cases e; done)
    cases e
    obtain ⟨a, rfl, vs, h1, h2⟩ := h
    unfold PVm.cmpOk at c
    simp only [Bool.and_eq_true, decide_eq_true_eq] at c
    obtain ⟨g1, g2⟩ := h2.dp c.1
    refine ⟨.lst (SqL.of h1) g1, ?_⟩
    unfold SeqAt.shaped
    simp only [Bool.and_eq_true, decide_eq_true_eq]
    exact ⟨g2, by rw [depth_toD]; omega⟩
end
theorem eqO_inv {x y : Option PVm} {k : Bool} (h : eqO x y = some k) : ∃ a b, x = some a ∧ y = some b ∧ a.cmpOk = true ∧ b.cmpOk = true ∧ k = a.eqv b := by
  unfold eqO at h
  split at h <;> try (cases h; done)
  obtain ⟨c, rfl⟩ := opt_inv h
  rw [Bool.and_eq_true] at c
  exact ⟨_, _, rfl, rfl, c.1, c.2, rfl⟩
theorem noref_of {a : PVm} (h : a.cmpOk = true) : a.noref = true := by
  unfold PVm.cmpOk at h
  simp only [Bool.and_eq_true] at h
  exact h.1
theorem oc_eq (hu : X.A.units + 64 < cLine) : OpR X (compareOp .Eq) (rCmp X.K (cmpV .eq)) := by
  intro pins s σ H x y v u Q I rx ry ⟨w, a, b, k, ha, hb, e, q⟩
  obtain ⟨p, p', e1, e2, c1, c2, rfl⟩ := eqO_inv e
  obtain ⟨d1, s1⟩ := ha.dpOk e1 c1
  obtain ⟨d2, s2⟩ := hb.dpOk e2 c2
  refine op_eqD hu pins s σ H x y v u Q I rx ry ⟨_, _, d1, d2, s1, s2, ?_⟩
  rw [eqv_toD _ _ (noref_of c1) (noref_of c2)]
  exact q
theorem oc_ne (hu : X.A.units + 64 < cLine) : OpR X (compareOp .NotEq) (rCmp X.K (cmpV .ne)) := by
  intro pins s σ H x y v u Q I rx ry ⟨w, a, b, k, ha, hb, e, q⟩
  obtain ⟨k', e', rfl⟩ := Option.map_eq_some_iff.mp e
  obtain ⟨p, p', e1, e2, c1, c2, rfl⟩ := eqO_inv e'
  obtain ⟨d1, s1⟩ := ha.dpOk e1 c1
  obtain ⟨d2, s2⟩ := hb.dpOk e2 c2
  refine op_neD hu pins s σ H x y v u Q I rx ry ⟨_, _, d1, d2, s1, s2, ?_⟩
  rw [eqv_toD _ _ (noref_of c1) (noref_of c2)]
  exact q
theorem ltO_inv {x y : Viewm} {k : Bool} (h : ltO x y = some k) : (∃ a b, x = .p (.int a) ∧ y = .p (.int b) ∧ k = decide (a < b)) ∨ ∃ a b, x = .p (.str a) ∧ y = .p (.str b) ∧ k = strLt a b := by
  unfold ltO at h
  split at h <;> try (cases h; done)
  · exact .inl ⟨_, _, rfl, rfl, (Option.some.inj h).symm⟩
  · exact .inr ⟨_, _, rfl, rfl, (Option.some.inj h).symm⟩
theorem leO_inv {x y : Viewm} {k : Bool} (h : leO x y = some k) : ∃ a b, x = .p (.int a) ∧ y = .p (.int b) ∧ k = decide (a ≤ b) := by
  unfold leO at h
  split at h <;> try (cases h; done)
  exact ⟨_, _, rfl, rfl, (Option.some.inj h).symm⟩
theorem oc_lt : OpR X (compareOp .Lt) (rCmp X.K (cmpV .lt)) := by
  intro pins s σ H x y v u Q I rx ry ⟨w, a, b, k, ha, hb, e, q⟩
  rcases ltO_inv e with ⟨i, j, rfl, rfl, rfl⟩ | ⟨i, j, rfl, rfl, rfl⟩
  · obtain rfl := ha.int_inv
    obtain rfl := hb.int_inv
    exact op_lt pins s σ H _ _ v u Q I rx ry ⟨_, _, rfl, rfl, q⟩
  · obtain ⟨rfl, _⟩ := ha.str_inv
    obtain ⟨rfl, _⟩ := hb.str_inv
    exact op_lt_str pins s σ H _ _ v u Q I rx ry ⟨_, _, rfl, rfl, q⟩
theorem oc_gt : OpR X (compareOp .Gt) (rCmp X.K (cmpV .gt)) := by
  intro pins s σ H x y v u Q I rx ry ⟨w, a, b, k, ha, hb, e, q⟩
  rcases ltO_inv e with ⟨i, j, rfl, rfl, rfl⟩ | ⟨i, j, rfl, rfl, rfl⟩
  · obtain rfl := ha.int_inv
    obtain rfl := hb.int_inv
    exact op_gt pins s σ H _ _ v u Q I rx ry ⟨_, _, rfl, rfl, q⟩
  · obtain ⟨rfl, _⟩ := ha.str_inv
    obtain ⟨rfl, _⟩ := hb.str_inv
    exact op_gt_str pins s σ H _ _ v u Q I rx ry ⟨_, _, rfl, rfl, q⟩
theorem oc_le : OpR X (compareOp .LtE) (rCmp X.K (cmpV .le)) := by
  intro pins s σ H x y v u Q I rx ry ⟨w, a, b, k, ha, hb, e, q⟩
  obtain ⟨i, j, rfl, rfl, rfl⟩ := leO_inv e
  obtain rfl := ha.int_inv
  obtain rfl := hb.int_inv
  exact op_le pins s σ H _ _ v u Q I rx ry ⟨_, _, rfl, rfl, q⟩
theorem oc_ge : OpR X (compareOp .GtE) (rCmp X.K (cmpV .ge)) := by
  intro pins s σ H x y v u Q I rx ry ⟨w, a, b, k, ha, hb, e, q⟩
  obtain ⟨i, j, rfl, rfl, rfl⟩ := leO_inv e
  obtain rfl := ha.int_inv
  obtain rfl := hb.int_inv
  exact op_ge pins s σ H _ _ v u Q I rx ry ⟨_, _, rfl, rfl, q⟩
end
end Mp

set_option Elab.async false
set_option linter.all false
set_option maxRecDepth 100000
set_option maxHeartbeats 1000000
/-! Mp4: lists of outcomes; freezing; writing; subscripts, built-ins, methods by views. -/
namespace Mp
open PySem PySem.Spec PyProof.Rows L2

/-! ### lists of outcomes -/
def ResAL : List RVm → List V → Addr → Prop
  | r :: rs, v :: vs, a => ResA r v a ∨ ResAL rs vs a
  | _, _, _ => False
inductive RRelL (K : PySem.W.Frag) (w : Wl) (σ : L2.St) (H : Hp) : List V → List RVm → Prop
  | nil : RRelL K w σ H [] []
  | cons {v : V} {vs : List V} {r : RVm} {rs : List RVm} : RRel K w σ H v r → RRelL K w σ H vs rs → (∀ a, ResA r v a → ¬ ResAL rs vs a) → RRelL K w σ H (v :: vs) (r :: rs)
theorem ResAL.mem {K : PySem.W.Frag} {w : Wl} {σ : L2.St} {H : Hp} : ∀ {vs : List V} {rs : List RVm} {a : Addr}, RRelL K w σ H vs rs → ResAL rs vs a → ∃ (i : Nat) (r : RVm) (v : V), rs[i]? = some r ∧ vs[i]? = some v ∧ ResA r v a ∧ RRel K w σ H v r
  | _, _, a, .nil, h => h.elim
  | _, _, a, .cons r t _, h => by
    rcases h with h | h
    · exact ⟨0, _, _, rfl, rfl, h, r⟩
    · obtain ⟨i, r', v', h1, h2, h3, h4⟩ := ResAL.mem t h
      exact ⟨i + 1, r', v', by simpa using h1, by simpa using h2, h3, h4⟩
structure PostA (K : PySem.W.Frag) (w : Wl) (σ : L2.St) (H : Hp) (st : Sm) (rs : List RVm) (st' : Sm) (vs : List V) (H' : Hp) (w' : Wl) : Prop where
  le : w.le w'
  rel : Rel K w' σ H' st'
  res : RRelL K w' σ H' vs rs
  ext : Ext H (Foot st.env σ w) w.S H' (fun a => Foot st'.env σ w' a ∨ ResAL rs vs a) w'.S
  new : ∀ a, ResAL rs vs a → ¬ Foot st'.env σ w' a
  len : st'.env.length = st.env.length
section
variable {T : ExT} {K : PySem.W.Frag} {W : WX} {w w1 w2 : Wl} {σ σ2 : L2.St} {H H1 H2 : Hp} {st st1 st2 : Sm} {r r2 : RVm} {v v2 : V} {rs : List RVm} {vs : List V}
def EndA (T : ExT) (K : PySem.W.Frag) (W : WX) (w : Wl) (σ : L2.St) (H : Hp) (st : Sm) (Q : List V → Hp → Prop) : Resm (List RVm) → Prop
  | .stuck => False
  | .err x st' => ∀ cls d H' w', PostX T K w σ H st x st' cls d σ H' w' → W cls d σ H'
  | .ok rs st' => ∀ vs H' w', PostA K w σ H st rs st' vs H' w' → Q vs H'
def rdA (T : ExT) (K : PySem.W.Frag) (W : WX) (m : Sm → Resm (List RVm)) : TA := fun σ H Q => ∃ w st, Rel K w σ H st ∧ EndA T K W w σ H st Q (m st)
theorem RRelL.stay {w' : Wl} {H' : Hp} (st : Stays w H H') (le : w.le w') : ∀ {vs : List V} {rs : List RVm}, RRelL K w σ H vs rs → (∀ a, ResAL rs vs a → H' a = H a ∧ ¬ w'.S a) → RRelL K w' σ H' vs rs
  | _, _, .nil, _ => .nil
  | _, _, .cons (r := r) q t d, h => by
    refine .cons ?_ (RRelL.stay st le t fun a z => h a (.inr z)) d
    cases r with
    | val p => exact Rp.stay st le q
    | own o =>
      obtain ⟨a, e, m, n⟩ := q
      have := h a (.inl ⟨⟨o, rfl⟩, e⟩)
      exact ⟨a, e, m.stay st le this.1, this.2⟩
    | «at» i => exact q
theorem PostA.nil (R : Rel K w σ H st) : PostA K w σ H st [] st [] H w := ⟨.refl w, R, .nil, Ext.refl.weak fun a h => h.elim id fun h => h.elim, fun a h => h.elim, rfl⟩
/-- an outcome, then a list of them -/
theorem PostA.cons (P : PostE K w σ H st r st1 v H1 w1) (Q : PostA K w1 σ H1 st1 rs st2 vs H2 w2) : PostA K w σ H st (r :: rs) st2 (v :: vs) H2 w2 := by
  have ap : ∀ a, ResA r v a → ¬ Foot st2.env σ w2 a ∧ ¬ ResAL rs vs a ∧ ¬ w2.S a := fun a h => by
    have := P.apart Q.ext a h
    exact ⟨fun z => this.1 (.inl z), fun z => this.1 (.inr z), this.2⟩
  refine ⟨P.le.trans Q.le, Q.rel, .cons (RRel.stay P Q.le Q.ext fun a h => (ap a h).2.2) Q.res fun a h => (ap a h).2.1, (P.ext.trans (fun _ h => .inl h) Q.ext).weak fun a h => ?_, fun a h => ?_, Q.len.trans P.len⟩
  · rcases h with h | h | h
    · exact .inl (.inl h)
    · exact .inr (.inr h)
    · exact .inl (.inr h)
  · rcases h with h | h
    · exact (ap a h).1
    · exact Q.new a h
theorem EndA.bindE {m : Resm RVm} {f : RVm → Sm → Resm (List RVm)} {Q : List V → Hp → Prop} (h : EndA T K W w σ H st Q (m.bind fun r st1 => (f r st1).bind fun rs st2 => .ok (r :: rs) st2)) :
    EndE T K W w σ H st (fun v H1 => ∃ r st1 w1, PostE K w σ H st r st1 v H1 w1 ∧ EndA T K W w1 σ H1 st1 (fun vs H2 => Q (v :: vs) H2) (f r st1)) m := by
  cases m with
  | stuck => exact h
  | err x st' => exact h
  | ok r st1 =>
    intro v H1 w1 P
    have h : EndA T K W w σ H st Q ((f r st1).bind fun rs st2 => .ok (r :: rs) st2) := h
    refine ⟨r, st1, w1, P, ?_⟩
    cases e : f r st1 with
    | stuck => rw [e] at h; exact h
    | err x st2 => rw [e] at h; exact fun cls d H' w' q => h cls d H' w' (PostX.after P q)
    | ok rs st2 => rw [e] at h; exact fun vs H2 w2 q => h (v :: vs) H2 w2 (.cons P q)
theorem EndA.mono {m : Resm (List RVm)} {Q Q' : List V → Hp → Prop} (h : EndA T K W w σ H st Q m) (i : ∀ v H, Q v H → Q' v H) : EndA T K W w σ H st Q' m := by
  cases m with
  | stuck => exact h
  | err x st' => exact h
  | ok r st1 => exact fun v H1 w1 P => i _ _ (h v H1 w1 P)
theorem PostX.afterA {x : Exm} {cls : Value} {d : Option Addr} (P : PostA K w σ H st rs st1 vs H1 w1) (Q : PostX T K w1 σ H1 st1 x st2 cls d σ2 H2 w2) : PostX T K w σ H st x st2 cls d σ2 H2 w2 :=
  ⟨P.le.trans Q.le, Q.rel, Q.exc, (P.ext.trans (fun _ h => .inl h) Q.ext).weak fun _ h => .inl h, Q.len.trans P.len⟩
theorem PostA.after (P : PostA K w σ H st rs st1 vs H1 w1) (Q : PostE K w1 σ H1 st1 r2 st2 v2 H2 w2) : PostE K w σ H st r2 st2 v2 H2 w2 :=
  ⟨P.le.trans Q.le, Q.rel, Q.res, (P.ext.trans (fun _ h => .inl h) Q.ext).weak fun _ h => .inl h, Q.new, Q.len.trans P.len⟩
theorem EndA.bind {m : Resm (List RVm)} {f : List RVm → Sm → Resm RVm} {Q : VK} (h : EndE T K W w σ H st Q (m.bind f)) :
    EndA T K W w σ H st (fun vs H1 => ∃ rs st1 w1, PostA K w σ H st rs st1 vs H1 w1 ∧ EndE T K W w1 σ H1 st1 Q (f rs st1)) m := by
  cases m with
  | stuck => exact h
  | err x st' => exact h
  | ok r st1 =>
    intro v H1 w1 P
    have h : EndE T K W w σ H st Q (f r st1) := h
    refine ⟨r, st1, w1, P, ?_⟩
    cases e : f r st1 with
    | stuck => rw [e] at h; exact h
    | err x st2 => rw [e] at h; exact fun cls d H' w' q => h cls d H' w' (PostX.afterA P q)
    | ok r2 st2 => rw [e] at h; exact fun v2 H2 w2 q => h v2 H2 w2 (P.after q)

/-! ### freezing -/
def addS (w : Wl) (a : Addr) : Wl := ⟨w.io, fun b => w.S b ∨ b = a⟩
theorem addS.le (w : Wl) (a : Addr) : w.le (addS w a) := ⟨fun _ _ h => h, fun _ h => .inl h⟩
theorem set_own {env : List Slotm} {i j : Nat} {s : Slotm} {o : MOm} (h : (env.set i s)[j]? = some (.own o) ∨ (env.set i s)[j]? = some (.lent o)) (hs : ∀ o, s ≠ .own o ∧ s ≠ .lent o) :
    j ≠ i ∧ (env[j]? = some (.own o) ∨ env[j]? = some (.lent o)) := by
  by_cases e : j = i
  · subst e
    rw [List.getElem?_set] at h
    simp only [if_true] at h
    split at h
    · rcases h with h | h
      · exact absurd (Option.some.inj h) (hs o).1
      · exact absurd (Option.some.inj h) (hs o).2
    · rcases h with h | h <;> cases h
  · rw [List.getElem?_set_ne (Ne.symm e)] at h
    exact ⟨e, h⟩
/-- slot i's own list is frozen -/
theorem Rel.freeze {i : Nat} {l : List PVm} (R : Rel K w σ H st) (h : st.env[i]? = some (.own (.lst l))) :
    ∃ a, σ[i]? = some (some (.ref a)) ∧ Rel K (addS w a) σ H { st with env := st.env.set i (.val (.lst l)) } ∧ Rp K H (addS w a) (.ref a) (.lst l) ∧ Foot st.env σ w a ∧
      ∀ b, Foot (st.env.set i (.val (.lst l))) σ (addS w a) b → Foot st.env σ w b := by
  obtain ⟨a, e, m⟩ := R.obj i _ (.inl h)
  have hi : i < st.env.length := (List.getElem?_eq_some_iff.mp h).1
  have hown : OwnAt st.env σ i a := ⟨e, _, .inl h⟩
  have st0 : Stays w H H := ⟨fun _ _ h => h, fun _ _ _ h => h, fun _ _ _ h => h⟩
  obtain ⟨vs, e1, rl⟩ := m
  have sub : ∀ b, Foot (st.env.set i (.val (.lst l))) σ (addS w a) b → Foot st.env σ w b ∧ b ≠ a := fun b f => by
    rcases f with f | ⟨j, e2, o, f⟩
    · exact ⟨.inl f, fun z => R.nio i a hown (by rw [← z]; exact f)⟩
    · obtain ⟨ne, f⟩ := set_own f fun o => ⟨(fun z => nomatch z), (fun z => nomatch z)⟩
      exact ⟨.inr ⟨j, e2, o, f⟩, fun z => ne (R.inj j i a (by rw [← z]; exact ⟨e2, o, f⟩) hown)⟩
  refine ⟨a, e, ⟨?_, fun j p h' => ?_, fun j o h' => ?_, R.hl, fun n b o h1 h2 => (R.hob n b o h1 h2).stay st0 (addS.le w a) rfl, R.nd, fun j b f => ?_, fun j k b f g => ?_, fun b f => ?_, fun b f => ?_⟩, .lst ⟨.inr rfl, e1⟩ (rl.stay st0 (addS.le w a)), .inr ⟨i, hown⟩, fun b f => (sub b f).1⟩
  · rw [R.len]; simp
  · by_cases ej : j = i
    · subst ej
      have h' : (st.env.set j (.val (.lst l)))[j]? = some (.val p) := h'
      rw [List.getElem?_set_self hi] at h'
      cases h'
      exact ⟨_, e, .lst ⟨.inr rfl, e1⟩ (rl.stay st0 (addS.le w a))⟩
    · have h' : (st.env.set i (.val (.lst l)))[j]? = some (.val p) := h'
      rw [List.getElem?_set_ne (Ne.symm ej)] at h'
      obtain ⟨x, e2, r⟩ := R.val j p h'
      exact ⟨x, e2, r.stay st0 (addS.le w a)⟩
  · obtain ⟨_, h'⟩ := set_own h' fun o => ⟨(fun z => nomatch z), (fun z => nomatch z)⟩
    obtain ⟨b, e2, m⟩ := R.obj j o h'
    exact ⟨b, e2, m.stay st0 (addS.le w a) rfl⟩
  · obtain ⟨e2, o, f⟩ := f
    obtain ⟨_, f⟩ := set_own f fun o => ⟨(fun z => nomatch z), (fun z => nomatch z)⟩
    exact R.nio j b ⟨e2, o, f⟩
  · obtain ⟨e2, o, f⟩ := f
    obtain ⟨e3, o', g⟩ := g
    obtain ⟨_, f⟩ := set_own f fun o => ⟨(fun z => nomatch z), (fun z => nomatch z)⟩
    obtain ⟨_, g⟩ := set_own g fun o => ⟨(fun z => nomatch z), (fun z => nomatch z)⟩
    exact R.inj j k b ⟨e2, o, f⟩ ⟨e3, o', g⟩
  · intro z
    obtain ⟨z1, z2⟩ := sub b z
    rcases f with f | f
    · exact R.sS b f z1
    · exact z2 f
  · rcases f with f | f
    · exact R.tS b f
    · rw [f, e1]; exact fun z => nomatch z
/-- a new object's address is frozen -/
theorem Rel.freezeN {a : Addr} (R : Rel K w σ H st) (hf : ¬ Foot st.env σ w a) (hn : H a ≠ none) : Rel K (addS w a) σ H st := by
  have st0 : Stays w H H := ⟨fun _ _ h => h, fun _ _ _ h => h, fun _ _ _ h => h⟩
  refine ⟨R.len, fun j p h' => ?_, fun j o h' => ?_, R.hl, fun n b o h1 h2 => (R.hob n b o h1 h2).stay st0 (addS.le w a) rfl, R.nd, R.nio, R.inj, fun b f => ?_, fun b f => ?_⟩
  · obtain ⟨x, e2, r⟩ := R.val j p h'
    exact ⟨x, e2, r.stay st0 (addS.le w a)⟩
  · obtain ⟨b, e2, m⟩ := R.obj j o h'
    exact ⟨b, e2, m.stay st0 (addS.le w a) rfl⟩
  · rcases f with f | f
    · exact R.sS b f
    · rw [f]; exact hf
  · rcases f with f | f
    · exact R.tS b f
    · rw [f]; exact hn
/-- fixR: the heap stays; what else is held stays new -/
structure PostF (K : PySem.W.Frag) (w : Wl) (σ : L2.St) (H : Hp) (st : Sm) (r : RVm) (v : V) (p : PVm) (st' : Sm) (w' : Wl) : Prop where
  le : w.le w'
  rel : Rel K w' σ H st'
  res : Rp K H w' v p
  foot : ∀ b, Foot st'.env σ w' b → Foot st.env σ w b
  S : ∀ b, w'.S b → w.S b ∨ Foot st.env σ w b ∨ ResA r v b
  len : st'.env.length = st.env.length
theorem fix_post {p : PVm} {st' : Sm} (R : Rel K w σ H st) (h : RRel K w σ H v r) (hn : ∀ a, ResA r v a → ¬ Foot st.env σ w a) (e : fixR r st = .ok p st') : ∃ w', PostF K w σ H st r v p st' w' := by
  unfold fixR at e
  split at e
  · cases e
    exact ⟨w, .refl w, R, h, fun _ z => z, fun _ z => .inl z, rfl⟩
  · cases e
    obtain ⟨a, rfl, ⟨vs, e1, rl⟩, ns⟩ := h
    have st0 : Stays w H H := ⟨fun _ _ h => h, fun _ _ _ h => h, fun _ _ _ h => h⟩
    exact ⟨addS w a, addS.le w a, R.freezeN (hn a ⟨⟨_, rfl⟩, rfl⟩) (by rw [e1]; exact fun z => nomatch z), .lst ⟨.inr rfl, e1⟩ (rl.stay st0 (addS.le w a)), fun _ z => z, fun b z => z.elim .inl fun z => .inr (.inr ⟨⟨_, rfl⟩, by rw [z]⟩), rfl⟩
  · cases e
  · rename_i i
    have h : σ[i]? = some (some v) := h
    split at e
    · rename_i l hl
      cases e
      obtain ⟨a, e1, R', rp, f1, f2⟩ := R.freeze hl
      rw [e1] at h; cases h
      exact ⟨addS w a, addS.le w a, R', rp, f2, fun b z => z.elim .inl fun z => .inr (.inl (by rw [z]; exact f1)), by simp⟩
    · rename_i p' hl
      cases e
      obtain ⟨x, e1, rp⟩ := R.val i _ hl
      rw [e1] at h; cases h
      exact ⟨w, .refl w, R, rp, fun _ z => z, fun _ z => .inl z, rfl⟩
    · cases e
theorem fix_noerr {x : Exm} {st' : Sm} : fixR r st ≠ .err x st' := by
  unfold fixR
  intro e
  split at e <;> try (cases e; done)
  split at e <;> cases e
/-- all fixed -/
theorem fixAll_post : ∀ {rs : List RVm} {vs : List V} {w : Wl} {st : Sm} {ps : List PVm} {st' : Sm}, Rel K w σ H st → RRelL K w σ H vs rs → (∀ a, ResAL rs vs a → ¬ Foot st.env σ w a) → fixAll rs st = .ok ps st' →
    ∃ w', w.le w' ∧ Rel K w' σ H st' ∧ RpL K H w' vs ps ∧ (∀ b, Foot st'.env σ w' b → Foot st.env σ w b) ∧ (∀ b, w'.S b → w.S b ∨ Foot st.env σ w b ∨ ResAL rs vs b) ∧ st'.env.length = st.env.length
  | [], vs, w, st, ps, st', R, h, _, e => by
    cases h
    cases e
    exact ⟨w, .refl w, R, .nil, fun _ z => z, fun _ z => .inl z, rfl⟩
  | r :: rs, v :: vs, w, st, ps, st', R, .cons h t d, hn, e => by
    unfold fixAll at e
    cases e1 : fixR r st with
    | stuck => rw [e1] at e; cases e
    | err x s => exact absurd e1 fix_noerr
    | ok p st1 =>
      rw [e1] at e
      simp only [Resm.bind_ok] at e
      obtain ⟨w1, F⟩ := fix_post R h (fun a z => hn a (.inl z)) e1
      have st0 : Stays w H H := ⟨fun _ _ h => h, fun _ _ _ h => h, fun _ _ _ h => h⟩
      have t1 : RRelL K w1 σ H vs rs := t.stay st0 F.le fun a z => ⟨rfl, fun q => by
        rcases F.S a q with q | q | q
        · obtain ⟨_, r', v', _, _, ⟨⟨o, rfl⟩, e2⟩, q2⟩ := ResAL.mem t z
          obtain ⟨b, e3, _, n⟩ := q2
          rw [e2] at e3; cases e3
          exact n q
        · exact hn a (.inr z) q
        · exact d a q z⟩
      cases e2 : fixAll rs st1 with
      | stuck => rw [e2] at e; cases e
      | err x s => rw [e2] at e; cases e
      | ok ps2 st2 =>
        rw [e2] at e
        simp only [Resm.bind_ok] at e
        cases e
        obtain ⟨w2, l2, R2, rp, f2, s2, n2⟩ := fixAll_post F.rel t1 (fun a z f => hn a (.inr z) (F.foot a f)) e2
        have st1 : Stays w1 H H := ⟨fun _ _ h => h, fun _ _ _ h => h, fun _ _ _ h => h⟩
        refine ⟨w2, F.le.trans l2, R2, .cons (F.res.stay st1 l2) rp, fun b z => F.foot b (f2 b z), fun b z => ?_, n2.trans F.len⟩
        rcases s2 b z with z | z | z
        · rcases F.S b z with z | z | z
          · exact .inl z
          · exact .inr (.inl z)
          · exact .inr (.inr (.inl z))
        · exact .inr (.inl (F.foot b z))
        · exact .inr (.inr (.inr z))
end
theorem fixAll_noerr : ∀ {rs : List RVm} {st : Sm} {x : Exm} {st' : Sm}, fixAll rs st ≠ .err x st'
  | [], _, _, _, e => by cases e
  | r :: rs, st, x, st', e => by
    unfold fixAll at e
    cases e1 : fixR r st with
    | stuck => rw [e1] at e; cases e
    | err x s => exact absurd e1 fix_noerr
    | ok p st1 =>
      rw [e1] at e
      simp only [Resm.bind_ok] at e
      cases e2 : fixAll rs st1 with
      | stuck => rw [e2] at e; cases e
      | err x s => exact absurd e2 fixAll_noerr
      | ok ps2 st2 => rw [e2] at e; cases e
end Mp

set_option Elab.async false
set_option linter.all false
set_option maxRecDepth 100000
set_option maxHeartbeats 1000000
/-! Mp5: in, is None, subscripts, slices, truth, built-ins, by views; an object written. -/
namespace Mp
open PySem PySem.Spec PyProof.Rows L2
section
variable {X : Cx}
/-! ### in, is None -/
theorem inSeq_inv {x : Option PVm} {y : Option (List PVm)} {k : Bool} (h : inSeq x y = some k) : ∃ a l, x = some a ∧ y = some l ∧ a.cmpOk = true ∧ (PVm.lst l).cmpOk = true ∧ k = l.any fun z => z.eqv a := by
  unfold inSeq at h
  split at h <;> try (cases h; done)
  obtain ⟨c, rfl⟩ := opt_inv h
  rw [Bool.and_eq_true] at c
  exact ⟨_, _, rfl, rfl, c.1, c.2, rfl⟩
theorem any_toDs {a : PVm} (ha : a.noref = true) : ∀ {l : List PVm}, PVm.norefL l = true → (toDs l).any (fun z => PyData.eqv z (toD a)) = l.any fun z => z.eqv a
  | [], _ => rfl
  | b :: l, h => by
    simp only [PVm.norefL, Bool.and_eq_true] at h
    simp only [toDs, List.any_cons, eqv_toD b a h.1 ha, any_toDs ha h.2]
/-- a list or tuple that may be searched, as data -/
theorem seq_dp {K : PySem.W.Frag} {w : Wl} {H : Hp} {v : V} {u : Viewm} {l : List PVm} (h : VRel K w H v u) (e : u.seqOf = some l) (c : (PVm.lst l).cmpOk = true) :
    (Dp K H v (.list (toDs l)) ∨ Dp K H v (.tuple (toDs l))) ∧ SeqAt.shaped (.list (toDs l)) = true := by
  obtain ⟨a, vs, rfl, hs, r⟩ := h.seq_inv e
  unfold PVm.cmpOk at c
  simp only [Bool.and_eq_true, decide_eq_true_eq, PVm.noref, PVm.depth] at c
  obtain ⟨g1, g2⟩ := r.dp c.1
  refine ⟨?_, ?_⟩
  · rcases hs with hs | hs
    · exact .inl (.lst hs g1)
    · exact .inr (.tup (tuT hs) g1)
  · unfold SeqAt.shaped
    simp only [Bool.and_eq_true, decide_eq_true_eq]
    refine ⟨g2, ?_⟩
    show PyData.depthAll (toDs l) + 1 ≤ 64
    rw [depth_toDs]
    have c2 : PVm.depthL l + 1 ≤ 60 := of_decide_eq_true c.2
    omega
theorem in_any (hu : X.A.units + 65 < cLine) {pins : List (Addr × Obj)} {s : Shared} {σ : L2.St} {H : Hp} {x y : V} {v u : Value} {Q : VK} {w : Wl} {a b : Viewm} {p : PVm} {l : List PVm} (I : Inv X pins σ H s) (rx : RelV x v) (ry : RelV y u)
    (ha : VRel X.K w H x a) (hb : VRel X.K w H y b) (ea : a.pv = some p) (eb : b.seqOf = some l) (ca : p.cmpOk = true) (cb : (PVm.lst l).cmpOk = true) (q : Q (.bl (l.any fun z => z.eqv p)) H) :
    wpAny (model X.prog X.w) X.A (compareOp .In v u) (EP X pins σ Q) X.xe s := by
  obtain ⟨d1, s1⟩ := ha.dpOk ea ca
  obtain ⟨d2, s2⟩ := seq_dp hb eb cb
  have nl : PVm.norefL l = true := noref_of cb
  rcases d2 with d2 | d2
  · refine op_inD hu pins s σ H x y v u Q I rx ry ⟨_, _, d1, d2, s1, s2, ?_⟩
    rw [any_toDs (noref_of ca) nl]
    exact q
  · obtain ⟨as, r1⟩ := Dp.reads I _ x v d1 rx
    obtain ⟨bs, r2⟩ := Dp.reads I _ y u d2 ry
    refine SeqAt.in_tuple_reads r2 r1 (SeqAt.canLay_of_shaped s2) (SeqAt.canLay_of_shaped s1) (room_in_shaped s1 hu) ⟨.bl _, H, I, rfl, ?_⟩
    rw [any_toDs (noref_of ca) nl]
    exact q
theorem notin_any (hu : X.A.units + 65 < cLine) {pins : List (Addr × Obj)} {s : Shared} {σ : L2.St} {H : Hp} {x y : V} {v u : Value} {Q : VK} {w : Wl} {a b : Viewm} {p : PVm} {l : List PVm} (I : Inv X pins σ H s) (rx : RelV x v) (ry : RelV y u)
    (ha : VRel X.K w H x a) (hb : VRel X.K w H y b) (ea : a.pv = some p) (eb : b.seqOf = some l) (ca : p.cmpOk = true) (cb : (PVm.lst l).cmpOk = true) (q : Q (.bl (!l.any fun z => z.eqv p)) H) :
    wpAny (model X.prog X.w) X.A (compareOp .NotIn v u) (EP X pins σ Q) X.xe s := by
  obtain ⟨d1, s1⟩ := ha.dpOk ea ca
  obtain ⟨d2, s2⟩ := seq_dp hb eb cb
  have nl : PVm.norefL l = true := noref_of cb
  rcases d2 with d2 | d2
  · refine op_notInD hu pins s σ H x y v u Q I rx ry ⟨_, _, d1, d2, s1, s2, ?_⟩
    rw [any_toDs (noref_of ca) nl]
    exact q
  · obtain ⟨as, r1⟩ := Dp.reads I _ x v d1 rx
    obtain ⟨bs, r2⟩ := Dp.reads I _ y u d2 ry
    refine SeqAt.notIn_tuple_reads r2 r1 (SeqAt.canLay_of_shaped s2) (SeqAt.canLay_of_shaped s1) (room_in_shaped s1 hu) ⟨.bl _, H, I, rfl, ?_⟩
    rw [any_toDs (noref_of ca) nl]
    exact q
theorem inO_inv {x y : Viewm} {k : Bool} (h : inO x y = some k) : (∃ c t, x = .p (.str [c]) ∧ y = .p (.str t) ∧ k = decide (c ∈ t)) ∨ ∃ p l, x.pv = some p ∧ y.seqOf = some l ∧ p.cmpOk = true ∧ (PVm.lst l).cmpOk = true ∧ k = l.any fun z => z.eqv p := by
  unfold inO at h
  split at h
  · split at h <;> try (cases h; done)
    exact .inl ⟨_, _, rfl, rfl, (Option.some.inj h).symm⟩
  · exact .inr (inSeq_inv h)
theorem oc_in (hu : X.A.units + 65 < cLine) : OpR X (compareOp .In) (rCmp X.K (cmpV .isin)) := by
  intro pins s σ H x y v u Q I rx ry ⟨w, a, b, k, ha, hb, e, q⟩
  rcases inO_inv e with ⟨c, t, rfl, rfl, rfl⟩ | ⟨p, l, e1, e2, c1, c2, rfl⟩
  · obtain ⟨rfl, _⟩ := ha.str_inv
    obtain ⟨rfl, _⟩ := hb.str_inv
    exact op_in_sign pins s σ H _ _ v u Q I rx ry ⟨c, _, rfl, rfl, q⟩
  · exact in_any hu I rx ry ha hb e1 e2 c1 c2 q
theorem oc_notin (hu : X.A.units + 65 < cLine) : OpR X (compareOp .NotIn) (rCmp X.K (cmpV .notin)) := by
  intro pins s σ H x y v u Q I rx ry ⟨w, a, b, k, ha, hb, e, q⟩
  obtain ⟨k', e', rfl⟩ := Option.map_eq_some_iff.mp e
  rcases inO_inv e' with ⟨c, t, rfl, rfl, rfl⟩ | ⟨p, l, e1, e2, c1, c2, rfl⟩
  · obtain ⟨rfl, _⟩ := ha.str_inv
    obtain ⟨rfl, _⟩ := hb.str_inv
    exact op_notIn_sign pins s σ H _ _ v u Q I rx ry ⟨c, _, rfl, rfl, q⟩
  · exact notin_any hu I rx ry ha hb e1 e2 c1 c2 q
theorem isNon_rel {K : PySem.W.Frag} {w : Wl} {H : Hp} {x : V} {a : Viewm} (h : VRel K w H x a) : decide (x = .non) = isNon a := by
  cases a with
  | p p => cases h <;> rfl
  | m o =>
    obtain ⟨b, rfl, _⟩ := h
    rfl
theorem oc_isN : OpR X (compareOp .Is) (fun x y H Q => y = .non ∧ rCmp X.K (cmpV .isN) x y H Q) := by
  intro pins s σ H x y v u Q I rx ry ⟨hy, w, a, b, k, ha, hb, e, q⟩
  refine op_isN pins s σ H x y v u Q I rx ry ⟨hy, ?_⟩
  rw [isNon_rel ha]
  cases e
  exact q
theorem oc_notN : OpR X (compareOp .IsNot) (fun x y H Q => y = .non ∧ rCmp X.K (cmpV .notN) x y H Q) := by
  intro pins s σ H x y v u Q I rx ry ⟨hy, w, a, b, k, ha, hb, e, q⟩
  refine op_notN pins s σ H x y v u Q I rx ry ⟨hy, ?_⟩
  rw [isNon_rel ha]
  cases e
  exact q

/-! ### subscripts -/
theorem ixN_eq (n : Nat) (i : Int) : ixN n i = L2.ixN n i := rfl
theorem atI_eq {α : Type} (xs : List α) (i : Int) : atI xs i = L2.atI xs i := rfl
theorem cut_eq (xs : List V) (lo hi : Option Int) : cut xs lo hi = cutV xs lo hi := rfl
theorem RpL.atI {K : PySem.W.Frag} {w : Wl} {H : Hp} {vs : List V} {l : List PVm} {i : Int} {p : PVm} (r : RpL K H w vs l) (e : Mp.atI l i = some p) : ∃ v, L2.atI vs i = some v ∧ Rp K H w v p := by
  unfold Mp.atI at e
  obtain ⟨j, e1, e2⟩ := Option.bind_eq_some_iff.mp e
  obtain ⟨v, e3, rv⟩ := r.get e2
  refine ⟨v, ?_, rv⟩
  unfold L2.atI
  rw [r.length, ← ixN_eq, e1]
  exact e3
def rIdx (K : PySem.W.Frag) : R2 := fun x y H Q => ∃ w u v p, VRel K w H x u ∧ VRel K w H y v ∧ idxV u v = some p ∧ ∀ z, Rp K H w z p → Q z H
theorem oi_idx : IxR X (rIdx X.K) := by
  intro value slice pins s σ H x y v u Q I rx ry ⟨w, a, b, p, ha, hb, e, q⟩ hs
  unfold idxV at e
  split at e <;> try (cases e; done)
  obtain rfl := hb.int_inv
  split at e
  · obtain ⟨c, e1, rfl⟩ := Option.map_eq_some_iff.mp e
    obtain ⟨rfl, h1⟩ := ha.str_inv
    refine ix_str value slice pins s σ H _ _ v u Q I rx ry ⟨_, _, c, rfl, rfl, by rw [slen, sl_eq]; exact h1.1, ?_, ?_⟩ hs
    · show L2.atI (List.toArray _).toList _ = _
      rw [List.toList_toArray]
      exact e1
    · refine q _ (.str [c] ⟨(by show 1 ≤ 16777216; decide), fun d hd => ?_⟩)
      have : d = c := by simpa using hd
      rw [this]
      unfold Mp.atI at e1
      obtain ⟨j, _, e2⟩ := Option.bind_eq_some_iff.mp e1
      exact h1.2 c (List.mem_of_getElem? e2)
  · obtain ⟨l, e1, e2⟩ := Option.bind_eq_some_iff.mp e
    obtain ⟨p', vs, rfl, hq, r⟩ := ha.seq_inv e1
    obtain ⟨z, e3, rz⟩ := r.atI e2
    rcases hq with hq | hq
    · exact ix_list value slice pins s σ H _ _ v u Q I rx ry ⟨_, _, _, z, rfl, rfl, hq, e3, q z rz⟩ hs
    · exact ix_tup value slice pins s σ H _ _ v u Q I rx ry ⟨_, _, _, z, rfl, rfl, tuT hq, e3, q z rz⟩ hs
theorem RpL.cut {K : PySem.W.Frag} {w : Wl} {H : Hp} {vs : List V} {l : List PVm} {lo hi : Option Int} (r : RpL K H w vs l) : RpL K H w (cutV vs lo hi) (Mp.cut l lo hi) := by
  unfold Mp.cut cutV
  rw [r.length]
  exact (r.drop _).take _
theorem cut_len {α : Type} (l : List α) (lo hi : Option Int) : (cut l lo hi).length ≤ l.length := by
  unfold cut
  rw [List.length_take, List.length_drop]
  omega
def rSlc (K : PySem.W.Frag) : V → Option Int → Option Int → Hp → VK → Prop := fun x lo hi H Q => ∃ w u r, VRel K w H x u ∧ slcV u lo hi = some r ∧ ∀ z H', Gives K w H r z H' → Q z H'
theorem oi_slc : SlR X (rSlc X.K) := by
  intro pins s σ H x v vl vu lo hi sl Q I rx hs pl pu ⟨w, a, r, ha, e, q⟩
  unfold slcV at e
  split at e
  · cases e
    obtain ⟨rfl, h1⟩ := ha.str_inv
    rename_i z
    refine sl_str pins s σ H _ v vl vu lo hi sl Q I rx hs pl pu ⟨_, rfl, by rw [slen, sl_eq]; exact h1.1, ?_⟩
    have ec : cutS (⟨z.toArray⟩ : Str) lo hi = ⟨(cut z lo hi).toArray⟩ := by
      unfold cutS cut
      rw [slen]
      show (⟨List.toArray (List.take _ (List.drop _ (List.toArray z).toList))⟩ : Str) = _
      rw [List.toList_toArray]
      rfl
    rw [ec]
    refine q _ _ (.val (.str _ ⟨Nat.le_trans (cut_len z lo hi) h1.1, fun c hc => h1.2 c ?_⟩))
    unfold cut at hc
    exact List.mem_of_mem_drop (List.mem_of_mem_take hc)
  · cases e
    obtain ⟨p, vs, rfl, hq, rl⟩ := ha.tup_inv
    rename_i l
    refine sl_tupA pins s σ H _ v vl vu lo hi sl Q I rx hs pl pu ⟨p, vs, rfl, tuT hq, fun z => ?_, fun _ t ht => q _ _ (.tup ht rl.cut)⟩
    refine q _ _ (.val (.tup hq ?_))
    have : cut l lo hi = l := by
      unfold cut
      have e1 : sIx l.length 0 lo = 0 := by rw [← rl.length]; exact z.1
      have e2 : sIx l.length l.length hi = l.length := by rw [← rl.length]; exact z.2
      rw [e1, e2, List.drop_zero, Nat.sub_zero, List.take_length]
    rw [this]
    exact rl
  · obtain ⟨l, e1, rfl⟩ := Option.map_eq_some_iff.mp e
    obtain ⟨p, vs, rfl, hq, rl⟩ := ha.lst_inv e1
    exact sl_list pins s σ H _ v vl vu lo hi sl Q I rx hs pl pu ⟨p, vs, rfl, SqL.of hq, fun t ht => q _ _ (.lst ht rl.cut)⟩

/-! ### truth -/
theorem truth_rel {K : PySem.W.Frag} {w : Wl} {H : Hp} {x : V} {a : Viewm} {k : Bool} (h : VRel K w H x a) (e : truth a = some k) : TruV K x H k := by
  have iem : ∀ {vs : List V} {l : List PVm}, RpL K H w vs l → (!l.isEmpty) = !vs.isEmpty := fun r => by cases r <;> rfl
  unfold truth at e
  split at e <;> try (cases e; done)
  all_goals cases e
  · cases h; rfl
  · cases h; rfl
  · cases h; rfl
  · obtain ⟨rfl, h1⟩ := h.str_inv
    rename_i z
    refine ⟨by rw [slen, sl_eq]; exact h1.1, ?_⟩
    rw [slen]
    cases z <;> simp <;> omega
  · obtain ⟨p, vs, rfl, hq, rl⟩ := h.tup_inv
    exact .inr (.inl ⟨vs, tuT hq, iem rl⟩)
  · obtain ⟨p, vs, rfl, hq, rl⟩ := h.lst_inv rfl
    exact .inl ⟨vs, SqL.of hq, iem rl⟩
  · cases h with
    | rol h1 h2 => exact .inl ⟨_, h1.sq, iem h2⟩
  · obtain ⟨p, rfl, vs, hq, rl⟩ := h
    exact .inl ⟨vs, SqL.of hq, iem rl⟩
  · obtain ⟨p, rfl, kvs, hq, rl⟩ := h
    refine .inr (.inr ⟨kvs, hq, ?_⟩)
    cases rl <;> rfl

/-! ### built-ins -/
inductive VRelL (K : PySem.W.Frag) (w : Wl) (H : Hp) : List V → List Viewm → Prop
  | nil : VRelL K w H [] []
  | cons {v : V} {vs : List V} {u : Viewm} {us : List Viewm} : VRel K w H v u → VRelL K w H vs us → VRelL K w H (v :: vs) (u :: us)
def rBi (K : PySem.W.Frag) (b : Bim) : List V → Hp → VK → Prop := fun vs H Q => ∃ w us r, VRelL K w H vs us ∧ biV b us = some r ∧ ∀ z H', Gives K w H r z H' → Q z H'
theorem biV1 {b : Bim} {us : List Viewm} {r : RVm} (h : biV b us = some r) (h2 : ∀ x y, bi2 b x y = none) : ∃ u, us = [u] ∧ bi1 b u = some r := by
  unfold biV at h
  split at h
  · exact ⟨_, rfl, h⟩
  · rw [h2] at h; cases h
  · cases h
theorem VRelL.one {K : PySem.W.Frag} {w : Wl} {H : Hp} {vs : List V} {u : Viewm} (h : VRelL K w H vs [u]) : ∃ v, vs = [v] ∧ VRel K w H v u := by
  cases h with
  | cons a b => cases b; exact ⟨_, rfl, a⟩
theorem VRelL.two {K : PySem.W.Frag} {w : Wl} {H : Hp} {vs : List V} {u u' : Viewm} (h : VRelL K w H vs [u, u']) : ∃ v v', vs = [v, v'] ∧ VRel K w H v u ∧ VRel K w H v' u' := by
  cases h with
  | cons a b =>
    cases b with
    | cons b c => cases c; exact ⟨_, _, rfl, a, b⟩
theorem cb_int : CallR X (.type "int") (rBi X.K .int) := by
  intro pins s σ H xs us Q I r ⟨w, as, o, hv, e, q⟩
  obtain ⟨u, rfl, e'⟩ := biV1 e fun _ _ => rfl
  have e := e'
  obtain ⟨v, rfl, h⟩ := hv.one
  unfold bi1 at e
  simp only at e
  split at e <;> try (cases e; done)
  · cases e
    obtain rfl := h.int_inv
    exact call_int1 pins s σ H _ us Q I r (.inl ⟨_, rfl, q _ _ (.val (.int _))⟩)
  · cases e
    obtain rfl := h.bl_inv
    exact call_int1 pins s σ H _ us Q I r (.inr ⟨_, rfl, q _ _ (.val (.int _))⟩)
theorem KeyP.kV {K : PySem.W.Frag} {w : Wl} {H : Hp} {k : Key} {p : PVm} (h : KeyP k p) : Rp K H w (kV k) p := by
  cases h with
  | int i => exact .int i
  | str s hs => exact .str s hs
theorem RpD.keys {K : PySem.W.Frag} {w w' : Wl} {H H' : Hp} : ∀ {kvs : List (Key × V)} {l : List (PVm × PVm)}, RpD K H w kvs l → RpL K H' w' (kvs.map fun kv => kV kv.1) (l.map (·.1))
  | _, _, .nil => .nil
  | _, _, .cons k _ t => .cons k.kV (RpD.keys t)
theorem cb_list (hc : X.calm = true) : CallR X (.type "list") (rBi X.K .list) := by
  intro pins s σ H xs us Q I r ⟨w, as, o, hv, e, q⟩
  obtain ⟨u, rfl, e'⟩ := biV1 e fun _ _ => rfl
  have e := e'
  obtain ⟨v, rfl, h⟩ := hv.one
  unfold bi1 at e
  simp only at e
  split at e
  · cases e
    obtain ⟨p, rfl, kvs, hk, rd⟩ := h
    exact call_list_dK hc pins s σ H _ us Q I r ⟨p, kvs, rfl, hk, fun t ht => q _ _ (.lst ht rd.keys)⟩
  · obtain ⟨l, e1, rfl⟩ := Option.map_eq_some_iff.mp e
    obtain ⟨p, vs, rfl, hq, rl⟩ := h.seq_inv e1
    exact call_list_of pins s σ H _ us Q I r ⟨p, vs, rfl, hq.imp id tuT, fun t ht => q _ _ (.lst ht rl)⟩
theorem cb_tuple : CallR X (.type "tuple") (rBi X.K .tuple) := by
  intro pins s σ H xs us Q I r ⟨w, as, o, hv, e, q⟩
  obtain ⟨u, rfl, e'⟩ := biV1 e fun _ _ => rfl
  have e := e'
  obtain ⟨v, rfl, h⟩ := hv.one
  obtain ⟨l, e1, rfl⟩ := Option.map_eq_some_iff.mp e
  obtain ⟨p, vs, rfl, hq, rl⟩ := h.seq_inv e1
  refine call_tuple_of pins s σ H _ us Q I r ⟨p, vs, rfl, ?_⟩
  rcases hq with hq | hq
  · exact .inl ⟨hq, fun t ht => q _ _ (.tup ht rl)⟩
  · exact .inr ⟨tuT hq, q _ _ (.val (.tup hq rl))⟩
/-- len of a dict -/
theorem lenV_inv {K : PySem.W.Frag} {w : Wl} {H : Hp} {v : V} {u : Viewm} {n : Nat} (h : VRel K w H v u) (e : lenV u = some n) : LenV K v H n ∨ ∃ p kvs, v = .ref p ∧ H p = some (.dK kvs) ∧ n = kvs.length := by
  unfold lenV at e
  split at e
  · cases e
    obtain ⟨rfl, h1⟩ := h.str_inv
    exact .inl ⟨by rw [slen, sl_eq]; exact h1.1, (slen _).symm⟩
  · cases e
    obtain ⟨p, rfl, kvs, hq, rl⟩ := h
    refine .inr ⟨p, kvs, rfl, hq, ?_⟩
    clear hq
    induction rl with
    | nil => rfl
    | cons _ _ _ ih => exact congrArg (· + 1) ih
  · obtain ⟨l, e1, rfl⟩ := Option.map_eq_some_iff.mp e
    obtain ⟨p, vs, rfl, hq, rl⟩ := h.seq_inv e1
    refine .inl ?_
    rcases hq with hq | hq
    · exact .inl ⟨vs, hq, rl.length.symm⟩
    · exact .inr ⟨vs, tuT hq, rl.length.symm⟩
theorem cb_len : CallR X (.builtin "len") (rBi X.K .len) := by
  intro pins s σ H xs us Q I r ⟨w, as, o, hv, e, q⟩
  obtain ⟨u, rfl, e'⟩ := biV1 e fun _ _ => rfl
  have e := e'
  obtain ⟨v, rfl, h⟩ := hv.one
  obtain ⟨n, e1, rfl⟩ := Option.map_eq_some_iff.mp e
  rcases lenV_inv h e1 with h1 | ⟨p, kvs, rfl, h1, rfl⟩
  · exact call_len pins s σ H _ us Q I r ⟨v, n, rfl, h1, q _ _ (.val (.int _))⟩
  · exact call_lenD pins s σ H _ us Q I r ⟨p, kvs, rfl, h1, q _ _ (.val (.int _))⟩
theorem cb_ord : CallR X (.builtin "ord") (rBi X.K .ord) := by
  intro pins s σ H xs us Q I r ⟨w, as, o, hv, e, q⟩
  obtain ⟨u, rfl, e'⟩ := biV1 e fun _ _ => rfl
  have e := e'
  obtain ⟨v, rfl, h⟩ := hv.one
  unfold bi1 at e
  simp only at e
  split at e <;> try (cases e; done)
  cases e
  obtain ⟨rfl, h1⟩ := h.str_inv
  exact call_ord pins s σ H _ us Q I r ⟨_, rfl, by rw [slen]; rfl, q _ _ (.val (.int _))⟩
theorem cb_abs : CallR X (.builtin "abs") (rBi X.K .abs) := by
  intro pins s σ H xs us Q I r ⟨w, as, o, hv, e, q⟩
  obtain ⟨u, rfl, e'⟩ := biV1 e fun _ _ => rfl
  have e := e'
  obtain ⟨v, rfl, h⟩ := hv.one
  unfold bi1 at e
  simp only at e
  split at e <;> try (cases e; done)
  cases e
  obtain rfl := h.int_inv
  exact call_abs pins s σ H _ us Q I r ⟨_, rfl, q _ _ (.val (.int _))⟩
theorem ints_rel {K : PySem.W.Frag} {w : Wl} {H : Hp} : ∀ {vs : List V} {l : List PVm} {ns : List Int}, RpL K H w vs l → intsOf l = some ns → vs = ns.map V.int
  | _, _, _, .nil, e => by cases e; rfl
  | _, _, _, .cons (p := p) r t, e => by
    cases p <;> try (cases e; done)
    obtain ⟨m, e1, rfl⟩ := Option.map_eq_some_iff.mp e
    cases r
    rw [ints_rel t e1]
    rfl
theorem strs_rel {K : PySem.W.Frag} {w : Wl} {H : Hp} : ∀ {vs : List V} {l : List PVm} {ns : List (List Nat)}, RpL K H w vs l → strsOf l = some ns → vs = ns.map (fun z => V.str ⟨z.toArray⟩) ∧ ∀ z ∈ ns, sOk z
  | _, _, _, .nil, e => by cases e; exact ⟨rfl, fun _ h => nomatch h⟩
  | _, _, _, .cons (p := p) r t, e => by
    cases p <;> try (cases e; done)
    obtain ⟨m, e1, rfl⟩ := Option.map_eq_some_iff.mp e
    cases r with
    | str _ h1 =>
      obtain ⟨rfl, h2⟩ := strs_rel t e1
      exact ⟨rfl, fun z hz => (List.mem_cons.mp hz).elim (fun q => by rw [q]; exact h1) (h2 z)⟩
section
variable {prog : Program} {w : World} {A : Around} {E : Value → Shared → Prop} {s : Shared} {l : Addr} {its : List Value} {ns : List Int} {Q : Value → Shared → Prop}
/-- sum of a tuple of ints -/
theorem sum_rawT (hh : A.handled = none) (hl : s.heap.IsTuple l its.toArray) (hi : IntsAre its ns)
    (h : ∀ h' tk t', (∀ b o, s.heap.get? b = some o → h'.get? b = some o) → Q (.int ns.sum t') { s with heap := h', toks := tk }) : wpAny (model prog w) A (call (.builtin "sum") [.ref l]) Q E s := by
  obtain ⟨xs, e⟩ := hi.allInts.items
  have hn : numsOf (intItems xs).toList = ns := by rw [← e]; exact hi.numsOf
  rw [nums_intItems] at hn
  rw [e] at hl
  have hlt : l < s.heap.objs.size := by obtain ⟨_, e, _⟩ := hl; exact Heap.lt_size e
  refine PySem.call_sum_walkG (wpAny_pyIter_tuple hl ?_)
  have hne : l ≠ s.heap.objs.size := Nat.ne_of_lt hlt
  have hTI : (s.heap.push { cls := .type "tuple_iterator", data := .fields #[.ref l, .int 0 0] }).IsTupleIter s.heap.objs.size l 0 := ⟨_, Heap.get?_push_size _ rfl, rfl, rfl⟩
  have hT : (s.heap.push { cls := .type "tuple_iterator", data := .fields #[.ref l, .int 0 0] }).IsTuple l (intItems xs) := hl.at fun o q => Heap.get?_push_of_some _ q
  refine ⟨_, _, _, _, _, _, numAt xs, rfl, Walks.tuple (A := A.in1) hh _ l hne (intItems xs), ⟨hTI, hT⟩, fun b hb => ?_, (fun _ _ => intItems_at), fun h' tk t' hk => ?_⟩
  · show b < (s.heap.push _).objs.size
    rw [Heap.size_push]
    rcases List.mem_cons.mp hb with rfl | hb
    · exact Nat.lt_succ_self _
    · rcases List.mem_cons.mp hb with rfl | hb
      · exact Nat.lt_succ_of_lt hlt
      · cases hb
  · have := h h' tk t' fun b o e => hk b o (fun hm => by
      rcases List.mem_cons.mp hm with z | hm
      · exact absurd (z ▸ Heap.lt_size e) (Nat.lt_irrefl _)
      · cases hm) (Heap.get?_push_of_some _ e)
    have es : preSum (numAt xs) (intItems xs).size = ns.sum := by
      rw [preSum_eq, List.take_of_length_le (by simp [intItems]), hn]
    rw [es]
    exact this
end
theorem cb_sum (hc : X.calm = true) : CallR X (.builtin "sum") (rBi X.K .sum) := by
  intro pins s σ H xs us Q I r ⟨w, as, o, hv, e, q⟩
  obtain ⟨u, rfl, e'⟩ := biV1 e fun _ _ => rfl
  have e := e'
  obtain ⟨v, rfl, h⟩ := hv.one
  obtain ⟨l, e1, rfl⟩ := Option.map_eq_some_iff.mp e
  obtain ⟨l', e2, e3⟩ := Option.bind_eq_some_iff.mp e1
  obtain ⟨p, vs, rfl, hq, rl⟩ := h.seq_inv e2
  obtain rfl := ints_rel rl e3
  rcases hq with hq | hq
  · exact cr_sum hc pins s σ H _ us Q I r ⟨p, l, rfl, hq, q _ _ (.val (.int _))⟩
  · obtain ⟨its, rv, hl, _⟩ := I.tuple (tuT hq)
    rw [Vals.ref1 r]
    exact sum_rawT (I.ok.hd hc) hl rv.ints fun h' tk t' hk => ⟨.int _, H, I.kept hk, ⟨_, rfl⟩, q _ _ (.val (.int _))⟩
/-- texts, as values and as data -/
theorem each_strs : ∀ {l : List (List Nat)} {its : List Value}, Vals (l.map fun z => V.str ⟨z.toArray⟩) its → PySem.W.EachIs (fun v (z : List Nat) => ∃ t, v = Value.str ⟨z.toArray⟩ t) its l
  | [], _, .nil => .nil
  | z :: l, _, .cons r t => .cons (by obtain ⟨t, e⟩ := r; exact ⟨t, e⟩) (each_strs t)
theorem vals_strs : ∀ {l : List (List Nat)} {its : List Value}, PySem.W.EachIs (fun v (z : List Nat) => ∃ t, v = Value.str ⟨z.toArray⟩ t) its l → Vals (l.map fun z => V.str ⟨z.toArray⟩) its
  | _, _, .nil => .nil
  | _, _, .cons r t => .cons (by obtain ⟨t, e⟩ := r; exact ⟨t, e⟩) (vals_strs t)
theorem rp_strs {K : PySem.W.Frag} {w : Wl} {H : Hp} : ∀ {l : List (List Nat)}, (∀ z ∈ l, sOk z) → RpL K H w (l.map fun z => V.str ⟨z.toArray⟩) (l.map .str)
  | [], _ => .nil
  | z :: l, h => .cons (.str z (h z List.mem_cons_self)) (rp_strs fun y hy => h y (List.mem_cons_of_mem _ hy))
theorem cb_sorted {n : Nat} (hr : Room n X.A) : CallR X (.builtin "sorted") (rBi X.K .sorted) := by
  intro pins s σ H xs us Q I r ⟨w, as, o, hv, e, q⟩
  obtain ⟨u, rfl, e'⟩ := biV1 e fun _ _ => rfl
  obtain ⟨v, rfl, h⟩ := hv.one
  obtain ⟨l, e1, rfl⟩ := Option.map_eq_some_iff.mp e'
  obtain ⟨l', e2, e3⟩ := Option.bind_eq_some_iff.mp e1
  obtain ⟨p, vs, rfl, hq, rl⟩ := h.lst_inv e2
  obtain ⟨rfl, hs⟩ := strs_rel rl e3
  obtain ⟨its, rv, ⟨ol, nl, pe, pc, pd, ps⟩, hz⟩ := I.list (.inl (.inl hq))
  rw [List.length_map] at hz
  rw [Vals.ref1 r]
  have el := each_strs rv
  refine PySem.W.sorted_data (bs := l) (enc := fun z => .str ⟨z.toArray⟩) (R := fun v (z : List Nat) => ∃ t, v = Value.str ⟨z.toArray⟩ t) ⟨ol, pe, pc, nl, ps⟩ el (el.mono fun v z ⟨t, h⟩ => ⟨[], by rw [h]; exact .str _ _⟩) (PySem.W.AllAlike.of fun _ _ => rfl) (PySem.W.Sortable.others fun _ => ⟨(fun z => nomatch z), (fun _ z => nomatch z)⟩) hz (fun b _ => ?_) fun out ho eo => ?_
  · have := hr.un
    show X.A.units + 2 + 0 < _
    omega
  · rw [PySem.W.dataLe_str] at eo
    have eo : PySem.W.EachIs (fun v (z : List Nat) => ∃ t, v = Value.str ⟨z.toArray⟩ t) out (l.mergeSort fun a b => decide (a ≤ b)) := by simpa using eo
    obtain ⟨c, hc⟩ := sortedAll_at s.heap its out.toArray
    have hn : H (s.heap.objs.size + 1) = none := I.hok.fresh (Nat.le_succ _)
    have k : ∀ b o, s.heap.get? b = some o → (sortedAll s.heap its out.toArray).get? b = some o := fun _ _ => sortedAll_old
    have J : Inv X pins σ (upd H (s.heap.objs.size + 1) (.lst ((l.mergeSort fun a b => decide (a ≤ b)).map fun z => V.str ⟨z.toArray⟩))) { s with heap := sortedAll s.heap its out.toArray, gens := s.gens, drawn := s.drawn, toks := s.toks } :=
      I.call (ch := []) (Un.laid k (Nat.le_succ _) hn) (I.hok.laid k (Nat.le_succ _) ⟨by rw [List.length_map, List.length_mergeSort]; exact hz, out, c, vals_strs eo, hc⟩) I.bare (fun _ z => nomatch z)
    exact ⟨.ref _, _, J, rfl, q _ _ (.lst hn (rp_strs fun z hm => hs z ((List.mergeSort_perm _ _).mem_iff.mp hm)))⟩
theorem biV2 {b : Bim} {us : List Viewm} {r : RVm} (h : biV b us = some r) (h1 : ∀ x, bi1 b x = none) : ∃ u v, us = [u, v] ∧ bi2 b u v = some r := by
  unfold biV at h
  split at h
  · rw [h1] at h; cases h
  · exact ⟨_, _, rfl, h⟩
  · cases h
theorem foldMax : ∀ (r : List Int) (a : Int), (∀ y ∈ a :: r, y ≤ r.foldl (fun m y => if y > m then y else m) a) ∧ r.foldl (fun m y => if y > m then y else m) a ∈ a :: r
  | [], a => ⟨fun y hy => (by simp at hy; simp [hy]), by simp⟩
  | b :: r, a => by
    obtain ⟨h1, h2⟩ := foldMax r (if b > a then b else a)
    refine ⟨fun y hy => ?_, ?_⟩
    · have h0 := h1 (if b > a then b else a) List.mem_cons_self
      show y ≤ r.foldl _ (if b > a then b else a)
      rcases List.mem_cons.mp hy with rfl | hy
      · refine Int.le_trans ?_ h0
        split <;> omega
      · rcases List.mem_cons.mp hy with rfl | hy
        · refine Int.le_trans ?_ h0
          split <;> omega
        · exact h1 y (List.mem_cons_of_mem _ hy)
    · show r.foldl _ (if b > a then b else a) ∈ _
      rcases List.mem_cons.mp h2 with h2 | h2
      · rw [h2]
        split <;> simp
      · simp [h2]
theorem foldMin : ∀ (r : List Int) (a : Int), (∀ y ∈ a :: r, r.foldl (fun m y => if y < m then y else m) a ≤ y) ∧ r.foldl (fun m y => if y < m then y else m) a ∈ a :: r
  | [], a => ⟨fun y hy => (by simp at hy; simp [hy]), by simp⟩
  | b :: r, a => by
    obtain ⟨h1, h2⟩ := foldMin r (if b < a then b else a)
    refine ⟨fun y hy => ?_, ?_⟩
    · have h0 := h1 (if b < a then b else a) List.mem_cons_self
      show r.foldl _ (if b < a then b else a) ≤ y
      rcases List.mem_cons.mp hy with rfl | hy
      · refine Int.le_trans h0 ?_
        split <;> omega
      · rcases List.mem_cons.mp hy with rfl | hy
        · refine Int.le_trans h0 ?_
          split <;> omega
        · exact h1 y (List.mem_cons_of_mem _ hy)
    · show r.foldl _ (if b < a then b else a) ∈ _
      rcases List.mem_cons.mp h2 with h2 | h2
      · rw [h2]
        split <;> simp
      · simp [h2]
theorem biV12 {b : Bim} {us : List Viewm} {r : RVm} (h : biV b us = some r) : (∃ u, us = [u] ∧ bi1 b u = some r) ∨ ∃ u v, us = [u, v] ∧ bi2 b u v = some r := by
  unfold biV at h
  split at h
  · exact .inl ⟨_, rfl, h⟩
  · exact .inr ⟨_, _, rfl, h⟩
  · cases h
theorem cb_max2 (hc : X.calm = true) : CallR X (.builtin "max") (rBi X.K .max2) := by
  intro pins s σ H xs us Q I r ⟨w, as, o, hv, e, q⟩
  rcases biV12 e with ⟨u, rfl, e'⟩ | ⟨u, u', rfl, e'⟩
  · have e := e'
    obtain ⟨v, rfl, h⟩ := hv.one
    obtain ⟨l, e1, e2⟩ := Option.bind_eq_some_iff.mp e
    obtain ⟨l', e3, e4⟩ := Option.bind_eq_some_iff.mp e1
    obtain ⟨p, vs, rfl, hq, rl⟩ := h.lst_inv e3
    obtain rfl := ints_rel rl e4
    cases l with
    | nil => cases e2
    | cons a t =>
      cases e2
      obtain ⟨h1, h2⟩ := foldMax t a
      refine cr_max hc pins s σ H _ us Q I r ⟨p, a :: t, rfl, .inl (.inl hq), by simp, fun m hm hl => ?_⟩
      have : m = t.foldl (fun m y => if y > m then y else m) a := Int.le_antisymm (h1 m hm) (hl _ h2)
      rw [this]
      exact q _ _ (.val (.int _))
  · have e := e'
    obtain ⟨v, v', rfl, h, h'⟩ := hv.two
    unfold bi2 at e
    simp only at e
    split at e <;> try (cases e; done)
    cases e
    obtain rfl := h.int_inv
    obtain rfl := h'.int_inv
    exact call_max2 hc pins s σ H _ us Q I r ⟨_, _, rfl, q _ _ (.val (.int _))⟩
theorem cb_min2 (hc : X.calm = true) : CallR X (.builtin "min") (rBi X.K .min2) := by
  intro pins s σ H xs us Q I r ⟨w, as, o, hv, e, q⟩
  rcases biV12 e with ⟨u, rfl, e'⟩ | ⟨u, u', rfl, e'⟩
  · have e := e'
    obtain ⟨v, rfl, h⟩ := hv.one
    obtain ⟨l, e1, e2⟩ := Option.bind_eq_some_iff.mp e
    obtain ⟨l', e3, e4⟩ := Option.bind_eq_some_iff.mp e1
    obtain ⟨p, vs, rfl, hq, rl⟩ := h.lst_inv e3
    obtain rfl := ints_rel rl e4
    cases l with
    | nil => cases e2
    | cons a t =>
      cases e2
      obtain ⟨h1, h2⟩ := foldMin t a
      refine cr_min hc pins s σ H _ us Q I r ⟨p, a :: t, rfl, .inl (.inl hq), by simp, fun m hm hl => ?_⟩
      have : m = t.foldl (fun m y => if y < m then y else m) a := Int.le_antisymm (hl _ h2) (h1 m hm)
      rw [this]
      exact q _ _ (.val (.int _))
  · have e := e'
    obtain ⟨v, v', rfl, h, h'⟩ := hv.two
    unfold bi2 at e
    simp only at e
    split at e <;> try (cases e; done)
    cases e
    obtain rfl := h.int_inv
    obtain rfl := h'.int_inv
    exact call_min2 hc pins s σ H _ us Q I r ⟨_, _, rfl, q _ _ (.val (.int _))⟩
/-- isinstance(x, T) -/
def tyStr : Tym → String
  | .int => "int"
  | .str => "str"
  | .bool => "bool"
  | .tuple => "tuple"
  | .list => "list"
  | .dict => "dict"
  | .non => "NoneType"
theorem ty_kit (a b : Tym) (hb : b ≠ .non) : kitB (tyStr a) (tyStr b) = some (isTy b a) := by
  cases a <;> cases b <;> first | (exact absurd rfl hb) | decide +kernel
theorem SqL.tyx {K : PySem.W.Frag} {H : Hp} {a : Addr} {vs : List V} (h : SqL K H a vs) : TyX K H (.ref a) (.type "list") := by
  rcases h with (h | ⟨o, h⟩) | ⟨o, _, _, h, hc, _⟩
  · exact .base (.lst h)
  · exact .base (.frz h)
  · exact .kList h hc
theorem SqT.tyx {K : PySem.W.Frag} {H : Hp} {a : Addr} {vs : List V} (h : SqT K H a vs) : TyX K H (.ref a) (.type "tuple") := by
  rcases h with (h | ⟨o, h⟩) | ⟨o, _, _, h, hc, _⟩
  · exact .base (.tup h)
  · exact .fTuple h
  · exact .kTuple h hc
theorem tyName_rel {K : PySem.W.Frag} {w : Wl} {H : Hp} {x : V} {a : Viewm} {t : Tym} (h : VRel K w H x a) (e : tyName a = some t) : TyX K H x (.type (tyStr t)) := by
  unfold tyName at e
  split at e <;> try (cases e; done)
  all_goals cases e
  · obtain rfl := h.int_inv; exact .base (.int _)
  · obtain rfl := h.bl_inv; exact .base (.bl _)
  · obtain ⟨rfl, _⟩ := h.str_inv; exact .base (.str _)
  · obtain ⟨p, vs, rfl, hq, rl⟩ := h.tup_inv
    exact SqT.tyx (tuT hq)
  · obtain ⟨p, vs, rfl, hq, rl⟩ := h.lst_inv rfl
    exact .base (.lst hq)
  · cases h with
    | rol h1 h2 => exact SqL.tyx h1.sq
  · cases h; exact .base .non
  · obtain ⟨p, rfl, vs, hq, rl⟩ := h
    exact .base (.lst hq)
  · obtain ⟨p, rfl, vs, hq, rl⟩ := h
    exact .base (.dK hq)
theorem cb_isi (t : Tym) (ht : t ≠ .non) : CallR X (.builtin "isinstance") (fun xs H Q => ∃ x w u r, xs = [x, .ty (tyStr t)] ∧ VRel X.K w H x u ∧ bi1 (.isi t) u = some r ∧ ∀ z H', Gives X.K w H r z H' → Q z H') := by
  intro pins s σ H xs us Q I r ⟨x, w, u, o, hx, h, e, q⟩
  subst hx
  obtain ⟨t', e1, e2⟩ := Option.map_eq_some_iff.mp e
  cases e2
  exact call_isi pins s σ H _ us Q I r ⟨x, .ty (tyStr t), _, .type (tyStr t), isTy t t', rfl, .ty _, tyName_rel h e1, kit_ty (ty_kit t' t ht), q _ _ (.val (.bl _))⟩
end

/-! ### an object is written -/
section
variable {T : ExT} {K : PySem.W.Frag} {W : WX} {w w1 w2 : Wl} {σ σ2 : L2.St} {H H1 H2 : Hp} {st st1 st2 : Sm} {r r2 : RVm} {v v2 : V} {rs : List RVm} {vs : List V}
theorem upd_stays {a : Addr} {o u : HO} (he : H a = some u) (h1 : ∀ xs, u ≠ .tup xs) (h2 : ∀ o x, u ≠ .frz o x) (hS : ¬ w.S a) : Stays w H (upd H a o) := by
  refine ⟨fun b xs e => ?_, fun b ob x e => ?_, fun b x hs e => ?_⟩
  · rw [upd_ne]; exact e
    intro z; rw [z, he] at e; exact h1 xs (Option.some.inj e)
  · rw [upd_ne]; exact e
    intro z; rw [z, he] at e; exact h2 ob x (Option.some.inj e)
  · rw [upd_ne]; exact e
    intro z; rw [z] at hs; exact hS hs
theorem upd_ext {a : Addr} {o u : HO} {F F' S S' : Addr → Prop} (he : H a = some u) (h1 : ∀ xs, u ≠ .tup xs) (h2 : ∀ o x, u ≠ .frz o x) (hF : F a) (hF' : ∀ b, F' b → F b) (hS : ∀ b, S' b → S b) : Ext H F S (upd H a o) F' S' := by
  refine ⟨fun b x e n => ?_, fun b n => ?_, fun b h => .inl (hF' b h), fun b h => .inl (hS b h), fun b xs e => ?_, fun b ob x e => ?_⟩
  · rw [upd_ne]; exact e
    intro z; rw [z] at n; exact n hF
  · by_cases z : b = a
    · rw [z, upd_same]; exact fun z => nomatch z
    · rw [upd_ne z]; exact n
  · rw [upd_ne]; exact e
    intro z; rw [z, he] at e; exact h1 xs (Option.some.inj e)
  · rw [upd_ne]; exact e
    intro z; rw [z, he] at e; exact h2 ob x (Option.some.inj e)
/-- what a mutable object is not -/
theorem mo_hd {a : Addr} {o : MOm} (h : MOk K H w a o) : ∃ u, H a = some u ∧ (∀ xs, u ≠ .tup xs) ∧ ∀ o x, u ≠ .frz o x := by
  cases o with
  | lst l => obtain ⟨vs, e, r⟩ := h; exact ⟨_, e, (fun _ z => nomatch z), (fun _ _ z => nomatch z)⟩
  | dic l => obtain ⟨vs, e, r⟩ := h; exact ⟨_, e, (fun _ z => nomatch z), (fun _ _ z => nomatch z)⟩
  | dit l => obtain ⟨vs, e, r⟩ := h; exact ⟨_, e, (fun _ z => nomatch z), (fun _ _ z => nomatch z)⟩
  | tbl n => obtain ⟨_, ps, e, _⟩ := h; exact ⟨_, e, (fun _ z => nomatch z), (fun _ _ z => nomatch z)⟩
/-- the object of a slot, or of the heap, is another one now -/
theorem put_postG {oo o' : MOm} {st' : Sm} {ho : HO} (R : Rel K w σ H st) (h : RRel K w σ H v r) (e : look r st = some (.m oo)) (p : putO r o' st = some st') :
    ∃ a u, v = .ref a ∧ H a = some u ∧ (∀ xs, u ≠ .tup xs) ∧ (∀ o x, u ≠ .frz o x) ∧ MOk K H w a oo ∧ Foot st.env σ w a ∧ ((Stays w H (upd H a ho) → MOk K (upd H a ho) w a o') → Rel K w σ (upd H a ho) st' ∧ (∀ b, Foot st'.env σ w b → Foot st.env σ w b) ∧ st'.env.length = st.env.length) := by
  -- the object's place
  have hv := look_rel R h e
  obtain ⟨a, rfl, mo0⟩ := hv
  obtain ⟨u0, ha, n1, n2⟩ := mo_hd mo0
  -- write at heap n
  have hp : ∀ n, w.io[n]? = some a → n < st.hp.length → st' = { st with hp := st.hp.set n o' } → Foot st.env σ w a ∧ ((Stays w H (upd H a ho) → MOk K (upd H a ho) w a o') → Rel K w σ (upd H a ho) st' ∧ (∀ b, Foot st'.env σ w b → Foot st.env σ w b) ∧ st'.env.length = st.env.length) := by
    rintro n hn hlt rfl
    have hf : Foot st.env σ w a := .inl (List.mem_of_getElem? hn)
    refine ⟨hf, fun m => ?_⟩
    have s := upd_stays (o := ho) ha n1 n2 fun z => R.sS a z hf
    have m := m s
    refine ⟨⟨R.len, fun i q e' => ?_, fun i q e' => ?_, by rw [R.hl]; simp, fun k b q h1 h2 => ?_, R.nd, R.nio, R.inj, R.sS, fun b z => ?_⟩, fun b z => z, rfl⟩
    · obtain ⟨x, e1, rp⟩ := R.val i q e'
      exact ⟨x, e1, rp.stay s (.refl w)⟩
    · obtain ⟨b, e1, mo⟩ := R.obj i q e'
      have nb : b ≠ a := fun z => R.nio i b ⟨e1, _, e'⟩ (by rw [z]; exact List.mem_of_getElem? hn)
      exact ⟨b, e1, mo.stay s (.refl w) (upd_ne nb)⟩
    · have h2 : (st.hp.set n o')[k]? = some q := h2
      by_cases hk : k = n
      · subst hk
        rw [List.getElem?_set_self hlt] at h2
        rw [hn] at h1
        cases h1; cases h2
        exact m
      · rw [List.getElem?_set_ne (Ne.symm hk)] at h2
        have nb : b ≠ a := fun z => hk ((List.getElem?_inj (List.getElem?_eq_some_iff.mp h1).1 R.nd).mp (by rw [h1, hn, z]))
        exact (R.hob k b q h1 h2).stay s (.refl w) (upd_ne nb)
    · by_cases z2 : b = a
      · rw [z2, upd_same]; exact fun z => nomatch z
      · rw [upd_ne z2]; exact R.tS b z
  -- write at slot i
  have sl : ∀ (i : Nat) (sn so : Slotm), σ[i]? = some (some (.ref a)) → st.env[i]? = some so → (so = .own oo ∧ sn = .own o' ∨ so = .lent oo ∧ sn = .lent o') → st' = { st with env := st.env.set i sn } →
      Foot st.env σ w a ∧ ((Stays w H (upd H a ho) → MOk K (upd H a ho) w a o') → Rel K w σ (upd H a ho) st' ∧ (∀ b, Foot st'.env σ w b → Foot st.env σ w b) ∧ st'.env.length = st.env.length) := by
    rintro i sn so hi hso hk rfl
    have hown : OwnAt st.env σ i a := ⟨hi, _, by rcases hk with ⟨rfl, _⟩ | ⟨rfl, _⟩; exact .inl hso; exact .inr hso⟩
    have hf : Foot st.env σ w a := .inr ⟨i, hown⟩
    have hlt : i < st.env.length := (List.getElem?_eq_some_iff.mp hso).1
    have nv : ∀ p, sn ≠ .val p := fun p z => by rcases hk with ⟨_, rfl⟩ | ⟨_, rfl⟩ <;> cases z
    -- owners stay
    have ow : ∀ j b, OwnAt (st.env.set i sn) σ j b → OwnAt st.env σ j b := fun j b ⟨h1, o, h2⟩ => by
      by_cases hj : j = i
      · subst hj
        exact ⟨h1, _, hown.2.choose_spec⟩
      · rw [List.getElem?_set_ne (Ne.symm hj)] at h2
        exact ⟨h1, o, h2⟩
    refine ⟨hf, fun m => ?_⟩
    have s := upd_stays (o := ho) ha n1 n2 fun z => R.sS a z hf
    have m := m s
    have ft : ∀ b, Foot (st.env.set i sn) σ w b → Foot st.env σ w b := fun b z => z.elim .inl fun ⟨j, z⟩ => .inr ⟨j, ow j b z⟩
    refine ⟨⟨by rw [R.len]; simp, fun j q e' => ?_, fun j q e' => ?_, R.hl, fun k b q h1 h2 => ?_, R.nd, fun j b z => R.nio j b (ow j b z), fun j k b z z' => R.inj j k b (ow j b z) (ow k b z'), fun b z z' => R.sS b z (ft b z'), fun b z => ?_⟩, ft, by simp⟩
    · have e' : (st.env.set i sn)[j]? = some (.val q) := e'
      by_cases hj : j = i
      · subst hj
        rw [List.getElem?_set_self hlt] at e'
        exact absurd (Option.some.inj e') (nv q)
      · rw [List.getElem?_set_ne (Ne.symm hj)] at e'
        obtain ⟨x, e1, rp⟩ := R.val j q e'
        exact ⟨x, e1, rp.stay s (.refl w)⟩
    · have e' : (st.env.set i sn)[j]? = some (.own q) ∨ (st.env.set i sn)[j]? = some (.lent q) := e'
      by_cases hj : j = i
      · subst hj
        rw [List.getElem?_set_self hlt] at e'
        refine ⟨a, hi, ?_⟩
        rcases hk with ⟨_, rfl⟩ | ⟨_, rfl⟩
        · rcases e' with e' | e' <;> cases e'
          exact m
        · rcases e' with e' | e' <;> cases e'
          exact m
      · rw [List.getElem?_set_ne (Ne.symm hj)] at e'
        obtain ⟨b, e1, mo⟩ := R.obj j q e'
        have nb : b ≠ a := fun z => hj (R.inj j i a (by rw [← z]; exact ⟨e1, _, e'⟩) hown)
        exact ⟨b, e1, mo.stay s (.refl w) (upd_ne nb)⟩
    · have nb : b ≠ a := fun z => R.nio i a hown (by rw [← z]; exact List.mem_of_getElem? h1)
      exact (R.hob k b q h1 h2).stay s (.refl w) (upd_ne nb)
    · by_cases z2 : b = a
      · rw [z2, upd_same]; exact fun z => nomatch z
      · rw [upd_ne z2]; exact R.tS b z
  refine ⟨a, u0, rfl, ha, n1, n2, mo0, ?_⟩
  cases r with
  | own o => cases p
  | val q =>
    cases q <;> try (cases p; done)
    rename_i n
    unfold putO at p
    simp only at p
    obtain ⟨hlt, rfl⟩ := opt_inv p
    cases h with
    | ref hn => exact hp n hn hlt rfl
  | «at» i =>
    have h : σ[i]? = some (some (.ref a)) := h
    unfold putO at p
    unfold look at e
    simp only at p e
    split at p
    · rename_i o q
      rw [q] at e
      cases e
      cases p
      exact sl i _ _ h q (.inl ⟨rfl, rfl⟩) rfl
    · rename_i o q
      rw [q] at e
      cases e
      cases p
      exact sl i _ _ h q (.inr ⟨rfl, rfl⟩) rfl
    · rename_i n q
      obtain ⟨hlt, rfl⟩ := opt_inv p
      obtain ⟨x, e1, rp⟩ := R.val i _ q
      rw [h] at e1; cases e1
      cases rp with
      | ref hn => exact hp n hn hlt rfl
    · cases p
theorem put_post {o' : MOm} {l : List PVm} {st' : Sm} {ho : HO} (R : Rel K w σ H st) (h : RRel K w σ H v r) (e : look r st = some (.m (.lst l))) (p : putO r o' st = some st') :
    ∃ a vs, v = .ref a ∧ H a = some (.lst vs) ∧ RpL K H w vs l ∧ Foot st.env σ w a ∧ ((Stays w H (upd H a ho) → MOk K (upd H a ho) w a o') → Rel K w σ (upd H a ho) st' ∧ (∀ b, Foot st'.env σ w b → Foot st.env σ w b) ∧ st'.env.length = st.env.length) := by
  obtain ⟨a, u, rfl, hu, _, _, ⟨vs, hv, rl⟩, f, g⟩ := put_postG (ho := ho) R h e p
  exact ⟨a, vs, rfl, hv, rl, f, g⟩
end
end Mp

set_option Elab.async false
set_option linter.all false
set_option maxRecDepth 100000
set_option maxHeartbeats 1000000
/-! Mp6: calls of defs: what is lent and what comes back. -/
namespace Mp
open PySem PySem.Spec PyProof.Rows L2
/-- how an argument becomes a slot -/
def ArgAt (st : Sm) (ls : List (Nat × Nat)) (j : Nat) (r : RVm) (s : Slotm) : Prop :=
  match r with
  | .val v => s = .val v
  | .own o => s = .own o
  | .at i => (∃ o, (st.env[i]? = some (.own o) ∨ st.env[i]? = some (.lent o)) ∧ s = .lent o ∧ (j, i) ∈ ls) ∨ ∃ v, st.env[i]? = some (.val v) ∧ s = .val v
theorem ArgAt.mono {st : Sm} {ls ls' : List (Nat × Nat)} {j : Nat} {r : RVm} {s : Slotm} (h : ArgAt st ls j r s) (i : ∀ p, p ∈ ls → p ∈ ls') : ArgAt st ls' j r s := by
  cases r with
  | val v => exact h
  | own o => exact h
  | «at» k =>
    rcases h with ⟨o, h1, h2, h3⟩ | h
    · exact .inl ⟨o, h1, h2, i _ h3⟩
    · exact .inr h
theorem slotsOf_inv : ∀ {rs : List RVm} {st : Sm} {j : Nat} {ss : List Slotm} {ls : List (Nat × Nat)}, slotsOf rs st j = some (ss, ls) →
    ss.length = rs.length ∧ (∀ (n : Nat) (s : Slotm), ss[n]? = some s → ∃ r, rs[n]? = some r ∧ ArgAt st ls (j + n) r s) ∧ ∀ p, p ∈ ls → ∃ n o, p.1 = j + n ∧ rs[n]? = some (.at p.2) ∧ (st.env[p.2]? = some (.own o) ∨ st.env[p.2]? = some (.lent o)) ∧ ss[n]? = some (.lent o)
  | [], st, j, ss, ls, h => by
    cases h
    exact ⟨rfl, fun n s h => by simp at h, fun p h => by cases h⟩
  | r :: rs, st, j, ss, ls, h => by
    unfold slotsOf at h
    split at h
    · cases h
    · rename_i ss' ls' h'
      obtain ⟨l1, g1, g2⟩ := slotsOf_inv h'
      have core : ∀ (s : Slotm) (ls2 : List (Nat × Nat)), (∀ p, p ∈ ls' → p ∈ ls2) → ArgAt st ls2 j r s → (∀ p, p ∈ ls2 → p ∈ ls' ∨ ∃ o, p.1 = j ∧ r = .at p.2 ∧ (st.env[p.2]? = some (.own o) ∨ st.env[p.2]? = some (.lent o)) ∧ s = .lent o) →
          (s :: ss').length = (r :: rs).length ∧ (∀ (n : Nat) (t : Slotm), (s :: ss')[n]? = some t → ∃ q, (r :: rs)[n]? = some q ∧ ArgAt st ls2 (j + n) q t) ∧ ∀ p, p ∈ ls2 → ∃ n o, p.1 = j + n ∧ (r :: rs)[n]? = some (.at p.2) ∧ (st.env[p.2]? = some (.own o) ∨ st.env[p.2]? = some (.lent o)) ∧ (s :: ss')[n]? = some (.lent o) := by
        intro s ls2 hm ha hl
        refine ⟨by simp [l1], fun n t ht => ?_, fun p hp => ?_⟩
        · cases n with
          | zero =>
            simp at ht
            subst ht
            exact ⟨r, rfl, ha⟩
          | succ n =>
            obtain ⟨q, h1, h2⟩ := g1 n t (by simpa using ht)
            have e : j + 1 + n = j + (n + 1) := by omega
            rw [e] at h2
            exact ⟨q, by simpa using h1, h2.mono hm⟩
        · rcases hl p hp with hp | ⟨o, h1, h2, h3, h4⟩
          · obtain ⟨n, o, h1, h2, h3, h4⟩ := g2 p hp
            exact ⟨n + 1, o, by omega, by simpa using h2, h3, by simpa using h4⟩
          · exact ⟨0, o, by omega, by rw [h2]; rfl, h3, by rw [h4]; rfl⟩
      split at h
      · cases h
        exact core _ _ (fun _ h => h) rfl fun p h => .inl h
      · cases h
        exact core _ _ (fun _ h => h) rfl fun p h => .inl h
      · split at h
        · rename_i i o hi
          cases h
          refine core _ _ (fun _ h => List.mem_cons_of_mem _ h) (.inl ⟨o, .inl hi, rfl, List.mem_cons_self⟩) fun p h => ?_
          rcases List.mem_cons.mp h with rfl | h
          · exact .inr ⟨o, rfl, rfl, .inl hi, rfl⟩
          · exact .inl h
        · rename_i i o hi
          cases h
          refine core _ _ (fun _ h => List.mem_cons_of_mem _ h) (.inl ⟨o, .inr hi, rfl, List.mem_cons_self⟩) fun p h => ?_
          rcases List.mem_cons.mp h with rfl | h
          · exact .inr ⟨o, rfl, rfl, .inr hi, rfl⟩
          · exact .inl h
        · rename_i i v hi
          cases h
          exact core _ _ (fun _ h => h) (.inr ⟨v, hi, rfl⟩) fun p h => .inl h
        · cases h
theorem nodup_snd {ls : List (Nat × Nat)} (h : (ls.map (·.2)).Nodup) : ∀ {p q : Nat × Nat}, p ∈ ls → q ∈ ls → p.2 = q.2 → p = q := by
  induction ls with
  | nil => intro p q hp; cases hp
  | cons a l ih =>
    rw [List.map_cons, List.nodup_cons] at h
    intro p q hp hq e
    rcases List.mem_cons.mp hp with e1 | hp1
    · rcases List.mem_cons.mp hq with e2 | hq1
      · rw [e1, e2]
      · exact absurd (List.mem_map.mpr ⟨q, hq1, by rw [← e, e1]⟩) h.1
    · rcases List.mem_cons.mp hq with e2 | hq1
      · exact absurd (List.mem_map.mpr ⟨p, hp1, by rw [e, e2]⟩) h.1
      · exact ih h.2 hp1 hq1 e
theorem ResAL.of {rs : List RVm} : ∀ {vs : List V} {n : Nat} {r : RVm} {v : V} {a : Addr}, rs[n]? = some r → vs[n]? = some v → ResA r v a → ResAL rs vs a := by
  induction rs with
  | nil => intro vs n r v a h; simp at h
  | cons r0 rs ih =>
    intro vs n r v a h1 h2 h3
    cases vs with
    | nil => simp at h2
    | cons v0 vs =>
      cases n with
      | zero => simp at h1 h2; subst h1 h2; exact .inl h3
      | succ n => exact .inr (ih (n := n) (by simpa using h1) (by simpa using h2) h3)
theorem RRelL.get {K : PySem.W.Frag} {w : Wl} {σ : L2.St} {H : Hp} : ∀ {vs : List V} {rs : List RVm} {n : Nat} {r : RVm}, RRelL K w σ H vs rs → rs[n]? = some r → ∃ v, vs[n]? = some v ∧ RRel K w σ H v r
  | _, _, _, _, .nil, h => by simp at h
  | _, _, 0, _, .cons r _ _, h => by simp at h; subst h; exact ⟨_, rfl, r⟩
  | _, _, n + 1, _, .cons _ t _, h => by
    obtain ⟨v, e, r⟩ := RRelL.get (n := n) t (by simpa using h)
    exact ⟨v, by simpa using e, r⟩
theorem RRelL.length {K : PySem.W.Frag} {w : Wl} {σ : L2.St} {H : Hp} : ∀ {vs : List V} {rs : List RVm}, RRelL K w σ H vs rs → vs.length = rs.length
  | _, _, .nil => rfl
  | _, _, .cons _ t _ => congrArg (· + 1) (RRelL.length t)
theorem RRelL.two {K : PySem.W.Frag} {w : Wl} {σ : L2.St} {H : Hp} : ∀ {vs : List V} {rs : List RVm} {n m : Nat} {r q : RVm} {v u : V} {a : Addr}, RRelL K w σ H vs rs → rs[n]? = some r → rs[m]? = some q → vs[n]? = some v → vs[m]? = some u → ResA r v a → ResA q u a → n = m
  | _, _, _, _, _, _, _, _, _, .nil, h, _, _, _, _, _ => by simp at h
  | _, _, 0, 0, _, _, _, _, _, .cons _ _ _, _, _, _, _, _, _ => rfl
  | _, _, 0, m + 1, r, q, v, u, a, .cons r0 t d, h1, h2, h3, h4, h5, h6 => by
    simp at h1 h3
    subst h1 h3
    exact absurd (ResAL.of (n := m) (by simpa using h2) (by simpa using h4) h6) (d a h5)
  | _, _, n + 1, 0, r, q, v, u, a, .cons r0 t d, h1, h2, h3, h4, h5, h6 => by
    simp at h2 h4
    subst h2 h4
    exact absurd (ResAL.of (n := n) (by simpa using h1) (by simpa using h3) h5) (d a h6)
  | _, _, n + 1, m + 1, r, q, v, u, a, .cons _ t _, h1, h2, h3, h4, h5, h6 => by
    have := RRelL.two (n := n) (m := m) t (by simpa using h1) (by simpa using h2) (by simpa using h3) (by simpa using h4) h5 h6
    omega
theorem map_some_at {vs : List V} {n : Nat} {x : V} : (vs.map some)[n]? = some (some x) ↔ vs[n]? = some x := by
  rw [List.getElem?_map]
  cases vs[n]? <;> simp
section
variable {T : ExT} {K : PySem.W.Frag} {W : WX} {w w0 w1 : Wl} {σ : L2.St} {H H0 H1 : Hp} {st st0 : Sm} {rs : List RVm} {vs : List V} {ss : List Slotm} {ls : List (Nat × Nat)}
/-- what the callee's own objects are -/
theorem callee_own (R : Rel K w σ H st) (A : RRelL K w σ H vs rs) (e : slotsOf rs st 0 = some (ss, ls)) {n : Nat} {a : Addr} (h : OwnAt ss (vs.map some) n a) :
    (∃ o, rs[n]? = some (.own o) ∧ ss[n]? = some (.own o) ∧ ResAL rs vs a) ∨ ∃ i o, rs[n]? = some (.at i) ∧ ss[n]? = some (.lent o) ∧ (n, i) ∈ ls ∧ (st.env[i]? = some (.own o) ∨ st.env[i]? = some (.lent o)) ∧ OwnAt st.env σ i a := by
  obtain ⟨h1, o, h2⟩ := h
  obtain ⟨_, g1, _⟩ := slotsOf_inv e
  have h1 := map_some_at.mp h1
  have done : ∀ s, ss[n]? = some s → (s = .own o ∨ s = .lent o) → ((∃ o, rs[n]? = some (.own o) ∧ ss[n]? = some (.own o) ∧ ResAL rs vs a) ∨ ∃ i o, rs[n]? = some (.at i) ∧ ss[n]? = some (.lent o) ∧ (n, i) ∈ ls ∧ (st.env[i]? = some (.own o) ∨ st.env[i]? = some (.lent o)) ∧ OwnAt st.env σ i a) := fun s hs hso => by
    obtain ⟨r, hr, ha⟩ := g1 n s hs
    cases r with
    | val v => rcases hso with rfl | rfl <;> cases ha
    | own o' =>
      have ha : s = .own o' := ha
      subst ha
      rcases hso with hso | hso <;> cases hso
      exact Or.inl ⟨o, hr, hs, ResAL.of hr h1 ⟨⟨o, rfl⟩, rfl⟩⟩
    | «at» i =>
      rcases ha with ⟨o', b1, b2, b3⟩ | ⟨v, _, b2⟩
      · subst b2
        rcases hso with hso | hso <;> cases hso
        obtain ⟨x, e2, rr⟩ := A.get hr
        rw [h1] at e2; cases e2
        rw [Nat.zero_add] at b3
        exact Or.inr ⟨i, o, hr, hs, b3, b1, rr, o, b1⟩
      · subst b2
        rcases hso with hso | hso <;> cases hso
  rcases h2 with h2 | h2
  · exact done _ h2 (.inl rfl)
  · exact done _ h2 (.inr rfl)
/-- the callee's start -/
theorem callee_rel (R : Rel K w σ H st) (A : RRelL K w σ H vs rs) (new : ∀ a, ResAL rs vs a → ¬ Foot st.env σ w a) (e : slotsOf rs st 0 = some (ss, ls)) (nd : (ls.map (·.2)).Nodup) :
    Rel K w (vs.map some) H ⟨ss, st.hp⟩ ∧ (∀ a, Foot ss (vs.map some) w a → Foot st.env σ w a ∨ ResAL rs vs a) := by
  obtain ⟨g0, g1, g2⟩ := slotsOf_inv e
  have foot : ∀ a, Foot ss (vs.map some) w a → Foot st.env σ w a ∨ ResAL rs vs a := fun a f => by
    rcases f with f | ⟨n, f⟩
    · exact .inl (.inl f)
    · rcases callee_own R A e f with ⟨o, _, _, h⟩ | ⟨i, o, _, _, _, _, h⟩
      · exact .inr h
      · exact .inl (.inr ⟨i, h⟩)
  have nS : ∀ a, ResAL rs vs a → ¬ w.S a := fun a h => by
    obtain ⟨_, r, v, _, _, ⟨⟨o, rfl⟩, e1⟩, q⟩ := ResAL.mem A h
    obtain ⟨b, e2, _, n⟩ := q
    rw [e1] at e2; cases e2
    exact n
  refine ⟨⟨by rw [List.length_map, A.length, g0], fun n v h => ?_, fun n o h => ?_, R.hl, R.hob, R.nd, fun n a h => ?_, fun n m a h h' => ?_, fun a h f => ?_, R.tS⟩, foot⟩
  · obtain ⟨r, hr, ha⟩ := g1 n _ h
    obtain ⟨x, e1, rr⟩ := A.get hr
    refine ⟨x, map_some_at.mpr e1, ?_⟩
    cases r with
    | val u => cases ha; exact rr
    | own o => cases ha
    | «at» i =>
      rcases ha with ⟨o, _, z, _⟩ | ⟨u, b1, b2⟩
      · cases z
      · cases b2
        obtain ⟨y, e2, rp⟩ := R.val i _ b1
        have rr : σ[i]? = some (some x) := rr
        rw [rr] at e2; cases e2
        exact rp
  · have done : ∀ s, ss[n]? = some s → (s = .own o ∨ s = .lent o) → ∃ a, (vs.map some)[n]? = some (some (V.ref a)) ∧ MOk K H w a o := fun s hs hso => by
      obtain ⟨r, hr, ha⟩ := g1 n s hs
      obtain ⟨x, e1, rr⟩ := A.get hr
      cases r with
      | val v => rcases hso with rfl | rfl <;> cases ha
      | own o' =>
        have ha : s = .own o' := ha
        subst ha
        rcases hso with hso | hso <;> cases hso
        obtain ⟨a, rfl, m, _⟩ := rr
        exact ⟨a, map_some_at.mpr e1, m⟩
      | «at» i =>
        rcases ha with ⟨o', b1, b2, b3⟩ | ⟨v, _, b2⟩
        · subst b2
          rcases hso with hso | hso <;> cases hso
          obtain ⟨a, e2, m⟩ := R.obj i o b1
          have rr : σ[i]? = some (some x) := rr
          rw [rr] at e2; cases e2
          exact ⟨a, map_some_at.mpr e1, m⟩
        · subst b2
          rcases hso with hso | hso <;> cases hso
    rcases h with h | h
    · exact done _ h (.inl rfl)
    · exact done _ h (.inr rfl)
  · rcases callee_own R A e h with ⟨o, _, _, z⟩ | ⟨i, o, _, _, _, _, z⟩
    · exact fun q => new a z (.inl q)
    · exact R.nio i a z
  · rcases callee_own R A e h with ⟨o, z1, _, z⟩ | ⟨i, o, z1, _, z3, _, z⟩
    · rcases callee_own R A e h' with ⟨o', z1', _, z'⟩ | ⟨i', o', _, _, _, _, z'⟩
      · exact A.two z1 z1' (map_some_at.mp h.1) (map_some_at.mp h'.1) ⟨⟨o, rfl⟩, rfl⟩ ⟨⟨o', rfl⟩, rfl⟩
      · exact absurd (Or.inr ⟨i', z'⟩) (new a z)
    · rcases callee_own R A e h' with ⟨o', _, _, z'⟩ | ⟨i', o', _, _, z3', _, z'⟩
      · exact absurd (Or.inr ⟨i, z⟩) (new a z')
      · have := nodup_snd nd z3 z3' (R.inj i i' a z z')
        exact (Prod.mk.inj this).1
  · rcases foot a f with f | f
    · exact R.sS a h f
    · exact nS a f h

theorem backAll_inv : ∀ {ls : List (Nat × Nat)} {fin env env' : List Slotm}, backAll ls fin env = some env' → (ls.map (·.2)).Nodup →
    env'.length = env.length ∧ (∀ i, i ∉ ls.map (·.2) → env'[i]? = env[i]?) ∧ ∀ p, p ∈ ls → ∃ o, fin[p.1]? = some (.lent o) ∧ ((∃ q, env[p.2]? = some (.own q)) ∧ env'[p.2]? = some (.own o) ∨ (∃ q, env[p.2]? = some (.lent q)) ∧ env'[p.2]? = some (.lent o))
  | [], fin, env, env', h, _ => by
    cases h
    exact ⟨rfl, fun _ _ => rfl, fun p h => by cases h⟩
  | (j, i) :: ls, fin, env, env', h, nd => by
    rw [List.map_cons, List.nodup_cons] at nd
    unfold backAll at h
    have core : ∀ (o q : MOm) (s0 s1 : Slotm), fin[j]? = some (.lent o) → env[i]? = some s0 → (s0 = .own q ∧ s1 = .own o ∨ s0 = .lent q ∧ s1 = .lent o) → backAll ls fin (env.set i s1) = some env' →
        env'.length = env.length ∧ (∀ k, k ∉ ((j, i) :: ls).map (·.2) → env'[k]? = env[k]?) ∧ ∀ p, p ∈ (j, i) :: ls → ∃ o, fin[p.1]? = some (.lent o) ∧ ((∃ q, env[p.2]? = some (.own q)) ∧ env'[p.2]? = some (.own o) ∨ (∃ q, env[p.2]? = some (.lent q)) ∧ env'[p.2]? = some (.lent o)) := by
      intro o q s0 s1 hf he hs hb
      obtain ⟨b1, b2, b3⟩ := backAll_inv hb nd.2
      have hlt : i < env.length := (List.getElem?_eq_some_iff.mp he).1
      refine ⟨by rw [b1]; simp, fun k hk => ?_, fun p hp => ?_⟩
      · rw [List.map_cons, List.mem_cons, not_or] at hk
        rw [b2 k hk.2, List.getElem?_set_ne (fun z => hk.1 z.symm)]
      · rcases List.mem_cons.mp hp with rfl | hp
        · refine ⟨o, hf, ?_⟩
          have e1 : env'[i]? = some s1 := by rw [b2 i nd.1, List.getElem?_set_self hlt]
          rcases hs with ⟨rfl, rfl⟩ | ⟨rfl, rfl⟩
          · exact .inl ⟨⟨q, he⟩, e1⟩
          · exact .inr ⟨⟨q, he⟩, e1⟩
        · obtain ⟨o', c1, c2⟩ := b3 p hp
          have hne : p.2 ≠ i := fun z => nd.1 (by rw [← z]; exact List.mem_map.mpr ⟨p, hp, rfl⟩)
          rw [List.getElem?_set_ne (Ne.symm hne)] at c2
          exact ⟨o', c1, c2⟩
    split at h
    · rename_i o q h1 h2
      exact core o q _ _ h1 h2 (.inl ⟨rfl, rfl⟩) h
    · rename_i o q h1 h2
      exact core o q _ _ h1 h2 (.inr ⟨rfl, rfl⟩) h
    · cases h

/-- a call's end: the parameters that were lent, the heap, the result -/
structure PostC (K : PySem.W.Frag) (w : Wl) (vs : List V) (H : Hp) (ss : List Slotm) (r : RVm) (fin : List Slotm) (hp' : List MOm) (v : V) (H' : Hp) (w' : Wl) : Prop where
  le : w.le w'
  rel : Rel K w' (vs.map some) H' ⟨fin, hp'⟩
  res : RRel K w' [] H' v r
  ext : Ext H (Foot ss (vs.map some) w) w.S H' (fun a => Foot fin (vs.map some) w' a ∨ ResA r v a) w'.S
  new : ∀ a, ResA r v a → ¬ Foot fin (vs.map some) w' a
structure PostCX (T : ExT) (K : PySem.W.Frag) (w : Wl) (vs : List V) (H : Hp) (ss : List Slotm) (x : Exm) (fin : List Slotm) (hp' : List MOm) (cls : Value) (d : Option Addr) (H' : Hp) (w' : Wl) : Prop where
  le : w.le w'
  rel : Rel K w' (vs.map some) H' ⟨fin, hp'⟩
  exc : ExR T K w' H' x cls d
  ext : Ext H (Foot ss (vs.map some) w) w.S H' (Foot fin (vs.map some) w') w'.S
/-- the caller behind the call -/
theorem caller_rel {fin env' : List Slotm} {hp' : List MOm} {H' : Hp} {w' : Wl} {F' : Addr → Prop} (P : PostA K w0 σ H0 st0 rs st vs H w) (e : slotsOf rs st 0 = some (ss, ls)) (nd : (ls.map (·.2)).Nodup) (b : backAll ls fin st.env = some env')
    (le : w.le w') (rel : Rel K w' (vs.map some) H' ⟨fin, hp'⟩) (ext : Ext H (Foot ss (vs.map some) w) w.S H' F' w'.S) (hF : ∀ a, Foot fin (vs.map some) w' a → F' a) :
    Rel K w' σ H' ⟨env', hp'⟩ ∧ (∀ a, Foot env' σ w' a → Foot fin (vs.map some) w' a ∨ (∃ i, OwnAt st.env σ i a) ∧ ¬ F' a) ∧ env'.length = st.env.length ∧ (∀ a, Foot env' σ w' a → F' a ∨ Foot st.env σ w a) := by
  have R := P.rel
  have A := P.res
  obtain ⟨g0, g1, g2⟩ := slotsOf_inv e
  obtain ⟨b1, b2, b3⟩ := backAll_inv b nd
  obtain ⟨_, foot⟩ := callee_rel R A P.new e nd
  have stays : Stays w H H' := ext.stays fun x hx f => by
    rcases foot x f with f | f
    · exact R.sS x hx f
    · obtain ⟨_, r, v, _, _, ⟨⟨o, rfl⟩, e1⟩, q⟩ := ResAL.mem A f
      obtain ⟨y, e2, _, n⟩ := q
      rw [e1] at e2; cases e2
      exact n hx
  -- a slot that was not lent out
  have out : ∀ i a, OwnAt st.env σ i a → i ∉ ls.map (·.2) → ¬ Foot ss (vs.map some) w a ∧ ¬ F' a ∧ H' a = H a := fun i a h hi => by
    have nf : ¬ Foot ss (vs.map some) w a := fun f => by
      rcases f with f | ⟨n, f⟩
      · exact R.nio i a h f
      · rcases callee_own R A e f with ⟨o, _, _, z⟩ | ⟨i', o, _, _, z3, _, z⟩
        · exact P.new a z (.inr ⟨i, h⟩)
        · have := R.inj i i' a h z
          subst this
          exact hi (List.mem_map.mpr ⟨_, z3, rfl⟩)
    obtain ⟨u, hu⟩ := R.footSome a (.inr ⟨i, h⟩)
    refine ⟨nf, fun z => ?_, by rw [hu]; exact ext.keep a u hu nf⟩
    rcases ext.grow a z with z | z
    · exact nf z
    · rw [hu] at z; cases z
  -- a slot that was lent out
  have lent : ∀ i, i ∈ ls.map (·.2) → ∀ o, (env'[i]? = some (.own o) ∨ env'[i]? = some (.lent o)) → ∃ j x, (j, i) ∈ ls ∧ σ[i]? = some (some x) ∧ vs[j]? = some x ∧ fin[j]? = some (.lent o) ∧ ∃ q, st.env[i]? = some (.own q) ∨ st.env[i]? = some (.lent q) := fun i hi o ho => by
    obtain ⟨⟨j, i'⟩, hp, e1⟩ := List.mem_map.mp hi
    have e1 : i' = i := e1
    subst e1
    obtain ⟨o', c1, c2⟩ := b3 _ hp
    obtain ⟨n, q, d1, d2, d3, d4⟩ := g2 _ hp
    have d1 : j = 0 + n := d1
    rw [Nat.zero_add] at d1
    subst d1
    obtain ⟨x, e2, rr⟩ := A.get d2
    have eo : o' = o := by
      rcases c2 with ⟨_, c2⟩ | ⟨_, c2⟩ <;> rcases ho with ho | ho <;> rw [c2] at ho <;> cases ho <;> rfl
    subst eo
    exact ⟨j, x, hp, rr, e2, c1, q, d3⟩
  have owns : ∀ i a, OwnAt env' σ i a → OwnAt st.env σ i a := fun i a ⟨h1, o, h2⟩ => by
    by_cases hi : i ∈ ls.map (·.2)
    · obtain ⟨_, _, _, _, _, _, q, hq⟩ := lent i hi o h2
      exact ⟨h1, q, hq⟩
    · rw [b2 i hi] at h2
      exact ⟨h1, o, h2⟩
  have lentF : ∀ i a, OwnAt env' σ i a → i ∈ ls.map (·.2) → ∃ j, OwnAt fin (vs.map some) j a := fun i a ⟨h1, o, h2⟩ hi => by
    obtain ⟨j, x, _, e1, e2, e3, _⟩ := lent i hi o h2
    rw [h1] at e1; cases e1
    exact ⟨j, map_some_at.mpr e2, o, .inr e3⟩
  have footE : ∀ a, Foot env' σ w' a → Foot fin (vs.map some) w' a ∨ (∃ i, OwnAt st.env σ i a) ∧ ¬ F' a := fun a f => by
    rcases f with f | ⟨i, f⟩
    · exact .inl (.inl f)
    · by_cases hi : i ∈ ls.map (·.2)
      · obtain ⟨j, z⟩ := lentF i a f hi
        exact .inl (.inr ⟨j, z⟩)
      · exact .inr ⟨⟨i, owns i a f⟩, (out i a (owns i a f) hi).2.1⟩
  refine ⟨⟨?_, fun i v h => ?_, fun i o h => ?_, rel.hl, rel.hob, rel.nd, fun i a h => ?_, fun i j a h h' => R.inj i j a (owns i a h) (owns j a h'), fun a h f => ?_, rel.tS⟩, footE, b1, fun a f => ?_⟩
  · show σ.length = env'.length
    rw [b1]; exact R.len
  · have h : env'[i]? = some (.val v) := h
    have hi : i ∉ ls.map (·.2) := fun hi => by
      obtain ⟨⟨j, i'⟩, hp, e1⟩ := List.mem_map.mp hi
      have e1 : i' = i := e1
      subst e1
      obtain ⟨o', _, c2⟩ := b3 _ hp
      rcases c2 with ⟨_, c2⟩ | ⟨_, c2⟩ <;> rw [h] at c2 <;> cases c2
    rw [b2 i hi] at h
    obtain ⟨x, e1, rp⟩ := R.val i v h
    exact ⟨x, e1, rp.stay stays le⟩
  · have h : env'[i]? = some (.own o) ∨ env'[i]? = some (.lent o) := h
    by_cases hi : i ∈ ls.map (·.2)
    · obtain ⟨j, x, _, e1, e2, e3, _⟩ := lent i hi o h
      obtain ⟨a, e4, m⟩ := rel.obj j o (.inr e3)
      rw [map_some_at.mp e4] at e2; cases e2
      exact ⟨a, e1, m⟩
    · rw [b2 i hi] at h
      obtain ⟨a, e1, m⟩ := R.obj i o h
      exact ⟨a, e1, m.stay stays le (out i a ⟨e1, o, h⟩ hi).2.2⟩
  · by_cases hi : i ∈ ls.map (·.2)
    · obtain ⟨j, z⟩ := lentF i a h hi
      exact rel.nio j a z
    · exact fun z => (out i a (owns i a h) hi).2.1 (hF a (.inl z))
  · rcases footE a f with f | ⟨⟨i, f⟩, nF⟩
    · exact rel.sS a h f
    · rcases ext.growS a h with z | z | z
      · exact R.sS a z (.inr ⟨i, f⟩)
      · rcases foot a z with _ | z'
        · -- in the callee's footprint, but not in its end's
          by_cases hi : i ∈ ls.map (·.2)
          · obtain ⟨⟨j, i'⟩, hp, e1⟩ := List.mem_map.mp hi
            have e1 : i' = i := e1
            subst e1
            obtain ⟨o', c1, c2⟩ := b3 _ hp
            have ho : env'[i']? = some (.own o') ∨ env'[i']? = some (.lent o') := by
              rcases c2 with ⟨_, c2⟩ | ⟨_, c2⟩
              · exact .inl c2
              · exact .inr c2
            obtain ⟨j2, z2⟩ := lentF i' a ⟨f.1, o', ho⟩ hi
            exact nF (hF a (.inr ⟨j2, z2⟩))
          · exact (out i a f hi).1 z
        · exact P.new a z' (.inr ⟨i, f⟩)
      · obtain ⟨u, hu⟩ := R.footSome a (.inr ⟨i, f⟩)
        rw [hu] at z; cases z
  · rcases footE a f with f | ⟨⟨i, f⟩, _⟩
    · exact .inl (hF a f)
    · exact .inr (.inr ⟨i, f⟩)
/-- a call as an outcome -/
theorem call_post {fin env' : List Slotm} {hp' : List MOm} {r : RVm} {v : V} {H' : Hp} {w' : Wl} (P : PostA K w0 σ H0 st0 rs st vs H w) (e : slotsOf rs st 0 = some (ss, ls)) (nd : (ls.map (·.2)).Nodup) (b : backAll ls fin st.env = some env')
    (hr : ∀ i, r ≠ .at i) (C : PostC K w vs H ss r fin hp' v H' w') : PostE K w0 σ H0 st0 r ⟨env', hp'⟩ v H' w' := by
  obtain ⟨R', f1, f2, f3⟩ := caller_rel P e nd b C.le C.rel C.ext fun a z => .inl z
  obtain ⟨_, foot⟩ := callee_rel P.rel P.res P.new e nd
  refine ⟨P.le.trans C.le, R', ?_, (P.ext.trans (fun x z => foot x z) C.ext).weak fun a z => ?_, fun a z f => ?_, f2.trans P.len⟩
  · cases r with
    | val p => exact C.res
    | own o => exact C.res
    | «at» i => exact absurd rfl (hr i)
  · rcases z with z | z
    · rcases f3 a z with z | z
      · exact .inl z
      · exact .inr (.inl z)
    · exact .inl (.inr z)
  · rcases f1 a f with f | ⟨_, f⟩
    · exact C.new a z f
    · exact f (.inr z)
theorem call_postX {fin env' : List Slotm} {hp' : List MOm} {x : Exm} {cls : Value} {d : Option Addr} {H' : Hp} {w' : Wl} (P : PostA K w0 σ H0 st0 rs st vs H w) (e : slotsOf rs st 0 = some (ss, ls)) (nd : (ls.map (·.2)).Nodup) (b : backAll ls fin st.env = some env')
    (C : PostCX T K w vs H ss x fin hp' cls d H' w') : PostX T K w0 σ H0 st0 x ⟨env', hp'⟩ cls d σ H' w' := by
  obtain ⟨R', f1, f2, f3⟩ := caller_rel P e nd b C.le C.rel C.ext fun a z => z
  obtain ⟨_, foot⟩ := callee_rel P.rel P.res P.new e nd
  refine ⟨P.le.trans C.le, R', C.exc, (P.ext.trans (fun x z => foot x z) C.ext).weak fun a z => ?_, f2.trans P.len⟩
  rcases f3 a z with z | z
  · exact .inl z
  · exact .inr (.inl z)
end

/-- a def's promise, by what it computes -/
def spI (T : ExT) (K : PySem.W.Frag) (C : CallEnv) (j : Nat) (n : Nat) : Sp := fun vs H Q E => vs.length = n ∧ ∃ w ss hp, Rel K w (vs.map some) H ⟨ss, hp⟩ ∧
  match C j ss hp with
  | .stuck => False
  | .err x fin hp' => ∀ cls d H' w', PostCX T K w vs H ss x fin hp' cls d H' w' → E cls d H'
  | .ok r fin hp' => (∀ i, r ≠ .at i) ∧ ∀ v H' w', PostC K w vs H ss r fin hp' v H' w' → Q v H'
theorem callR_sp {T : ExT} {K : PySem.W.Frag} {W : WX} {w0 w : Wl} {σ : L2.St} {H0 H : Hp} {st0 st : Sm} {rs : List RVm} {vs : List V} {C : CallEnv} {j n : Nat} {Q : VK} (P : PostA K w0 σ H0 st0 rs st vs H w) (hn : rs.length = n)
    (hC : ∀ ss hp r fin hp', C j ss hp = .ok r fin hp' → ∀ i, r ≠ .at i)
    (h : EndE T K W w0 σ H0 st0 Q (callR C j rs st)) : spI T K C j n vs H Q (fun cls d H' => W cls d σ H') := by
  unfold callR at h
  split at h
  · exact h.elim
  · rename_i ss ls e
    split at h
    · rename_i nd
      obtain ⟨R, _⟩ := callee_rel P.rel P.res P.new e nd
      refine ⟨by rw [P.res.length, hn], w, ss, st.hp, R, ?_⟩
      cases q : C j ss st.hp with
      | stuck => rw [q] at h; exact h
      | err x fin hp' =>
        rw [q] at h
        simp only at h ⊢
        split at h
        · rename_i env' b
          exact fun cls d H' w' p => h cls d H' w' (call_postX P e nd b p)
        · exact h.elim
      | ok r fin hp' =>
        rw [q] at h
        simp only at h ⊢
        split at h
        · rename_i env' b
          exact ⟨hC _ _ _ _ _ q, fun v H' w' p => h v H' w' (call_post P e nd b (hC _ _ _ _ _ q) p)⟩
        · exact h.elim
    · exact h.elim
end Mp

set_option Elab.async false
set_option linter.all false
set_option maxRecDepth 100000
set_option maxHeartbeats 1000000
/-! Mp7: what is walked. -/
namespace Mp
open PySem PySem.Spec PyProof.Rows L2
/-! ### enumerate of a tuple -/
open AutoSeq1 (wpAny_loadPart') in
theorem enumNewT (t : Addr) (its : Array Value) (n : Nat) (dc : Option Addr) (sls : Array (Option Value)) :
    Meets (Builtin.«enumerate.__new__» ⟨[.type "enumerate", .ref t], []⟩) (fun _ R s =>
      s.heap.get? t = some { cls := .type "tuple", dict := dc, data := .seq its n, slots := sls } ∧
      R (.ok (.ret (.ref (s.heap.push { cls := .type "tuple_iterator", data := .fields #[.ref t, .int 0 0] }).objs.size)))
        { s with heap := (s.heap.push { cls := .type "tuple_iterator", data := .fields #[.ref t, .int 0 0] }).push { cls := .type "enumerate", data := .fields #[.none, .bool false, .ref s.heap.objs.size, rawInt 0, .none, .none] } }) :=
  .of_wp fun prog w A R s hyp => by
    obtain ⟨hp, g, d, tk, os⟩ := s
    obtain ⟨ht, hr⟩ := hyp
    have hsb := sub_enumerate
    have hT : Heap.IsTuple (Shared.heap ⟨hp, g, d, tk, os⟩) t its := ⟨_, ht, rfl, n, rfl⟩
    wp_walk using wpAny_loadPart' ht
    refine wpAny_stack_any fun stk => wpAny_pure ?_
    split
    · rename_i c _ _ _ _ _
      cases (c == Value.type "enumerate") <;>
        (wp_walk using wpAny_loadPart' ht, wpAny_pyIter_tuple hT
         exact ⟨_, rfl, hr⟩)
    · wp_walk using wpAny_loadPart' ht, wpAny_pyIter_tuple hT
      exact ⟨_, rfl, hr⟩
theorem callEnumT {prog : Program} {w : World} {A : Around} {E : Value → Shared → Prop} {s : Shared} {t : Addr} {its : Array Value} {Q : Value → Shared → Prop} (hT : s.heap.IsTuple t its)
    (hq : ∀ h', IsEnum h' (s.heap.objs.size + 1) s.heap.objs.size 0 .none → h'.IsTupleIter s.heap.objs.size t 0 → h'.objs.size = s.heap.objs.size + 2 →
      (∀ b o, s.heap.get? b = some o → h'.get? b = some o) → Q (.ref (s.heap.objs.size + 1)) { s with heap := h' }) :
    wpAny (model prog w) A (call (.type "enumerate") [.ref t]) Q E s := by
  obtain ⟨⟨c, dc, dt, sls⟩, ht, hc, n, hd⟩ := hT
  simp only at hc hd
  subst hc hd
  refine callType_new F.called_enumerate (by decide) (F.typeCall_enumerate_1 _) (F.newCall_enumerate_1 _) (fun ob => F.args_object_init_2 ob _) F.entry_enumerate_new
    (enumNewT t its n dc sls) ⟨ht, ?_⟩
  have hz : (s.heap.push { cls := .type "tuple_iterator", data := .fields #[.ref t, .int 0 0] }).objs.size = s.heap.objs.size + 1 := Heap.size_push ..
  have he : IsEnum ((s.heap.push { cls := .type "tuple_iterator", data := .fields #[.ref t, .int 0 0] }).push
      { cls := .type "enumerate", data := .fields #[.none, .bool false, .ref s.heap.objs.size, rawInt 0, .none, .none] }) (s.heap.objs.size + 1) s.heap.objs.size 0 .none := by
    have q := Heap.get?_push_size (s.heap.push { cls := .type "tuple_iterator", data := .fields #[.ref t, .int 0 0] })
      (o := { cls := .type "enumerate", data := .fields #[.none, .bool false, .ref s.heap.objs.size, rawInt 0, .none, .none] }) rfl
    rw [hz] at q
    exact q
  show _ ∧ _
  rw [hz]
  exact ⟨⟨_, he, rfl⟩, hq _ he ⟨_, Heap.get?_push_of_some _ (Heap.get?_push_size _ rfl), rfl, rfl⟩ (by rw [Heap.size_push, hz]) fun b o x => Heap.get?_push_of_some _ (Heap.get?_push_of_some _ x)⟩
/-- a tuple's items, each in a new pair -/
def IteT (K : PySem.W.Frag) (a : Addr) : It :=
  ⟨fun i H => ∃ (zs : List V) (z : V), SqT K H a zs ∧ zs[i]? = some z,
    fun i H v H' => ∃ T z, v = .ref T ∧ H T = none ∧ H' = upd H T (.tup [.int (i : Nat), z]) ∧ ∀ zs, SqT K H a zs → zs[i]? = some z,
    fun i H => ∃ zs : List V, SqT K H a zs ∧ zs.length ≤ i⟩
theorem turnEnumT {P : Program} {w : World} {K : PySem.W.Frag} {elts : List Expr} {kk : Nat} {tpos : Pos} (a e it : Addr) :
    Turn P w K (.Tuple elts kk tpos) (IteT K a) [e, it] e (fun i h => (∃ old, IsEnum h e it ((i : Nat) : Int) old) ∧ h.IsTupleIter it a i ∧ e ≠ it) where
  mem := by simp
  obj := fun i h st b hb => by
    obtain ⟨⟨old, he⟩, ⟨o, ho, hc, hd⟩, _⟩ := st
    rcases (show b = e ∨ b = it by simpa using hb) with z | z
    · exact ⟨_, by rw [z]; exact he, fun v q => by cases q⟩
    · exact ⟨o, by rw [z]; exact ho, fun v q => by rw [hd] at q; cases q⟩
  keep := fun i h h' st k => by
    obtain ⟨⟨old, he⟩, hi, hne⟩ := st
    exact ⟨⟨old, k e (by simp) _ he⟩, hi.at fun o q => k it (by simp) o q, hne⟩
  item := by
    intro X hP hw hK hc i pins s σ H E I hf st hg
    subst hP hw hK
    obtain ⟨⟨old, he⟩, hit, hne⟩ := st
    obtain ⟨zs, z, hq, hx⟩ := hg
    obtain ⟨its, rv, p, hz⟩ := I.tuple hq
    obtain ⟨u, hu, ru⟩ := rv.get hx
    have hT : s.heap.IsTuple a its.toArray := p
    have hel : e < s.heap.objs.size := Heap.lt_size he
    have hil : it < s.heap.objs.size := by
      obtain ⟨_, q, _⟩ := hit
      exact Heap.lt_size q
    have hne2 : a ≠ it := fun zz => by
      obtain ⟨o1, q1, c1, _⟩ := hit
      obtain ⟨o2, q2, c2, _⟩ := hT
      rw [zz, q1] at q2
      cases q2
      rw [c1] at c2
      exact absurd (Value.type.inj c2) (by decide)
    have hne3 : e ≠ a := fun zz => by
      obtain ⟨o2, q2, c2, _⟩ := hT
      rw [← zz, he] at q2
      cases q2
      exact absurd (Value.type.inj c2) (by decide)
    have hlt : i < its.toArray.size := by
      have := (List.getElem?_eq_some_iff.mp hu).1
      simpa using this
    refine wpAny_pyNext_enum_itemD (Draws.tuple (prog := X.prog) (w := X.w) (A := X.A.in1) (show X.A.in1.handled = none from I.ok.hd hc) it a hne2 its.toArray) he ⟨hit, hT⟩ hlt hne (by simp [hne, hne3]) fun x h' tk hpx ho hst' hTn hsz hk => ?_
    have hxu : x = u := by
      have e1 : its.toArray[i]? = some x := hpx
      have e2 : its.toArray[i]? = some u := by simpa using hu
      rw [e2] at e1
      exact (Option.some.inj e1).symm
    subst hxu
    refine ⟨_, rfl, wpAny_letOwnedTupleGo_enum (s := { s with heap := h', toks := tk + 1 }) ho fun h'' he' sb => ?_⟩
    have hT2 : h''.get? s.heap.objs.size = some { cls := .type "tuple", data := .seq #[.int i tk, x] } := (sb.2 _ (Nat.ne_of_gt hel)).trans hTn
    have nw : ObjOk X.prog X.w (upd H s.heap.objs.size (.tup [.int (i : Nat), z])) h'' s.heap.objs.size (.tup [.int (i : Nat), z]) :=
      ⟨(by show 2 ≤ sizeLine; decide), [.int i tk, x], .cons ⟨_, rfl⟩ (.cons ru .nil), ⟨_, hT2, rfl, _, rfl⟩⟩
    have J1 : Inv X pins σ (upd H s.heap.objs.size (.tup [.int (i : Nat), z])) { s with heap := h'', toks := tk + 1 } :=
      I.turnedNew (ch := [e, it]) (fun b ob hb q => (sb.2 b (fun zz => hb (by simp [zz]))).trans (hk b ob (fun zz => hb (by simp [zz])) (fun zz => hb (by simp [zz])) q)) hf (Nat.le_refl _) nw
    refine ⟨.ref s.heap.objs.size, _, J1, rfl, ⟨_, z, rfl, I.hok.fresh (Nat.le_refl _), rfl, fun ys hy => by rw [I.tuple_inj hy hq]; exact hx⟩, ⟨⟨x, ?_⟩, hst'.1.at fun o q => (sb.2 it (Ne.symm hne)).trans q, hne⟩, fun b hb => ?_⟩
    · rw [show ((i + 1 : Nat) : Int) = (i : Int) + 1 by omega]
      exact he'
    · have hb' : b < s.heap.objs.size := by
        rcases (show b = e ∨ b = it by simpa using hb) with zz | zz
        · rw [zz]; exact hel
        · rw [zz]; exact hil
      rw [upd_ne (Nat.ne_of_lt hb')]
      exact (hf b hb).1
  done := by
    intro X hP hw hK hc i pins s σ H E I hf st hg
    subst hP hw hK
    obtain ⟨⟨old, he⟩, hit, hne⟩ := st
    obtain ⟨zs, hq, hx⟩ := hg
    obtain ⟨its, rv, p, hz⟩ := I.tuple hq
    have hT : s.heap.IsTuple a its.toArray := p
    have hl := rv.length
    obtain ⟨f0, f1, f2, f3, f4, f5⟩ := hf it (by simp)
    unfold pyNext
    have hTy : s.TypeIs (.ref e) "enumerate" := ⟨_, he, rfl⟩
    refine wpAny_bind (wpAny_attempt (wpAny_callSpecial?_slot (name := Str.ofString "__next__") hTy F.slot_enumerate_next (wpAny_call_entry F.slot_enumerate_next hTy F.entry_enumerate_next ?_ (F.args_enumerate_next_1 _))))
    show wpAny _ _ (field (.ref e) 2 >>= _) _ _ _
    refine wpAny_bind (wpAny_field he rfl (x := .ref it) rfl (wpAny_bind (wpAny_nextOf_tuple_end (show X.A.in1.handled = none from I.ok.hd hc) hit hT (by simp; omega) fun h' x eb hst => ?_)))
    obtain ⟨o, ho, hcl⟩ := hst
    refine wpAny_bind (wpAny_isInstance (T := "StopIteration") (b := true) ⟨o, ho, hcl⟩ isSubtype_stop (wpAny_pure ⟨rfl, ?_⟩))
    exact I.turned (t' := s.toks) (fun b o hb q => eb b o hb q) f0 f1 f3 f4 f5
  self := fun A i s Q E st h => by
    obtain ⟨⟨_, he⟩, _⟩ := st
    exact wpAny_pyIter_enum he h
section
variable {X : Cx} {tg : Expr}
/-- a list, a tuple or a text walked -/
def iSeq (K : PySem.W.Frag) (tl : TE) : TI := fun σ H R => tl σ H fun x H1 => (∃ a xs, x = .ref a ∧ SqL K H1 a xs ∧ R (Itl K a) H1) ∨ (∃ a xs, x = .ref a ∧ SqT K H1 a xs ∧ R (Itt K a) H1) ∨ ∃ z, x = .str z ∧ R (Its z) H1
theorem pi_seq {l : Expr} {tl : TE} (hl : PE X l tl) : PI X tg l (iSeq X.K tl) := by
  refine ⟨fun pins s σ H R I h => thn (hl.run pins s σ H _ I h) fun v s1 hv => ?_⟩
  obtain ⟨x, H1, I1, r1, q1⟩ := hv
  rcases q1 with ⟨a, xs, rfl, hq, q⟩ | ⟨a, xs, rfl, hq, q⟩ | ⟨z, rfl, q⟩
  · cases r1
    obtain ⟨its, rv, p, hz⟩ := I1.list hq
    exact wpAny_pyIter_list p.isList (pi_one (tk := s1.toks) I1 _ (turn_list a _) ⟨_, Heap.get?_push_size _ rfl, rfl, rfl⟩ q)
  · cases r1
    obtain ⟨its, rv, p, hz⟩ := I1.tuple hq
    exact wpAny_pyIter_tuple (show s1.heap.IsTuple a its.toArray from p) (pi_one (tk := s1.toks) I1 _ (turn_tuple a _) ⟨_, Heap.get?_push_size _ rfl, rfl, rfl⟩ q)
  · obtain ⟨t, rfl⟩ := r1
    cases ha : z.cps.all (· < 128) with
    | false => exact wpAny_pyIter_wide ha (pi_one (tk := s1.toks) I1 _ (turn_str _ z t "str_iterator" (.inr rfl)) ⟨_, Heap.get?_push_size _ rfl, rfl, rfl⟩ q)
    | true => exact wpAny_pyIter_ascii ha (pi_one (tk := s1.toks) I1 _ (turn_str _ z t "str_ascii_iterator" (.inl rfl)) ⟨_, Heap.get?_push_size _ rfl, rfl, rfl⟩ q)
/-- enumerate of a list or a tuple -/
def iEnA (K : PySem.W.Frag) (ta : TA) : TI := fun σ H R => ta σ H fun vs H1 => ∃ a xs, vs = [.ref a] ∧ ((SqL K H1 a xs ∧ R (Ite K a) H1) ∨ (SqT K H1 a xs ∧ R (IteT K a) H1))
theorem pi_enA {e : Expr} {ta : TA} {p pos tpos : Pos} {elts : List Expr} {kk : Nat} (hg : Gl X "enumerate") (hm : X.mg "enumerate" = none) (ha : PA X [e] ta) (hs : starEach [e] X.env = [(false, eval e X.env)]) :
    PI X (.Tuple elts kk tpos) (.Call (.Name "enumerate" p) [e] [] pos) (iEnA X.K ta) := by
  refine ⟨fun pins s σ H R I h => Call_ (ld_blt I hg hm boot_enumerate (PyProof.Rows.callWith_type1 (thn (ha.run pos pins s σ H _ I h) fun us s1 hv => ?_) hs rfl))⟩
  obtain ⟨vs, H1, I1, r1, a, xs, ex, q1⟩ := hv
  subst ex
  cases r1 with
  | cons r rr =>
    cases rr
    cases r
    have fp : ∀ b, b ∈ [s1.heap.objs.size + 1, s1.heap.objs.size] → FpOk X pins H1 b := fun b hb => by
      have hle : s1.heap.objs.size ≤ b := by
        rcases (show b = s1.heap.objs.size + 1 ∨ b = s1.heap.objs.size by simpa using hb) with z | z <;> omega
      exact I1.fpOk hle (I1.hok.fresh hle)
    rcases q1 with ⟨hq, q⟩ | ⟨hq, q⟩
    · obtain ⟨its, rv, p', hz⟩ := I1.list hq
      refine call_enumerate_list p'.isList fun h' he hit hsz hk => wpAny_pyIter_enum he ?_
      exact ⟨s1.heap.objs.size + 1, [s1.heap.objs.size + 1, s1.heap.objs.size], _, _, H1, rfl, I1.kept (t' := s1.toks) hk, turn_enum a _ _, ⟨⟨.none, he⟩, hit, Nat.succ_ne_self _⟩, fp, q⟩
    · obtain ⟨its, rv, p', hz⟩ := I1.tuple hq
      refine callEnumT (show s1.heap.IsTuple a its.toArray from p') fun h' he hit hsz hk => wpAny_pyIter_enum he ?_
      exact ⟨s1.heap.objs.size + 1, [s1.heap.objs.size + 1, s1.heap.objs.size], _, _, H1, rfl, I1.kept (t' := s1.toks) hk, turnEnumT a _ _, ⟨⟨.none, he⟩, hit, Nat.succ_ne_self _⟩, fp, q⟩
end
end Mp

set_option Elab.async false
set_option linter.all false
set_option maxRecDepth 100000
set_option maxHeartbeats 1000000
/-! Mp8: targets; what is walked, by items. -/
namespace Mp
open PySem PySem.Spec PyProof.Rows L2
section
variable {T : ExT} {K : PySem.W.Frag} {W : WX} {w w1 w2 : Wl} {σ σ2 : L2.St} {H H1 H2 : Hp} {st st1 st2 : Sm} {r r2 : RVm} {v v2 : V} {rs : List RVm} {vs : List V}
/-! ### targets -/
/-- slots stored -/
structure PostB (K : PySem.W.Frag) (w : Wl) (σ : L2.St) (H : Hp) (st : Sm) (xs : List Nat) (σ' : L2.St) (st' : Sm) : Prop where
  rel : Rel K w σ' H st'
  foot : ∀ b, Foot st'.env σ' w b → Foot st.env σ w b
  out : ∀ i, i ∉ xs → σ'[i]? = σ[i]? ∧ st'.env[i]? = st.env[i]?
  lent : ∀ (i : Nat) (o : MOm), st.env[i]? = some (.lent o) → σ'[i]? = σ[i]? ∧ st'.env[i]? = st.env[i]?
  nol : ∀ (i : Nat) (o : MOm), st'.env[i]? = some (.lent o) → st.env[i]? = some (.lent o)
  len : st'.env.length = st.env.length
  hp : st'.hp = st.hp
theorem PostB.refl (R : Rel K w σ H st) : PostB K w σ H st [] σ st := ⟨R, fun _ h => h, fun _ _ => ⟨rfl, rfl⟩, fun _ _ _ => ⟨rfl, rfl⟩, fun _ _ h => h, rfl, rfl⟩
theorem PostB.trans {σ1 : L2.St} {xs ys : List Nat} (a : PostB K w σ H st xs σ1 st1) (b : PostB K w σ1 H st1 ys σ2 st2) : PostB K w σ H st (xs ++ ys) σ2 st2 :=
  ⟨b.rel, fun x h => a.foot x (b.foot x h), fun i h => by
    rw [List.mem_append, not_or] at h
    exact ⟨(b.out i h.2).1.trans (a.out i h.1).1, (b.out i h.2).2.trans (a.out i h.1).2⟩, fun i o h => by
    have h1 := a.lent i o h
    have h2 := b.lent i o (by rw [h1.2]; exact h)
    exact ⟨h2.1.trans h1.1, h2.2.trans h1.2⟩, fun i o h => a.nol i o (b.nol i o h), b.len.trans a.len, b.hp.trans a.hp⟩
/-- a slot stored: a value, or a new object of its own -/
theorem sets_post {i : Nat} {s : Slotm} {st' : Sm} (R : Rel K w σ H st) (e : sets i s st = some st') (hv : (∃ p, s = .val p ∧ Rp K H w v p) ∨ (∃ o a, s = .own o ∧ v = .ref a ∧ MOk K H w a o ∧ ¬ w.S a ∧ ¬ Foot st.env σ w a) ∨ s = .no ∨ ∃ c l, s = .exc c l) :
    Rel K w (σ.set i (some v)) H st' ∧ st' = { st with env := st.env.set i s } ∧ i < st.env.length ∧ (∀ o, st.env[i]? ≠ some (.lent o)) ∧
      (∀ b, Foot st'.env (σ.set i (some v)) w b → Foot st.env σ w b ∨ (∃ o, s = .own o) ∧ v = .ref b) := by
  unfold sets at e
  split at e
  · cases e
  · rename_i s0 hs0 hno
    cases e
    have hi : i < st.env.length := (List.getElem?_eq_some_iff.mp hno).1
    have hiσ : i < σ.length := by rw [R.len]; exact hi
    have nl : ∀ o, st.env[i]? ≠ some (.lent o) := fun o z => by
      rw [hno] at z
      exact hs0 o (Option.some.inj z)
    have owns : ∀ j a, OwnAt (st.env.set i s) (σ.set i (some v)) j a → (j ≠ i ∧ OwnAt st.env σ j a) ∨ (j = i ∧ (∃ o, s = .own o) ∧ v = .ref a) := fun j a ⟨h1, o, h2⟩ => by
      by_cases hj : j = i
      · subst hj
        rw [List.getElem?_set_self hiσ] at h1
        rw [List.getElem?_set_self hi] at h2
        have h1 : v = .ref a := Option.some.inj (Option.some.inj h1)
        refine .inr ⟨rfl, ?_, h1⟩
        rcases hv with ⟨p, rfl, _⟩ | ⟨o', _, rfl, _⟩ | rfl | ⟨c, l, rfl⟩
        · rcases h2 with h2 | h2 <;> cases h2
        · exact ⟨_, rfl⟩
        · rcases h2 with h2 | h2 <;> cases h2
        · rcases h2 with h2 | h2 <;> cases h2
      · rw [List.getElem?_set_ne (Ne.symm hj)] at h1 h2
        exact .inl ⟨hj, h1, o, h2⟩
    have nw : ∀ a, (∃ o, s = .own o) → v = .ref a → (∃ o, s = .own o ∧ MOk K H w a o) ∧ ¬ w.S a ∧ ¬ Foot st.env σ w a := fun a ⟨o, ho⟩ hva => by
      rcases hv with ⟨p, rfl, _⟩ | ⟨o', a', rfl, hv', h3, h4, h5⟩ | rfl | ⟨c, l, rfl⟩
      · cases ho
      · rw [hva] at hv'
        obtain rfl : a = a' := V.ref.inj hv'
        exact ⟨⟨_, rfl, h3⟩, h4, h5⟩
      · cases ho
      · cases ho
    refine ⟨⟨by simp [R.len], fun j p h => ?_, fun j o h => ?_, R.hl, R.hob, R.nd, fun j a h => ?_, fun j k a h h' => ?_, fun a h f => ?_, R.tS⟩, rfl, hi, nl, fun b f => ?_⟩
    · have h : (st.env.set i s)[j]? = some (.val p) := h
      by_cases hj : j = i
      · subst hj
        rw [List.getElem?_set_self hi] at h
        rw [List.getElem?_set_self hiσ]
        rcases hv with ⟨p', rfl, hp⟩ | ⟨o', a', rfl, _⟩ | rfl | ⟨c, l, rfl⟩ <;> cases h
        exact ⟨v, rfl, hp⟩
      · rw [List.getElem?_set_ne (Ne.symm hj)] at h ⊢
        exact R.val j p h
    · have h : (st.env.set i s)[j]? = some (.own o) ∨ (st.env.set i s)[j]? = some (.lent o) := h
      by_cases hj : j = i
      · subst hj
        rw [List.getElem?_set_self hi] at h
        rw [List.getElem?_set_self hiσ]
        rcases hv with ⟨p', rfl, hp⟩ | ⟨o', a', rfl, rfl, h3, _⟩ | rfl | ⟨c, l, rfl⟩ <;> rcases h with h | h <;> cases h
        exact ⟨a', rfl, h3⟩
      · rw [List.getElem?_set_ne (Ne.symm hj)] at h ⊢
        exact R.obj j o h
    · rcases owns j a h with ⟨_, z⟩ | ⟨_, z1, z2⟩
      · exact R.nio j a z
      · exact fun q => (nw a z1 z2).2.2 (.inl q)
    · rcases owns j a h with ⟨_, z⟩ | ⟨e1, z1, z2⟩
      · rcases owns k a h' with ⟨_, z'⟩ | ⟨e2, z1', z2'⟩
        · exact R.inj j k a z z'
        · exact absurd (Or.inr ⟨j, z⟩) (nw a z1' z2').2.2
      · rcases owns k a h' with ⟨_, z'⟩ | ⟨e2, _, _⟩
        · exact absurd (Or.inr ⟨k, z'⟩) (nw a z1 z2).2.2
        · rw [e1, e2]
    · rcases f with f | ⟨j, f⟩
      · exact R.sS a h (.inl f)
      · rcases owns j a f with ⟨_, z⟩ | ⟨_, z1, z2⟩
        · exact R.sS a h (.inr ⟨j, z⟩)
        · exact (nw a z1 z2).2.1 h
    · rcases f with f | ⟨j, f⟩
      · exact .inl (.inl f)
      · rcases owns j b f with ⟨_, z⟩ | ⟨_, z1, z2⟩
        · exact .inl (.inr ⟨j, z⟩)
        · exact .inr ⟨z1, z2⟩
  · cases e
theorem sets_postB {i : Nat} {p : PVm} {st' : Sm} (R : Rel K w σ H st) (h : Rp K H w v p) (e : sets i (.val p) st = some st') : PostB K w σ H st [i] (σ.set i (some v)) st' := by
  obtain ⟨R', rfl, hi, nl, ft⟩ := sets_post R e (.inl ⟨p, rfl, h⟩)
  refine ⟨R', fun b z => (ft b z).elim id fun ⟨⟨o, z⟩, _⟩ => (nomatch z), fun j hj => ?_, fun j o z => ?_, fun j o z => ?_, by simp, rfl⟩
  · have hj : i ≠ j := fun z => hj (by simp [z])
    exact ⟨List.getElem?_set_ne hj, List.getElem?_set_ne hj⟩
  · have hj : i ≠ j := fun q => nl o (by rw [q]; exact z)
    exact ⟨List.getElem?_set_ne hj, List.getElem?_set_ne hj⟩
  · by_cases hj : i = j
    · subst hj
      rw [List.getElem?_set_self hi] at z
      cases z
    · rw [List.getElem?_set_ne hj] at z
      exact z
mutual
theorem bindT_post : ∀ {t : Tgtm} {p : PVm} {v : V} {σ : L2.St} {st st' : Sm}, Rel K w σ H st → Rp K H w v p → bindT t p st = some st' → ∃ σ', PostB K w σ H st t.vars σ' st'
  | .v i, p, v, σ, st, st', R, h, e => ⟨_, sets_postB R h e⟩
  | .t ts, p, v, σ, st, st', R, h, e => by
    unfold bindT at e
    split at e
    · obtain ⟨a, vs, rfl, _, rl⟩ := VRel.tup_inv h
      obtain ⟨σ', B⟩ := bindTs_post (vs := vs) R rl e
      exact ⟨σ', by unfold Tgtm.vars; exact B⟩
    · cases e
theorem bindTs_post : ∀ {ts : List Tgtm} {ps : List PVm} {vs : List V} {σ : L2.St} {st st' : Sm}, Rel K w σ H st → RpL K H w vs ps → bindTs ts ps st = some st' → ∃ σ', PostB K w σ H st (Tgtm.varsL ts) σ' st'
  | [], ps, vs, σ, st, st', R, h, e => by
    cases ps with
    | nil => cases e; exact ⟨σ, by unfold Tgtm.varsL; exact PostB.refl R⟩
    | cons p ps => cases e
  | t :: ts, ps, vs, σ, st, st', R, h, e => by
    cases h with
    | nil => cases e
    | cons r rl =>
      unfold bindTs at e
      split at e
      · rename_i st1 e1
        obtain ⟨σ1, B1⟩ := bindT_post R r e1
        obtain ⟨σ2, B2⟩ := bindTs_post B1.rel rl e
        exact ⟨σ2, by unfold Tgtm.varsL; exact B1.trans B2⟩
      · cases e
end
/-- the reading of a target -/
def rdG (K : PySem.W.Frag) (t : Tgtm) : TG := fun v σ H Q => ∃ w st p st', Rel K w σ H st ∧ Rp K H w v p ∧ bindT t p st = some st' ∧ ∀ σ', PostB K w σ H st t.vars σ' st' → Q σ' H
def rdGs (K : PySem.W.Frag) (ts : List Tgtm) : TGs := fun vs σ H Q => ∃ w st ps st', Rel K w σ H st ∧ RpL K H w vs ps ∧ bindTs ts ps st = some st' ∧ ∀ σ', PostB K w σ H st (Tgtm.varsL ts) σ' st' → Q σ' H
theorem gd_name {i : Nat} {v : V} {σ : L2.St} {H : Hp} {Q : L2.St → Hp → Prop} (h : rdG K (.v i) v σ H Q) : gName i v σ H Q := by
  obtain ⟨w, st, p, st', R, r, e, q⟩ := h
  exact q _ (sets_postB R r e)
theorem gd_cons {t : Tgtm} {ts : List Tgtm} {vs : List V} {σ : L2.St} {H : Hp} {Q : L2.St → Hp → Prop} (h : rdGs K (t :: ts) vs σ H Q) : gCons (rdG K t) (rdGs K ts) vs σ H Q := by
  obtain ⟨w, st, ps, st', R, rl, e, q⟩ := h
  cases rl with
  | nil => cases e
  | cons r rl =>
    unfold bindTs at e
    split at e
    · rename_i st1 e1
      exact ⟨_, _, rfl, w, st, _, st1, R, r, e1, fun σ1 B1 => ⟨w, st1, _, st', B1.rel, rl, e, fun σ2 B2 => q σ2 (by unfold Tgtm.varsL; exact B1.trans B2)⟩⟩
    · cases e
theorem gd_nil {vs : List V} {σ : L2.St} {H : Hp} {Q : L2.St → Hp → Prop} (h : rdGs K [] vs σ H Q) : gNil vs σ H Q := by
  obtain ⟨w, st, ps, st', R, rl, e, q⟩ := h
  cases rl with
  | nil => cases e; exact ⟨rfl, q σ (by unfold Tgtm.varsL; exact PostB.refl R)⟩
  | cons r rl => cases e

/-! ### what is walked -/
/-- a turn's state: what the walk leans on stands as it stood -/
structure TurnOk (K : PySem.W.Frag) (w : Wl) (σ : L2.St) (H : Hp) (ds : List (Nat × List PVm)) (IA : Addr → Prop) (w2 : Wl) (σ2 : L2.St) (H2 : Hp) (st2 : Sm) : Prop where
  rel : Rel K w2 σ2 H2 st2
  dep : depsOk ds st2 = true
  σ : ∀ d ∈ ds, σ2[d.1]? = σ[d.1]?
  st : Stays w H H2
  ia : ∀ a, IA a → H2 a = H a
  le : w.le w2
structure WalkI (K : PySem.W.Frag) (w : Wl) (σ : L2.St) (H : Hp) (ds : List (Nat × List PVm)) (items : List PVm) (IA : Addr → Prop) (J : It) : Prop where
  ex : ∃ (G : Hp → Prop) (Y : Nat → Hp → V → Hp → Prop), Walk J items.length G Y ∧ (∀ w2 σ2 H2 st2, TurnOk K w σ H ds IA w2 σ2 H2 st2 → G H2) ∧
    ∀ (n : Nat) w2 σ2 H2 st2 x H3 p, TurnOk K w σ H ds IA w2 σ2 H2 st2 → Y n H2 x H3 → items[n]? = some p → Rp K H3 w2 x p ∧ (H3 = H2 ∨ ∃ t xs, H2 t = none ∧ H3 = upd H2 t (.tup xs))
structure PostI (K : PySem.W.Frag) (w : Wl) (σ : L2.St) (H : Hp) (st : Sm) (I : Itmm) (st' : Sm) (J : It) (H' : Hp) (w' : Wl) (IA : Addr → Prop) : Prop where
  le : w.le w'
  rel : Rel K w' σ H' st'
  ext : Ext H (Foot st.env σ w) w.S H' (fun a => Foot st'.env σ w' a ∨ IA a) w'.S
  new : ∀ a, IA a → ¬ Foot st'.env σ w' a ∧ ¬ w'.S a ∧ H' a ≠ none
  walk : WalkI K w' σ H' I.deps I.items IA J
  len : st'.env.length = st.env.length
def EndI (T : ExT) (K : PySem.W.Frag) (W : WX) (w : Wl) (σ : L2.St) (H : Hp) (st : Sm) (R : It → Hp → Prop) : Resm Itmm → Prop
  | .stuck => False
  | .err x st' => ∀ cls d H' w', PostX T K w σ H st x st' cls d σ H' w' → W cls d σ H'
  | .ok I st' => ∀ J H' w' IA, PostI K w σ H st I st' J H' w' IA → R J H'
def rdI (T : ExT) (K : PySem.W.Frag) (W : WX) (m : Sm → Resm Itmm) : TI := fun σ H R => ∃ w st, Rel K w σ H st ∧ EndI T K W w σ H st R (m st)
theorem EndI.bind {m : Resm RVm} {f : RVm → Sm → Resm Itmm} {Q : It → Hp → Prop} (h : EndI T K W w σ H st Q (m.bind f)) :
    EndE T K W w σ H st (fun v H1 => ∃ r st1 w1, PostE K w σ H st r st1 v H1 w1 ∧ EndI T K W w σ H st Q (f r st1)) m := by
  cases m with
  | stuck => exact h
  | err x st' => exact h
  | ok r st1 => exact fun v H1 w1 P => ⟨r, st1, w1, P, h⟩
theorem EndI.bindA {m : Resm (List RVm)} {f : List RVm → Sm → Resm Itmm} {Q : It → Hp → Prop} (h : EndI T K W w σ H st Q (m.bind f)) :
    EndA T K W w σ H st (fun vs H1 => ∃ rs st1 w1, PostA K w σ H st rs st1 vs H1 w1 ∧ EndI T K W w σ H st Q (f rs st1)) m := by
  cases m with
  | stuck => exact h
  | err x st' => exact h
  | ok r st1 => exact fun v H1 w1 P => ⟨r, st1, w1, P, h⟩

/-- a list or tuple that is walked: where it stands at each turn -/
structure SeqW (K : PySem.W.Frag) (w : Wl) (σ : L2.St) (H : Hp) (r : RVm) (v : V) (I : Bool × Itmm) (a : Addr) (vs : List V) : Prop where
  hv : v = .ref a
  rl : RpL K H w vs I.2.items
  l : I.1 = false → SqL K H a vs
  t : I.1 = true → SqT K H a vs
  at_ : ∀ (IA : Addr → Prop) (w2 : Wl) (σ2 : L2.St) (H2 : Hp) (st2 : Sm), (∀ b, ResA r v b → IA b) → TurnOk K w σ H I.2.deps IA w2 σ2 H2 st2 → ∃ vs2, RpL K H2 w2 vs2 I.2.items ∧ (I.1 = false → SqL K H2 a vs2) ∧ (I.1 = true → SqT K H2 a vs2)
theorem seqIt_walk {I : Bool × Itmm} (R : Rel K w σ H st) (h : RRel K w σ H v r) (e : seqIt r st = some I) : ∃ a vs, SeqW K w σ H r v I a vs := by
  -- a value that stands still
  have val : ∀ (p : PVm) (b : Bool) (l : List PVm), Rp K H w v p → (p = .lst l ∧ b = false ∨ p = .rol l ∧ b = false ∨ p = .tup l ∧ b = true) → ∃ a vs, SeqW K w σ H r v (b, ⟨l, []⟩) a vs := fun p b l hp h3 => by
    rcases h3 with ⟨rfl, rfl⟩ | ⟨rfl, rfl⟩ | ⟨rfl, rfl⟩
    · cases hp with
      | lst hf rl => exact ⟨_, _, rfl, rl, fun _ => SqL.of hf.2, fun z => (nomatch z), fun IA w2 σ2 H2 st2 hi t => ⟨_, rl.stay t.st t.le, fun _ => SqL.of (t.st.S _ _ hf.1 hf.2), fun z => (nomatch z)⟩⟩
    · cases hp with
      | rol hf rl => exact ⟨_, _, rfl, rl, fun _ => hf.sq, fun z => (nomatch z), fun IA w2 σ2 H2 st2 hi t => ⟨_, rl.stay t.st t.le, fun _ => (t.st.roL t.le hf).sq, fun z => (nomatch z)⟩⟩
    · cases hp with
      | tup hq rl => exact ⟨_, _, rfl, rl, fun z => (nomatch z), fun _ => tuT hq, fun IA w2 σ2 H2 st2 hi t => ⟨_, rl.stay t.st t.le, fun z => (nomatch z), fun _ => t.st.sqT (tuT hq)⟩⟩
  -- a slot's own list
  have own : ∀ (i : Nat) (l : List PVm), r = .at i → (st.env[i]? = some (.own (.lst l)) ∨ st.env[i]? = some (.lent (.lst l))) → ∃ a vs, SeqW K w σ H r v (false, ⟨l, [(i, l)]⟩) a vs := fun i l hr hi => by
    subst hr
    have h : σ[i]? = some (some v) := h
    obtain ⟨a, e1, vs, hq, rl⟩ := R.obj i _ hi
    rw [e1] at h; cases h
    refine ⟨a, vs, rfl, rl, fun _ => SqL.of hq, fun z => (nomatch z), fun IA w2 σ2 H2 st2 _ t => ?_⟩
    have hd := t.dep
    have hs : σ2[i]? = σ[i]? := t.σ (i, l) List.mem_cons_self
    have done : ∀ l', (st2.env[i]? = some (.own (.lst l')) ∨ st2.env[i]? = some (.lent (.lst l'))) → l' = l → ∃ vs2, RpL K H2 w2 vs2 l ∧ (false = false → SqL K H2 a vs2) ∧ (false = true → SqT K H2 a vs2) := fun l' h1 h2 => by
      subst h2
      obtain ⟨b, e2, vs2, hq2, rl2⟩ := t.rel.obj i _ h1
      rw [hs, e1] at e2; cases e2
      exact ⟨vs2, rl2, fun _ => SqL.of hq2, fun z => (nomatch z)⟩
    have hd : (depOk st2 (i, l) && depsOk [] st2) = true := hd
    rw [Bool.and_eq_true] at hd
    have hd := hd.1
    unfold depOk at hd
    simp only at hd
    split at hd
    · exact done _ (.inl (by assumption)) (of_decide_eq_true (by simpa using hd))
    · exact done _ (.inr (by assumption)) (of_decide_eq_true (by simpa using hd))
    · cases hd
  cases r with
  | val p =>
    have h : Rp K H w v p := h
    cases p <;> try (cases e; done)
    · cases e
      exact val _ true _ h (.inr (.inr ⟨rfl, rfl⟩))
    · cases e
      exact val _ false _ h (.inl ⟨rfl, rfl⟩)
    · cases e
      exact val _ false _ h (.inr (.inl ⟨rfl, rfl⟩))
  | own o =>
    cases o <;> try (cases e; done)
    cases e
    obtain ⟨a, rfl, ⟨vs, hq, rl⟩, ns⟩ := h
    refine ⟨a, vs, rfl, rl, fun _ => SqL.of hq, fun z => (nomatch z), fun IA w2 σ2 H2 st2 hi t => ⟨vs, rl.stay t.st t.le, fun _ => SqL.of ?_, fun z => (nomatch z)⟩⟩
    rw [t.ia a (hi a ⟨⟨_, rfl⟩, rfl⟩), hq]
  | «at» i =>
    unfold seqIt at e
    simp only at e
    split at e
    · cases e
      exact own i _ rfl (.inl (by assumption))
    · cases e
      exact own i _ rfl (.inr (by assumption))
    · rename_i l hl
      cases e
      obtain ⟨x, e1, rp⟩ := R.val i _ hl
      have h : σ[i]? = some (some v) := h
      rw [e1] at h; cases h
      exact val _ false _ rp (.inl ⟨rfl, rfl⟩)
    · rename_i l hl
      cases e
      obtain ⟨x, e1, rp⟩ := R.val i _ hl
      have h : σ[i]? = some (some v) := h
      rw [e1] at h; cases h
      exact val _ true _ rp (.inr (.inr ⟨rfl, rfl⟩))
    · rename_i l hl
      cases e
      obtain ⟨x, e1, rp⟩ := R.val i _ hl
      have h : σ[i]? = some (some v) := h
      rw [e1] at h; cases h
      exact val _ false _ rp (.inr (.inl ⟨rfl, rfl⟩))
    · cases e

/-- what an outcome's address was -/
theorem res_track (P : PostE K w σ H st r st1 v H1 w1) (a : Addr) (z : ResA r v a) : ¬ Foot st1.env σ w1 a ∧ ¬ w1.S a ∧ H1 a ≠ none := by
  refine ⟨P.new a z, ?_⟩
  obtain ⟨⟨o, rfl⟩, e1⟩ := z
  obtain ⟨b, e2, m, n⟩ := P.res
  rw [e1] at e2; cases e2
  obtain ⟨u, hu⟩ := m.some
  exact ⟨n, by rw [hu]; exact fun z => (nomatch z)⟩
theorem PostI.of (P : PostE K w σ H st r st1 v H1 w1) {I : Itmm} {J : It} (hw : WalkI K w1 σ H1 I.deps I.items (ResA r v) J) : PostI K w σ H st I st1 J H1 w1 (ResA r v) :=
  ⟨P.le, P.rel, P.ext, res_track P, hw, P.len⟩
theorem walk_listY {a : Addr} {n : Nat} : Walk (Itl K a) n (fun H => ∃ zs, SqL K H a zs ∧ zs.length = n) (fun i H x H' => H' = H ∧ ∀ zs, SqL K H a zs → zs[i]? = some x) :=
  ⟨fun i _ hi ⟨zs, q, hz⟩ => ⟨zs, zs[i], q, by simp [hz, hi]⟩, fun _ ⟨zs, q, hz⟩ => ⟨zs, q, Nat.le_of_eq hz⟩, fun _ _ _ _ _ _ y => y⟩
theorem walk_tupY {a : Addr} {n : Nat} : Walk (Itt K a) n (fun H => ∃ zs, SqT K H a zs ∧ zs.length = n) (fun i H x H' => H' = H ∧ ∀ zs, SqT K H a zs → zs[i]? = some x) :=
  ⟨fun i _ hi ⟨zs, q, hz⟩ => ⟨zs, zs[i], q, by simp [hz, hi]⟩, fun _ ⟨zs, q, hz⟩ => ⟨zs, q, Nat.le_of_eq hz⟩, fun _ _ _ _ _ _ y => y⟩
theorem walk_enL {a : Addr} {n : Nat} : Walk (Ite K a) n (fun H => ∃ zs, SqL K H a zs ∧ zs.length = n) (fun i H v H' => ∃ t z, v = .ref t ∧ H t = none ∧ H' = upd H t (.tup [.int (i : Nat), z]) ∧ ∀ zs, SqL K H a zs → zs[i]? = some z) :=
  ⟨fun i _ hi ⟨zs, q, hz⟩ => ⟨zs, zs[i], q, by simp [hz, hi]⟩, fun _ ⟨zs, q, hz⟩ => ⟨zs, q, Nat.le_of_eq hz⟩, fun _ _ _ _ _ _ y => y⟩
theorem walk_enT {a : Addr} {n : Nat} : Walk (IteT K a) n (fun H => ∃ zs, SqT K H a zs ∧ zs.length = n) (fun i H v H' => ∃ t z, v = .ref t ∧ H t = none ∧ H' = upd H t (.tup [.int (i : Nat), z]) ∧ ∀ zs, SqT K H a zs → zs[i]? = some z) :=
  ⟨fun i _ hi ⟨zs, q, hz⟩ => ⟨zs, zs[i], q, by simp [hz, hi]⟩, fun _ ⟨zs, q, hz⟩ => ⟨zs, q, Nat.le_of_eq hz⟩, fun _ _ _ _ _ _ y => y⟩
theorem seq_walkL {I : Bool × Itmm} {a : Addr} (S : SeqW K w σ H r v I a vs) (hb : I.1 = false) {IA : Addr → Prop} (hi : ∀ b, ResA r v b → IA b) : WalkI K w σ H I.2.deps I.2.items IA (Itl K a) := by
  refine ⟨_, _, walk_listY, fun w2 σ2 H2 st2 t => ?_, fun n w2 σ2 H2 st2 x H3 p t y hp => ?_⟩
  · obtain ⟨vs2, r2, q, _⟩ := S.at_ IA w2 σ2 H2 st2 hi t
    exact ⟨vs2, q hb, r2.length⟩
  · obtain ⟨vs2, r2, q, _⟩ := S.at_ IA w2 σ2 H2 st2 hi t
    obtain ⟨rfl, y⟩ := y
    obtain ⟨z, e1, rp⟩ := r2.get hp
    rw [y _ (q hb)] at e1; cases e1
    exact ⟨rp, .inl rfl⟩
theorem seq_walkT {I : Bool × Itmm} {a : Addr} (S : SeqW K w σ H r v I a vs) (hb : I.1 = true) {IA : Addr → Prop} (hi : ∀ b, ResA r v b → IA b) : WalkI K w σ H I.2.deps I.2.items IA (Itt K a) := by
  refine ⟨_, _, walk_tupY, fun w2 σ2 H2 st2 t => ?_, fun n w2 σ2 H2 st2 x H3 p t y hp => ?_⟩
  · obtain ⟨vs2, r2, _, q⟩ := S.at_ IA w2 σ2 H2 st2 hi t
    exact ⟨vs2, q hb, r2.length⟩
  · obtain ⟨vs2, r2, _, q⟩ := S.at_ IA w2 σ2 H2 st2 hi t
    obtain ⟨rfl, y⟩ := y
    obtain ⟨z, e1, rp⟩ := r2.get hp
    rw [y _ (q hb)] at e1; cases e1
    exact ⟨rp, .inl rfl⟩
theorem enumL_get : ∀ {l : List PVm} {k n : Nat} {p : PVm}, (enumL k l)[n]? = some p → ∃ q, l[n]? = some q ∧ p = .tup [.int ((k + n : Nat) : Int), q]
  | [], _, _, _, h => by simp [enumL] at h
  | x :: xs, k, 0, p, h => by
    simp [enumL] at h
    exact ⟨x, rfl, h.symm⟩
  | x :: xs, k, n + 1, p, h => by
    have h : (enumL (k + 1) xs)[n]? = some p := by simpa [enumL] using h
    obtain ⟨q, h1, h2⟩ := enumL_get h
    refine ⟨q, by simpa using h1, ?_⟩
    rw [h2, show k + 1 + n = k + (n + 1) by omega]
theorem enumL_len : ∀ (l : List PVm) (k : Nat), (enumL k l).length = l.length
  | [], _ => rfl
  | x :: xs, k => by simp [enumL, enumL_len xs]
theorem new_pair {w2 : Wl} {H2 : Hp} {t : Addr} {x z : V} {p q : PVm} (ht : H2 t = none) (rx : Rp K H2 w2 x p) (rz : Rp K H2 w2 z q) : Rp K (upd H2 t (.tup [x, z])) w2 (.ref t) (.tup [p, q]) :=
  .tup upd_same (.cons (rx.stay (laid_stays ht) (.refl w2)) (.cons (rz.stay (laid_stays ht) (.refl w2)) .nil))
theorem seq_walkEL {I : Bool × Itmm} {a : Addr} (S : SeqW K w σ H r v I a vs) (hb : I.1 = false) {IA : Addr → Prop} (hi : ∀ b, ResA r v b → IA b) : WalkI K w σ H I.2.deps (enumL 0 I.2.items) IA (Ite K a) := by
  refine ⟨_, _, walk_enL, fun w2 σ2 H2 st2 t => ?_, fun n w2 σ2 H2 st2 x H3 p t y hp => ?_⟩
  · obtain ⟨vs2, r2, q, _⟩ := S.at_ IA w2 σ2 H2 st2 hi t
    exact ⟨vs2, q hb, by rw [enumL_len]; exact r2.length⟩
  · obtain ⟨vs2, r2, q, _⟩ := S.at_ IA w2 σ2 H2 st2 hi t
    obtain ⟨t', z, rfl, ht, rfl, y⟩ := y
    obtain ⟨q', hq', rfl⟩ := enumL_get hp
    obtain ⟨z', e1, rp⟩ := r2.get hq'
    rw [y _ (q hb)] at e1; cases e1
    refine ⟨?_, .inr ⟨t', _, ht, rfl⟩⟩
    rw [Nat.zero_add]
    exact new_pair ht (.int _) rp
theorem seq_walkET {I : Bool × Itmm} {a : Addr} (S : SeqW K w σ H r v I a vs) (hb : I.1 = true) {IA : Addr → Prop} (hi : ∀ b, ResA r v b → IA b) : WalkI K w σ H I.2.deps (enumL 0 I.2.items) IA (IteT K a) := by
  refine ⟨_, _, walk_enT, fun w2 σ2 H2 st2 t => ?_, fun n w2 σ2 H2 st2 x H3 p t y hp => ?_⟩
  · obtain ⟨vs2, r2, _, q⟩ := S.at_ IA w2 σ2 H2 st2 hi t
    exact ⟨vs2, q hb, by rw [enumL_len]; exact r2.length⟩
  · obtain ⟨vs2, r2, _, q⟩ := S.at_ IA w2 σ2 H2 st2 hi t
    obtain ⟨t', z, rfl, ht, rfl, y⟩ := y
    obtain ⟨q', hq', rfl⟩ := enumL_get hp
    obtain ⟨z', e1, rp⟩ := r2.get hq'
    rw [y _ (q hb)] at e1; cases e1
    refine ⟨?_, .inr ⟨t', _, ht, rfl⟩⟩
    rw [Nat.zero_add]
    exact new_pair ht (.int _) rp
theorem walk_strI {s : List Nat} {IA : Addr → Prop} (hs : sOk s) : WalkI K w σ H [] (s.map fun c => PVm.str [c]) IA (Its ⟨s.toArray⟩) := by
  have e : (s.map fun c => PVm.str [c]).length = (⟨s.toArray⟩ : Str).cps.size := by simp
  refine ⟨fun _ => True, fun i H x H' => H' = H ∧ ∃ c, (⟨s.toArray⟩ : Str).cps[i]? = some c ∧ x = .str ⟨#[c]⟩, by rw [e]; exact walk_str, fun _ _ _ _ _ => trivial, fun n w2 σ2 H2 st2 x H3 p t y hp => ?_⟩
  obtain ⟨rfl, c, h1, rfl⟩ := y
  have h1 : s[n]? = some c := by simpa using h1
  rw [List.getElem?_map, h1] at hp
  cases hp
  exact ⟨.str [c] ⟨(by show 1 ≤ 16777216; decide), fun d hd => by
    rw [show d = c by simpa using hd]
    exact hs.2 c (List.mem_of_getElem? h1)⟩, .inl rfl⟩
theorem walk_rngI {lo : Int} {n : Nat} {IA : Addr → Prop} : WalkI K w σ H [] (rngL lo n) IA (Itr lo n) := by
  have e : (rngL lo n).length = n := by simp [rngL]
  refine ⟨fun _ => True, fun i H x H' => H' = H ∧ x = .int (lo + i), by rw [e]; exact walk_range, fun _ _ _ _ _ => trivial, fun k w2 σ2 H2 st2 x H3 p t y hp => ?_⟩
  obtain ⟨rfl, rfl⟩ := y
  unfold rngL at hp
  rw [List.getElem?_map] at hp
  obtain ⟨j, h1, rfl⟩ := Option.map_eq_some_iff.mp hp
  have : j = k := by
    obtain ⟨h2, h3⟩ := List.getElem?_eq_some_iff.mp h1
    simpa using h3.symm
  subst this
  exact ⟨.int _, .inl rfl⟩
/-- the end of: a thing walked -/
theorem seqI_end {R : It → Hp → Prop} (P : PostE K w σ H st r st1 v H1 w1) (h : EndI T K W w σ H st R (seqI r st1)) :
    (∃ a xs, v = .ref a ∧ SqL K H1 a xs ∧ R (Itl K a) H1) ∨ (∃ a xs, v = .ref a ∧ SqT K H1 a xs ∧ R (Itt K a) H1) ∨ ∃ z, v = .str z ∧ R (Its z) H1 := by
  unfold seqI at h
  split at h
  · rename_i s
    have hr : Rp K H1 w1 v (.str s) := P.res
    cases hr with
    | str _ hs => exact .inr (.inr ⟨_, rfl, h _ _ w1 _ (PostI.of P (walk_strI hs))⟩)
  · split at h
    · rename_i I e
      obtain ⟨a, vs, S⟩ := seqIt_walk P.rel P.res e
      cases hb : I.1 with
      | false => exact .inl ⟨a, vs, S.hv, S.l hb, h _ _ w1 _ (PostI.of P (seq_walkL S hb fun _ z => z))⟩
      | true => exact .inr (.inl ⟨a, vs, S.hv, S.t hb, h _ _ w1 _ (PostI.of P (seq_walkT S hb fun _ z => z))⟩)
    · exact h.elim
theorem resL_track (P : PostA K w σ H st rs st1 vs H1 w1) (a : Addr) (z : ResAL rs vs a) : ¬ Foot st1.env σ w1 a ∧ ¬ w1.S a ∧ H1 a ≠ none := by
  refine ⟨P.new a z, ?_⟩
  obtain ⟨_, r, v, _, _, ⟨⟨o, rfl⟩, e1⟩, q⟩ := ResAL.mem P.res z
  obtain ⟨b, e2, m, n⟩ := q
  rw [e1] at e2; cases e2
  obtain ⟨u, hu⟩ := m.some
  exact ⟨n, by rw [hu]; exact fun z => (nomatch z)⟩
theorem PostI.ofA (P : PostA K w σ H st rs st1 vs H1 w1) {I : Itmm} {J : It} (hw : WalkI K w1 σ H1 I.deps I.items (ResAL rs vs) J) : PostI K w σ H st I st1 J H1 w1 (ResAL rs vs) :=
  ⟨P.le, P.rel, P.ext, resL_track P, hw, P.len⟩
theorem rngI_end {R : It → Hp → Prop} (P : PostA K w σ H st rs st1 vs H1 w1) (h : EndI T K W w σ H st R (rngI rs st1)) :
    (∃ j : Int, vs = [.int j] ∧ -(2 ^ 62) ≤ j ∧ j < 2 ^ 62 ∧ R (Itr 0 j.toNat) H1) ∨ ∃ i j : Int, vs = [.int i, .int j] ∧ (-(2 ^ 62) ≤ i ∧ i < 2 ^ 62 ∧ -(2 ^ 62) ≤ j ∧ j < 2 ^ 62) ∧ R (Itr i (j - i).toNat) H1 := by
  have A := P.res
  unfold rngI at h
  split at h
  · split at h
    · rename_i j hj
      cases A with
      | cons r1 t _ =>
        cases t
        have r1 : Rp K H1 w1 _ (.int j) := r1
        cases r1
        exact .inl ⟨j, rfl, hj.1, hj.2, h _ _ w1 _ (PostI.ofA P walk_rngI)⟩
    · exact h.elim
  · split at h
    · rename_i i j hj
      cases A with
      | cons r1 t _ =>
        cases t with
        | cons r2 t _ =>
          cases t
          have r1 : Rp K H1 w1 _ (.int i) := r1
          have r2 : Rp K H1 w1 _ (.int j) := r2
          cases r1
          cases r2
          exact .inr ⟨i, j, rfl, hj, h _ _ w1 _ (PostI.ofA P walk_rngI)⟩
    · exact h.elim
  · exact h.elim
theorem enumI_end {R : It → Hp → Prop} (P : PostA K w σ H st rs st1 vs H1 w1) (h : EndI T K W w σ H st R (enumI rs st1)) :
    ∃ a xs, vs = [.ref a] ∧ ((SqL K H1 a xs ∧ R (Ite K a) H1) ∨ (SqT K H1 a xs ∧ R (IteT K a) H1)) := by
  have A := P.res
  unfold enumI at h
  split at h
  · split at h
    · rename_i r I e
      cases A with
      | cons r1 t _ =>
        cases t
        obtain ⟨a, zs, S⟩ := seqIt_walk P.rel r1 e
        have hv := S.hv
        subst hv
        refine ⟨a, zs, rfl, ?_⟩
        cases hb : I.1 with
        | false => exact .inl ⟨S.l hb, h _ _ w1 _ (PostI.ofA P (seq_walkEL S hb fun _ z => .inl z))⟩
        | true => exact .inr ⟨S.t hb, h _ _ w1 _ (PostI.ofA P (seq_walkET S hb fun _ z => .inl z))⟩
    · exact h.elim
  · exact h.elim
theorem TurnOk.sub {ds ds2 : List (Nat × List PVm)} {IA IB : Addr → Prop} (t : TurnOk K w σ H ds IA w2 σ2 H2 st2) (hd : ∀ d, d ∈ ds2 → d ∈ ds) (hi : ∀ a, IB a → IA a) : TurnOk K w σ H ds2 IB w2 σ2 H2 st2 :=
  ⟨t.rel, by
    unfold depsOk
    rw [List.all_eq_true]
    intro d h
    exact (List.all_eq_true.mp t.dep) d (hd d h), fun d h => t.σ d (hd d h), t.st, fun a z => t.ia a (hi a z), t.le⟩
theorem zip_get {l m : List PVm} {n : Nat} {p : PVm} (h : (l.zipWith (fun x y => PVm.tup [x, y]) m)[n]? = some p) : ∃ a b, l[n]? = some a ∧ m[n]? = some b ∧ p = .tup [a, b] := by
  rw [List.getElem?_zipWith] at h
  cases h1 : l[n]? <;> cases h2 : m[n]? <;> rw [h1, h2] at h <;> simp at h
  exact ⟨_, _, rfl, rfl, h.symm⟩
theorem zipI_end {R : It → Hp → Prop} (P : PostA K w σ H st rs st1 vs H1 w1) (h : EndI T K W w σ H st R (zipI rs st1)) :
    ∃ a b xs ys, vs = [.ref a, .ref b] ∧ ((SqL K H1 a xs ∧ SqL K H1 b ys ∧ R (Itz K a b) H1) ∨ (SqT K H1 a xs ∧ SqT K H1 b ys ∧ R (RZ.ItzT K a b) H1)) := by
  have A := P.res
  unfold zipI at h
  split at h
  · split at h
    · rename_i r q I J e1 e2
      split at h
      · rename_i hk
        cases A with
        | cons r1 t _ =>
          cases t with
          | cons r2 t _ =>
            cases t
            obtain ⟨a, xs, S⟩ := seqIt_walk P.rel r1 e1
            obtain ⟨b, ys, S'⟩ := seqIt_walk P.rel r2 e2
            have hv := S.hv
            have hv' := S'.hv
            subst hv hv'
            refine ⟨a, b, xs, ys, rfl, ?_⟩
            have hl : (I.2.items.zipWith (fun x y => PVm.tup [x, y]) J.2.items).length = min I.2.items.length J.2.items.length := List.length_zipWith
            cases hb : I.1 with
            | false =>
              have hb' : J.1 = false := by rw [← hk]; exact hb
              refine .inl ⟨S.l hb, S'.l hb', h _ _ w1 _ (PostI.ofA P ⟨fun H => ∃ zs us, SqL K H a zs ∧ SqL K H b us ∧ zs.length = I.2.items.length ∧ us.length = J.2.items.length, fun i H v H' => ∃ t x y, v = .ref t ∧ H t = none ∧ H' = upd H t (.tup [x, y]) ∧ (∀ zs, SqL K H a zs → zs[i]? = some x) ∧ ∀ zs, SqL K H b zs → zs[i]? = some y,
                ⟨fun i H2 hi ⟨zs, us, q1, q2, z1, z2⟩ => ⟨zs, us, zs[i]'(by rw [hl] at hi; omega), us[i]'(by rw [hl] at hi; omega), q1, q2, by simp, by simp⟩, fun H2 ⟨zs, us, q1, q2, z1, z2⟩ => ⟨zs, us, q1, q2, by rw [hl]; omega⟩, fun _ _ _ _ _ _ y => y⟩, fun w2 σ2 H2 st2 t => ?_, fun n w2 σ2 H2 st2 x H3 p t y hp => ?_⟩)⟩
              · obtain ⟨vs2, g2, g3, _⟩ := S.at_ _ w2 σ2 H2 st2 (fun _ z => .inl z) (t.sub (fun d hd => List.mem_append_left _ hd) fun _ z => z)
                obtain ⟨us2, g2', g3', _⟩ := S'.at_ _ w2 σ2 H2 st2 (fun _ z => .inr (.inl z)) (t.sub (fun d hd => List.mem_append_right _ hd) fun _ z => z)
                exact ⟨vs2, us2, g3 hb, g3' hb', g2.length, g2'.length⟩
              · obtain ⟨vs2, g2, g3, _⟩ := S.at_ _ w2 σ2 H2 st2 (fun _ z => .inl z) (t.sub (fun d hd => List.mem_append_left _ hd) fun _ z => z)
                obtain ⟨us2, g2', g3', _⟩ := S'.at_ _ w2 σ2 H2 st2 (fun _ z => .inr (.inl z)) (t.sub (fun d hd => List.mem_append_right _ hd) fun _ z => z)
                obtain ⟨t', x', y', rfl, ht, rfl, f1, f2⟩ := y
                obtain ⟨pa, pb, ha, hb2, rfl⟩ := zip_get hp
                obtain ⟨z1, k1, rp1⟩ := g2.get ha
                obtain ⟨z2, k2, rp2⟩ := g2'.get hb2
                rw [f1 _ (g3 hb)] at k1; cases k1
                rw [f2 _ (g3' hb')] at k2; cases k2
                exact ⟨new_pair ht rp1 rp2, .inr ⟨t', _, ht, rfl⟩⟩
            | true =>
              have hb' : J.1 = true := by rw [← hk]; exact hb
              refine .inr ⟨S.t hb, S'.t hb', h _ _ w1 _ (PostI.ofA P ⟨fun H => ∃ zs us, SqT K H a zs ∧ SqT K H b us ∧ zs.length = I.2.items.length ∧ us.length = J.2.items.length, fun i H v H' => ∃ t x y, v = .ref t ∧ H t = none ∧ H' = upd H t (.tup [x, y]) ∧ (∀ zs, SqT K H a zs → zs[i]? = some x) ∧ ∀ zs, SqT K H b zs → zs[i]? = some y,
                ⟨fun i H2 hi ⟨zs, us, q1, q2, z1, z2⟩ => ⟨zs, us, zs[i]'(by rw [hl] at hi; omega), us[i]'(by rw [hl] at hi; omega), q1, q2, by simp, by simp⟩, fun H2 ⟨zs, us, q1, q2, z1, z2⟩ => ⟨zs, us, q1, q2, by rw [hl]; omega⟩, fun _ _ _ _ _ _ y => y⟩, fun w2 σ2 H2 st2 t => ?_, fun n w2 σ2 H2 st2 x H3 p t y hp => ?_⟩)⟩
              · obtain ⟨vs2, g2, _, g3⟩ := S.at_ _ w2 σ2 H2 st2 (fun _ z => .inl z) (t.sub (fun d hd => List.mem_append_left _ hd) fun _ z => z)
                obtain ⟨us2, g2', _, g3'⟩ := S'.at_ _ w2 σ2 H2 st2 (fun _ z => .inr (.inl z)) (t.sub (fun d hd => List.mem_append_right _ hd) fun _ z => z)
                exact ⟨vs2, us2, g3 hb, g3' hb', g2.length, g2'.length⟩
              · obtain ⟨vs2, g2, _, g3⟩ := S.at_ _ w2 σ2 H2 st2 (fun _ z => .inl z) (t.sub (fun d hd => List.mem_append_left _ hd) fun _ z => z)
                obtain ⟨us2, g2', _, g3'⟩ := S'.at_ _ w2 σ2 H2 st2 (fun _ z => .inr (.inl z)) (t.sub (fun d hd => List.mem_append_right _ hd) fun _ z => z)
                obtain ⟨t', x', y', rfl, ht, rfl, f1, f2⟩ := y
                obtain ⟨pa, pb, ha, hb2, rfl⟩ := zip_get hp
                obtain ⟨z1, k1, rp1⟩ := g2.get ha
                obtain ⟨z2, k2, rp2⟩ := g2'.get hb2
                rw [f1 _ (g3 hb)] at k1; cases k1
                rw [f2 _ (g3' hb')] at k2; cases k2
                exact ⟨new_pair ht rp1 rp2, .inr ⟨t', _, ht, rfl⟩⟩
      · exact h.elim
    · exact h.elim
  · exact h.elim
end
end Mp

set_option Elab.async false
set_option linter.all false
set_option maxRecDepth 100000
set_option maxHeartbeats 1000000
/-! Mp9: methods; expressions' rules over readings. -/
namespace Mp
open PySem PySem.Spec PyProof.Rows L2
section
variable {T : ExT} {K : PySem.W.Frag} {W : WX} {w w1 w2 : Wl} {σ σ2 : L2.St} {H H1 H2 : Hp} {st st1 st2 : Sm} {r r2 : RVm} {v v2 : V} {rs : List RVm} {vs : List V}
/-- the state behind arguments (and what was frozen of them): written once, an expression's end -/
structure PostM (K : PySem.W.Frag) (w : Wl) (σ : L2.St) (H : Hp) (st : Sm) (st2 : Sm) (H2 : Hp) (w2 : Wl) : Prop where
  le : w.le w2
  rel : Rel K w2 σ H2 st2
  ext : Ext H (Foot st.env σ w) w.S H2 (Foot st2.env σ w2) w2.S
  len : st2.env.length = st.env.length
theorem PostA.toM (P : PostA K w σ H st rs st2 vs H2 w2) : PostM K w σ H st st2 H2 w2 := ⟨P.le, P.rel, P.ext.weak fun _ z => .inl z, P.len⟩
theorem PostA.fixM {st3 : Sm} {p : PVm} {w3 : Wl} (P : PostA K w σ H st rs st2 vs H2 w2) (hr : ∀ a, ResA r v a → ResAL rs vs a) (F : PostF K w2 σ H2 st2 r v p st3 w3) : PostM K w σ H st st3 H2 w3 := by
  refine ⟨P.le.trans F.le, F.rel, ⟨P.ext.keep, P.ext.trk, fun a z => P.ext.grow a (.inl (F.foot a z)), fun a z => ?_, P.ext.tup, P.ext.frz⟩, F.len.trans P.len⟩
  rcases F.S a z with z | z | z
  · exact P.ext.growS a z
  · exact .inr (P.ext.grow a (.inl z))
  · exact .inr (P.ext.grow a (.inr (hr a z)))
theorem PostM.done {p : PVm} (P : PostM K w σ H st st2 H2 w2) (h : Rp K H2 w2 v p) : PostE K w σ H st (.val p) st2 v H2 w2 :=
  ⟨P.le, P.rel, h, P.ext.weak fun a z => z.elim id fun z => (by obtain ⟨⟨o, z⟩, _⟩ := z; cases z), fun a z => (by obtain ⟨⟨o, z⟩, _⟩ := z; cases z), P.len⟩
/-- an object is written behind it -/
theorem PostM.put {o' : MOm} {l : List PVm} {st3 : Sm} (P : PostM K w σ H st st2 H2 w2) (h : RRel K w2 σ H2 v r) (e : look r st2 = some (.m (.lst l))) (p : putO r o' st2 = some st3) :
    ∃ a xs, v = .ref a ∧ H2 a = some (.lst xs) ∧ RpL K H2 w2 xs l ∧ ∀ ho, (Stays w2 H2 (upd H2 a ho) → MOk K (upd H2 a ho) w2 a o') → PostM K w σ H st st3 (upd H2 a ho) w2 ∧ Stays w2 H2 (upd H2 a ho) := by
  obtain ⟨a, xs, rfl, ha, rl, hf, _⟩ := put_post (ho := .lst []) P.rel h e p
  refine ⟨a, xs, rfl, ha, rl, fun ho hm => ?_⟩
  obtain ⟨a', xs', ea, ha', _, _, g⟩ := put_post (ho := ho) P.rel h e p
  obtain rfl : a = a' := V.ref.inj ea
  obtain ⟨R', f, n⟩ := g hm
  have x := upd_ext (F := Foot st2.env σ w2) (F' := Foot st3.env σ w2) (S := w2.S) (S' := w2.S) (o := ho) ha (fun xs z => nomatch z) (fun o x z => nomatch z) hf f (fun _ z => z)
  exact ⟨⟨P.le, R', (P.ext.trans (fun _ z => z) x).weak fun _ z => .inl z, n.trans P.len⟩, upd_stays ha (fun xs z => nomatch z) (fun o x z => nomatch z) fun z => P.rel.sS a z hf⟩
/-- an object of any kind is written behind it -/
theorem PostM.putG {oo o' : MOm} {st3 : Sm} (P : PostM K w σ H st st2 H2 w2) (h : RRel K w2 σ H2 v r) (e : look r st2 = some (.m oo)) (p : putO r o' st2 = some st3) :
    ∃ a, v = .ref a ∧ MOk K H2 w2 a oo ∧ ∀ ho, (Stays w2 H2 (upd H2 a ho) → MOk K (upd H2 a ho) w2 a o') → PostM K w σ H st st3 (upd H2 a ho) w2 ∧ Stays w2 H2 (upd H2 a ho) := by
  obtain ⟨a, u, rfl, ha, n1, n2, mo, hf, _⟩ := put_postG (ho := .lst []) P.rel h e p
  refine ⟨a, rfl, mo, fun ho hm => ?_⟩
  obtain ⟨a', u', ea, ha', n1', n2', _, _, g⟩ := put_postG (ho := ho) P.rel h e p
  obtain rfl : a = a' := V.ref.inj ea
  obtain ⟨R', f, n⟩ := g hm
  have x := upd_ext (F := Foot st2.env σ w2) (F' := Foot st3.env σ w2) (S := w2.S) (S' := w2.S) (o := ho) ha n1 n2 hf f (fun _ z => z)
  exact ⟨⟨P.le, R', (P.ext.trans (fun _ z => z) x).weak fun _ z => .inl z, n.trans P.len⟩, upd_stays ha n1 n2 fun z => P.rel.sS a z hf⟩
theorem notOwn {o' : MOm} {st3 : Sm} (p : putO r o' st2 = some st3) : ∀ o, r ≠ .own o := fun o z => by rw [z] at p; cases p
/-- a receiver that is written stands as it stood -/
theorem recv_stay {w3 : Wl} (h : RRel K w2 σ H2 v r) (le : w2.le w3) (hn : ∀ o, r ≠ .own o) : RRel K w3 σ H2 v r := by
  cases r with
  | val p => exact Rp.stay ⟨fun _ _ z => z, fun _ _ _ z => z, fun _ _ _ z => z⟩ le h
  | own o => exact absurd rfl (hn o)
  | «at» i => exact h
variable {x : RVm} {y : V} {Q : VK}
theorem append_end (P : PostA K w σ H st [r, x] st2 [v, y] H2 w2) (h : EndE T K W w σ H st Q (meAppend r x st2)) : rAppend v [y] H2 Q := by
  cases P.res with
  | cons hr t d =>
    cases t with
    | cons hx t _ =>
      unfold meAppend at h
      cases e1 : fixR x st2 with
      | stuck => rw [e1] at h; exact h.elim
      | err q s => exact absurd e1 fix_noerr
      | ok p st3 =>
        rw [e1] at h
        simp only [Resm.bind_ok] at h
        obtain ⟨w3, F⟩ := fix_post P.rel hx (fun a z => P.new a (.inr (.inl z))) e1
        have M := P.fixM (fun a z => .inr (.inl z)) F
        split at h
        · rename_i l hl
          split at h
          · rename_i hlen
            split at h
            · rename_i st4 hp
              obtain ⟨a, xs, rfl, ha, rl, g⟩ := M.put (recv_stay hr F.le (notOwn hp)) hl hp
              obtain ⟨M2, s2⟩ := g (.lst (xs ++ [y])) fun s => ⟨_, upd_same, (rl.stay s (.refl _)).app (.cons (F.res.stay s (.refl _)) .nil)⟩
              exact ⟨a, xs, y, rfl, rfl, ha, by rw [rl.length, sl_eq]; exact hlen, h _ _ _ (M2.done .non)⟩
            · exact h.elim
          · exact h.elim
        · exact h.elim
theorem extend_end (P : PostA K w σ H st [r, x] st2 [v, y] H2 w2) (h : EndE T K W w σ H st Q (meExtend r x st2)) : rExtend v [y] H2 Q := by
  cases P.res with
  | cons hr t d =>
    cases t with
    | cons hx t _ =>
      unfold meExtend at h
      split at h
      · rename_i l ys hl hy
        obtain ⟨u, e1, e2⟩ := Option.bind_eq_some_iff.mp hy
        obtain ⟨b, zs, rfl, hb, rz⟩ := (look_rel P.rel hx e1).lst_inv e2
        split at h
        · rename_i hlen
          split at h
          · rename_i st4 hp
            obtain ⟨a, xs, rfl, ha, rl, g⟩ := P.toM.put hr hl hp
            obtain ⟨M2, s2⟩ := g (.lst (xs ++ zs)) fun s => ⟨_, upd_same, (rl.stay s (.refl _)).app (rz.stay s (.refl _))⟩
            exact ⟨a, b, xs, zs, rfl, rfl, ha, hb, by rw [rl.length, rz.length, sl_eq]; exact hlen, h _ _ _ (M2.done .non)⟩
          · exact h.elim
        · exact h.elim
      · exact h.elim
theorem last_at {l : List PVm} {p : PVm} {xs : List V} (rl : RpL K H2 w2 xs l) (e : l.getLast? = some p) : ∃ z, xs[xs.length - 1]? = some z ∧ Rp K H2 w2 z p := by
  rw [List.getLast?_eq_getElem?] at e
  obtain ⟨z, e1, rz⟩ := rl.get e
  exact ⟨z, by rw [rl.length]; exact e1, rz⟩
theorem pop_end (P : PostA K w σ H st [r] st2 [v] H2 w2) (h : EndE T K W w σ H st Q (mePop r st2)) : rPop v [] H2 Q := by
  cases P.res with
  | cons hr t d =>
    unfold mePop at h
    split at h
    · rename_i l hl
      split at h
      · rename_i p hy
        split at h
        · rename_i st4 hp
          obtain ⟨a, xs, rfl, ha, rl, g⟩ := P.toM.put hr hl hp
          obtain ⟨z, e1, rz⟩ := last_at rl hy
          obtain ⟨M2, s2⟩ := g (.lst xs.dropLast) fun s => ⟨_, upd_same, (rl.stay s (.refl _)).dropLast⟩
          exact ⟨a, xs, z, rfl, rfl, ha, e1, h _ _ _ (M2.done (rz.stay s2 (.refl _)))⟩
        · exact h.elim
      · exact h.elim
    · exact h.elim
theorem pop0_end (P : PostA K w σ H st [r, x] st2 [v, y] H2 w2) (h : EndE T K W w σ H st Q (mePop0 r x st2)) : rPopAt v [y] H2 Q := by
  cases P.res with
  | cons hr t d =>
    cases t with
    | cons hx t _ =>
      unfold mePop0 at h
      split at h
      · rename_i p l hl _
        have hx : Rp K H2 w2 y (.int 0) := hx
        cases hx
        split at h
        · rename_i st4 hp
          obtain ⟨a, xs, rfl, ha, rl, g⟩ := P.toM.put hr hl hp
          cases rl with
          | cons rz rt =>
            rename_i z zs
            obtain ⟨M2, s2⟩ := g (.lst zs) fun s => ⟨_, upd_same, rt.stay s (.refl _)⟩
            refine ⟨a, z :: zs, 0, 0, z, rfl, rfl, ha, by decide, by decide, ?_, rfl, h _ _ _ (M2.done (rz.stay s2 (.refl _)))⟩
            unfold seqIndex?
            simp
        · exact h.elim
      · exact h.elim
theorem joinS_eq (sep : List Nat) : ∀ l : List (List Nat), Txt.join ⟨sep.toArray⟩ (l.map fun z => (⟨z.toArray⟩ : Str)) = ⟨(joinS sep l).toArray⟩ := by
  intro l
  rw [TL.join_eq]
  induction l with
  | nil => rfl
  | cons a l ih =>
    cases l with
    | nil => rfl
    | cons b r =>
      show (⟨a.toArray⟩ : Str) ++ ⟨sep.toArray⟩ ++ Str.join ⟨sep.toArray⟩ ((b :: r).map fun z => (⟨z.toArray⟩ : Str)) = _
      rw [ih, sapp, sapp]
      rfl
theorem joinS_ok {sep : List Nat} (hs : ∀ c ∈ sep, c < 1114112) : ∀ {l : List (List Nat)}, (∀ z ∈ l, sOk z) → (joinS sep l).length ≤ (l.map List.length).sum + l.length * sep.length ∧ ∀ c ∈ joinS sep l, c < 1114112
  | [], _ => ⟨Nat.zero_le _, fun c h => by cases h⟩
  | [a], h => ⟨by simp [joinS], fun c hc => (h a (by simp)).2 c (by simpa [joinS] using hc)⟩
  | a :: b :: r, h => by
    obtain ⟨h1, h2⟩ := joinS_ok hs (l := b :: r) fun z hz => h z (List.mem_cons_of_mem _ hz)
    refine ⟨?_, fun c hc => ?_⟩
    · show (a ++ sep ++ joinS sep (b :: r)).length ≤ _
      simp only [List.length_append, List.map_cons, List.sum_cons, List.length_cons] at h1 ⊢
      rw [Nat.succ_mul]
      omega
    · have hc : c ∈ a ++ sep ++ joinS sep (b :: r) := hc
      rw [List.mem_append, List.mem_append] at hc
      rcases hc with (hc | hc) | hc
      · exact (h a (by simp)).2 c hc
      · exact hs c hc
      · exact h2 c hc
theorem join_end (P : PostA K w σ H st [r, x] st2 [v, y] H2 w2) (h : EndE T K W w σ H st Q (meJoin r x st2)) :
    ∃ a p, ∃ ys : List Str, v = .str a ∧ [y] = [.ref p] ∧ (SqL K H2 p (ys.map V.str) ∨ SqT K H2 p (ys.map V.str)) ∧ (ys.map (·.length)).sum + ys.length * a.length ≤ 16777216 ∧ Q (.str (Txt.join a ys)) H2 := by
  cases P.res with
  | cons hr t d =>
    cases t with
    | cons hx t _ =>
      unfold meJoin at h
      split at h
      · rename_i sep l hl hy
        obtain ⟨u, e1, e2⟩ := Option.bind_eq_some_iff.mp hy
        obtain ⟨zs, e3, e4⟩ := Option.bind_eq_some_iff.mp e2
        obtain ⟨b, us, rfl, hb, rz⟩ := (look_rel P.rel hx e1).seq_inv e3
        obtain ⟨rfl, hok⟩ := strs_rel rz e4
        obtain ⟨rfl, hsep⟩ := (look_rel P.rel hr hl).str_inv
        split at h
        · rename_i hlen
          have hm : (l.map fun z => (⟨z.toArray⟩ : Str)).map V.str = l.map fun z => V.str ⟨z.toArray⟩ := by simp
          refine ⟨_, b, l.map fun z => ⟨z.toArray⟩, rfl, rfl, by rw [hm]; exact hb.imp id tuT, ?_, ?_⟩
          · rw [List.map_map, List.length_map, slen]
            have : (Str.length ∘ fun z : List Nat => (⟨z.toArray⟩ : Str)) = List.length := by
              funext z
              exact slen z
            rw [this]
            exact hlen
          · rw [joinS_eq]
            obtain ⟨j1, j2⟩ := joinS_ok hsep.2 hok
            exact h _ _ _ (P.toM.done (.str _ ⟨Nat.le_trans j1 hlen, j2⟩))
        · exact h.elim
      · exact h.elim
end

/-! ### rules over readings -/
section
variable {T : ExT} {W : WX} {X : Cx} {a b c o e : Expr} {pos apos cpos : Pos} {ma mb mc : Sm → Resm RVm}
theorem re_bin {op : Operator} {f : Viewm → Viewm → Option RVm} (ho : OpR X (binaryOp op) (rBin X.K f)) (ha : PE X a (rdE T X.K W ma)) (hb : PE X b (rdE T X.K W mb)) :
    PE X (.BinOp a op b pos) (rdE T X.K W fun st => (ma st).bind fun x st => (mb st).bind fun y st => match look x st, look y st with
      | some u, some v => opt (f u v) st
      | _, _ => .stuck) := by
  refine PE.imp (pe_op ho ha hb) fun σ H Q ⟨w, st, R, h⟩ => ⟨w, st, R, h.bind.mono fun x H1 ⟨r1, st1, w1, P1, h1⟩ => ⟨w1, st1, P1.rel, h1.bind.mono fun y H2 ⟨r2, st2, w2, P2, h2⟩ => ?_⟩⟩
  split at h2
  · rename_i u v e1 e2
    cases e3 : f u v with
    | none => rw [e3] at h2; exact h2.elim
    | some r =>
      rw [e3] at h2
      exact ⟨w2, u, v, r, look_rel P2.rel (P1.first P2) e1, look_rel P2.rel P2.res e2, e3, fun z H' g => EndE.gives P2.rel h2 g⟩
  · exact h2.elim
theorem re_cmp {op : CmpOp} {f : Viewm → Viewm → Option Bool} (ho : OpR X (compareOp op) (rCmp X.K f)) (hm : behindInMarks op b = false) (ha : PE X a (rdE T X.K W ma)) (hb : PE X b (rdE T X.K W mb)) :
    PE X (.Compare a [op] [b] pos) (rdE T X.K W fun st => (ma st).bind fun x st => (mb st).bind fun y st => match look x st, look y st with
      | some u, some v => (match f u v with
        | some k => .ok (.val (.bl k)) st
        | none => .stuck)
      | _, _ => .stuck) := by
  refine PE.imp (pe_cmpR ho ha hb hm) fun σ H Q ⟨w, st, R, h⟩ => ⟨w, st, R, h.bind.mono fun x H1 ⟨r1, st1, w1, P1, h1⟩ => ⟨w1, st1, P1.rel, h1.bind.mono fun y H2 ⟨r2, st2, w2, P2, h2⟩ => ?_⟩⟩
  split at h2
  · rename_i u v e1 e2
    split at h2
    · rename_i k e3
      exact ⟨w2, u, v, k, look_rel P2.rel (P1.first P2) e1, look_rel P2.rel P2.res e2, e3, EndE.gives P2.rel h2 (.val (.bl k))⟩
    · exact h2.elim
  · exact h2.elim
end
end Mp

set_option Elab.async false
set_option linter.all false
set_option maxRecDepth 100000
set_option maxHeartbeats 1000000
/-! Mp10: the rest of the expressions' rules over readings; tests. -/
namespace Mp
open PySem PySem.Spec PyProof.Rows L2
section
variable {T : ExT} {K : PySem.W.Frag} {W : WX} {w w1 w2 w3 : Wl} {σ σ2 : L2.St} {H H1 H2 H3 : Hp} {st st1 st2 st3 : Sm} {r r2 : RVm} {v v2 : V} {rs : List RVm} {vs : List V}
theorem PostE.toM (P : PostE K w σ H st r st1 v H1 w1) : PostM K w σ H st st1 H1 w1 := ⟨P.le, P.rel, P.ext.weak fun _ z => .inl z, P.len⟩
theorem PostM.trans (P : PostM K w σ H st st1 H1 w1) (Q : PostM K w1 σ H1 st1 st2 H2 w2) : PostM K w σ H st st2 H2 w2 :=
  ⟨P.le.trans Q.le, Q.rel, (P.ext.trans (fun _ h => h) Q.ext).weak fun _ h => .inl h, Q.len.trans P.len⟩
theorem PostM.after (P : PostM K w σ H st st1 H1 w1) (Q : PostE K w1 σ H1 st1 r2 st2 v2 H2 w2) : PostE K w σ H st r2 st2 v2 H2 w2 :=
  ⟨P.le.trans Q.le, Q.rel, Q.res, (P.ext.trans (fun _ h => h) Q.ext).weak fun _ h => .inl h, Q.new, Q.len.trans P.len⟩
theorem PostX.afterM {x : Exm} {cls : Value} {d : Option Addr} (P : PostM K w σ H st st1 H1 w1) (Q : PostX T K w1 σ H1 st1 x st2 cls d σ2 H2 w2) : PostX T K w σ H st x st2 cls d σ2 H2 w2 :=
  ⟨P.le.trans Q.le, Q.rel, Q.exc, (P.ext.trans (fun _ h => h) Q.ext).weak fun _ h => .inl h, Q.len.trans P.len⟩
theorem PostM.refl (R : Rel K w σ H st) : PostM K w σ H st st H w := ⟨.refl w, R, Ext.refl, rfl⟩

/-- a slot's object -/
theorem post_at {i : Nat} {o : MOm} (R : Rel K w σ H st) (h : st.env[i]? = some (.own o) ∨ st.env[i]? = some (.lent o)) : ∃ a, σ[i]? = some (some (.ref a)) ∧ PostE K w σ H st (.at i) st (.ref a) H w := by
  obtain ⟨a, e, m⟩ := R.obj i o h
  exact ⟨a, e, .refl w, R, e, Ext.refl.weak fun a h => h.elim id fun h => (by obtain ⟨⟨o, z⟩, _⟩ := h; cases z), fun a h => (by obtain ⟨⟨o, z⟩, _⟩ := h; cases z), rfl⟩

/-! ### tests' ends -/
def EndT (T : ExT) (K : PySem.W.Frag) (W : WX) (w : Wl) (σ : L2.St) (H : Hp) (st : Sm) (Q : Bool → Hp → Prop) : Resm Bool → Prop
  | .stuck => False
  | .err x st' => ∀ cls d H' w', PostX T K w σ H st x st' cls d σ H' w' → W cls d σ H'
  | .ok b st' => ∀ H' w', PostM K w σ H st st' H' w' → Q b H'
def rdT (T : ExT) (K : PySem.W.Frag) (W : WX) (m : Sm → Resm Bool) : TT := fun σ H Q => ∃ w st, Rel K w σ H st ∧ EndT T K W w σ H st Q (m st)
theorem EndT.mono {m : Resm Bool} {Q Q' : Bool → Hp → Prop} (h : EndT T K W w σ H st Q m) (i : ∀ v H, Q v H → Q' v H) : EndT T K W w σ H st Q' m := by
  cases m with
  | stuck => exact h
  | err x st' => exact h
  | ok r st1 => exact fun H1 w1 P => i _ _ (h H1 w1 P)
/-- a test, then an expression -/
theorem EndT.bindE {m : Resm Bool} {f : Bool → Sm → Resm RVm} {Q : VK} (h : EndE T K W w σ H st Q (m.bind f)) :
    EndT T K W w σ H st (fun b H1 => ∃ st1 w1, PostM K w σ H st st1 H1 w1 ∧ EndE T K W w1 σ H1 st1 Q (f b st1)) m := by
  cases m with
  | stuck => exact h
  | err x st' => exact h
  | ok r st1 =>
    intro H1 w1 P
    have h : EndE T K W w σ H st Q (f r st1) := h
    refine ⟨st1, w1, P, ?_⟩
    cases e : f r st1 with
    | stuck => rw [e] at h; exact h
    | err x st2 => rw [e] at h; exact fun cls d H' w' q => h cls d H' w' (PostX.afterM P q)
    | ok r2 st2 => rw [e] at h; exact fun v2 H2 w2 q => h v2 H2 w2 (P.after q)
/-- a test, then a test -/
theorem EndT.bindT {m : Resm Bool} {f : Bool → Sm → Resm Bool} {Q : Bool → Hp → Prop} (h : EndT T K W w σ H st Q (m.bind f)) :
    EndT T K W w σ H st (fun b H1 => ∃ st1 w1, PostM K w σ H st st1 H1 w1 ∧ EndT T K W w1 σ H1 st1 Q (f b st1)) m := by
  cases m with
  | stuck => exact h
  | err x st' => exact h
  | ok r st1 =>
    intro H1 w1 P
    have h : EndT T K W w σ H st Q (f r st1) := h
    refine ⟨st1, w1, P, ?_⟩
    cases e : f r st1 with
    | stuck => rw [e] at h; exact h
    | err x st2 => rw [e] at h; exact fun cls d H' w' q => h cls d H' w' (PostX.afterM P q)
    | ok r2 st2 => rw [e] at h; exact fun H2 w2 q => h H2 w2 (P.trans q)
/-- an expression, then a test -/
theorem EndE.bindT {m : Resm RVm} {f : RVm → Sm → Resm Bool} {Q : Bool → Hp → Prop} (h : EndT T K W w σ H st Q (m.bind f)) :
    EndE T K W w σ H st (fun v H1 => ∃ r st1 w1, PostE K w σ H st r st1 v H1 w1 ∧ EndT T K W w1 σ H1 st1 Q (f r st1)) m := by
  cases m with
  | stuck => exact h
  | err x st' => exact h
  | ok r st1 =>
    intro v H1 w1 P
    have h : EndT T K W w σ H st Q (f r st1) := h
    refine ⟨r, st1, w1, P, ?_⟩
    cases e : f r st1 with
    | stuck => rw [e] at h; exact h
    | err x st2 => rw [e] at h; exact fun cls d H' w' q => h cls d H' w' (PostX.afterM P.toM q)
    | ok r2 st2 => rw [e] at h; exact fun H2 w2 q => h H2 w2 (P.toM.trans q)

/-! ### lists of known length -/
def rdAn (T : ExT) (K : PySem.W.Frag) (W : WX) (n : Nat) (m : Sm → Resm (List RVm)) : TA := fun σ H Q => rdA T K W m σ H fun vs H1 => vs.length = n → Q vs H1
/-- all that is listed is fixed -/
theorem PostA.fixed {ps : List PVm} (P : PostA K w σ H st rs st1 vs H1 w1) (e : fixAll rs st1 = .ok ps st2) : ∃ w3, PostM K w σ H st st2 H1 w3 ∧ RpL K H1 w3 vs ps := by
  obtain ⟨w3, l3, R3, rp, f3, s3, n3⟩ := fixAll_post P.rel P.res P.new e
  refine ⟨w3, ⟨P.le.trans l3, R3, ⟨P.ext.keep, P.ext.trk, fun a z => P.ext.grow a (.inl (f3 a z)), fun a z => ?_, P.ext.tup, P.ext.frz⟩, n3.trans P.len⟩, rp⟩
  rcases s3 a z with z | z | z
  · exact P.ext.growS a z
  · exact .inr (P.ext.grow a (.inl z))
  · exact .inr (P.ext.grow a (.inr z))
end

section
variable {T : ExT} {W : WX} {X : Cx} {a b c o e : Expr} {es : List Expr} {rest : List Expr} {pos apos cpos : Pos} {ma mb mc : Sm → Resm RVm} {ta tb tc : Sm → Resm Bool} {ms : Sm → Resm (List RVm)} {n : Nat}
theorem re_var {i : Nat} {x : Str} (hN : X.N[i]? = some x) (hv : Vis X.env.scope x) (hd : (x == ("__debug__" : Str)) = false) (hcd : (x == ("__classdict__" : Str)) = false) :
    PE X (.Name x pos) (rdE T X.K W fun st => match st.env[i]? with
      | some (.val v) => .ok (.val v) st
      | some (.own _) => .ok (.at i) st
      | some (.lent _) => .ok (.at i) st
      | _ => .stuck) := by
  refine PE.imp (pe_var hN hv hd hcd) fun σ H Q ⟨w, st, R, h⟩ => ?_
  simp only at h
  split at h
  · rename_i v hi
    obtain ⟨x, e, r⟩ := R.val i v hi
    exact ⟨x, e, EndE.gives R h (.val r)⟩
  · rename_i o hi
    obtain ⟨a, e, P⟩ := post_at R (.inl hi)
    exact ⟨_, e, h _ _ _ P⟩
  · rename_i o hi
    obtain ⟨a, e, P⟩ := post_at R (.inr hi)
    exact ⟨_, e, h _ _ _ P⟩
  · exact h.elim
/-- a value that stands in every heap -/
theorem re_val {v : V} {p : PVm} (he : PE X e (tC v)) (hp : ∀ w H, Rp X.K H w v p) : PE X e (rdE T X.K W fun st => .ok (.val p) st) :=
  PE.imp he fun σ H Q ⟨w, st, R, h⟩ => EndE.gives R h (.val (hp w H))
theorem re_neg (ha : PE X a (rdE T X.K W ma)) : PE X (.UnaryOp .USub a pos) (rdE T X.K W fun st => (ma st).bind fun x st => match x with
      | .val (.int i) => .ok (.val (.int (-i))) st
      | _ => .stuck) := by
  refine PE.imp (pe_un un_neg ha) fun σ H Q ⟨w, st, R, h⟩ => ⟨w, st, R, h.bind.mono fun x H1 ⟨r1, st1, w1, P1, h1⟩ => ?_⟩
  split at h1
  · rename_i i
    have hr : Rp X.K H1 w1 x (.int i) := P1.res
    cases hr
    exact ⟨i, rfl, EndE.gives P1.rel h1 (.val (.int _))⟩
  · exact h1.elim
theorem re_chain {op op' : CmpOp} {f g : Viewm → Viewm → Option Bool} (ho : OpR X (compareOp op) (rCmp X.K f)) (ho' : OpR X (compareOp op') (rCmp X.K g)) (ha : PE X a (rdE T X.K W ma)) (hb : PE X b (rdE T X.K W mb)) (hc : PE X c (rdE T X.K W mc))
    (hm : lastMarks [op, op'] [b, c] = false) :
    PE X (.Compare a [op, op'] [b, c] pos) (rdE T X.K W fun st => (ma st).bind fun x st => (mb st).bind fun y st => match look x st, look y st with
      | some u, some v => (match f u v with
        | some true => (mc st).bind fun z st => (match look y st, look z st with
          | some v, some w => (match g v w with
            | some k => .ok (.val (.bl k)) st
            | none => .stuck)
          | _, _ => .stuck)
        | some false => .ok (.val (.bl false)) st
        | none => .stuck)
      | _, _ => .stuck) := by
  refine PE.imp (pe_chain ho ho' ha hb hc hm) fun σ H Q ⟨w, st, R, h⟩ => ⟨w, st, R, h.bind.mono fun x H1 ⟨r1, st1, w1, P1, h1⟩ => ⟨w1, st1, P1.rel, h1.bind.mono fun y H2 ⟨r2, st2, w2, P2, h2⟩ => ?_⟩⟩
  split at h2
  · rename_i u v e1 e2
    split at h2
    · rename_i e3
      refine ⟨w2, u, v, true, look_rel P2.rel (P1.first P2) e1, look_rel P2.rel P2.res e2, e3, true, rfl, ?_⟩
      rw [if_pos rfl]
      refine ⟨w2, st2, P2.rel, h2.bind.mono fun z H3 ⟨r3, st3, w3, P3, h3⟩ => ?_⟩
      split at h3
      · rename_i v' w' e4 e5
        split at h3
        · rename_i k e6
          exact ⟨w3, v', w', k, look_rel P3.rel (P2.first P3) e4, look_rel P3.rel P3.res e5, e6, EndE.gives P3.rel h3 (.val (.bl k))⟩
        · exact h3.elim
      · exact h3.elim
    · rename_i e3
      refine ⟨w2, u, v, false, look_rel P2.rel (P1.first P2) e1, look_rel P2.rel P2.res e2, e3, false, rfl, ?_⟩
      rw [if_neg Bool.false_ne_true]
      exact EndE.gives P2.rel h2 (.val (.bl false))
    · exact h2.elim
  · exact h2.elim
theorem re_and (ha : PE X a (rdE T X.K W ma)) (hb : PE X (.BoolOp .And (b :: rest) pos) (rdE T X.K W mb)) : PE X (.BoolOp .And (a :: b :: rest) pos) (rdE T X.K W fun st => (ma st).bind fun x st => match x with
      | .val (.bl true) => mb st
      | .val (.bl false) => .ok (.val (.bl false)) st
      | _ => .stuck) := by
  refine PE.imp (pe_and ha hb) fun σ H Q ⟨w, st, R, h⟩ => ⟨w, st, R, h.bind.mono fun x H1 ⟨r1, st1, w1, P1, h1⟩ => ?_⟩
  split at h1
  · have hr : Rp X.K H1 w1 x (.bl true) := P1.res
    cases hr
    exact ⟨true, rfl, by rw [if_pos rfl]; exact ⟨w1, st1, P1.rel, h1⟩⟩
  · have hr : Rp X.K H1 w1 x (.bl false) := P1.res
    cases hr
    exact ⟨false, rfl, by rw [if_neg Bool.false_ne_true]; exact EndE.gives P1.rel h1 (.val (.bl false))⟩
  · exact h1.elim
theorem re_or (ha : PE X a (rdE T X.K W ma)) (hb : PE X (.BoolOp .Or (b :: rest) pos) (rdE T X.K W mb)) : PE X (.BoolOp .Or (a :: b :: rest) pos) (rdE T X.K W fun st => (ma st).bind fun x st => match x with
      | .val (.bl true) => .ok (.val (.bl true)) st
      | .val (.bl false) => mb st
      | _ => .stuck) := by
  refine PE.imp (pe_or ha hb) fun σ H Q ⟨w, st, R, h⟩ => ⟨w, st, R, h.bind.mono fun x H1 ⟨r1, st1, w1, P1, h1⟩ => ?_⟩
  split at h1
  · have hr : Rp X.K H1 w1 x (.bl true) := P1.res
    cases hr
    exact ⟨true, rfl, by rw [if_pos rfl]; exact EndE.gives P1.rel h1 (.val (.bl true))⟩
  · have hr : Rp X.K H1 w1 x (.bl false) := P1.res
    cases hr
    exact ⟨false, rfl, by rw [if_neg Bool.false_ne_true]; exact ⟨w1, st1, P1.rel, h1⟩⟩
  · exact h1.elim
theorem re_not (ha : PE X a (rdE T X.K W ma)) : PE X (.UnaryOp .Not a pos) (rdE T X.K W fun st => (ma st).bind fun x st => match x with
      | .val (.bl k) => .ok (.val (.bl (!k))) st
      | _ => .stuck) := by
  refine PE.imp (pe_not ha) fun σ H Q ⟨w, st, R, h⟩ => ⟨w, st, R, h.bind.mono fun x H1 ⟨r1, st1, w1, P1, h1⟩ => ?_⟩
  split at h1
  · rename_i k
    have hr : Rp X.K H1 w1 x (.bl k) := P1.res
    cases hr
    exact ⟨k, rfl, EndE.gives P1.rel h1 (.val (.bl _))⟩
  · exact h1.elim
theorem re_ite (hc : PT X c (rdT T X.K W tc)) (ha : PE X a (rdE T X.K W ma)) (hb : PE X b (rdE T X.K W mb)) : PE X (.IfExp c a b pos) (rdE T X.K W fun st => (tc st).bind fun k st => if k then ma st else mb st) := by
  refine PE.imp (pe_ifExp hc ha hb) fun σ H Q ⟨w, st, R, h⟩ => ⟨w, st, R, (EndT.bindE h).mono fun k H1 ⟨st1, w1, P1, h1⟩ => ?_⟩
  cases k with
  | true => rw [if_pos rfl] at h1 ⊢; exact ⟨w1, st1, P1.rel, h1⟩
  | false => rw [if_neg Bool.false_ne_true] at h1 ⊢; exact ⟨w1, st1, P1.rel, h1⟩
theorem re_idx (ha : PE X a (rdE T X.K W ma)) (hb : PE X b (rdE T X.K W mb)) (hs : PlainIx b) : PE X (.Subscript a b pos) (rdE T X.K W fun st => (ma st).bind fun x st => (mb st).bind fun y st => match look x st, look y st with
      | some u, some v => (match idxV u v with
        | some w => .ok (.val w) st
        | none => .stuck)
      | _, _ => .stuck) := by
  refine PE.imp (pe_ix oi_idx ha hb hs) fun σ H Q ⟨w, st, R, h⟩ => ⟨w, st, R, h.bind.mono fun x H1 ⟨r1, st1, w1, P1, h1⟩ => ⟨w1, st1, P1.rel, h1.bind.mono fun y H2 ⟨r2, st2, w2, P2, h2⟩ => ?_⟩⟩
  split at h2
  · rename_i u v e1 e2
    split at h2
    · rename_i k e3
      exact ⟨w2, u, v, k, look_rel P2.rel (P1.first P2) e1, look_rel P2.rel P2.res e2, e3, fun z hz => EndE.gives P2.rel h2 (.val hz)⟩
    · exact h2.elim
  · exact h2.elim
/-- a slice's part, an int or None -/
def rdO (T : ExT) (K : PySem.W.Frag) (W : WX) (m : Sm → Resm RVm) : TO := fun σ H Q => rdE T K W m σ H fun x H1 => (∃ i, x = .int i ∧ Q (some i) H1) ∨ (x = .non ∧ Q none H1)
theorem ro_none : PO X none (rdO T X.K W fun st => .ok (.val .non) st) := by
  refine ⟨fun pins s σ H Q I h => po_none.run pins s σ H Q I ?_⟩
  obtain ⟨w, st, R, h⟩ := h
  rcases EndE.gives R h (.val .non) with ⟨i, z, _⟩ | ⟨_, q⟩
  · cases z
  · exact q
theorem ro_some (h : PE X e (rdE T X.K W ma)) : PO X (some e) (rdO T X.K W ma) := by
  refine ⟨fun pins s σ H Q I hw => ?_⟩
  rw [evalPart_some]
  refine thn (h.run pins s σ H _ I hw) fun u s1 ⟨x, H1, I1, r1, q1⟩ => ?_
  rcases q1 with ⟨i, rfl, q⟩ | ⟨rfl, q⟩
  · obtain ⟨t, rfl⟩ := r1
    exact ⟨some i, H1, I1, .int i t, q⟩
  · cases r1
    exact ⟨none, H1, I1, .none, q⟩
theorem part_rel {K : PySem.W.Frag} {w : Wl} {H : Hp} {x : V} {u : Viewm} {o : Option Int} (h : VRel K w H x u) (e : partOf u = some o) : (∃ i, x = .int i ∧ o = some i) ∨ (x = .non ∧ o = none) := by
  unfold partOf at e
  split at e
  · cases e
    have h : Rp K H w x .non := h
    cases h
    exact .inr ⟨rfl, rfl⟩
  · cases e
    have h : Rp K H w x (.int _) := h
    cases h
    exact .inl ⟨_, rfl, rfl⟩
  · cases e
theorem re_slc {lo hi : Option Expr} {p2 : Pos} (ha : PE X a (rdE T X.K W ma)) (hl : PO X lo (rdO T X.K W mb)) (hu : PO X hi (rdO T X.K W mc)) : PE X (.Subscript a (.Slice lo hi none p2) pos) (rdE T X.K W fun st => (ma st).bind fun x st => (mb st).bind fun y st => match (look y st).bind partOf with
      | some l => (mc st).bind fun z st => (match look x st, (look z st).bind partOf with
        | some u, some h => opt (slcV u l h) st
        | _, _ => .stuck)
      | none => .stuck) := by
  refine PE.imp (pe_slice oi_slc ha hl hu) fun σ H Q ⟨w, st, R, h⟩ => ⟨w, st, R, h.bind.mono fun x H1 ⟨r1, st1, w1, P1, h1⟩ => ⟨w1, st1, P1.rel, h1.bind.mono fun y H2 ⟨r2, st2, w2, P2, h2⟩ => ?_⟩⟩
  split at h2
  · rename_i l el
    have key : rdO T X.K W mc σ H2 (fun u H3 => rSlc X.K x l u H3 Q) := by
      refine ⟨w2, st2, P2.rel, h2.bind.mono fun z H3 ⟨r3, st3, w3, P3, h3⟩ => ?_⟩
      split at h3
      · rename_i u o e1 e3
        cases e4 : slcV u l o with
        | none => rw [e4] at h3; exact h3.elim
        | some r =>
          rw [e4] at h3
          obtain ⟨vz, ez, pz⟩ := Option.bind_eq_some_iff.mp e3
          have x2 := (P2.ext.trans (fun _ h => .inl h) P3.ext).weak (G := fun _ => False) fun _ z => z.elim
          have s := RRel.stay P1 (P2.le.trans P3.le) x2 (fun a hz => (P1.apart x2 a hz).2)
          have q : rSlc X.K x l o H3 Q := ⟨w3, u, r, look_rel P3.rel s e1, e4, fun z H' g => EndE.gives P3.rel h3 g⟩
          rcases part_rel (look_rel P3.rel P3.res ez) pz with ⟨i, hz, rfl⟩ | ⟨hz, rfl⟩
          · exact .inl ⟨i, hz, q⟩
          · exact .inr ⟨hz, q⟩
      · exact h3.elim
    obtain ⟨vy, ey, py⟩ := Option.bind_eq_some_iff.mp el
    rcases part_rel (look_rel P2.rel P2.res ey) py with ⟨i, hz, rfl⟩ | ⟨hz, rfl⟩
    · exact .inl ⟨i, hz, key⟩
    · exact .inr ⟨hz, key⟩
  · exact h2.elim
end
end Mp

set_option Elab.async false
set_option linter.all false
set_option maxRecDepth 100000
set_option maxHeartbeats 1000000
/-! Mp11: argument lists, displays, calls, built-ins, methods, tests, iterables. -/
namespace Mp
open PySem PySem.Spec PyProof.Rows L2

/-! ### no star -/
def noStar : Expr → Bool
  | .Starred _ _ => false
  | _ => true
theorem star_cons {e : Expr} (h : noStar e = true) (es : List Expr) (env : Env) : starEach (e :: es) env = (false, eval e env) :: starEach es env := by
  cases e <;> first | rfl | cases h
theorem star_any {pos : Pos} {env : Env} : ∀ {es : List Expr}, es.all noStar = true → (backTo pos (starEach es env)).any (·.1) = false
  | [], _ => rfl
  | e :: es, h => by
    rw [List.all_cons, Bool.and_eq_true] at h
    rw [star_cons h.1]
    show (false || (backTo pos (starEach es env)).any (·.1)) = false
    rw [star_any h.2] <;> rfl
theorem star_all {pos : Pos} {env : Env} : ∀ {es : List Expr}, es.all noStar = true → (backTo pos (starEach es env)).all (fun x => !x.1) = true
  | [], _ => rfl
  | e :: es, h => by
    rw [List.all_cons, Bool.and_eq_true] at h
    rw [star_cons h.1]
    show (true && (backTo pos (starEach es env)).all (fun x => !x.1)) = true
    rw [star_all h.2] <;> rfl

section
variable {T : ExT} {K : PySem.W.Frag} {W : WX} {w w1 w2 w3 : Wl} {σ σ2 : L2.St} {H H1 H2 H3 : Hp} {st st1 st2 st3 : Sm} {r r2 : RVm} {v v2 : V} {rs : List RVm} {vs : List V}
/-- the continuation kept at the start -/
theorem EndE.bind0 {m : Resm RVm} {f : RVm → Sm → Resm RVm} {Q : VK} (h : EndE T K W w σ H st Q (m.bind f)) :
    EndE T K W w σ H st (fun v H1 => ∃ r st1 w1, PostE K w σ H st r st1 v H1 w1 ∧ EndE T K W w σ H st Q (f r st1)) m := by
  cases m with
  | stuck => exact h
  | err x st' => exact h
  | ok r st1 => exact fun v H1 w1 P => ⟨r, st1, w1, P, h⟩
theorem EndA.bind1 {m : Resm (List RVm)} {f : List RVm → Sm → Resm RVm} {Q : VK} (P : PostE K w σ H st r st1 v H1 w1) (h : EndE T K W w σ H st Q (m.bind f)) :
    EndA T K W w1 σ H1 st1 (fun vs H2 => ∃ rs st2 w2, PostA K w1 σ H1 st1 rs st2 vs H2 w2 ∧ EndE T K W w σ H st Q (f rs st2)) m := by
  cases m with
  | stuck => exact h
  | err x st' => exact fun cls d H' w' q => h cls d H' w' (PostX.after P q)
  | ok r st1 => exact fun v H1 w1 P => ⟨r, st1, w1, P, h⟩
theorem EndA.bind0 {m : Resm (List RVm)} {f : List RVm → Sm → Resm RVm} {Q : VK} (h : EndE T K W w σ H st Q (m.bind f)) :
    EndA T K W w σ H st (fun vs H2 => ∃ rs st2 w2, PostA K w σ H st rs st2 vs H2 w2 ∧ EndE T K W w σ H st Q (f rs st2)) m := by
  cases m with
  | stuck => exact h
  | err x st' => exact h
  | ok r st1 => exact fun v H1 w1 P => ⟨r, st1, w1, P, h⟩
theorem looks_rel (R : Rel K w σ H st) : ∀ {vs : List V} {rs : List RVm} {us : List Viewm}, RRelL K w σ H vs rs → looks rs st = some us → VRelL K w H vs us
  | _, _, _, .nil, e => by cases e; exact .nil
  | _, _, _, .cons h t _, e => by
    unfold looks at e
    split at e
    · rename_i v vs e1 e2
      cases e
      exact .cons (look_rel R h e1) (looks_rel R t e2)
    · cases e
end

section
variable {T : ExT} {W : WX} {X : Cx} {a b c o e : Expr} {es : List Expr} {rest : List Expr} {pos apos cpos p : Pos} {x : Str} {ma mb mc : Sm → Resm RVm} {ta tb tc : Sm → Resm Bool} {ms : Sm → Resm (List RVm)} {n : Nat}
theorem ra_nil : PA X [] (rdAn T X.K W 0 fun st => .ok [] st) := by
  refine ⟨fun pos pins s σ H Q I h => pa_nil.run pos pins s σ H Q I ?_⟩
  obtain ⟨w, st, R, h⟩ := h
  exact h [] H w (PostA.nil R) rfl
theorem ra_cons (ha : PE X e (rdE T X.K W ma)) (hr : PA X es (rdAn T X.K W n ms)) (hs : noStar e = true) : PA X (e :: es) (rdAn T X.K W (n + 1) fun st => (ma st).bind fun r st => (ms st).bind fun rs st => .ok (r :: rs) st) := by
  refine ⟨fun pos pins s σ H Q I h => (pa_cons ha hr (star_cons hs _ _)).run pos pins s σ H Q I ?_⟩
  obtain ⟨w, st, R, h⟩ := h
  refine ⟨w, st, R, (EndA.bindE h).mono fun x H1 ⟨r1, st1, w1, P1, h1⟩ => ⟨w1, st1, P1.rel, h1.mono fun vs H2 h2 hn => h2 ?_⟩⟩
  rw [List.length_cons, hn]
theorem re_tup {k : Nat} (hn : n ≤ 16777216) (ha : PA X es (rdAn T X.K W n ms)) : PE X (.Tuple es k pos) (rdE T X.K W fun st => (ms st).bind fun rs st => (fixAll rs st).bind fun vs st => .ok (.val (.tup vs)) st) := by
  refine PE.imp (pe_tup ha) fun σ H Q ⟨w, st, R, h⟩ => ⟨w, st, R, (EndA.bind0 h).mono fun vs H1 ⟨rs, st1, w1, P, h1⟩ hl => ?_⟩
  cases e : fixAll rs st1 with
  | stuck => rw [e] at h1; exact h1.elim
  | err q s => exact absurd e fixAll_noerr
  | ok ps st2 =>
    rw [e] at h1
    obtain ⟨w3, M, rp⟩ := P.fixed e
    exact ⟨by rw [hl, sl_eq]; exact hn, fun q hq => h1 _ _ _ (M.after ((Gives.tup hq rp).post M.rel))⟩
theorem re_lst (hn : n ≤ 16777216) (ha : PA X es (rdAn T X.K W n ms)) : PE X (.List es pos) (rdE T X.K W fun st => (ms st).bind fun rs st => (fixAll rs st).bind fun vs st => .ok (.own (.lst vs)) st) := by
  refine PE.imp (pe_lst ha) fun σ H Q ⟨w, st, R, h⟩ => ⟨w, st, R, (EndA.bind0 h).mono fun vs H1 ⟨rs, st1, w1, P, h1⟩ hl => ?_⟩
  cases e : fixAll rs st1 with
  | stuck => rw [e] at h1; exact h1.elim
  | err q s => exact absurd e fixAll_noerr
  | ok ps st2 =>
    rw [e] at h1
    obtain ⟨w3, M, rp⟩ := P.fixed e
    exact ⟨by rw [hl, sl_eq]; exact hn, fun q hq => h1 _ _ _ (M.after ((Gives.lst hq rp).post M.rel))⟩
theorem re_rev {k : Nat} {p1 p2 p3 : Pos} (ha : PE X a (rdE T X.K W ma)) : PE X (.Subscript a (.Slice none none (some (.UnaryOp .USub (.Constant (.int 1) k p1) p2)) p3) pos) (rdE T X.K W fun st => (ma st).bind fun x st => match look x st with
      | some u => opt (revV u) st
      | none => .stuck) := by
  refine PE.imp (pe_revL ha) fun σ H Q ⟨w, st, R, h⟩ => ⟨w, st, R, h.bind.mono fun x H1 ⟨r1, st1, w1, P1, h1⟩ => ?_⟩
  split at h1
  · rename_i u e
    unfold revV at h1
    cases el : u.lstOf with
    | none => rw [el] at h1; exact h1.elim
    | some l =>
      rw [el] at h1
      obtain ⟨q, us, hx, hq, rl⟩ := (look_rel P1.rel P1.res e).lst_inv el
      exact ⟨q, us, hx, SqL.of hq, fun q hq => EndE.gives P1.rel h1 (.lst hq rl.rev)⟩
  · exact h1.elim

/-! ### built-ins -/
theorem re_biB {bi : Bim} {id : String} (hc : CallR X (.builtin id) (rBi X.K bi)) (hg : Gl X x) (hm : X.mg x = none) (hv : bootBuiltins x = some (.builtin id)) (ha : PA X (e :: es) (rdAn T X.K W n ms)) (hn : x ≠ "__name__") (hdb : (x == ("__debug__" : Str)) = false)
    (hs : (e :: es).all noStar = true) : PE X (.Call (.Name x p) (e :: es) [] pos) (rdE T X.K W fun st => (ms st).bind fun rs st => match looks rs st with
      | some vs => opt (biV bi vs) st
      | none => .stuck) := by
  have hs' := hs
  rw [List.all_cons, Bool.and_eq_true] at hs
  refine PE.imp (pe_callB hc hg hm hv ha hn hdb (star_cons hs.1 _ _) (star_any hs.2)) fun σ H Q ⟨w, st, R, h⟩ => ⟨w, st, R, (EndA.bind h).mono fun vs H1 ⟨rs, st1, w1, P, h1⟩ hl => ?_⟩
  split at h1
  · rename_i us el
    cases e4 : biV bi us with
    | none => rw [e4] at h1; exact h1.elim
    | some r =>
      rw [e4] at h1
      exact ⟨w1, us, r, looks_rel P.rel P.res el, e4, fun z H' g => EndE.gives P.rel h1 g⟩
  · exact h1.elim
theorem re_biT {bi : Bim} {id : String} (hc : CallR X (.type id) (rBi X.K bi)) (hg : Gl X x) (hm : X.mg x = none) (hv : bootBuiltins x = some (.type id)) (ha : PA X (e :: es) (rdAn T X.K W n ms)) (hn : x ≠ "__name__") (hdb : (x == ("__debug__" : Str)) = false)
    (hs : (e :: es).all noStar = true) : PE X (.Call (.Name x p) (e :: es) [] pos) (rdE T X.K W fun st => (ms st).bind fun rs st => match looks rs st with
      | some vs => opt (biV bi vs) st
      | none => .stuck) := by
  rw [List.all_cons, Bool.and_eq_true] at hs
  refine PE.imp (pe_callTy hc hg hm hv ha hn hdb (star_cons hs.1 _ _) (star_any hs.2)) fun σ H Q ⟨w, st, R, h⟩ => ⟨w, st, R, (EndA.bind h).mono fun vs H1 ⟨rs, st1, w1, P, h1⟩ hl => ?_⟩
  split at h1
  · rename_i us el
    cases e4 : biV bi us with
    | none => rw [e4] at h1; exact h1.elim
    | some r =>
      rw [e4] at h1
      exact ⟨w1, us, r, looks_rel P.rel P.res el, e4, fun z H' g => EndE.gives P.rel h1 g⟩
  · exact h1.elim
/-- isinstance(e, T) -/
theorem re_isi {t : Tym} {y : Str} {p2 : Pos} (ht : t ≠ .non) (hg : Gl X "isinstance") (hm : X.mg "isinstance" = none) (hg2 : Gl X y) (hm2 : X.mg y = none) (hv2 : bootBuiltins y = some (.type (tyStr t))) (hn2 : y ≠ "__name__") (hdb2 : (y == ("__debug__" : Str)) = false)
    (ha : PE X e (rdE T X.K W ma)) (hs : noStar e = true) : PE X (.Call (.Name "isinstance" p) [e, .Name y p2] [] pos) (rdE T X.K W fun st => ((ma st).bind fun r st => (Resm.ok [] st).bind fun rs st => .ok (r :: rs) st).bind fun rs st => match looks rs st with
      | some vs => opt (biV (.isi t) vs) st
      | none => .stuck) := by
  have hA : PA X [e, .Name y p2] (tCons (rdE T X.K W ma) (tCons (tC (.ty (tyStr t))) tNil)) := pa_cons ha (pa_cons (pe_bltn hg2 hm2 hv2 rfl hn2 hdb2) pa_nil rfl) (star_cons hs _ _)
  refine PE.imp (pe_callB (cb_isi t ht) hg hm boot_isinstance hA (by decide) (by decide) (star_cons hs _ _) rfl) fun σ H Q ⟨w, st, R, h⟩ => ⟨w, st, R, ?_⟩
  have h : EndE T X.K W w σ H st Q ((ma st).bind fun r st => match looks [r] st with
      | some vs => opt (biV (.isi t) vs) st
      | none => .stuck) := by
    simp only at h
    cases q : ma st with
    | stuck => rw [q] at h; exact h
    | err x s => rw [q] at h; exact h
    | ok r s => rw [q] at h; exact h
  refine h.bind.mono fun v H1 ⟨r1, st1, w1, P1, h1⟩ => ?_
  show ∃ _, _
  split at h1
  · rename_i us el
    cases e4 : biV (.isi t) us with
    | none => rw [e4] at h1; exact h1.elim
    | some r =>
      rw [e4] at h1
      unfold looks at el
      cases e5 : look r1 st1 with
      | none => rw [e5] at el; cases el
      | some u =>
        rw [e5] at el
        cases el
        exact ⟨v, w1, u, r, rfl, look_rel P1.rel P1.res e5, e4, fun z H' g => EndE.gives P1.rel h1 g⟩
  · exact h1.elim

/-! ### calls of defs -/
theorem re_call {k j : Nat} {f : Addr} {fd : FuncData} {ps : List Str} {C : CallEnv} (tk : Takes X W) (F : FnOk X.prog X.w X.K X.mg X.base (L2.CX X.prog X.w) k f fd ps (spI T X.K C j n)) (hr : Room k X.A) (hg : Gl X x) (hm : X.mg x = some (.ref f)) (hk : PySem.W.keepIn X.K (.ref f) = true)
    (hb : Binds X.K fd ps []) (hC : ∀ ss hp r fin hp', C j ss hp = .ok r fin hp' → ∀ i, r ≠ .at i) (ha : PA X (e :: es) (rdAn T X.K W n ms)) (hdb : (x == ("__debug__" : Str)) = false) (hs : (e :: es).all noStar = true) :
    PE X (.Call (.Name x p) (e :: es) [] pos) (rdE T X.K W fun st => (ms st).bind fun rs st => callR C j rs st) := by
  rw [List.all_cons, Bool.and_eq_true] at hs
  refine PE.imp (pe_callS F hr hg hm hk hb (passAt tk) ha hdb (star_cons hs.1 _ _) (star_any hs.2)) fun σ H Q ⟨w, st, R, h⟩ => ⟨w, st, R, (EndA.bind0 h).mono fun vs H1 ⟨rs, st1, w1, P, h1⟩ hl => ?_⟩
  exact callR_sp P (by rw [← hl, P.res.length]) hC h1

/-! ### methods -/
theorem recv_tyV {K : PySem.W.Frag} {w : Wl} {H : Hp} {v : V} {l : List PVm} (h : VRel K w H v (.m (.lst l))) : tyV K "list" v H := by
  obtain ⟨q, rfl, us, hq, rl⟩ := h
  exact .inl ⟨rfl, us, SqL.of hq⟩
theorem recv_tyS {K : PySem.W.Frag} {w : Wl} {H : Hp} {v : V} {l : List Nat} (h : VRel K w H v (.p (.str l))) : tyV K "str" v H := by
  obtain ⟨rfl, _⟩ := VRel.str_inv h
  rfl
theorem few_ok {env : Env} (hs : (e :: es).all noStar = true) (hl : (e :: es).length < 30) : ((backTo cpos (starEach (e :: es) env)).all (fun x => !x.1) && (backToKw cpos (keywordEach [] env)).all (fun x => x.1.isSome)
      && decide ((e :: es).length + ([] : List Keyword).length + (if ([] : List Keyword).isEmpty then 0 else 1) < 30)) = true := by
  rw [star_all hs]
  show (true && true && decide ((e :: es).length + 0 + 0 < 30)) = true
  rw [decide_eq_true (by omega)]
  rfl
/-- what a method's call needs of the receiver and of the arguments -/
theorem re_meth1 {m : Mem} {Ty id : String} {name : Str} {r : V → List V → Hp → VK → Prop} (pa : PlainAttrs Ty) (slot : Slot Ty name id) (hty : typeOf (.builtin id) = pure (.type "method_descriptor")) (hm : MtR X id r)
    (hrecv : ∀ {w : Wl} {H : Hp} {v : V} {u : Viewm}, recvOk m (some u) = true → VRel X.K w H v u → tyV X.K Ty v H)
    (hend : ∀ {w : Wl} {σ : L2.St} {H : Hp} {st : Sm} {q z : RVm} {st2 : Sm} {v y : V} {H2 : Hp} {w2 : Wl} {Q : VK}, PostA X.K w σ H st [q, z] st2 [v, y] H2 w2 → EndE T X.K W w σ H st Q (me1 m q z st2) → r v [y] H2 Q)
    (ho : PE X o (rdE T X.K W ma)) (ha : PA X [e] (rdAn T X.K W 1 ms)) (hbase : attributeBase o name X.env (eval o X.env) = eval o X.env) (hline : (apos.endLine == cpos.line) = true) (hs : noStar e = true) :
    PE X (.Call (.Attribute o name apos) [e] [] cpos) (rdE T X.K W fun st => (ma st).bind fun x st => if recvOk m (look x st) then (ms st).bind fun rs st => meR m x rs st else .stuck) := by
  have hall : [e].all noStar = true := by simp [hs]
  refine PE.imp (pe_bm pa slot hty hm ho ha hbase (few_ok hall (by show 1 < 30; decide)) hline (star_cons hs _ _) rfl) fun σ H Q ⟨w, st, R, h⟩ => ⟨w, st, R, (EndE.bind0 h).mono fun x H1 ⟨r1, st1, w1, P1, h1⟩ => ?_⟩
  split at h1
  · rename_i hrv
    cases el : look r1 st1 with
    | none =>
      rw [el] at hrv
      cases m <;> cases hrv
    | some u =>
      rw [el] at hrv
      refine ⟨hrecv hrv (look_rel P1.rel P1.res el), w1, st1, P1.rel, (EndA.bind1 P1 h1).mono fun vs H2 ⟨rs, st2, w2, P2, h2⟩ hl => ?_⟩
      have P := PostA.cons P1 P2
      have hrl := P2.res.length
      match vs, rs, hl, hrl, P, h2 with
      | [y], [z], _, _, P, h2 => exact hend P h2
      | [], _, hl, _, _, _ => cases hl
      | _ :: _ :: _, _, hl, _, _, _ => cases hl
      | [y], [], _, hrl, _, _ => cases hrl
      | [y], _ :: _ :: _, _, hrl, _, _ => cases hrl
  · exact h1.elim
theorem re_pop {name : Str} (hname : name = "pop") (ho : PE X o (rdE T X.K W ma)) (hbase : attributeBase o name X.env (eval o X.env) = eval o X.env) (hline : (apos.endLine == cpos.line) = true) :
    PE X (.Call (.Attribute o name apos) [] [] cpos) (rdE T X.K W fun st => (ma st).bind fun x st => if recvOk .pop (look x st) then (Resm.ok [] st).bind fun rs st => meR .pop x rs st else .stuck) := by
  subst hname
  refine PE.imp (pe_bm0 F.plainAttrs_list F.slot_list_pop F.type_list_pop mt_pop ho hbase hline) fun σ H Q ⟨w, st, R, h⟩ => ⟨w, st, R, (EndE.bind0 h).mono fun x H1 ⟨r1, st1, w1, P1, h1⟩ => ?_⟩
  split at h1
  · rename_i hrv
    cases el : look r1 st1 with
    | none => rw [el] at hrv; cases hrv
    | some u =>
      rw [el] at hrv
      have hu : ∃ l, u = .m (.lst l) := by
        unfold recvOk at hrv
        split at hrv <;> simp_all
      obtain ⟨l, rfl⟩ := hu
      exact ⟨recv_tyV (look_rel P1.rel P1.res el), pop_end (PostA.cons P1 (PostA.nil P1.rel)) h1⟩
  · exact h1.elim

/-! ### tests -/
theorem PT.imp {X : Cx} {e : Expr} {t t' : TT} (h : PT X e t) (i : ∀ σ H Q, t' σ H Q → t σ H Q) : PT X e t' := ⟨fun pins s σ H Q I q => h.run pins s σ H Q I (i σ H Q q)⟩
theorem PW.imp {X : Cx} {e : Expr} {t t' : TT} (h : PW X e t) (i : ∀ σ H Q, t' σ H Q → t σ H Q) : PW X e t' := ⟨fun wh pins s σ H Q I q => h.run wh pins s σ H Q I (i σ H Q q)⟩
theorem rt_val (ha : PE X a (rdE T X.K W ma)) (he : ∀ whole, isTrue a X.env whole = (do let v ← whole; standAt a.pos; holding [v] (truthy v))) :
    PT X a (rdT T X.K W fun st => (ma st).bind fun r st => match (look r st).bind truth with
      | some k => .ok k st
      | none => .stuck) := by
  refine PT.imp (pt_truth ha he) fun σ H Q ⟨w, st, R, h⟩ => ⟨w, st, R, (EndE.bindT h).mono fun x H1 ⟨r1, st1, w1, P1, h1⟩ => ?_⟩
  split at h1
  · rename_i k ek
    obtain ⟨u, e1, e2⟩ := Option.bind_eq_some_iff.mp ek
    exact ⟨k, truth_rel (look_rel P1.rel P1.res e1) e2, h1 _ _ (.refl P1.rel)⟩
  · exact h1.elim
theorem rt_cmp {op : CmpOp} {f : Viewm → Viewm → Option Bool} (ho : OpR X (compareOp op) (rCmp X.K f)) (hm : behindInMarks op b = false) (ha : PE X a (rdE T X.K W ma)) (hb : PE X b (rdE T X.K W mb)) :
    PT X (.Compare a [op] [b] pos) (rdT T X.K W fun st => ((ma st).bind fun x st => (mb st).bind fun y st => match look x st, look y st with
      | some u, some v => (match f u v with
        | some k => Resm.ok (.val (.bl k)) st
        | none => .stuck)
      | _, _ => .stuck).bind fun r st => match (look r st).bind truth with
      | some k => .ok k st
      | none => .stuck) := by
  refine PT.imp (pt_cmpR ho ha hb hm) fun σ H Q ⟨w, st, R, h⟩ => ⟨w, st, R, ?_⟩
  have h : EndT T X.K W w σ H st Q ((ma st).bind fun x st => (mb st).bind fun y st => match look x st, look y st with
      | some u, some v => (match f u v with
        | some k => .ok k st
        | none => .stuck)
      | _, _ => .stuck) := by
    simp only at h
    cases q : ma st with
    | stuck => rw [q] at h; exact h
    | err x s => rw [q] at h; exact h
    | ok r s =>
      rw [q] at h
      simp only [Resm.bind_ok] at h ⊢
      cases q2 : mb s with
      | stuck => rw [q2] at h; exact h
      | err x s => rw [q2] at h; exact h
      | ok r2 s2 =>
        rw [q2] at h
        simp only [Resm.bind_ok] at h ⊢
        split at h
        · split at h
          · simp_all [look, truth]
          · exact h.elim
        · exact h.elim
  refine (EndE.bindT h).mono fun x H1 ⟨r1, st1, w1, P1, h1⟩ => ⟨w1, st1, P1.rel, (EndE.bindT h1).mono fun y H2 ⟨r2, st2, w2, P2, h2⟩ => ?_⟩
  split at h2
  · rename_i u v e1 e2
    split at h2
    · rename_i k e3
      exact ⟨w2, u, v, k, look_rel P2.rel (P1.first P2) e1, look_rel P2.rel P2.res e2, e3, k, rfl, h2 _ _ (.refl P2.rel)⟩
    · exact h2.elim
  · exact h2.elim
theorem rw_and1 (ha : PT X a (rdT T X.K W ta)) : PW X (.BoolOp .And [a] pos) (rdT T X.K W ta) := pw_and1 ha
theorem rw_or1 (ha : PT X a (rdT T X.K W ta)) : PW X (.BoolOp .Or [a] pos) (rdT T X.K W ta) := pw_or1 ha
theorem rw_and (ha : PT X a (rdT T X.K W ta)) (hb : PW X (.BoolOp .And (b :: rest) pos) (rdT T X.K W tb)) : PW X (.BoolOp .And (a :: b :: rest) pos) (rdT T X.K W fun st => (ta st).bind fun k st => if k then tb st else .ok false st) := by
  refine PW.imp (pw_and ha hb) fun σ H Q ⟨w, st, R, h⟩ => ⟨w, st, R, (EndT.bindT h).mono fun k H1 ⟨st1, w1, P1, h1⟩ => ?_⟩
  cases k with
  | true => rw [if_pos rfl] at h1 ⊢; exact ⟨w1, st1, P1.rel, h1⟩
  | false => rw [if_neg Bool.false_ne_true] at h1 ⊢; exact h1 _ _ (.refl P1.rel)
theorem rw_or (ha : PT X a (rdT T X.K W ta)) (hb : PW X (.BoolOp .Or (b :: rest) pos) (rdT T X.K W tb)) : PW X (.BoolOp .Or (a :: b :: rest) pos) (rdT T X.K W fun st => (ta st).bind fun k st => if k then .ok true st else tb st) := by
  refine PW.imp (pw_or ha hb) fun σ H Q ⟨w, st, R, h⟩ => ⟨w, st, R, (EndT.bindT h).mono fun k H1 ⟨st1, w1, P1, h1⟩ => ?_⟩
  cases k with
  | true => rw [if_pos rfl] at h1 ⊢; exact h1 _ _ (.refl P1.rel)
  | false => rw [if_neg Bool.false_ne_true] at h1 ⊢; exact ⟨w1, st1, P1.rel, h1⟩
theorem rt_not (ha : PT X a (rdT T X.K W ta)) : PT X (.UnaryOp .Not a pos) (rdT T X.K W fun st => (ta st).bind fun k st => .ok (!k) st) := by
  refine PT.imp (pt_not ha) fun σ H Q ⟨w, st, R, h⟩ => ⟨w, st, R, (EndT.bindT h).mono fun k H1 ⟨st1, w1, P1, h1⟩ => h1 _ _ (.refl P1.rel)⟩

/-! ### iterables -/
theorem PI.imp {X : Cx} {tg e : Expr} {t t' : TI} (h : PI X tg e t) (i : ∀ σ H Q, t' σ H Q → t σ H Q) : PI X tg e t' := ⟨fun pins s σ H Q I q => h.run pins s σ H Q I (i σ H Q q)⟩
variable {tg : Expr}
theorem ri_seq (ha : PE X a (rdE T X.K W ma)) : PI X tg a (rdI T X.K W fun st => (ma st).bind fun r st => seqI r st) :=
  PI.imp (pi_seq ha) fun σ H Q ⟨w, st, R, h⟩ => ⟨w, st, R, (EndI.bind h).mono fun x H1 ⟨r1, st1, w1, P1, h1⟩ => seqI_end P1 h1⟩
theorem ri_rng1 (hg : Gl X "range") (hm : X.mg "range" = none) (ha : PA X [a] (rdAn T X.K W 1 ms)) (hs : noStar a = true) : PI X tg (.Call (.Name "range" p) [a] [] pos) (rdI T X.K W fun st => (ms st).bind fun rs st => rngI rs st) :=
  PI.imp (pi_range1 hg hm ha (star_cons hs _ _)) fun σ H Q ⟨w, st, R, h⟩ => ⟨w, st, R, (EndI.bindA h).mono fun vs H1 ⟨rs, st1, w1, P, h1⟩ hl => by
    rcases rngI_end P h1 with q | ⟨i, j, e, _⟩
    · exact q
    · rw [e] at hl; cases hl⟩
theorem ri_rng2 (hg : Gl X "range") (hm : X.mg "range" = none) (ha : PA X [a, b] (rdAn T X.K W 2 ms)) (hs : noStar a = true) (hs2 : noStar b = true) : PI X tg (.Call (.Name "range" p) [a, b] [] pos) (rdI T X.K W fun st => (ms st).bind fun rs st => rngI rs st) :=
  PI.imp (pi_range2 hg hm ha (by rw [star_cons hs, star_cons hs2]; rfl) (star_cons hs2 _ _)) fun σ H Q ⟨w, st, R, h⟩ => ⟨w, st, R, (EndI.bindA h).mono fun vs H1 ⟨rs, st1, w1, P, h1⟩ hl => by
    rcases rngI_end P h1 with ⟨j, e, _⟩ | q
    · rw [e] at hl; cases hl
    · exact q⟩
theorem ri_enum {elts : List Expr} {kk : Nat} {tpos : Pos} (hg : Gl X "enumerate") (hm : X.mg "enumerate" = none) (ha : PA X [a] (rdAn T X.K W 1 ms)) (hs : noStar a = true) : PI X (.Tuple elts kk tpos) (.Call (.Name "enumerate" p) [a] [] pos) (rdI T X.K W fun st => (ms st).bind fun rs st => enumI rs st) :=
  PI.imp (pi_enA hg hm ha (star_cons hs _ _)) fun σ H Q ⟨w, st, R, h⟩ => ⟨w, st, R, (EndI.bindA h).mono fun vs H1 ⟨rs, st1, w1, P, h1⟩ hl => enumI_end P h1⟩
theorem ri_zip {elts : List Expr} {kk : Nat} {tpos : Pos} (hg : Gl X "zip") (hm : X.mg "zip" = none) (ha : PA X [a, b] (rdAn T X.K W 2 ms)) (hs : noStar a = true) (hs2 : noStar b = true) : PI X (.Tuple elts kk tpos) (.Call (.Name "zip" p) [a, b] [] pos) (rdI T X.K W fun st => (ms st).bind fun rs st => zipI rs st) :=
  PI.imp (RZ.pi_zipA hg hm ha (by rw [star_cons hs]) (by rw [star_cons hs2]; rfl)) fun σ H Q ⟨w, st, R, h⟩ => ⟨w, st, R, (EndI.bindA h).mono fun vs H1 ⟨rs, st1, w1, P, h1⟩ hl => zipI_end P h1⟩
end
end Mp

set_option Elab.async false
set_option linter.all false
set_option maxRecDepth 100000
set_option maxHeartbeats 1000000
/-! Mp12: list comprehensions. -/
namespace Mp
open PySem PySem.Spec PyProof.Rows L2
theorem wipe_get (σ : L2.St) : ∀ (ws : List Nat) (i : Nat), (wipe σ ws)[i]? = if i ∈ ws then (σ[i]?).map (fun _ => none) else σ[i]?
  | [], i => by simp [wipe]
  | v :: vs, i => by
    unfold wipe
    by_cases hi : v = i
    · subst hi
      rw [if_pos List.mem_cons_self]
      by_cases hv : v < σ.length
      · rw [List.getElem?_set_self (by rw [wipe_length]; exact hv), List.getElem?_eq_getElem hv]; rfl
      · rw [List.getElem?_eq_none (by simp [wipe_length]; omega), List.getElem?_eq_none (by omega)]; rfl
    · rw [List.getElem?_set_ne hi, wipe_get σ vs i]
      have e : (i ∈ v :: vs) = (i ∈ vs) := by
        rw [List.mem_cons]
        exact propext ⟨fun h => h.resolve_left fun z => hi z.symm, .inr⟩
      simp only [e]
theorem wipeS_get (env : List Slotm) : ∀ (ws : List Nat) (i : Nat), (wipeS ws env)[i]? = if i ∈ ws then (env[i]?).map (fun _ => .no) else env[i]?
  | [], i => by simp [wipeS]
  | v :: vs, i => by
    have len : ∀ vs, (wipeS vs env).length = env.length := fun vs => by
      induction vs with
      | nil => rfl
      | cons v vs ih => unfold wipeS; rw [List.length_set, ih]
    unfold wipeS
    by_cases hi : v = i
    · subst hi
      rw [if_pos List.mem_cons_self]
      by_cases hv : v < env.length
      · rw [List.getElem?_set_self (by rw [len]; exact hv), List.getElem?_eq_getElem hv]; rfl
      · rw [List.getElem?_eq_none (by simp [len]; omega), List.getElem?_eq_none (by omega)]; rfl
    · rw [List.getElem?_set_ne hi, wipeS_get env vs i]
      have e : (i ∈ v :: vs) = (i ∈ vs) := by
        rw [List.mem_cons]
        exact propext ⟨fun h => h.resolve_left fun z => hi z.symm, .inr⟩
      simp only [e]
theorem unwipe_get (old env : List Slotm) : ∀ (ws : List Nat) (i : Nat), (unwipe old ws env)[i]? = if i ∈ ws then (env[i]?).map (fun _ => old[i]?.getD .no) else env[i]?
  | [], i => by simp [unwipe]
  | v :: vs, i => by
    have len : ∀ vs, (unwipe old vs env).length = env.length := fun vs => by
      induction vs with
      | nil => rfl
      | cons v vs ih => unfold unwipe; rw [List.length_set, ih]
    unfold unwipe
    by_cases hi : v = i
    · subst hi
      rw [if_pos List.mem_cons_self]
      by_cases hv : v < env.length
      · rw [List.getElem?_set_self (by rw [len]; exact hv), List.getElem?_eq_getElem hv]; rfl
      · have z : env[v]? = none := List.getElem?_eq_none (by omega)
        rw [List.getElem?_eq_none (by simp [len]; omega), z]; rfl
    · rw [List.getElem?_set_ne hi, unwipe_get old env vs i]
      have e : (i ∈ v :: vs) = (i ∈ vs) := by
        rw [List.mem_cons]
        exact propext ⟨fun h => h.resolve_left fun z => hi z.symm, .inr⟩
      simp only [e]
theorem len_of_get {α β : Type} {l : List α} {m : List β} (h : ∀ i : Nat, (l[i]?).isSome = (m[i]?).isSome) : l.length = m.length := by
  have key : ∀ {α β : Type} {l : List α} {m : List β}, (∀ i : Nat, (l[i]?).isSome = (m[i]?).isSome) → ¬ l.length < m.length := fun {α β l m} h q => by
    have := h l.length
    rw [List.getElem?_eq_none (Nat.le_refl _), List.getElem?_eq_getElem q] at this
    cases this
  have a := key h
  have b := key fun i => (h i).symm
  omega
theorem wipeS_len (env : List Slotm) (ws : List Nat) : (wipeS ws env).length = env.length := len_of_get fun i => by
  rw [wipeS_get]; split <;> simp
theorem unwipe_len (old env : List Slotm) (ws : List Nat) : (unwipe old ws env).length = env.length := len_of_get fun i => by
  rw [unwipe_get]; split <;> simp
theorem noOwn_at {ws : List Nat} {env : List Slotm} (h : noOwn ws env = true) {i : Nat} (hi : i ∈ ws) {o : MOm} : ¬ (env[i]? = some (.own o) ∨ env[i]? = some (.lent o)) := by
  intro q
  unfold noOwn at h
  have := List.all_eq_true.mp h i hi
  rcases q with q | q <;> rw [q] at this <;> cases this
section
variable {T : ExT} {K : PySem.W.Frag} {W : WX} {w w1 w2 w3 : Wl} {σ σ1 σ2 : L2.St} {H H1 H2 H3 : Hp} {st st1 st2 st3 : Sm} {r r2 : RVm} {v v2 : V} {rs : List RVm} {vs : List V}
/-- another store and another environment with the same objects -/
theorem Rel.other {σ' : L2.St} {env' : List Slotm} (R : Rel K w σ H st) (len : σ'.length = env'.length) (val : ∀ (i : Nat) (v : PVm), env'[i]? = some (.val v) → ∃ x, σ'[i]? = some (some x) ∧ Rp K H w x v)
    (own : ∀ (i : Nat) (o : MOm), (env'[i]? = some (.own o) ∨ env'[i]? = some (.lent o)) → (st.env[i]? = some (.own o) ∨ st.env[i]? = some (.lent o)) ∧ σ'[i]? = σ[i]?) :
    Rel K w σ' H { st with env := env' } ∧ ∀ a, Foot env' σ' w a → Foot st.env σ w a := by
  have oa : ∀ i a, OwnAt env' σ' i a → OwnAt st.env σ i a := fun i a ⟨h1, o, h2⟩ => by
    obtain ⟨q1, q2⟩ := own i o h2
    exact ⟨by rw [← q2]; exact h1, o, q1⟩
  have ft : ∀ a, Foot env' σ' w a → Foot st.env σ w a := fun a h => h.elim .inl fun ⟨i, h⟩ => .inr ⟨i, oa i a h⟩
  refine ⟨⟨len, val, fun i o h => ?_, R.hl, R.hob, R.nd, fun i a h => R.nio i a (oa i a h), fun i j a h k => R.inj i j a (oa i a h) (oa j a k), fun a h k => R.sS a h (ft a k), R.tS⟩, ft⟩
  obtain ⟨q1, q2⟩ := own i o h
  obtain ⟨a, e, m⟩ := R.obj i o q1
  exact ⟨a, by rw [q2]; exact e, m⟩
theorem wipe_rel {ws : List Nat} (R : Rel K w σ H st) (h : noOwn ws st.env = true) : Rel K w (wipe σ ws) H { st with env := wipeS ws st.env } ∧ ∀ a, Foot (wipeS ws st.env) (wipe σ ws) w a → Foot st.env σ w a := by
  refine R.other (by rw [wipe_length, wipeS_len, R.len]) (fun i p e => ?_) fun i o e => ?_
  · rw [wipeS_get] at e
    split at e
    · cases q : st.env[i]? <;> rw [q] at e <;> cases e
    · rename_i hi
      rw [wipe_get, if_neg hi]
      exact R.val i p e
  · rw [wipeS_get] at e
    split at e
    · rcases e with e | e <;> cases q : st.env[i]? <;> rw [q] at e <;> cases e
    · rename_i hi
      exact ⟨e, by rw [wipe_get, if_neg hi]⟩
/-- the old slots set back -/
theorem unwipe_rel {ws : List Nat} {old : List Slotm} (R : Rel K w (wipe σ ws) H st) (hl : old.length = st.env.length) (hσ : σ.length = old.length) (h : noOwn ws old = true) (hv : ∀ (i : Nat) (v : PVm), old[i]? = some (.val v) → ∃ x, σ[i]? = some (some x) ∧ Rp K H w x v) :
    Rel K w σ H { st with env := unwipe old ws st.env } ∧ ∀ a, Foot (unwipe old ws st.env) σ w a → Foot st.env (wipe σ ws) w a := by
  refine R.other (by rw [unwipe_len, hσ, hl]) (fun i p e => ?_) fun i o e => ?_
  · rw [unwipe_get] at e
    split at e
    · rename_i hi
      cases q : st.env[i]? with
      | none => rw [q] at e; cases e
      | some s =>
        rw [q] at e
        have hlt : i < old.length := by
          rw [hl]
          exact (List.getElem?_eq_some_iff.mp q).1
        refine hv i p ?_
        rw [List.getElem?_eq_getElem hlt] at e ⊢
        simpa using e
    · rename_i hi
      obtain ⟨x, e1, r⟩ := R.val i p e
      rw [wipe_get, if_neg hi] at e1
      exact ⟨x, e1, r⟩
  · rw [unwipe_get] at e
    split at e
    · rename_i hi
      cases q : st.env[i]? with
      | none => rw [q] at e; rcases e with e | e <;> cases e
      | some s =>
        rw [q] at e
        have hlt : i < old.length := by
          rw [hl]
          exact (List.getElem?_eq_some_iff.mp q).1
        refine absurd ?_ (noOwn_at h hi (o := o))
        rw [List.getElem?_eq_getElem hlt] at e ⊢
        simpa using e
    · rename_i hi
      exact ⟨e, by rw [wipe_get, if_neg hi]⟩
/-- an address beside the footprint stays so -/
theorem Ext.out {G S F' S' : Addr → Prop} {D : Addr} {o : HO} (x : Ext H G S H1 F' S') (hD : H D = some o) (nG : ¬ G D) (nS : ¬ S D) : H1 D = some o ∧ ¬ F' D ∧ ¬ S' D := by
  refine ⟨x.keep D o hD nG, fun h => ?_, fun h => ?_⟩
  · rcases x.grow D h with h | h
    · exact nG h
    · rw [hD] at h; cases h
  · rcases x.growS D h with h | h | h
    · exact nS h
    · exact nG h
    · rw [hD] at h; cases h
/-- an object beside the footprint is written -/
theorem Rel.updOut {D : Addr} {xs ys : List V} (R : Rel K w σ H st) (he : H D = some (.lst xs)) (nF : ¬ Foot st.env σ w D) (nS : ¬ w.S D) : Rel K w σ (upd H D (.lst ys)) st ∧ Stays w H (upd H D (.lst ys)) := by
  have s : Stays w H (upd H D (.lst ys)) := upd_stays he (fun xs z => nomatch z) (fun o x z => nomatch z) nS
  refine ⟨⟨R.len, fun i v e => ?_, fun i o e => ?_, R.hl, fun n a o h1 h2 => ?_, R.nd, R.nio, R.inj, R.sS, fun a h => ?_⟩, s⟩
  · obtain ⟨x, e1, r⟩ := R.val i v e
    exact ⟨x, e1, r.stay s (.refl w)⟩
  · obtain ⟨a, e1, m⟩ := R.obj i o e
    exact ⟨a, e1, m.stay s (.refl w) (upd_ne fun z => nF (by rw [← z]; exact .inr ⟨i, e1, o, e⟩))⟩
  · exact (R.hob n a o h1 h2).stay s (.refl w) (upd_ne fun z => nF (by rw [← z]; exact .inl (List.mem_of_getElem? h1)))
  · by_cases z : a = D
    · subst z; exact absurd h nS
    · rw [upd_ne z]; exact R.tS a h
theorem EndI.bindE {m : Resm Itmm} {f : Itmm → Sm → Resm RVm} {Q : VK} (h : EndE T K W w σ H st Q (m.bind f)) :
    EndI T K W w σ H st (fun J H1 => ∃ I st1 w1 IA, PostI K w σ H st I st1 J H1 w1 IA ∧ EndE T K W w σ H st Q (f I st1)) m := by
  cases m with
  | stuck => exact h
  | err x st' => exact h
  | ok I st1 => exact fun J H1 w1 IA P => ⟨I, st1, w1, IA, P, h⟩
theorem EndI.mono {m : Resm Itmm} {Q Q' : It → Hp → Prop} (h : EndI T K W w σ H st Q m) (i : ∀ v H, Q v H → Q' v H) : EndI T K W w σ H st Q' m := by
  cases m with
  | stuck => exact h
  | err x st' => exact h
  | ok r st1 => exact fun J H1 w1 IA P => i _ _ (h J H1 w1 IA P)

/-- a comprehension at a turn -/
structure CompI (K : PySem.W.Frag) (w1 : Wl) (σ : L2.St) (H1 : Hp) (st1 : Sm) (ws : List Nat) (D : Addr) (ds : List (Nat × List PVm)) (body : PVm → Sm → Resm (Option PVm)) (items : List PVm) (accF : List PVm) (stF : Sm) (Hc : Hp) (w2 : Wl) (st2 : Sm) (acc : List PVm) (accV : List V) : Prop where
  rel : Rel K w2 (wipe σ ws) Hc st2
  le : w1.le w2
  len : st2.env.length = st1.env.length
  wiped : ∀ (j : Nat) (s : Slotm), j ∈ ws → st2.env[j]? = some s → s = .no
  hD : Hc D = some (.lst accV)
  rl : RpL K Hc w2 accV acc
  nF : ¬ Foot st2.env (wipe σ ws) w2 D
  nS : ¬ w2.S D
  ext : Ext H1 (Foot st1.env σ w1) w1.S Hc (fun a => Foot st2.env (wipe σ ws) w2 a ∨ a = D) w2.S
  run : compL ds body items acc st2 = .ok accF stF
theorem CompI.turn {ws : List Nat} {D : Addr} {ds : List (Nat × List PVm)} {body : PVm → Sm → Resm (Option PVm)} {items accF acc : List PVm} {stF : Sm} {Hc : Hp} {accV : List V} {IA : Addr → Prop} (hIA : ∀ a, IA a → ¬ Foot st1.env σ w1 a ∧ H1 a ≠ none)
    (hS1 : ∀ x, w1.S x → ¬ Foot st1.env σ w1 x) (C : CompI K w1 σ H1 st1 ws D ds body items accF stF Hc w2 st2 acc accV) (hd : depsOk ds st2 = true) : TurnOk K w1 σ H1 ds IA w2 (wipe σ ws) Hc st2 := by
  refine ⟨C.rel, hd, fun d hdm => ?_, C.ext.stays hS1, fun a h => ?_, C.le⟩
  · rw [wipe_get, if_neg fun hi => ?_]
    unfold depsOk at hd
    have := List.all_eq_true.mp hd d hdm
    unfold depOk at this
    split at this
    · rename_i l e
      cases C.wiped d.1 _ hi e
    · rename_i l e
      cases C.wiped d.1 _ hi e
    · cases this
  · obtain ⟨n, t⟩ := hIA a h
    cases q : H1 a with
    | none => exact absurd q t
    | some u => exact C.ext.keep a u q n
end

section
variable {T : ExT} {W : WX} {X : Cx} {elt tg iter : Expr} {ifs : List Expr} {scope : Scope} {own : List (Str × Nat)} {pos : Pos} {t : Tgtm} {mi : Sm → Resm Itmm} {mt : Sm → Resm Bool} {me : Sm → Resm RVm}
theorem compL_dep {ds : List (Nat × List PVm)} {body : PVm → Sm → Resm (Option PVm)} {items acc accF : List PVm} {st stF : Sm} (h : compL ds body items acc st = .ok accF stF) : depsOk ds st = true := by
  cases items with
  | nil =>
    unfold compL at h
    split at h
    · assumption
    · cases h
  | cons x xs =>
    unfold compL at h
    split at h
    · assumption
    · cases h
/-- the reading of a comprehension, from its run -/
theorem comp_rd {ws : List Nat} (ht : ∀ i, i ∈ t.vars → i ∈ ws) {σ : L2.St} {H : Hp} {Q : VK} {K : PySem.W.Frag}
    (h : rdE T K W (fun st => (mi st).bind fun I st => if noOwn ws st.env = false then .stuck else
      match compL I.deps (compB t mt me ws) I.items [] { st with env := wipeS ws st.env } with
      | .ok acc st' => .ok (.own (.lst acc)) { st' with env := unwipe st.env ws st'.env }
      | _ => .stuck) σ H Q) : tLc (rdI T K W mi) (rdG K t) (rdT T K (fun _ _ _ _ => False) mt) (rdE T K (fun _ _ _ _ => False) me) ws σ H Q := by
  obtain ⟨w, st, R, h⟩ := h
  refine ⟨w, st, R, (EndI.bindE h).mono fun J H1 ⟨I, st1, w1, IA, P, h1⟩ D hDn => ?_⟩
  split at h1
  · exact h1.elim
  rename_i hno
  have hno : noOwn ws st1.env = true := by simpa using hno
  generalize hbody : compB t mt me ws = body at h1
  split at h1
  · rename_i accF stF hrun
    have ne : ∀ a u, H1 a = some u → a ≠ D := fun a u e z => by rw [z, hDn] at e; cases e
    have hIA : ∀ a, IA a → ¬ Foot st1.env σ w1 a ∧ H1 a ≠ none := fun a z => ⟨(P.new a z).1, (P.new a z).2.2⟩
    obtain ⟨G, Y, wk, hG, hY⟩ := P.walk.ex
    obtain ⟨R0, F0⟩ := wipe_rel P.rel hno
    have nFD : ¬ Foot st1.env σ w1 D := fun f => by
      obtain ⟨u, e⟩ := P.rel.footSome D f
      rw [hDn] at e; cases e
    refine ⟨fun i m Hc => m = I.items.length - i ∧ i ≤ I.items.length ∧ ∃ w2 st2 acc accV, CompI K w1 σ H1 st1 ws D I.deps body (I.items.drop i) accF stF Hc w2 st2 acc accV, ⟨_, rfl, Nat.zero_le _, w1, _, [], [], ⟨R0.laid hDn, .refl w1, wipeS_len _ _, fun j s hj e => ?_, upd_same, .nil, fun f => nFD (F0 D f), fun z => P.rel.tS D z hDn,
      (laid_ext hDn).weak fun a z => z.elim (fun z => .inl (F0 a z)) .inr, hrun⟩⟩, ?_⟩
    · rw [wipeS_get, if_pos hj] at e
      cases q : st1.env[j]? <;> rw [q] at e <;> cases e
      rfl
    rintro i m Hc ⟨rfl, hi, w2, st2, acc, accV, C⟩
    have hdep := compL_dep C.run
    have tok := C.turn hIA P.rel.sS hdep
    have hGc := hG w2 _ Hc st2 tok
    by_cases hlt : i < I.items.length
    · refine .inr ⟨wk.goes i Hc hlt hGc, fun H' => ∃ m', m' < I.items.length - i ∧ m' = I.items.length - (i + 1) ∧ i + 1 ≤ I.items.length ∧ ∃ w2 st2 acc accV, CompI K w1 σ H1 st1 ws D I.deps body (I.items.drop (i + 1)) accF stF H' w2 st2 acc accV, fun H' ⟨m', h1, h2⟩ => ⟨m', h1, h2⟩, fun x H' hy => ?_⟩
      have hp : I.items[i]? = some I.items[i] := List.getElem?_eq_getElem hlt
      obtain ⟨rx, hH⟩ := hY i w2 _ Hc st2 x H' _ tok (wk.yields i Hc x H' hlt hGc hy) hp
      -- the run of this turn
      have run := C.run
      rw [List.drop_eq_getElem_cons hlt] at run
      unfold compL at run
      rw [if_pos hdep] at run
      -- the heap behind the yield
      have step : Rel K w2 (wipe σ ws) H' st2 ∧ Ext Hc (Foot st2.env (wipe σ ws) w2) w2.S H' (Foot st2.env (wipe σ ws) w2) w2.S := by
        rcases hH with rfl | ⟨q, xs, hq, rfl⟩
        · exact ⟨C.rel, Ext.refl⟩
        · exact ⟨C.rel.laid hq, (laid_ext hq).weak fun _ z => .inl z⟩
      obtain ⟨R', X'⟩ := step
      obtain ⟨hD', nF', nS'⟩ := X'.out C.hD C.nF C.nS
      have E' : Ext H1 (Foot st1.env σ w1) w1.S H' (fun a => Foot st2.env (wipe σ ws) w2 a ∨ a = D) w2.S := (C.ext.trans (fun _ z => .inl z) X').weak fun a z => .inr z
      have rl' := C.rl.stay (C.rel.stays X') (.refl w2)
      cases hb : body I.items[i] st2 with
      | stuck => rw [hb] at run; cases run
      | err q s => rw [hb] at run; cases run
      | ok ov st7 =>
        rw [hb] at run
        simp only [Resm.bind_ok] at run
        rw [← hbody] at hb
        unfold compB at hb
        split at hb
        · cases hb
        rename_i st3 hbt
        refine ⟨w2, st2, _, st3, R', rx, hbt, fun σ3 B => ⟨?_, ?_⟩⟩
        · apply List.ext_getElem?
          intro j
          rw [wipe_get, wipe_get]
          split
          · have hl : σ3.length = σ.length := by rw [B.rel.len, B.len, ← C.rel.len, wipe_length]
            by_cases hj : j < σ.length
            · rw [List.getElem?_eq_getElem (by rw [hl]; exact hj), List.getElem?_eq_getElem hj]; rfl
            · rw [List.getElem?_eq_none (by rw [hl]; omega), List.getElem?_eq_none (by omega)]
          · rename_i hj
            rw [(B.out j fun z => hj (ht j z)).1, wipe_get, if_neg hj]
        have XB : Ext H' (Foot st2.env (wipe σ ws) w2) w2.S H' (Foot st3.env σ3 w2) w2.S := Ext.refl.weak B.foot
        have E3 : Ext H1 (Foot st1.env σ w1) w1.S H' (fun a => Foot st3.env σ3 w2 a ∨ a = D) w2.S := E'.weak fun a z => z.elim (fun z => .inl (B.foot a z)) .inr
        have nF3 : ¬ Foot st3.env σ3 w2 D := fun z => nF' (B.foot D z)
        -- the end of a turn
        have fin : ∀ (w5 : Wl) (H5 : Hp) (st6 : Sm) (ov : Option PVm), Rel K w5 σ3 H5 st6 → w2.le w5 → st6.env.length = st3.env.length → wipeC ws ov st6 = .ok ov st7 → 
            (∃ accV', H5 D = some (.lst accV') ∧ ∃ acc', RpL K H5 w5 accV' acc' ∧ compL I.deps body (I.items.drop (i + 1)) acc' st7 = .ok accF stF) → ¬ Foot st6.env σ3 w5 D → ¬ w5.S D →
            Ext H1 (Foot st1.env σ w1) w1.S H5 (fun a => Foot st6.env σ3 w5 a ∨ a = D) w5.S → ∃ m', m' < I.items.length - i ∧ m' = I.items.length - (i + 1) ∧ i + 1 ≤ I.items.length ∧ ∃ w2 st2 acc accV, CompI K w1 σ H1 st1 ws D I.deps body (I.items.drop (i + 1)) accF stF H5 w2 st2 acc accV := by
          intro w5 H5 st6 ov R5 l5 n5 hw ⟨accV', e5, acc', r5, run5⟩ f5 s5 x5
          unfold wipeC at hw
          split at hw
          · rename_i hno6
            cases hw
            obtain ⟨R7, F7⟩ := wipe_rel R5 hno6
            have eσ : wipe σ3 ws = wipe σ ws := by
              apply List.ext_getElem?
              intro j
              rw [wipe_get, wipe_get]
              split
              · have hl : σ3.length = σ.length := by rw [B.rel.len, B.len, ← C.rel.len, wipe_length]
                by_cases hj : j < σ.length
                · rw [List.getElem?_eq_getElem (by rw [hl]; exact hj), List.getElem?_eq_getElem hj]; rfl
                · rw [List.getElem?_eq_none (by rw [hl]; omega), List.getElem?_eq_none (by omega)]
              · rename_i hj
                rw [(B.out j fun z => hj (ht j z)).1, wipe_get, if_neg hj]
            rw [eσ] at R7 F7
            refine ⟨_, by omega, rfl, hlt, w5, _, acc', accV', R7, C.le.trans l5, ?_, fun j s hj e => ?_, e5, r5, fun z => f5 (F7 D z), s5, x5.weak fun a z => z.elim (fun z => .inl (F7 a z)) .inr, run5⟩
            · show (wipeS ws st6.env).length = _
              rw [wipeS_len, n5, B.len, C.len]
            · have e : (wipeS ws st6.env)[j]? = some s := e
              rw [wipeS_get, if_pos hj] at e
              cases q : st6.env[j]? <;> rw [q] at e <;> cases e
              rfl
          · cases hw
        refine ⟨w2, st3, B.rel, ?_⟩
        cases hmt : mt st3 with
        | stuck => rw [hmt] at hb; cases hb
        | err q s => rw [hmt] at hb; cases hb
        | ok k st4 =>
          rw [hmt] at hb
          simp only [Resm.bind_ok] at hb
          intro H4 w4 M
          obtain ⟨hD4, nF4, nS4⟩ := M.ext.out hD' nF3 nS'
          have E4 : Ext H1 (Foot st1.env σ w1) w1.S H4 (fun a => Foot st4.env σ3 w4 a ∨ a = D) w4.S := (E3.trans (fun _ z => .inl z) M.ext).weak fun a z => z.elim .inl fun z => .inr (.inr z)
          have rl4 := rl'.stay (B.rel.stays M.ext) M.le
          cases k with
          | false =>
            rw [if_neg Bool.false_ne_true] at hb ⊢
            have ho : ov = none := by
              unfold wipeC at hb
              split at hb
              · cases hb; rfl
              · cases hb
            subst ho
            exact fin w4 H4 st4 none M.rel M.le M.len hb ⟨accV, hD4, acc, rl4, run⟩ nF4 nS4 E4
          | true =>
            rw [if_pos rfl] at hb ⊢
            refine ⟨w4, st4, M.rel, ?_⟩
            cases hme : me st4 with
            | stuck => rw [hme] at hb; cases hb
            | err q s => rw [hme] at hb; cases hb
            | ok rv st5 =>
              rw [hme] at hb
              simp only [Resm.bind_ok] at hb
              intro y H5 w5 PE5
              cases hfx : fixR rv st5 with
              | stuck => rw [hfx] at hb; cases hb
              | err q s => rw [hfx] at hb; cases hb
              | ok pv st6 =>
                rw [hfx] at hb
                simp only [Resm.bind_ok] at hb
                obtain ⟨w6, FX⟩ := fix_post PE5.rel PE5.res PE5.new hfx
                have ho : ov = some pv := by
                  unfold wipeC at hb
                  split at hb
                  · cases hb; rfl
                  · cases hb
                subst ho
                simp only at run
                split at run
                · rename_i hacc
                  obtain ⟨hD5, nF5, nS5⟩ := PE5.ext.out hD4 nF4 nS4
                  have nF6 : ¬ Foot st6.env σ3 w6 D := fun z => nF5 (.inl (FX.foot D z))
                  have nS6 : ¬ w6.S D := fun z => by
                    rcases FX.S D z with z | z | z
                    · exact nS5 z
                    · exact nF5 (.inl z)
                    · exact nF5 (.inr z)
                  have E5 : Ext H1 (Foot st1.env σ w1) w1.S H5 (fun a => Foot st6.env σ3 w6 a ∨ a = D) w6.S := by
                    have z := E4.trans (fun _ z => .inl z) PE5.ext
                    refine ⟨z.keep, z.trk, fun a q => ?_, fun a q => ?_, z.tup, z.frz⟩
                    · rcases q with q | q
                      · exact z.grow a (.inl (.inl (FX.foot a q)))
                      · exact E4.grow a (.inr q) |> fun g => g.elim .inl fun g => .inr g
                    · rcases FX.S a q with q | q | q
                      · exact z.growS a q
                      · exact .inr (z.grow a (.inl (.inl q)))
                      · exact .inr (z.grow a (.inl (.inr q)))
                  obtain ⟨R7, s7⟩ := FX.rel.updOut (ys := accV ++ [y]) hD5 nF6 nS6
                  have rl6 := rl4.stay (M.rel.stays PE5.ext) (PE5.le.trans FX.le)
                  refine ⟨accV, hD5, by rw [rl4.length, sl_eq]; exact hacc, fin w6 _ st6 _ R7 (M.le.trans (PE5.le.trans FX.le)) (FX.len.trans (PE5.len.trans M.len)) hb ⟨_, upd_same, _, (rl6.stay s7 (.refl _)).app (.cons (FX.res.stay s7 (.refl _)) .nil), run⟩ nF6 nS6 ?_⟩
                  have kp : ∀ a, a ≠ D → (upd H5 D (.lst (accV ++ [y]))) a = H5 a := fun a z => upd_ne z
                  refine ⟨fun a u e n => ?_, fun a e => ?_, E5.grow, E5.growS, fun a xs e => ?_, fun a o u e => ?_⟩
                  · rw [kp a (ne a u e)]; exact E5.keep a u e n
                  · cases q : H1 a with
                    | none => exact absurd q e
                    | some u => rw [kp a (ne a u q)]; exact E5.trk a e
                  · rw [kp a (ne a _ e)]; exact E5.tup a xs e
                  · rw [kp a (ne a _ e)]; exact E5.frz a o u e
                · cases run
    · have e : i = I.items.length := by omega
      subst e
      refine .inl ⟨wk.stops Hc hGc, ?_⟩
      have run := C.run
      rw [List.drop_eq_nil_of_le (Nat.le_refl _)] at run
      unfold compL at run
      rw [if_pos hdep] at run
      cases run
      have stays1 : Stays w1 H1 Hc := P.rel.stays C.ext
      obtain ⟨RF, FF⟩ := unwipe_rel (σ := σ) (old := st1.env) C.rel C.len.symm P.rel.len hno fun j v e => by
        obtain ⟨x, e1, r⟩ := P.rel.val j v e
        exact ⟨x, e1, r.stay stays1 C.le⟩
      refine h1 _ _ w2 ⟨P.le.trans C.le, RF, ⟨D, rfl, ⟨accV, C.hD, C.rl⟩, C.nS⟩, (P.ext.trans (fun _ z => .inl z) C.ext).weak fun a z => ?_, fun a z f => ?_, ?_⟩
      · rcases z with z | ⟨_, z⟩
        · exact .inl (.inl (FF a z))
        · cases z
          exact .inl (.inr rfl)
      · obtain ⟨_, z⟩ := z
        cases z
        exact C.nF (FF _ f)
      · show (unwipe st1.env ws stF.env).length = _
        rw [unwipe_len, C.len, P.len]
  · exact h1.elim
end
end Mp

set_option Elab.async false
set_option linter.all false
set_option maxRecDepth 100000
set_option maxHeartbeats 1000000
/-! MpD1: dicts, expressions. -/
namespace Mp
open PySem PySem.Spec PyProof.Rows L2
section
variable {K : PySem.W.Frag} {w : Wl} {H : Hp}
theorem KeyP.inj {k k' : Key} {p p' : PVm} (h : KeyP k p) (h' : KeyP k' p') : k = k' ↔ p = p' := by
  cases h <;> cases h'
  · exact ⟨fun e => (by cases e; rfl), fun e => (by cases e; rfl)⟩
  · exact ⟨fun e => (by cases e), fun e => (by cases e)⟩
  · exact ⟨fun e => (by cases e), fun e => (by cases e)⟩
  · rename_i s hs t ht
    constructor
    · intro e
      have : s.toArray = t.toArray := by injection e with e; injection e
      have : s = t := by simpa using this
      rw [this]
    · intro e; cases e; rfl
/-- a key's value -/
theorem keyK_of {v : V} {p : PVm} (h : Rp K H w v p) (e : keyK p = true) : ∃ k, v = L2.kV k ∧ KeyP k p := by
  cases h <;> first | (cases e; done) | skip
  · exact ⟨.inl _, rfl, .int _⟩
  · exact ⟨.inr _, rfl, .str _ (by assumption)⟩
theorem keyL_of : ∀ {vs : List V} {l : List PVm}, RpL K H w vs l → l.all keyK = true → ∃ ks, vs = ks.map L2.kV ∧ KeyL ks l
  | _, _, .nil, _ => ⟨[], rfl, .nil⟩
  | _, _, .cons r t, e => by
    rw [List.all_cons, Bool.and_eq_true] at e
    obtain ⟨k, rfl, hk⟩ := keyK_of r e.1
    obtain ⟨ks, rfl, hks⟩ := keyL_of t e.2
    exact ⟨k :: ks, rfl, .cons hk hks⟩
theorem KeyL.inj : ∀ {k k' : List Key} {l l' : List PVm}, KeyL k l → KeyL k' l' → (k = k' ↔ l = l')
  | _, _, _, _, .nil, .nil => by simp
  | _, _, _, _, .nil, .cons _ _ => by simp
  | _, _, _, _, .cons _ _, .nil => by simp
  | _, _, _, _, .cons a b, .cons c d => by
    rw [List.cons.injEq, List.cons.injEq, a.inj c, KeyL.inj b d]
theorem look_d : ∀ {kvs : List (Key × V)} {l : List (PVm × PVm)} {k : Key} {p : PVm}, RpD K H w kvs l → KeyP k p → (∃ v q, valV kvs k = some v ∧ dLook l p = some q ∧ Rp K H w v q) ∨ (valV kvs k = none ∧ dLook l p = none)
  | _, _, _, _, .nil, _ => .inr ⟨rfl, rfl⟩
  | _, _, k, p, .cons (k := k') (v := v) (pk := pk) (pv := pv) (l := l) a r t, hk => by
    by_cases e : k' = k
    · have e2 : pk = p := (a.inj hk).mp e
      refine .inl ⟨v, pv, valV_pos e, ?_, r⟩
      unfold dLook
      rw [List.find?_cons_of_pos (by simpa using e2)]
      rfl
    · have e2 : ¬ pk = p := fun z => e ((a.inj hk).mpr z)
      have : dLook ((pk, pv) :: l) p = dLook l p := by
        unfold dLook
        rw [List.find?_cons_of_neg (by simpa using e2)]
      rw [valV_neg (p := (k', v)) e, this]
      exact look_d t hk
theorem look_t : ∀ {kvs : List (List Key × V)} {l : List (PVm × PVm)} {k : List Key} {p : List PVm}, RpT K H w kvs l → KeyL k p → (∃ v q, valV kvs k = some v ∧ dLook l (.tup p) = some q ∧ Rp K H w v q) ∨ (valV kvs k = none ∧ dLook l (.tup p) = none)
  | _, _, _, _, .nil, _ => .inr ⟨rfl, rfl⟩
  | _, _, k, p, .cons (k := k') (v := v) (lk := pk) (pv := pv) (l := l) a r t, hk => by
    by_cases e : k' = k
    · have e2 : pk = p := (a.inj hk).mp e
      refine .inl ⟨v, pv, valV_pos e, ?_, r⟩
      unfold dLook
      rw [List.find?_cons_of_pos (by simpa using e2)]
      rfl
    · have e2 : ¬ pk = p := fun z => e ((a.inj hk).mpr z)
      have : dLook ((.tup pk, pv) :: l) (.tup p) = dLook l (.tup p) := by
        unfold dLook
        rw [List.find?_cons_of_neg (by simpa using e2)]
      rw [valV_neg (p := (k', v)) e, this]
      exact look_t t hk
/-- what is asked for and what is there -/
theorem dAt_rel {x y : V} {u v : Option Viewm} {o : Option PVm} {a b : Viewm} (hu : u = some a) (hv : v = some b) (ha : VRel K w H x a) (hb : VRel K w H y b) (e : dAt u v = some o) :
    ∃ c r, x = .ref c ∧ IsD H c ∧ DGet H c y r ∧ ((∃ z q, r = some z ∧ o = some q ∧ Rp K H w z q) ∨ (r = none ∧ o = none)) := by
  subst hu hv
  unfold dAt at e
  split at e
  · rename_i l k e1 e2
    cases e1; cases e2
    split at e
    · rename_i hk
      cases e
      obtain ⟨c, rfl, kvs, hc, rl⟩ := ha
      obtain ⟨key, rfl, kp⟩ := keyK_of hb hk
      refine ⟨c, valV kvs key, rfl, .inl ⟨kvs, .of hc⟩, DGet.k hc, ?_⟩
      rcases look_d rl kp with ⟨z, q, h1, h2, h3⟩ | ⟨h1, h2⟩
      · exact .inl ⟨z, q, h1, h2, h3⟩
      · exact .inr ⟨h1, h2⟩
    · cases e
  · rename_i l k e1 e2
    cases e1; cases e2
    split at e
    · rename_i hk
      cases e
      obtain ⟨c, rfl, kvs, hc, rl⟩ := ha
      cases k <;> first | (cases hk; done) | skip
      rename_i lk
      cases hb with
      | tup h1 h2 =>
        obtain ⟨ks, rfl, kl⟩ := keyL_of h2 hk
        refine ⟨c, valV kvs ks, rfl, .inr ⟨kvs, .of hc⟩, DGet.t hc h1, ?_⟩
        rcases look_t rl kl with ⟨z, q, g1, g2, g3⟩ | ⟨g1, g2⟩
        · exact .inl ⟨z, q, g1, g2, g3⟩
        · exact .inr ⟨g1, g2⟩
    · cases e
  · cases e
theorem dAt_some {u v : Option Viewm} {o : Option PVm} (e : dAt u v = some o) : ∃ a b, u = some a ∧ v = some b := by
  unfold dAt at e
  split at e
  · exact ⟨_, _, rfl, rfl⟩
  · exact ⟨_, _, rfl, rfl⟩
  · cases e
theorem isDic_rel {x : V} {a : Viewm} (h : isDic (some a) = true) (ha : VRel K w H x a) : ∃ c, x = .ref c ∧ IsD H c := by
  cases a with
  | p p => cases h
  | m o =>
    cases o with
    | lst l => cases h
    | tbl n => cases h
    | dic l =>
      obtain ⟨c, rfl, kvs, hc, _⟩ := ha
      exact ⟨c, rfl, .inl ⟨kvs, .of hc⟩⟩
    | dit l =>
      obtain ⟨c, rfl, kvs, hc, _⟩ := ha
      exact ⟨c, rfl, .inr ⟨kvs, .of hc⟩⟩
end
section
variable {T : ExT} {X : Cx} {W : WX} {a b c : Expr} {pos apos cpos : Pos} {ma mb mc : Sm → Resm RVm}
theorem re_dnew (t : Bool) : PE X (.Dict [] [] pos) (rdE T X.K W (eDnew t)) := by
  cases t
  · exact PE.imp pe_dnewK fun σ H Q ⟨w, st, R, h⟩ p hp => EndE.gives R h (.dic hp)
  · exact PE.imp pe_dnewT fun σ H Q ⟨w, st, R, h⟩ p hp => EndE.gives R h (.dit hp)
theorem re_dget (hu : X.A.units + 1 < cLine) (ha : PE X a (rdE T X.K W ma)) (hb : PE X b (rdE T X.K W mb)) (hs : NoSl b) : PE X (.Subscript a b pos) (rdE T X.K W (eDget ma mb)) := by
  refine PE.imp (pe_dget hu ha hb hs) fun σ H Q ⟨w, st, R, h⟩ => ⟨w, st, R, (EndE.bind h).mono fun x H1 ⟨r1, st1, w1, P1, h1⟩ => ⟨w1, st1, P1.rel, (EndE.bind h1).mono fun y H2 ⟨r2, st2, w2, P2, h2⟩ => ?_⟩⟩
  split at h2
  · rename_i v e
    obtain ⟨u1, u2, e1, e2⟩ := dAt_some e
    obtain ⟨k, r, rfl, _, g, q⟩ := dAt_rel e1 e2 (look_rel P2.rel (P1.first P2) e1) (look_rel P2.rel P2.res e2) e
    rcases q with ⟨z, q, rfl, e4, rz⟩ | ⟨_, e4⟩
    · cases e4
      exact ⟨k, z, rfl, g, EndE.gives P2.rel h2 (.val rz)⟩
    · cases e4
  · exact h2.elim
theorem din_end {neg : Bool} {w w1 w2 : Wl} {σ : L2.St} {H H1 H2 : Hp} {st st1 st2 : Sm} {r1 r2 : RVm} {x y : V} {Q : VK} (P1 : PostE X.K w σ H st r1 st1 y H1 w1) (P2 : PostE X.K w1 σ H1 st1 r2 st2 x H2 w2)
    (h2 : EndE T X.K W w2 σ H2 st2 Q (match dAt (look r2 st2) (look r1 st2) with
      | some o => .ok (.val (.bl (o.isSome != neg))) st2
      | _ => .stuck)) : ∃ a o, x = .ref a ∧ DGet H2 a y o ∧ Q (.bl (o.isSome != neg)) H2 := by
  split at h2
  · rename_i o e
    obtain ⟨u1, u2, e1, e2⟩ := dAt_some e
    obtain ⟨k, r, rfl, _, g, q⟩ := dAt_rel e1 e2 (look_rel P2.rel P2.res e1) (look_rel P2.rel (P1.first P2) e2) e
    refine ⟨k, r, rfl, g, ?_⟩
    rcases q with ⟨z, q, rfl, rfl, rz⟩ | ⟨rfl, rfl⟩
    · exact EndE.gives P2.rel h2 (.val (.bl _))
    · exact EndE.gives P2.rel h2 (.val (.bl _))
  · exact h2.elim
theorem din_imp {σ : L2.St} {H : Hp} {Q : VK} (h : rdE T X.K W (eDin false mb ma) σ H Q) : tDIn (rdE T X.K W mb) (rdE T X.K W ma) σ H Q := by
  obtain ⟨w, st, R, h⟩ := h
  refine ⟨w, st, R, (EndE.bind h).mono fun y H1 ⟨r1, st1, w1, P1, h1⟩ => ⟨w1, st1, P1.rel, (EndE.bind h1).mono fun x H2 ⟨r2, st2, w2, P2, h2⟩ => ?_⟩⟩
  obtain ⟨k, o, e1, e2, e3⟩ := din_end P1 P2 h2
  exact ⟨k, o, e1, e2, by simpa using e3⟩
theorem dnin_imp {σ : L2.St} {H : Hp} {Q : VK} (h : rdE T X.K W (eDin true mb ma) σ H Q) : tDNotIn (rdE T X.K W mb) (rdE T X.K W ma) σ H Q := by
  obtain ⟨w, st, R, h⟩ := h
  refine ⟨w, st, R, (EndE.bind h).mono fun y H1 ⟨r1, st1, w1, P1, h1⟩ => ⟨w1, st1, P1.rel, (EndE.bind h1).mono fun x H2 ⟨r2, st2, w2, P2, h2⟩ => ?_⟩⟩
  obtain ⟨k, o, e1, e2, e3⟩ := din_end P1 P2 h2
  exact ⟨k, o, e1, e2, by simpa using e3⟩
theorem re_din (hu : X.A.units + 1 < cLine) (hb : PE X b (rdE T X.K W mb)) (ha : PE X a (rdE T X.K W ma)) (h1 : behindInMarks .In a = false) : PE X (.Compare b [.In] [a] pos) (rdE T X.K W (eDin false mb ma)) :=
  PE.imp (pe_cmp (pc_din hu hb ha) h1) fun σ H Q q => din_imp q
theorem re_dnin (hu : X.A.units + 1 < cLine) (hb : PE X b (rdE T X.K W mb)) (ha : PE X a (rdE T X.K W ma)) (h1 : behindInMarks .NotIn a = false) : PE X (.Compare b [.NotIn] [a] pos) (rdE T X.K W (eDin true mb ma)) :=
  PE.imp (pe_cmp (pc_dnotin hu hb ha) h1) fun σ H Q q => dnin_imp q
theorem re_dget2 (hu : X.A.units + 1 < cLine) (ha : PE X a (rdE T X.K W ma)) (hb : PE X b (rdE T X.K W mb)) (hc : PE X c (rdE T X.K W mc)) (m : M2 X a "get" apos b c cpos) : PE X (.Call (.Attribute a "get" apos) [b, c] [] cpos) (rdE T X.K W (eDget2 ma mb mc)) := by
  refine PE.imp (pe_dget2 hu ha hb hc m) fun σ H Q ⟨w, st, R, h⟩ => ⟨w, st, R, (EndE.bind h).mono fun x H1 ⟨r1, st1, w1, P1, h1⟩ => ?_⟩
  split at h1
  · rename_i hd
    cases el : look r1 st1 with
    | none => rw [el] at hd; cases hd
    | some u =>
      rw [el] at hd
      obtain ⟨k, rfl, isd⟩ := isDic_rel hd (look_rel P1.rel P1.res el)
      refine ⟨k, rfl, isd, w1, st1, P1.rel, (EndE.bind h1).mono fun y H2 ⟨r2, st2, w2, P2, h2⟩ => ⟨w2, st2, P2.rel, (EndE.bind h2).mono fun z H3 ⟨r3, st3, w3, P3, h3⟩ => ?_⟩⟩
      split at h3
      · rename_i o p e
        have x2 := (P2.ext.trans (fun _ h => .inl h) P3.ext).weak (G := fun _ => False) fun _ z => z.elim
        have s := RRel.stay P1 (P2.le.trans P3.le) x2 (fun a hz => (P1.apart x2 a hz).2)
        obtain ⟨u1, u2, e1, e2⟩ := dAt_some e
        obtain ⟨k2, r, ek, _, g, q⟩ := dAt_rel e1 e2 (look_rel P3.rel s e1) (look_rel P3.rel (P2.first P3) e2) e
        cases ek
        refine ⟨r, g, ?_⟩
        rcases q with ⟨z, q, rfl, rfl, rz⟩ | ⟨rfl, rfl⟩
        · exact EndE.gives P3.rel h3 (.val rz)
        · exact EndE.gives P3.rel h3 (.val P3.res)
      · exact h3.elim
  · exact h1.elim
end
end Mp

set_option Elab.async false
set_option linter.all false
set_option maxRecDepth 100000
set_option maxHeartbeats 1000000
/-! Mp13: the checker of expressions (the written expression against the small one); what it rests on. -/
namespace Mp
open PySem PySem.Spec PyProof.Rows L2

/-! ### a slot's object made one of the heap -/
section
variable {T : ExT} {K : PySem.W.Frag} {W : WX} {w : Wl} {σ : L2.St} {H : Hp} {st : Sm}
theorem Rel.escape {i : Nat} {o : MOm} (R : Rel K w σ H st) (h : st.env[i]? = some (.own o)) :
    ∃ a, σ[i]? = some (some (.ref a)) ∧ PostE K w σ H st (.val (.ref st.hp.length)) ⟨st.env.set i (.val (.ref st.hp.length)), st.hp ++ [o]⟩ (.ref a) H ⟨w.io ++ [a], w.S⟩ := by
  obtain ⟨a, e, m⟩ := R.obj i _ (.inl h)
  have hi : i < st.env.length := (List.getElem?_eq_some_iff.mp h).1
  have hown : OwnAt st.env σ i a := ⟨e, _, .inl h⟩
  have st0 : Stays w H H := ⟨fun _ _ h => h, fun _ _ _ h => h, fun _ _ _ h => h⟩
  have le : w.le ⟨w.io ++ [a], w.S⟩ := ⟨fun n x q => by
    show (w.io ++ [a])[n]? = some x
    rw [List.getElem?_append_left (List.getElem?_eq_some_iff.mp q).1]
    exact q, fun _ q => q⟩
  have hn : (w.io ++ [a])[st.hp.length]? = some a := by
    rw [← R.hl, List.getElem?_append_right (Nat.le_refl _)]
    simp
  have own' : ∀ j b, OwnAt (st.env.set i (.val (.ref st.hp.length))) σ j b → OwnAt st.env σ j b ∧ j ≠ i := fun j b ⟨h1, o', h2⟩ => by
    obtain ⟨ne, h2⟩ := set_own h2 fun o => ⟨(fun z => nomatch z), (fun z => nomatch z)⟩
    exact ⟨⟨h1, o', h2⟩, ne⟩
  have ft : ∀ b, Foot (st.env.set i (.val (.ref st.hp.length))) σ ⟨w.io ++ [a], w.S⟩ b → Foot st.env σ w b := fun b f => by
    rcases f with f | ⟨j, f⟩
    · rcases List.mem_append.mp f with f | f
      · exact .inl f
      · rw [List.mem_singleton] at f
        rw [f]
        exact .inr ⟨i, hown⟩
    · exact .inr ⟨j, (own' j b f).1⟩
  have rv : Rp K H ⟨w.io ++ [a], w.S⟩ (.ref a) (.ref st.hp.length) := .ref hn
  refine ⟨a, e, le, ⟨by simp [R.len], fun j p q => ?_, fun j o' q => ?_, by simp [R.hl], fun n b o' h1 h2 => ?_, ?_, fun j b f => ?_, fun j k b f g => R.inj j k b (own' j b f).1 (own' k b g).1, fun b f g => R.sS b f (ft b g), R.tS⟩, rv, Ext.refl.weak fun b z => z.elim (ft b) fun z => (by obtain ⟨⟨o, z⟩, _⟩ := z; cases z), fun b z => (by obtain ⟨⟨o, z⟩, _⟩ := z; cases z), by simp⟩
  · by_cases ej : j = i
    · subst ej
      have q : (st.env.set j (.val (.ref st.hp.length)))[j]? = some (.val p) := q
      rw [List.getElem?_set_self hi] at q
      cases q
      exact ⟨_, e, rv⟩
    · have q : (st.env.set i (.val (.ref st.hp.length)))[j]? = some (.val p) := q
      rw [List.getElem?_set_ne (Ne.symm ej)] at q
      obtain ⟨x, e2, r⟩ := R.val j p q
      exact ⟨x, e2, r.stay st0 le⟩
  · obtain ⟨_, q⟩ := set_own q fun o => ⟨(fun z => nomatch z), (fun z => nomatch z)⟩
    obtain ⟨b, e2, m⟩ := R.obj j o' q
    exact ⟨b, e2, m.stay st0 le rfl⟩
  · have h1 : (w.io ++ [a])[n]? = some b := h1
    have h2 : (st.hp ++ [o])[n]? = some o' := h2
    by_cases hlt : n < st.hp.length
    · rw [List.getElem?_append_left hlt] at h2
      rw [List.getElem?_append_left (by rw [R.hl]; exact hlt)] at h1
      exact (R.hob n b o' h1 h2).stay st0 le rfl
    · have hn2 : n < (st.hp ++ [o]).length := (List.getElem?_eq_some_iff.mp h2).1
      have : n = st.hp.length := by
        rw [List.length_append] at hn2
        have : n < st.hp.length + 1 := hn2
        omega
      subst this
      rw [hn] at h1
      cases h1
      rw [List.getElem?_append_right (Nat.le_refl _)] at h2
      have h2 : some o = some o' := by simpa using h2
      cases h2
      exact m.stay st0 le rfl
  · show (w.io ++ [a]).Nodup
    rw [List.nodup_append]
    exact ⟨R.nd, by simp, fun x hx y hy => by
      rw [List.mem_singleton] at hy
      rw [hy]
      exact fun z => R.nio i a hown (by rw [← z]; exact hx)⟩
  · intro z
    have z : b ∈ w.io ++ [a] := z
    obtain ⟨f, ne⟩ := own' j b f
    rcases List.mem_append.mp z with z | z
    · exact R.nio j b f z
    · rw [List.mem_singleton] at z
      rw [z] at f
      exact ne (R.inj j i a f hown)
theorem re_esc {X : Cx} {pos : Pos} {i : Nat} {x : Str} (hN : X.N[i]? = some x) (hv : Vis X.env.scope x) (hd : (x == ("__debug__" : Str)) = false) (hcd : (x == ("__classdict__" : Str)) = false) : PE X (.Name x pos) (rdE T X.K W (eEsc i)) := by
  refine PE.imp (pe_var hN hv hd hcd) fun σ H Q ⟨w, st, R, h⟩ => ?_
  unfold eEsc at h
  split at h
  · rename_i o hi
    obtain ⟨a, e, P⟩ := R.escape hi
    exact ⟨_, e, h _ _ _ P⟩
  · rename_i v hi
    obtain ⟨x, e, r⟩ := R.val i v hi
    exact ⟨x, e, EndE.gives R h (.val r)⟩
  · exact h.elim
end

/-! ### the checker -/
structure Ck where
  N : List Str
  sc : Scope
  fnB : Bool
  fsc : Scope
  fns : List (Str × List Str)
  kws : List (Nat × List Str × List Nat)
  gs : List (Str × PVm)
  lam : Option (List Nat)
/-- the keywords' names, their values -/
def kwN : List Keyword → Option (List Str)
  | [] => some []
  | ⟨some n, _, _⟩ :: r => (kwN r).map (n :: ·)
  | _ => none
def kwV : List Keyword → List Expr
  | [] => []
  | ⟨_, v, _⟩ :: r => v :: kwV r
def okN (x : Str) : Bool := !(x == ("__debug__" : Str)) && !(x == ("__classdict__" : Str)) && !decide (x = ("__name__" : Str))
def visB (sc : Scope) (x : Str) : Bool := match sc.names.lookup x with
  | some .local => true
  | some .cell => true
  | some .free => true
  | _ => false
def glB (sc : Scope) (x : Str) : Bool := match sc.names.lookup x with
  | some .globalImplicit => true
  | _ => false
/-- a name that is stored here: local, or a cell made at the entry -/
def locB (k : Ck) (x : Str) : Bool := match k.sc.names.lookup x with
  | some .local => true
  | some .cell => k.fnB || decide (k.fsc.names.lookup x = some .cell)
  | _ => false
def varB (k : Ck) (i : Nat) (x : Str) : Bool := decide (k.N[i]? = some x) && visB k.sc x && okN x
def sOkB (s : List Nat) : Bool := decide (s.length ≤ 16777216) && s.all fun c => decide (c < 1114112)
def cstB (k : Ck) (v : PVm) (e : Expr) : Bool :=
  match e with
  | .Constant .none _ _ => decide (v = .non)
  | .Constant (.bool b) _ _ => decide (v = .bl b)
  | .Constant (.int i) _ _ => decide (v = .int i)
  | .Constant (.str s) _ _ => (match v with
    | .str l => decide (s = ⟨l.toArray⟩) && sOkB l
    | _ => false)
  | .Name x _ => decide (k.gs.lookup x = some v) && glB k.sc x && okN x
  | _ => false
def opB : BOp → Operator → Bool
  | .add, .Add => true
  | .sub, .Sub => true
  | .mul, .Mult => true
  | .fdiv, .FloorDiv => true
  | .mod, .Mod => true
  | .pow, .Pow => true
  | _, _ => false
def cmpB : COp → CmpOp → Bool
  | .eq, .Eq => true
  | .ne, .NotEq => true
  | .lt, .Lt => true
  | .le, .LtE => true
  | .gt, .Gt => true
  | .ge, .GtE => true
  | .isin, .In => true
  | .notin, .NotIn => true
  | _, _ => false
def isB : COp → CmpOp → Bool
  | .isN, .Is => true
  | .notN, .IsNot => true
  | _, _ => false
def noneB : CE → Expr → Bool
  | .cst .non, .Constant .none _ _ => true
  | _, _ => false
def noneC : CE → Bool
  | .cst .non => true
  | _ => false
def trueC : CE → Bool
  | .cst (.bl true) => true
  | _ => false
def notSet : Expr → Bool
  | .Set _ _ _ => false
  | _ => true
def notSlice : Expr → Bool
  | .Slice _ _ _ _ => false
  | _ => true
def plainT : Expr → Bool
  | .UnaryOp .Not _ _ => false
  | .BoolOp _ _ _ => false
  | .IfExp _ _ _ _ => false
  | .Compare _ _ _ _ => false
  | _ => true
def plainO : Expr → Bool
  | .Call _ _ _ _ => false
  | _ => true
/-- built-ins by name -/
def biN : Bim → Str → Bool
  | .len, x => decide (x = "len")
  | .int, x => decide (x = "int")
  | .list, x => decide (x = "list")
  | .tuple, x => decide (x = "tuple")
  | .max2, x => decide (x = "max")
  | .min2, x => decide (x = "min")
  | .ord, x => decide (x = "ord")
  | .abs, x => decide (x = "abs")
  | .sum, x => decide (x = "sum")
  | .sorted, x => decide (x = "sorted")
  | _, _ => false
def meN : Mem → Str → Bool
  | .append, x => decide (x = "append")
  | .extend, x => decide (x = "extend")
  | .pop0, x => decide (x = "pop")
  | .join, x => decide (x = "join")
  | _, _ => false
def bltN : List Str := ["len", "int", "list", "tuple", "max", "min", "ord", "abs", "sum", "isinstance", "sorted", "range", "enumerate", "zip", "str", "bool", "dict"]
def CEs.len : CEs → Nat
  | .nil => 0
  | .cons _ es => es.len + 1
mutual
/-- the variables of a target, written -/
def ckG (k : Ck) : Tgtm → Expr → Bool
  | .v i, .Name x _ => decide (k.N[i]? = some x) && locB k x
  | .t ts, .Tuple es _ _ => ckGs k ts es
  | _, _ => false
def ckGs (k : Ck) : List Tgtm → List Expr → Bool
  | [], [] => true
  | t :: ts, e :: es => noStar e && ckG k t e && ckGs k ts es
  | _, _ => false
end
def isTupE : Expr → Bool
  | .Tuple _ _ _ => true
  | _ => false
/-- the block's checker -/
def Ck.blk (k : Ck) (scope : Scope) : Ck := { k with sc := relS scope k.sc, fnB := false, fsc := scope, lam := none }
/-- a lambda's one parameter -/
def lamArg : Arguments → Option Str
  | ⟨[], [a], none, [], [], none, []⟩ => some a.arg
  | _ => none
/-- the lambda's names: its parameter, and names of the module -/
def lamSc (y : Str) (sc : Scope) : Bool := decide (sc.kind = .function) && !sc.isCoroutine && !sc.isGenerator && decide (sc.names.lookup y = some .local) && sc.names.all fun q => !decide (q.2 = .free) && !decide (q.2 = .cell)
/-- (len(y), y) -/
def lenKey (y : Str) (sc : Scope) : Expr → Bool
  | .Tuple [.Call (.Name l _) [.Name a _] [] _, .Name b _] _ _ => decide (l = "len") && glB sc l && decide (a = y) && decide (b = y) && okN y
  | _ => false
def ownOf (k : Ck) (w : List Nat) : List (Str × Nat) := w.map fun i => ((k.N[i]?).getD ("" : Str), i)
mutual
/-- m: as a test -/
def ck : CE → Ck → Bool → Expr → Bool
  | .var i, k, m, e => (match e with
    | .Name x _ => varB k i x
    | _ => false)
  | .cst v, k, m, e => cstB k v e
  | .esc i, k, m, e => (match e with
    | .Name x _ => varB k i x
    | _ => false)
  | .tup cs, k, m, e => (match e with
    | .Tuple es _ _ => cks cs k es && decide (cs.len ≤ 1000)
    | _ => false)
  | .lst cs, k, m, e => (match e with
    | .List es _ => cks cs k es && decide (cs.len ≤ 1000)
    | _ => false)
  | .bin op a b, k, m, e => (match e with
    | .BinOp x o y _ => opB op o && ck a k false x && ck b k false y
    | _ => false)
  | .neg a, k, m, e => (match e with
    | .UnaryOp .USub x _ => ck a k false x
    | _ => false)
  | .cmp op a b, k, m, e => (match e with
    | .Compare x [o] [y] _ => ck a k false x && ((cmpB op o && notSet y && ck b k false y) || (isB op o && noneB b y))
    | _ => false)
  | .chain o1 o2 a b c, k, m, e => (match e with
    | .Compare x [p1, p2] [y, z] _ => cmpB o1 p1 && cmpB o2 p2 && notSet z && ck a k false x && ck b k false y && ck c k false z
    | _ => false)
  | .and a b, k, m, e => (match e with
    | .BoolOp .And [x, y] _ => ck a k m x && ck b k m y
    | .BoolOp .And (x :: y :: z :: r) p => ck a k m x && ck b k m (.BoolOp .And (y :: z :: r) p)
    | _ => false)
  | .or a b, k, m, e => (match e with
    | .BoolOp .Or [x, y] _ => ck a k m x && ck b k m y
    | .BoolOp .Or (x :: y :: z :: r) p => ck a k m x && ck b k m (.BoolOp .Or (y :: z :: r) p)
    | _ => false)
  | .not a, k, m, e => (match e with
    | .UnaryOp .Not x _ => ck a k m x
    | _ => false)
  | .ite c a b, k, m, e => (match e with
    | .IfExp x y z _ => !m && ck c k true x && ck a k false y && ck b k false z
    | _ => false)
  | .idx a i, k, m, e => (match e with
    | .Subscript x y _ => notSlice y && ck a k false x && ck i k false y
    | _ => false)
  | .slc a lo hi, k, m, e => (match e with
    | .Subscript x (.Slice l h none _) _ => ck a k false x && (match l with
        | none => noneC lo
        | some l => ck lo k false l) && (match h with
        | none => noneC hi
        | some h => ck hi k false h)
    | _ => false)
  | .rev a, k, m, e => (match e with
    | .Subscript x (.Slice none none (some (.UnaryOp .USub (.Constant (.int 1) _ _) _)) _) _ => ck a k false x
    | _ => false)
  | .call f cs p, k, m, e => (match e with
    | .Call (.Name x _) (e0 :: es) [] _ => (match k.fns[f]? with
      | some (y, ps) => decide (x = y) && decide (ps.length = cs.len) && decide (p = List.range cs.len) && glB k.sc x && okN x && cks cs k (e0 :: es)
      | none => false)
    | .Call (.Name x _) [] [] _ => (match k.fns[f]? with
      | some (y, ps) => decide (x = y) && decide (ps.length = 0) && decide (cs.len = 0) && decide (p = []) && glB k.sc x && okN x
      | none => false)
    | .Call (.Name x _) [] (w0 :: ws) _ => (match k.fns[f]?, kwN (w0 :: ws) with
      | some (y, ps), some ks => decide (x = y) && decide ((f, ks, p) ∈ k.kws) && glB k.sc x && okN x && cks cs k (kwV (w0 :: ws))
      | _, _ => false)
    | _ => false)
  | .bi b cs, k, m, e => (match b with
    | .isi t => (match e with
      | .Call (.Name x _) [y, .Name z _] [] _ => decide (x = "isinstance") && decide (z = Str.ofString (tyStr t)) && decide (t ≠ .non) && glB k.sc x && glB k.sc z && cks cs k [y]
      | _ => false)
    | b => (match e with
      | .Call (.Name x _) (e0 :: es) [] _ => biN b x && glB k.sc x && cks cs k (e0 :: es)
      | _ => false))
  | .meth mm r cs, k, m, e => (match e with
    | .Call (.Attribute o x ap) [] [] cp => (match mm, cs with
      | .pop, .nil => decide (x = "pop") && plainO o && decide (ap.endLine = cp.line) && ck r k false o
      | _, _ => false)
    | .Call (.Attribute o x ap) [y] [] cp => meN mm x && plainO o && decide (ap.endLine = cp.line) && ck r k false o && cks cs k [y]
    | _ => false)
  | .comp el t it c w, k, m, e => (match e with
    | .ListComp elt [⟨tg, iter, ifs, 0⟩] scope _ => blkC k.N k.sc scope (ownOf k w) && (t.vars.all fun i => w.contains i) && notSet iter && ckI it k (isTupE tg) iter && ckG (k.blk scope) t tg && ck el (k.blk scope) false elt && (match ifs with
        | [] => trueC c
        | [x] => ck c (k.blk scope) true x
        | _ => false)
    | _ => false)
  | .excf i f, k, m, e => false
  | .dnew t, k, m, e => (match e with
    | .Dict [] [] _ => true
    | _ => false)
  | .dget d kk, k, m, e => (match e with
    | .Subscript x y _ => notSlice y && ck d k false x && ck kk k false y
    | _ => false)
  | .din neg kk d, k, m, e => (match e with
    | .Compare y [.In] [x] _ => !neg && notSet x && ck d k false x && ck kk k false y
    | .Compare y [.NotIn] [x] _ => neg && notSet x && ck d k false x && ck kk k false y
    | _ => false)
  | .srt t n a, k, m, e => (match e with
    | .Call (.Name x _) [e0] [⟨some kn, .Lambda ps bd scp _, _⟩] _ => (match lamArg ps with
      | some y => decide (x = "sorted") && decide (kn = Str.ofString "key") && decide (k.lam = some n) && glB k.sc x && noStar e0 && ck a k false e0 && lamSc y scp && lenKey y scp bd
      | none => false)
    | _ => false)
  | .dget2 d kk z, k, m, e => (match e with
    | .Call (.Attribute o x ap) [y, w] [] cp => decide (x = "get") && plainO o && decide (ap.endLine = cp.line) && noStar y && noStar w && ck d k false o && ck kk k false y && ck z k false w
    | _ => false)
def cks : CEs → Ck → List Expr → Bool
  | .nil, k, es => (match es with
    | [] => true
    | _ => false)
  | .cons c cs, k, es => (match es with
    | e :: es => noStar e && ck c k false e && cks cs k es
    | _ => false)
def ckI : CI → Ck → Bool → Expr → Bool
  | .seq c, k, tt, e => ck c k false e
  | .rng cs, k, tt, e => (match e with
    | .Call (.Name x _) [a] [] _ => decide (x = "range") && glB k.sc x && cks cs k [a]
    | .Call (.Name x _) [a, b] [] _ => decide (x = "range") && glB k.sc x && cks cs k [a, b]
    | _ => false)
  | .enum cs, k, tt, e => (match e with
    | .Call (.Name x _) [a] [] _ => tt && decide (x = "enumerate") && glB k.sc x && cks cs k [a]
    | _ => false)
  | .zip cs, k, tt, e => (match e with
    | .Call (.Name x _) [a, b] [] _ => tt && decide (x = "zip") && glB k.sc x && cks cs k [a, b]
    | _ => false)
end

/-! ### what it rests on -/
structure Tab (T : ExT) (C : CallEnv) (fns : List (Str × List Str)) (kws : List (Nat × List Str × List Nat)) (gs : List (Str × PVm)) (k : Nat) (P : Program) (w : World) (K : PySem.W.Frag) (mg : Str → Option Value) (base : Heap) : Prop where
  blt : ∀ x ∈ bltN, mg x = none
  fns : ∀ (j : Nat) (x : Str) (ps : List Str), fns[j]? = some (x, ps) → ∃ f fd, mg x = some (.ref f) ∧ PySem.W.keepIn K (.ref f) = true ∧ Binds K fd ps [] ∧ FnOk P w K mg base (L2.CX P w) k f fd ps (spI T K C j ps.length) ∧
    ∀ ks p, (j, ks, p) ∈ kws → p.Nodup ∧ p.length = ps.length ∧ ∀ (s : Shared) (ws zs : List Value), K.In s.heap → ws.length = ks.length → permL p ws = some zs → BindsTo s fd ⟨[], ks.zip ws⟩ (ps.zip zs)
  ret : ∀ j ss hp r fin hp', C j ss hp = .ok r fin hp' → ∀ i, r ≠ .at i
  gs : ∀ (x : Str) (p : PVm), gs.lookup x = some p → ∃ v u, mg x = some u ∧ RelV v u ∧ ∀ w H, Rp K H w v p
structure XOk (T : ExT) (C : CallEnv) (k : Ck) (n : Nat) (X : Cx) (W : WX) : Prop where
  N : X.N = k.N
  nd : k.N.Nodup
  sc : X.env.scope = k.sc
  fn : ∀ x, (k.fnB || decide (k.fsc.names.lookup x = some .cell)) = true → X.fn x = true
  calm : X.calm = true
  tk : L2.Takes X W
  room : Room n X.A
  tab : Tab T C k.fns k.kws k.gs n X.prog X.w X.K X.mg X.base
  lam : ∀ q, k.lam = some q → 2 ≤ n ∧ ∃ c P, X.env.code = .ref c ∧ X.env.qual ++ "<lambda>" = lamQ q ∧ LamX.TabB X.base X.mg c P ∧ tabA X.K q = some P
section
variable {T : ExT} {C : CallEnv} {k : Ck} {n : Nat} {X : Cx} {W : WX}
theorem XOk.blk (h : XOk T C k n X W) (s : Shared) (H : Hp) (scope : Scope) (D : Addr) (cl : List (Str × Addr)) (fp : List Addr) : XOk T C (k.blk scope) n (X.blk s H scope (compEnvC scope cl D X.env) fp) (fun _ _ _ _ => False) := by
  refine ⟨h.N, h.nd, ?_, fun x e => ?_, h.calm, takes0, h.room, h.tab, fun q z => nomatch z⟩
  · show relS scope X.env.scope = relS scope k.sc
    rw [h.sc]
  · have e : decide (scope.names.lookup x = some .cell) = true := e
    show (scope.names.lookup x == some .cell) = true
    rw [of_decide_eq_true e]
    rfl
theorem XOk.gl (h : XOk T C k n X W) {x : Str} (e : glB k.sc x = true) : Gl X x := by
  show X.env.scope.names.lookup x = some .globalImplicit
  rw [h.sc]
  unfold glB at e
  split at e
  · assumption
  · cases e
theorem XOk.vis (h : XOk T C k n X W) {x : Str} (e : visB k.sc x = true) : Vis X.env.scope x := by
  rw [h.sc]
  unfold visB at e
  split at e
  · rename_i q; exact .inl q
  · rename_i q; exact .inr (.inl q)
  · rename_i q; exact .inr (.inr q)
  · cases e
theorem XOk.loc (h : XOk T C k n X W) {x : Str} (e : locB k x = true) : Loc X.env.scope x ∧ (X.fn x = true ∨ X.env.scope.names.lookup x = some .local) := by
  rw [h.sc]
  unfold locB at e
  split at e
  · rename_i q; exact ⟨.inl q, .inr q⟩
  · rename_i q; exact ⟨.inr q, .inl (h.fn x e)⟩
  · cases e
theorem okN_1 {x : Str} (h : okN x = true) : (x == ("__debug__" : Str)) = false ∧ (x == ("__classdict__" : Str)) = false ∧ x ≠ "__name__" := by
  unfold okN at h
  simp only [Bool.and_eq_true, Bool.not_eq_true', decide_eq_false_iff_not] at h
  exact ⟨h.1.1, h.1.2, h.2⟩
theorem XOk.mg (h : XOk T C k n X W) {x : Str} (e : x ∈ bltN) : X.mg x = none := h.tab.blt x e

/-! ### targets -/
theorem pg_imp {X : Cx} {e : Expr} {t t' : TG} (h : PG X e t) (i : ∀ v σ H Q, t' v σ H Q → t v σ H Q) : PG X e t' := ⟨fun pins s σ H v u Q I r q => h.run pins s σ H v u Q I r (i v σ H Q q)⟩
theorem pgs_imp {X : Cx} {e : List Expr} {t t' : TGs} (h : PGs X e t) (i : ∀ v σ H Q, t' v σ H Q → t v σ H Q) : PGs X e t' := ⟨fun pins s σ H v u Q I r q => h.run pins s σ H v u Q I r (i v σ H Q q)⟩
theorem ae_cons {e : Expr} (h : noStar e = true) (es : List Expr) (env : Env) : assignEach (e :: es) env = (false, assign e env) :: assignEach es env := by
  cases e <;> first | rfl | cases h
theorem ae_len {env : Env} : ∀ {es : List Expr}, es.all noStar = true → (assignEach es env).length = es.length ∧ (assignEach es env).findIdx? (·.1) = none
  | [], _ => ⟨rfl, rfl⟩
  | e :: es, h => by
    rw [List.all_cons, Bool.and_eq_true] at h
    rw [ae_cons h.1]
    obtain ⟨h1, h2⟩ := ae_len (env := env) h.2
    refine ⟨by simp [h1], ?_⟩
    rw [List.findIdx?_cons, h2]
    rfl
mutual
theorem sG (h : XOk T C k n X W) : ∀ (t : Tgtm) (e : Expr), ckG k t e = true → PG X e (rdG X.K t)
  | .v i, e, c => by
    cases e <;> first | (cases c; done) | skip
    rename_i x pos
    have c : (decide (k.N[i]? = some x) && locB k x) = true := c
    rw [Bool.and_eq_true] at c
    obtain ⟨l1, l2⟩ := h.loc c.2
    exact pg_imp (pg_name (by rw [h.N]; exact h.nd) (by rw [h.N]; exact of_decide_eq_true c.1) l1 l2) fun v σ H Q q => gd_name q
  | .t ts, e, c => by
    cases e <;> first | (cases c; done) | skip
    rename_i es kk pos
    have c : ckGs k ts es = true := c
    obtain ⟨p, a, l⟩ := sGs h ts es c
    obtain ⟨l1, l2⟩ := ae_len (env := X.env) a
    refine pg_imp (pg_tup h.calm p (l1.trans l) l2) fun v σ H Q ⟨w, st, p, st', R, r, e, q⟩ => ?_
    unfold bindT at e
    split at e
    · obtain ⟨b, vs, rfl, hq, rl⟩ := VRel.tup_inv r
      refine ⟨b, vs, rfl, tuT hq, ?_, w, st, _, st', R, rl, e, fun σ' B => q σ' (by unfold Tgtm.vars; exact B)⟩
      rw [rl.length]
      have : ∀ (ts : List Tgtm) (l : List PVm) (st st' : Sm), bindTs ts l st = some st' → l.length = ts.length := by
        intro ts
        induction ts with
        | nil => intro l st st' e; cases l <;> first | rfl | cases e
        | cons t ts ih =>
          intro l st st' e
          cases l with
          | nil => cases e
          | cons p l =>
            unfold bindTs at e
            split at e
            · rw [List.length_cons, List.length_cons, ih _ _ _ e]
            · cases e
      exact this _ _ _ _ e
    · cases e
theorem sGs (h : XOk T C k n X W) : ∀ (ts : List Tgtm) (es : List Expr), ckGs k ts es = true → PGs X es (rdGs X.K ts) ∧ es.all noStar = true ∧ es.length = ts.length
  | [], es, c => by
    cases es with
    | nil => exact ⟨pgs_imp pgs_nil fun v σ H Q q => gd_nil q, rfl, rfl⟩
    | cons e es => cases c
  | t :: ts, es, c => by
    cases es with
    | nil => cases c
    | cons e es =>
      have c : (noStar e && ckG k t e && ckGs k ts es) = true := c
      rw [Bool.and_eq_true, Bool.and_eq_true] at c
      obtain ⟨p, a, l⟩ := sGs h ts es c.2
      refine ⟨pgs_imp (pgs_cons (sG h t e c.1.2) p (by rw [ae_cons c.1.1]; rfl)) fun v σ H Q q => gd_cons q, by rw [List.all_cons, c.1.1, a]; rfl, by simp [l]⟩
end
end
end Mp

set_option Elab.async false
set_option linter.all false
set_option maxRecDepth 100000
set_option maxHeartbeats 2000000
/-! Mp14: the checker's expressions are sound. -/
namespace Mp
open PySem PySem.Spec PyProof.Rows L2
section
variable {T : ExT} {C : CallEnv} {W : WX} {X : Cx} {pos : Pos}
/-- what a checked expression gives -/
def SE (T : ExT) (C : CallEnv) (c : CE) : Prop := ∀ (n : Nat) (k : Ck) (X : Cx) (W : WX) (e : Expr), XOk T C k n X W →
  (ck c k false e = true → PE X e (rdE T X.K W (evP C c).1)) ∧ (ck c k true e = true → PT X e (rdT T X.K W (evP C c).2))
def SEs (T : ExT) (C : CallEnv) (cs : CEs) : Prop := ∀ (n : Nat) (k : Ck) (X : Cx) (W : WX) (es : List Expr), XOk T C k n X W → cks cs k es = true → PA X es (rdAn T X.K W cs.len (evs C cs)) ∧ es.all noStar = true ∧ es.length = cs.len
def SI (T : ExT) (C : CallEnv) (c : CI) : Prop := ∀ (n : Nat) (k : Ck) (X : Cx) (W : WX) (tg e : Expr), XOk T C k n X W → ckI c k (isTupE tg) e = true → PI X tg e (rdI T X.K W (evI C c))
theorem plainT_ok {e : Expr} (h : plainT e = true) (env : Env) : ∀ whole, isTrue e env whole = (do let v ← whole; standAt e.pos; holding [v] (truthy v)) := by
  cases e <;> first | (intro _; rfl) | (cases h; done) | skip
  rename_i op a p
  cases op <;> first | (intro _; rfl) | (cases h; done)
/-- a value's reading as a test -/
theorem tst_of {m : Sm → Resm RVm} {e : Expr} (h : PE X e (rdE T X.K W m)) (p : plainT e = true) : PT X e (rdT T X.K W (tst m)) := rt_val h (plainT_ok p _)
theorem SE.of {c : CE} (m : Sm → Resm RVm) (hm : evP C c = pl m) (hk : ∀ k e, ck c k true e = ck c k false e) (hp : ∀ k e, ck c k false e = true → plainT e = true)
    (h : ∀ (n : Nat) (k : Ck) (X : Cx) (W : WX) (e : Expr), XOk T C k n X W → ck c k false e = true → PE X e (rdE T X.K W m)) : SE T C c := by
  intro n k X W e x
  rw [hm]
  refine ⟨h n k X W e x, fun q => ?_⟩
  rw [hk] at q
  exact tst_of (h n k X W e x q) (hp k e q)
theorem bool_whole (op : BoolOp) (vs : List Expr) (p : Pos) (env : Env) (a b : Sem Value) : isTrue (.BoolOp op vs p) env a = isTrue (.BoolOp op vs p) env b := by
  rw [PySem.isTrue, PySem.isTrue]
theorem PT.pw {op : BoolOp} {vs : List Expr} {p : Pos} {t : TT} (h : PT X (.BoolOp op vs p) t) : PW X (.BoolOp op vs p) t := ⟨fun wh pins s σ H Q I q => by
  rw [bool_whole op vs p X.env wh (eval (.BoolOp op vs p) X.env)]
  exact h.run pins s σ H Q I q⟩

theorem se_var (i : Nat) : SE T C (.var i) := by
  refine SE.of (eVar i) rfl (fun _ _ => rfl) (fun k e h => ?_) fun n k X W e x h => ?_
  · cases e <;> first | rfl | cases h
  · cases e <;> first | (cases h; done) | skip
    rename_i y p
    have h : varB k i y = true := h
    unfold varB at h
    simp only [Bool.and_eq_true, decide_eq_true_eq] at h
    obtain ⟨⟨h1, h2⟩, h3⟩ := h
    obtain ⟨o1, o2, _⟩ := okN_1 h3
    exact re_var (by rw [x.N]; exact h1) (x.vis h2) o1 o2
theorem se_esc (i : Nat) : SE T C (.esc i) := by
  refine SE.of (eEsc i) rfl (fun _ _ => rfl) (fun k e h => ?_) fun n k X W e x h => ?_
  · cases e <;> first | rfl | cases h
  · cases e <;> first | (cases h; done) | skip
    rename_i y p
    have h : varB k i y = true := h
    unfold varB at h
    simp only [Bool.and_eq_true, decide_eq_true_eq] at h
    obtain ⟨⟨h1, h2⟩, h3⟩ := h
    obtain ⟨o1, o2, _⟩ := okN_1 h3
    exact re_esc (by rw [x.N]; exact h1) (x.vis h2) o1 o2
theorem sOk_by {l : List Nat} (h : sOkB l = true) : sOk l := by
  unfold sOkB at h
  simp only [Bool.and_eq_true, decide_eq_true_eq, List.all_eq_true] at h
  exact h
theorem cst_ok {n : Nat} {k : Ck} {v : PVm} {e : Expr} (x : XOk T C k n X W) (h : cstB k v e = true) : PE X e (rdE T X.K W fun st => .ok (.val v) st) := by
  unfold cstB at h
  split at h
  · cases of_decide_eq_true h; exact re_val pe_non fun _ _ => .non
  · cases of_decide_eq_true h; exact re_val pe_bl fun _ _ => .bl _
  · cases of_decide_eq_true h; exact re_val pe_int fun _ _ => .int _
  · split at h
    · rw [Bool.and_eq_true, decide_eq_true_eq] at h
      obtain ⟨rfl, h2⟩ := h
      exact re_val pe_str fun _ _ => .str _ (sOk_by h2)
    · cases h
  · simp only [Bool.and_eq_true, decide_eq_true_eq] at h
    obtain ⟨⟨h1, h2⟩, h3⟩ := h
    obtain ⟨v, u, g1, g2, g3⟩ := x.tab.gs _ _ h1
    exact re_val (pe_glob (x.gl h2) g1 g2 (okN_1 h3).1) g3
  · cases h
theorem se_cst (v : PVm) : SE T C (.cst v) := by
  refine SE.of (fun st => .ok (.val v) st) rfl (fun _ _ => rfl) (fun k e h => ?_) fun n k X W e x h => cst_ok x h
  cases e <;> first | rfl | cases h
theorem se_tup {cs : CEs} (hs : SEs T C cs) : SE T C (.tup cs) := by
  refine SE.of (eTup (evs C cs)) rfl (fun _ _ => rfl) (fun k e h => ?_) fun n k X W e x h => ?_
  · cases e <;> first | rfl | cases h
  · cases e <;> first | (cases h; done) | skip
    rename_i es kk p
    have h : (cks cs k es && decide (cs.len ≤ 1000)) = true := h
    rw [Bool.and_eq_true, decide_eq_true_eq] at h
    exact re_tup (by omega) (hs n k X W es x h.1).1
theorem se_lst {cs : CEs} (hs : SEs T C cs) : SE T C (.lst cs) := by
  refine SE.of (eLst (evs C cs)) rfl (fun _ _ => rfl) (fun k e h => ?_) fun n k X W e x h => ?_
  · cases e <;> first | rfl | cases h
  · cases e <;> first | (cases h; done) | skip
    rename_i es p
    have h : (cks cs k es && decide (cs.len ≤ 1000)) = true := h
    rw [Bool.and_eq_true, decide_eq_true_eq] at h
    exact re_lst (by omega) (hs n k X W es x h.1).1
theorem se_bin {op : BOp} {a b : CE} (ha : SE T C a) (hb : SE T C b) : SE T C (.bin op a b) := by
  refine SE.of (eBin op (evP C a).1 (evP C b).1) rfl (fun _ _ => rfl) (fun k e h => ?_) fun n k X W e x h => ?_
  · cases e <;> first | rfl | cases h
  · cases e <;> first | (cases h; done) | skip
    rename_i y o z p
    have h : (opB op o && ck a k false y && ck b k false z) = true := h
    simp only [Bool.and_eq_true] at h
    obtain ⟨⟨h1, h2⟩, h3⟩ := h
    have pa := (ha n k X W y x).1 h2
    have pb := (hb n k X W z x).1 h3
    cases op <;> cases o <;> first | (cases h1; done) | skip
    · exact re_bin ob_add pa pb
    · exact re_bin ob_sub pa pb
    · exact re_bin ob_mul pa pb
    · exact re_bin ob_fdiv pa pb
    · exact re_bin ob_mod pa pb
    · exact re_bin ob_pow pa pb
theorem se_neg {a : CE} (ha : SE T C a) : SE T C (.neg a) := by
  refine SE.of (eNeg (evP C a).1) rfl (fun _ _ => rfl) (fun k e h => ?_) fun n k X W e x h => ?_
  · cases e <;> first | rfl | (cases h; done) | skip
    rename_i op y p
    cases op <;> first | rfl | cases h
  · cases e <;> first | (cases h; done) | skip
    rename_i op y p
    cases op <;> first | (cases h; done) | skip
    exact re_neg ((ha n k X W y x).1 h)
theorem oc_of {op : COp} {o : CmpOp} (h : cmpB op o = true) (r : Room n X.A) : OpR X (compareOp o) (rCmp X.K (cmpV op)) := by
  have hu : X.A.units + 64 < cLine := r.units
  have hu2 : X.A.units + 65 < cLine := by have := r.un; omega
  cases op <;> cases o <;> first | (cases h; done) | skip
  · exact oc_eq hu
  · exact oc_ne hu
  · exact oc_lt
  · exact oc_le
  · exact oc_gt
  · exact oc_ge
  · exact oc_in hu2
  · exact oc_notin hu2
theorem nob {b : Expr} (h : notSet b = true) (op : CmpOp) : behindInMarks op b = false := by
  cases b <;> first | rfl | cases h
/-- is None -/
theorem is_imp {op : COp} {a b : Expr} {ma : Sm → Resm RVm} {σ : L2.St} {H : Hp} {Q : VK} {K : PySem.W.Frag} (h : rdE T K W (eCmp op ma fun st => .ok (.val .non) st) σ H Q) :
    tOp (fun x y H Q => y = .non ∧ rCmp K (cmpV op) x y H Q) (rdE T K W ma) (tC .non) σ H Q := by
  obtain ⟨w, st, R, h⟩ := h
  refine ⟨w, st, R, h.bind.mono fun x H1 ⟨r1, st1, w1, P1, h1⟩ => ?_⟩
  refine ⟨rfl, ?_⟩
  simp only [Resm.bind_ok] at h1
  split at h1
  · rename_i u v e1 e2
    split at h1
    · rename_i k e3
      exact ⟨w1, u, v, k, look_rel P1.rel P1.res e1, look_rel P1.rel (show RRel K w1 σ H1 .non (.val .non) from Rp.non) e2, e3, EndE.gives P1.rel h1 (.val (.bl k))⟩
    · exact h1.elim
  · exact h1.elim
theorem is_impT {op : COp} {ma : Sm → Resm RVm} {σ : L2.St} {H : Hp} {Q : Bool → Hp → Prop} {K : PySem.W.Frag} (h : rdT T K W (tst (eCmp op ma fun st => .ok (.val .non) st)) σ H Q) :
    tTest (tOp (fun x y H Q => y = .non ∧ rCmp K (cmpV op) x y H Q) (rdE T K W ma) (tC .non)) σ H Q := by
  obtain ⟨w, st, R, h⟩ := h
  have h : EndT T K W w σ H st Q ((ma st).bind fun x st => match look x st with
      | some u => (match cmpV op u (.p .non) with
        | some k => .ok k st
        | none => .stuck)
      | _ => .stuck) := by
    unfold tst eCmp at h
    cases q : ma st with
    | stuck => rw [q] at h; exact h
    | err x s => rw [q] at h; exact h
    | ok r s =>
      rw [q] at h
      simp only [Resm.bind_ok] at h ⊢
      have e : look (.val .non) s = some (.p .non) := rfl
      rw [e] at h
      cases q2 : look r s with
      | none => rw [q2] at h; exact h.elim
      | some u =>
        rw [q2] at h
        simp only at h ⊢
        cases q3 : cmpV op u (.p .non) with
        | none => rw [q3] at h; exact h.elim
        | some kk => rw [q3] at h; simp_all [look, truth]
  refine ⟨w, st, R, (EndE.bindT h).mono fun x H1 ⟨r1, st1, w1, P1, h1⟩ => ⟨rfl, ?_⟩⟩
  split at h1
  · rename_i u e1
    split at h1
    · rename_i k e3
      exact ⟨w1, u, .p .non, k, look_rel P1.rel P1.res e1, Rp.non, e3, k, rfl, h1 _ _ (.refl P1.rel)⟩
    · exact h1.elim
  · exact h1.elim
theorem noneB_ok {b : CE} {e : Expr} (h : noneB b e = true) : (evP C b).1 = (fun st => .ok (.val .non) st) ∧ ∃ j p, e = .Constant .none j p := by
  unfold noneB at h
  split at h
  · exact ⟨rfl, _, _, rfl⟩
  · cases h
theorem se_cmp {op : COp} {a b : CE} (ha : SE T C a) (hb : SE T C b) : SE T C (.cmp op a b) := by
  intro n k X W e x
  have shape : ∀ m, ck (.cmp op a b) k m e = true → ∃ y o z p, e = .Compare y [o] [z] p ∧ ck a k false y = true ∧ ((cmpB op o = true ∧ notSet z = true ∧ ck b k false z = true) ∨ (isB op o = true ∧ noneB b z = true)) := fun m h => by
    cases e <;> first | (cases h; done) | skip
    rename_i y os zs p
    match os, zs, h with
    | [o], [z], h =>
      have h : (ck a k false y && ((cmpB op o && notSet z && ck b k false z) || (isB op o && noneB b z))) = true := h
      simp only [Bool.and_eq_true, Bool.or_eq_true] at h
      exact ⟨y, o, z, p, rfl, h.1, h.2.imp (fun h => ⟨h.1.1, h.1.2, h.2⟩) id⟩
    | [], _, h => cases h
    | _ :: _ :: _, _, h => cases h
    | [_], [], h => cases h
    | [_], _ :: _ :: _, h => cases h
  refine ⟨fun h => ?_, fun h => ?_⟩
  · obtain ⟨y, o, z, p, rfl, h1, h2⟩ := shape _ h
    rcases h2 with ⟨h2, h3, h4⟩ | ⟨h2, h3⟩
    · exact re_cmp (oc_of h2 x.room) (nob h3 o) ((ha n k X W y x).1 h1) ((hb n k X W z x).1 h4)
    · obtain ⟨e1, j, p, rfl⟩ := noneB_ok (C := C) h3
      show PE X _ (rdE T X.K W (eCmp op (evP C a).1 (evP C b).1))
      rw [e1]
      cases op <;> cases o <;> first
        | (cases h2; done)
        | exact PE.imp (pe_cmpR oc_isN ((ha n k X W y x).1 h1) pe_non rfl) fun σ H Q q => is_imp (a := y) (b := y) q
        | exact PE.imp (pe_cmpR oc_notN ((ha n k X W y x).1 h1) pe_non rfl) fun σ H Q q => is_imp (a := y) (b := y) q
  · obtain ⟨y, o, z, p, rfl, h1, h2⟩ := shape _ h
    rcases h2 with ⟨h2, h3, h4⟩ | ⟨h2, h3⟩
    · exact rt_cmp (oc_of h2 x.room) (nob h3 o) ((ha n k X W y x).1 h1) ((hb n k X W z x).1 h4)
    · obtain ⟨e1, j, p, rfl⟩ := noneB_ok (C := C) h3
      show PT X _ (rdT T X.K W (tst (eCmp op (evP C a).1 (evP C b).1)))
      rw [e1]
      cases op <;> cases o <;> first
        | (cases h2; done)
        | exact PT.imp (pt_cmpR oc_isN ((ha n k X W y x).1 h1) pe_non rfl) fun σ H Q q => is_impT q
        | exact PT.imp (pt_cmpR oc_notN ((ha n k X W y x).1 h1) pe_non rfl) fun σ H Q q => is_impT q
theorem chain_imp {o1 o2 : COp} {ma mb mc : Sm → Resm RVm} {σ : L2.St} {H : Hp} {Q : VK} {K : PySem.W.Frag} (h : rdE T K W (eChain o1 o2 ma mb mc) σ H Q) : tChain (rCmp K (cmpV o1)) (rCmp K (cmpV o2)) (rdE T K W ma) (rdE T K W mb) (rdE T K W mc) σ H Q := by
  obtain ⟨w, st, R, h⟩ := h
  refine ⟨w, st, R, h.bind.mono fun x H1 ⟨r1, st1, w1, P1, h1⟩ => ⟨w1, st1, P1.rel, h1.bind.mono fun y H2 ⟨r2, st2, w2, P2, h2⟩ => ?_⟩⟩
  split at h2
  · rename_i u v e1 e2
    split at h2
    · rename_i e3
      refine ⟨w2, u, v, true, look_rel P2.rel (P1.first P2) e1, look_rel P2.rel P2.res e2, e3, true, rfl, ?_⟩
      rw [if_pos rfl]
      refine ⟨w2, st2, P2.rel, h2.bind.mono fun z H3 ⟨r3, st3, w3, P3, h3⟩ => ?_⟩
      split at h3
      · rename_i v' w' e4 e5
        split at h3
        · rename_i k e6
          exact ⟨w3, v', w', k, look_rel P3.rel (P2.first P3) e4, look_rel P3.rel P3.res e5, e6, EndE.gives P3.rel h3 (.val (.bl k))⟩
        · exact h3.elim
      · exact h3.elim
    · rename_i e3
      refine ⟨w2, u, v, false, look_rel P2.rel (P1.first P2) e1, look_rel P2.rel P2.res e2, e3, false, rfl, ?_⟩
      rw [if_neg Bool.false_ne_true]
      exact EndE.gives P2.rel h2 (.val (.bl false))
    · exact h2.elim
  · exact h2.elim
theorem bind_ok_inv {α β : Type} {m : Resm α} {f : α → Sm → Resm β} {r : β} {s : Sm} (h : m.bind f = .ok r s) : ∃ x s1, m = .ok x s1 ∧ f x s1 = .ok r s := by
  cases m with
  | stuck => cases h
  | err x s => cases h
  | ok x s1 => exact ⟨x, s1, rfl, h⟩
theorem chain_bool {o1 o2 : COp} {ma mb mc : Sm → Resm RVm} {st st' : Sm} {r : RVm} (h : eChain o1 o2 ma mb mc st = .ok r st') : ∃ k, r = .val (.bl k) := by
  obtain ⟨x, s1, _, h⟩ := bind_ok_inv h
  obtain ⟨y, s2, _, h⟩ := bind_ok_inv h
  split at h
  · split at h
    · obtain ⟨z, s3, _, h⟩ := bind_ok_inv h
      split at h
      · split at h
        · cases h; exact ⟨_, rfl⟩
        · cases h
      · cases h
    · cases h; exact ⟨_, rfl⟩
    · cases h
  · cases h
theorem tst_bool {m : Sm → Resm RVm} {σ : L2.St} {H : Hp} {Q : Bool → Hp → Prop} {K : PySem.W.Frag} (hb : ∀ {st st' : Sm} {r : RVm}, m st = .ok r st' → ∃ k, r = .val (.bl k)) (h : rdT T K W (tst m) σ H Q) : rdE T K W m σ H fun v H' => ∃ k, v = .bl k ∧ Q k H' := by
  obtain ⟨w, st, R, h⟩ := h
  refine ⟨w, st, R, ?_⟩
  unfold tst at h
  cases e : m st with
  | stuck => rw [e] at h; exact h
  | err x s => rw [e] at h; exact h
  | ok r s =>
    rw [e] at h
    obtain ⟨k, rfl⟩ := hb e
    intro v H' w' P
    have hr : Rp K H' w' v (.bl k) := P.res
    cases hr
    have h : EndT T K W w σ H st Q (.ok k s) := h
    exact ⟨k, rfl, h H' w' P.toM⟩
theorem se_chain {o1 o2 : COp} {a b c : CE} (ha : SE T C a) (hb : SE T C b) (hc : SE T C c) : SE T C (.chain o1 o2 a b c) := by
  intro n k X W e x
  have shape : ∀ m, ck (.chain o1 o2 a b c) k m e = true → ∃ y p1 p2 z u p, e = .Compare y [p1, p2] [z, u] p ∧ cmpB o1 p1 = true ∧ cmpB o2 p2 = true ∧ notSet u = true ∧ ck a k false y = true ∧ ck b k false z = true ∧ ck c k false u = true := fun m h => by
    cases e <;> first | (cases h; done) | skip
    rename_i y os zs p
    match os, zs, h with
    | [p1, p2], [z, u], h =>
      have h : (cmpB o1 p1 && cmpB o2 p2 && notSet u && ck a k false y && ck b k false z && ck c k false u) = true := h
      simp only [Bool.and_eq_true] at h
      exact ⟨y, p1, p2, z, u, p, rfl, h.1.1.1.1.1, h.1.1.1.1.2, h.1.1.1.2, h.1.1.2, h.1.2, h.2⟩
    | [], _, h => cases h
    | [_], _, h => cases h
    | _ :: _ :: _ :: _, _, h => cases h
    | [_, _], [], h => cases h
    | [_, _], [_], h => cases h
    | [_, _], _ :: _ :: _ :: _, h => cases h
  refine ⟨fun h => ?_, fun h => ?_⟩
  · obtain ⟨y, p1, p2, z, u, p, rfl, h1, h2, h3, h4, h5, h6⟩ := shape _ h
    exact re_chain (oc_of h1 x.room) (oc_of h2 x.room) ((ha n k X W y x).1 h4) ((hb n k X W z x).1 h5) ((hc n k X W u x).1 h6) (nob h3 p2)
  · obtain ⟨y, p1, p2, z, u, p, rfl, h1, h2, h3, h4, h5, h6⟩ := shape _ h
    exact PT.imp (pt_chain (oc_of h1 x.room) (oc_of h2 x.room) ((ha n k X W y x).1 h4) ((hb n k X W z x).1 h5) ((hc n k X W u x).1 h6) (nob h3 p2)) fun σ H Q q => chain_imp (tst_bool chain_bool q)
theorem se_and {a b : CE} (ha : SE T C a) (hb : SE T C b) : SE T C (.and a b) := by
  intro n k X W e x
  have shape : ∀ m, ck (.and a b) k m e = true → ∃ y z r p, e = .BoolOp .And (y :: z :: r) p ∧ ck a k m y = true ∧ ((r = [] ∧ ck b k m z = true) ∨ (r ≠ [] ∧ ck b k m (.BoolOp .And (z :: r) p) = true)) := fun m h => by
    cases e <;> first | (cases h; done) | skip
    rename_i op vs p
    cases op <;> first | (cases h; done) | skip
    match vs, h with
    | [y, z], h =>
      have h : (ck a k m y && ck b k m z) = true := h
      rw [Bool.and_eq_true] at h
      exact ⟨y, z, [], p, rfl, h.1, .inl ⟨rfl, h.2⟩⟩
    | y :: z :: u :: r, h =>
      have h : (ck a k m y && ck b k m (.BoolOp .And (z :: u :: r) p)) = true := h
      rw [Bool.and_eq_true] at h
      exact ⟨y, z, u :: r, p, rfl, h.1, .inr ⟨(fun q => nomatch q), h.2⟩⟩
    | [], h => cases h
    | [_], h => cases h
  refine ⟨fun h => ?_, fun h => ?_⟩
  · obtain ⟨y, z, r, p, rfl, h1, h2⟩ := shape _ h
    refine re_and ((ha n k X W y x).1 h1) ?_
    rcases h2 with ⟨rfl, h2⟩ | ⟨_, h2⟩
    · exact pe_one ((hb n k X W z x).1 h2)
    · exact (hb n k X W _ x).1 h2
  · obtain ⟨y, z, r, p, rfl, h1, h2⟩ := shape _ h
    refine PW.pt (rw_and ((ha n k X W y x).2 h1) ?_)
    rcases h2 with ⟨rfl, h2⟩ | ⟨_, h2⟩
    · exact rw_and1 ((hb n k X W z x).2 h2)
    · exact PT.pw ((hb n k X W _ x).2 h2)
theorem se_or {a b : CE} (ha : SE T C a) (hb : SE T C b) : SE T C (.or a b) := by
  intro n k X W e x
  have shape : ∀ m, ck (.or a b) k m e = true → ∃ y z r p, e = .BoolOp .Or (y :: z :: r) p ∧ ck a k m y = true ∧ ((r = [] ∧ ck b k m z = true) ∨ (r ≠ [] ∧ ck b k m (.BoolOp .Or (z :: r) p) = true)) := fun m h => by
    cases e <;> first | (cases h; done) | skip
    rename_i op vs p
    cases op <;> first | (cases h; done) | skip
    match vs, h with
    | [y, z], h =>
      have h : (ck a k m y && ck b k m z) = true := h
      rw [Bool.and_eq_true] at h
      exact ⟨y, z, [], p, rfl, h.1, .inl ⟨rfl, h.2⟩⟩
    | y :: z :: u :: r, h =>
      have h : (ck a k m y && ck b k m (.BoolOp .Or (z :: u :: r) p)) = true := h
      rw [Bool.and_eq_true] at h
      exact ⟨y, z, u :: r, p, rfl, h.1, .inr ⟨(fun q => nomatch q), h.2⟩⟩
    | [], h => cases h
    | [_], h => cases h
  refine ⟨fun h => ?_, fun h => ?_⟩
  · obtain ⟨y, z, r, p, rfl, h1, h2⟩ := shape _ h
    refine re_or ((ha n k X W y x).1 h1) ?_
    rcases h2 with ⟨rfl, h2⟩ | ⟨_, h2⟩
    · exact pe_one ((hb n k X W z x).1 h2)
    · exact (hb n k X W _ x).1 h2
  · obtain ⟨y, z, r, p, rfl, h1, h2⟩ := shape _ h
    refine PW.pt (rw_or ((ha n k X W y x).2 h1) ?_)
    rcases h2 with ⟨rfl, h2⟩ | ⟨_, h2⟩
    · exact rw_or1 ((hb n k X W z x).2 h2)
    · exact PT.pw ((hb n k X W _ x).2 h2)
theorem se_not {a : CE} (ha : SE T C a) : SE T C (.not a) := by
  intro n k X W e x
  have shape : ∀ m, ck (.not a) k m e = true → ∃ y p, e = .UnaryOp .Not y p ∧ ck a k m y = true := fun m h => by
    cases e <;> first | (cases h; done) | skip
    rename_i op y p
    cases op <;> first | (cases h; done) | skip
    exact ⟨y, p, rfl, h⟩
  refine ⟨fun h => ?_, fun h => ?_⟩
  · obtain ⟨y, p, rfl, h⟩ := shape _ h
    exact re_not ((ha n k X W y x).1 h)
  · obtain ⟨y, p, rfl, h⟩ := shape _ h
    exact rt_not ((ha n k X W y x).2 h)
theorem se_ite {c a b : CE} (hc : SE T C c) (ha : SE T C a) (hb : SE T C b) : SE T C (.ite c a b) := by
  intro n k X W e x
  have shape : ∀ m, ck (.ite c a b) k m e = true → m = false ∧ ∃ u y z p, e = .IfExp u y z p ∧ ck c k true u = true ∧ ck a k false y = true ∧ ck b k false z = true := fun m h => by
    cases e <;> first | (cases h; done) | skip
    rename_i u y z p
    have h : (!m && ck c k true u && ck a k false y && ck b k false z) = true := h
    simp only [Bool.and_eq_true, Bool.not_eq_true'] at h
    exact ⟨h.1.1.1, u, y, z, p, rfl, h.1.1.2, h.1.2, h.2⟩
  refine ⟨fun h => ?_, fun h => ?_⟩
  · obtain ⟨_, u, y, z, p, rfl, h1, h2, h3⟩ := shape _ h
    exact re_ite ((hc n k X W u x).2 h1) ((ha n k X W y x).1 h2) ((hb n k X W z x).1 h3)
  · cases (shape _ h).1
theorem se_idx {a b : CE} (ha : SE T C a) (hb : SE T C b) : SE T C (.idx a b) := by
  refine SE.of (eIdx (evP C a).1 (evP C b).1) rfl (fun _ _ => rfl) (fun k e h => ?_) fun n k X W e x h => ?_
  · cases e <;> first | rfl | cases h
  · cases e <;> first | (cases h; done) | skip
    rename_i y z p
    have h : (notSlice z && ck a k false y && ck b k false z) = true := h
    simp only [Bool.and_eq_true] at h
    refine re_idx ((ha n k X W y x).1 h.1.2) ((hb n k X W z x).1 h.2) ?_
    intro o i
    have := h.1.1
    cases z <;> first | rfl | cases this
theorem se_slc {a lo hi : CE} (ha : SE T C a) (hl : SE T C lo) (hh : SE T C hi) : SE T C (.slc a lo hi) := by
  refine SE.of (eSlc (evP C a).1 (evP C lo).1 (evP C hi).1) rfl (fun _ _ => rfl) (fun k e h => ?_) fun n k X W e x h => ?_
  · cases e <;> first | rfl | cases h
  · cases e <;> first | (cases h; done) | skip
    rename_i y z p
    cases z <;> first | (cases h; done) | skip
    rename_i l u s p2
    cases s with
    | some s => cases h
    | none =>
      have h : (ck a k false y && (match (generalizing := false) l with
        | none => noneC lo
        | some l => ck lo k false l) && (match (generalizing := false) u with
        | none => noneC hi
        | some h => ck hi k false h)) = true := h
      rw [Bool.and_eq_true, Bool.and_eq_true] at h
      obtain ⟨⟨h1, h2⟩, h3⟩ := h
      have nn : ∀ {c : CE}, noneC c = true → (evP C c).1 = fun st => .ok (.val .non) st := fun {c} q => by
        unfold noneC at q
        split at q
        · rfl
        · cases q
      refine re_slc ((ha n k X W y x).1 h1) ?_ ?_
      · cases l with
        | some l => exact ro_some ((hl n k X W l x).1 h2)
        | none => rw [nn h2]; exact ro_none
      · cases u with
        | some l => exact ro_some ((hh n k X W l x).1 h3)
        | none => rw [nn h3]; exact ro_none
theorem se_rev {a : CE} (ha : SE T C a) : SE T C (.rev a) := by
  have shape : ∀ k e, ck (.rev a) k false e = true → ∃ y j p1 p2 p3 p, e = .Subscript y (.Slice none none (some (.UnaryOp .USub (.Constant (.int 1) j p1) p2)) p3) p ∧ ck a k false y = true := fun k e h => by
    unfold ck at h
    split at h
    · exact ⟨_, _, _, _, _, _, rfl, h⟩
    · cases h
  refine SE.of (eRev (evP C a).1) rfl (fun _ _ => rfl) (fun k e h => ?_) fun n k X W e x h => ?_
  · obtain ⟨_, _, _, _, _, _, rfl, _⟩ := shape k e h; rfl
  · obtain ⟨y, _, _, _, _, _, rfl, h⟩ := shape k e h
    exact re_rev ((ha n k X W y x).1 h)
end
end Mp

set_option Elab.async false
set_option linter.all false
set_option maxRecDepth 100000
set_option maxHeartbeats 2000000
/-! Mp15: calls, built-ins, methods, comprehensions, iterables by the checker; all expressions. -/
namespace Mp
open PySem PySem.Spec PyProof.Rows L2

/-! ### arguments in another sequence -/
theorem permL_get {α : Type} : ∀ {p : List Nat} {rs zs : List α}, permL p rs = some zs → zs.length = p.length ∧ ∀ (n : Nat) (z : α), zs[n]? = some z → ∃ i, p[n]? = some i ∧ rs[i]? = some z
  | [], rs, zs, h => by cases h; exact ⟨rfl, fun n z h => by simp at h⟩
  | i :: is, rs, zs, h => by
    unfold permL at h
    split at h
    · rename_i r t e1 e2
      cases h
      obtain ⟨l, g⟩ := permL_get e2
      refine ⟨by simp [l], fun n z hz => ?_⟩
      cases n with
      | zero => simp at hz; subst hz; exact ⟨i, rfl, e1⟩
      | succ n =>
        obtain ⟨j, h1, h2⟩ := g n z (by simpa using hz)
        exact ⟨j, by simpa using h1, h2⟩
    · cases h
theorem permL_some {α β : Type} : ∀ {p : List Nat} {rs zs : List α} {vs : List β}, permL p rs = some zs → vs.length = rs.length → ∃ us, permL p vs = some us
  | [], _, _, _, h, _ => ⟨[], rfl⟩
  | i :: is, rs, zs, vs, h, hl => by
    unfold permL at h
    split at h
    · rename_i r t e1 e2
      obtain ⟨us, hu⟩ := permL_some e2 hl
      have hi : i < vs.length := by rw [hl]; exact (List.getElem?_eq_some_iff.mp e1).1
      exact ⟨vs[i] :: us, by unfold permL; rw [List.getElem?_eq_getElem hi, hu]⟩
    · cases h
theorem permL_range {α : Type} (rs : List α) : permL (List.range rs.length) rs = some rs := by
  have key : ∀ (l pre : List α), permL ((List.range l.length).map (· + pre.length)) (pre ++ l) = some l := by
    intro l
    induction l with
    | nil => intro pre; rfl
    | cons x l ih =>
      intro pre
      have e : (List.range (x :: l).length).map (· + pre.length) = pre.length :: (List.range l.length).map (· + (pre ++ [x]).length) := by
        rw [List.length_cons, List.range_succ_eq_map, List.map_cons, List.map_map]
        simp only [Nat.zero_add, List.length_append, List.length_singleton, List.cons.injEq, true_and]
        apply List.map_congr_left
        intro a _
        show a + 1 + pre.length = a + (pre.length + 1)
        omega
      rw [e]
      unfold permL
      have i2 := ih (pre ++ [x])
      rw [List.append_assoc] at i2
      rw [show pre ++ x :: l = pre ++ ([x] ++ l) from rfl, i2]
      simp
  have := key rs []
  simpa using this
section
variable {T : ExT} {K : PySem.W.Frag} {W : WX} {w w1 : Wl} {σ : L2.St} {H H1 : Hp} {st st1 : Sm} {rs zs : List RVm} {vs us : List V}
theorem RRelL.of_get : ∀ {us : List V} {zs : List RVm}, us.length = zs.length → (∀ (n : Nat) (u : V) (z : RVm), us[n]? = some u → zs[n]? = some z → RRel K w σ H u z) →
    (∀ (n m : Nat) (r q : RVm) (v u : V) (a : Addr), zs[n]? = some r → zs[m]? = some q → us[n]? = some v → us[m]? = some u → ResA r v a → ResA q u a → n = m) → RRelL K w σ H us zs
  | [], [], _, _, _ => .nil
  | [], _ :: _, h, _, _ => by cases h
  | _ :: _, [], h, _, _ => by cases h
  | u :: us, z :: zs, h, g, d => by
    refine .cons (g 0 u z rfl rfl) (RRelL.of_get (by simpa using h) (fun n u z h1 h2 => g (n + 1) u z (by simpa using h1) (by simpa using h2)) fun n m r q v u a h1 h2 h3 h4 h5 h6 => ?_) fun a h1 h2 => ?_
    · have := d (n + 1) (m + 1) r q v u a (by simpa using h1) (by simpa using h2) (by simpa using h3) (by simpa using h4) h5 h6
      omega
    · have find : ∀ {zs : List RVm} {us : List V}, ResAL zs us a → ∃ (n : Nat) (r : RVm) (v : V), zs[n]? = some r ∧ us[n]? = some v ∧ ResA r v a := by
        intro zs
        induction zs with
        | nil => intro us h; exact h.elim
        | cons z zs ih =>
          intro us h
          cases us with
          | nil => exact h.elim
          | cons u us =>
            rcases h with h | h
            · exact ⟨0, z, u, rfl, rfl, h⟩
            · obtain ⟨n, r, v, h1, h2, h3⟩ := ih h
              exact ⟨n + 1, r, v, by simpa using h1, by simpa using h2, h3⟩
      obtain ⟨n, r, v, e1, e2, e3⟩ := find h2
      have := d 0 (n + 1) z r u v a rfl (by simpa using e1) rfl (by simpa using e2) h1 e3
      omega
theorem RRelL.perm (A : RRelL K w σ H vs rs) {p : List Nat} (nd : p.Nodup) (h : permL p rs = some zs) (h2 : permL p vs = some us) : RRelL K w σ H us zs ∧ ∀ a, ResAL zs us a → ResAL rs vs a := by
  obtain ⟨l1, g1⟩ := permL_get h
  obtain ⟨l2, g2⟩ := permL_get h2
  have at_ : ∀ (n : Nat) (u : V) (z : RVm), us[n]? = some u → zs[n]? = some z → ∃ i, p[n]? = some i ∧ rs[i]? = some z ∧ vs[i]? = some u := fun n u z e1 e2 => by
    obtain ⟨i, a1, a2⟩ := g1 n z e2
    obtain ⟨j, b1, b2⟩ := g2 n u e1
    rw [a1] at b1; cases b1
    exact ⟨i, a1, a2, b2⟩
  have R : RRelL K w σ H us zs := RRelL.of_get (by rw [l1, l2]) (fun n u z e1 e2 => by
    obtain ⟨i, _, a2, a3⟩ := at_ n u z e1 e2
    obtain ⟨v, b1, b2⟩ := A.get a2
    rw [a3] at b1; cases b1
    exact b2) fun n m r q v u a h1 h2 h3 h4 h5 h6 => by
    obtain ⟨i, a1, a2, a3⟩ := at_ n v r h3 h1
    obtain ⟨j, b1, b2, b3⟩ := at_ m u q h4 h2
    have := A.two a2 b2 a3 b3 h5 h6
    subst this
    have hn := (List.getElem?_eq_some_iff.mp a1).1
    have hm := (List.getElem?_eq_some_iff.mp b1).1
    exact (List.getElem?_inj hn nd).mp (a1.trans b1.symm)
  refine ⟨R, fun a z => ?_⟩
  obtain ⟨n, r, v, e1, e2, e3, _⟩ := ResAL.mem R z
  obtain ⟨i, _, a2, a3⟩ := at_ n v r e2 e1
  exact ResAL.of a2 a3 e3
theorem PostA.perm (P : PostA K w σ H st rs st1 vs H1 w1) {p : List Nat} (nd : p.Nodup) (h : permL p rs = some zs) (h2 : permL p vs = some us) : PostA K w σ H st zs st1 us H1 w1 := by
  obtain ⟨R, s⟩ := P.res.perm nd h h2
  exact ⟨P.le, P.rel, R, P.ext.weak fun a z => z.imp id (s a), fun a z => P.new a (s a z), P.len⟩
end

section
variable {T : ExT} {W : WX} {X : Cx} {e : Expr} {es : List Expr} {pos p : Pos} {x : Str} {ma : Sm → Resm RVm} {ms : Sm → Resm (List RVm)} {n k j : Nat} {f : Addr} {fd : FuncData} {ps : List Str} {C : CallEnv}
theorem re_callP (tk : Takes X W) (F : FnOk X.prog X.w X.K X.mg X.base (L2.CX X.prog X.w) k f fd ps (spI T X.K C j n)) (hr : Room k X.A) (hg : Gl X x) (hm : X.mg x = some (.ref f)) (hk : PySem.W.keepIn X.K (.ref f) = true)
    (hb : Binds X.K fd ps []) (hC : ∀ ss hp r fin hp', C j ss hp = .ok r fin hp' → ∀ i, r ≠ .at i) (ha : PA X (e :: es) (rdAn T X.K W n ms)) (hdb : (x == ("__debug__" : Str)) = false) (hs : (e :: es).all noStar = true) :
    PE X (.Call (.Name x p) (e :: es) [] pos) (rdE T X.K W (eCall C j ms (List.range n))) := by
  rw [List.all_cons, Bool.and_eq_true] at hs
  refine PE.imp (pe_callS F hr hg hm hk hb (passAt tk) ha hdb (star_cons hs.1 _ _) (star_any hs.2)) fun σ H Q ⟨w, st, R, h⟩ => ⟨w, st, R, (EndA.bind0 h).mono fun vs H1 ⟨rs, st1, w1, P, h1⟩ hl => ?_⟩
  have hn : rs.length = n := by rw [← hl, P.res.length]
  rw [← hn, permL_range] at h1
  exact callR_sp P hn hC h1
theorem re_call0 (tk : Takes X W) (F : FnOk X.prog X.w X.K X.mg X.base (L2.CX X.prog X.w) k f fd ps (spI T X.K C j 0)) (hr : Room k X.A) (hg : Gl X x) (hm : X.mg x = some (.ref f)) (hk : PySem.W.keepIn X.K (.ref f) = true)
    (hb : Binds X.K fd ps []) (hC : ∀ ss hp r fin hp', C j ss hp = .ok r fin hp' → ∀ i, r ≠ .at i) (hdb : (x == ("__debug__" : Str)) = false) :
    PE X (.Call (.Name x p) [] [] pos) (rdE T X.K W (eCall C j (fun st => .ok [] st) [])) := by
  refine ⟨fun pins s σ H Q I ⟨w, st, R, h⟩ => ?_⟩
  refine wpAny_Call_Name_kw (ld_glob I hg hm ?_ hdb)
  exact PySem.W.callWith_K0 I.kIn hk (run_fnS (us := []) F hr hb (passAt tk σ) I .nil (callR_sp (PostA.nil R) rfl hC h))

/-! ### keywords -/
theorem rk_nil : PK X [] (rdAn T X.K W 0 fun st => .ok [] st) := by
  refine ⟨fun pos pins s σ H Q I h => pk_nil.run pos pins s σ H Q I ?_⟩
  obtain ⟨w, st, R, h⟩ := h
  exact h [] H w (PostA.nil R) rfl
theorem rk_cons {nm : Option Str} {kpos : Pos} {kws : List Keyword} (ha : PE X e (rdE T X.K W ma)) (hr : PK X kws (rdAn T X.K W n ms)) : PK X (⟨nm, e, kpos⟩ :: kws) (rdAn T X.K W (n + 1) fun st => (ma st).bind fun r st => (ms st).bind fun rs st => .ok (r :: rs) st) := by
  refine ⟨fun pos pins s σ H Q I h => (pk_cons ha hr).run pos pins s σ H Q I ?_⟩
  obtain ⟨w, st, R, h⟩ := h
  refine ⟨w, st, R, (EndA.bindE h).mono fun x H1 ⟨r1, st1, w1, P1, h1⟩ => ⟨w1, st1, P1.rel, h1.mono fun vs H2 h2 hn => h2 ?_⟩⟩
  rw [List.length_cons, hn]
theorem kw_all {pos : Pos} {env : Env} : ∀ {kws : List Keyword} {ks : List Str}, kwN kws = some ks → (backToKw pos (keywordEach kws env)).all (·.1.isSome) = true ∧ (backToKw pos (keywordEach kws env)).filterMap (·.1) = ks ∧ (backToKw pos (keywordEach kws env)).any (·.1.isNone) = false ∧ ks.length = kws.length
  | [], ks, h => by cases h; exact ⟨rfl, rfl, rfl, rfl⟩
  | ⟨none, _, _⟩ :: r, ks, h => by cases h
  | ⟨some nm, v, kp⟩ :: r, ks, h => by
    have h : (kwN r).map (nm :: ·) = some ks := h
    obtain ⟨ks', h1, rfl⟩ := Option.map_eq_some_iff.mp h
    obtain ⟨a, b, c, d⟩ := kw_all (pos := pos) (env := env) h1
    refine ⟨?_, ?_, ?_, by simp [d]⟩
    · show (true && (backToKw pos (keywordEach r env)).all (·.1.isSome)) = true
      rw [a] <;> rfl
    · show nm :: (backToKw pos (keywordEach r env)).filterMap (·.1) = _
      rw [b]
    · show (false || (backToKw pos (keywordEach r env)).any (·.1.isNone)) = false
      rw [c] <;> rfl
theorem vals_perm : ∀ {pm : List Nat} {vs zs : List V} {us ws : List Value}, Vals vs us → permL pm vs = some zs → permL pm us = some ws → Vals zs ws
  | [], _, _, _, _, r, h1, h2 => by cases h1; cases h2; exact .nil
  | i :: is, vs, zs, us, ws, r, h1, h2 => by
    unfold permL at h1 h2
    split at h1
    · rename_i a t e1 e2
      split at h2
      · rename_i b t' e3 e4
        cases h1
        cases h2
        obtain ⟨u, eu, ru⟩ := r.get e1
        rw [e3] at eu; cases eu
        exact .cons ru (vals_perm r e2 e4)
      · cases h2
    · cases h1
theorem re_callK {kws : List Keyword} {ks : List Str} {pm : List Nat} (tk : Takes X W) (F : FnOk X.prog X.w X.K X.mg X.base (L2.CX X.prog X.w) k f fd ps (spI T X.K C j ps.length)) (hr : Room k X.A) (hg : Gl X x) (hm : X.mg x = some (.ref f)) (hk : PySem.W.keepIn X.K (.ref f) = true)
    (hpm : pm.Nodup ∧ pm.length = ps.length ∧ ∀ (s : Shared) (ws zs : List Value), X.K.In s.heap → ws.length = ks.length → permL pm ws = some zs → BindsTo s fd ⟨[], ks.zip ws⟩ (ps.zip zs))
    (hC : ∀ ss hp r fin hp', C j ss hp = .ok r fin hp' → ∀ i, r ≠ .at i) (hks : kwN kws = some ks) (ha : PK X kws (rdAn T X.K W n ms)) (hn : n = kws.length) (hdb : (x == ("__debug__" : Str)) = false) :
    PE X (.Call (.Name x p) [] kws pos) (rdE T X.K W (eCall C j ms pm)) := by
  obtain ⟨nd, pl, hB⟩ := hpm
  refine ⟨fun pins s σ H Q I ⟨w, st, R, h⟩ => ?_⟩
  obtain ⟨k1, k2, k3, k4⟩ := kw_all (pos := pos) (env := X.env) hks
  refine wpAny_Call_Name_kw (ld_glob I hg hm ?_ hdb)
  refine PySem.W.callWith_KW0 (h₀ := X.base) I.ok.mod.kin hk k1 ?_ (by rw [k3] <;> rfl)
  refine thn (ha.run pos pins s σ H (fun vs H1 => ∃ zs us, permL pm vs = some zs ∧ us = vs ∧ vs.length = n ∧ spI T X.K C j ps.length zs H1 Q (fun cls d H' => W cls d σ H')) I ⟨w, st, R, (EndA.bind0 h).mono fun vs H1 ⟨rs, st1, w1, P, h1⟩ hl => ?_⟩) fun ws s2 ⟨vs, H2, I2, rz, zs, _, e1, _, hl, q2⟩ => ⟨I2.kIn, ?_⟩
  · cases e : permL pm rs with
    | none => rw [e] at h1; exact h1.elim
    | some zs =>
      rw [e] at h1
      obtain ⟨us, eu⟩ := permL_some (vs := vs) e P.res.length
      exact ⟨us, vs, eu, rfl, hl, callR_sp (P.perm nd e eu) (by rw [(permL_get e).1, pl]) hC h1⟩
  · rw [k2]
    obtain ⟨us, eu⟩ := permL_some (vs := ws) e1 rz.length.symm
    have rl := vals_perm rz e1 eu
    have hw : ws.length = ks.length := by rw [← rz.length, hl, k4, hn]
    refine wpAny_call (codeAny_mono (F.run X.A X.stack s2 H2 ⟨[], ks.zip ws⟩ us zs Q (WE W σ) hr I2.env0 (hB s2 ws us I2.kIn hw eu) rl q2) fun r s' hq => ?_)
    cases r with
    | error e => exact passAt tk σ pins H2 s2 e s' I2 hq
    | ok fl =>
      cases fl with
      | ret u => exact I2.after hq
      | next => exact False.elim hq
      | brk => exact False.elim hq
      | cont => exact False.elim hq
end

section
variable {T : ExT} {C : CallEnv} {W : WX} {X : Cx}
theorem sk_of {cs : CEs} (hs : SEs T C cs) : True := trivial
/-- the keywords' values, by the same checker -/
def SKs (T : ExT) (C : CallEnv) (cs : CEs) : Prop := ∀ (n : Nat) (k : Ck) (X : Cx) (W : WX) (kws : List Keyword), XOk T C k n X W → cks cs k (kwV kws) = true → PK X kws (rdAn T X.K W cs.len (evs C cs)) ∧ cs.len = kws.length
theorem se_call {f : Nat} {cs : CEs} {p : List Nat} (hs : SEs T C cs) (hk : SKs T C cs) : SE T C (.call f cs p) := by
  refine SE.of (eCall C f (evs C cs) p) rfl (fun _ _ => rfl) (fun k e h => ?_) fun n k X W e x h => ?_
  · cases e <;> first | rfl | cases h
  · cases e <;> first | (cases h; done) | skip
    rename_i fn args kws pos
    cases fn <;> first | (cases h; done) | skip
    rename_i y yp
    match args, kws, h with
    | e0 :: es, [], h =>
      cases q : k.fns[f]? with
      | none => unfold ck at h; rw [q] at h; cases h
      | some z =>
        obtain ⟨y', ps⟩ := z
        unfold ck at h
        rw [q] at h
        simp only [Bool.and_eq_true, decide_eq_true_eq] at h
        obtain ⟨⟨⟨⟨⟨rfl, h2⟩, rfl⟩, h4⟩, h5⟩, h6⟩ := h
        obtain ⟨fa, fd, m1, m2, m3, m4, m5⟩ := x.tab.fns f y ps q
        obtain ⟨pa, pn, pl⟩ := hs n k X W _ x h6
        rw [h2] at m4
        exact re_callP x.tk m4 x.room (x.gl h4) m1 m2 m3 (x.tab.ret f) pa (okN_1 h5).1 pn
    | [], [], h =>
      cases q : k.fns[f]? with
      | none => unfold ck at h; rw [q] at h; cases h
      | some z =>
        obtain ⟨y', ps⟩ := z
        unfold ck at h
        rw [q] at h
        simp only [Bool.and_eq_true, decide_eq_true_eq] at h
        obtain ⟨⟨⟨⟨⟨rfl, h2⟩, h3⟩, rfl⟩, h5⟩, h6⟩ := h
        obtain ⟨fa, fd, m1, m2, m3, m4, m5⟩ := x.tab.fns f y ps q
        rw [h2] at m4
        cases cs with
        | nil => exact re_call0 x.tk m4 x.room (x.gl h5) m1 m2 m3 (x.tab.ret f) (okN_1 h6).1
        | cons c cs => cases h3
    | [], w0 :: ws, h =>
      cases q : k.fns[f]? with
      | none => unfold ck at h; rw [q] at h; cases h
      | some z =>
        obtain ⟨y', ps⟩ := z
        cases q2 : kwN (w0 :: ws) with
        | none => unfold ck at h; rw [q] at h; simp only [q2] at h; cases h
        | some ks =>
          unfold ck at h
          rw [q] at h
          simp only [q2] at h
          simp only [Bool.and_eq_true, decide_eq_true_eq] at h
          obtain ⟨⟨⟨⟨rfl, h2⟩, h4⟩, h5⟩, h6⟩ := h
          obtain ⟨fa, fd, m1, m2, m3, m4, m5⟩ := x.tab.fns f y ps q
          obtain ⟨pk, pl⟩ := hk n k X W _ x h6
          exact re_callK x.tk m4 x.room (x.gl h4) m1 m2 (m5 ks p h2) (x.tab.ret f) q2 pk pl (okN_1 h5).1
    | _ :: _, _ :: _, h => unfold ck at h; cases h
end
end Mp

set_option Elab.async false
set_option linter.all false
set_option maxRecDepth 100000
set_option maxHeartbeats 2000000
/-! MpE1: sorted by a lambda: the lambda made, its calls. -/
namespace Mp
open PySem PySem.Spec PyProof.Rows L2
theorem boot_len2 : bootBuiltins "len" = some (.builtin "len") := by decide +kernel
theorem clo_nil {cells : List (Str × Addr)} {names : List (Str × NameKind)} (h : ∀ y ∈ names, y.2 ≠ .free) : cloFrom cells names [] = [] := by
  cases e : cloFrom cells names [] with
  | nil => rfl
  | cons p r =>
    obtain ⟨n, c⟩ := p
    have hm : (n, c) ∈ cloFrom cells names [] := by rw [e]; exact List.mem_cons_self
    rcases cloFrom_mem hm with z | ⟨z, _⟩
    · cases z
    · exact absurd rfl (h _ z)
abbrev LamO (q : Str) (params : Arguments) (body : Expr) (scope : Scope) (pm : Value) (c' : Addr) (ctv : Value) : Obj := PySem.W.kla_obj "<lambda>" q params body scope [] pm c' ctv
/-- what the making leaves: the code object was in the table, or is new and stands at its end -/
inductive Made (q : Str) (P : Addr) (ps : Array Value) (H : Hp) (c' : Addr) : Hp → Prop
  | old (p : Pos) : codeAmong p ps.toList = some (.ref c') → Made q P ps H c' H
  | new (ps' : Array Value) : H c' = none → TriplesOk ps'.toList → (∀ p cv, codeAmong p ps'.toList = some cv → codeAmong p ps.toList = some cv ∨ cv = .ref c') →
      Made q P ps H c' (upd (upd H P (.tbl ps')) c' (LamX.CodeO c' q))
section
variable {X : Cx} {pins : List (Addr × Obj)} {σ : L2.St} {H : Hp} {s : Shared}
theorem lam_made {c P : Addr} {params : Arguments} {body : Expr} {scope : Scope} {pos : Pos} {E Q : Value → Shared → Prop} {q : Str} {ps : Array Value} (I : Inv X pins σ H s) (tb : LamX.TabB X.base X.mg c P) (code : X.env.code = .ref c) (name : X.env.qual ++ "<lambda>" = q)
    (hP : H P = some (.tbl ps)) (ok : TriplesOk ps.toList) (all : ∀ (p : Pos) (cv : Value), codeAmong p ps.toList = some cv → ∃ c0, cv = .ref c0 ∧ H c0 = some (LamX.CodeO c0 q)) (def0 : defaultsOf params X.env = ([], [])) (nofree : ∀ y ∈ scope.names, y.2 ≠ .free)
    (next : ∀ (f c' : Addr) (pm ctv : Value) (H1 : Hp) (s' : Shared), Inv X pins σ H1 s' → s'.heap.get? f = some (LamO q params body scope pm c' ctv) → H1 c' = some (LamX.CodeO c' q) → Made q P ps H c' H1 → Q (.ref f) s') :
    wpAny (model X.prog X.w) X.A (eval (.Lambda params body scope pos) X.env) Q E s := by
  have cl := clo_nil (cells := X.env.cells) nofree
  have bm : s.heap.BuiltinsAt X.mg P := tb.bm.keeps I.bk
  have raw := I.hok P _ hP
  refine PySem.W.kla_eval def0 ?_
  have clos := closure_ok (scope := scope) (env := X.env) fun y hy e => absurd e (nofree y hy)
  rw [name]
  cases found : codeAmong pos ps.toList with
  | some cv =>
    obtain ⟨c0, rfl, hc0⟩ := all pos cv found
    refine PySem.W.kla_makeFunctionHit (mg := X.mg) (c := c) (P := P) (ps := ps) clos I.ok.glob (I.mod.glob.keeps I.bk) code (tb.code.keeps I.bk) raw ok found bm fun ctv h' tk keep _ => ?_
    rw [cl]
    refine next h'.objs.size c0 ((X.mg "__name__").getD .none) ctv H _ (I.kept fun b o e => Heap.get?_push_of_some _ (keep b o e)) (Heap.get?_push_size _ rfl) hc0 (.old pos found)
  | none =>
    refine PySem.W.kla_makeFunction (mg := X.mg) (c := c) (P := P) (ps := ps) clos I.ok.glob (I.mod.glob.keeps I.bk) code (tb.code.keeps I.bk) raw ok found tb.gP bm fun c' ctv h' tk keep ge lt rec tab => ?_
    obtain ⟨c2, oc, vs, t, e2, hoc, hd, hv⟩ := rec
    cases e2
    rw [cl]
    have fresh : H c' = none := I.hok.fresh ge
    have J := LamX.inv_table (t' := tk) (q := q) (more := #[rawInt pos.line, rawInt pos.col, .ref c']) (h' := h'.push (LamO q params body scope ((X.mg "__name__").getD .none) c' ctv)) I hP
      (fun b o nb e => Heap.get?_push_of_some _ (keep b o nb e)) (Heap.get?_push_of_some _ tab) ge ⟨oc, vs, t, Heap.get?_push_of_some _ hoc, hd, hv⟩
    have toL : (ps ++ #[rawInt pos.line, rawInt pos.col, .ref c']).toList = ps.toList ++ [rawInt pos.line, rawInt pos.col, .ref c'] := by simp
    refine next h'.objs.size c' ((X.mg "__name__").getD .none) ctv _ _ J (Heap.get?_push_size _ rfl) upd_same (.new _ fresh ?_ fun p cv e => ?_)
    · rw [toL]; exact PySem.TriplesOk_snoc _ _ _ _ ok
    · rw [toL] at e; exact LamX.among_app _ ok e
end
section
variable {prog : Program} {w : World} {A : Around} {s : Shared} {env : Env}
/-- (len(y), y), y a text -/
theorem len_key {y : Str} {p1 p2 p3 p4 p5 : Pos} {x1} {E Q : Value → Shared → Prop} {z : Str} {tz : Tok} {m mg mb : Str → Option Value} (hk : env.scope.kind = .function) (ky : env.kindOf y = some .local) (nl : s.heap.Ns env.locals m) (hv : m y = some (.str z tz))
    (kl : env.kindOf "len" = some .globalImplicit) (ng : s.heap.Ns env.globals mg) (hm : mg "len" = none) (nb : s.heap.Ns env.builtins mb) (hb : mb "len" = some (.builtin "len")) (hz : z.length ≤ 16777216) (db : (y == ("__debug__" : Str)) = false)
    (h : ∀ (t : Tok) (tk : Nat), Q (.ref s.heap.objs.size) { s with heap := s.heap.push { cls := .type "tuple", data := .seq #[.int z.length t, .str z tz] }, toks := tk }) :
    wpAny (model prog w) A (eval (.Tuple [.Call (.Name "len" p1) [.Name y p2] [] p3, .Name y p4] x1 p5) env) Q E s := by
  refine wpAny_Tuple_spliced ?_
  show wpAny _ _ (spliced [(false, eval (.Call (.Name "len" p1) [.Name y p2] [] p3) env), (false, eval (.Name y p4) env)]) _ _ _
  refine Calls.spliced_cons (wpAny_Call_NameR (Calls.Name_function_global hk kl (Calls.loadGlobal_builtin ng hm nb hb ?_)))
  refine PyProof.Rows.callWith_builtin1 (Calls.spliced_cons (wpAny_Name (wpAny_loadName_local hk ky nl hv (Calls.spliced_nil ?_)) db))
  refine len_str (by omega) ?_
  refine Calls.spliced_cons (wpAny_Name (wpAny_loadName_local hk ky nl hv (Calls.spliced_nil ?_)) db)
  refine ⟨by show 2 ≤ sizeLine; rw [sizeLine_eq]; omega, ?_⟩
  exact h _ _
end
section
variable {prog : Program} {w : World} {A : Around} {s : Shared} {f c' : Addr} {q : Str} {params : Arguments} {body : Expr} {scope : Scope} {pm ctv : Value} {mg mb : Str → Option Value}
/-- the lambda called with a text -/
theorem lam_turn {y : Str} {z : Str} {tz : Tok} (dp : A.depth < recursionLimit) (of : s.heap.get? f = some (LamO q params body scope pm c' ctv)) (cr : s.heap.CodeRec (.ref c') q) (ha : lamArg params = some y) (hs : lamSc y scope = true) (hb : lenKey y scope body = true)
    (ng : s.heap.Ns mainGlobals mg) (hm : mg "len" = none) (nb : s.heap.Ns builtinsNs mb) (hl : mb "len" = some (.builtin "len")) (nl : s.heap.NoLimit) (hz : z.length ≤ 16777216) :
    wpAny (model prog w) A (call (.ref f) [.str z tz]) (PySem.W.KeyPure (.tuple [.int z.length, .str z]) s) (fun _ _ => False) s := by
  unfold lamSc at hs
  simp only [Bool.and_eq_true, Bool.not_eq_true', decide_eq_true_eq, List.all_eq_true, decide_eq_false_iff_not] at hs
  obtain ⟨⟨⟨⟨k1, k2⟩, k3⟩, k4⟩, k5⟩ := hs
  unfold lamArg at ha
  split at ha <;> try (cases ha; done)
  rename_i a
  cases ha
  unfold lenKey at hb
  split at hb <;> try (cases hb; done)
  simp only [Bool.and_eq_true, decide_eq_true_eq] at hb
  obtain ⟨⟨⟨⟨rfl, g1⟩, rfl⟩, rfl⟩, g2⟩ := hb
  obtain ⟨db, _, _⟩ := okN_1 g2
  refine wpAny_call (PySem.W.kla_callFunE dp of rfl k2 k3 rfl cr ?_)
  have bd : ∀ b : Expr, bindArgs (PySem.W.kla_fn "<lambda>" q ⟨[], [a], none, [], [], none, []⟩ b scope [] pm (.ref c') ctv) ⟨[.str z tz], []⟩ = pure [(a.arg, .str z tz)] := fun _ => by
    have hl : ([(a.arg, Value.str z tz)] : List (Str × Value)).lookup a.arg = some (.str z tz) := by simp [List.lookup]
    unfold bindArgs
    simp [seqItems?, hl]
    rfl
  rw [bd]
  refine wpAny_pure (wpAny_newFunctionEnv (fun y hy => (k5 y hy).2) (fun y hy => ?_) (fun h₁ hns hsb => ⟨nl.fresh _ hsb, ?_⟩) k1)
  · rw [List.mem_singleton] at hy
    rw [hy]
    exact k4
  · have kp : ∀ b o, s.heap.get? b = some o → h₁.get? b = some o := fun b o e => hsb.extBut b o (Nat.ne_of_lt (Heap.lt_size e)) (Heap.get?_push_of_some _ e)
    refine PySem.W.kla_codeExpr (len_key (z := z) (tz := tz) (m := fun x => [(a.arg, Value.str z tz)].reverse.lookup x) k1 k4 hns (by simp [List.lookup]) ?_ (ng.keeps kp) hm (nb.keeps kp) hl hz db fun t tk => ?_)
    · unfold glB at g1
      split at g1
      · assumption
      · cases g1
    · refine ⟨_, tk, rfl, fun b o e => Heap.get?_push_of_some _ (kp b o e), ?_⟩
      exact .tuple (Heap.get?_push_size _ rfl) rfl rfl (.cons (.int _ _) (.cons (.str _ _) .nil))
end
end Mp

set_option Elab.async false
set_option linter.all false
set_option maxRecDepth 100000
set_option maxHeartbeats 2000000
/-! MpE2: sorted by a lambda, its reading. -/
namespace Mp
open PySem PySem.Spec PyProof.Rows L2
section
variable {K : PySem.W.Frag} {w : Wl} {σ : L2.St} {H H1 : Hp} {st : Sm}
/-- the making, as a step that gives nothing -/
theorem made_post {t : Nat} {n : List Nat} {P c' : Addr} {ps : Array Value} (R : Rel K w σ H st) (ht : w.io[t]? = some P) (hst : st.hp[t]? = some (.tbl n)) (hP : H P = some (.tbl ps)) (m : Made (lamQ n) P ps H c' H1) : ∃ w1, PostE K w σ H st (.val .non) st .non H1 w1 := by
  have mt := R.hob t P _ ht hst
  have hin : P ∈ w.io := List.mem_of_getElem? ht
  cases m with
  | old p _ => exact ⟨w, (Gives.val .non).post R⟩
  | new ps' hc ok all =>
    have nc : ∀ a u, H a = some u → a ≠ c' := fun a u e z => by rw [z, hc] at e; cases e
    have nP : P ≠ c' := nc _ _ hP
    have at_ : ∀ a, a ≠ P → a ≠ c' → upd (upd H P (.tbl ps')) c' (LamX.CodeO c' (lamQ n)) a = H a := fun a h1 h2 => by rw [upd_ne h2, upd_ne h1]
    have atP : upd (upd H P (.tbl ps')) c' (LamX.CodeO c' (lamQ n)) P = some (.tbl ps') := by rw [upd_ne nP, upd_same]
    have sP : ∀ a, w.S a → a ≠ P := fun a h z => R.sS a h (.inl (by rw [z]; exact hin))
    have le : w.le ⟨w.io, fun a => w.S a ∨ a = c'⟩ := ⟨fun _ _ h => h, fun _ h => .inl h⟩
    have ty : ∀ a u, H a = some u → (∀ q, u ≠ .tbl q) → a ≠ P := fun a u e h z => by rw [z, hP] at e; exact h ps (Option.some.inj e).symm
    have s : Stays w H (upd (upd H P (.tbl ps')) c' (LamX.CodeO c' (lamQ n))) := ⟨fun a xs e => by rw [at_ a (ty a _ e fun q z => nomatch z) (nc a _ e)]; exact e, fun a o u e => by rw [at_ a (ty a _ e fun q z => nomatch z) (nc a _ e)]; exact e, fun a u hS e => by rw [at_ a (sP a hS) (nc a _ e)]; exact e⟩
    have mo : ∀ a o, a ≠ P → MOk K H w a o → MOk K (upd (upd H P (.tbl ps')) c' (LamX.CodeO c' (lamQ n))) ⟨w.io, fun a => w.S a ∨ a = c'⟩ a o := fun a o h q => by
      obtain ⟨u, e⟩ := q.some
      exact q.stay s le (at_ a h (nc a u e))
    have trk : ∀ a, H a ≠ none → upd (upd H P (.tbl ps')) c' (LamX.CodeO c' (lamQ n)) a ≠ none := fun a h => by
      by_cases z : a = P
      · rw [z, atP]; exact fun z => nomatch z
      · cases q : H a with
        | none => exact absurd q h
        | some u => rw [at_ a z (nc a u q), q]; exact fun z => nomatch z
    refine ⟨⟨w.io, fun a => w.S a ∨ a = c'⟩, le, ⟨R.len, fun i v e => ?_, fun i o e => ?_, R.hl, fun k a o h1 h2 => ?_, R.nd, R.nio, R.inj, fun a h f => ?_, fun a h => ?_⟩, .non, ⟨fun a o e nf => ?_, trk, fun a h => ?_, fun a h => ?_, fun a xs e => s.tup a xs e, fun a o u e => s.frz a o u e⟩, fun a h => ?_, rfl⟩
    · obtain ⟨x, e1, r⟩ := R.val i v e
      exact ⟨x, e1, r.stay s le⟩
    · obtain ⟨a, e1, q⟩ := R.obj i o e
      exact ⟨a, e1, mo a o (fun z => R.nio i a ⟨e1, o, e⟩ (by rw [z]; exact hin)) q⟩
    · by_cases z : a = P
      · subst z
        have hk : k = t := (List.getElem?_inj (List.getElem?_eq_some_iff.mp h1).1 R.nd).mp (h1.trans ht.symm)
        subst hk
        rw [hst] at h2
        cases h2
        obtain ⟨m1, ps0, m2, m3, m4⟩ := mt
        rw [hP] at m2
        cases m2
        refine ⟨m1, ps', atP, ok, fun p cv hcv => ?_⟩
        rcases all p cv hcv with z | z
        · obtain ⟨c0, e1, e2, e3⟩ := m4 p cv z
          exact ⟨c0, e1, .inl e2, s.S c0 _ e2 e3⟩
        · exact ⟨c', z, .inr rfl, upd_same⟩
      · exact mo a o z (R.hob k a o h1 h2)
    · rcases h with h | h
      · exact R.sS a h f
      · obtain ⟨u, e⟩ := R.footSome a f
        rw [h, hc] at e
        cases e
    · rcases h with h | h
      · exact trk a (R.tS a h)
      · rw [h, upd_same]; exact fun z => nomatch z
    · rw [at_ a (fun z => nf (.inl (by rw [z]; exact hin))) (nc a _ e)]; exact e
    · rcases h with h | h
      · exact .inl h
      · obtain ⟨⟨o, z⟩, _⟩ := h
        cases z
    · rcases h with h | h
      · exact .inl h
      · exact .inr (.inr (by rw [h]; exact hc))
    · obtain ⟨⟨o, z⟩, _⟩ := h
      cases z
/-- the order of the keys -/
theorem le_key : PySem.W.dataLe false (fun b : List Nat => .tuple [.int (b.length : Int), .str ⟨b.toArray⟩]) = leLT := by
  funext a b
  rw [PySem.W.dataLe_eq]
  show (!PySem.W.dataLt (.tuple [.int (b.length : Int), .str ⟨b.toArray⟩]) (.tuple [.int (a.length : Int), .str ⟨a.toArray⟩])) = _
  rw [PySem.W.dataLt_pair rfl rfl, PySem.W.dataLt_int, PySem.W.dataLt_str]
  have e1 : PyData.eqv (.int (b.length : Int)) (.int (a.length : Int)) = decide (b.length = a.length) := by
    show ((b.length : Int) == (a.length : Int)) = _
    by_cases h : b.length = a.length
    · simp [h]
    · have : ¬ (b.length : Int) = (a.length : Int) := by omega
      simp [h, this]
  have e2 : PyData.eqv (.str ⟨b.toArray⟩) (.str ⟨a.toArray⟩) = decide (b = a) := by
    show ((⟨b.toArray⟩ : Str) == (⟨a.toArray⟩ : Str)) = _
    by_cases h : b = a
    · simp [h]
    · have : ¬ (⟨b.toArray⟩ : Str) = ⟨a.toArray⟩ := fun z => h (by simpa using congrArg Str.cps z)
      simp [h, this]
  rw [e1, e2]
  unfold leLT
  by_cases h : b.length = a.length
  · have h1 : ¬ a.length < b.length := by omega
    have h2 : a.length = b.length := h.symm
    by_cases g : b = a
    · subst g
      simp
    · simp only [h, g, decide_true, decide_false, if_true, if_false, Bool.false_eq_true]
      rw [PySem.W.not_lt_str]
      simp [h1, h2]
  · have h2 : ¬ a.length = b.length := fun z => h z.symm
    simp only [h, decide_false, Bool.false_eq_true, if_false, h2, false_and, or_false]
    by_cases g : b.length < a.length
    · have g2 : ¬ a.length < b.length := by omega
      have g3 : (b.length : Int) < (a.length : Int) := by omega
      simp [g2, g3]
    · have g2 : a.length < b.length := by omega
      have g3 : ¬ (b.length : Int) < (a.length : Int) := by omega
      simp [g2, g3]
end
section
variable {T : ExT} {X : Cx} {W : WX} {p pos kp lpos : Pos} {e body : Expr} {params : Arguments} {scope : Scope} {ma : Sm → Resm RVm} {t N : Nat} {n : List Nat} {y : Str}
theorem vrel_strs {K : PySem.W.Frag} {w : Wl} {H : Hp} {v : V} {u : Viewm} {l : List (List Nat)} (h : VRel K w H v u) (e : u.lstOf.bind strsOf = some l) : ∃ q, v = .ref q ∧ H q = some (.lst (l.map fun z => V.str ⟨z.toArray⟩)) ∧ ∀ z ∈ l, sOk z := by
  obtain ⟨l', e1, e2⟩ := Option.bind_eq_some_iff.mp e
  obtain ⟨q, us, hv, hq, rl⟩ := h.lst_inv e1
  obtain ⟨rfl, hs⟩ := strs_rel rl e2
  exact ⟨q, hv, hq, hs⟩
/-- sorted(e, key=lambda y: (len(y), y)) -/
theorem re_srt {c P : Addr} (hg : Gl X "sorted") (hm : X.mg "sorted" = none) (hl : X.mg "len" = none) (hr : Room N X.A) (hN : 2 ≤ N) (he : PE X e (rdE T X.K W ma)) (hs : noStar e = true) (hp : lamArg params = some y) (hsc : lamSc y scope = true) (hb : lenKey y scope body = true)
    (code : X.env.code = .ref c) (name : X.env.qual ++ "<lambda>" = lamQ n) (tb : LamX.TabB X.base X.mg c P) (tab : tabA X.K n = some P) :
    PE X (.Call (.Name "sorted" p) [e] [⟨some (Str.ofString "key"), .Lambda params body scope lpos, kp⟩] pos) (rdE T X.K W (eSrt t n ma)) := by
  have nofree : ∀ q ∈ scope.names, q.2 ≠ .free := by
    unfold lamSc at hsc
    simp only [Bool.and_eq_true, List.all_eq_true, Bool.not_eq_true', decide_eq_false_iff_not] at hsc
    exact fun q hq => (hsc.2 q hq).1
  have def0 : defaultsOf params X.env = ([], []) := by
    unfold lamArg at hp
    split at hp <;> try (cases hp; done)
    rfl
  refine ⟨fun pins s σ H Q I h => ?_⟩
  obtain ⟨w, st, R, h⟩ := h
  refine wpAny_Call_Name_kw (ld_blt I hg hm PyProof.Rows.boot_sorted ?_)
  have hs' : starEach [e] X.env = (false, eval e X.env) :: starEach [] X.env := star_cons hs _ _
  refine PyProof.Rows.callWith_kw ?_ (by rw [hs']; rfl) (by rw [hs']; rfl)
  refine one_arg he I ⟨w, st, R, EndE.bind h⟩ (fun u s1 v H1 I1 r1 q1 => ?_) hs'
  obtain ⟨r, st1, w1, P1, h1⟩ := q1
  split at h1
  case h_2 => exact h1.elim
  rename_i n' l e1 e2
  by_cases hn : n' = n
  case neg => rw [if_neg hn] at h1; exact h1.elim
  rw [if_pos hn] at h1
  subst hn
  obtain ⟨u0, e3, e4⟩ := Option.bind_eq_some_iff.mp e2
  obtain ⟨u1, e5, e6⟩ := Option.bind_eq_some_iff.mp e3
  obtain ⟨q, hv, hq, hk⟩ := vrel_strs (look_rel P1.rel P1.res e5) (Option.bind_eq_some_iff.mpr ⟨u0, e6, e4⟩)
  subst hv
  obtain rfl : u = Value.ref q := r1
  obtain ⟨a, ht⟩ : ∃ a, w1.io[t]? = some a := by
    have : t < w1.io.length := by rw [P1.rel.hl]; exact (List.getElem?_eq_some_iff.mp e1).1
    exact ⟨_, List.getElem?_eq_getElem this⟩
  obtain ⟨m1, ps, m2, m3, m4⟩ := P1.rel.hob t a _ ht e1
  rw [tab] at m1
  cases m1
  show wpAny _ _ (evalAll ((do let v ← eval (.Lambda params body scope lpos) X.env; standAt pos; pure v) :: [])) _ _ s1
  refine wpAny_evalAll_cons (wpAny_bind (lam_made I1 tb code name m2 m3 (fun p cv hc => ?_) def0 nofree fun f c' pm ctv H2 s2 I2 of hc2 made => ?_))
  · obtain ⟨c0, z1, _, z3⟩ := m4 p cv hc
    exact ⟨c0, z1, z3⟩
  refine wpAny_bind (wpAny_standAt (wpAny_pure (wpAny_evalAll_nil ?_)))
  show wpAny _ _ (call (.builtin "sorted") [.ref q] [(Str.ofString "key", .ref f)]) _ _ s2
  obtain ⟨w2, P2⟩ := made_post P1.rel ht e1 m2 made
  have hq2 : H2 q = some (.lst (l.map fun z => V.str ⟨z.toArray⟩)) := by
    cases made with
    | old p _ => exact hq
    | new ps' hc ok all =>
      rw [upd_ne (fun z => by rw [z, hc] at hq; cases hq), upd_ne (fun z => by rw [z, m2] at hq; cases hq)]
      exact hq
  obtain ⟨its, rv, ⟨ol, nl, pe, pc, pd, pq⟩, hz⟩ := I2.list (.inl (.inl hq2))
  rw [List.length_map] at hz
  have el := each_strs rv
  obtain ⟨mb, nb1, nb2⟩ := I2.mod.blt
  obtain ⟨⟨oc, cvs, ct, hoc, hdc, hvc⟩, _, _⟩ := I2.hok c' _ hc2
  have hu := hr.un
  have hd := hr.dp
  refine PySem.W.sorted_key_data (b := false) (f := .ref f) (bs := l) (R := fun v (z : List Nat) => ∃ t, v = Value.str ⟨z.toArray⟩ t) (fun z : List Nat => .tuple [.int (z.length : Int), .str ⟨z.toArray⟩]) ⟨ol, pe, pc, nl, pq⟩ el (PySem.W.AllAlike.of fun _ _ => rfl) (PySem.W.Sortable.tuples fun b => ⟨_, _, rfl⟩) hz (fun x _ => ?_) (PyProof.Rows.ksk_s1 _ _) (fun _ => PyProof.Rows.ksk_l1 _ _) (fun _ => PyProof.Rows.ksk_t1 _ _) (fun v x ⟨tx, hx⟩ hm h tk kp => ?_) fun out c1 h' tk kp fr nw ho eo => ?_
  · show X.A.units + 2 + 1 < _
    omega
  · subst hx
    have hlen : (⟨x.toArray⟩ : Str).length ≤ 16777216 := by rw [slen]; exact (hk x hm).1
    have := lam_turn (prog := X.prog) (w := X.w) (A := X.A.in1.in1) (s := { s2 with heap := h, toks := tk }) (z := ⟨x.toArray⟩) (tz := tx) (mg := X.mg) (mb := mb) (by show X.A.depth < _; omega) (kp _ _ of) ⟨c', oc, cvs, ct, rfl, kp _ _ hoc, hdc, hvc⟩ hp hsc hb ((I2.mod.glob.keeps I2.bk).keeps kp) hl ((nb1.keeps I2.bk).keeps kp) ((nb2 _ (by decide)).trans boot_len2) (I2.nolimit.keeps kp) hlen
    rw [slen] at this
    exact this
  · rw [le_key] at eo
    have hn : H2 (s2.heap.objs.size + 1) = none := I2.hok.fresh (Nat.le_succ _)
    have hml : (l.mergeSort leLT).length = l.length := List.length_mergeSort _
    have J : Inv X pins σ (upd H2 (s2.heap.objs.size + 1) (.lst ((l.mergeSort leLT).map fun z => V.str ⟨z.toArray⟩))) { s2 with heap := h', toks := tk } :=
      I2.laid (t' := tk) kp (Nat.le_succ _) ⟨by rw [List.length_map, hml]; exact hz, out, c1, vals_strs eo, nw⟩
    refine ⟨.ref _, _, J, rfl, h1 _ _ w2 (P2.after ((Gives.lst hn (rp_strs fun z hm => ?_)).post P2.rel))⟩
    exact hk z ((List.mergeSort_perm _ _).mem_iff.mp hm)
end
end Mp

set_option Elab.async false
set_option linter.all false
set_option maxRecDepth 100000
set_option maxHeartbeats 2000000
/-! Mp16: built-ins, methods, comprehensions, iterables; all expressions. -/
namespace Mp
open PySem PySem.Spec PyProof.Rows L2
section
variable {T : ExT} {C : CallEnv} {W : WX} {X : Cx}
theorem boot_abs2 : bootBuiltins "abs" = some (.builtin "abs") := by decide +kernel
theorem boot_ord2 : bootBuiltins "ord" = some (.builtin "ord") := by decide +kernel
theorem boot_max2 : bootBuiltins "max" = some (.builtin "max") := by decide +kernel
theorem boot_min2 : bootBuiltins "min" = some (.builtin "min") := by decide +kernel
theorem boot_sum2 : bootBuiltins "sum" = some (.builtin "sum") := by decide +kernel
theorem boot_ty2 (t : Tym) (ht : t ≠ .non) : bootBuiltins (Str.ofString (tyStr t)) = some (.type (tyStr t)) ∧ Str.ofString (tyStr t) ∈ bltN ∧ Str.ofString (tyStr t) ≠ "__name__" ∧ (Str.ofString (tyStr t) == ("__debug__" : Str)) = false := by
  cases t <;> first | exact absurd rfl ht | decide +kernel
theorem se_isi {t : Tym} {cs : CEs} (hs : ∀ c, cs = .cons c .nil → SE T C c) : SE T C (.bi (.isi t) cs) := by
  have shape : ∀ k e, ck (.bi (.isi t) cs) k false e = true → ∃ x p y z p2 pos, e = .Call (.Name x p) [y, .Name z p2] [] pos ∧ x = "isinstance" ∧ z = Str.ofString (tyStr t) ∧ t ≠ .non ∧ glB k.sc x = true ∧ glB k.sc z = true ∧ cks cs k [y] = true := fun k e h => by
    unfold ck at h
    simp only at h
    split at h
    · simp only [Bool.and_eq_true, decide_eq_true_eq] at h
      exact ⟨_, _, _, _, _, _, rfl, h.1.1.1.1.1, h.1.1.1.1.2, h.1.1.1.2, h.1.1.2, h.1.2, h.2⟩
    · cases h
  refine SE.of (eBi (.isi t) (evs C cs)) rfl (fun _ _ => rfl) (fun k e h => ?_) fun n k X W e x h => ?_
  · obtain ⟨_, _, _, _, _, _, rfl, _⟩ := shape k e h; rfl
  · obtain ⟨_, _, y, _, _, _, rfl, rfl, rfl, ht, g1, g2, h⟩ := shape k e h
    cases cs with
    | nil => cases h
    | cons c cs =>
      have h : (noStar y && ck c k false y && cks cs k []) = true := h
      cases cs with
      | cons _ _ => simp [cks] at h
      | nil =>
        simp only [Bool.and_eq_true] at h
        obtain ⟨b1, b2, b3, b4⟩ := boot_ty2 t ht
        exact re_isi ht (x.gl g1) (x.mg (by decide)) (x.gl g2) (x.mg b2) b1 b3 b4 ((hs c rfl n k X W y x).1 h.1.2) h.1.1
theorem se_bi {b : Bim} {cs : CEs} (hs : SEs T C cs) (hb : ∀ t, b ≠ .isi t) : SE T C (.bi b cs) := by
  have shape : ∀ k e, ck (.bi b cs) k false e = true → ∃ x p e0 es pos, e = .Call (.Name x p) (e0 :: es) [] pos ∧ biN b x = true ∧ glB k.sc x = true ∧ cks cs k (e0 :: es) = true := fun k e h => by
    cases b with
    | isi t => exact absurd rfl (hb t)
    | _ =>
      unfold ck at h
      simp only at h
      split at h
      · simp only [Bool.and_eq_true] at h
        exact ⟨_, _, _, _, _, rfl, h.1.1, h.1.2, h.2⟩
      · cases h
  have mode : ∀ k e, ck (.bi b cs) k true e = ck (.bi b cs) k false e := fun k e => by cases b <;> rfl
  refine SE.of (eBi b (evs C cs)) rfl mode (fun k e h => ?_) fun n k X W e x h => ?_
  · obtain ⟨_, _, _, _, _, rfl, _⟩ := shape k e h; rfl
  · obtain ⟨y, p, e0, es, pos, rfl, h1, h2, h3⟩ := shape k e h
    obtain ⟨pa, pn, pl⟩ := hs n k X W _ x h3
    cases b <;> first | (cases h1; done) | skip
    all_goals (have h1 := of_decide_eq_true h1; subst h1)
    · exact re_biB cb_len (x.gl h2) (x.mg (by decide)) boot_len2 pa (by decide) (by decide) pn
    · exact re_biT cb_int (x.gl h2) (x.mg (by decide)) PyProof.Rows.boot_int pa (by decide) (by decide) pn
    · exact re_biT (cb_list x.calm) (x.gl h2) (x.mg (by decide)) PyProof.Rows.boot_list pa (by decide) (by decide) pn
    · exact re_biT cb_tuple (x.gl h2) (x.mg (by decide)) PyProof.Rows.boot_tuple pa (by decide) (by decide) pn
    · exact re_biB (cb_max2 x.calm) (x.gl h2) (x.mg (by decide)) boot_max2 pa (by decide) (by decide) pn
    · exact re_biB (cb_min2 x.calm) (x.gl h2) (x.mg (by decide)) boot_min2 pa (by decide) (by decide) pn
    · exact re_biB cb_ord (x.gl h2) (x.mg (by decide)) boot_ord2 pa (by decide) (by decide) pn
    · exact re_biB cb_abs (x.gl h2) (x.mg (by decide)) boot_abs2 pa (by decide) (by decide) pn
    · exact re_biB (cb_sum x.calm) (x.gl h2) (x.mg (by decide)) boot_sum2 pa (by decide) (by decide) pn
    · exact re_biB (cb_sorted x.room) (x.gl h2) (x.mg (by decide)) PyProof.Rows.boot_sorted pa (by decide) (by decide) pn
theorem se_srt {t : Nat} {n : List Nat} {a : CE} (ha : SE T C a) : SE T C (.srt t n a) := by
  have shape : ∀ k e, ck (.srt t n a) k false e = true → ∃ p e0 ps bd scp lp kp pos y, e = .Call (.Name "sorted" p) [e0] [⟨some (Str.ofString "key"), .Lambda ps bd scp lp, kp⟩] pos ∧ lamArg ps = some y ∧ k.lam = some n ∧ glB k.sc "sorted" = true ∧ noStar e0 = true ∧ ck a k false e0 = true ∧ lamSc y scp = true ∧ lenKey y scp bd = true := fun k e h => by
    unfold ck at h
    split at h
    · split at h
      · rename_i y hy
        simp only [Bool.and_eq_true, decide_eq_true_eq] at h
        obtain ⟨⟨⟨⟨⟨⟨⟨rfl, rfl⟩, h3⟩, h4⟩, h5⟩, h6⟩, h7⟩, h8⟩ := h
        exact ⟨_, _, _, _, _, _, _, _, y, rfl, hy, h3, h4, h5, h6, h7, h8⟩
      · cases h
    · cases h
  refine SE.of (eSrt t n (evP C a).1) rfl (fun _ _ => rfl) (fun k e h => ?_) fun N k X W e x h => ?_
  · obtain ⟨_, _, _, _, _, _, _, _, _, rfl, _⟩ := shape k e h; rfl
  · obtain ⟨p, e0, ps, bd, scp, lp, kp, pos, y, rfl, h1, h2, h3, h4, h5, h6, h7⟩ := shape k e h
    obtain ⟨hN, c, P, l1, l2, l3, l4⟩ := x.lam n h2
    exact re_srt (x.gl h3) (x.mg (by decide)) (x.mg (by decide)) x.room hN ((ha N k X W e0 x).1 h5) h4 h1 h6 h7 l1 l2 l3 l4
theorem plainO_ok {o : Expr} (h : plainO o = true) (name : Str) (env : Env) : attributeBase o name env (eval o env) = eval o env := by
  cases o <;> first | rfl | cases h
theorem recv_lst {m : Mem} {u : Viewm} (hm : m = .append ∨ m = .extend ∨ m = .pop0) (h : recvOk m (some u) = true) : ∃ l, u = .m (.lst l) := by
  unfold recvOk at h
  rcases hm with rfl | rfl | rfl <;> (split at h <;> simp_all)
theorem recv_str {u : Viewm} (h : recvOk .join (some u) = true) : ∃ l, u = .p (.str l) := by
  unfold recvOk at h
  split at h <;> simp_all
theorem se_meth {m : Mem} {r : CE} {cs : CEs} (hr : SE T C r) (hs : SEs T C cs) : SE T C (.meth m r cs) := by
  have shape : ∀ k e, ck (.meth m r cs) k false e = true → (∃ o x ap cp, e = .Call (.Attribute o x ap) [] [] cp ∧ m = .pop ∧ cs = .nil ∧ x = "pop" ∧ plainO o = true ∧ ap.endLine = cp.line ∧ ck r k false o = true) ∨
      ∃ o x ap y cp, e = .Call (.Attribute o x ap) [y] [] cp ∧ meN m x = true ∧ plainO o = true ∧ ap.endLine = cp.line ∧ ck r k false o = true ∧ cks cs k [y] = true := fun k e h => by
    unfold ck at h
    split at h
    · split at h
      · simp only [Bool.and_eq_true, decide_eq_true_eq] at h
        exact .inl ⟨_, _, _, _, rfl, rfl, rfl, h.1.1.1, h.1.1.2, h.1.2, h.2⟩
      · cases h
    · simp only [Bool.and_eq_true, decide_eq_true_eq] at h
      exact .inr ⟨_, _, _, _, _, rfl, h.1.1.1.1, h.1.1.1.2, h.1.1.2, h.1.2, h.2⟩
    · cases h
  refine SE.of (eMeth m (evP C r).1 (evs C cs)) rfl (fun _ _ => rfl) (fun k e h => ?_) fun n k X W e x h => ?_
  · rcases shape k e h with ⟨_, _, _, _, rfl, _⟩ | ⟨_, _, _, _, _, rfl, _⟩ <;> rfl
  · rcases shape k e h with ⟨o, y, ap, cp, rfl, rfl, rfl, h1, h2, h3, h4⟩ | ⟨o, y, ap, z, cp, rfl, h1, h2, h3, h4, h5⟩
    · exact re_pop h1 ((hr n k X W o x).1 h4) (plainO_ok h2 _ _) (by rw [h3]; simp)
    · have po := (hr n k X W o x).1 h4
      obtain ⟨pa, pn, pl⟩ := hs n k X W _ x h5
      have pl : cs.len = 1 := pl.symm
      rw [pl] at pa
      have hb := plainO_ok h2 y X.env
      have hl : (ap.endLine == cp.line) = true := by rw [h3]; simp
      have hz : noStar z = true := by
        rw [List.all_cons, Bool.and_eq_true] at pn
        exact pn.1
      cases m <;> first | (cases h1; done) | skip
      all_goals (have h1 := of_decide_eq_true h1; subst h1)
      · exact re_meth1 F.plainAttrs_list F.slot_list_append F.type_list_append mt_append (fun q v => by obtain ⟨l, rfl⟩ := recv_lst (.inl rfl) q; exact recv_tyV v) append_end po pa hb hl hz
      · exact re_meth1 F.plainAttrs_list F.slot_list_extend F.type_list_extend mt_extend (fun q v => by obtain ⟨l, rfl⟩ := recv_lst (.inr (.inl rfl)) q; exact recv_tyV v) extend_end po pa hb hl hz
      · exact re_meth1 F.plainAttrs_list F.slot_list_pop F.type_list_pop mt_popAt (fun q v => by obtain ⟨l, rfl⟩ := recv_lst (.inr (.inr rfl)) q; exact recv_tyV v) pop0_end po pa hb hl hz
      · exact re_meth1 F.plainAttrs_str F.slot_str_join F.type_str_join mt_join (fun q v => by obtain ⟨l, rfl⟩ := recv_str q; exact recv_tyS v) join_end po pa hb hl hz
theorem nofold {e : Expr} (h : notSet e = true) (env : Env) : ∀ x, foldedSetIterable e env x = pure x := by
  cases e <;> first | (intro _; rfl) | cases h
theorem trueC_ok {c : CE} (h : trueC c = true) : (evP C c).2 = fun st => .ok true st := by
  unfold trueC at h
  split at h
  · rfl
  · cases h
theorem pts_yes : PTs X [] (rdT T X.K W fun st => .ok true st) := ⟨fun pins s σ H Q I h => pts_nil.run pins s σ H Q I (by
  obtain ⟨w, st, R, h⟩ := h
  exact h H w (.refl R))⟩
theorem se_comp {el c : CE} {t : Tgtm} {it : CI} {ws : List Nat} (he : SE T C el) (hi : SI T C it) (hc : SE T C c) : SE T C (.comp el t it c ws) := by
  have shape : ∀ k e, ck (.comp el t it c ws) k false e = true → ∃ elt tg iter ifs scope pos, e = .ListComp elt [⟨tg, iter, ifs, 0⟩] scope pos ∧ blkC k.N k.sc scope (ownOf k ws) = true ∧ (t.vars.all fun i => ws.contains i) = true ∧ notSet iter = true ∧ ckI it k (isTupE tg) iter = true ∧
      ckG (k.blk scope) t tg = true ∧ ck el (k.blk scope) false elt = true ∧ ((ifs = [] ∧ trueC c = true) ∨ ∃ y, ifs = [y] ∧ ck c (k.blk scope) true y = true) := fun k e h => by
    unfold ck at h
    split at h
    · rename_i elt tg iter ifs scope pos
      simp only [Bool.and_eq_true] at h
      obtain ⟨⟨⟨⟨⟨⟨h1, h2⟩, h3⟩, h4⟩, h5⟩, h6⟩, h7⟩ := h
      refine ⟨elt, tg, iter, ifs, scope, pos, rfl, h1, h2, h3, h4, h5, h6, ?_⟩
      split at h7
      · exact .inl ⟨rfl, h7⟩
      · exact .inr ⟨_, rfl, h7⟩
      · cases h7
    · cases h
  refine SE.of (eComp (evP C el).1 t (evI C it) (evP C c).2 ws) rfl (fun _ _ => rfl) (fun k e h => ?_) fun n k X W e x h => ?_
  · obtain ⟨_, _, _, _, _, _, rfl, _⟩ := shape k e h; rfl
  · obtain ⟨elt, tg, iter, ifs, scope, pos, rfl, h1, h2, h3, h4, h5, h6, h7⟩ := shape k e h
    have hown : (ownOf k ws).map (·.2) = ws := by
      unfold ownOf
      rw [List.map_map]
      show ws.map (fun i => i) = ws
      simp
    have hv : ∀ i, i ∈ t.vars → i ∈ ws := fun i hi => by
      have := List.all_eq_true.mp h2 i hi
      simpa using this
    have key := pe_lc (ifs := ifs) (own := ownOf k ws) (wi := rdI T X.K W (evI C it)) (g := rdG X.K t) (tt := rdT T X.K (fun _ _ _ _ => False) (evP C c).2) (te := rdE T X.K (fun _ _ _ _ => False) (evP C el).1) (pos := pos) x.calm (by rw [x.N]; exact x.nd) (hi n k X W tg iter x h4)
      (blkOk_by (by rw [x.N, x.sc]; exact h1)) (fun s H D cl fp => sG (x.blk s H scope D cl fp) t tg h5) (fun s H D cl fp => ?_) (fun s H D cl fp => (he n _ _ _ elt (x.blk s H scope D cl fp)).1 h6) (nofold h3 _)
    · rw [hown] at key
      exact PE.imp key fun σ H Q q => comp_rd hv q
    · rcases h7 with ⟨rfl, h7⟩ | ⟨y, rfl, h7⟩
      · rw [trueC_ok h7]
        exact pts_yes
      · exact pts_one ((hc n _ _ _ y (x.blk s H scope D cl fp)).2 h7)

/-! ### lists -/
theorem ses_nil : SEs T C .nil := by
  intro n k X W es x h
  cases es with
  | nil => exact ⟨ra_nil, rfl, rfl⟩
  | cons e es => cases h
theorem ses_cons {c : CE} {cs : CEs} (hc : SE T C c) (hs : SEs T C cs) : SEs T C (.cons c cs) := by
  intro n k X W es x h
  cases es with
  | nil => cases h
  | cons e es =>
    have h : (noStar e && ck c k false e && cks cs k es) = true := h
    simp only [Bool.and_eq_true] at h
    obtain ⟨pa, pn, pl⟩ := hs n k X W es x h.2
    exact ⟨ra_cons ((hc n k X W e x).1 h.1.2) pa h.1.1, by rw [List.all_cons, h.1.1, pn]; rfl, by rw [List.length_cons, pl]; rfl⟩
theorem sks_nil : SKs T C .nil := by
  intro n k X W es x h
  cases es with
  | nil => exact ⟨rk_nil, rfl⟩
  | cons e es => obtain ⟨_, _, _⟩ := e; cases h
theorem sks_cons {c : CE} {cs : CEs} (hc : SE T C c) (hs : SKs T C cs) : SKs T C (.cons c cs) := by
  intro n k X W es x h
  cases es with
  | nil => cases h
  | cons e es =>
    obtain ⟨nm, v, p⟩ := e
    have h : (noStar v && ck c k false v && cks cs k (kwV es)) = true := h
    simp only [Bool.and_eq_true] at h
    obtain ⟨pa, pl⟩ := hs n k X W es x h.2
    exact ⟨rk_cons ((hc n k X W v x).1 h.1.2) pa, by rw [List.length_cons, ← pl]; rfl⟩

/-! ### iterables -/
theorem si_seq {c : CE} (hc : SE T C c) : SI T C (.seq c) := fun n k X W tg e x h => ri_seq ((hc n k X W e x).1 h)
theorem si_rng {cs : CEs} (hs : SEs T C cs) : SI T C (.rng cs) := by
  intro n k X W tg e x h
  unfold ckI at h
  split at h
  · simp only [Bool.and_eq_true, decide_eq_true_eq] at h
    obtain ⟨⟨rfl, h2⟩, h3⟩ := h
    obtain ⟨pa, pn, pl⟩ := hs n k X W _ x h3
    have pl : cs.len = 1 := pl.symm
    rw [pl] at pa
    simp only [List.all_cons, Bool.and_eq_true] at pn
    exact ri_rng1 (x.gl h2) (x.mg (by decide)) pa pn.1
  · simp only [Bool.and_eq_true, decide_eq_true_eq] at h
    obtain ⟨⟨rfl, h2⟩, h3⟩ := h
    obtain ⟨pa, pn, pl⟩ := hs n k X W _ x h3
    have pl : cs.len = 2 := pl.symm
    rw [pl] at pa
    simp only [List.all_cons, Bool.and_eq_true] at pn
    exact ri_rng2 (x.gl h2) (x.mg (by decide)) pa pn.1 pn.2.1
  · cases h
theorem isTupE_ok {tg : Expr} (h : isTupE tg = true) : ∃ es kk p, tg = .Tuple es kk p := by
  unfold isTupE at h
  split at h
  · exact ⟨_, _, _, rfl⟩
  · cases h
theorem si_enum {cs : CEs} (hs : SEs T C cs) : SI T C (.enum cs) := by
  intro n k X W tg e x h
  unfold ckI at h
  split at h
  · simp only [Bool.and_eq_true, decide_eq_true_eq] at h
    obtain ⟨⟨⟨h0, rfl⟩, h2⟩, h3⟩ := h
    obtain ⟨es, kk, p, rfl⟩ := isTupE_ok h0
    obtain ⟨pa, pn, pl⟩ := hs n k X W _ x h3
    have pl : cs.len = 1 := pl.symm
    rw [pl] at pa
    simp only [List.all_cons, Bool.and_eq_true] at pn
    exact ri_enum (x.gl h2) (x.mg (by decide)) pa pn.1
  · cases h
theorem se_dnew (t : Bool) : SE T C (.dnew t) := by
  have shape : ∀ k m e, ck (.dnew t) k m e = true → ∃ p, e = .Dict [] [] p := fun k m e h => by
    unfold ck at h
    split at h
    · exact ⟨_, rfl⟩
    · cases h
  refine SE.of (eDnew t) rfl (fun _ _ => rfl) (fun k e h => ?_) fun n k X W e x h => ?_
  · obtain ⟨p, rfl⟩ := shape _ _ _ h; rfl
  · obtain ⟨p, rfl⟩ := shape _ _ _ h; exact re_dnew t
theorem u1_of {n : Nat} {X : Cx} (r : Room n X.A) : X.A.units + 1 < cLine := by have := r.un; omega
theorem se_dget {a b : CE} (ha : SE T C a) (hb : SE T C b) : SE T C (.dget a b) := by
  refine SE.of (eDget (evP C a).1 (evP C b).1) rfl (fun _ _ => rfl) (fun k e h => ?_) fun n k X W e x h => ?_
  · cases e <;> first | rfl | cases h
  · cases e <;> first | (cases h; done) | skip
    rename_i y z p
    have h : (notSlice z && ck a k false y && ck b k false z) = true := h
    simp only [Bool.and_eq_true] at h
    refine re_dget (u1_of x.room) ((ha n k X W y x).1 h.1.2) ((hb n k X W z x).1 h.2) ?_
    intro o i
    have := h.1.1
    cases z <;> first | rfl | cases this
theorem din_bool {neg : Bool} {mb ma : Sm → Resm RVm} {st st' : Sm} {r : RVm} (h : eDin neg mb ma st = .ok r st') : ∃ k, r = .val (.bl k) := by
  obtain ⟨x, s1, _, h⟩ := bind_ok_inv h
  obtain ⟨y, s2, _, h⟩ := bind_ok_inv h
  split at h
  · cases h; exact ⟨_, rfl⟩
  · cases h
theorem se_din {neg : Bool} {a b : CE} (hb : SE T C b) (ha : SE T C a) : SE T C (.din neg b a) := by
  have shape : ∀ k m e, ck (.din neg b a) k m e = true → ∃ y x p, e = .Compare y [if neg then .NotIn else .In] [x] p ∧ notSet x = true ∧ ck a k false x = true ∧ ck b k false y = true := fun k m e h => by
    unfold ck at h
    split at h
    · simp only [Bool.and_eq_true, Bool.not_eq_true'] at h
      obtain ⟨⟨⟨rfl, h1⟩, h2⟩, h3⟩ := h
      exact ⟨_, _, _, rfl, h1, h2, h3⟩
    · simp only [Bool.and_eq_true] at h
      obtain ⟨⟨⟨rfl, h1⟩, h2⟩, h3⟩ := h
      exact ⟨_, _, _, rfl, h1, h2, h3⟩
    · cases h
  intro n k X W e x
  have main : ∀ m, ck (.din neg b a) k m e = true → PE X e (rdE T X.K W (eDin neg (evP C b).1 (evP C a).1)) := fun m h => by
    obtain ⟨y, z, p, rfl, h1, h2, h3⟩ := shape _ _ _ h
    cases neg
    · exact re_din (u1_of x.room) ((hb n k X W y x).1 h3) ((ha n k X W z x).1 h2) (nob h1 _)
    · exact re_dnin (u1_of x.room) ((hb n k X W y x).1 h3) ((ha n k X W z x).1 h2) (nob h1 _)
  refine ⟨fun h => main _ h, fun h => ?_⟩
  obtain ⟨y, z, p, rfl, h1, h2, h3⟩ := shape _ _ _ h
  show PT X _ (rdT T X.K W (tst (eDin neg (evP C b).1 (evP C a).1)))
  cases neg
  · exact PT.imp (pt_cmp (pc_din (u1_of x.room) ((hb n k X W y x).1 h3) ((ha n k X W z x).1 h2)) (nob h1 _)) fun σ H Q q => din_imp (tst_bool din_bool q)
  · exact PT.imp (pt_cmp (pc_dnotin (u1_of x.room) ((hb n k X W y x).1 h3) ((ha n k X W z x).1 h2)) (nob h1 _)) fun σ H Q q => dnin_imp (tst_bool din_bool q)
theorem se_dget2 {a b c : CE} (ha : SE T C a) (hb : SE T C b) (hc : SE T C c) : SE T C (.dget2 a b c) := by
  have shape : ∀ k m e, ck (.dget2 a b c) k m e = true → ∃ o ap y w cp, e = .Call (.Attribute o "get" ap) [y, w] [] cp ∧ plainO o = true ∧ ap.endLine = cp.line ∧ noStar y = true ∧ noStar w = true ∧ ck a k false o = true ∧ ck b k false y = true ∧ ck c k false w = true := fun k m e h => by
    unfold ck at h
    split at h
    · simp only [Bool.and_eq_true, decide_eq_true_eq] at h
      obtain ⟨⟨⟨⟨⟨⟨⟨rfl, h1⟩, h2⟩, h3⟩, h4⟩, h5⟩, h6⟩, h7⟩ := h
      exact ⟨_, _, _, _, _, rfl, h1, h2, h3, h4, h5, h6, h7⟩
    · cases h
  refine SE.of (eDget2 (evP C a).1 (evP C b).1 (evP C c).1) rfl (fun _ _ => rfl) (fun k e h => ?_) fun n k X W e x h => ?_
  · obtain ⟨_, _, _, _, _, rfl, _⟩ := shape _ _ _ h; rfl
  · obtain ⟨o, ap, y, z, cp, rfl, h1, h2, h3, h4, h5, h6, h7⟩ := shape _ _ _ h
    exact re_dget2 (u1_of x.room) ((ha n k X W o x).1 h5) ((hb n k X W y x).1 h6) ((hc n k X W z x).1 h7) ⟨plainO_ok h1 _ _, few_ok (by simp [h3, h4]) (by show 2 < 30; decide), by rw [h2]; simp, by rw [star_cons h3, star_cons h4]; rfl⟩
theorem si_zip {cs : CEs} (hs : SEs T C cs) : SI T C (.zip cs) := by
  intro n k X W tg e x h
  unfold ckI at h
  split at h
  · simp only [Bool.and_eq_true, decide_eq_true_eq] at h
    obtain ⟨⟨⟨h0, rfl⟩, h2⟩, h3⟩ := h
    obtain ⟨es, kk, p, rfl⟩ := isTupE_ok h0
    obtain ⟨pa, pn, pl⟩ := hs n k X W _ x h3
    have pl : cs.len = 2 := pl.symm
    rw [pl] at pa
    simp only [List.all_cons, Bool.and_eq_true] at pn
    exact ri_zip (x.gl h2) (x.mg (by decide)) pa pn.1 pn.2.1
  · cases h
theorem se_none {c : CE} (h : ∀ k m e, ck c k m e = false) : SE T C c := fun n k X W e x => ⟨fun q => (by rw [h] at q; cases q), fun q => (by rw [h] at q; cases q)⟩
mutual
theorem sE : ∀ c : CE, SE T C c
  | .var i => se_var i
  | .cst v => se_cst v
  | .esc i => se_esc i
  | .tup cs => se_tup (sEs cs).1
  | .lst cs => se_lst (sEs cs).1
  | .bin op a b => se_bin (sE a) (sE b)
  | .neg a => se_neg (sE a)
  | .cmp op a b => se_cmp (sE a) (sE b)
  | .chain o1 o2 a b c => se_chain (sE a) (sE b) (sE c)
  | .and a b => se_and (sE a) (sE b)
  | .or a b => se_or (sE a) (sE b)
  | .not a => se_not (sE a)
  | .ite c a b => se_ite (sE c) (sE a) (sE b)
  | .idx a i => se_idx (sE a) (sE i)
  | .slc a lo hi => se_slc (sE a) (sE lo) (sE hi)
  | .rev a => se_rev (sE a)
  | .call f cs p => se_call (sEs cs).1 (sEs cs).2.1
  | .bi b cs => by
    by_cases hb : ∃ t, b = .isi t
    · obtain ⟨t, rfl⟩ := hb
      exact se_isi (sEs cs).2.2
    · exact se_bi (sEs cs).1 fun t z => hb ⟨t, z⟩
  | .meth m r cs => se_meth (sE r) (sEs cs).1
  | .comp el t it c w => se_comp (sE el) (sI it) (sE c)
  | .excf i f => se_none fun _ _ _ => rfl
  | .dnew t => se_dnew t
  | .dget d k => se_dget (sE d) (sE k)
  | .din neg k d => se_din (sE k) (sE d)
  | .dget2 d k x => se_dget2 (sE d) (sE k) (sE x)
  | .srt t n a => se_srt (sE a)
theorem sEs : ∀ cs : CEs, SEs T C cs ∧ SKs T C cs ∧ ∀ c, cs = .cons c .nil → SE T C c
  | .nil => ⟨ses_nil, sks_nil, fun c h => by cases h⟩
  | .cons c cs => ⟨ses_cons (sE c) (sEs cs).1, sks_cons (sE c) (sEs cs).2.1, fun d h => by cases h; exact sE c⟩
theorem sI : ∀ c : CI, SI T C c
  | .seq c => si_seq (sE c)
  | .rng cs => si_rng (sEs cs).1
  | .enum cs => si_enum (sEs cs).1
  | .zip cs => si_zip (sEs cs).1
end
end
end Mp

set_option Elab.async false
set_option linter.all false
set_option maxRecDepth 100000
set_option maxHeartbeats 2000000
/-! Mp17: statements' ends; plain statements, while, for. -/
namespace Mp
open PySem PySem.Spec PyProof.Rows L2

/-- the state behind a statement; A: the slots that may be stored -/
structure PostS (K : PySem.W.Frag) (w : Wl) (σ : L2.St) (H : Hp) (st : Sm) (A : List Nat) (st' : Sm) (σ' : L2.St) (H' : Hp) (w' : Wl) : Prop where
  le : w.le w'
  rel : Rel K w' σ' H' st'
  ext : Ext H (Foot st.env σ w) w.S H' (Foot st'.env σ' w') w'.S
  len : st'.env.length = st.env.length
  out : ∀ i, i ∉ A → σ'[i]? = σ[i]?
/-- .. with a result -/
structure PostR (K : PySem.W.Frag) (w : Wl) (σ : L2.St) (H : Hp) (st : Sm) (A : List Nat) (r : RVm) (st' : Sm) (v : V) (σ' : L2.St) (H' : Hp) (w' : Wl) : Prop where
  le : w.le w'
  rel : Rel K w' σ' H' st'
  res : RRel K w' σ' H' v r
  ext : Ext H (Foot st.env σ w) w.S H' (fun a => Foot st'.env σ' w' a ∨ ResA r v a) w'.S
  new : ∀ a, ResA r v a → ¬ Foot st'.env σ' w' a
  len : st'.env.length = st.env.length
  out : ∀ i, i ∉ A → σ'[i]? = σ[i]?
section
variable {T : ExT} {K : PySem.W.Frag} {W : WX} {w w1 w2 w3 : Wl} {σ σ1 σ2 : L2.St} {H H1 H2 H3 : Hp} {st st1 st2 st3 : Sm} {r r2 : RVm} {v v2 : V} {rs : List RVm} {vs : List V} {A B : List Nat} {D : Ends}
theorem PostS.refl (R : Rel K w σ H st) : PostS K w σ H st A st σ H w := ⟨.refl w, R, Ext.refl, rfl, fun _ _ => rfl⟩
theorem PostS.trans (P : PostS K w σ H st A st1 σ1 H1 w1) (Q : PostS K w1 σ1 H1 st1 A st2 σ2 H2 w2) : PostS K w σ H st A st2 σ2 H2 w2 :=
  ⟨P.le.trans Q.le, Q.rel, (P.ext.trans (fun _ h => h) Q.ext).weak fun _ h => .inl h, Q.len.trans P.len, fun i h => (Q.out i h).trans (P.out i h)⟩
theorem PostS.mono (P : PostS K w σ H st A st1 σ1 H1 w1) (h : ∀ i, i ∈ A → i ∈ B) : PostS K w σ H st B st1 σ1 H1 w1 := ⟨P.le, P.rel, P.ext, P.len, fun i q => P.out i fun z => q (h i z)⟩
theorem PostM.toS (P : PostM K w σ H st st1 H1 w1) : PostS K w σ H st A st1 σ H1 w1 := ⟨P.le, P.rel, P.ext, P.len, fun _ _ => rfl⟩
theorem PostS.afterR (P : PostS K w σ H st A st1 σ1 H1 w1) (Q : PostR K w1 σ1 H1 st1 A r st2 v σ2 H2 w2) : PostR K w σ H st A r st2 v σ2 H2 w2 :=
  ⟨P.le.trans Q.le, Q.rel, Q.res, (P.ext.trans (fun _ h => h) Q.ext).weak fun _ h => .inl h, Q.new, Q.len.trans P.len, fun i h => (Q.out i h).trans (P.out i h)⟩
theorem PostR.mono (P : PostR K w σ H st A r st1 v σ1 H1 w1) (h : ∀ i, i ∈ A → i ∈ B) : PostR K w σ H st B r st1 v σ1 H1 w1 := ⟨P.le, P.rel, P.res, P.ext, P.new, P.len, fun i q => P.out i fun z => q (h i z)⟩
theorem PostE.toR (P : PostE K w σ H st r st1 v H1 w1) : PostR K w σ H st A r st1 v σ H1 w1 := ⟨P.le, P.rel, P.res, P.ext, P.new, P.len, fun _ _ => rfl⟩
theorem PostX.afterS {x : Exm} {cls : Value} {d : Option Addr} (P : PostS K w σ H st A st1 σ1 H1 w1) (Q : PostX T K w1 σ1 H1 st1 x st2 cls d σ2 H2 w2) : PostX T K w σ H st x st2 cls d σ2 H2 w2 :=
  ⟨P.le.trans Q.le, Q.rel, Q.exc, (P.ext.trans (fun _ h => h) Q.ext).weak fun _ h => .inl h, Q.len.trans P.len⟩

def EndS (T : ExT) (K : PySem.W.Frag) (W : WX) (w : Wl) (σ : L2.St) (H : Hp) (st : Sm) (A : List Nat) (D : Ends) : Resm Flm → Prop
  | .stuck => False
  | .err x st' => ∀ cls d σ' H' w', PostX T K w σ H st x st' cls d σ' H' w' → (∀ i, i ∉ A → σ'[i]? = σ[i]?) → W cls d σ' H'
  | .ok .nx st' => ∀ σ' H' w', PostS K w σ H st A st' σ' H' w' → D.nx σ' H'
  | .ok .brk st' => ∀ σ' H' w', PostS K w σ H st A st' σ' H' w' → D.bk σ' H'
  | .ok .cont st' => ∀ σ' H' w', PostS K w σ H st A st' σ' H' w' → D.ct σ' H'
  | .ok (.ret r) st' => ∀ v σ' H' w', PostR K w σ H st A r st' v σ' H' w' → D.rt v H'
def rdS (T : ExT) (K : PySem.W.Frag) (W : WX) (A : List Nat) (m : Sm → Resm Flm) : TS := fun D σ H => ∃ w st, Rel K w σ H st ∧ EndS T K W w σ H st A D (m st)
/-- from a later state on -/
theorem EndS.step {m : Resm Flm} (P : PostS K w σ H st A st1 σ1 H1 w1) (h : EndS T K W w σ H st A D m) : EndS T K W w1 σ1 H1 st1 A D m := by
  cases m with
  | stuck => exact h
  | err x st' => exact fun cls d σ' H' w' q o => h cls d σ' H' w' (PostX.afterS P q) fun i hi => (o i hi).trans (P.out i hi)
  | ok fl st' =>
    cases fl with
    | nx => exact fun σ' H' w' q => h σ' H' w' (P.trans q)
    | brk => exact fun σ' H' w' q => h σ' H' w' (P.trans q)
    | cont => exact fun σ' H' w' q => h σ' H' w' (P.trans q)
    | ret r => exact fun v σ' H' w' q => h v σ' H' w' (P.afterR q)
/-- fewer slots stored -/
theorem EndS.less {m : Resm Flm} (h : EndS T K W w σ H st B D m) (i : ∀ j, j ∈ A → j ∈ B) : EndS T K W w σ H st A D m := by
  cases m with
  | stuck => exact h
  | err x st' => exact fun cls d σ' H' w' q o => h cls d σ' H' w' q fun j hj => o j fun z => hj (i j z)
  | ok fl st' =>
    cases fl with
    | nx => exact fun σ' H' w' q => h σ' H' w' (q.mono i)
    | brk => exact fun σ' H' w' q => h σ' H' w' (q.mono i)
    | cont => exact fun σ' H' w' q => h σ' H' w' (q.mono i)
    | ret r => exact fun v σ' H' w' q => h v σ' H' w' (q.mono i)
/-- a statement, then more -/
theorem EndS.seq {m : Resm Flm} {f : Sm → Resm Flm} {t : Ends → L2.St → Hp → Prop} (h : EndS T K W w σ H st A D (m.bind fun fl st => match fl with
      | .nx => f st
      | fl => .ok fl st)) (ht : ∀ w1 σ1 H1 st1, Rel K w1 σ1 H1 st1 → EndS T K W w1 σ1 H1 st1 A D (f st1) → t D σ1 H1) :
    EndS T K W w σ H st A { D with nx := t D } m := by
  cases m with
  | stuck => exact h
  | err x st' => exact h
  | ok fl st' =>
    cases fl with
    | nx => exact fun σ' H' w' q => ht w' σ' H' st' q.rel (EndS.step q h)
    | brk => exact h
    | cont => exact h
    | ret r => exact h
/-- an expression, then an end that is at once -/
theorem EndE.bindS {m : Resm RVm} {f : RVm → Sm → Resm Flm} (h : EndS T K W w σ H st A D (m.bind f)) :
    EndE T K W w σ H st (fun v H1 => ∃ r st1 w1, PostE K w σ H st r st1 v H1 w1 ∧ EndS T K W w σ H st A D (f r st1)) m := by
  cases m with
  | stuck => exact h
  | err x st' => exact fun cls d H' w' q => h cls d σ H' w' q fun _ _ => rfl
  | ok r st1 => exact fun v H1 w1 P => ⟨r, st1, w1, P, h⟩
theorem EndA.bindS {m : Resm (List RVm)} {f : List RVm → Sm → Resm Flm} (h : EndS T K W w σ H st A D (m.bind f)) :
    EndA T K W w σ H st (fun vs H1 => ∃ rs st1 w1, PostA K w σ H st rs st1 vs H1 w1 ∧ EndS T K W w σ H st A D (f rs st1)) m := by
  cases m with
  | stuck => exact h
  | err x st' => exact fun cls d H' w' q => h cls d σ H' w' q fun _ _ => rfl
  | ok r st1 => exact fun v H1 w1 P => ⟨r, st1, w1, P, h⟩
theorem EndT.bindS {m : Resm Bool} {f : Bool → Sm → Resm Flm} (h : EndS T K W w σ H st A D (m.bind f)) :
    EndT T K W w σ H st (fun b H1 => ∃ st1 w1, PostM K w σ H st st1 H1 w1 ∧ EndS T K W w1 σ H1 st1 A D (f b st1)) m := by
  cases m with
  | stuck => exact h
  | err x st' => exact fun cls d H' w' q => h cls d σ H' w' q fun _ _ => rfl
  | ok r st1 => exact fun H1 w1 P => ⟨st1, w1, P, EndS.step P.toS h⟩
theorem EndI.bindS {m : Resm Itmm} {f : Itmm → Sm → Resm Flm} (h : EndS T K W w σ H st A D (m.bind f)) :
    EndI T K W w σ H st (fun J H1 => ∃ I st1 w1 IA, PostI K w σ H st I st1 J H1 w1 IA ∧ EndS T K W w σ H st A D (f I st1)) m := by
  cases m with
  | stuck => exact h
  | err x st' => exact fun cls d H' w' q => h cls d σ H' w' q fun _ _ => rfl
  | ok I st1 => exact fun J H1 w1 IA P => ⟨I, st1, w1, IA, P, h⟩
theorem PostB.toS {xs : List Nat} (P : PostM K w σ H st st1 H1 w1) (B : PostB K w1 σ H1 st1 xs σ2 st2) (hx : ∀ i, i ∈ xs → i ∈ A) : PostS K w σ H st A st2 σ2 H1 w1 :=
  ⟨P.le, B.rel, P.ext.weak B.foot, B.len.trans P.len, fun i h => (B.out i fun z => h (hx i z)).1⟩
end

section
variable {T : ExT} {W : WX} {X : Cx} {a b c o e : Expr} {es : List Expr} {pos : Pos} {ma mb mc : Sm → Resm RVm} {tc : Sm → Resm Bool} {ms : Sm → Resm (List RVm)} {mi : Sm → Resm Itmm} {A : List Nat} {s : Stmt} {ss : List Stmt} {m1 m2 : Sm → Resm Flm}
theorem PS.imp {X : Cx} {e : Stmt} {t t' : TS} (h : PS X e t) (i : ∀ D σ H, t' D σ H → t D σ H) : PS X e t' := ⟨fun pins s σ H D I q => h.run pins s σ H D I (i D σ H q)⟩
theorem PSs.imp {X : Cx} {e : List Stmt} {t t' : TS} (h : PSs X e t) (i : ∀ D σ H, t' D σ H → t D σ H) : PSs X e t' := ⟨fun pins s σ H D I q => h.run pins s σ H D I (i D σ H q)⟩
theorem rs_nil : PSs X [] (rdS T X.K W A fun st => .ok .nx st) := PSs.imp pss_nil fun D σ H ⟨w, st, R, h⟩ => h σ H w (.refl R)
theorem rs_cons (h1 : PS X s (rdS T X.K W A m1)) (h2 : PSs X ss (rdS T X.K W A m2)) : PSs X (s :: ss) (rdS T X.K W A fun st => (m1 st).bind fun fl st => match fl with
    | .nx => m2 st
    | fl => .ok fl st) :=
  PSs.imp (pss_cons h1 h2) fun D σ H ⟨w, st, R, h⟩ => ⟨w, st, R, EndS.seq h fun w1 σ1 H1 st1 R1 q => ⟨w1, st1, R1, q⟩⟩
theorem rs_pass : PS X (.Pass pos) (rdS T X.K W A fun st => .ok .nx st) := PS.imp ps_pass fun D σ H ⟨w, st, R, h⟩ => h σ H w (.refl R)
theorem rs_break : PS X (.Break pos) (rdS T X.K W A fun st => .ok .brk st) := PS.imp ps_break fun D σ H ⟨w, st, R, h⟩ => h σ H w (.refl R)
theorem rs_cont : PS X (.Continue pos) (rdS T X.K W A fun st => .ok .cont st) := PS.imp ps_continue fun D σ H ⟨w, st, R, h⟩ => h σ H w (.refl R)
theorem rs_expr (ha : PE X a (rdE T X.K W ma)) (hs : swapsWith a none pos.line X.env = pure false) : PS X (.Expr a pos) (rdS T X.K W A fun st => (ma st).bind fun _ st => .ok .nx st) :=
  PS.imp (ps_expr ha hs) fun D σ H ⟨w, st, R, h⟩ => ⟨w, st, R, (EndE.bindS h).mono fun x H1 ⟨r1, st1, w1, P1, h1⟩ => h1 σ H1 w1 P1.toM.toS⟩
theorem rs_ret (ha : PE X a (rdE T X.K W ma)) : PS X (.Return (some a) pos) (rdS T X.K W A fun st => (ma st).bind fun r st => .ok (.ret r) st) :=
  PS.imp (ps_ret ha) fun D σ H ⟨w, st, R, h⟩ => ⟨w, st, R, (EndE.bindS h).mono fun x H1 ⟨r1, st1, w1, P1, h1⟩ => h1 x σ H1 w1 P1.toR⟩
theorem rs_retN : PS X (.Return none pos) (rdS T X.K W A fun st => .ok (.ret (.val .non)) st) :=
  PS.imp ps_retN fun D σ H ⟨w, st, R, h⟩ => h .non σ H w (PostE.toR (Gives.post R (.val .non)))
theorem rs_if {xs ys : List Stmt} (hc : PT X c (rdT T X.K W tc)) (h1 : PSs X xs (rdS T X.K W A m1)) (h2 : PSs X ys (rdS T X.K W A m2)) : PS X (.If c xs ys pos) (rdS T X.K W A fun st => (tc st).bind fun k st => if k then m1 st else m2 st) :=
  PS.imp (ps_if hc h1 h2) fun D σ H ⟨w, st, R, h⟩ => ⟨w, st, R, (EndT.bindS h).mono fun k H1 ⟨st1, w1, P1, q⟩ => by
    cases k with
    | true => rw [if_pos rfl] at q ⊢; exact ⟨w1, st1, P1.rel, q⟩
    | false => rw [if_neg Bool.false_ne_true] at q ⊢; exact ⟨w1, st1, P1.rel, q⟩⟩
theorem asg_end {T : ExT} {K : PySem.W.Frag} {W : WX} {w w1 : Wl} {σ : L2.St} {H H1 : Hp} {st st1 : Sm} {r : RVm} {v : V} {D : Ends} {t : Tgtm} (P : PostE K w σ H st r st1 v H1 w1) (hA : ∀ i, i ∈ t.vars → i ∈ A) (h : EndS T K W w σ H st A D (asgF t r st1)) :
    (∃ i, t = .v i ∧ D.nx (σ.set i (some v)) H1) ∨ ((∀ i, t ≠ .v i) ∧ rdG K t v σ H1 D.nx) := by
  have fixed : ∀ {t : Tgtm}, (∀ i, i ∈ t.vars → i ∈ A) → EndS T K W w σ H st A D ((fixR r st1).bind fun v st => match bindT t v st with
    | some st => .ok .nx st
    | none => .stuck) → rdG K t v σ H1 D.nx := fun {t} hA h => by
    cases e : fixR r st1 with
    | stuck => rw [e] at h; exact h.elim
    | err x s => exact absurd e fix_noerr
    | ok p st2 =>
      rw [e] at h
      simp only [Resm.bind_ok] at h
      obtain ⟨w2, F⟩ := fix_post P.rel P.res P.new e
      have M : PostM K w σ H st st2 H1 w2 := by
        refine ⟨P.le.trans F.le, F.rel, ⟨P.ext.keep, P.ext.trk, fun a z => P.ext.grow a (.inl (F.foot a z)), fun a z => ?_, P.ext.tup, P.ext.frz⟩, F.len.trans P.len⟩
        rcases F.S a z with z | z | z
        · exact P.ext.growS a z
        · exact .inr (P.ext.grow a (.inl z))
        · exact .inr (P.ext.grow a (.inr z))
      split at h
      · rename_i st3 e3
        exact ⟨w2, st2, p, st3, F.rel, F.res, e3, fun σ' B => h σ' H1 w2 (B.toS M hA)⟩
      · exact h.elim
  unfold asgF at h
  split at h
  · rename_i i o
    split at h
    · rename_i st2 e
      obtain ⟨a, rfl, m, ns⟩ := P.res
      have nf := P.new a ⟨⟨o, rfl⟩, rfl⟩
      obtain ⟨R', rfl, hi, nl, ft⟩ := sets_post P.rel e (.inr (.inl ⟨o, a, rfl, rfl, m, ns, nf⟩))
      refine .inl ⟨i, rfl, h _ H1 w1 ⟨P.le, R', P.ext.weak fun b z => ?_, by simp [P.len], fun j hj => ?_⟩⟩
      · rcases ft b z with z | ⟨_, z⟩
        · exact .inl z
        · exact .inr ⟨⟨o, rfl⟩, z⟩
      · exact List.getElem?_set_ne fun z => hj (hA j (by rw [← z]; simp [Tgtm.vars]))
    · exact h.elim
  · by_cases ht : ∃ i, t = .v i
    · obtain ⟨i, rfl⟩ := ht
      obtain ⟨w2, st2, p, st3, R, rp, e3, q⟩ := fixed hA h
      exact .inl ⟨i, rfl, q _ (sets_postB R rp e3)⟩
    · exact .inr ⟨fun i z => ht ⟨i, z⟩, fixed hA h⟩
theorem rs_asgV {i : Nat} {x : Str} {p : Pos} (hN : X.N.Nodup) (hi : X.N[i]? = some x) (hx : Loc X.env.scope x) (hf : X.fn x = true ∨ X.env.scope.names.lookup x = some .local) (ha : PE X a (rdE T X.K W ma)) (hs : swapsWith a (some (.Name x p)) pos.line X.env = pure false) (hA : i ∈ A) :
    PS X (.Assign [.Name x p] a pos) (rdS T X.K W A fun st => (ma st).bind fun r st => asgF (.v i) r st) :=
  PS.imp (ps_set hN hi hx ha hs hf) fun D σ H ⟨w, st, R, h⟩ => ⟨w, st, R, (EndE.bindS h).mono fun x H1 ⟨r1, st1, w1, P1, h1⟩ => by
    rcases asg_end P1 (fun j hj => by simp [Tgtm.vars] at hj; rw [hj]; exact hA) h1 with ⟨j, e, q⟩ | ⟨n, _⟩
    · cases e; exact q
    · exact absurd rfl (n i)⟩
theorem rs_asgT {t : Tgtm} {tg : Expr} (hg : PG X tg (rdG X.K t)) (ha : PE X a (rdE T X.K W ma)) (ht : ∀ i, t ≠ .v i) (hs : swapsWithSole [tg] a pos.line X.env = pure false) (hw : swappedStores [tg] a X.env = pure none) (h1 : (assignEach [tg] X.env).map (·.2) = [assign tg X.env]) (hA : ∀ i, i ∈ t.vars → i ∈ A) :
    PS X (.Assign [tg] a pos) (rdS T X.K W A fun st => (ma st).bind fun r st => asgF t r st) :=
  PS.imp (ps_asg ha hg hs hw h1) fun D σ H ⟨w, st, R, h⟩ => ⟨w, st, R, (EndE.bindS h).mono fun x H1 ⟨r1, st1, w1, P1, h1⟩ => by
    rcases asg_end P1 hA h1 with ⟨j, e, q⟩ | ⟨n, q⟩
    · exact absurd e (ht j)
    · exact q⟩

/-! ### while -/
theorem rs_while {body : List Stmt} (hp : PassesOwn (model X.prog X.w) X.A X.env X.xe) (hc : PT X c (rdT T X.K W tc)) (hb : PSs X body (rdS T X.K W A m1)) : PS X (.While c body [] pos) (rdS T X.K W A (whileR tc m1)) := by
  refine PS.imp (ps_while hp hc hb) fun D σ H ⟨w, st, R, h⟩ => ?_
  unfold whileR at h
  split at h
  · rename_i hex
    generalize hex.choose = n at h
    refine ⟨fun m σ H => ∃ w st, Rel X.K w σ H st ∧ EndS T X.K W w σ H st A D (loopW tc m1 m st), ⟨n, w, st, R, h⟩, ?_⟩
    rintro m σ H ⟨w, st, R, h⟩
    cases m with
    | zero => exact h.elim
    | succ m =>
      unfold loopW at h
      refine ⟨w, st, R, (EndT.bindS h).mono fun k H1 ⟨st1, w1, P1, q⟩ => ?_⟩
      cases k with
      | false =>
        rw [if_neg Bool.false_ne_true] at q ⊢
        exact q σ H1 w1 (.refl P1.rel)
      | true =>
        rw [if_pos rfl] at q ⊢
        refine ⟨fun σ' H' => ∃ w st, Rel X.K w σ' H' st ∧ EndS T X.K W w σ' H' st A D (loopW tc m1 m st), fun σ' H' z => ⟨m, Nat.lt_succ_self m, z⟩, w1, st1, P1.rel, ?_⟩
        cases e : m1 st1 with
        | stuck => rw [e] at q; exact q
        | err x s => rw [e] at q; exact q
        | ok fl st2 =>
          rw [e] at q
          cases fl with
          | nx => exact fun σ' H' w' P => ⟨w', st2, P.rel, EndS.step P q⟩
          | cont => exact fun σ' H' w' P => ⟨w', st2, P.rel, EndS.step P q⟩
          | brk => exact fun σ' H' w' P => q σ' H' w' P
          | ret r => exact fun v σ' H' w' P => q v σ' H' w' P
  · exact h.elim

/-! ### for -/
theorem rs_for {t : Tgtm} {tg iter : Expr} {body : List Stmt} {xs : List Nat} (hp : PassesOwn (model X.prog X.w) X.A X.env X.xe) (hc : X.calm = true) (hi : PI X tg iter (rdI T X.K W mi)) (hg : PG X tg (rdG X.K t)) (hb : PSs X body (rdS T X.K W A m1)) (hs : ∀ x, foldedSetIterable iter X.env x = pure x)
    (hA : ∀ i, i ∈ A → i ∈ t.vars ++ xs) (hA2 : ∀ i, i ∈ t.vars → i ∈ A) :
    PS X (.For tg iter body [] pos) (rdS T X.K W A fun st => (mi st).bind fun I st => if (I.deps.any fun d => (t.vars ++ xs).contains d.1) then .stuck else forL I.deps (fun x st => match bindT t x st with
      | some st => m1 st
      | none => .stuck) I.items st) := by
  refine PS.imp (ps_for hp hc hi hg hb hs) fun D σ H ⟨w, st, R, h⟩ => ⟨w, st, R, (EndI.bindS h).mono fun J H1 ⟨I, st1, w1, IA, P, h1⟩ => ?_⟩
  split at h1
  · exact h1.elim
  rename_i hdeps
  have hdeps : ∀ d ∈ I.deps, d.1 ∉ A := fun d hd hi => hdeps (List.any_eq_true.mpr ⟨d, hd, by simpa using hA _ hi⟩)
  obtain ⟨G, Y, wk, hG, hY⟩ := P.walk.ex
  have M : PostM X.K w σ H st st1 H1 w1 := ⟨P.le, P.rel, P.ext.weak fun _ z => .inl z, P.len⟩
  have h1 := EndS.step (M.toS (A := A)) h1
  generalize hbody : (fun x st => match bindT t x st with
      | some st => m1 st
      | none => Resm.stuck) = body at h1
  have turn : ∀ {σ2 : L2.St} {H2 : Hp} {st2 : Sm} {w2 : Wl}, PostS X.K w1 σ H1 st1 A st2 σ2 H2 w2 → depsOk I.deps st2 = true → TurnOk X.K w1 σ H1 I.deps IA w2 σ2 H2 st2 := fun {σ2 H2 st2 w2} Q hd =>
    ⟨Q.rel, hd, fun d hm => Q.out _ (hdeps d hm), P.rel.stays Q.ext, fun a z => by
      obtain ⟨n1, n2, n3⟩ := P.new a z
      cases q : H1 a with
      | none => exact absurd q n3
      | some u => exact Q.ext.keep a u q n1, Q.le⟩
  have dep : ∀ {σ2 : L2.St} {H2 : Hp} {st2 : Sm} {w2 : Wl} {items : List PVm}, EndS T X.K W w2 σ2 H2 st2 A D (forL I.deps body items st2) → depsOk I.deps st2 = true := fun {σ2 H2 st2 w2 items} q => by
    cases items with
    | nil =>
      unfold forL at q
      split at q
      · assumption
      · exact q.elim
    | cons x xs =>
      unfold forL at q
      split at q
      · assumption
      · exact q.elim
  refine ⟨fun i m σ2 H2 => m = I.items.length - i ∧ i ≤ I.items.length ∧ ∃ w2 st2, PostS X.K w1 σ H1 st1 A st2 σ2 H2 w2 ∧ EndS T X.K W w2 σ2 H2 st2 A D (forL I.deps body (I.items.drop i) st2), ⟨_, rfl, Nat.zero_le _, w1, st1, .refl P.rel, h1⟩, ?_⟩
  rintro i m σ2 H2 ⟨rfl, hi, w2, st2, Q, q⟩
  have hd := dep q
  have tok := turn Q hd
  have hGc := hG w2 σ2 H2 st2 tok
  by_cases hlt : i < I.items.length
  · refine .inr ⟨wk.goes i H2 hlt hGc, fun σ' H' => ∃ w2 st2, PostS X.K w1 σ H1 st1 A st2 σ' H' w2 ∧ EndS T X.K W w2 σ' H' st2 A D (forL I.deps body (I.items.drop (i + 1)) st2), fun σ' H' z => ⟨_, by omega, rfl, hlt, z⟩, fun x H' hy => ?_⟩
    have hp : I.items[i]? = some I.items[i] := List.getElem?_eq_getElem hlt
    obtain ⟨rx, hH⟩ := hY i w2 σ2 H2 st2 x H' _ tok (wk.yields i H2 x H' hlt hGc hy) hp
    have step : PostS X.K w2 σ2 H2 st2 A st2 σ2 H' w2 := by
      rcases hH with rfl | ⟨z, xs, hz, rfl⟩
      · exact .refl Q.rel
      · exact ⟨.refl _, Q.rel.laid hz, (laid_ext hz).weak fun _ z => .inl z, rfl, fun _ _ => rfl⟩
    rw [List.drop_eq_getElem_cons hlt] at q
    unfold forL at q
    rw [if_pos hd] at q
    have q := EndS.step step q
    rw [← hbody] at q
    simp only at q
    cases hb3 : bindT t I.items[i] st2 with
    | none => rw [hb3] at q; exact q.elim
    | some st3 =>
      rw [hb3] at q
      simp only at q
      refine ⟨w2, st2, _, st3, step.rel, rx, hb3, fun σ3 B => ⟨w2, st3, B.rel, ?_⟩⟩
      have S3 : PostS X.K w2 σ2 H' st2 A st3 σ3 H' w2 := ⟨.refl _, B.rel, Ext.refl.weak B.foot, B.len, fun i hi => (B.out i fun z => hi (hA2 i z)).1⟩
      have q := EndS.step S3 q
      rw [hbody] at q
      cases e : m1 st3 with
      | stuck => rw [e] at q; exact q
      | err y s => rw [e] at q; exact q
      | ok fl st4 =>
        rw [e] at q
        cases fl with
        | nx => exact fun σ' H'' w' P4 => ⟨w', st4, Q.trans (step.trans (S3.trans P4)), EndS.step P4 q⟩
        | cont => exact fun σ' H'' w' P4 => ⟨w', st4, Q.trans (step.trans (S3.trans P4)), EndS.step P4 q⟩
        | brk => exact fun σ' H'' w' P4 => q σ' H'' w' P4
        | ret r => exact fun v σ' H'' w' P4 => q v σ' H'' w' P4
  · have e : i = I.items.length := by omega
    subst e
    refine .inl ⟨wk.stops H2 hGc, ?_⟩
    rw [List.drop_eq_nil_of_le (Nat.le_refl _)] at q
    unfold forL at q
    rw [if_pos hd] at q
    exact q σ2 H2 w2 (.refl Q.rel)
end
end Mp

set_option Elab.async false
set_option linter.all false
set_option maxRecDepth 100000
set_option maxHeartbeats 2000000
/-! Mp18: name op= e, several names at once, xs[i] = e. -/
namespace Mp
open PySem PySem.Spec PyProof.Rows L2
section
variable {T : ExT} {W : WX} {X : Cx} {a b c o e : Expr} {es : List Expr} {pos : Pos} {ma mb mc : Sm → Resm RVm} {ms : Sm → Resm (List RVm)} {A : List Nat}
def augOp : BOp → Operator → Bool
  | .add, .Add => true
  | .sub, .Sub => true
  | .mul, .Mult => true
  | _, _ => false
theorem ip_mulA : PIp X .Mult (fun x y H Q => ∃ i j, x = .int i ∧ y = .int j ∧ mulOk i j = true ∧ Q (.int (i * j)) H) := by
  intro pins s σ H x y v u Q I r1 r2 h
  obtain ⟨i, j, e1, e2, hm, q⟩ := h
  subst e1; subst e2
  obtain ⟨t, rfl⟩ := r1
  obtain ⟨t', rfl⟩ := r2
  exact imul_int ⟨.int _, H, I.tok _, ⟨_, rfl⟩, q⟩ (mulOk_ok hm)
/-- what name op= e asks of the two values: ints -/
def tiI (op : BOp) : TIp := fun x y H Q => ∃ i j z, x = .int i ∧ y = .int j ∧ binV op (.p (.int i)) (.p (.int j)) = some (.val z) ∧ (∀ k, z = .int k → Q (.int k) H)
theorem ip_all {op : BOp} {o : Operator} (h : augOp op o = true) : PIp X o (tiI op) := by
  intro pins s σ H x y v u Q I r1 r2 ⟨i, j, z, e1, e2, hb, q⟩
  cases op <;> cases o <;> first | (cases h; done) | skip
  · cases hb
    exact ip_add pins s σ H x y v u Q I r1 r2 ⟨i, j, e1, e2, q _ rfl⟩
  · cases hb
    exact ip_sub pins s σ H x y v u Q I r1 r2 ⟨i, j, e1, e2, q _ rfl⟩
  · have hb : (if mulOk i j then some (RVm.val (.int (i * j))) else none) = some (.val z) := hb
    split at hb
    · rename_i hm
      cases hb
      exact ip_mulA pins s σ H x y v u Q I r1 r2 ⟨i, j, e1, e2, hm, q _ rfl⟩
    · cases hb
theorem rs_aug {i : Nat} {x : Str} {op : BOp} {o : Operator} {p : Pos} (hop : augOp op o = true) (hN : X.N.Nodup) (hi : X.N[i]? = some x) (hx : Loc X.env.scope x) (hf : X.fn x = true ∨ X.env.scope.names.lookup x = some .local) (he : PE X e (rdE T X.K W ma)) (hA : i ∈ A) :
    PS X (.AugAssign (.Name x p) o e pos) (rdS T X.K W A (augI op i ma)) := by
  refine PS.imp (ps_aug hN hi hx he (ip_all hop) hf) fun D σ H ⟨w, st, R, h⟩ => ?_
  unfold augI at h
  split at h
  · rename_i v hv
    obtain ⟨xv, e1, rx⟩ := R.val i _ hv
    cases rx
    refine ⟨_, e1, w, st, R, (EndE.bindS h).mono fun y H1 ⟨r1, st1, w1, P1, h1⟩ => ?_⟩
    split at h1
    · rename_i u
      have ry : Rp X.K H1 w1 y (.int u) := P1.res
      cases ry
      split at h1
      · rename_i z hz
        split at h1
        · rename_i st2 e2
          refine ⟨v, u, z, rfl, rfl, hz, fun k hk => ?_⟩
          subst hk
          exact h1 _ H1 w1 (PostB.toS P1.toM (sets_postB P1.rel (.int k) e2) fun j hj => by rw [List.mem_singleton] at hj; rw [hj]; exact hA)
        · exact h1.elim
      · exact h1.elim
    · exact h1.elim
  · exact h.elim

/-! ### two, three names at once -/
theorem par_end {T : ExT} {K : PySem.W.Frag} {W : WX} {w w1 : Wl} {σ : L2.St} {H H1 : Hp} {st st1 : Sm} {rs : List RVm} {vs : List V} {D : Ends} {is : List Nat} (P : PostA K w σ H st rs st1 vs H1 w1) (hA : ∀ i, i ∈ is → i ∈ A)
    (h : EndS T K W w σ H st A D ((fixAll rs st1).bind fun vs st => match bindTs (is.map .v) vs st with
    | some st => .ok .nx st
    | none => .stuck)) : rdGs K (is.map .v) vs σ H1 D.nx := by
  cases e : fixAll rs st1 with
  | stuck => rw [e] at h; exact h.elim
  | err x s => exact absurd e fixAll_noerr
  | ok ps st2 =>
    rw [e] at h
    simp only [Resm.bind_ok] at h
    obtain ⟨w2, M, rp⟩ := P.fixed e
    split at h
    · rename_i st3 e3
      have hv : ∀ is : List Nat, Tgtm.varsL (is.map Tgtm.v) = is := fun is => by
        induction is with
        | nil => rfl
        | cons i is ih => show [i] ++ Tgtm.varsL (is.map Tgtm.v) = _; rw [ih]; rfl
      exact ⟨w2, st2, ps, st3, M.rel, rp, e3, fun σ' B => h σ' H1 w2 (B.toS M (by rw [hv]; exact hA))⟩
    · exact h.elim
theorem rs_par2 {i j : Nat} {x y : Str} {px py pt : Pos} {kt k2 : Nat} {pt2 : Pos} (hc : X.calm = true) (hN : X.N.Nodup) (hi : X.N[i]? = some x) (hj : X.N[j]? = some y) (hij : i ≠ j) (hx : X.env.scope.names.lookup x = some .local) (hy : X.env.scope.names.lookup y = some .local)
    (ha : PA X [a, b] (rdAn T X.K W 2 ms)) (hw : swappedStores [.Tuple [.Name x px, .Name y py] kt pt] (.Tuple [a, b] k2 pt2) X.env = pure (some [x, y])) (hA : i ∈ A) (hA2 : j ∈ A) :
    PS X (.Assign [.Tuple [.Name x px, .Name y py] kt pt] (.Tuple [a, b] k2 pt2) pos) (rdS T X.K W A (parF [i, j] ms)) :=
  PS.imp (ps_par hc hN hi hj hij hx hy ha hw rfl) fun D σ H ⟨w, st, R, h⟩ => ⟨w, st, R, (EndA.bindS h).mono fun vs H1 ⟨rs, st1, w1, P, h1⟩ hl => by
    obtain ⟨v, r, rfl, q⟩ := gd_cons (par_end P (fun k hk => by simp at hk; rcases hk with rfl | rfl <;> assumption) h1)
    have q1 : rdGs X.K [.v j] r (σ.set i (some v)) H1 D.nx := gd_name q
    obtain ⟨u, r2, rfl, q2⟩ := gd_cons q1
    have q3 : rdGs X.K [] r2 ((σ.set i (some v)).set j (some u)) H1 D.nx := gd_name q2
    obtain ⟨rfl, q4⟩ := gd_nil q3
    exact ⟨v, u, rfl, q4⟩⟩
theorem rs_par3 {i j l : Nat} {x y z : Str} {px py pz pt : Pos} {kt k2 : Nat} {pt2 : Pos} (hc : X.calm = true) (hN : X.N.Nodup) (hi : X.N[i]? = some x) (hj : X.N[j]? = some y) (hl : X.N[l]? = some z) (hij : i ≠ j) (hil : i ≠ l) (hjl : j ≠ l)
    (hx : X.env.scope.names.lookup x = some .local) (hy : X.env.scope.names.lookup y = some .local) (hz : X.env.scope.names.lookup z = some .local)
    (ha : PA X [a, b, c] (rdAn T X.K W 3 ms)) (hw : swappedStores [.Tuple [.Name x px, .Name y py, .Name z pz] kt pt] (.Tuple [a, b, c] k2 pt2) X.env = pure (some [x, y, z])) (hA : i ∈ A) (hA2 : j ∈ A) (hA3 : l ∈ A) :
    PS X (.Assign [.Tuple [.Name x px, .Name y py, .Name z pz] kt pt] (.Tuple [a, b, c] k2 pt2) pos) (rdS T X.K W A (parF [i, j, l] ms)) :=
  PS.imp (ps_par3 hc hN hi hj hl hij hil hjl hx hy hz ha hw rfl) fun D σ H ⟨w, st, R, h⟩ => ⟨w, st, R, (EndA.bindS h).mono fun vs H1 ⟨rs, st1, w1, P, h1⟩ hl => by
    obtain ⟨v, r, rfl, q⟩ := gd_cons (par_end P (fun k hk => by simp at hk; rcases hk with rfl | rfl | rfl <;> assumption) h1)
    have q1 : rdGs X.K [.v j, .v l] r (σ.set i (some v)) H1 D.nx := gd_name q
    obtain ⟨u, r2, rfl, q2⟩ := gd_cons q1
    have q3 : rdGs X.K [.v l] r2 ((σ.set i (some v)).set j (some u)) H1 D.nx := gd_name q2
    obtain ⟨u2, r3, rfl, q4⟩ := gd_cons q3
    have q5 : rdGs X.K [] r3 (((σ.set i (some v)).set j (some u)).set l (some u2)) H1 D.nx := gd_name q4
    obtain ⟨rfl, q6⟩ := gd_nil q5
    exact ⟨v, u, u2, rfl, q6⟩⟩

/-! ### xs[i] = e -/
theorem EndE.bindS1 {T : ExT} {K : PySem.W.Frag} {W : WX} {w w1 : Wl} {σ : L2.St} {H H1 : Hp} {st st1 : Sm} {D : Ends} {m : Resm RVm} {f : RVm → Sm → Resm Flm} (P : PostM K w σ H st st1 H1 w1) (h : EndS T K W w σ H st A D (m.bind f)) :
    EndE T K W w1 σ H1 st1 (fun v H2 => ∃ r st2 w2, PostE K w1 σ H1 st1 r st2 v H2 w2 ∧ EndS T K W w σ H st A D (f r st2)) m := by
  cases m with
  | stuck => exact h
  | err x st' => exact fun cls d H' w' q => h cls d σ H' w' (PostX.afterM P q) fun _ _ => rfl
  | ok r st1 => exact fun v H1 w1 P => ⟨r, st1, w1, P, h⟩
theorem rs_setL {i : Expr} {spos : Pos} (ha : PE X a (rdE T X.K W ma)) (ho : PE X o (rdE T X.K W mb)) (hi : PE X i (rdE T X.K W mc)) (hs : notSlice i = true) (hsw : swapsWithSole [.Subscript o i spos] a pos.line X.env = pure false) (hw : swappedStores [.Subscript o i spos] a X.env = pure none) :
    PS X (.Assign [.Subscript o i spos] a pos) (rdS T X.K W A (setF ma mb mc)) := by
  have pg := pg_sub (pos := spos) ho hi set_list (fun v => by cases i <;> first | rfl | cases hs)
  refine PS.imp (ps_asg ha pg hsw hw) fun D σ H ⟨w, st, R, h⟩ => ⟨w, st, R, (EndE.bindS h).mono fun v H1 ⟨r1, st1, w1, P1, h1⟩ => ⟨w1, st1, P1.rel, (EndE.bindS1 P1.toM h1).mono fun x H2 ⟨r2, st2, w2, P2, h2⟩ => ⟨w2, st2, P2.rel, (EndE.bindS1 (P1.toM.trans P2.toM) h2).mono fun y H3 ⟨r3, st3, w3, P3, h3⟩ => ?_⟩⟩⟩
  have M3 := P1.toM.trans (P2.toM.trans P3.toM)
  have x2 := (P2.ext.trans (fun _ h => .inl h) P3.ext)
  have x2 := x2.weak (G := fun a => Foot st3.env σ w3 a) fun a z => .inl (.inl z)
  have r1s := RRel.stay P1 (P2.le.trans P3.le) x2 fun a hz => (P1.apart x2 a hz).2
  cases e : fixR r1 st3 with
  | stuck => rw [e] at h3; exact h3.elim
  | err x s => exact absurd e fix_noerr
  | ok p st4 =>
    rw [e] at h3
    simp only [Resm.bind_ok] at h3
    obtain ⟨w4, F⟩ := fix_post P3.rel r1s (fun a z => (P1.apart x2 a z).1) e
    have M4 : PostM X.K w σ H st st4 H3 w4 := by
      refine ⟨M3.le.trans F.le, F.rel, ⟨M3.ext.keep, M3.ext.trk, fun a z => M3.ext.grow a (F.foot a z), fun a z => ?_, M3.ext.tup, M3.ext.frz⟩, F.len.trans M3.len⟩
      rcases F.S a z with z | z | z
      · exact M3.ext.growS a z
      · exact .inr (M3.ext.grow a z)
      · exact .inr (P1.ext.grow a (.inr z))
    split at h3
    · rename_i l k hl hk
      split at h3
      · rename_i j hj
        split at h3
        · rename_i st5 hp
          have hx : RRel X.K w4 σ H3 x r2 := recv_stay (P2.first P3) F.le (notOwn hp)
          obtain ⟨q, xs, rfl, hq, rl, g⟩ := M4.put hx hl hp
          have hy : y = .int k := by
            have ry : RRel X.K w4 σ H3 y r3 := by
              have q := P3.res
              cases r3 with
              | val p => exact Rp.stay ⟨fun _ _ z => z, fun _ _ _ z => z, fun _ _ _ z => z⟩ F.le q
              | own o => cases hk
              | «at» i => exact q
            exact VRel.int_inv (look_rel F.rel ry hk)
          subst hy
          have F2 : PostM X.K w σ H st st5 (upd H3 q (.lst (xs.set j v))) w4 := (g (.lst (xs.set j v)) fun s => ⟨_, upd_same, (rl.stay s (.refl _)).set (F.res.stay s (.refl _)) j⟩).1
          exact ⟨q, xs, k, j, rfl, rfl, hq, by rw [rl.length]; exact hj, h3 σ _ w4 F2.toS⟩
        · exact h3.elim
      · exact h3.elim
    · exact h3.elim
end
end Mp

set_option Elab.async false
set_option linter.all false
set_option maxRecDepth 100000
set_option maxHeartbeats 2000000
/-! MpD2: d[k] = e, a dict. -/
namespace Mp
open PySem PySem.Spec PyProof.Rows L2
section
variable {K : PySem.W.Frag} {w : Wl} {H : Hp}
theorem any_d : ∀ {kvs : List (Key × V)} {l : List (PVm × PVm)} {k : Key} {p : PVm}, RpD K H w kvs l → KeyP k p → (kvs.any fun kv => decide (kv.1 = k)) = l.any fun q => decide (q.1 = p)
  | _, _, _, _, .nil, _ => rfl
  | _, _, k, p, .cons a r t, hk => by
    rw [List.any_cons, List.any_cons, any_d t hk]
    exact congrArg (· || _) (decide_eq_decide.mpr (a.inj hk))
theorem map_d : ∀ {kvs : List (Key × V)} {l : List (PVm × PVm)} {k : Key} {p : PVm} {v : V} {q : PVm}, RpD K H w kvs l → KeyP k p → Rp K H w v q →
    RpD K H w (kvs.map fun kv => if kv.1 = k then (kv.1, v) else kv) (l.map fun z => if z.1 = p then (z.1, q) else z)
  | _, _, _, _, _, _, .nil, _, _ => .nil
  | _, _, k, p, v, q, .cons (k := k') (v := v') (pk := pk) (pv := pv) a r t, hk, hv => by
    rw [List.map_cons, List.map_cons]
    by_cases e : k' = k
    · have e2 : pk = p := (a.inj hk).mp e
      rw [if_pos e, if_pos e2]
      exact .cons a hv (map_d t hk hv)
    · have e2 : ¬ pk = p := fun z => e ((a.inj hk).mpr z)
      rw [if_neg e, if_neg e2]
      exact .cons a r (map_d t hk hv)
theorem app_d : ∀ {kvs : List (Key × V)} {l : List (PVm × PVm)} {k : Key} {p : PVm} {v : V} {q : PVm}, RpD K H w kvs l → KeyP k p → Rp K H w v q → RpD K H w (kvs ++ [(k, v)]) (l ++ [(p, q)])
  | _, _, _, _, _, _, .nil, hk, hv => .cons hk hv .nil
  | _, _, _, _, _, _, .cons a r t, hk, hv => .cons a r (app_d t hk hv)
theorem put_d {kvs : List (Key × V)} {l : List (PVm × PVm)} {k : Key} {p : PVm} {v : V} {q : PVm} (h : RpD K H w kvs l) (hk : KeyP k p) (hv : Rp K H w v q) : RpD K H w (putK kvs k v) (dPut l p q) := by
  unfold putK dPut
  rw [any_d h hk]
  split
  · exact map_d h hk hv
  · exact app_d h hk hv
theorem RpD.length : ∀ {kvs : List (Key × V)} {l : List (PVm × PVm)}, RpD K H w kvs l → kvs.length = l.length
  | _, _, .nil => rfl
  | _, _, .cons _ _ t => by rw [List.length_cons, List.length_cons, t.length]
theorem tinj {l l' : List PVm} : PVm.tup l = PVm.tup l' ↔ l = l' := ⟨fun e => (by cases e; rfl), fun e => (by rw [e])⟩
theorem any_t : ∀ {kvs : List (List Key × V)} {l : List (PVm × PVm)} {k : List Key} {p : List PVm}, RpT K H w kvs l → KeyL k p → (kvs.any fun kv => decide (kv.1 = k)) = l.any fun q => decide (q.1 = .tup p)
  | _, _, _, _, .nil, _ => rfl
  | _, _, k, p, .cons a r t, hk => by
    rw [List.any_cons, List.any_cons, any_t t hk]
    exact congrArg (· || _) (decide_eq_decide.mpr ((a.inj hk).trans tinj.symm))
theorem map_t : ∀ {kvs : List (List Key × V)} {l : List (PVm × PVm)} {k : List Key} {p : List PVm} {v : V} {q : PVm}, RpT K H w kvs l → KeyL k p → Rp K H w v q →
    RpT K H w (kvs.map fun kv => if kv.1 = k then (kv.1, v) else kv) (l.map fun z => if z.1 = .tup p then (z.1, q) else z)
  | _, _, _, _, _, _, .nil, _, _ => .nil
  | _, _, k, p, v, q, .cons (k := k') (v := v') (lk := pk) (pv := pv) a r t, hk, hv => by
    rw [List.map_cons, List.map_cons]
    by_cases e : k' = k
    · have e2 : PVm.tup pk = .tup p := tinj.mpr ((a.inj hk).mp e)
      rw [if_pos e, if_pos e2]
      exact .cons a hv (map_t t hk hv)
    · have e2 : ¬ PVm.tup pk = .tup p := fun z => e ((a.inj hk).mpr (tinj.mp z))
      rw [if_neg e, if_neg e2]
      exact .cons a r (map_t t hk hv)
theorem app_t : ∀ {kvs : List (List Key × V)} {l : List (PVm × PVm)} {k : List Key} {p : List PVm} {v : V} {q : PVm}, RpT K H w kvs l → KeyL k p → Rp K H w v q → RpT K H w (kvs ++ [(k, v)]) (l ++ [(.tup p, q)])
  | _, _, _, _, _, _, .nil, hk, hv => .cons hk hv .nil
  | _, _, _, _, _, _, .cons a r t, hk, hv => .cons a r (app_t t hk hv)
theorem put_t {kvs : List (List Key × V)} {l : List (PVm × PVm)} {k : List Key} {p : List PVm} {v : V} {q : PVm} (h : RpT K H w kvs l) (hk : KeyL k p) (hv : Rp K H w v q) : RpT K H w (putK kvs k v) (dPut l (.tup p) q) := by
  unfold putK dPut
  rw [any_t h hk]
  split
  · exact map_t h hk hv
  · exact app_t h hk hv
theorem RpT.length : ∀ {kvs : List (List Key × V)} {l : List (PVm × PVm)}, RpT K H w kvs l → kvs.length = l.length
  | _, _, .nil => rfl
  | _, _, .cons _ _ t => by rw [List.length_cons, List.length_cons, t.length]
theorem dSet_some {u v : Option Viewm} {x : PVm} {o : MOm} (e : dSet u v x = some o) : ∃ oo b, u = some (.m oo) ∧ v = some b := by
  unfold dSet at e
  split at e
  · exact ⟨_, _, rfl, rfl⟩
  · exact ⟨_, _, rfl, rfl⟩
  · cases e
/-- the object behind: what is written there -/
theorem dSet_put {a : Addr} {y v : V} {oo o : MOm} {b : Viewm} {p : PVm} (m : MOk K H w a oo) (hb : VRel K w H y b) (e : dSet (some (.m oo)) (some b) p = some o) :
    ∃ ho, DPut H a y v (upd H a ho) ∧ ∀ {H' : Hp} {w' : Wl}, Stays w H H' → w.le w' → H' a = some ho → Rp K H' w' v p → MOk K H' w' a o := by
  unfold dSet at e
  split at e
  · rename_i l k e1 e2
    cases e1; cases e2
    split at e
    · rename_i hk
      rw [Bool.and_eq_true, decide_eq_true_eq] at hk
      cases e
      obtain ⟨kvs, hc, rl⟩ := m
      obtain ⟨key, rfl, kp⟩ := keyK_of hb hk.1
      exact ⟨_, DPut.k hc (by rw [rl.length]; exact hk.2), fun s le hh hv => ⟨_, hh, put_d (rl.stay s le) kp hv⟩⟩
    · cases e
  · rename_i l k e1 e2
    cases e1; cases e2
    split at e
    · rename_i hk
      rw [Bool.and_eq_true, decide_eq_true_eq] at hk
      cases e
      obtain ⟨kvs, hc, rl⟩ := m
      have hk1 := hk.1
      cases k <;> first | (cases hk1; done) | skip
      rename_i lk
      cases hb with
      | tup h1 h2 =>
        obtain ⟨ks, rfl, kl⟩ := keyL_of h2 hk1
        exact ⟨_, DPut.t hc h1 (by rw [rl.length]; exact hk.2), fun s le hh hv => ⟨_, hh, put_t (rl.stay s le) kl hv⟩⟩
    · cases e
  · cases e
end
section
variable {T : ExT} {X : Cx} {W : WX} {A : List Nat} {a o : Expr} {pos : Pos} {ma mb mc : Sm → Resm RVm}
theorem rs_dput {i : Expr} {spos : Pos} (hu : X.A.units + 1 < cLine) (ha : PE X a (rdE T X.K W ma)) (ho : PE X o (rdE T X.K W mb)) (hi : PE X i (rdE T X.K W mc)) (hsw : swapsWith a (some (.Subscript o i spos)) pos.line X.env = pure false) :
    PS X (.Assign [.Subscript o i spos] a pos) (rdS T X.K W A (dputF ma mb mc)) := by
  refine PS.imp (ps_dput hu ho hi ha hsw) fun D σ H ⟨w, st, R, h⟩ => ⟨w, st, R, (EndE.bindS h).mono fun v H1 ⟨r1, st1, w1, P1, h1⟩ => ⟨w1, st1, P1.rel, (EndE.bindS1 P1.toM h1).mono fun x H2 ⟨r2, st2, w2, P2, h2⟩ => ⟨w2, st2, P2.rel, (EndE.bindS1 (P1.toM.trans P2.toM) h2).mono fun y H3 ⟨r3, st3, w3, P3, h3⟩ => ?_⟩⟩⟩
  have M3 := P1.toM.trans (P2.toM.trans P3.toM)
  have x2 := (P2.ext.trans (fun _ h => .inl h) P3.ext)
  have x2 := x2.weak (G := fun a => Foot st3.env σ w3 a) fun a z => .inl (.inl z)
  have r1s := RRel.stay P1 (P2.le.trans P3.le) x2 fun a hz => (P1.apart x2 a hz).2
  cases e : fixR r1 st3 with
  | stuck => rw [e] at h3; exact h3.elim
  | err x s => exact absurd e fix_noerr
  | ok p st4 =>
    rw [e] at h3
    simp only [Resm.bind_ok] at h3
    obtain ⟨w4, F⟩ := fix_post P3.rel r1s (fun a z => (P1.apart x2 a z).1) e
    have M4 : PostM X.K w σ H st st4 H3 w4 := by
      refine ⟨M3.le.trans F.le, F.rel, ⟨M3.ext.keep, M3.ext.trk, fun a z => M3.ext.grow a (F.foot a z), fun a z => ?_, M3.ext.tup, M3.ext.frz⟩, F.len.trans M3.len⟩
      rcases F.S a z with z | z | z
      · exact M3.ext.growS a z
      · exact .inr (M3.ext.grow a z)
      · exact .inr (P1.ext.grow a (.inr z))
    split at h3
    · rename_i oo hd
      split at h3
      · rename_i st5 hp
        obtain ⟨o1, b, e1, e2⟩ := dSet_some hd
        rw [e1, e2] at hd
        have hx : RRel X.K w4 σ H3 x r2 := recv_stay (P2.first P3) F.le (notOwn hp)
        obtain ⟨q, rfl, mo, g⟩ := M4.putG hx e1 hp
        have ry : VRel X.K w4 H3 y b := by
          have q := P3.res
          cases r3 with
          | val p => exact look_rel F.rel (show RRel X.K w4 σ H3 y (.val p) from Rp.stay ⟨fun _ _ z => z, fun _ _ _ z => z, fun _ _ _ z => z⟩ F.le q) e2
          | own o =>
            cases e2
            unfold dSet at hd
            split at hd
            · rename_i l k z1 z2; cases z2
            · rename_i l k z1 z2; cases z2
            · cases hd
          | «at» i => exact look_rel F.rel (show RRel X.K w4 σ H3 y (.at i) from q) e2
        obtain ⟨ho, dp, mk⟩ := dSet_put (v := v) mo ry hd
        have F2 : PostM X.K w σ H st st5 (upd H3 q ho) w4 := (g ho fun s => mk s (.refl _) upd_same (F.res.stay s (.refl _))).1
        exact ⟨q, _, rfl, dp, h3 σ _ w4 F2.toS⟩
      · exact h3.elim
    · exact h3.elim
end
end Mp

set_option Elab.async false
set_option linter.all false
set_option maxRecDepth 100000
set_option maxHeartbeats 2000000
/-! Mp19: raise, try. -/
namespace Mp
open PySem PySem.Spec PyProof.Rows L2
/-- the making of an exception by its class -/
def tMkE (T : ExT) (c : Nat) (ta : TA) : L2.St → Hp → XK → Prop := fun σ H Q => ta σ H fun vs H1 => vs.length = (T.fields c).length ∧ ∀ d kvs, H1 d = none → (∀ f, kvs.lookup f = ((T.fields c).zip vs).lookup f) → Q (.ref (T.cls c)) (some d) (upd H1 d (.xd kvs))
/-- what is known of an exception's class -/
structure ExcOk (T : ExT) (x : Str) (c : Nat) (P : Program) (w : World) (K : PySem.W.Frag) (mg : Str → Option Value) (base : Heap) : Prop where
  lt : c < T.n
  gC : mg x = some (.ref (T.cls c))
  xf : XfC K (T.cls c)
  nof : ∀ f ∈ T.fields c, PySem.W.findIn K (.ref (T.cls c)) f = some none
  nd : (T.fields c).Nodup
  exm : ∀ j, j < T.n → PySem.W.exmOne K (.ref (T.cls j)) (.ref (T.cls c)) = some (decide (j = c))
  make : ∀ (X : Cx), X.prog = P → X.w = w → X.K = K → X.mg = mg → X.base = base → Room 2 X.A → ∀ (es : List Expr) (t : TA) (p pos : Pos), es.length = (T.fields c).length → es.all noStar = true → PA X es t → Gl X x → PMk X (.Call (.Name x p) es [] pos) (tMkE T c t)
section
variable {T : ExT} {W : WX} {X : Cx} {es : List Expr} {pos p pos2 : Pos} {ms : Sm → Resm (List RVm)} {m1 : Sm → Resm Flm} {A : List Nat} {x : Str} {c n : Nat}
theorem rs_raise (hc : X.calm = true) (tk : L2.Takes X W) (E : ExcOk T x c X.prog X.w X.K X.mg X.base) (hr : Room 2 X.A) (hg : Gl X x) (ha : PA X es (rdAn T X.K W n ms)) (hl : es.length = (T.fields c).length) (hn : n = es.length) (hs : es.all noStar = true) :
    PS X (.Raise (some (.Call (.Name x p) es [] pos)) none pos2) (rdS T X.K W A (raiF c ms)) :=
  PS.imp (ps_raise hc tk (E.make X rfl rfl rfl rfl rfl hr es _ p pos hl hs ha hg)) fun D σ H ⟨w, st, R, h⟩ => ⟨w, st, R, (EndA.bindS h).mono fun vs H1 ⟨rs, st1, w1, P, h1⟩ hvl => by
    have hvs : vs.length = (T.fields c).length := by rw [hvl, hn, hl]
    refine ⟨hvs, fun d kvs hd hkv => ?_⟩
    cases e : fixAll rs st1 with
    | stuck => rw [e] at h1; exact h1.elim
    | err q s => exact absurd e fixAll_noerr
    | ok ps st2 =>
      rw [e] at h1
      obtain ⟨w3, M, rp⟩ := P.fixed e
      exact h1 _ _ σ _ w3 ⟨M.le, M.rel.laid hd, ⟨E.lt, rfl, vs, rp.stay (laid_stays hd) (.refl _), hvs, d, kvs, rfl, upd_same, hkv⟩, (M.ext.trans (fun _ z => z) (laid_ext hd)).weak fun _ z => .inl (.inl z), M.len⟩ fun _ _ => rfl⟩

/-! ### the clause -/
def cV : PVm → V
  | .bl b => .bl b
  | .int i => .int i
  | .str s => .str ⟨s.toArray⟩
  | _ => .non
/-- the items' readings -/
def tHs (a : Addr) (cls : Value) (d : Option Addr) (C : Addr) (fs : List Str) (i : Nat) : List Hitm → TA
  | [] => tNil
  | .cst v :: r => tCons (tC (cV v)) (tHs a cls d C fs i r)
  | .fld k :: r => tCons (tXf a cls d C ((fs[k]?).getD "") (tVar i)) (tHs a cls d C fs i r)
/-- the checker of a clause's items -/
def ckH (fs : List Str) (nm : Str) : List Hitm → List Expr → Bool
  | [], [] => true
  | .cst v :: r, e :: es => (match e with
    | .Constant .none _ _ => decide (v = .non)
    | .Constant (.bool b) _ _ => decide (v = .bl b)
    | .Constant (.int i) _ _ => decide (v = .int i)
    | .Constant (.str s) _ _ => (match v with
      | .str l => decide (s = ⟨l.toArray⟩) && sOkB l
      | _ => false)
    | _ => false) && ckH fs nm r es
  | .fld k :: r, e :: es => (match e with
    | .Attribute (.Name x _) f _ => decide (x = nm) && decide (fs[k]? = some f)
    | _ => false) && ckH fs nm r es
  | _, _ => false
theorem pa_h {Y : Cx} {a : Addr} {oe : Obj} {cls : Value} {d : Option Addr} {pn : List (Addr × Obj)} {C : Addr} {fs : List Str} {i : Nat} {nm : Str} (hY : Y.K = X.K) (xf : XfC Y.K C) (nof : ∀ f ∈ fs, PySem.W.findIn Y.K (.ref C) f = some none) (hz : Zc cls d oe) (hf : ∃ vs, oe.data = .fields vs)
    (hN : Y.N[i]? = some nm) (hv : Vis Y.env.scope nm) (h1 : (nm == ("__debug__" : Str)) = false) (h2 : (nm == ("__classdict__" : Str)) = false) : ∀ {hs : List Hitm} {es : List Expr}, ckH fs nm hs es = true → PA (Y.suite a ((a, oe) :: pn)) es (tHs a cls d C fs i hs) ∧ es.length = hs.length
  | [], es, h => by
    cases es with
    | nil => exact ⟨pa_nil, rfl⟩
    | cons e es => cases h
  | .cst v :: r, es, h => by
    cases es with
    | nil => cases h
    | cons e es =>
      unfold ckH at h
      rw [Bool.and_eq_true] at h
      obtain ⟨pr, pl⟩ := pa_h hY xf nof hz hf hN hv h1 h2 h.2
      refine ⟨?_, by simp [pl]⟩
      have he := h.1
      split at he
      · cases of_decide_eq_true he; exact pa_cons pe_non pr rfl
      · cases of_decide_eq_true he; exact pa_cons pe_bl pr rfl
      · cases of_decide_eq_true he; exact pa_cons pe_int pr rfl
      · split at he
        · rw [Bool.and_eq_true, decide_eq_true_eq] at he
          obtain ⟨rfl, _⟩ := he
          exact pa_cons pe_str pr rfl
        · cases he
      · cases he
  | .fld k :: r, es, h => by
    cases es with
    | nil => cases h
    | cons e es =>
      unfold ckH at h
      rw [Bool.and_eq_true] at h
      obtain ⟨pr, pl⟩ := pa_h hY xf nof hz hf hN hv h1 h2 h.2
      refine ⟨?_, by simp [pl]⟩
      have he := h.1
      split at he
      · rw [Bool.and_eq_true, decide_eq_true_eq, decide_eq_true_eq] at he
        obtain ⟨rfl, e2⟩ := he
        refine pa_cons ?_ pr rfl
        rw [e2]
        exact pe_xf xf (nof _ (List.mem_of_getElem? e2)) hz hf (pe_var hN hv h1 h2) rfl
      · cases he
theorem zip_lookup : ∀ {fs : List Str} {vs : List V} {k : Nat} {f : Str} {v : V}, fs.Nodup → fs[k]? = some f → vs[k]? = some v → (fs.zip vs).lookup f = some v
  | [], _, _, _, _, _, h, _ => by simp at h
  | _ :: _, [], _, _, _, _, _, h => by simp at h
  | g :: fs, u :: vs, 0, f, v, _, h1, h2 => by
    simp at h1 h2
    subst h1 h2
    simp [List.lookup]
  | g :: fs, u :: vs, k + 1, f, v, nd, h1, h2 => by
    rw [List.nodup_cons] at nd
    have h1 : fs[k]? = some f := by simpa using h1
    have ne : (f == g) = false := by
      rw [beq_eq_false_iff_ne]
      exact fun z => nd.1 (by rw [← z]; exact List.mem_of_getElem? h1)
    rw [List.zip_cons_cons, List.lookup_cons, ne]
    exact zip_lookup nd.2 h1 (by simpa using h2)
/-- the items, given the exception -/
theorem h_read {K : PySem.W.Frag} {w : Wl} {σ : L2.St} {H : Hp} {x : Exm} {cls : Value} {d : Option Addr} {a : Addr} {i : Nat} {fs : List Str} {nm : Str} (hfs : fs = T.fields x.cls) (nd : fs.Nodup) (E : ExR T K w H x cls d) (hi : σ[i]? = some (some (.ref a))) :
    ∀ {hs : List Hitm} {es : List Expr} {ps : List PVm} {Q : List V → Hp → Prop}, ckH fs nm hs es = true → hItems x.args hs = some ps → (∀ ws, RpL K H w ws ps → ws.length = hs.length → Q ws H) → tHs a cls d (T.cls x.cls) fs i hs σ H Q
  | [], es, ps, Q, hk, h, q => by
    cases h
    exact q [] .nil rfl
  | .cst v :: r, es, ps, Q, hk, h, q => by
    obtain ⟨l, h1, rfl⟩ := Option.map_eq_some_iff.mp h
    cases es with
    | nil => cases hk
    | cons e es =>
      unfold ckH at hk
      rw [Bool.and_eq_true] at hk
      have rv : Rp K H w (cV v) v := by
        have he := hk.1
        split at he
        · cases of_decide_eq_true he; exact .non
        · cases of_decide_eq_true he; exact .bl _
        · cases of_decide_eq_true he; exact .int _
        · split at he
          · rw [Bool.and_eq_true] at he
            exact .str _ (sOk_by he.2)
          · cases he
        · cases he
      show tHs a cls d (T.cls x.cls) fs i r σ H fun xs H2 => Q (cV v :: xs) H2
      exact h_read hfs nd E hi hk.2 h1 fun ws rw' hl => q _ (.cons rv rw') (by simp [hl])
  | .fld k :: r, es, ps, Q, hk, h, q => by
    unfold hItems at h
    split at h
    · rename_i v l h0 h1
      cases h
      cases es with
      | nil => cases hk
      | cons e es =>
        unfold ckH at hk
        rw [Bool.and_eq_true] at hk
        have he := hk.1
        split at he
        · rw [Bool.and_eq_true, decide_eq_true_eq, decide_eq_true_eq] at he
          obtain ⟨_, e2⟩ := he
          obtain ⟨_, hc, vs, rl, hl, dd, kvs, hd, hx, hkv⟩ := id E
          obtain ⟨u, hu, ru⟩ := rl.get h0
          refine ⟨_, hi, rfl, hc, dd, _, u, hd, hx, ?_, ?_⟩
          · rw [e2, hkv]
            rw [← hfs]
            exact zip_lookup nd e2 hu
          · exact h_read hfs nd E hi hk.2 h1 fun ws rw' hl => q _ (.cons ru rw') (by simp [hl])
        · cases he
    · cases h
def hExpr (k : Nat) (es : List Expr) (e : Expr) : Prop := (k = 0 ∧ ∃ kk p, e = .Tuple es kk p) ∨ (k = 1 ∧ ∃ p, e = .List es p)
theorem rs_try {body : List Stmt} {i k : Nat} {hs : List Hitm} {e : Expr} {nm : Str} {np pos' rp : Pos} (hst : X.stack = X.env :: X.outer) (hf : X.env.frame = some X.env.locals) (hN : X.N.Nodup) (hi : X.N[i]? = some nm) (hln : X.env.scope.names.lookup nm = some .local)
    (h1 : (nm == ("__debug__" : Str)) = false) (h2 : (nm == ("__classdict__" : Str)) = false) (hx : (x == ("__debug__" : Str)) = false) (E : ExcOk T x c X.prog X.w X.K X.mg X.base) (hg : Gl X x) (tk : L2.Takes X W) (hk : ckH (T.fields c) nm hs es = true) (hle : hs.length ≤ 1000) (he : hExpr k es e) (hA : i ∈ A)
    (hb : ∀ (W' : WX) (pn : List (Addr × Obj)) (xe : Value → Shared → Prop), L2.Takes (X.tr pn xe) W' → PassesOwn (model X.prog X.w) X.A X.env xe → PSs (X.tr pn xe) body (rdS T X.K W' A m1)) :
    PS X (.Try body [.ExceptHandler (some (.Name x p)) (some nm) [.Return (some e) rp] pos'] [] [] pos) (rdS T X.K W A (tryF c i k hs m1)) := by
  have suite : ∀ (a : Addr) (oe : Obj) (cls : Value) (d : Option Addr) (pn : List (Addr × Obj)), Zc cls d oe → (∃ vs, oe.data = .fields vs) → PSs (X.suite a ((a, oe) :: pn)) [.Return (some e) rp] (tRet (if k = 0 then tTup (tHs a cls d (T.cls c) (T.fields c) i hs) else tLst (tHs a cls d (T.cls c) (T.fields c) i hs))) := fun a oe cls d pn hz hf => by
    obtain ⟨pa, _⟩ := pa_h (X := X) (Y := X) (pn := pn) rfl E.xf E.nof hz hf hi (.inl hln) h1 h2 hk
    rcases he with ⟨rfl, kk, p, rfl⟩ | ⟨rfl, p, rfl⟩
    · exact pss_one (ps_ret (pe_tup pa))
    · exact pss_one (ps_ret (pe_lst pa))
  refine PS.imp (ps_try_as (tb := fun W' => rdS T X.K W' A m1) (ts := fun a cls d => tRet (if k = 0 then tTup (tHs a cls d (T.cls c) (T.fields c) i hs) else tLst (tHs a cls d (T.cls c) (T.fields c) i hs))) (Wout := W) hst hf hN hi hln ⟨hg, hx, .inl E.gC⟩ tk hb suite) fun D σ H ⟨w, st, R, h⟩ => ⟨w, st, R, ?_⟩
  unfold tryF at h
  cases em : m1 st with
  | stuck => rw [em] at h; exact h
  | ok fl st1 =>
    rw [em] at h
    cases fl <;> exact h
  | err y st1 =>
    rw [em] at h
    intro cls d σ1 H1 w1 P out
    obtain ⟨hn, hcl, vs, rl, hl, dd, kvs, hd, hxd, _⟩ := P.exc
    refine ⟨decide (y.cls = c), by rw [hcl]; exact E.exm _ hn, fun hb a ha => ?_, fun hb => ?_⟩
    · have hyc := of_decide_eq_true hb
      simp only [if_pos hyc] at h
      cases hh : hItems y.args hs with
      | none => rw [hh] at h; exact h.elim
      | some ps =>
        rw [hh] at h
        simp only at h
        split at h
        · rename_i hlt
          have hiσ : i < σ1.length := by rw [P.rel.len]; exact hlt
          obtain ⟨Rf, ft⟩ := P.rel.other (σ' := σ1) (env' := st1.env.set i .no) (by rw [P.rel.len]; simp) (fun j v q => by
              by_cases hj : j = i
              · subst hj
                rw [List.getElem?_set_self hlt] at q
                cases q
              · rw [List.getElem?_set_ne (Ne.symm hj)] at q
                exact P.rel.val j v q) fun j o q => by
              obtain ⟨_, q⟩ := set_own q fun o => ⟨(fun z => nomatch z), (fun z => nomatch z)⟩
              exact ⟨q, rfl⟩
          have PS1 : PostS X.K w σ H st A { st1 with env := st1.env.set i .no } σ1 H1 w1 := ⟨P.le, Rf, P.ext.weak ft, by simp [P.len], out⟩
          have hσi : (σ1.set i (some (V.ref a)))[i]? = some (some (.ref a)) := List.getElem?_set_self hiσ
          have hfs : T.fields c = T.fields y.cls := by rw [hyc]
          have hcs : T.cls c = T.cls y.cls := by rw [hyc]
          rcases he with ⟨rfl, _⟩ | ⟨rfl, _⟩
          · show tTup (tHs a cls d (T.cls c) (T.fields c) i hs) (σ1.set i (some (V.ref a))) H1 D.rt
            unfold tTup
            rw [hcs]
            exact h_read hfs E.nd P.exc hσi hk hh fun ws rl' hl' => ⟨by rw [hl', sl_eq]; omega, fun q hq => h _ σ1 _ w1 (PS1.afterR (PostE.toR ((Gives.tup hq rl').post Rf)))⟩
          · show tLst (tHs a cls d (T.cls c) (T.fields c) i hs) (σ1.set i (some (V.ref a))) H1 D.rt
            unfold tLst
            rw [hcs]
            exact h_read hfs E.nd P.exc hσi hk hh fun ws rl' hl' => ⟨by rw [hl', sl_eq]; omega, fun q hq => h _ σ1 _ w1 (PS1.afterR (PostE.toR ((Gives.lst hq rl').post Rf)))⟩
        · exact h.elim
    · have hyc := of_decide_eq_false hb
      simp only [if_neg hyc] at h
      exact h cls d σ1 H1 w1 P out
end
end Mp

set_option Elab.async false
set_option linter.all false
set_option maxRecDepth 100000
set_option maxHeartbeats 2000000
/-! Mp20: the checker of statements, sound. -/
namespace Mp
open PySem PySem.Spec PyProof.Rows L2
def starE : Expr → Bool
  | .Starred _ _ => true
  | _ => false
def locN (sc : Scope) (line : Nat) : Expr → Option Str
  | .Name id pos => if sc.names.lookup id == some .local && pos.line == line then some id else none
  | _ => none
def swN (sc : Scope) (ts vs : List Expr) : Option (List Str) :=
  if !(ts.length == 2 || ts.length == 3) || vs.length != ts.length then none
  else if vs.any starE then none
  else if (ts.filterMap (locN sc ((ts.head?.map (·.pos.line)).getD 0))).length != ts.length || (ts.filterMap (locN sc ((ts.head?.map (·.pos.line)).getD 0))).eraseDups.length != (ts.filterMap (locN sc ((ts.head?.map (·.pos.line)).getD 0))).length then none
  else if vs.all (foldedForSure 8) then none
  else some (ts.filterMap (locN sc ((ts.head?.map (·.pos.line)).getD 0)))
theorem swN_ok {ts vs : List Expr} {k k2 : Nat} {p p2 : Pos} {env : Env} (hk : env.scope.kind = .function) (hc : vs.all (constantsAlone 8) = false ∨ vs.all (foldedForSure 8) = true) : swappedStores [.Tuple ts k p] (.Tuple vs k2 p2) env = pure (swN env.scope ts vs) := by
  have hb : env.blockKind = .function := by unfold Env.blockKind; rw [hk]; rfl
  have e1 : (vs.any fun | .Starred .. => true | _ => false) = vs.any starE := by
    congr 1
  have e2 : (ts.filterMap fun
    | .Name id pos => if env.kindOf id == some .local && pos.line == (ts.head?.map (·.pos.line)).getD 0 then some id else none
    | _ => none) = ts.filterMap (locN env.scope ((ts.head?.map (·.pos.line)).getD 0)) := by
    congr 1
  unfold swappedStores swN
  simp only [hb]
  generalize hN : ts.filterMap (locN env.scope ((ts.head?.map (·.pos.line)).getD 0)) = N
  show (if (!(ts.length == 2 || ts.length == 3) || vs.length != ts.length || ScopeKind.function != ScopeKind.function) = true then pure none else if vs.any starE = true then pure none
    else if ((ts.filterMap (locN env.scope ((ts.head?.map (·.pos.line)).getD 0))).length != ts.length || (ts.filterMap (locN env.scope ((ts.head?.map (·.pos.line)).getD 0))).eraseDups.length != (ts.filterMap (locN env.scope ((ts.head?.map (·.pos.line)).getD 0))).length) = true then pure none
    else if vs.all (foldedForSure 8) = true then pure none
    else if vs.all (constantsAlone 8) = true then (do unsupported "assign.tuple-of-constant-expressions:order-of-the-stores"; pure (some (ts.filterMap (locN env.scope ((ts.head?.map (·.pos.line)).getD 0)))))
    else pure (some (ts.filterMap (locN env.scope ((ts.head?.map (·.pos.line)).getD 0)))) : Sem (Option (List Str))) = _
  rw [hN]
  have e0 : (ScopeKind.function != ScopeKind.function) = false := rfl
  rw [e0, Bool.or_false]
  by_cases c1 : (!(ts.length == 2 || ts.length == 3) || vs.length != ts.length) = true
  · rw [if_pos c1, if_pos c1]
  · rw [if_neg c1, if_neg c1]
    by_cases c2 : vs.any starE = true
    · rw [if_pos c2, if_pos c2]
    · rw [if_neg c2, if_neg c2]
      by_cases c3 : (N.length != ts.length || N.eraseDups.length != N.length) = true
      · rw [if_pos c3, if_pos c3]
      · rw [if_neg c3, if_neg c3]
        by_cases c4 : vs.all (foldedForSure 8) = true
        · rw [if_pos c4, if_pos c4]
        · rw [if_neg c4, if_neg c4]
          rcases hc with hc | hc
          · rw [hc, if_neg Bool.false_ne_true]
          · exact absurd hc c4

def isCompE : Expr → Bool
  | .ListComp _ _ _ _ => true
  | .SetComp _ _ _ _ => true
  | .DictComp _ _ _ _ _ => true
  | _ => false
theorem nosw {e : Expr} (h : isCompE e = false) (t : Option Expr) (l : Nat) (env : Env) : swapsWith e t l env = pure false := by
  cases e <;> first | rfl | cases h
theorem nosw_tg {e tg : Expr} (h : ∀ x p, tg ≠ .Name x p) (l : Nat) (env : Env) : swapsWith e (some tg) l env = pure false := by
  cases e <;> first
    | rfl
    | (cases tg <;> first | rfl | exact absurd rfl (h _ _))
/-- the sole name's comprehension on one line -/
def swLc (sc : Scope) (x : Str) (px : Pos) (e : Expr) : Bool := match e with
  | .ListComp _ _ scope cp => decide (sc.names.lookup x = some .local) && (px.line == cp.line) && !(scope.names.any fun (n, k) => n == x && (k == .local || k == .cell))
  | _ => false
/-- not swapped, by the name -/
def noLc (sc : Scope) (x : Str) (px : Pos) (e : Expr) : Bool := match e with
  | .ListComp _ _ scope cp => decide (sc.names.lookup x = some .cell) || !(px.line == cp.line)
  | .SetComp _ _ _ _ => false
  | .DictComp _ _ _ _ _ => false
  | _ => true
theorem noLc_ok {e : Expr} {x : Str} {px : Pos} {env : Env} (l : Nat) (h : noLc env.scope x px e = true) : swapsWith e (some (.Name x px)) l env = pure false := by
  cases e <;> first | rfl | (cases h; done) | skip
  rename_i elt gs scope cp
  have h : (decide (env.scope.names.lookup x = some .cell) || !(px.line == cp.line)) = true := h
  unfold swapsWith
  show (pure (env.blockKind == .function && env.kindOf x == some .local && px.line == cp.line && !(scope.names.any fun (n, k) => n == x && (k == .local || k == .cell))) : Sem Bool) = pure false
  rw [Bool.or_eq_true, decide_eq_true_eq, Bool.not_eq_true'] at h
  rcases h with h | h
  · have e : (env.kindOf x == some .local) = false := by
      show (env.scope.names.lookup x == some .local) = false
      rw [h]; rfl
    rw [e]; simp
  · rw [h]; simp
/-- a tuple's display at a tuple's target: stored by unpacking -/
def noSw (sc : Scope) (tg e : Expr) : Bool := match e with
  | .Tuple vs _ _ => (match tg with
    | .Tuple ts _ _ => (!(vs.all (constantsAlone 8)) || vs.all (foldedForSure 8)) && decide (swN sc ts vs = none)
    | _ => false)
  | .List _ _ => false
  | _ => true
theorem noSw_ok {tg e : Expr} {env : Env} (hk : env.scope.kind = .function) (h : noSw env.scope tg e = true) : swappedStores [tg] e env = pure none := by
  cases e <;> first
    | (cases h; done)
    | (cases tg <;> rfl)
    | skip
  rename_i vs kk p
  cases tg <;> first | (cases h; done) | skip
  rename_i ts k2 p2
  have h : ((!(vs.all (constantsAlone 8)) || vs.all (foldedForSure 8)) && decide (swN env.scope ts vs = none)) = true := h
  rw [Bool.and_eq_true, decide_eq_true_eq, Bool.or_eq_true, Bool.not_eq_true'] at h
  rw [swN_ok hk h.1, h.2]
def parN (k : Ck) : List Nat → List Expr → Option (List Str)
  | [], [] => some []
  | i :: is, .Name x _ :: r => if decide (k.N[i]? = some x) && decide (k.sc.names.lookup x = some .local) then (parN k is r).map (x :: ·) else none
  | _, _ => none
mutual
def cS : CS → Ck → List (Str × List Str) → Stmt → Bool
  | .expr c, k, xs, s => (match s with
    | .Expr e _ => !isCompE e && ck c k false e
    | _ => false)
  | .pass, k, xs, s => (match s with
    | .Pass _ => true
    | .Expr (.Constant (.str _) _ _) _ => true
    | _ => false)
  | .brk, k, xs, s => (match s with
    | .Break _ => true
    | _ => false)
  | .cont, k, xs, s => (match s with
    | .Continue _ => true
    | _ => false)
  | .ret c, k, xs, s => (match s with
    | .Return (some e) _ => ck c k false e
    | _ => false)
  | .retN, k, xs, s => (match s with
    | .Return none _ => true
    | _ => false)
  | .ite c a b, k, xs, s => (match s with
    | .If e x y _ => ck c k true e && cSs a k xs x && cSs b k xs y
    | _ => false)
  | .whl c b, k, xs, s => (match s with
    | .While e x [] _ => ck c k true e && cSs b k xs x
    | _ => false)
  | .loop t it b, k, xs, s => (match s with
    | .For tg iter x [] _ => ckG k t tg && notSet iter && ckI it k (isTupE tg) iter && cSs b k xs x
    | _ => false)
  | .asg t c, k, xs, s => (match s with
    | .Assign [tg] e _ => (match t, tg with
      | .v i, .Name x px => decide (k.N[i]? = some x) && locB k x && ck c k false e && (noLc k.sc x px e || swLc k.sc x px e)
      | .t ts, .Tuple es _ _ => ckG k (.t ts) tg && ck c k false e && noSw k.sc tg e
      | _, _ => false)
    | _ => false)
  | .par is cs, k, xs, s => (match s with
    | .Assign [.Tuple ts _ _] (.Tuple vs _ _) _ => (match parN k is ts with
      | some ns => decide (swN k.sc ts vs = some ns) && !(vs.all (constantsAlone 8)) && is.Nodup && cks cs k vs && decide (cs.len = is.length) && decide (is.length = 2 ∨ is.length = 3)
      | none => false)
    | _ => false)
  | .aug op i c, k, xs, s => (match s with
    | .AugAssign (.Name x _) o e _ => decide (k.N[i]? = some x) && locB k x && augOp op o && ck c k false e
    | _ => false)
  | .setI a i c, k, xs, s => (match s with
    | .Assign [.Subscript o ix _] e _ => notSlice ix && noSw k.sc (.Subscript o ix ⟨0, 0, 0, 0⟩) e && ck c k false e && ck a k false o && ck i k false ix
    | _ => false)
  | .dput d i c, k, xs, s => (match s with
    | .Assign [.Subscript o ix _] e _ => ck c k false e && ck d k false o && ck i k false ix
    | _ => false)
  | .tr b c i kk hs, k, xs, s => (match s with
    | .Try body [.ExceptHandler (some (.Name x _)) (some nm) [.Return (some e) _] _] [] [] _ => (match xs[c]? with
      | some (y, fs) => decide (x = y) && decide (k.N[i]? = some nm) && decide (k.sc.names.lookup nm = some .local) && okN nm && okN x && glB k.sc x && decide (hs.length ≤ 1000) && cSs b k xs body && (match kk, e with
        | 0, .Tuple es _ _ => ckH fs nm hs es
        | 1, .List es _ => ckH fs nm hs es
        | _, _ => false)
      | none => false)
    | _ => false)
  | .raise c cs, k, xs, s => (match s with
    | .Raise (some (.Call (.Name x _) es [] _)) none _ => (match xs[c]? with
      | some (y, fs) => decide (x = y) && glB k.sc x && decide (es.length = fs.length) && cks cs k es
      | none => false)
    | _ => false)
def cSs : CSs → Ck → List (Str × List Str) → List Stmt → Bool
  | .nil, k, xs, ss => (match ss with
    | [] => true
    | _ => false)
  | .cons c cs, k, xs, ss => (match ss with
    | s :: ss => cS c k xs s && cSs cs k xs ss
    | _ => false)
end
/-- a def's context -/
structure XS (T : ExT) (C : CallEnv) (k : Ck) (xs : List (Str × List Str)) (n : Nat) (X : Cx) (W : WX) : Prop where
  ok : XOk T C k n X W
  kf : k.sc.kind = .function
  po : PassesOwn (model X.prog X.w) X.A X.env X.xe
  st : X.stack = X.env :: X.outer
  fr : X.env.frame = some X.env.locals
  r1 : Room 2 X.A
  ex : ∀ (c : Nat) (y : Str) (fs : List Str), xs[c]? = some (y, fs) → ExcOk T y c X.prog X.w X.K X.mg X.base ∧ T.fields c = fs
section
variable {T : ExT} {C : CallEnv} {k : Ck} {xs : List (Str × List Str)} {n : Nat} {X : Cx} {W : WX}
theorem XS.tr (h : XS T C k xs n X W) {W' : WX} {pn : List (Addr × Obj)} {xe : Value → Shared → Prop} (tk : L2.Takes (X.tr pn xe) W') (po : PassesOwn (model X.prog X.w) X.A X.env xe) : XS T C k xs n (X.tr pn xe) W' :=
  ⟨⟨h.ok.N, h.ok.nd, h.ok.sc, h.ok.fn, h.ok.calm, tk, h.ok.room, h.ok.tab, h.ok.lam⟩, h.kf, po, h.st, h.fr, h.r1, h.ex⟩
/-- what a checked statement gives -/
def SS (T : ExT) (C : CallEnv) (c : CS) : Prop := ∀ (n : Nat) (k : Ck) (xs : List (Str × List Str)) (X : Cx) (W : WX) (s : Stmt) (A : List Nat), XS T C k xs n X W → cS c k xs s = true → (∀ i, i ∈ c.sto → i ∈ A) → PS X s (rdS T X.K W A (exec C c))
def SSs (T : ExT) (C : CallEnv) (c : CSs) : Prop := ∀ (n : Nat) (k : Ck) (xs : List (Str × List Str)) (X : Cx) (W : WX) (s : List Stmt) (A : List Nat), XS T C k xs n X W → cSs c k xs s = true → (∀ i, i ∈ c.stos → i ∈ A) → PSs X s (rdS T X.K W A (execs C c))
theorem ss_expr {c : CE} : SS T C (.expr c) := by
  intro n k xs X W s A x h hA
  cases s <;> first | (cases h; done) | skip
  rename_i e p
  have h : (!isCompE e && ck c k false e) = true := h
  rw [Bool.and_eq_true, Bool.not_eq_true'] at h
  exact rs_expr ((sE c n k X W e x.ok).1 h.2) (nosw h.1 _ _ _)
theorem ss_pass : SS T C .pass := by
  intro n k xs X W s A x h hA
  unfold cS at h
  split at h
  · exact rs_pass
  · exact PS.imp ps_doc fun D σ H ⟨w, st, R, h⟩ => h σ H w (.refl R)
  · cases h
theorem ss_brk : SS T C .brk := by
  intro n k xs X W s A x h hA
  cases s <;> first | (cases h; done) | skip
  exact rs_break
theorem ss_cont : SS T C .cont := by
  intro n k xs X W s A x h hA
  cases s <;> first | (cases h; done) | skip
  exact rs_cont
theorem ss_ret {c : CE} : SS T C (.ret c) := by
  intro n k xs X W s A x h hA
  unfold cS at h
  split at h
  · exact rs_ret ((sE c n k X W _ x.ok).1 h)
  · cases h
theorem ss_retN : SS T C .retN := by
  intro n k xs X W s A x h hA
  unfold cS at h
  split at h
  · exact rs_retN
  · cases h
theorem ss_ite {c : CE} {a b : CSs} (ha : SSs T C a) (hb : SSs T C b) : SS T C (.ite c a b) := by
  intro n k xs X W s A x h hA
  cases s <;> first | (cases h; done) | skip
  rename_i e y z p
  have h : (ck c k true e && cSs a k xs y && cSs b k xs z) = true := h
  simp only [Bool.and_eq_true] at h
  exact rs_if ((sE c n k X W e x.ok).2 h.1.1) (ha n k xs X W y A x h.1.2 fun i hi => hA i (List.mem_append_left _ hi)) (hb n k xs X W z A x h.2 fun i hi => hA i (List.mem_append_right _ hi))
theorem ss_whl {c : CE} {b : CSs} (hb : SSs T C b) : SS T C (.whl c b) := by
  intro n k xs X W s A x h hA
  unfold cS at h
  split at h
  · simp only [Bool.and_eq_true] at h
    exact rs_while x.po ((sE c n k X W _ x.ok).2 h.1) (hb n k xs X W _ A x h.2 hA)
  · cases h
theorem ss_loop {t : Tgtm} {it : CI} {b : CSs} (hb : SSs T C b) : SS T C (.loop t it b) := by
  intro n k xs X W s A x h hA
  unfold cS at h
  split at h
  · rename_i tg iter body p
    simp only [Bool.and_eq_true] at h
    obtain ⟨⟨⟨h1, h2⟩, h3⟩, h4⟩ := h
    have hA' : ∀ i, i ∈ t.vars ++ b.stos → i ∈ A := hA
    have key := rs_for (A := t.vars ++ b.stos) (xs := b.stos) (pos := p) x.po x.ok.calm (sI it n k X W tg iter x.ok h3) (sG x.ok t tg h1) (hb n k xs X W body (t.vars ++ b.stos) x h4 fun i hi => List.mem_append_right _ hi) (nofold h2 _) (fun i hi => hi) fun i hi => List.mem_append_left _ hi
    exact PS.imp key fun D σ H ⟨w, st, R, q⟩ => ⟨w, st, R, q.less hA'⟩
  · cases h
theorem ss_nil : SSs T C .nil := by
  intro n k xs X W s A x h hA
  cases s with
  | nil => exact rs_nil
  | cons _ _ => cases h
theorem ss_cons {c : CS} {cs : CSs} (hc : SS T C c) (hs : SSs T C cs) : SSs T C (.cons c cs) := by
  intro n k xs X W s A x h hA
  cases s with
  | nil => cases h
  | cons s ss =>
    have h : (cS c k xs s && cSs cs k xs ss) = true := h
    rw [Bool.and_eq_true] at h
    exact rs_cons (hc n k xs X W s A x h.1 fun i hi => hA i (List.mem_append_left _ hi)) (hs n k xs X W ss A x h.2 fun i hi => hA i (List.mem_append_right _ hi))
theorem ss_aug {op : BOp} {i : Nat} {c : CE} : SS T C (.aug op i c) := by
  intro n k xs X W s A x h hA
  unfold cS at h
  split at h
  · simp only [Bool.and_eq_true, decide_eq_true_eq] at h
    obtain ⟨⟨⟨h1, h2⟩, h3⟩, h4⟩ := h
    obtain ⟨l1, l2⟩ := x.ok.loc h2
    exact rs_aug h3 (by rw [x.ok.N]; exact x.ok.nd) (by rw [x.ok.N]; exact h1) l1 l2 ((sE c n k X W _ x.ok).1 h4) (hA i (by simp [CS.sto]))
  · cases h
theorem ss_dput {d i c : CE} : SS T C (.dput d i c) := by
  intro n k xs X W s A x h hA
  unfold cS at h
  split at h
  · simp only [Bool.and_eq_true] at h
    obtain ⟨⟨h1, h2⟩, h3⟩ := h
    exact rs_dput (u1_of x.ok.room) ((sE c n k X W _ x.ok).1 h1) ((sE d n k X W _ x.ok).1 h2) ((sE i n k X W _ x.ok).1 h3) (nosw_tg (fun _ _ q => by cases q) _ _)
  · cases h
theorem ss_raise {c : Nat} {cs : CEs} : SS T C (.raise c cs) := by
  intro n k xs X W s A x h hA
  unfold cS at h
  split at h
  · split at h
    · rename_i y fs q
      simp only [Bool.and_eq_true, decide_eq_true_eq] at h
      obtain ⟨⟨⟨rfl, h2⟩, h3⟩, h4⟩ := h
      obtain ⟨E, ef⟩ := x.ex c _ fs q
      obtain ⟨pa, pn, pl⟩ := (sEs cs).1 n k X W _ x.ok h4
      exact rs_raise x.ok.calm x.ok.tk E x.r1 (x.ok.gl h2) pa (by rw [ef]; exact h3) pl.symm pn
    · cases h
  · cases h
end
end Mp

set_option Elab.async false
set_option linter.all false
set_option maxRecDepth 100000
set_option maxHeartbeats 2000000
/-! Mp21: assignments, try; all statements. -/
namespace Mp
open PySem PySem.Spec PyProof.Rows L2
section
variable {T : ExT} {C : CallEnv} {k : Ck} {xs : List (Str × List Str)} {n : Nat} {X : Cx} {W : WX}
/-- name = [..] on one line -/
theorem comp_set {el c : CE} {t : Tgtm} {it : CI} {ws : List Nat} {e : Expr} {i : Nat} {y : Str} {py spos : Pos} {A : List Nat} (x : XOk T C k n X W) (kf : k.sc.kind = .function) (h : ck (.comp el t it c ws) k false e = true) (hsw : swLc k.sc y py e = true) (hi : k.N[i]? = some y) (hA : i ∈ A) :
    PS X (.Assign [.Name y py] e spos) (rdS T X.K W A fun st => (eComp (evP C el).1 t (evI C it) (evP C c).2 ws st).bind fun r st => asgF (.v i) r st) := by
  have shape : ∃ elt tg iter ifs scope pos, e = .ListComp elt [⟨tg, iter, ifs, 0⟩] scope pos ∧ blkC k.N k.sc scope (ownOf k ws) = true ∧ (t.vars.all fun i => ws.contains i) = true ∧ notSet iter = true ∧ ckI it k (isTupE tg) iter = true ∧
      ckG (k.blk scope) t tg = true ∧ ck el (k.blk scope) false elt = true ∧ ((ifs = [] ∧ trueC c = true) ∨ ∃ y, ifs = [y] ∧ ck c (k.blk scope) true y = true) := by
    unfold ck at h
    split at h
    · rename_i elt tg iter ifs scope pos
      simp only [Bool.and_eq_true] at h
      obtain ⟨⟨⟨⟨⟨⟨h1, h2⟩, h3⟩, h4⟩, h5⟩, h6⟩, h7⟩ := h
      refine ⟨elt, tg, iter, ifs, scope, pos, rfl, h1, h2, h3, h4, h5, h6, ?_⟩
      split at h7
      · exact .inl ⟨rfl, h7⟩
      · exact .inr ⟨_, rfl, h7⟩
      · cases h7
    · cases h
  obtain ⟨elt, tg, iter, ifs, scope, pos, rfl, h1, h2, h3, h4, h5, h6, h7⟩ := shape
  have hown : (ownOf k ws).map (·.2) = ws := by
    unfold ownOf
    rw [List.map_map]
    show ws.map (fun i => i) = ws
    simp
  have hv : ∀ i, i ∈ t.vars → i ∈ ws := fun i hi => by
    have := List.all_eq_true.mp h2 i hi
    simpa using this
  have hsw : (decide (k.sc.names.lookup y = some .local) && (py.line == pos.line) && !(scope.names.any fun (n, k) => n == y && (k == .local || k == .cell))) = true := hsw
  simp only [Bool.and_eq_true, decide_eq_true_eq, Bool.not_eq_true'] at hsw
  obtain ⟨⟨s1, s2⟩, s3⟩ := hsw
  have hyl : X.env.scope.names.lookup y = some .local := by rw [x.sc]; exact s1
  have hkf : X.env.scope.kind = .function := by rw [x.sc]; exact kf
  have key := ps_setLc (ifs := ifs) (own := ownOf k ws) (wi := rdI T X.K W (evI C it)) (g := rdG X.K t) (tt := rdT T X.K (fun _ _ _ _ => False) (evP C c).2) (te := rdE T X.K (fun _ _ _ _ => False) (evP C el).1) (pos := pos) (spos := spos) (py := py) x.calm (by rw [x.N]; exact x.nd) (by rw [x.N]; exact hi) hyl
      (sw_true hkf hyl s2 s3) ((sI it) n k X W tg iter x h4)
      (blkOk_by (by rw [x.N, x.sc]; exact h1)) (fun s H D cl fp => sG (x.blk s H scope D cl fp) t tg h5) (fun s H D cl fp => ?_) (fun s H D cl fp => (sE el n _ _ _ elt (x.blk s H scope D cl fp)).1 h6) (nofold h3 _)
  · rw [hown] at key
    refine PS.imp key fun D σ H ⟨w, st, R, h⟩ => ?_
    refine comp_rd hv (W := W) (Q := fun v H1 => gName i v σ H1 D.nx) (K := X.K) ⟨w, st, R, ?_⟩
    refine (EndE.bindS h).mono fun v H1 ⟨r1, st1, w1, P1, h1⟩ => ?_
    rcases asg_end P1 (fun j hj => by simp [Tgtm.vars] at hj; rw [hj]; exact hA) h1 with ⟨j, e, q⟩ | ⟨n, _⟩
    · cases e; exact q
    · exact absurd rfl (n i)
  · rcases h7 with ⟨rfl, h7⟩ | ⟨y, rfl, h7⟩
    · rw [trueC_ok h7]
      exact pts_yes
    · exact pts_one ((sE c n _ _ _ y (x.blk s H scope D cl fp)).2 h7)
theorem ss_asg {t : Tgtm} {c : CE} : SS T C (.asg t c) := by
  intro n k xs X W s A x h hA
  unfold cS at h
  split at h
  · rename_i tg e p
    split at h
    · rename_i i y py
      simp only [Bool.and_eq_true, Bool.or_eq_true, decide_eq_true_eq] at h
      obtain ⟨⟨⟨h1, h2⟩, h3⟩, h4⟩ := h
      have hi : i ∈ A := hA i (by simp [CS.sto, Tgtm.vars])
      rcases h4 with h4 | h4
      · obtain ⟨l1, l2⟩ := x.ok.loc h2
        exact rs_asgV (by rw [x.ok.N]; exact x.ok.nd) (by rw [x.ok.N]; exact h1) l1 l2 ((sE c n k X W e x.ok).1 h3) (noLc_ok _ (by rw [x.ok.sc]; exact h4)) hi
      · cases c with
        | comp el t it c ws => exact comp_set x.ok x.kf h3 h4 h1 hi
        | _ =>
          cases e <;> first
            | (cases h4; done)
            | (exfalso; simp [ck, cstB] at h3; done)
            | (exfalso; unfold ck at h3; simp at h3; done)
            | (exfalso; unfold ck at h3; split at h3 <;> simp_all; done)
    · rename_i ts es kk tp
      simp only [Bool.and_eq_true] at h
      obtain ⟨⟨h1, h2⟩, h3⟩ := h
      refine rs_asgT (sG x.ok _ _ h1) ((sE c n k X W e x.ok).1 h2) (fun i q => nomatch q) (show swapsWith e (some (.Tuple es kk tp)) p.line X.env = pure false from nosw_tg (fun _ _ q => by cases q) _ _) (noSw_ok (by rw [x.ok.sc]; exact x.kf) (by rw [x.ok.sc]; exact h3)) rfl hA
    · cases h
  · cases h
theorem ss_setI {a i c : CE} : SS T C (.setI a i c) := by
  intro n k xs X W s A x h hA
  unfold cS at h
  split at h
  · rename_i o ix sp e p
    simp only [Bool.and_eq_true] at h
    obtain ⟨⟨⟨⟨h1, h2⟩, h3⟩, h4⟩, h5⟩ := h
    refine rs_setL ((sE c n k X W e x.ok).1 h3) ((sE a n k X W o x.ok).1 h4) ((sE i n k X W ix x.ok).1 h5) h1 (show swapsWith e (some (.Subscript o ix sp)) p.line X.env = pure false from nosw_tg (fun _ _ q => by cases q) _ _) ?_
    cases e <;> first | rfl | (cases h2; done)
  · cases h
theorem parN_ok : ∀ {is : List Nat} {ts : List Expr} {ns : List Str}, parN k is ts = some ns → (is = [] ∧ ts = [] ∧ ns = []) ∨ ∃ i is' y p ts' ns', is = i :: is' ∧ ts = .Name y p :: ts' ∧ ns = y :: ns' ∧ k.N[i]? = some y ∧ k.sc.names.lookup y = some .local ∧ parN k is' ts' = some ns'
  | [], [], ns, h => by cases h; exact .inl ⟨rfl, rfl, rfl⟩
  | [], _ :: _, ns, h => by cases h
  | _ :: _, [], ns, h => by cases h
  | i :: is, e :: r, ns, h => by
    cases e <;> first | (cases h; done) | skip
    rename_i y p
    have h : (if (decide (k.N[i]? = some y) && decide (k.sc.names.lookup y = some .local)) = true then (parN k is r).map (y :: ·) else none) = some ns := h
    split at h
    · rename_i hc
      rw [Bool.and_eq_true, decide_eq_true_eq, decide_eq_true_eq] at hc
      obtain ⟨ns', h1, rfl⟩ := Option.map_eq_some_iff.mp h
      exact .inr ⟨i, is, y, p, r, ns', rfl, rfl, rfl, hc.1, hc.2, h1⟩
    · cases h
theorem ss_par {is : List Nat} {cs : CEs} : SS T C (.par is cs) := by
  intro n k xs X W s A x h hA
  unfold cS at h
  split at h
  · rename_i ts k1 p1 vs k2 p2 p
    split at h
    · rename_i ns hp
      simp only [Bool.and_eq_true, Bool.not_eq_true', decide_eq_true_eq] at h
      obtain ⟨⟨⟨⟨⟨h1, h2⟩, h3⟩, h4⟩, h5⟩, h6⟩ := h
      obtain ⟨pa, pn, pl⟩ := (sEs cs).1 n k X W vs x.ok h4
      have hkf : X.env.scope.kind = .function := by rw [x.ok.sc]; exact x.kf
      have hA : ∀ i, i ∈ is → i ∈ A := hA
      have hN : X.N.Nodup := by rw [x.ok.N]; exact x.ok.nd
      rcases h6 with h6 | h6
      · match is, vs, h6, h3, h5, pl, pa, h1, h2 with
        | [i, j], [a, b], _, h3, h5, _, pa, h1, h2 =>
          rcases parN_ok hp with ⟨q, _⟩ | ⟨_, _, y1, q1, ts1, ns1, e1, rfl, rfl, g1, g2, hp1⟩
          · cases q
          cases e1
          rcases parN_ok hp1 with ⟨q, _⟩ | ⟨_, _, y2, q2, ts2, ns2, e1, rfl, rfl, g3, g4, hp2⟩
          · cases q
          cases e1
          rcases parN_ok hp2 with ⟨_, rfl, rfl⟩ | ⟨_, _, _, _, _, _, e1, _⟩
          · rw [h5] at pa
            have hij : i ≠ j := by simpa using h3
            refine rs_par2 x.ok.calm hN (by rw [x.ok.N]; exact g1) (by rw [x.ok.N]; exact g3) hij (by rw [x.ok.sc]; exact g2) (by rw [x.ok.sc]; exact g4) pa ?_ (hA i (by simp)) (hA j (by simp))
            rw [swN_ok hkf (.inl h2), x.ok.sc, h1]
          · cases e1
        | [_, _], [], _, _, h5, pl, _, _, _ => rw [h5] at pl; cases pl
        | [_, _], [_], _, _, h5, pl, _, _, _ => rw [h5] at pl; cases pl
        | [_, _], _ :: _ :: _ :: _, _, _, h5, pl, _, _, _ => rw [h5] at pl; simp at pl
        | [], _, h6, _, _, _, _, _, _ => cases h6
        | [_], _, h6, _, _, _, _, _, _ => cases h6
        | _ :: _ :: _ :: _, _, h6, _, _, _, _, _, _ => simp at h6
      · match is, vs, h6, h3, h5, pl, pa, h1, h2 with
        | [i, j, l], [a, b, c], _, h3, h5, _, pa, h1, h2 =>
          rcases parN_ok hp with ⟨q, _⟩ | ⟨_, _, y1, q1, ts1, ns1, e1, rfl, rfl, g1, g2, hp1⟩
          · cases q
          cases e1
          rcases parN_ok hp1 with ⟨q, _⟩ | ⟨_, _, y2, q2, ts2, ns2, e1, rfl, rfl, g3, g4, hp2⟩
          · cases q
          cases e1
          rcases parN_ok hp2 with ⟨q, _⟩ | ⟨_, _, y3, q3, ts3, ns3, e1, rfl, rfl, g5, g6, hp3⟩
          · cases q
          cases e1
          rcases parN_ok hp3 with ⟨_, rfl, rfl⟩ | ⟨_, _, _, _, _, _, e1, _⟩
          · rw [h5] at pa
            have hd : (i ≠ j ∧ i ≠ l) ∧ j ≠ l := by simpa using h3
            refine rs_par3 x.ok.calm hN (by rw [x.ok.N]; exact g1) (by rw [x.ok.N]; exact g3) (by rw [x.ok.N]; exact g5) hd.1.1 hd.1.2 hd.2 (by rw [x.ok.sc]; exact g2) (by rw [x.ok.sc]; exact g4) (by rw [x.ok.sc]; exact g6) pa ?_ (hA i (by simp)) (hA j (by simp)) (hA l (by simp))
            rw [swN_ok hkf (.inl h2), x.ok.sc, h1]
          · cases e1
        | [_, _, _], [], _, _, h5, pl, _, _, _ => rw [h5] at pl; cases pl
        | [_, _, _], [_], _, _, h5, pl, _, _, _ => rw [h5] at pl; cases pl
        | [_, _, _], [_, _], _, _, h5, pl, _, _, _ => rw [h5] at pl; cases pl
        | [_, _, _], _ :: _ :: _ :: _ :: _, _, _, h5, pl, _, _, _ => rw [h5] at pl; simp at pl
        | [], _, h6, _, _, _, _, _, _ => cases h6
        | [_], _, h6, _, _, _, _, _, _ => cases h6
        | [_, _], _, h6, _, _, _, _, _, _ => cases h6
        | _ :: _ :: _ :: _ :: _, _, h6, _, _, _, _, _, _ => simp at h6
    · cases h
  · cases h
theorem ss_tr {b : CSs} {c i kk : Nat} {hs : List Hitm} (hb : SSs T C b) : SS T C (.tr b c i kk hs) := by
  intro n k xs X W s A x h hA
  unfold cS at h
  split at h
  · rename_i body y yp nm e rp hp p
    split at h
    · rename_i y' fs q
      simp only [Bool.and_eq_true, decide_eq_true_eq] at h
      obtain ⟨⟨⟨⟨⟨⟨⟨⟨rfl, h2⟩, h3⟩, h4⟩, h5⟩, h6⟩, h7⟩, h8⟩, h9⟩ := h
      obtain ⟨E, ef⟩ := x.ex c _ fs q
      subst ef
      obtain ⟨o1, o2, _⟩ := okN_1 h4
      have fin : ∀ es, ckH (T.fields c) nm hs es = true → hExpr kk es e → PS X (.Try body [.ExceptHandler (some (.Name y yp)) (some nm) [.Return (some e) rp] hp] [] [] p) (rdS T X.K W A (tryF c i kk hs (execs C b))) := fun es hk he =>
        rs_try (np := yp) x.st x.fr (by rw [x.ok.N]; exact x.ok.nd) (by rw [x.ok.N]; exact h2) (by rw [x.ok.sc]; exact h3) o1 o2 (okN_1 h5).1 E (x.ok.gl h6) x.ok.tk hk h7 he (hA i List.mem_cons_self)
          fun W' pn xe tk po => hb n k xs _ W' body A (x.tr tk po) h8 fun j hj => hA j (List.mem_cons_of_mem _ hj)
      split at h9
      · exact fin _ h9 (.inl ⟨rfl, _, _, rfl⟩)
      · exact fin _ h9 (.inr ⟨rfl, _, rfl⟩)
      · cases h9
    · cases h
  · cases h
mutual
theorem sS : ∀ c : CS, SS T C c
  | .expr c => ss_expr
  | .asg t c => ss_asg
  | .par is cs => ss_par
  | .aug op i c => ss_aug
  | .setI a i c => ss_setI
  | .dput d i c => ss_dput
  | .ret c => ss_ret
  | .retN => ss_retN
  | .pass => ss_pass
  | .brk => ss_brk
  | .cont => ss_cont
  | .ite c a b => ss_ite (sSs a) (sSs b)
  | .whl c b => ss_whl (sSs b)
  | .loop t it b => ss_loop (sSs b)
  | .tr b c i kk hs => ss_tr (sSs b)
  | .raise c cs => ss_raise
theorem sSs : ∀ c : CSs, SSs T C c
  | .nil => ss_nil
  | .cons c cs => ss_cons (sS c) (sSs cs)
end
end
end Mp

set_option Elab.async false
set_option linter.all false
set_option maxRecDepth 100000
set_option maxHeartbeats 2000000
/-! Mp22: a def by its checked body. -/
namespace Mp
open PySem PySem.Spec PyProof.Rows L2
theorem finL_get (A : List Nat) : ∀ (l : List Slotm) (j i : Nat) (s : Slotm), (finL A j l)[i]? = some s → ∃ s0, l[i]? = some s0 ∧ (s = .no ∨ (j + i ∉ A ∧ ∃ o, s0 = .lent o ∧ s = .lent o))
  | [], j, i, s, h => by simp [finL] at h
  | t :: r, j, 0, s, h => by
    simp [finL] at h
    refine ⟨t, rfl, ?_⟩
    split at h
    · exact .inl h.symm
    · rename_i hj
      cases t with
      | lent o => exact .inr ⟨by simpa using hj, o, rfl, h.symm⟩
      | _ => exact .inl h.symm
  | t :: r, j, i + 1, s, h => by
    have h : (finL A (j + 1) r)[i]? = some s := by simpa [finL] using h
    obtain ⟨s0, h1, h2⟩ := finL_get A r (j + 1) i s h
    refine ⟨s0, by simpa using h1, ?_⟩
    rw [show j + (i + 1) = j + 1 + i by omega]
    exact h2
theorem finL_len (A : List Nat) : ∀ (l : List Slotm) (j : Nat), (finL A j l).length = l.length
  | [], _ => rfl
  | t :: r, j => by simp [finL, finL_len A r]
section
variable {T : ExT} {K : PySem.W.Frag} {w w1 : Wl} {σ : L2.St} {H H1 : Hp} {st st1 : Sm} {vs : List V} {ss : List Slotm} {hp : List MOm} {A : List Nat} {m : Nat}
/-- the body's first state -/
theorem start_rel (R : Rel K w (vs.map some) H ⟨ss, hp⟩) : Rel K w (vs.map some ++ List.replicate m none) H ⟨ss ++ List.replicate m .no, hp⟩ ∧ ∀ a, Foot (ss ++ List.replicate m .no) (vs.map some ++ List.replicate m none) w a → Foot ss (vs.map some) w a := by
  have hl : (vs.map some).length = ss.length := R.len
  have env : ∀ {i : Nat} {s : Slotm}, (ss ++ List.replicate m Slotm.no)[i]? = some s → s ≠ .no → ss[i]? = some s ∧ i < ss.length := fun {i s} h hn => by
    by_cases hi : i < ss.length
    · rw [List.getElem?_append_left hi] at h
      exact ⟨h, hi⟩
    · rw [List.getElem?_append_right (by omega)] at h
      exact absurd (List.eq_of_mem_replicate (List.mem_of_getElem? h)) hn
  have sg : ∀ {i : Nat}, i < ss.length → (vs.map some ++ List.replicate m none)[i]? = (vs.map some)[i]? := fun {i} hi => List.getElem?_append_left (by rw [hl]; exact hi)
  have oa : ∀ i a, OwnAt (ss ++ List.replicate m .no) (vs.map some ++ List.replicate m none) i a → OwnAt ss (vs.map some) i a := fun i a ⟨h1, o, h2⟩ => by
    rcases h2 with h2 | h2
    · obtain ⟨e, hi⟩ := env h2 (fun z => nomatch z)
      exact ⟨by rw [← sg hi]; exact h1, o, .inl e⟩
    · obtain ⟨e, hi⟩ := env h2 (fun z => nomatch z)
      exact ⟨by rw [← sg hi]; exact h1, o, .inr e⟩
  have ft : ∀ a, Foot (ss ++ List.replicate m .no) (vs.map some ++ List.replicate m none) w a → Foot ss (vs.map some) w a := fun a h => h.elim .inl fun ⟨i, h⟩ => .inr ⟨i, oa i a h⟩
  refine ⟨⟨by simp [← hl], fun i v e => ?_, fun i o e => ?_, R.hl, R.hob, R.nd, fun i a h => R.nio i a (oa i a h), fun i j a h k => R.inj i j a (oa i a h) (oa j a k), fun a h f => R.sS a h (ft a f), R.tS⟩, ft⟩
  · obtain ⟨e, hi⟩ := env e (fun z => nomatch z)
    rw [sg hi]
    exact R.val i v e
  · rcases e with e | e
    · obtain ⟨e, hi⟩ := env e (fun z => nomatch z)
      rw [sg hi]
      exact R.obj i o (.inl e)
    · obtain ⟨e, hi⟩ := env e (fun z => nomatch z)
      rw [sg hi]
      exact R.obj i o (.inr e)
theorem start_foot (R : Rel K w (vs.map some) H ⟨ss, hp⟩) (a : Addr) (h : Foot ss (vs.map some) w a) : Foot (ss ++ List.replicate m .no) (vs.map some ++ List.replicate m none) w a := by
  have hl : (vs.map some).length = ss.length := R.len
  rcases h with h | ⟨i, h1, o, h2⟩
  · exact .inl h
  · have hi : i < ss.length := by rcases h2 with h2 | h2 <;> exact (List.getElem?_eq_some_iff.mp h2).1
    exact .inr ⟨i, by rw [List.getElem?_append_left (by rw [hl]; exact hi)]; exact h1, o, by rw [List.getElem?_append_left hi]; exact h2⟩
/-- what comes back of the parameters -/
theorem fin_rel {n : Nat} (R : Rel K w1 σ H1 st1) (hv : vs.length = n) (hn : n ≤ st1.env.length) (out : ∀ i, i ∉ A → σ[i]? = (vs.map some ++ List.replicate m none)[i]?) :
    Rel K w1 (vs.map some) H1 ⟨finS n A st1, st1.hp⟩ ∧ (∀ a, Foot (finS n A st1) (vs.map some) w1 a → Foot st1.env σ w1 a) ∧ ∀ i a, OwnAt (finS n A st1) (vs.map some) i a → OwnAt st1.env σ i a ∧ ∃ o, st1.env[i]? = some (.lent o) := by
  have get : ∀ {i : Nat} {s : Slotm}, (finS n A st1)[i]? = some s → s = .no ∨ (i ∉ A ∧ i < n ∧ ∃ o, st1.env[i]? = some (.lent o) ∧ s = .lent o) := fun {i s} h => by
    obtain ⟨s0, h1, h2⟩ := finL_get A _ 0 i s h
    rcases h2 with h2 | ⟨h2, o, rfl, rfl⟩
    · exact .inl h2
    · have hi : i < n := by
        have := (List.getElem?_eq_some_iff.mp h1).1
        rw [List.length_take] at this
        omega
      rw [List.getElem?_take_of_lt hi] at h1
      rw [Nat.zero_add] at h2
      exact .inr ⟨h2, hi, o, h1, rfl⟩
  have sg : ∀ {i : Nat}, i ∉ A → i < n → (vs.map some)[i]? = σ[i]? := fun {i} h1 h2 => by
    rw [out i h1, List.getElem?_append_left (by simp [hv]; exact h2)]
  have oa : ∀ i a, OwnAt (finS n A st1) (vs.map some) i a → OwnAt st1.env σ i a ∧ ∃ o, st1.env[i]? = some (.lent o) := fun i a ⟨h1, o, h2⟩ => by
    rcases h2 with h2 | h2
    · rcases get h2 with z | ⟨_, _, _, _, z⟩ <;> cases z
    · rcases get h2 with z | ⟨g1, g2, o', g3, z⟩
      · cases z
      · cases z
        exact ⟨⟨by rw [← sg g1 g2]; exact h1, o, .inr g3⟩, o, g3⟩
  have ft : ∀ a, Foot (finS n A st1) (vs.map some) w1 a → Foot st1.env σ w1 a := fun a h => h.elim .inl fun ⟨i, h⟩ => .inr ⟨i, (oa i a h).1⟩
  refine ⟨⟨?_, fun i v e => ?_, fun i o e => ?_, R.hl, R.hob, R.nd, fun i a h => R.nio i a (oa i a h).1, fun i j a h k => R.inj i j a (oa i a h).1 (oa j a k).1, fun a h f => R.sS a h (ft a f), R.tS⟩, ft, oa⟩
  · show (vs.map some).length = (finL A 0 (st1.env.take n)).length
    rw [finL_len, List.length_map, List.length_take]
    omega
  · rcases get e with z | ⟨_, _, _, _, z⟩ <;> cases z
  · rcases e with e | e
    · rcases get e with z | ⟨_, _, _, _, z⟩ <;> cases z
    · rcases get e with z | ⟨g1, g2, o', g3, z⟩
      · cases z
      · cases z
        obtain ⟨a, e1, mo⟩ := R.obj i o (.inr g3)
        exact ⟨a, by rw [sg g1 g2]; exact e1, mo⟩
end

/-- a def whose body is checked holds its promise -/
theorem fn_ok {T : ExT} {C C' : CallEnv} {j n : Nat} {d : Defm} {x qual : Str} {stm : Stmt} {f : Addr} {fd : FuncData} {N ps : List Str} {k : Ck} {xs : List (Str × List Str)} {P : Program} {w : World} {K : PySem.W.Frag} {mg : Str → Option Value} {base : Heap}
    (F : FunD K x qual (defArgs stm) (defBody stm) (defScope stm) [] [] f fd) (S : FnScope N ps (defScope stm)) (hC : ∀ ss hp, C' j ss hp = runD C d ss hp) (hp1 : d.npar = ps.length) (hp2 : d.nloc = N.length - ps.length) (kN : k.N = N) (kS : k.sc = defScope stm) (kF : k.fnB = true)
    (hck : cSs d.body k xs (defBody stm) = true) (hn : 2 ≤ n) (tab : Tab T C k.fns k.kws k.gs n P w K mg base) (lm : ∀ q, k.lam = some q → ∃ c P, fd.code = .ref c ∧ (qual ++ ".<locals>.") ++ "<lambda>" = lamQ q ∧ LamX.TabB base mg c P ∧ tabA K q = some P) (ex : ∀ (c : Nat) (y : Str) (fs : List Str), xs[c]? = some (y, fs) → ExcOk T y c P w K mg base ∧ T.fields c = fs) :
    FnOk P w K mg base (L2.CX P w) (n + 1) f fd ps (spI T K C' j ps.length) := by
  obtain ⟨oc, od, dV, kV, doc, pm, an, cdv, ct, osl, rfl, lk, hcd, _, _⟩ := F.ex
  refine fn_of (CX := L2.CX P w) lk hcd S (fun vs H Q E h => h.1) fun A outer s H vs Q E hr ⟨hl, w0, ss, hp, R, h⟩ => ?_
  refine ⟨rdS T K (fun cls dd _ H => E cls dd H) d.body.stos (execs C d.body), ?_, ?_⟩
  · have hd : (cxOf (L2.CX P w) P w K mg base N qual (defScope stm) f cdv A outer s H E).calm = true := rfl
    exact sSs d.body n k xs _ _ (defBody stm) d.body.stos ⟨⟨kN.symm, by rw [kN]; exact S.nd, kS.symm, fun _ _ => rfl, rfl, takes_of rfl rfl rfl rfl, hr, tab, fun q e => ⟨hn, lm q e⟩⟩, by rw [kS]; exact S.kind, passes_of (K := fun e s'' => L2.CX P w outer H s E e s'') rfl, rfl, rfl, hr.mono hn, ex⟩ hck fun i hi => hi
  · rw [hC] at h
    unfold runD at h
    by_cases hss : ss.length = d.npar
    case neg => rw [if_neg hss] at h; exact h.elim
    rw [if_pos hss] at h
    obtain ⟨R0, F0⟩ := start_rel (m := d.nloc) R
    have hst : L2.start N vs = vs.map some ++ List.replicate d.nloc none := by unfold L2.start; rw [hl, hp2]
    rw [hst]
    refine ⟨w0, _, R0, ?_⟩
    have lenE : ∀ {st1 : Sm}, st1.env.length = (ss ++ List.replicate d.nloc Slotm.no).length → d.npar ≤ st1.env.length := fun {st1} q => by
      rw [q, List.length_append]; omega
    cases e : execs C d.body ⟨ss ++ List.replicate d.nloc .no, hp⟩ with
    | stuck => rw [e] at h; exact h
    | err y st1 =>
      rw [e] at h
      intro cls dd σ' H' w' P1 out
      obtain ⟨Rf, Ff, _⟩ := fin_rel (n := d.npar) (A := d.body.stos) (m := d.nloc) P1.rel (by rw [hl, hp1]) (lenE P1.len) out
      refine h cls dd H' w' ⟨P1.le, Rf, P1.exc, ?_⟩
      have x := P1.ext.weak Ff
      exact ⟨fun a o q n => x.keep a o q fun z => n (F0 a z), x.trk, fun a z => (x.grow a z).imp (F0 a) id, fun a z => (x.growS a z).imp id fun z => z.imp (F0 a) id, x.tup, x.frz⟩
    | ok fl st1 =>
      rw [e] at h
      cases fl with
      | brk => exact h.elim
      | cont => exact h.elim
      | nx =>
        intro σ' H' w' P1
        obtain ⟨Rf, Ff, _⟩ := fin_rel (n := d.npar) (A := d.body.stos) (m := d.nloc) P1.rel (by rw [hl, hp1]) (lenE P1.len) P1.out
        refine h.2 .non H' w' ⟨P1.le, Rf, .non, ?_, fun a z => (by obtain ⟨⟨o, z⟩, _⟩ := z; cases z)⟩
        have x := P1.ext.weak (G := fun a => Foot (finS d.npar d.body.stos st1) (vs.map some) w' a ∨ ResA (.val .non) .non a) fun a z => z.elim (Ff a) fun z => (by obtain ⟨⟨o, z⟩, _⟩ := z; cases z)
        exact ⟨fun a o q n => x.keep a o q fun z => n (F0 a z), x.trk, fun a z => (x.grow a z).imp (F0 a) id, fun a z => (x.growS a z).imp id fun z => z.imp (F0 a) id, x.tup, x.frz⟩
      | ret r =>
        intro v σ' H' w' P1
        obtain ⟨Rf, Ff, Of⟩ := fin_rel (n := d.npar) (A := d.body.stos) (m := d.nloc) P1.rel (by rw [hl, hp1]) (lenE P1.len) P1.out
        have ends : ∀ (r2 : RVm), RRel K w' [] H' v r2 → (∀ a, ResA r2 v a → Foot st1.env σ' w' a ∨ ResA r v a) → (∀ a, ResA r2 v a → ¬ Foot (finS d.npar d.body.stos st1) (vs.map some) w' a) →
            PostC K w0 vs H ss r2 (finS d.npar d.body.stos st1) st1.hp v H' w' := fun r2 hr hf hnew => by
          have x := P1.ext.weak (G := fun a => Foot (finS d.npar d.body.stos st1) (vs.map some) w' a ∨ ResA r2 v a) fun a z => z.elim (fun z => .inl (Ff a z)) (hf a)
          exact ⟨P1.le, Rf, hr, ⟨fun a o q n => x.keep a o q fun z => n (F0 a z), x.trk, fun a z => (x.grow a z).imp (F0 a) id, fun a z => (x.growS a z).imp id fun z => z.imp (F0 a) id, x.tup, x.frz⟩, hnew⟩
        cases r with
        | val p => exact h.2 v H' w' (ends _ P1.res (fun a z => .inr z) fun a z => (by obtain ⟨⟨o, z⟩, _⟩ := z; cases z))
        | own o => exact h.2 v H' w' (ends _ P1.res (fun a z => .inr z) fun a z f => P1.new a z (Ff a f))
        | «at» i =>
          have hi : σ'[i]? = some (some v) := P1.res
          simp only [retR] at h
          cases q : st1.env[i]? with
          | none => rw [q] at h; exact h.elim
          | some s =>
            rw [q] at h
            cases s with
            | no => exact h.elim
            | lent o => exact h.elim
            | exc c l => exact h.elim
            | val p =>
              obtain ⟨u, e1, rp⟩ := P1.rel.val i p q
              rw [hi] at e1; cases e1
              exact h.2 v H' w' (ends _ rp (fun a z => (by obtain ⟨⟨o, z⟩, _⟩ := z; cases z)) fun a z => (by obtain ⟨⟨o, z⟩, _⟩ := z; cases z))
            | own o =>
              obtain ⟨a, e1, mo⟩ := P1.rel.obj i o (.inl q)
              rw [hi] at e1; cases e1
              have hown : OwnAt st1.env σ' i a := ⟨hi, o, .inl q⟩
              refine h.2 (.ref a) H' w' (ends _ ⟨a, rfl, mo, fun z => P1.rel.sS a z (.inr ⟨i, hown⟩)⟩ (fun b z => ?_) fun b z f => ?_)
              · obtain ⟨_, z⟩ := z
                cases z
                exact .inl (.inr ⟨i, hown⟩)
              · obtain ⟨_, z⟩ := z
                cases z
                rcases f with f | ⟨l, f⟩
                · exact P1.rel.nio i a hown f
                · obtain ⟨g1, o', g2⟩ := Of l a f
                  have := P1.rel.inj l i a g1 hown
                  subst this
                  rw [q] at g2
                  cases g2
end Mp

set_option Elab.async false
set_option linter.all false
set_option maxRecDepth 100000
set_option maxHeartbeats 2000000
/-! Mp23: the table of defs, by levels. -/
namespace Mp
open PySem PySem.Spec PyProof.Rows L2
/-- a def of the law, as it is written and as the small language has it -/
structure FnD where
  name : Str
  qual : Str
  ps : List Str
  N : List Str
  stm : Stmt
  d : Defm
  lam : Bool
/-- the name that a def's lambdas go by -/
def FnD.ln (z : FnD) : Option (List Nat) := if z.lam then some z.name.cps.toList else none
/-- what is decided of a def -/
def okD (fns : List (Str × List Str)) (kws : List (Nat × List Str × List Nat)) (gs : List (Str × PVm)) (xs : List (Str × List Str)) (z : FnD) : Bool :=
  decide (z.d.npar = z.ps.length) && decide (z.d.nloc = z.N.length - z.ps.length) && cSs z.d.body ⟨z.N, defScope z.stm, true, defScope z.stm, fns, kws, gs, z.ln⟩ xs (defBody z.stm)
theorem runD_ret {C : CallEnv} {d : Defm} {ss : List Slotm} {hp : List MOm} {r : RVm} {fin : List Slotm} {hp' : List MOm} (h : runD C d ss hp = .ok r fin hp') : ∀ i, r ≠ .at i := by
  intro i hi
  subst hi
  unfold runD at h
  by_cases hs : ss.length = d.npar
  case neg => rw [if_neg hs] at h; cases h
  rw [if_pos hs] at h
  cases e : execs C d.body ⟨ss ++ List.replicate d.nloc .no, hp⟩ with
  | stuck => rw [e] at h; cases h
  | err y st1 => rw [e] at h; cases h
  | ok fl st1 =>
    rw [e] at h
    cases fl with
    | nx => cases h
    | brk => cases h
    | cont => cases h
    | ret r =>
      have h : retR r st1 d.npar d.body.stos = .ok (.at i) fin hp' := h
      unfold retR at h
      split at h
      · cases h
      · cases h
      · split at h <;> cases h
/-- what is told of a def by the written part -/
structure FnF (K : PySem.W.Frag) (mg : Str → Option Value) (kws : List (Nat × List Str × List Nat)) (j : Nat) (z : FnD) (f : Addr) (fd : FuncData) : Prop where
  gl : mg z.name = some (.ref f)
  kp : PySem.W.keepIn K (.ref f) = true
  fn : FunD K z.name z.qual (defArgs z.stm) (defBody z.stm) (defScope z.stm) [] [] f fd
  bd : Binds K fd z.ps []
  kw : ∀ ks p, (j, ks, p) ∈ kws → p.Nodup ∧ p.length = z.ps.length ∧ ∀ (s : Shared) (ws zs : List Value), K.In s.heap → ws.length = ks.length → permL p ws = some zs → BindsTo s fd ⟨[], ks.zip ws⟩ (z.ps.zip zs)
  sc : FnScope z.N z.ps (defScope z.stm)
/-- what is told of the table of a def that makes lambdas -/
def LamF (K : PySem.W.Frag) (mg : Str → Option Value) (base : Heap) (z : FnD) (fd : FuncData) : Prop := z.lam = true → ∃ c P, fd.code = .ref c ∧ (z.qual ++ ".<locals>.") ++ "<lambda>" = lamQ z.name.cps.toList ∧ LamX.TabB base mg c P ∧ tabA K z.name.cps.toList = some P
theorem LamF.at {K : PySem.W.Frag} {mg : Str → Option Value} {base : Heap} {z : FnD} {fd : FuncData} (h : LamF K mg base z fd) : ∀ q, z.ln = some q → ∃ c P, fd.code = .ref c ∧ (z.qual ++ ".<locals>.") ++ "<lambda>" = lamQ q ∧ LamX.TabB base mg c P ∧ tabA K q = some P := by
  intro q e
  unfold FnD.ln at e
  split at e
  · rename_i hz
    cases e
    exact h hz
  · cases e
theorem tab_all {T : ExT} {fs : List FnD} {kws : List (Nat × List Str × List Nat)} {gs : List (Str × PVm)} {xs : List (Str × List Str)} {P : Program} {w : World} {K : PySem.W.Frag} {mg : Str → Option Value} {base : Heap}
    (blt : ∀ x ∈ bltN, mg x = none) (hgs : ∀ (x : Str) (p : PVm), gs.lookup x = some p → ∃ v u, mg x = some u ∧ RelV v u ∧ ∀ w H, Rp K H w v p)
    (hf : ∀ (j : Nat) (z : FnD), fs[j]? = some z → ∃ f fd, FnF K mg kws j z f fd) (hok : fs.all (okD (fs.map fun z => (z.name, z.ps)) kws gs xs) = true)
    (lm : ∀ (j : Nat) (z : FnD) (f : Addr) (fd : FuncData), fs[j]? = some z → FnF K mg kws j z f fd → LamF K mg base z fd)
    (ex : ∀ (c : Nat) (y : Str) (fl : List Str), xs[c]? = some (y, fl) → ExcOk T y c P w K mg base ∧ T.fields c = fl) :
    ∀ m, Tab T (callK (fs.map FnD.d) m) (fs.map fun z => (z.name, z.ps)) kws gs (m + 2) P w K mg base := by
  intro m
  induction m with
  | zero =>
    refine ⟨blt, fun j x ps h => ?_, fun j ss hp r fin hp' h => (by cases h), hgs⟩
    rw [List.getElem?_map] at h
    obtain ⟨z, hz, e⟩ := Option.map_eq_some_iff.mp h
    cases e
    obtain ⟨f, fd, F⟩ := hf j z hz
    exact ⟨f, fd, F.gl, F.kp, F.bd, ⟨fun vs H Q E h => h.1, fun A outer s H args us vs Q E _ _ _ _ h => (by obtain ⟨_, _, _, _, _, h⟩ := h; exact h.elim)⟩, F.kw⟩
  | succ m ih =>
    refine ⟨blt, fun j x ps h => ?_, fun j ss hp r fin hp' h => ?_, hgs⟩
    · rw [List.getElem?_map] at h
      obtain ⟨z, hz, e⟩ := Option.map_eq_some_iff.mp h
      cases e
      obtain ⟨f, fd, F⟩ := hf j z hz
      have hd := List.all_eq_true.mp hok z (List.mem_of_getElem? hz)
      unfold okD at hd
      simp only [Bool.and_eq_true, decide_eq_true_eq] at hd
      refine ⟨f, fd, F.gl, F.kp, F.bd, ?_, F.kw⟩
      refine fn_ok (k := ⟨z.N, defScope z.stm, true, defScope z.stm, fs.map fun z => (z.name, z.ps), kws, gs, z.ln⟩) (xs := xs) (C := callK (fs.map FnD.d) m) F.fn F.sc (fun ss hp => ?_) hd.1.1 hd.1.2 rfl rfl rfl hd.2 (by omega) ih (lm j z f fd hz F).at ex
      show (match (fs.map FnD.d)[j]? with
        | some d => runD (callK (fs.map FnD.d) m) d ss hp
        | none => CRes.stuck) = _
      rw [List.getElem?_map, hz]
      rfl
    · have h : (match (fs.map FnD.d)[j]? with
        | some d => runD (callK (fs.map FnD.d) m) d ss hp
        | none => CRes.stuck) = .ok r fin hp' := h
      cases q : (fs.map FnD.d)[j]? with
      | none => rw [q] at h; cases h
      | some d => rw [q] at h; exact runD_ret h
end Mp

set_option Elab.async false
set_option linter.all false
set_option maxRecDepth 100000
set_option maxHeartbeats 2000000
/-! Mp24: the law's end. -/
namespace Mp
open PySem PySem.Spec PyProof.Rows L2
theorem only_ro {K : PySem.W.Frag} {H : Hp} {w : Wl} {a : Addr} {xs : List V} (o : Only H) (h : SqL K H a xs) : RoL K H w a xs := by
  rcases h with (h | h) | h
  · rcases o a with z | ⟨q, ys, z⟩ <;> rw [h] at z <;> cases z
  · exact .inr (.inl h)
  · exact .inr (.inr h)
theorem ints_rp {K : PySem.W.Frag} {w : Wl} {H : Hp} : ∀ ns : List Int, RpL K H w (ns.map V.int) (ns.map PVm.int)
  | [] => .nil
  | n :: ns => .cons (.int n) (ints_rp ns)
/-- the law's promise, from its run -/
theorem law_sp {T : ExT} {K : PySem.W.Frag} {C : CallEnv} {j : Nat} {H : Hp} {a : Addr} {ns : List Int} (o : Only H) (h : SqL K H a (ns.map V.int)) {fin : List Slotm} {hp' : List MOm} (run : C j [.val (.rol (ns.map PVm.int))] [] = .ok (.val (.bl true)) fin hp') :
    spI T K C j 1 [.ref a] H (fun v _ => v = .bl true) fun _ _ _ => False := by
  refine ⟨rfl, ⟨[], fun _ => False⟩, [.val (.rol (ns.map PVm.int))], [], ⟨rfl, fun i v e => ?_, fun i o' e => ?_, rfl, fun n b o' h1 _ => ?_, List.nodup_nil, fun i b e => ?_, fun i k b e _ => ?_, fun _ z => z.elim, fun _ z => z.elim⟩, ?_⟩
  · cases i with
    | zero =>
      cases e
      exact ⟨.ref a, rfl, .rol (only_ro o h) (ints_rp ns)⟩
    | succ i => cases e
  · cases i with
    | zero => rcases e with e | e <;> cases e
    | succ i => rcases e with e | e <;> cases e
  · cases h1
  · exact fun z => by cases z
  · obtain ⟨_, o', e⟩ := e
    cases i with
    | zero => rcases e with e | e <;> cases e
    | succ i => rcases e with e | e <;> cases e
  · rw [run]
    refine ⟨fun i z => (by cases z), fun v H' w' P => ?_⟩
    have hr : Rp K H' w' v (.bl true) := P.res
    cases hr
    rfl
/-- a def of the table at its level -/
theorem fn_at {T : ExT} {fs : List FnD} {kws : List (Nat × List Str × List Nat)} {gs : List (Str × PVm)} {xs : List (Str × List Str)} {P : Program} {w : World} {K : PySem.W.Frag} {mg : Str → Option Value} {base : Heap}
    (blt : ∀ x ∈ bltN, mg x = none) (hgs : ∀ (x : Str) (p : PVm), gs.lookup x = some p → ∃ v u, mg x = some u ∧ RelV v u ∧ ∀ w H, Rp K H w v p)
    (hf : ∀ (j : Nat) (z : FnD), fs[j]? = some z → ∃ f fd, FnF K mg kws j z f fd) (hok : fs.all (okD (fs.map fun z => (z.name, z.ps)) kws gs xs) = true)
    (lm : ∀ (j : Nat) (z : FnD) (f : Addr) (fd : FuncData), fs[j]? = some z → FnF K mg kws j z f fd → LamF K mg base z fd)
    (ex : ∀ (c : Nat) (y : Str) (fl : List Str), xs[c]? = some (y, fl) → ExcOk T y c P w K mg base ∧ T.fields c = fl) {j : Nat} {z : FnD} {f : Addr} {fd : FuncData} (hz : fs[j]? = some z) (F : FnF K mg kws j z f fd) (m : Nat) :
    FnOk P w K mg base (L2.CX P w) (m + 3) f fd z.ps (spI T K (callK (fs.map FnD.d) (m + 1)) j z.ps.length) := by
  have hd := List.all_eq_true.mp hok z (List.mem_of_getElem? hz)
  unfold okD at hd
  simp only [Bool.and_eq_true, decide_eq_true_eq] at hd
  refine fn_ok (k := ⟨z.N, defScope z.stm, true, defScope z.stm, fs.map fun z => (z.name, z.ps), kws, gs, z.ln⟩) (xs := xs) (C := callK (fs.map FnD.d) m) F.fn F.sc (fun ss hp => ?_) hd.1.1 hd.1.2 rfl rfl rfl hd.2 (by omega) (tab_all blt hgs hf hok lm ex m) (lm j z f fd hz F).at ex
  show (match (fs.map FnD.d)[j]? with
    | some d => runD (callK (fs.map FnD.d) m) d ss hp
    | none => CRes.stuck) = _
  rw [List.getElem?_map, hz]
  rfl
/-- nothing leaves -/
theorem fn_never {P : Program} {w : World} {K : PySem.W.Frag} {mg : Str → Option Value} {base : Heap} {k : Nat} {f : Addr} {fd : FuncData} {ps : List Str} {sp : Sp} (F : FnOk P w K mg base (L2.CX P w) k f fd ps sp) :
    FnOk P w K mg base L2.CX0 k f fd ps (fun vs H Q _ => sp vs H Q fun _ _ _ => False) := by
  refine ⟨fun vs H Q E h => F.len vs H Q _ h, fun A outer s H args us vs Q E hr e0 hb r h => ?_⟩
  refine codeAny_mono (F.run A outer s H args us vs Q (fun _ _ _ => False) hr e0 hb r h) fun x s' hx => ?_
  cases x with
  | error e =>
    obtain ⟨_, _, _, _, _, _, _, _, _, _, _, _, z⟩ := hx
    exact z.elim
  | ok fl =>
    cases fl with
    | ret u => exact hx
    | next => exact hx
    | brk => exact hx
    | cont => exact hx
/-- what the head asks of the law's def -/
theorem law_end {fs : List FnD} {kws : List (Nat × List Str × List Nat)} {gs : List (Str × PVm)} {xs : List (Str × List Str)} {P : Program} {w : World} {K : PySem.W.Frag} {mg : Str → Option Value} {h : Heap} {T : ExT}
    (nl : ∀ z ∈ fs, z.lam = false) (KX : K.In h) (blt : ∀ x ∈ bltN, mg x = none) (hgs : ∀ (x : Str) (p : PVm), gs.lookup x = some p → ∃ v u, mg x = some u ∧ RelV v u ∧ ∀ w H, Rp K H w v p)
    (hf : ∀ (j : Nat) (z : FnD), fs[j]? = some z → ∃ f fd, FnF K mg kws j z f fd) (hok : fs.all (okD (fs.map fun z => (z.name, z.ps)) kws gs xs) = true)
    (ex : ∀ (base : Heap), K.In base → base.Ns mainGlobals mg → ∀ (c : Nat) (y : Str) (fl : List Str), xs[c]? = some (y, fl) → ExcOk T y c P w K mg base ∧ T.fields c = fl) {j : Nat} {z : FnD} {fa : Addr} (hz : fs[j]? = some z) (hps : z.ps = [("script" : Str)]) (hfa : mg z.name = some (.ref fa)) (m : Nat)
    (run : ∀ ns : List Int, ns.length ≤ 63 → ∃ fin hp', callK (fs.map FnD.d) (m + 1) j [.val (.rol (ns.map PVm.int))] [] = .ok (.val (.bl true)) fin hp')
    (bind : ∀ (fd : FuncData), FunD K z.name z.qual (defArgs z.stm) (defBody z.stm) (defScope z.stm) [] [] fa fd → ∀ (s : Shared) (u : Value), BindsTo s fd ⟨[u], []⟩ [(("script" : Str), u)]) :
    ∃ (K : PySem.W.Frag) (fd : FuncData) (sp : Sp), K.In h ∧ (∀ (s : Shared) (u : Value), BindsTo s fd ⟨[u], []⟩ [(("script" : Str), u)]) ∧
      (∀ (H : Hp) (a : Addr) (ns : List Int), ns.length ≤ 63 → Only H → SqL K H a (ns.map V.int) → sp [.ref a] H (fun v _ => v = .bl true) fun _ _ _ => False) ∧
      ∀ base : Heap, K.In base → base.Ns mainGlobals mg → FnOk P w K mg base L2.CX0 (m + 3) fa fd [("script" : Str)] sp := by
  obtain ⟨f, fd, F⟩ := hf j z hz
  have e := hfa.symm.trans F.gl
  cases e
  refine ⟨K, fd, fun vs H Q _ => spI T K (callK (fs.map FnD.d) (m + 1)) j 1 vs H Q fun _ _ _ => False, KX, bind fd F.fn, fun H a ns hl o hs => ?_, fun base hb hn => ?_⟩
  · obtain ⟨fin, hp', r⟩ := run ns hl
    exact law_sp o hs r
  · have G := fn_at blt hgs hf hok (fun j z f fd hz _ h => by rw [nl z (List.mem_of_getElem? hz)] at h; cases h) (ex base hb hn) hz F m
    rw [hps] at G
    exact fn_never G
end Mp

set_option Elab.async false
set_option linter.all false
set_option maxRecDepth 100000
set_option maxHeartbeats 2000000
/-! Mp25: an error's class with an __init__ of its own that keeps fields. -/
namespace Mp
open PySem PySem.Spec PyProof.Rows L2
/-! ### the class, read off the written part -/
def clsLine (o : Obj) (C : Addr) : Bool := match o.cls, o.data, o.slots.toList with
  | .type c, .cls cd, [_, _, _, _, some (.builtin b), _] => decide (c = "type") && (decide (b = "ValueError.__new__") && (decide (cd.hasDel = false) && (decide (cd.hasDict = true) && (match cd.mro with
    | .ref z :: bm => decide (z = C) && PySem.HandSPX.refsVE bm
    | _ => false))))
  | _, _, _ => false
def eclB (K : PySem.W.Frag) (C : Addr) : Bool := (match K.lookup C with
    | some o => clsLine o C
    | none => false) && (decide (PySem.W.findIn K (.ref C) "__setattr__" = some (some (.builtin "object.__setattr__"))) && (decide (PySem.W.typeIn K (.ref C) = some (.type "type")) && (PySem.W.keepIn K (.ref C) && xfB K C)))
theorem eclB_ok {K : PySem.W.Frag} {C : Addr} (h : eclB K C = true) : OexC K C ∧ XfC K C := by
  unfold eclB at h
  simp only [Bool.and_eq_true, decide_eq_true_eq] at h
  obtain ⟨h1, h2, h3, h4, h5⟩ := h
  have xf := xfB_ok h5
  refine ⟨⟨?_, h2, xf.exC, h3, h4⟩, xf⟩
  cases q : K.lookup C with
  | none => rw [q] at h1; cases h1
  | some o =>
    rw [q] at h1
    have h1 : clsLine o C = true := h1
    obtain ⟨oc, od, dt, sl⟩ := o
    unfold clsLine at h1
    split at h1
    · rename_i c cd x0 x1 x2 x3 b x5 e1 e2 e3
      simp only [Bool.and_eq_true, decide_eq_true_eq] at h1
      obtain ⟨rfl, rfl, g1, g2, g3⟩ := h1
      obtain ⟨nm, bs, mro, ns, qn, hd, sn, sb, ab, col, dl⟩ := cd
      simp only at e1 e2 e3 g1 g2 g3
      subst e1 e2 g1 g2
      split at g3
      · rename_i z bm
        simp only [Bool.and_eq_true, decide_eq_true_eq] at g3
        obtain ⟨rfl, g4⟩ := g3
        have hsl : sl = #[x0, x1, x2, x3, some (.builtin "ValueError.__new__"), x5] := by
          obtain ⟨l⟩ := sl
          simp only at e3
          rw [e3]
        subst hsl
        exact ⟨nm, qn, ns, bs, bm, sn, sb, ab, col, od, x0, x1, x2, x3, x5, rfl, g4⟩
      · cases g3
    · cases h1
/-! ### the __init__ -/
/-- self.f = f, field by field; i: the parameter's slot -/
def ckInit (N : List Str) : Nat → List Stmt → List Str → Bool
  | _, [], [] => true
  | i, st :: r, f :: fs => (match st with
    | .Assign [.Attribute (.Name a _) g _] (.Name b _) _ => decide (a = "self") && (decide (g = f) && (decide (N[i]? = some b) && (decide ((b == ("__debug__" : Str)) = false) && decide ((b == ("__classdict__" : Str)) = false))))
    | _ => false) && ckInit N (i + 1) r fs
  | _, _, _ => false
def tIni (K : PySem.W.Frag) : Nat → List Str → TS
  | _, [] => tNext
  | i, f :: fs => tSeq (tOst K f (tVar 0) (tVar i)) (tIni K (i + 1) fs)
theorem ini_pss {X : Cx} {N : List Str} (hN : X.N = N) (h0 : N[0]? = some ("self" : Str)) (hv : ∀ x ∈ N, Vis X.env.scope x) : ∀ {fs : List Str} {i : Nat} {body : List Stmt}, ckInit N i body fs = true → PSs X body (tIni X.K i fs)
  | [], i, [], _ => pss_nil
  | [], i, _ :: _, h => by cases h
  | _ :: _, i, [], h => by cases h
  | f :: fs, i, st :: r, h => by
    unfold ckInit at h
    rw [Bool.and_eq_true] at h
    obtain ⟨h1, h2⟩ := h
    split at h1
    · simp only [Bool.and_eq_true, decide_eq_true_eq] at h1
      obtain ⟨rfl, rfl, e3, e4, e5⟩ := h1
      exact pss_cons (ps_ost (pe_var (by rw [hN]; exact h0) (hv _ (List.mem_of_getElem? h0)) (by decide) (by decide)) (pe_var (by rw [hN]; exact e3) (hv _ (List.mem_of_getElem? e3)) e4 e5) rfl) (ini_pss hN h0 hv h2)
    · cases h1
theorem ini_go {K : PySem.W.Frag} {a C dx : Addr} {σ : L2.St} {D : Ends} (oc : OexC K C) (ha : σ[0]? = some (some (V.ref a))) (ne : dx ≠ a) : ∀ (fs : List Str) (ws : List V) (i : Nat) (H : Hp) (kvs : List (Str × V)),
    (∀ f ∈ fs, PySem.W.findIn K (.ref C) f = some none) → ws.length = fs.length → (∀ j w, ws[j]? = some w → σ[i + j]? = some (some w)) → H a = some (exo a C (some dx)) → H dx = some (exd dx kvs) → kvs.length + fs.length ≤ 900 →
    (∀ H2, H2 a = some (exo a C (some dx)) → H2 dx = some (exd dx ((fs.zip ws).reverse ++ kvs)) → (∀ b, b ≠ a → b ≠ dx → H2 b = H b) → D.nx σ H2) → tIni K i fs D σ H
  | [], [], i, H, kvs, _, _, _, e1, e2, _, q => q H e1 (by simpa using e2) fun _ _ _ => rfl
  | [], _ :: _, _, _, _, _, hl, _, _, _, _, _ => by cases hl
  | _ :: _, [], _, _, _, _, hl, _, _, _, _, _ => by cases hl
  | f :: fs, w :: ws, i, H, kvs, hno, hl, hs, e1, e2, hk, q => by
    refine ⟨w, by simpa using hs 0 w rfl, .ref a, ha, a, C, rfl, oc, hno f List.mem_cons_self, .inr ⟨dx, kvs, e1, e2, by simp at hk; omega, ?_⟩⟩
    refine ini_go oc ha ne fs ws (i + 1) _ ((f, w) :: kvs) (fun g hg => hno g (List.mem_cons_of_mem _ hg)) (by simpa using hl) (fun j u hj => by rw [show i + 1 + j = i + (j + 1) by omega]; exact hs (j + 1) u (by simpa using hj)) (by rw [upd_ne (Ne.symm ne)]; exact e1) upd_same (by simp at hk ⊢; omega) fun H2 g1 g2 g3 => ?_
    refine q H2 g1 (by rw [g2]; simp) fun b b1 b2 => by rw [g3 b b1 b2, upd_ne b2]
/-- what __init__ promises -/
def spIni (K : PySem.W.Frag) (C : Addr) (fs : List Str) : Sp := fun vs H Q _ => ∃ a ws, vs = V.ref a :: ws ∧ ws.length = fs.length ∧ H a = some (exo a C none) ∧
  ∀ H2 d kvs, H2 a = some (exo a C (some d)) → H2 d = some (exd d kvs) → H d = none → d ≠ a → (∀ b, b ≠ a → b ≠ d → H2 b = H b) → kvs = (fs.zip ws).reverse → Q .non H2
theorem start_get {N : List Str} {vs : List V} (h : N.length = vs.length) {i : Nat} {v : V} (e : vs[i]? = some v) : (L2.start N vs)[i]? = some (some v) := by
  unfold L2.start
  rw [List.getElem?_append_left (by rw [List.length_map]; exact (List.getElem?_eq_some_iff.mp e).1), List.getElem?_map, e]
  rfl
theorem ini_ok {x qual : Str} {args : Arguments} {body : List Stmt} {sc : Scope} {f : Addr} {fd : FuncData} {P : Program} {w : World} {K : PySem.W.Frag} {mg : Str → Option Value} {base : Heap} {fs : List Str} {C : Addr}
    (F : FunD K x qual args body sc [] [] f fd) (S : FnScope ("self" :: fs) ("self" :: fs) sc) (oc : OexC K C) (hne : fs ≠ []) (h9 : fs.length ≤ 900) (hno : ∀ f ∈ fs, PySem.W.findIn K (.ref C) f = some none) (hck : ckInit ("self" :: fs) 1 body fs = true) :
    FnOk P w K mg base CX0 1 f fd ("self" :: fs) (spIni K C fs) := by
  refine FunD.ok (CX := CX0) F S (fun vs H Q E h => by obtain ⟨a, ws, rfl, hl, _⟩ := h; simp [hl]) fun cdv A outer s H vs Q E hr ⟨a, ws, hvs, hl, ea, q⟩ => ?_
  subst hvs
  refine ⟨tIni K 1 fs, ini_pss (N := "self" :: fs) rfl rfl (fun x hx => ?_) hck, ?_⟩
  · rcases S.par x hx with h | h
    · exact .inl h
    · exact .inr (.inl h)
  · have st : ∀ (i : Nat) (v : V), (V.ref a :: ws)[i]? = some v → (L2.start ("self" :: fs) (V.ref a :: ws))[i]? = some (some v) := fun i v e => start_get (by simp [hl]) e
    cases fs with
    | nil => exact absurd rfl hne
    | cons g gs =>
      cases ws with
      | nil => cases hl
      | cons u us =>
        refine ⟨u, st 1 u rfl, .ref a, st 0 _ rfl, a, C, rfl, oc, hno g List.mem_cons_self, .inl ⟨ea, fun dx hd ne => ?_⟩⟩
        refine ini_go oc (st 0 _ rfl) ne gs us 2 _ [(g, u)] (fun g hg => hno g (List.mem_cons_of_mem _ hg)) (by simpa using hl) (fun j v hj => by rw [show 2 + j = j + 2 by omega]; exact st (j + 2) v (by simpa using hj)) upd_same (by rw [upd_ne ne]; exact upd_same) (by simp at h9 ⊢; omega) fun H2 g1 g2 g3 => ?_
        exact q H2 dx _ g1 g2 hd ne (fun b b1 b2 => by rw [g3 b b1 b2, upd_ne b1, upd_ne b2]) (by simp)
theorem lookup_rev : ∀ (l : List (Str × V)), (l.map (·.1)).Nodup → ∀ f : Str, l.reverse.lookup f = l.lookup f
  | [], _, _ => rfl
  | (g, v) :: l, h, f => by
    rw [List.map_cons, List.nodup_cons] at h
    have ih := lookup_rev l h.2 f
    have ap : ∀ (m : List (Str × V)), (m ++ [(g, v)]).lookup f = (m.lookup f).or (if f == g then some v else none) := fun m => by
      induction m with
      | nil => by_cases c : (f == g) = true <;> simp [List.lookup, c]
      | cons p m ih =>
        obtain ⟨a, b⟩ := p
        by_cases c : (f == a) = true
        · simp [List.lookup, c]
        · simp only [Bool.not_eq_true] at c
          rw [List.cons_append, List.lookup_cons, List.lookup_cons, c]
          exact ih
    rw [List.reverse_cons, ap, ih, List.lookup_cons]
    by_cases c : (f == g) = true
    · rw [c]
      have : l.lookup f = none := by
        rw [List.lookup_eq_none_iff]
        intro p hp
        rw [beq_iff_eq] at c
        subst c
        have hne : p.1 ≠ f := fun z => h.1 (by rw [← z]; exact List.mem_map.mpr ⟨p, hp, rfl⟩)
        simpa using fun z => hne z.symm
      rw [this]
      rfl
    · simp only [Bool.not_eq_true] at c
      rw [c]
      cases l.lookup f <;> rfl
/-- a reading, weakened behind -/
def tMono (t : TA) : TA := fun σ H Q => ∃ Q0 : List V → Hp → Prop, t σ H Q0 ∧ ∀ vs H1, Q0 vs H1 → Q vs H1
theorem pa_mono {X : Cx} {es : List Expr} {t : TA} (h : PA X es t) : PA X es (tMono t) :=
  ⟨fun pos pins s σ H Q I ⟨Q0, h0, q⟩ => thn (h.run pos pins s σ H Q0 I h0) fun us s1 ⟨vs, H1, I1, r1, q1⟩ => ⟨vs, H1, I1, r1, q vs H1 q1⟩⟩
theorem noStar_each {es : List Expr} {e : Expr} {X : Cx} (h : (e :: es).all noStar = true) : starEach (e :: es) X.env = (false, eval e X.env) :: starEach es X.env := by
  have := (Bool.and_eq_true_iff.mp (show (noStar e && es.all noStar) = true from h)).1
  cases e <;> first | rfl | cases this
end Mp

set_option Elab.async false
set_option linter.all false
set_option maxRecDepth 100000
set_option maxHeartbeats 2000000
/-! Mp26: what a class of errors must have, from its __init__. -/
namespace Mp
open PySem PySem.Spec PyProof.Rows L2
theorem exc_of {T : ExT} {x qual : Str} {c : Nat} {P : Program} {w : World} {K : PySem.W.Frag} {mg : Str → Option Value} {base : Heap} {args : Arguments} {body : List Stmt} {sc : Scope} {fI : Addr} {fd : FuncData} {fs : List Str}
    (lt : c < T.n) (gC : mg x = some (.ref (T.cls c))) (hecl : eclB K (T.cls c) = true) (iC : PySem.W.findIn K (.ref (T.cls c)) "__init__" = some (some (.ref fI))) (tI : PySem.W.typeIn K (.ref fI) = some (.type "function"))
    (F : FunD K "__init__" qual args body sc [] [] fI fd) (S : FnScope ("self" :: fs) ("self" :: fs) sc) (B : Binds K fd ("self" :: fs) []) (nof : ∀ f ∈ fs, PySem.W.findIn K (.ref (T.cls c)) f = some none) (nd : fs.Nodup)
    (exm : ∀ j, j < T.n → PySem.W.exmOne K (.ref (T.cls j)) (.ref (T.cls c)) = some (decide (j = c))) (hck : ckInit ("self" :: fs) 1 body fs = true) (hne : fs ≠ []) (h9 : fs.length ≤ 900) (hdb : (x == ("__debug__" : Str)) = false) (hfs : T.fields c = fs) : ExcOk T x c P w K mg base := by
  obtain ⟨oc, xf⟩ := eclB_ok hecl
  refine ⟨lt, gC, xf, by rw [hfs]; exact nof, by rw [hfs]; exact nd, exm, ?_⟩
  intro X hP hw hK hm hb hr es t p pos hl hs ha hg
  subst hP hw hK hm hb
  rw [hfs] at hl
  cases es with
  | nil => exact absurd (List.eq_nil_of_length_eq_zero hl.symm) hne
  | cons e es =>
    have F1 : FnOk X.prog X.w X.K X.mg X.base CX0 1 fI fd ("self" :: fs) (spIni X.K (T.cls c) fs) := ini_ok F S oc hne h9 nof hck
    have P1 : PMk X (.Call (.Name x p) (e :: es) [] pos) (tMkO (T.cls c) (spIni X.K (T.cls c) fs) [] (tMono t)) :=
      pmk_oex (CX := CX0) (k := 1) (ds := []) oc iC tI F1 hr B .nil pass0 hg gC (pa_mono ha) hdb (star_cons (Bool.and_eq_true_iff.mp (show (noStar e && es.all noStar) = true from hs)).1 es X.env) (star_any (Bool.and_eq_true_iff.mp (show (noStar e && es.all noStar) = true from hs)).2)
    intro pins s σ H Q I h
    refine P1 pins s σ H Q I ⟨_, h, fun vs H1 ⟨hv, q⟩ => ?_⟩
    rw [hfs] at hv
    refine ⟨by omega, fun a ha1 => ⟨a, vs, by simp, hv, upd_same, fun H2 d kvs g1 g2 g3 g4 g5 g6 => ?_⟩⟩
    rw [upd_ne g4] at g3
    refine ⟨rfl, d, kvs, g1, g2, g3, ?_⟩
    have e1 : upd (del H2 a) d (.xd kvs) = upd H1 d (.xd kvs) := by
      funext b
      by_cases hbd : b = d
      · rw [hbd, upd_same, upd_same]
      · rw [upd_ne hbd, upd_ne hbd]
        by_cases hba : b = a
        · rw [hba, del_same, ha1]
        · rw [del_ne hba, g5 b hba hbd, upd_ne hba]
    rw [e1]
    refine q d kvs g3 fun f => ?_
    rw [g6, hfs]
    refine lookup_rev _ ?_ f
    rw [List.map_fst_zip (by omega)]
    exact nd
/-! ### the head's hook: He's, and one more look -/
def hookM (n : Nat) (fa : List He.Fa) (fn : List He.DefD) (g : PySem.W.Frag → Bool) : PySem.W.Hook where
  α := He.AlD × Bool
  obs := fun s => (He.obsDG n fa fn s.heap.get?, g (He.frG s.heap.get? (He.asD s.heap.get? n)))
  val := fun _ => (He.valD fn, true)
  says := fun _ h => ∃ K : PySem.W.Frag, K.In h ∧ He.SaysD fa fn K ∧ g K = true
  of := fun _ _ e => ⟨_, He.frG_in, congrArg Prod.fst e, congrArg Prod.snd e⟩
  keeps := fun _ _ _ ⟨K, hK, c⟩ k => ⟨K, PySem.W.Frag.In.keeps hK k, c⟩
def obsM (n : Nat) (fa : List He.Fa) (fn : List He.DefD) (g : PySem.W.Frag → Bool) (q : Addr → Option Obj) : He.AlD × Bool := (He.obsDG n fa fn q, g (He.frG q (He.asD q n)))
theorem obsM_eq {n : Nat} {fa : List He.Fa} {fn : List He.DefD} {g : PySem.W.Frag → Bool} {q : Addr → Option Obj} {s : Shared} (h : ∀ a, q a = s.heap.get? a) : obsM n fa fn g q = (hookM n fa fn g).obs s := by
  have e : q = s.heap.get? := funext h
  rw [e] <;> rfl
/-! ### what is read off: from the tables -/
/-- the defs, for the hook -/
def hkD (z : FnD) : He.DefD := ⟨(z.name, none), z.name, z.qual, defArgs z.stm, defBody z.stm, defScope z.stm, [], []⟩
/-- a class of errors: its name, its fields, its __init__ -/
structure ExD where
  name : Str
  fields : List Str
  qual : Str
  stm : Stmt
def hkE (z : ExD) : He.DefD := ⟨(z.name, some "__init__"), "__init__", z.qual, defArgs z.stm, defBody z.stm, defScope z.stm, [], []⟩
/-- what the hook looks at, of the classes -/
def lookE (es : List ExD) (K : PySem.W.Frag) : Bool := es.all fun z => eclB K (He.ga K z.name) &&
  (decide (PySem.W.findIn K (.ref (He.ga K z.name)) "__init__" = some (some (.ref (He.fAd K (z.name, some "__init__"))))) && (decide (PySem.W.typeIn K (.ref (He.fAd K (z.name, some "__init__"))) = some (.type "function")) &&
  (z.fields.all fun f => decide (PySem.W.findIn K (.ref (He.ga K z.name)) f = some none))))
def exmAll (es : List ExD) (K : PySem.W.Frag) : Bool := (List.range es.length).all fun i => (List.range es.length).all fun j => match es[i]?, es[j]? with
  | some a, some b => decide (PySem.W.exmOne K (.ref (He.ga K b.name)) (.ref (He.ga K a.name)) = some (decide (j = i)))
  | _, _ => true
def gloAll (fs : List FnD) (es : List ExD) : List He.Fa := fs.map (fun z => .glo z.name) ++ es.map (fun z => .glo z.name)
def blts : List He.Fa := bltN.map .free
/-- the module's constants -/
def cstF : Str × PVm → He.Fa
  | (x, .int i) => .int x i
  | (x, .str l) => .str x ⟨l.toArray⟩
  | (x, _) => .glo x
def cstOk : Str × PVm → Bool
  | (_, .int _) => true
  | (_, .str l) => sOkB l
  | _ => false
def facts (fs : List FnD) (es : List ExD) (gs : List (Str × PVm)) : List He.Fa := gloAll fs es ++ (blts ++ gs.map cstF)
def hkDefs (fs : List FnD) (es : List ExD) : List He.DefD := fs.map hkD ++ es.map hkE
def lookM (es : List ExD) (K : PySem.W.Frag) : Bool := lookE es K && exmAll es K
theorem fact_mem {fa : List He.Fa} {fn : List He.DefD} {K : PySem.W.Frag} (c : He.SaysD fa fn K) {f : He.Fa} (h : f ∈ fa) : f.ok K = true := by
  obtain ⟨i, hi⟩ := List.mem_iff_getElem?.mp h
  exact c.fact i hi
/-- arguments in the parameters' order, for every value -/
def BindH (x qual : Str) (ps : List Str) (st : Stmt) : Prop := ∀ (kV doc pm : Value) (an : Option Addr) (cdv ct : Value) (us : List Value), us.length = ps.length → bindArgs (PySem.W.fnOf x qual (defArgs st) (defBody st) (defScope st) .none kV doc pm an cdv ct) ⟨us, []⟩ = pure (ps.zip us)
def BindW (z : FnD) (ks : List Str) (p : List Nat) : Prop := ∀ (kV doc pm : Value) (an : Option Addr) (cdv ct : Value) (ws zs : List Value), ws.length = ks.length → permL p ws = some zs → bindArgs (PySem.W.fnOf z.name z.qual (defArgs z.stm) (defBody z.stm) (defScope z.stm) .none kV doc pm an cdv ct) ⟨[], ks.zip ws⟩ = pure (z.ps.zip zs)
structure DefOk (kws : List (Nat × List Str × List Nat)) (j : Nat) (z : FnD) : Prop where
  bd : BindH z.name z.qual z.ps z.stm
  kw : ∀ ks p, (j, ks, p) ∈ kws → p.Nodup ∧ p.length = z.ps.length ∧ BindW z ks p
  sc : FnScope z.N z.ps (defScope z.stm)
structure EOk (z : ExD) : Prop where
  bd : BindH "__init__" z.qual ("self" :: z.fields) z.stm
  sc : FnScope ("self" :: z.fields) ("self" :: z.fields) (defScope z.stm)
  ck : ckInit ("self" :: z.fields) 1 (defBody z.stm) z.fields = true
  nd : z.fields.Nodup
  ne : z.fields ≠ []
  le : z.fields.length ≤ 900
  db : (z.name == ("__debug__" : Str)) = false
def extT (es : List ExD) (K : PySem.W.Frag) : ExT := ⟨es.length, fun j => match es[j]? with
  | some z => He.ga K z.name
  | none => 0, fun j => match es[j]? with
  | some z => z.fields
  | none => []⟩
section
variable {fs : List FnD} {es : List ExD} {gs : List (Str × PVm)} {kws : List (Nat × List Str × List Nat)} {K : PySem.W.Frag} {h base : Heap} {mg : Str → Option Value} {P : Program} {w : World}
theorem fnF_of (X : K.In h) (G : h.Ns mainGlobals mg) (c : He.SaysD (facts fs es gs) (hkDefs fs es) K) (dok : ∀ j z, fs[j]? = some z → DefOk kws j z) {j : Nat} {z : FnD} (hz : fs[j]? = some z) : ∃ f fd, FnF K mg kws j z f fd := by
  have hj : j < fs.length := (List.getElem?_eq_some_iff.mp hz).1
  obtain ⟨fd, F⟩ := c.def_ j (d := hkD z) (by unfold hkDefs; rw [List.getElem?_append_left (by simpa using hj), List.getElem?_map, hz]; rfl)
  have D := dok j z hz
  have F : FunD K z.name z.qual (defArgs z.stm) (defBody z.stm) (defScope z.stm) [] [] (He.ga K z.name) fd := F
  refine ⟨He.ga K z.name, fd, He.glo_ok X G (fact_mem c ?_), F.kp, F, F.bindsN D.bd, fun ks p hk => ?_, D.sc⟩
  · exact List.mem_append_left _ (List.mem_append_left _ (List.mem_map.mpr ⟨z, List.mem_of_getElem? hz, rfl⟩))
  · obtain ⟨h1, h2, h3⟩ := D.kw ks p hk
    refine ⟨h1, h2, fun s ws zs _ hl hp => ?_⟩
    obtain ⟨oc, od, dV, kV, doc, pm, an, cdv, ct, osl, rfl, lk, hcd, hD, hK⟩ := F.ex
    rcases hD with ⟨_, rfl⟩ | ⟨e, _⟩
    · exact .of_eq (h3 kV doc pm an cdv ct ws zs hl hp)
    · exact absurd rfl e
theorem blt_of (X : K.In h) (G : h.Ns mainGlobals mg) (c : He.SaysD (facts fs es gs) (hkDefs fs es) K) : ∀ x ∈ bltN, mg x = none := fun x hx =>
  He.free_ok X G (fact_mem c (List.mem_append_right _ (List.mem_append_left _ (List.mem_map.mpr ⟨x, hx, rfl⟩))))
theorem gs_of (X : K.In h) (G : h.Ns mainGlobals mg) (c : He.SaysD (facts fs es gs) (hkDefs fs es) K) (hgs : gs.all cstOk = true) : ∀ (x : Str) (p : PVm), gs.lookup x = some p → ∃ v u, mg x = some u ∧ RelV v u ∧ ∀ w H, Rp K H w v p := by
  intro x p hp
  have hm : (x, p) ∈ gs := by
    clear c hgs
    induction gs with
    | nil => cases hp
    | cons q gs ih =>
      obtain ⟨a, b⟩ := q
      rw [List.lookup_cons] at hp
      cases e : (x == a) with
      | true =>
        rw [e] at hp
        cases hp
        rw [beq_iff_eq.mp e]
        exact List.mem_cons_self
      | false =>
        rw [e] at hp
        exact List.mem_cons_of_mem _ (ih hp)
  have hk := List.all_eq_true.mp hgs _ hm
  have hf : (cstF (x, p)).ok K = true := fact_mem c (List.mem_append_right _ (List.mem_append_right _ (List.mem_map.mpr ⟨_, hm, rfl⟩)))
  cases p <;> try (cases hk; done)
  · obtain ⟨t, e⟩ := He.int_ok X G hf
    exact ⟨.int _, _, e, ⟨t, rfl⟩, fun w H => .int _⟩
  · obtain ⟨t, e⟩ := He.str_ok X G hf
    exact ⟨.str _, _, e, ⟨t, rfl⟩, fun w H => .str _ (sOk_by hk)⟩
theorem exc_all (X : K.In h) (G : h.Ns mainGlobals mg) (c : He.SaysD (facts fs es gs) (hkDefs fs es) K) (hl : lookM es K = true) (eok : ∀ z ∈ es, EOk z) {i : Nat} {y : Str} {fl : List Str} (hi : (es.map fun z => (z.name, z.fields))[i]? = some (y, fl)) :
    ExcOk (extT es K) y i P w K mg base ∧ (extT es K).fields i = fl := by
  rw [List.getElem?_map] at hi
  obtain ⟨z, hz, e⟩ := Option.map_eq_some_iff.mp hi
  cases e
  have hil : i < es.length := (List.getElem?_eq_some_iff.mp hz).1
  have E := eok z (List.mem_of_getElem? hz)
  obtain ⟨l1, l2⟩ := Bool.and_eq_true_iff.mp hl
  have hcl : (extT es K).cls i = He.ga K z.name := by show (match es[i]? with | some z => He.ga K z.name | none => 0) = _; rw [hz]
  have hfl : (extT es K).fields i = z.fields := by show (match es[i]? with | some z => z.fields | none => []) = _; rw [hz]
  have lz := List.all_eq_true.mp l1 z (List.mem_of_getElem? hz)
  simp only [Bool.and_eq_true, decide_eq_true_eq] at lz
  obtain ⟨q1, q2, q3, q4⟩ := lz
  obtain ⟨fd, F⟩ := c.def_ (fs.length + i) (d := hkE z) (by unfold hkDefs; rw [List.getElem?_append_right (by simp), List.length_map, Nat.add_sub_cancel_left, List.getElem?_map, hz]; rfl)
  have F : FunD K "__init__" z.qual (defArgs z.stm) (defBody z.stm) (defScope z.stm) [] [] (He.fAd K (z.name, some "__init__")) fd := F
  have gC : mg z.name = some (.ref (He.ga K z.name)) := He.glo_ok X G (fact_mem c (List.mem_append_left _ (List.mem_append_right _ (List.mem_map.mpr ⟨z, List.mem_of_getElem? hz, rfl⟩))))
  refine ⟨exc_of hil (by rw [hcl]; exact gC) (by rw [hcl]; exact q1) (by rw [hcl]; exact q2) q3 F E.sc (F.bindsN E.bd) (fun f hf => ?_) E.nd (fun j hj => ?_) E.ck E.ne E.le E.db hfl, hfl⟩
  · rw [hcl]
    exact of_decide_eq_true (List.all_eq_true.mp q4 f hf)
  · have hj : j < es.length := hj
    have e1 := List.all_eq_true.mp l2 i (List.mem_range.mpr hil)
    have e2 := List.all_eq_true.mp e1 j (List.mem_range.mpr hj)
    obtain ⟨zj, hzj⟩ : ∃ zj, es[j]? = some zj := ⟨es[j], List.getElem?_eq_getElem hj⟩
    simp only [hz, hzj, decide_eq_true_eq] at e2
    have hcj : (extT es K).cls j = He.ga K zj.name := by show (match es[j]? with | some z => He.ga K z.name | none => 0) = _; rw [hzj]
    rw [hcl, hcj]
    exact e2
/-- what the row's end asks -/
theorem law_head (nl : ∀ z ∈ fs, z.lam = false) (X : K.In h) (G : h.Ns mainGlobals mg) (c : He.SaysD (facts fs es gs) (hkDefs fs es) K) (hl : lookM es K = true) (hgs : gs.all cstOk = true) (dok : ∀ j z, fs[j]? = some z → DefOk kws j z) (eok : ∀ z ∈ es, EOk z)
    (hok : fs.all (okD (fs.map fun z => (z.name, z.ps)) kws gs (es.map fun z => (z.name, z.fields))) = true) {j : Nat} {z : FnD} {fa : Addr} (hz : fs[j]? = some z) (hps : z.ps = [("script" : Str)]) (hfa : mg z.name = some (.ref fa)) (m : Nat)
    (run : ∀ ns : List Int, ns.length ≤ 63 → ∃ fin hp', callK (fs.map FnD.d) (m + 1) j [.val (.rol (ns.map PVm.int))] [] = .ok (.val (.bl true)) fin hp') :
    ∃ (K : PySem.W.Frag) (fd : FuncData) (sp : Sp), K.In h ∧ (∀ (s : Shared) (u : Value), BindsTo s fd ⟨[u], []⟩ [(("script" : Str), u)]) ∧
      (∀ (H : Hp) (a : Addr) (ns : List Int), ns.length ≤ 63 → Only H → SqL K H a (ns.map V.int) → sp [.ref a] H (fun v _ => v = .bl true) fun _ _ _ => False) ∧
      ∀ base : Heap, K.In base → base.Ns mainGlobals mg → FnOk P w K mg base L2.CX0 (m + 3) fa fd [("script" : Str)] sp := by
  refine law_end (T := extT es K) (kws := kws) nl X (blt_of X G c) (gs_of X G c hgs) (fun j z hz => fnF_of X G c dok hz) hok (fun base hb hn i y fl hi => exc_all hb hn c hl eok hi) hz hps hfa m run fun fd F s u => ?_
  have D := dok j z hz
  have := FunD.bindsA F D.bd s [u] (by rw [hps]; rfl)
  rw [hps] at this
  exact this
end
end Mp

set_option Elab.async false
set_option linter.all false
set_option maxRecDepth 100000
set_option maxHeartbeats 2000000
/-! MpE3: the law's end where defs make lambdas: their tables of code objects. -/
namespace Mp
open PySem PySem.Spec PyProof.Rows L2
/-- without these addresses -/
def cutF (K : PySem.W.Frag) (as : List Addr) : PySem.W.Frag := K.filter fun p => !as.contains p.1
theorem cutF_get : ∀ {K : PySem.W.Frag} {as : List Addr} {a : Addr} {o : Obj}, (cutF K as).lookup a = some o → K.lookup a = some o ∧ a ∉ as
  | [], as, a, o, h => by cases h
  | (b, p) :: K, as, a, o, h => by
    unfold cutF at h
    rw [List.filter_cons] at h
    by_cases hb : as.contains b = true
    · rw [if_neg (by simp at hb; simp [hb])] at h
      obtain ⟨h1, h2⟩ := cutF_get (K := K) h
      have ne : a ≠ b := fun z => h2 (by rw [z]; simpa using hb)
      refine ⟨?_, h2⟩
      rw [List.lookup_cons]
      have : (a == b) = false := by simpa using ne
      rw [this]; exact h1
    · rw [if_pos (by simp at hb; simp [hb])] at h
      rw [List.lookup_cons] at h ⊢
      cases e : (a == b) with
      | true =>
        rw [e] at h
        have : a = b := by simpa using e
        exact ⟨h, by rw [this]; simpa using hb⟩
      | false =>
        rw [e] at h
        exact cutF_get (K := K) h
theorem cutF_in {K : PySem.W.Frag} {as : List Addr} {h : Heap} (x : K.In h) : PySem.W.Frag.In (cutF K as) h := fun a o e => x a o (cutF_get e).1
theorem cutF_none {K : PySem.W.Frag} {as : List Addr} {a : Addr} (h : a ∈ as) : (cutF K as).lookup a = none := by
  cases e : (cutF K as).lookup a with
  | none => rfl
  | some o => exact absurd h (cutF_get e).2
/-- the defs that make lambdas -/
def lams (fs : List FnD) : List FnD := fs.filter (·.lam)
def tabsOf (fs : List FnD) (K : PySem.W.Frag) : List Addr := (lams fs).filterMap fun z => tabA K z.name.cps.toList
def cutK (fs : List FnD) (K : PySem.W.Frag) : PySem.W.Frag := cutF K (tabsOf fs K)
/-- the code object at c, its table at P -/
def codeB (K : PySem.W.Frag) (c P : Addr) : Bool := match K.lookup c with
  | some ⟨.type t, _, .fields vs, _⟩ => decide (t = "code") && (match (vs : Array Value)[11]? with
    | some (Value.ref Q) => decide (Q = P)
    | _ => false) && (match vs.getD 18 .none with
    | .str _ _ => true
    | _ => false) && (match vs.getD 7 .none with
    | .int _ _ => true
    | _ => false) && (match vs.getD 9 .none with
    | .bool _ => true
    | _ => false) && (match vs.getD 10 .none with
    | .int _ _ => true
    | _ => false) && !decide (c = P)
  | _ => false
def emptyB (K : PySem.W.Frag) (P : Addr) : Bool := match K.lookup P with
  | some ⟨.none, none, .fields vs, sl⟩ => vs.isEmpty && sl.isEmpty
  | _ => false
def lamB (fs : List FnD) (K : PySem.W.Frag) (z : FnD) : Bool := match tabC (cutK fs K) z.name.cps.toList with
  | some c => (match tabP (cutK fs K) c with
    | some P => decide (tabA K z.name.cps.toList = some P) && codeB (cutK fs K) c P && emptyB K P
    | none => false)
  | none => false
def tabsB (fs : List FnD) (K : PySem.W.Frag) : Bool := (lams fs).all (lamB fs K) && decide (tabsOf fs K).Nodup
theorem codeB_ok {K : PySem.W.Frag} {h : Heap} {c P : Addr} (x : K.In h) (q : codeB K c P = true) : PySem.W.CodeHd h c P := by
  unfold codeB at q
  split at q
  · rename_i t d vs sl e
    simp only [Bool.and_eq_true, Bool.not_eq_true', decide_eq_true_eq, decide_eq_false_iff_not] at q
    obtain ⟨⟨⟨⟨⟨⟨rfl, q1⟩, q2⟩, q3⟩, q4⟩, q5⟩, q6⟩ := q
    split at q1
    case h_2 => cases q1
    rename_i R e11
    obtain rfl : R = P := of_decide_eq_true q1
    have g11 : vs.getD 11 .none = .ref R := by
      rw [Array.getD_eq_getD_getElem?, e11]; rfl
    split at q2
    case h_2 => cases q2
    rename_i file tf e18
    split at q3
    case h_2 => cases q3
    rename_i flags tg e7
    split at q4
    case h_2 => cases q4
    rename_i inF e9
    split at q5
    case h_2 => cases q5
    rename_i text tt e10
    exact ⟨_, vs, file, tf, flags, tg, inF, text, tt, x _ _ e, rfl, rfl, e11, g11, e18, e7, e9, e10, q6⟩
  · cases q
theorem emptyB_ok {K : PySem.W.Frag} {h : Heap} {P : Addr} (x : K.In h) (q : emptyB K P = true) : h.get? P = some { cls := .none, data := .fields #[] } := by
  unfold emptyB at q
  split at q
  · rename_i vs sl e
    simp only [Bool.and_eq_true] at q
    have e1 := Array.isEmpty_iff.mp q.1
    have e2 := Array.isEmpty_iff.mp q.2
    subst e1 e2
    exact x _ _ e
  · cases q
/-- the tables, for the law's run -/
def tb0 (fs : List FnD) : List MOm := (lams fs).map fun z => .tbl z.name.cps.toList
theorem law_spT {T : ExT} {K : PySem.W.Frag} {C : CallEnv} {j : Nat} {H : Hp} {a : Addr} {ns : List Int} {Ps : List Addr} {ts : List MOm} (len : Ps.length = ts.length) (nd : Ps.Nodup)
    (hm : ∀ (i : Nat) (P : Addr) (o : MOm), Ps[i]? = some P → ts[i]? = some o → ∃ n, o = .tbl n ∧ tabA K n = some P ∧ H P = some (.tbl #[]))
    (h : SqL K H a (ns.map V.int)) {fin : List Slotm} {hp' : List MOm} (run : C j [.val (.rol (ns.map PVm.int))] ts = .ok (.val (.bl true)) fin hp') :
    spI T K C j 1 [.ref a] H (fun v _ => v = .bl true) fun _ _ _ => False := by
  have hS : ∃ S : Addr → Prop, (∀ b, S b → b = a ∧ ∃ xs, H b = some (.lst xs)) ∧ RoL K H ⟨Ps, S⟩ a (ns.map V.int) := by
    rcases h with (h | h) | h
    · exact ⟨fun b => b = a, fun b e => ⟨e, ns.map V.int, by have e : b = a := e; rw [e]; exact h⟩, .inl ⟨rfl, h⟩⟩
    · exact ⟨fun _ => False, fun b e => e.elim, .inr (.inl h)⟩
    · exact ⟨fun _ => False, fun b e => e.elim, .inr (.inr h)⟩
  obtain ⟨S, hS1, hS2⟩ := hS
  have no : ∀ i b, ¬ OwnAt [.val (.rol (ns.map PVm.int))] [some (V.ref a)] i b := fun i b e => by
    obtain ⟨_, o', e⟩ := e
    cases i with
    | zero => rcases e with e | e <;> cases e
    | succ i => rcases e with e | e <;> cases e
  have isT : ∀ b, b ∈ Ps → H b = some (.tbl #[]) := fun b hb => by
    obtain ⟨i, hi⟩ := List.mem_iff_getElem?.mp hb
    have hlt : i < ts.length := by rw [← len]; exact (List.getElem?_eq_some_iff.mp hi).1
    obtain ⟨n, _, _, h3⟩ := hm i b _ hi (List.getElem?_eq_getElem hlt)
    exact h3
  refine ⟨rfl, ⟨Ps, S⟩, [.val (.rol (ns.map PVm.int))], ts, ⟨rfl, fun i v e => ?_, fun i o' e => ?_, len, fun n b o' h1 h2 => ?_, nd, fun i b e => (no i b e).elim, fun i k b e _ => (no i b e).elim, fun b hb f => ?_, fun b hb => ?_⟩, ?_⟩
  · cases i with
    | zero =>
      cases e
      exact ⟨.ref a, rfl, .rol hS2 (ints_rp ns)⟩
    | succ i => cases e
  · cases i with
    | zero => rcases e with e | e <;> cases e
    | succ i => rcases e with e | e <;> cases e
  · obtain ⟨q, rfl, m1, m2⟩ := hm n b o' h1 h2
    exact ⟨m1, #[], m2, True.intro, fun p cv hc => by simp [codeAmong] at hc⟩
  · rcases f with f | ⟨i, f⟩
    · obtain ⟨_, xs, e⟩ := hS1 b hb
      rw [isT b f] at e
      cases e
    · exact (no i b f).elim
  · obtain ⟨_, xs, e⟩ := hS1 b hb
    rw [e]
    exact fun z => nomatch z
  · rw [run]
    refine ⟨fun i z => (by cases z), fun v H' w' P => ?_⟩
    have hr : Rp K H' w' v (.bl true) := P.res
    cases hr
    rfl
/-! ### the head's hook -/
def hookT (n : Nat) (fs : List FnD) (fa : List He.Fa) (fn : List He.DefD) (g : PySem.W.Frag → Bool) : PySem.W.Hook where
  α := He.AlD × Bool
  obs := fun s => (He.obsD fa fn (cutK fs (He.frG s.heap.get? (He.asD s.heap.get? n))), g (He.frG s.heap.get? (He.asD s.heap.get? n)))
  val := fun _ => (He.valD fn, true)
  says := fun _ h => ∃ K : PySem.W.Frag, K.In h ∧ He.SaysD fa fn (cutK fs K) ∧ g K = true
  of := fun _ _ e => ⟨_, He.frG_in, congrArg Prod.fst e, congrArg Prod.snd e⟩
  keeps := fun _ _ _ ⟨K, hK, c⟩ k => ⟨K, PySem.W.Frag.In.keeps hK k, c⟩
def obsT (n : Nat) (fs : List FnD) (fa : List He.Fa) (fn : List He.DefD) (g : PySem.W.Frag → Bool) (q : Addr → Option Obj) : He.AlD × Bool := (He.obsD fa fn (cutK fs (He.frG q (He.asD q n))), g (He.frG q (He.asD q n)))
theorem obsT_eq {n : Nat} {fs : List FnD} {fa : List He.Fa} {fn : List He.DefD} {g : PySem.W.Frag → Bool} {q : Addr → Option Obj} {s : Shared} (h : ∀ a, q a = s.heap.get? a) : obsT n fs fa fn g q = (hookT n fs fa fn g).obs s := by
  have e : q = s.heap.get? := funext h
  rw [e] <;> rfl
def lookT (fs : List FnD) (es : List ExD) (K : PySem.W.Frag) : Bool := lookM es (cutK fs K) && tabsB fs K
section
variable {fs : List FnD} {es : List ExD} {gs : List (Str × PVm)} {kws : List (Nat × List Str × List Nat)} {K : PySem.W.Frag} {h : Heap} {mg : Str → Option Value} {w : World} {l : PySem.W.OpenLaw}
theorem name_cps (x : Str) : (⟨x.cps.toList.toArray⟩ : Str) = x := by cases x; simp
theorem lam_at (ht : tabsB fs K = true) {z : FnD} (hz : z ∈ lams fs) : ∃ c P, tabC (cutK fs K) z.name.cps.toList = some c ∧ tabP (cutK fs K) c = some P ∧ tabA K z.name.cps.toList = some P ∧ codeB (cutK fs K) c P = true ∧ emptyB K P = true := by
  have q := List.all_eq_true.mp (Bool.and_eq_true_iff.mp ht).1 z hz
  unfold lamB at q
  split at q
  · rename_i c e1
    split at q
    · rename_i P e2
      simp only [Bool.and_eq_true, decide_eq_true_eq] at q
      exact ⟨c, P, e1, e2, q.1.1, q.1.2, q.2⟩
    · cases q
  · cases q
theorem tabs_map (ht : tabsB fs K = true) : tabsOf fs K = (lams fs).map fun z => (tabA K z.name.cps.toList).getD 0 := by
  have key : ∀ l : List FnD, (∀ z ∈ l, ∃ P, tabA K z.name.cps.toList = some P) → (l.filterMap fun z => tabA K z.name.cps.toList) = l.map fun z => (tabA K z.name.cps.toList).getD 0 := by
    intro l
    induction l with
    | nil => intro _; rfl
    | cons z l ih =>
      intro hl
      obtain ⟨P, e⟩ := hl z List.mem_cons_self
      rw [List.filterMap_cons, e, List.map_cons, e, ih fun y hy => hl y (List.mem_cons_of_mem _ hy)]
      rfl
  exact key _ fun z hz => by
    obtain ⟨c, P, _, _, e, _⟩ := lam_at ht hz
    exact ⟨P, e⟩
theorem law_headT (X : K.In h) (G : h.Ns mainGlobals mg) (c : He.SaysD (facts fs es gs) (hkDefs fs es) (cutK fs K)) (hg : lookT fs es K = true) (hgs : gs.all cstOk = true) (dok : ∀ j z, fs[j]? = some z → DefOk kws j z) (eok : ∀ z ∈ es, EOk z) (hq : ∀ z ∈ lams fs, z.qual = z.name)
    (hok : fs.all (okD (fs.map fun z => (z.name, z.ps)) kws gs (es.map fun z => (z.name, z.fields))) = true) {j : Nat} {z : FnD} {fa : Addr} (hz : fs[j]? = some z) (hps : z.ps = [("script" : Str)]) (hfa : mg z.name = some (.ref fa)) (m : Nat)
    (run : ∀ ns : List Int, ns.length ≤ 63 → ∃ fin hp', callK (fs.map FnD.d) (m + 1) j [.val (.rol (ns.map PVm.int))] (tb0 fs) = .ok (.val (.bl true)) fin hp') :
    ∃ K : PySem.W.Frag, K.In h ∧ LamX.LawAtS l w K L2.CX0 (m + 3) 63 ("script" : Str) mg fa h := by
  obtain ⟨hl, ht⟩ := Bool.and_eq_true_iff.mp hg
  have X' : (cutK fs K).In h := cutF_in X
  have hf : ∀ (j : Nat) (z : FnD), fs[j]? = some z → ∃ f fd, FnF (cutK fs K) mg kws j z f fd := fun j z hz => fnF_of X' G c dok hz
  obtain ⟨f, fd, F⟩ := hf j z hz
  have e := hfa.symm.trans F.gl
  cases e
  have D := dok j z hz
  have tA : ∀ z ∈ lams fs, ∀ c P, tabC (cutK fs K) z.name.cps.toList = some c → tabP (cutK fs K) c = some P → tabA (cutK fs K) z.name.cps.toList = some P := fun z _ c P h1 h2 => by unfold tabA; rw [h1]; exact h2
  refine ⟨cutK fs K, X', fd, (lams fs).filterMap (fun z => (tabC (cutK fs K) z.name.cps.toList).bind fun c => (tabP (cutK fs K) c).map fun P => (c, P)), fun vs H Q _ => spI (extT es (cutK fs K)) (cutK fs K) (callK (fs.map FnD.d) (m + 1)) j 1 vs H Q fun _ _ _ => False, fun p hp => ?_, fun p hp => ?_, fun p hp => ?_, fun s u => ?_, fun H a ns hl2 _ hT hs => ?_, fun base hb hn TB => ?_⟩
  · obtain ⟨z, hz, e⟩ := List.mem_filterMap.mp hp
    obtain ⟨c, P, e1, e2, e3, e4, e5⟩ := lam_at ht hz
    rw [e1] at e
    simp only [Option.bind_some] at e
    rw [e2] at e
    cases e
    exact emptyB_ok X e5
  · obtain ⟨z, hz, e⟩ := List.mem_filterMap.mp hp
    obtain ⟨c, P, e1, e2, e3, e4, e5⟩ := lam_at ht hz
    rw [e1] at e
    simp only [Option.bind_some] at e
    rw [e2] at e
    cases e
    exact cutF_none (List.mem_filterMap.mpr ⟨z, hz, e3⟩)
  · obtain ⟨z, hz, e⟩ := List.mem_filterMap.mp hp
    obtain ⟨c, P, e1, e2, e3, e4, e5⟩ := lam_at ht hz
    rw [e1] at e
    simp only [Option.bind_some] at e
    rw [e2] at e
    cases e
    exact codeB_ok X' e4
  · have := FunD.bindsA F.fn D.bd s [u] (by rw [hps]; rfl)
    rw [hps] at this
    exact this
  · obtain ⟨fin, hp', r⟩ := run ns hl2
    refine law_spT (Ps := tabsOf fs K) (ts := tb0 fs) (by rw [tabs_map ht]; simp [tb0]) (of_decide_eq_true (Bool.and_eq_true_iff.mp ht).2) (fun i P o h1 h2 => ?_) hs r
    rw [tabs_map ht, List.getElem?_map] at h1
    unfold tb0 at h2
    rw [List.getElem?_map] at h2
    obtain ⟨z, hz, e⟩ := Option.map_eq_some_iff.mp h1
    rw [hz] at h2
    cases h2
    obtain ⟨c, P', e1, e2, e3, e4, e5⟩ := lam_at ht (List.mem_of_getElem? hz)
    rw [e3] at e
    cases e
    exact ⟨_, rfl, tA z (List.mem_of_getElem? hz) c P' e1 e2, hT (c, P') (List.mem_filterMap.mpr ⟨z, List.mem_of_getElem? hz, by rw [e1]; simp only [Option.bind_some]; rw [e2]; rfl⟩)⟩
  · have lm : ∀ (j : Nat) (z : FnD) (f : Addr) (fd : FuncData), fs[j]? = some z → FnF (cutK fs K) mg kws j z f fd → LamF (cutK fs K) mg base z fd := by
      intro j z f fd hz F hlz
      have hm : z ∈ lams fs := List.mem_filter.mpr ⟨List.mem_of_getElem? hz, hlz⟩
      obtain ⟨c0, P, e1, e2, e3, e4, e5⟩ := lam_at ht hm
      obtain ⟨oc, od, dV, kV, doc, pm, an, cdv, ct, osl, rfl, lk, hcd, _, _⟩ := F.fn.ex
      have gf : mg z.name = some (.ref (He.ga (cutK fs K) z.name)) := He.glo_ok X' G (fact_mem c (List.mem_append_left _ (List.mem_append_left _ (List.mem_map.mpr ⟨z, List.mem_of_getElem? hz, rfl⟩))))
      have ef := F.gl.symm.trans gf
      cases ef
      refine ⟨c0, P, ?_, ?_, TB (c0, P) (List.mem_filterMap.mpr ⟨z, hm, by rw [e1]; simp only [Option.bind_some]; rw [e2]; rfl⟩), tA z hm c0 P e1 e2⟩
      · unfold tabC at e1
        rw [name_cps, lk] at e1
        show cdv = .ref c0
        clear lk hcd F gf
        cases cdv <;> first | (cases e1; rfl) | cases e1
      · unfold lamQ
        rw [name_cps, hq z hm]
    have Gf := fn_at (P := l.prog) (w := w) (T := extT es (cutK fs K)) (blt_of X' G c) (gs_of X' G c hgs) hf hok lm (fun i y fl hi => exc_all hb hn c hl eok hi) hz F m
    rw [hps] at Gf
    exact fn_never Gf
end
end Mp

set_option linter.all false
set_option maxRecDepth 100000
/-! Mq1: reckoning with the evaluator, plain Lean. -/
namespace Mp
/-- a mark behind an argument: simp does not go into it -/
def Tg {α : Type} (_ : α) : Type := Unit
def tg {α : Type} (a : α) : Tg a := Unit.unit
/-- bind, its second part marked -/
def Resm.bd {α β : Type} (r : Resm α) (f : α → Sm → Resm β) (_ : Tg f := tg f) : Resm β := r.bind f
@[simp] theorem bd_ok {α β : Type} (a : α) (st : Sm) (f : α → Sm → Resm β) : Resm.bd (.ok a st) f = f a st := rfl
@[simp] theorem bd_err {α β : Type} (x : Exm) (st : Sm) (f : α → Sm → Resm β) : Resm.bd (.err x st) f = .err x st := rfl
@[simp] theorem bd_stuck {α β : Type} (f : α → Sm → Resm β) : Resm.bd .stuck f = .stuck := rfl
/-- the outcome is as wanted -/
def Resm.sat {α : Type} (r : Resm α) (Q : α → Sm → Prop) (E : Exm → Sm → Prop) (_ : Tg Q := tg Q) (_ : Tg E := tg E) : Prop :=
  match r with
  | .stuck => False
  | .err x st => E x st
  | .ok a st => Q a st
@[simp] theorem sat_ok {α : Type} (a : α) (st : Sm) (Q : α → Sm → Prop) (E : Exm → Sm → Prop) : Resm.sat (.ok a st) Q E ↔ Q a st := Iff.rfl
@[simp] theorem sat_err {α : Type} (x : Exm) (st : Sm) (Q : α → Sm → Prop) (E : Exm → Sm → Prop) : Resm.sat (.err x st) Q E ↔ E x st := Iff.rfl
@[simp] theorem sat_bind {α β : Type} (r : Resm α) (f : α → Sm → Resm β) (Q : β → Sm → Prop) (E : Exm → Sm → Prop) :
    (r.bind f).sat Q E ↔ r.sat (fun a st => (f a st).sat Q E) E := by
  cases r <;> exact Iff.rfl
@[simp] theorem sat_bd {α β : Type} (r : Resm α) (f : α → Sm → Resm β) (Q : β → Sm → Prop) (E : Exm → Sm → Prop) :
    (r.bd f).sat Q E ↔ r.sat (fun a st => (f a st).sat Q E) E := by
  cases r <;> exact Iff.rfl
theorem sat_mono {α : Type} {r : Resm α} {Q Q' : α → Sm → Prop} {E E' : Exm → Sm → Prop} (h : r.sat Q E) (hq : ∀ a st, Q a st → Q' a st) (he : ∀ x st, E x st → E' x st) : r.sat Q' E' := by
  cases r with
  | stuck => exact h
  | err x st => exact he _ _ h
  | ok a st => exact hq _ _ h
abbrev noE : Exm → Sm → Prop := fun _ _ => False
theorem sat_eq {α : Type} {r : Resm α} {Q : α → Sm → Prop} (h : r.sat Q noE) : ∃ a st, r = .ok a st ∧ Q a st := by
  cases r with
  | stuck => exact h.elim
  | err x st => exact h.elim
  | ok a st => exact ⟨a, st, rfl, h⟩
/-- an outcome of a call -/
def CRes.sat (r : CRes) (Q : RVm → List Slotm → List MOm → Prop) (E : Exm → List Slotm → List MOm → Prop) (_ : Tg Q := tg Q) (_ : Tg E := tg E) : Prop :=
  match r with
  | .stuck => False
  | .err x sl hp => E x sl hp
  | .ok v sl hp => Q v sl hp
theorem csat_eq {r : CRes} {Q : RVm → List Slotm → List MOm → Prop} (h : r.sat Q fun _ _ _ => False) : ∃ v sl hp, r = .ok v sl hp ∧ Q v sl hp := by
  cases r with
  | stuck => exact h.elim
  | err x st => exact h.elim
  | ok a st hp => exact ⟨a, st, hp, rfl, h⟩

/-! ### the small language, unfolded -/
section
variable (C : CallEnv)
@[simp] theorem ev_var (i : Nat) : ev C (.var i) = eVar i := rfl
@[simp] theorem ev_cst (v : PVm) : ev C (.cst v) = fun st => .ok (.val v) st := rfl
@[simp] theorem ev_esc (i : Nat) : ev C (.esc i) = eEsc i := rfl
@[simp] theorem ev_tup (es : CEs) : ev C (.tup es) = eTup (evs C es) := rfl
@[simp] theorem ev_lst (es : CEs) : ev C (.lst es) = eLst (evs C es) := rfl
@[simp] theorem ev_bin (op : BOp) (a b : CE) : ev C (.bin op a b) = eBin op (ev C a) (ev C b) := rfl
@[simp] theorem ev_neg (a : CE) : ev C (.neg a) = eNeg (ev C a) := rfl
@[simp] theorem ev_cmp (op : COp) (a b : CE) : ev C (.cmp op a b) = eCmp op (ev C a) (ev C b) := rfl
@[simp] theorem ev_chain (o1 o2 : COp) (a b c : CE) : ev C (.chain o1 o2 a b c) = eChain o1 o2 (ev C a) (ev C b) (ev C c) := rfl
@[simp] theorem ev_and (a b : CE) : ev C (.and a b) = eAnd (ev C a) (ev C b) := rfl
@[simp] theorem ev_or (a b : CE) : ev C (.or a b) = eOr (ev C a) (ev C b) := rfl
@[simp] theorem ev_not (a : CE) : ev C (.not a) = eNot (ev C a) := rfl
@[simp] theorem ev_ite (c a b : CE) : ev C (.ite c a b) = eIte (evT C c) (ev C a) (ev C b) := rfl
@[simp] theorem ev_idx (a i : CE) : ev C (.idx a i) = eIdx (ev C a) (ev C i) := rfl
@[simp] theorem ev_slc (a l h : CE) : ev C (.slc a l h) = eSlc (ev C a) (ev C l) (ev C h) := rfl
@[simp] theorem ev_rev (a : CE) : ev C (.rev a) = eRev (ev C a) := rfl
@[simp] theorem ev_call (f : Nat) (es : CEs) (p : List Nat) : ev C (.call f es p) = eCall C f (evs C es) p := rfl
@[simp] theorem ev_bi (b : Bim) (es : CEs) : ev C (.bi b es) = eBi b (evs C es) := rfl
@[simp] theorem ev_meth (m : Mem) (r : CE) (es : CEs) : ev C (.meth m r es) = eMeth m (ev C r) (evs C es) := rfl
@[simp] theorem ev_comp (e : CE) (t : Tgtm) (it : CI) (c : CE) (w : List Nat) : ev C (.comp e t it c w) = eComp (ev C e) t (evI C it) (evT C c) w := rfl
@[simp] theorem ev_excf (i k : Nat) : ev C (.excf i k) = eExcf i k := rfl
@[simp] theorem evs_nil : evs C .nil = fun st => .ok [] st := rfl
@[simp] theorem evs_cons (e : CE) (es : CEs) : evs C (.cons e es) = fun st => (ev C e st).bd fun r st => (evs C es st).bd fun rs st => .ok (r :: rs) st := rfl
@[simp] theorem evI_seq (e : CE) : evI C (.seq e) = fun st => (ev C e st).bd fun r st => seqI r st := rfl
@[simp] theorem evI_rng (es : CEs) : evI C (.rng es) = fun st => (evs C es st).bd fun rs st => rngI rs st := rfl
@[simp] theorem evI_enum (es : CEs) : evI C (.enum es) = fun st => (evs C es st).bd fun rs st => enumI rs st := rfl
@[simp] theorem evI_zip (es : CEs) : evI C (.zip es) = fun st => (evs C es st).bd fun rs st => zipI rs st := rfl
@[simp] theorem evT_var (i : Nat) : evT C (.var i) = tst (eVar i) := rfl
@[simp] theorem evT_cst (v : PVm) : evT C (.cst v) = tst fun st => .ok (.val v) st := rfl
@[simp] theorem evT_cmp (op : COp) (a b : CE) : evT C (.cmp op a b) = tst (eCmp op (ev C a) (ev C b)) := rfl
@[simp] theorem evT_chain (o1 o2 : COp) (a b c : CE) : evT C (.chain o1 o2 a b c) = tst (eChain o1 o2 (ev C a) (ev C b) (ev C c)) := rfl
@[simp] theorem evT_and (a b : CE) : evT C (.and a b) = eIte (evT C a) (evT C b) (fun st => .ok false st) := rfl
@[simp] theorem evT_or (a b : CE) : evT C (.or a b) = eIte (evT C a) (fun st => .ok true st) (evT C b) := rfl
@[simp] theorem evT_not (a : CE) : evT C (.not a) = fun st => (evT C a st).bd fun k st => .ok (!k) st := rfl
@[simp] theorem evT_call (f : Nat) (es : CEs) (p : List Nat) : evT C (.call f es p) = tst (eCall C f (evs C es) p) := rfl
@[simp] theorem evT_bi (b : Bim) (es : CEs) : evT C (.bi b es) = tst (eBi b (evs C es)) := rfl
@[simp] theorem evT_idx (a i : CE) : evT C (.idx a i) = tst (eIdx (ev C a) (ev C i)) := rfl
@[simp] theorem evT_bin (op : BOp) (a b : CE) : evT C (.bin op a b) = tst (eBin op (ev C a) (ev C b)) := rfl
@[simp] theorem evT_meth (m : Mem) (r : CE) (es : CEs) : evT C (.meth m r es) = tst (eMeth m (ev C r) (evs C es)) := rfl
@[simp] theorem evT_ite (c a b : CE) : evT C (.ite c a b) = tst (eIte (evT C c) (ev C a) (ev C b)) := rfl
end

/-! ### loops -/
/-- a for loop by an invariant over the items taken -/
theorem forL_sat {ds : List (Nat × List PVm)} {b : PVm → Sm → Resm Flm} (I : List PVm → List PVm → Sm → Prop) {Q : Flm → Sm → Prop} {E : Exm → Sm → Prop}
    (dep : ∀ pre post st, I pre post st → depsOk ds st = true)
    (turn : ∀ pre x post st, I pre (x :: post) st → (b x st).sat (fun fl st' => match fl with
      | .nx => I (pre ++ [x]) post st'
      | .cont => I (pre ++ [x]) post st'
      | .brk => Q .nx st'
      | .ret r => Q (.ret r) st') E)
    (fin : ∀ pre st, I pre [] st → Q .nx st) :
    ∀ (post pre : List PVm) (st : Sm), I pre post st → (forL ds b post st).sat Q E
  | [], pre, st, h => by
    unfold forL
    rw [if_pos (dep _ _ _ h)]
    exact fin _ _ h
  | x :: xs, pre, st, h => by
    unfold forL
    rw [if_pos (dep _ _ _ h), sat_bind]
    refine sat_mono (turn _ _ _ _ h) (fun fl st' z => ?_) (fun _ _ z => z)
    cases fl with
    | nx => exact forL_sat I dep turn fin xs _ st' z
    | cont => exact forL_sat I dep turn fin xs _ st' z
    | brk => exact z
    | ret r => exact z
/-- a comprehension by an invariant -/
theorem compL_sat {ds : List (Nat × List PVm)} {b : PVm → Sm → Resm (Option PVm)} (I : List PVm → List PVm → List PVm → Sm → Prop) {Q : List PVm → Sm → Prop} {E : Exm → Sm → Prop}
    (dep : ∀ pre post acc st, I pre post acc st → depsOk ds st = true)
    (turn : ∀ pre x post acc st, I pre (x :: post) acc st → (b x st).sat (fun o st' => match o with
      | some v => acc.length < 16777216 ∧ I (pre ++ [x]) post (acc ++ [v]) st'
      | none => I (pre ++ [x]) post acc st') E)
    (fin : ∀ pre acc st, I pre [] acc st → Q acc st) :
    ∀ (post pre acc : List PVm) (st : Sm), I pre post acc st → (compL ds b post acc st).sat Q E
  | [], pre, acc, st, h => by
    unfold compL
    rw [if_pos (dep _ _ _ _ h)]
    exact fin _ _ _ h
  | x :: xs, pre, acc, st, h => by
    unfold compL
    rw [if_pos (dep _ _ _ _ h), sat_bind]
    refine sat_mono (turn _ _ _ _ _ h) (fun o st' z => ?_) (fun _ _ z => z)
    cases o with
    | none => exact compL_sat I dep turn fin xs _ _ st' z
    | some v =>
      obtain ⟨z1, z2⟩ := z
      show Resm.sat (if acc.length < 16777216 then _ else _) Q E
      rw [if_pos z1]
      exact compL_sat I dep turn fin xs _ _ st' z2
/-! ### while -/
theorem loopW_more {c : Sm → Resm Bool} {b : Sm → Resm Flm} : ∀ (n m : Nat) (st : Sm), n ≤ m → loopW c b n st ≠ .stuck → loopW c b m st = loopW c b n st
  | 0, m, st, _, h => absurd rfl h
  | n + 1, 0, st, hm, _ => by omega
  | n + 1, m + 1, st, hm, h => by
    unfold loopW at h ⊢
    cases hc : c st with
    | stuck => rfl
    | err x st' => rfl
    | ok k st' =>
      rw [hc] at h
      simp only [Resm.bind_ok] at h ⊢
      cases k with
      | false => rfl
      | true =>
        simp only [if_true] at h ⊢
        cases hb : b st' with
        | stuck => rfl
        | err x st2 => rfl
        | ok fl st2 =>
          rw [hb] at h
          simp only [Resm.bind_ok] at h ⊢
          cases fl with
          | nx => exact loopW_more n m st2 (by omega) h
          | cont => exact loopW_more n m st2 (by omega) h
          | brk => rfl
          | ret r => rfl
theorem whileR_is {c : Sm → Resm Bool} {b : Sm → Resm Flm} {n : Nat} {st : Sm} (h : loopW c b n st ≠ .stuck) : whileR c b st = loopW c b n st := by
  have ex : ∃ n, loopW c b n st ≠ .stuck := ⟨n, h⟩
  unfold whileR
  rw [dif_pos ex]
  have hs := ex.choose_spec
  rcases Nat.le_total n ex.choose with z | z
  · exact loopW_more _ _ _ z h
  · exact (loopW_more _ _ _ z hs).symm
/-- a while by an invariant and a measure -/
theorem whileR_sat {c : Sm → Resm Bool} {b : Sm → Resm Flm} (I : Nat → Sm → Prop) {Q : Flm → Sm → Prop} {E : Exm → Sm → Prop}
    (turn : ∀ n st, I n st → (c st).sat (fun k st' => if k = true then (b st').sat (fun fl st2 => match fl with
      | .nx => ∃ m, m < n ∧ I m st2
      | .cont => ∃ m, m < n ∧ I m st2
      | .brk => Q .nx st2
      | .ret r => Q (.ret r) st2) E else Q .nx st') E) {n : Nat} {st : Sm} (h : I n st) : (whileR c b st).sat Q E := by
  have key : ∀ (n : Nat) (st : Sm), I n st → ∃ k, (loopW c b k st).sat Q E := by
    intro n
    induction n using Nat.strongRecOn with
    | ind n ih =>
      intro st h
      have t := turn n st h
      cases hc : c st with
      | stuck => rw [hc] at t; exact t.elim
      | err x st' =>
        rw [hc] at t
        exact ⟨1, by unfold loopW; rw [hc]; exact t⟩
      | ok k st' =>
        rw [hc] at t
        cases k with
        | false => exact ⟨1, by unfold loopW; rw [hc]; simpa using t⟩
        | true =>
          simp only [sat_ok, if_true] at t
          cases hb : b st' with
          | stuck => rw [hb] at t; exact t.elim
          | err x st2 =>
            rw [hb] at t
            exact ⟨1, by unfold loopW; rw [hc]; simp only [Resm.bind_ok, if_true]; rw [hb]; exact t⟩
          | ok fl st2 =>
            rw [hb] at t
            have go : (∃ m, m < n ∧ I m st2) → (fl = .nx ∨ fl = .cont) → ∃ k, (loopW c b k st).sat Q E := by
              rintro ⟨m, hm, hi⟩ hf
              obtain ⟨k, hk⟩ := ih m hm st2 hi
              refine ⟨k + 1, ?_⟩
              unfold loopW
              rw [hc]; simp only [Resm.bind_ok, if_true]; rw [hb]
              rcases hf with rfl | rfl <;> exact hk
            cases fl with
            | nx => exact go t (.inl rfl)
            | cont => exact go t (.inr rfl)
            | brk => exact ⟨1, by unfold loopW; rw [hc]; simp only [Resm.bind_ok, if_true]; rw [hb]; exact t⟩
            | ret r => exact ⟨1, by unfold loopW; rw [hc]; simp only [Resm.bind_ok, if_true]; rw [hb]; exact t⟩
  obtain ⟨k, hk⟩ := key n st h
  have ns : loopW c b k st ≠ .stuck := fun z => by rw [z] at hk; exact hk
  rw [whileR_is ns]
  exact hk
end Mp

set_option linter.all false
set_option maxRecDepth 100000
/-! Mq2: rules for simp: straight code, left to right. -/
namespace Mp
@[simp] theorem sat_stuck {α : Type} (Q : α → Sm → Prop) (E : Exm → Sm → Prop) : Resm.sat .stuck Q E ↔ False := Iff.rfl
@[simp] theorem csat_ok (v : RVm) (sl : List Slotm) (hp : List MOm) (Q : RVm → List Slotm → List MOm → Prop) (E : Exm → List Slotm → List MOm → Prop) : CRes.sat (.ok v sl hp) Q E ↔ Q v sl hp := Iff.rfl
@[simp] theorem csat_err (x : Exm) (sl : List Slotm) (hp : List MOm) (Q : RVm → List Slotm → List MOm → Prop) (E : Exm → List Slotm → List MOm → Prop) : CRes.sat (.err x sl hp) Q E ↔ E x sl hp := Iff.rfl
@[simp] theorem sat_ite {α : Type} (c : Prop) [Decidable c] (a b : Resm α) (Q : α → Sm → Prop) (E : Exm → Sm → Prop) : (if c then a else b).sat Q E ↔ (c → a.sat Q E) ∧ (¬ c → b.sat Q E) := by
  by_cases h : c <;> simp [h]
@[simp] theorem bd_ite {α β : Type} (c : Prop) [Decidable c] (a b : Resm α) (f : α → Sm → Resm β) : (if c then a else b).bd f = if c then a.bd f else b.bd f := by
  by_cases h : c <;> simp [h]
@[simp] theorem bind_ite {α β : Type} (c : Prop) [Decidable c] (a b : Resm α) (f : α → Sm → Resm β) : (if c then a else b).bind f = if c then a.bind f else b.bind f := by
  by_cases h : c <;> simp [h]
/-! the end of a def -/
def endD (n : Nat) (A : List Nat) (r : Resm Flm) : CRes :=
  match r with
  | .stuck => .stuck
  | .err x st => .err x (finS n A st) st.hp
  | .ok .nx st => .ok (.val .non) (finS n A st) st.hp
  | .ok (.ret r) st => retR r st n A
  | .ok _ _ => .stuck
theorem runD_eq (C : CallEnv) (d : Defm) (ss : List Slotm) (hp : List MOm) (h : ss.length = d.npar) : runD C d ss hp = endD d.npar d.body.stos (execs C d.body ⟨ss ++ List.replicate d.nloc .no, hp⟩) := by
  unfold runD
  rw [if_pos h]
  rfl
@[simp] theorem endD_err (n : Nat) (A : List Nat) (x : Exm) (st : Sm) : endD n A (.err x st) = .err x (finS n A st) st.hp := rfl
@[simp] theorem endD_nx (n : Nat) (A : List Nat) (st : Sm) : endD n A (.ok .nx st) = .ok (.val .non) (finS n A st) st.hp := rfl
@[simp] theorem endD_ret (n : Nat) (A : List Nat) (r : RVm) (st : Sm) : endD n A (.ok (.ret r) st) = retR r st n A := rfl
@[simp] theorem endD_ite (n : Nat) (A : List Nat) (c : Prop) [Decidable c] (a b : Resm Flm) : endD n A (if c then a else b) = if c then endD n A a else endD n A b := by
  by_cases h : c <;> simp [h]
theorem endD_sat {n : Nat} {A : List Nat} {r : Resm Flm} {Q : RVm → List Slotm → List MOm → Prop} {E : Exm → List Slotm → List MOm → Prop} (h : r.sat (fun fl st => match fl with
    | .nx => Q (.val .non) (finS n A st) st.hp
    | .ret v => (retR v st n A).sat Q E
    | _ => False) fun x st => E x (finS n A st) st.hp) : (endD n A r).sat Q E := by
  cases r with
  | stuck => exact h
  | err x st => exact h
  | ok fl st => cases fl <;> exact h
@[simp] theorem retR_val (v : PVm) (st : Sm) (n : Nat) (A : List Nat) : retR (.val v) st n A = .ok (.val v) (finS n A st) st.hp := rfl
@[simp] theorem retR_own (v : MOm) (st : Sm) (n : Nat) (A : List Nat) : retR (.own v) st n A = .ok (.own v) (finS n A st) st.hp := rfl
def retA (s : Option Slotm) (fin : List Slotm) (hp : List MOm) : CRes := match s with
    | some (.own o) => .ok (.own o) fin hp
    | some (.val v) => .ok (.val v) fin hp
    | _ => .stuck
@[simp] theorem retR_at (i : Nat) (st : Sm) (n : Nat) (A : List Nat) : retR (.at i) st n A = retA (st.env[i]?) (finS n A st) st.hp := rfl
@[simp] theorem retA_own (o : MOm) (fin : List Slotm) (hp : List MOm) : retA (some (.own o)) fin hp = .ok (.own o) fin hp := rfl
@[simp] theorem retA_val (o : PVm) (fin : List Slotm) (hp : List MOm) : retA (some (.val o)) fin hp = .ok (.val o) fin hp := rfl
@[simp] theorem finS_eq (n : Nat) (A : List Nat) (e : List Slotm) (hp : List MOm) : finS n A ⟨e, hp⟩ = finL A 0 (e.take n) := rfl
@[simp] theorem finL_nil (A : List Nat) (i : Nat) : finL A i [] = [] := rfl
@[simp] theorem finL_cons (A : List Nat) (i : Nat) (s : Slotm) (r : List Slotm) : finL A i (s :: r) = (if A.contains i then .no else keepLent s) :: finL A (i + 1) r := rfl
@[simp] theorem kl_lent (o : MOm) : keepLent (.lent o) = .lent o := rfl
@[simp] theorem kl_val (o : PVm) : keepLent (.val o) = .no := rfl
@[simp] theorem kl_own (o : MOm) : keepLent (.own o) = .no := rfl
@[simp] theorem kl_no : keepLent .no = .no := rfl
/-! statements -/
section
variable (C : CallEnv) (st : Sm)
def seqK (k : Sm → Resm Flm) : Flm → Sm → Resm Flm := fun fl st => match fl with
  | .nx => k st
  | fl => .ok fl st
@[simp] theorem seqK_nx (k : Sm → Resm Flm) : seqK k .nx st = k st := rfl
@[simp] theorem seqK_brk (k : Sm → Resm Flm) : seqK k .brk st = .ok .brk st := rfl
@[simp] theorem seqK_cont (k : Sm → Resm Flm) : seqK k .cont st = .ok .cont st := rfl
@[simp] theorem seqK_ret (k : Sm → Resm Flm) (r : RVm) : seqK k (.ret r) st = .ok (.ret r) st := rfl
@[simp] theorem xs_nil : execs C .nil st = .ok .nx st := rfl
@[simp] theorem xs_cons (s : CS) (r : CSs) : execs C (.cons s r) st = (exec C s st).bd fun fl st => seqK (execs C r) fl st := by
  show (exec C s st).bind _ = Resm.bind _ _
  cases exec C s st with
  | stuck => rfl
  | err x st => rfl
  | ok fl st => cases fl <;> rfl
@[simp] theorem x_expr (e : CE) : exec C (.expr e) st = (ev C e st).bd fun _ st => .ok .nx st := rfl
@[simp] theorem x_asg (t : Tgtm) (e : CE) : exec C (.asg t e) st = (ev C e st).bd fun r st => asgF t r st := rfl
def parK (is : List Nat) (rs : List RVm) (st : Sm) : Resm Flm := (fixAll rs st).bd fun vs st => match bindTs (is.map .v) vs st with
    | some st => .ok .nx st
    | none => .stuck
@[simp] theorem x_par (is : List Nat) (es : CEs) : exec C (.par is es) st = (evs C es st).bd fun rs st => parK is rs st := rfl
def augK (op : BOp) (i : Nat) (v : Int) (y : RVm) (st : Sm) : Resm Flm := match y with
      | .val (.int u) => (match binV op (.p (.int v)) (.p (.int u)) with
        | some (.val z) => (match sets i (.val z) st with
          | some st => .ok .nx st
          | none => .stuck)
        | _ => .stuck)
      | _ => .stuck
def augS (op : BOp) (i : Nat) (m : Sm → Resm RVm) (s : Option Slotm) (st : Sm) : Resm Flm := match s with
    | some (.val (.int v)) => (m st).bd fun y st => augK op i v y st
    | _ => .stuck
@[simp] theorem x_aug (op : BOp) (i : Nat) (e : CE) : exec C (.aug op i e) st = augS op i (ev C e) (st.env[i]?) st := rfl
@[simp] theorem augS_int (op : BOp) (i : Nat) (m : Sm → Resm RVm) (v : Int) : augS op i m (some (.val (.int v))) st = (m st).bd fun y st => augK op i v y st := rfl
@[simp] theorem augK_add (i : Nat) (v u : Int) : augK .add i v (.val (.int u)) st = (match sets i (.val (.int (v + u))) st with
          | some st => .ok .nx st
          | none => .stuck) := rfl
@[simp] theorem augK_sub (i : Nat) (v u : Int) : augK .sub i v (.val (.int u)) st = (match sets i (.val (.int (v - u))) st with
          | some st => .ok .nx st
          | none => .stuck) := rfl
theorem augK_mul (i : Nat) (v u : Int) (h : mulOk v u = true) : augK .mul i v (.val (.int u)) st = (match sets i (.val (.int (v * u))) st with
          | some st => .ok .nx st
          | none => .stuck) := by
  unfold augK binV mulV
  simp [h]
def setK (v x y : RVm) (st : Sm) : Resm Flm := (fixR v st).bd fun v st =>
      match look x st, look y st with
      | some (.m (.lst l)), some (.p (.int k)) => (match ixN l.length k with
        | some j => (match putO x (.lst (l.set j v)) st with
          | some st => .ok .nx st
          | none => .stuck)
        | none => .stuck)
      | _, _ => .stuck
@[simp] theorem x_setI (a i e : CE) : exec C (.setI a i e) st = (ev C e st).bd fun v st => (ev C a st).bd fun x st => (ev C i st).bd fun y st => setK v x y st := rfl
@[simp] theorem x_ret (e : CE) : exec C (.ret e) st = (ev C e st).bd fun r st => .ok (.ret r) st := rfl
@[simp] theorem x_retN : exec C .retN st = .ok (.ret (.val .non)) st := rfl
@[simp] theorem x_pass : exec C .pass st = .ok .nx st := rfl
@[simp] theorem x_brk : exec C .brk st = .ok .brk st := rfl
@[simp] theorem x_cont : exec C .cont st = .ok .cont st := rfl
@[simp] theorem x_ite (c : CE) (a b : CSs) : exec C (.ite c a b) st = (evT C c st).bd fun k st => if k then execs C a st else execs C b st := rfl
@[simp] theorem x_whl (c : CE) (b : CSs) : exec C (.whl c b) st = whileR (evT C c) (execs C b) st := rfl
def turnF (t : Tgtm) (b : Sm → Resm Flm) (x : PVm) (st : Sm) : Resm Flm := match bindT t x st with
      | some st => b st
      | none => .stuck
theorem turnF_of {t : Tgtm} {b : Sm → Resm Flm} {x : PVm} {st st1 : Sm} (h : bindT t x st = some st1) : turnF t b x st = b st1 := by unfold turnF; rw [h]
@[simp] theorem x_loop (t : Tgtm) (it : CI) (b : CSs) : exec C (.loop t it b) st = (evI C it st).bd fun I st => if (I.deps.any fun d => (t.vars ++ b.stos).contains d.1) then .stuck else forL I.deps (turnF t (execs C b)) I.items st := rfl
@[simp] theorem x_tr (b : CSs) (c i k : Nat) (hs : List Hitm) : exec C (.tr b c i k hs) st = tryF c i k hs (execs C b) st := rfl
def raiK (c : Nat) (rs : List RVm) (st : Sm) : Resm Flm := (fixAll rs st).bd fun vs st => .err ⟨c, vs⟩ st
@[simp] theorem x_raise (c : Nat) (es : CEs) : exec C (.raise c es) st = (evs C es st).bd fun rs st => raiK c rs st := rfl
/-! expressions -/
def varS (i : Nat) (s : Option Slotm) (st : Sm) : Resm RVm := match s with
  | some (.val v) => .ok (.val v) st
  | some (.own _) => .ok (.at i) st
  | some (.lent _) => .ok (.at i) st
  | _ => .stuck
@[simp] theorem e_var (i : Nat) : eVar i st = varS i (st.env[i]?) st := rfl
@[simp] theorem varS_val (i : Nat) (v : PVm) : varS i (some (.val v)) st = .ok (.val v) st := rfl
@[simp] theorem varS_own (i : Nat) (v : MOm) : varS i (some (.own v)) st = .ok (.at i) st := rfl
@[simp] theorem varS_lent (i : Nat) (v : MOm) : varS i (some (.lent v)) st = .ok (.at i) st := rfl
variable (ma mb mc : Sm → Resm RVm) (ms : Sm → Resm (List RVm))
@[simp] theorem e_tup : eTup ms st = (ms st).bd fun rs st => (fixAll rs st).bd fun vs st => .ok (.val (.tup vs)) st := rfl
@[simp] theorem e_lst : eLst ms st = (ms st).bd fun rs st => (fixAll rs st).bd fun vs st => .ok (.own (.lst vs)) st := rfl
def bin2 (op : BOp) (u v : Option Viewm) (st : Sm) : Resm RVm := match u, v with
  | some u, some v => opt (binV op u v) st
  | _, _ => .stuck
@[simp] theorem e_bin (op : BOp) : eBin op ma mb st = (ma st).bd fun x st => (mb st).bd fun y st => bin2 op (look x st) (look y st) st := rfl
@[simp] theorem bin2_some (op : BOp) (u v : Viewm) : bin2 op (some u) (some v) st = opt (binV op u v) st := rfl
def negK (x : RVm) (st : Sm) : Resm RVm := match x with
  | .val (.int i) => .ok (.val (.int (-i))) st
  | _ => .stuck
@[simp] theorem e_neg : eNeg ma st = (ma st).bd fun x st => negK x st := rfl
@[simp] theorem negK_int (i : Int) : negK (.val (.int i)) st = .ok (.val (.int (-i))) st := rfl
def blE (o : Option Bool) (st : Sm) : Resm RVm := match o with
    | some k => .ok (.val (.bl k)) st
    | none => .stuck
@[simp] theorem blE_some (k : Bool) : blE (some k) st = .ok (.val (.bl k)) st := rfl
def cmp2 (op : COp) (u v : Option Viewm) (st : Sm) : Resm RVm := match u, v with
  | some u, some v => blE (cmpV op u v) st
  | _, _ => .stuck
@[simp] theorem e_cmp (op : COp) : eCmp op ma mb st = (ma st).bd fun x st => (mb st).bd fun y st => cmp2 op (look x st) (look y st) st := rfl
@[simp] theorem cmp2_some (op : COp) (u v : Viewm) : cmp2 op (some u) (some v) st = blE (cmpV op u v) st := rfl
def chn1 (o2 : COp) (mc : Sm → Resm RVm) (y : RVm) (o : Option Bool) (st : Sm) : Resm RVm := match o with
  | some true => (mc st).bd fun z st => cmp2 o2 (look y st) (look z st) st
  | some false => .ok (.val (.bl false)) st
  | none => .stuck
def chn2 (o1 o2 : COp) (mc : Sm → Resm RVm) (y : RVm) (u v : Option Viewm) (st : Sm) : Resm RVm := match u, v with
  | some u, some v => chn1 o2 mc y (cmpV o1 u v) st
  | _, _ => .stuck
@[simp] theorem e_chain (o1 o2 : COp) : eChain o1 o2 ma mb mc st = (ma st).bd fun x st => (mb st).bd fun y st => chn2 o1 o2 mc y (look x st) (look y st) st := rfl
@[simp] theorem chn2_some (o1 o2 : COp) (y : RVm) (u v : Viewm) : chn2 o1 o2 mc y (some u) (some v) st = chn1 o2 mc y (cmpV o1 u v) st := rfl
@[simp] theorem chn1_true (o2 : COp) (y : RVm) : chn1 o2 mc y (some true) st = (mc st).bd fun z st => cmp2 o2 (look y st) (look z st) st := rfl
@[simp] theorem chn1_false (o2 : COp) (y : RVm) : chn1 o2 mc y (some false) st = .ok (.val (.bl false)) st := rfl
theorem chn1_some (o2 : COp) (y : RVm) (k : Bool) : chn1 o2 mc y (some k) st = if k = true then (mc st).bd fun z st => cmp2 o2 (look y st) (look z st) st else .ok (.val (.bl false)) st := by cases k <;> rfl
@[simp] theorem chn1_dec (o2 : COp) (y : RVm) (c : Prop) [Decidable c] : chn1 o2 mc y (some (decide c)) st = if c then (mc st).bd fun z st => cmp2 o2 (look y st) (look z st) st else .ok (.val (.bl false)) st := by rw [chn1_some]; simp
def andK (mb : Sm → Resm RVm) (x : RVm) (st : Sm) : Resm RVm := match x with
  | .val (.bl true) => mb st
  | .val (.bl false) => .ok (.val (.bl false)) st
  | _ => .stuck
@[simp] theorem e_and : eAnd ma mb st = (ma st).bd fun x st => andK mb x st := rfl
@[simp] theorem andK_bl (k : Bool) : andK mb (.val (.bl k)) st = if k = true then mb st else .ok (.val (.bl false)) st := by cases k <;> rfl
def orK (mb : Sm → Resm RVm) (x : RVm) (st : Sm) : Resm RVm := match x with
  | .val (.bl true) => .ok (.val (.bl true)) st
  | .val (.bl false) => mb st
  | _ => .stuck
@[simp] theorem e_or : eOr ma mb st = (ma st).bd fun x st => orK mb x st := rfl
@[simp] theorem orK_bl (k : Bool) : orK mb (.val (.bl k)) st = if k = true then .ok (.val (.bl true)) st else mb st := by cases k <;> rfl
def notK (x : RVm) (st : Sm) : Resm RVm := match x with
  | .val (.bl k) => .ok (.val (.bl (!k))) st
  | _ => .stuck
@[simp] theorem e_not : eNot ma st = (ma st).bd fun x st => notK x st := rfl
@[simp] theorem notK_bl (k : Bool) : notK (.val (.bl k)) st = .ok (.val (.bl (!k))) st := rfl
@[simp] theorem e_ite {α : Type} (tc : Sm → Resm Bool) (na nb : Sm → Resm α) : eIte tc na nb st = (tc st).bd fun k st => if k then na st else nb st := rfl
def valE (o : Option PVm) (st : Sm) : Resm RVm := match o with
    | some w => .ok (.val w) st
    | none => .stuck
@[simp] theorem valE_some (k : PVm) : valE (some k) st = .ok (.val k) st := rfl
def idx2 (u v : Option Viewm) (st : Sm) : Resm RVm := match u, v with
  | some u, some v => valE (idxV u v) st
  | _, _ => .stuck
@[simp] theorem e_idx : eIdx ma mb st = (ma st).bd fun x st => (mb st).bd fun y st => idx2 (look x st) (look y st) st := rfl
@[simp] theorem idx2_some (u v : Viewm) : idx2 (some u) (some v) st = valE (idxV u v) st := rfl
def slc2 (u : Option Viewm) (l : Option Int) (h : Option (Option Int)) (st : Sm) : Resm RVm := match u, h with
    | some u, some h => opt (slcV u l h) st
    | _, _ => .stuck
def slc1 (x : RVm) (mc : Sm → Resm RVm) (l : Option (Option Int)) (st : Sm) : Resm RVm := match l with
  | some l => (mc st).bd fun z st => slc2 (look x st) l ((look z st).bind partOf) st
  | none => .stuck
@[simp] theorem e_slc : eSlc ma mb mc st = (ma st).bd fun x st => (mb st).bd fun y st => slc1 x mc ((look y st).bind partOf) st := rfl
@[simp] theorem slc1_some (x : RVm) (l : Option Int) : slc1 x mc (some l) st = (mc st).bd fun z st => slc2 (look x st) l ((look z st).bind partOf) st := rfl
@[simp] theorem slc2_some (u : Viewm) (l h : Option Int) : slc2 (some u) l (some h) st = opt (slcV u l h) st := rfl
def rev1 (u : Option Viewm) (st : Sm) : Resm RVm := match u with
  | some u => opt (revV u) st
  | none => .stuck
@[simp] theorem e_rev : eRev ma st = (ma st).bd fun x st => rev1 (look x st) st := rfl
@[simp] theorem rev1_some (u : Viewm) : rev1 (some u) st = opt (revV u) st := rfl
def callP (f : Nat) (o : Option (List RVm)) (st : Sm) : Resm RVm := match o with
  | some rs => callR C f rs st
  | none => .stuck
@[simp] theorem e_call (f : Nat) (p : List Nat) : eCall C f ms p st = (ms st).bd fun rs st => callP C f (permL p rs) st := rfl
@[simp] theorem callP_some (f : Nat) (rs : List RVm) : callP C f (some rs) st = callR C f rs st := rfl
def backE (ls : List (Nat × Nat)) (st : Sm) (r : CRes) : Resm RVm := match r with
      | .stuck => .stuck
      | .err x fin hp => (match backAll ls fin st.env with
        | some env => .err x ⟨env, hp⟩
        | none => .stuck)
      | .ok r fin hp => (match backAll ls fin st.env with
        | some env => .ok r ⟨env, hp⟩
        | none => .stuck)
def callS (f : Nat) (o : Option (List Slotm × List (Nat × Nat))) (st : Sm) : Resm RVm := match o with
  | none => .stuck
  | some (ss, ls) => if (ls.map (·.2)).Nodup then backE ls st (C f ss st.hp) else .stuck
@[simp] theorem callR_eq (f : Nat) (rs : List RVm) : callR C f rs st = callS C f (slotsOf rs st 0) st := rfl
@[simp] theorem callS_some (f : Nat) (ss : List Slotm) (ls : List (Nat × Nat)) : callS C f (some (ss, ls)) st = if (ls.map (·.2)).Nodup then backE ls st (C f ss st.hp) else .stuck := rfl
def backK (r : RVm) (hp : List MOm) (o : Option (List Slotm)) : Resm RVm := match o with
  | some env => .ok r ⟨env, hp⟩
  | none => .stuck
def backX (x : Exm) (hp : List MOm) (o : Option (List Slotm)) : Resm RVm := match o with
  | some env => .err x ⟨env, hp⟩
  | none => .stuck
@[simp] theorem backE_ok (ls : List (Nat × Nat)) (r : RVm) (fin : List Slotm) (hp : List MOm) : backE ls st (.ok r fin hp) = backK r hp (backAll ls fin st.env) := rfl
@[simp] theorem backE_err (ls : List (Nat × Nat)) (x : Exm) (fin : List Slotm) (hp : List MOm) : backE ls st (.err x fin hp) = backX x hp (backAll ls fin st.env) := rfl
@[simp] theorem backK_some (r : RVm) (hp : List MOm) (env : List Slotm) : backK r hp (some env) = .ok r ⟨env, hp⟩ := rfl
@[simp] theorem backX_some (r : Exm) (hp : List MOm) (env : List Slotm) : backX r hp (some env) = .err r ⟨env, hp⟩ := rfl
theorem backE_sat {ls : List (Nat × Nat)} {st : Sm} {r : CRes} {Q : RVm → Sm → Prop} {E : Exm → Sm → Prop} (h : r.sat (fun v fin hp => (backK v hp (backAll ls fin st.env)).sat Q E) fun x fin hp => (backX x hp (backAll ls fin st.env)).sat Q E) : (backE ls st r).sat Q E := by
  cases r <;> exact h
@[simp] theorem backAll_nil (fin env : List Slotm) : backAll [] fin env = some env := rfl
def bac1 (ls : List (Nat × Nat)) (fin env : List Slotm) (i : Nat) (a b : Option Slotm) : Option (List Slotm) := match a, b with
    | some (.lent o), some (.own _) => backAll ls fin (env.set i (.own o))
    | some (.lent o), some (.lent _) => backAll ls fin (env.set i (.lent o))
    | _, _ => none
@[simp] theorem backAll_cons (j i : Nat) (ls : List (Nat × Nat)) (fin env : List Slotm) : backAll ((j, i) :: ls) fin env = bac1 ls fin env i fin[j]? env[i]? := rfl
@[simp] theorem bac1_own (ls : List (Nat × Nat)) (fin env : List Slotm) (i : Nat) (o o' : MOm) : bac1 ls fin env i (some (.lent o)) (some (.own o')) = backAll ls fin (env.set i (.own o)) := rfl
@[simp] theorem bac1_lent (ls : List (Nat × Nat)) (fin env : List Slotm) (i : Nat) (o o' : MOm) : bac1 ls fin env i (some (.lent o)) (some (.lent o')) = backAll ls fin (env.set i (.lent o)) := rfl
@[simp] theorem so_nil (j : Nat) : slotsOf [] st j = some ([], []) := rfl
def so1 (s : Slotm) (o : Option (List Slotm × List (Nat × Nat))) : Option (List Slotm × List (Nat × Nat)) := match o with
  | none => none
  | some (ss, ls) => some (s :: ss, ls)
def so2 (j i : Nat) (s : Option Slotm) (o : Option (List Slotm × List (Nat × Nat))) : Option (List Slotm × List (Nat × Nat)) := match o with
  | none => none
  | some (ss, ls) => match s with
        | some (.own o) => some (.lent o :: ss, (j, i) :: ls)
        | some (.lent o) => some (.lent o :: ss, (j, i) :: ls)
        | some (.val v) => some (.val v :: ss, ls)
        | _ => none
@[simp] theorem so_val (v : PVm) (rs : List RVm) (j : Nat) : slotsOf (.val v :: rs) st j = so1 (.val v) (slotsOf rs st (j + 1)) := rfl
@[simp] theorem so_own (v : MOm) (rs : List RVm) (j : Nat) : slotsOf (.own v :: rs) st j = so1 (.own v) (slotsOf rs st (j + 1)) := rfl
@[simp] theorem so_at (i : Nat) (rs : List RVm) (j : Nat) : slotsOf (.at i :: rs) st j = so2 j i (st.env[i]?) (slotsOf rs st (j + 1)) := rfl
@[simp] theorem so1_some (s : Slotm) (ss : List Slotm) (ls : List (Nat × Nat)) : so1 s (some (ss, ls)) = some (s :: ss, ls) := rfl
@[simp] theorem so2_own (j i : Nat) (s : MOm) (ss : List Slotm) (ls : List (Nat × Nat)) : so2 j i (some (.own s)) (some (ss, ls)) = some (.lent s :: ss, (j, i) :: ls) := rfl
@[simp] theorem so2_lent (j i : Nat) (s : MOm) (ss : List Slotm) (ls : List (Nat × Nat)) : so2 j i (some (.lent s)) (some (ss, ls)) = some (.lent s :: ss, (j, i) :: ls) := rfl
@[simp] theorem so2_val (j i : Nat) (s : PVm) (ss : List Slotm) (ls : List (Nat × Nat)) : so2 j i (some (.val s)) (some (ss, ls)) = some (.val s :: ss, ls) := rfl
@[simp] theorem pL_nil {α : Type} (rs : List α) : permL [] rs = some [] := rfl
def pL1 {α : Type} (r : Option α) (t : Option (List α)) : Option (List α) := match r, t with
    | some r, some t => some (r :: t)
    | _, _ => none
@[simp] theorem pL_cons {α : Type} (i : Nat) (is : List Nat) (rs : List α) : permL (i :: is) rs = pL1 rs[i]? (permL is rs) := rfl
@[simp] theorem pL1_some {α : Type} (r : α) (t : List α) : pL1 (some r) (some t) = some (r :: t) := rfl
def bi0 (b : Bim) (o : Option (List Viewm)) (st : Sm) : Resm RVm := match o with
  | some vs => opt (biV b vs) st
  | none => .stuck
@[simp] theorem e_bi (b : Bim) : eBi b ms st = (ms st).bd fun rs st => bi0 b (looks rs st) st := rfl
@[simp] theorem bi0_some (b : Bim) (vs : List Viewm) : bi0 b (some vs) st = opt (biV b vs) st := rfl
@[simp] theorem lks_nil : looks [] st = some [] := rfl
def lks1 (v : Option Viewm) (t : Option (List Viewm)) : Option (List Viewm) := match v, t with
    | some v, some vs => some (v :: vs)
    | _, _ => none
@[simp] theorem lks_cons (r : RVm) (rs : List RVm) : looks (r :: rs) st = lks1 (look r st) (looks rs st) := rfl
@[simp] theorem lks1_some (v : Viewm) (t : List Viewm) : lks1 (some v) (some t) = some (v :: t) := rfl
@[simp] theorem e_meth (m : Mem) : eMeth m ma ms st = (ma st).bd fun x st => if recvOk m (look x st) then (ms st).bd fun rs st => meR m x rs st else .stuck := rfl
@[simp] theorem ro_app (l : List PVm) : recvOk .append (some (.m (.lst l))) = true := rfl
@[simp] theorem ro_ext (l : List PVm) : recvOk .extend (some (.m (.lst l))) = true := rfl
@[simp] theorem ro_pop (l : List PVm) : recvOk .pop (some (.m (.lst l))) = true := rfl
@[simp] theorem ro_pop0 (l : List PVm) : recvOk .pop0 (some (.m (.lst l))) = true := rfl
@[simp] theorem ro_join (l : List Nat) : recvOk .join (some (.p (.str l))) = true := rfl
@[simp] theorem ro_sw (l : List Nat) : recvOk .startswith (some (.p (.str l))) = true := rfl
@[simp] theorem meR_pop (r : RVm) : meR .pop r [] st = mePop r st := rfl
@[simp] theorem meR_app (r x : RVm) : meR .append r [x] st = meAppend r x st := rfl
@[simp] theorem meR_ext (r x : RVm) : meR .extend r [x] st = meExtend r x st := rfl
@[simp] theorem meR_pop0 (r x : RVm) : meR .pop0 r [x] st = mePop0 r x st := rfl
@[simp] theorem meR_join (r x : RVm) : meR .join r [x] st = meJoin r x st := rfl
@[simp] theorem meR_sw (r x : RVm) : meR .startswith r [x] st = meStarts r x st := rfl
def okO (o : Option Sm) (v : RVm) : Resm RVm := match o with
  | some st => .ok v st
  | none => .stuck
@[simp] theorem okO_some (v : RVm) : okO (some st) v = .ok v st := rfl
def app1 (r : RVm) (v : PVm) (u : Option Viewm) (st : Sm) : Resm RVm := match u with
    | some (.m (.lst l)) => if l.length < 16777216 then okO (putO r (.lst (l ++ [v])) st) (.val .non) else .stuck
    | _ => .stuck
@[simp] theorem meAppend_eq (r x : RVm) : meAppend r x st = (fixR x st).bd fun v st => app1 r v (look r st) st := rfl
@[simp] theorem app1_lst (r : RVm) (v : PVm) (l : List PVm) : app1 r v (some (.m (.lst l))) st = if l.length < 16777216 then okO (putO r (.lst (l ++ [v])) st) (.val .non) else .stuck := rfl
def ext1 (r : RVm) (u : Option Viewm) (ys : Option (List PVm)) (st : Sm) : Resm RVm := match u, ys with
  | some (.m (.lst l)), some ys => if l.length + ys.length ≤ 16777216 then okO (putO r (.lst (l ++ ys)) st) (.val .non) else .stuck
  | _, _ => .stuck
@[simp] theorem meExtend_eq (r x : RVm) : meExtend r x st = ext1 r (look r st) ((look x st).bind Viewm.lstOf) st := rfl
@[simp] theorem ext1_lst (r : RVm) (ys l : List PVm) : ext1 r (some (.m (.lst l))) (some ys) st = if l.length + ys.length ≤ 16777216 then okO (putO r (.lst (l ++ ys)) st) (.val .non) else .stuck := rfl
def put1 (i : Nat) (o : MOm) (s : Option Slotm) (st : Sm) : Option Sm := match s with
    | some (.own _) => some { st with env := st.env.set i (.own o) }
    | some (.lent _) => some { st with env := st.env.set i (.lent o) }
    | some (.val (.ref n)) => if n < st.hp.length then some { st with hp := st.hp.set n o } else none
    | _ => none
@[simp] theorem putO_at (i : Nat) (o : MOm) : putO (.at i) o st = put1 i o (st.env[i]?) st := rfl
@[simp] theorem putO_ref (n : Nat) (o : MOm) : putO (.val (.ref n)) o st = if n < st.hp.length then some { st with hp := st.hp.set n o } else none := rfl
@[simp] theorem put1_own (i : Nat) (o o' : MOm) : put1 i o (some (.own o')) st = some { st with env := st.env.set i (.own o) } := rfl
@[simp] theorem put1_lent (i : Nat) (o o' : MOm) : put1 i o (some (.lent o')) st = some { st with env := st.env.set i (.lent o) } := rfl
def lookS (s : Option Slotm) (hp : List MOm) : Option Viewm := match s with
    | some (.own o) => some (.m o)
    | some (.lent o) => some (.m o)
    | some (.val (.ref n)) => (hp[n]?).map Viewm.m
    | some (.val v) => some (.p v)
    | _ => none
@[simp] theorem look_at (i : Nat) : look (.at i) st = lookS (st.env[i]?) st.hp := rfl
@[simp] theorem look_own (o : MOm) : look (.own o) st = some (.m o) := rfl
@[simp] theorem lookS_own (o : MOm) (hp : List MOm) : lookS (some (.own o)) hp = some (.m o) := rfl
@[simp] theorem lookS_lent (o : MOm) (hp : List MOm) : lookS (some (.lent o)) hp = some (.m o) := rfl
@[simp] theorem look_ref (n : Nat) : look (.val (.ref n)) st = (st.hp[n]?).map Viewm.m := rfl
@[simp] theorem look_int (n : Int) : look (.val (.int n)) st = some (.p (.int n)) := rfl
@[simp] theorem look_bl (n : Bool) : look (.val (.bl n)) st = some (.p (.bl n)) := rfl
@[simp] theorem look_str (n : List Nat) : look (.val (.str n)) st = some (.p (.str n)) := rfl
@[simp] theorem look_tup (n : List PVm) : look (.val (.tup n)) st = some (.p (.tup n)) := rfl
@[simp] theorem look_lst (n : List PVm) : look (.val (.lst n)) st = some (.p (.lst n)) := rfl
@[simp] theorem look_rol (n : List PVm) : look (.val (.rol n)) st = some (.p (.rol n)) := rfl
@[simp] theorem look_non : look (.val .non) st = some (.p .non) := rfl
/-- no reference -/
def PVm.nref : PVm → Bool
  | .ref _ => false
  | _ => true
theorem look_val {v : PVm} (h : v.nref = true) : look (.val v) st = some (.p v) := by
  cases v <;> first | rfl | cases h
def tstK (r : RVm) (st : Sm) : Resm Bool := match (look r st).bind truth with
  | some k => .ok k st
  | none => .stuck
@[simp] theorem tst_eq : tst ma st = (ma st).bd fun r st => tstK r st := rfl
@[simp] theorem tstK_bl (k : Bool) : tstK (.val (.bl k)) st = .ok k st := rfl
@[simp] theorem tstK_int (k : Int) : tstK (.val (.int k)) st = .ok (k != 0) st := rfl
@[simp] theorem tstK_str (k : List Nat) : tstK (.val (.str k)) st = .ok (!k.isEmpty) st := rfl
@[simp] theorem tstK_tup (k : List PVm) : tstK (.val (.tup k)) st = .ok (!k.isEmpty) st := rfl
@[simp] theorem tstK_lst (k : List PVm) : tstK (.val (.lst k)) st = .ok (!k.isEmpty) st := rfl
@[simp] theorem tstK_rol (k : List PVm) : tstK (.val (.rol k)) st = .ok (!k.isEmpty) st := rfl
@[simp] theorem tstK_non : tstK (.val .non) st = .ok false st := rfl
def tstV (u : Option Viewm) (st : Sm) : Resm Bool := match u.bind truth with
  | some k => .ok k st
  | none => .stuck
@[simp] theorem tstK_ref (n : Nat) : tstK (.val (.ref n)) st = tstV ((st.hp[n]?).map Viewm.m) st := rfl
@[simp] theorem tstK_at (n : Nat) : tstK (.at n) st = tstV (lookS (st.env[n]?) st.hp) st := rfl
@[simp] theorem tstK_own (o : MOm) : tstK (.own o) st = tstV (some (.m o)) st := rfl
@[simp] theorem tstV_lst (l : List PVm) : tstV (some (.m (.lst l))) st = .ok (!l.isEmpty) st := rfl
/-- freezing -/
@[simp] theorem fixR_val (v : PVm) : fixR (.val v) st = .ok v st := rfl
@[simp] theorem fixR_own (l : List PVm) : fixR (.own (.lst l)) st = .ok (.lst l) st := rfl
def fix1 (i : Nat) (s : Option Slotm) (st : Sm) : Resm PVm := match s with
    | some (.own (.lst l)) => .ok (.lst l) { st with env := st.env.set i (.val (.lst l)) }
    | some (.val v) => .ok v st
    | _ => .stuck
@[simp] theorem fixR_at (i : Nat) : fixR (.at i) st = fix1 i (st.env[i]?) st := rfl
@[simp] theorem fix1_own (i : Nat) (l : List PVm) : fix1 i (some (.own (.lst l))) st = .ok (.lst l) { st with env := st.env.set i (.val (.lst l)) } := rfl
@[simp] theorem fixAll_nil : fixAll [] st = .ok [] st := rfl
@[simp] theorem fixAll_cons (r : RVm) (rs : List RVm) : fixAll (r :: rs) st = (fixR r st).bd fun v st => (fixAll rs st).bd fun vs st => .ok (v :: vs) st := rfl
def bndK (o : Option Sm) : Resm Flm := match o with
  | some st => .ok .nx st
  | none => .stuck
@[simp] theorem bndK_some : bndK (some st) = .ok .nx st := rfl
@[simp] theorem asg_own (i : Nat) (o : MOm) : asgF (.v i) (.own o) st = bndK (sets i (.own o) st) := rfl
@[simp] theorem asg_val (t : Tgtm) (v : PVm) : asgF t (.val v) st = bndK (bindT t v st) := by cases t <;> rfl
@[simp] theorem asg_at (t : Tgtm) (j : Nat) : asgF t (.at j) st = (fixR (.at j) st).bd fun v st => bndK (bindT t v st) := by cases t <;> rfl
@[simp] theorem raiK_eq (c : Nat) (rs : List RVm) : raiK c rs st = (fixAll rs st).bd fun vs st => .err ⟨c, vs⟩ st := rfl
@[simp] theorem parK_eq (is : List Nat) (rs : List RVm) : parK is rs st = (fixAll rs st).bd fun vs st => bndK (bindTs (is.map .v) vs st) := rfl
def sets1 (i : Nat) (s : Slotm) (o : Option Slotm) (st : Sm) : Option Sm := match o with
  | some (.lent _) => none
  | some _ => some { st with env := st.env.set i s }
  | none => none
@[simp] theorem sets_eq (i : Nat) (s : Slotm) : sets i s st = sets1 i s (st.env[i]?) st := rfl
@[simp] theorem sets1_no (i : Nat) (s : Slotm) : sets1 i s (some .no) st = some { st with env := st.env.set i s } := rfl
@[simp] theorem sets1_val (i : Nat) (s : Slotm) (v : PVm) : sets1 i s (some (.val v)) st = some { st with env := st.env.set i s } := rfl
@[simp] theorem sets1_own (i : Nat) (s : Slotm) (v : MOm) : sets1 i s (some (.own v)) st = some { st with env := st.env.set i s } := rfl
@[simp] theorem sets1_exc (i : Nat) (s : Slotm) (c : Nat) (a : List PVm) : sets1 i s (some (.exc c a)) st = some { st with env := st.env.set i s } := rfl
@[simp] theorem bindT_v (i : Nat) (v : PVm) : bindT (.v i) v st = sets i (.val v) st := rfl
@[simp] theorem bindT_t (ts : List Tgtm) (l : List PVm) : bindT (.t ts) (.tup l) st = bindTs ts l st := rfl
@[simp] theorem bindTs_nil : bindTs [] [] st = some st := rfl
def bnd2 (o : Option Sm) (k : Sm → Option Sm) (_ : Tg k := tg k) : Option Sm := match o with
    | some st => k st
    | none => none
@[simp] theorem bindTs_cons (t : Tgtm) (ts : List Tgtm) (v : PVm) (vs : List PVm) : bindTs (t :: ts) (v :: vs) st = bnd2 (bindT t v st) (fun st => bindTs ts vs st) := rfl
@[simp] theorem bnd2_some (k : Sm → Option Sm) : bnd2 (some st) k = k st := rfl
def turn1 (b : Sm → Resm Flm) (o : Option Sm) : Resm Flm := match o with
  | some st => b st
  | none => .stuck
@[simp] theorem turnF_eq (t : Tgtm) (b : Sm → Resm Flm) (x : PVm) : turnF t b x st = turn1 b (bindT t x st) := rfl
@[simp] theorem turn1_some (b : Sm → Resm Flm) : turn1 b (some st) = b st := rfl
end
end Mp

set_option linter.all false
set_option maxRecDepth 100000
/-! Mq3: values for simp. -/
namespace Mp
section
variable (C : CallEnv) (st : Sm)
/-! operators on views -/
@[simp] theorem v_add (a b : Int) : binV .add (.p (.int a)) (.p (.int b)) = some (.val (.int (a + b))) := rfl
@[simp] theorem v_sub (a b : Int) : binV .sub (.p (.int a)) (.p (.int b)) = some (.val (.int (a - b))) := rfl
@[simp] theorem v_mul (a b : Int) : binV .mul (.p (.int a)) (.p (.int b)) = if mulOk a b = true then some (.val (.int (a * b))) else none := rfl
@[simp] theorem v_fdiv (a b : Int) : binV .fdiv (.p (.int a)) (.p (.int b)) = if 0 < b ∧ b.natAbs.log2 < 9000 then some (.val (.int (a / b))) else none := rfl
@[simp] theorem v_mod (a b : Int) : binV .mod (.p (.int a)) (.p (.int b)) = if 0 < b then some (.val (.int (a % b))) else none := rfl
@[simp] theorem v_pow (a b : Int) : binV .pow (.p (.int a)) (.p (.int b)) = if 0 ≤ b ∧ b ≤ 1000000 ∧ a.natAbs < 2 ^ 64 then some (.val (.int (a ^ b.toNat))) else none := rfl
@[simp] theorem v_addS (a b : List Nat) : binV .add (.p (.str a)) (.p (.str b)) = if a.length + b.length ≤ 16777216 then some (.val (.str (a ++ b))) else none := rfl
@[simp] theorem v_addT (a b : List PVm) : binV .add (.p (.tup a)) (.p (.tup b)) = if a.length + b.length ≤ 16777216 then some (.val (.tup (a ++ b))) else none := rfl
@[simp] theorem v_addL (a b : List PVm) : binV .add (.m (.lst a)) (.m (.lst b)) = if a.length + b.length ≤ 16777216 then some (.own (.lst (a ++ b))) else none := rfl
@[simp] theorem v_mulT (a : List PVm) (k : Int) : binV .mul (.p (.tup a)) (.p (.int k)) = if -(2 ^ 63) ≤ k ∧ k ≤ 1000 ∧ a.length ≤ 1000 then some (.val (.tup (rep k a))) else none := rfl
@[simp] theorem v_mulL (a : List PVm) (k : Int) : binV .mul (.m (.lst a)) (.p (.int k)) = if repOk k a.length = true then some (.own (.lst (rep k a))) else none := rfl
@[simp] theorem v_mulS (a : List Nat) (k : Int) : binV .mul (.p (.str a)) (.p (.int k)) = if repOk k a.length = true then some (.val (.str (rep k a))) else none := rfl
theorem mulOk_l {a b : Int} (h : a.natAbs < 2 ^ 64) : mulOk a b = true := by simp [mulOk, h]
theorem mulOk_r {a b : Int} (h : b.natAbs < 2 ^ 64) : mulOk a b = true := by simp [mulOk, h]
@[simp] theorem opt_ite {α : Type} (c : Prop) [Decidable c] (a b : Option α) : opt (if c then a else b) st = if c then opt a st else opt b st := by by_cases h : c <;> simp [h]
/-! comparisons -/
def mapB (f : Bool → Bool) (o : Option Bool) : Option Bool := o.map f
@[simp] theorem c_lt (a b : Int) : cmpV .lt (.p (.int a)) (.p (.int b)) = some (decide (a < b)) := rfl
@[simp] theorem c_le (a b : Int) : cmpV .le (.p (.int a)) (.p (.int b)) = some (decide (a ≤ b)) := rfl
@[simp] theorem c_gt (a b : Int) : cmpV .gt (.p (.int a)) (.p (.int b)) = some (decide (b < a)) := rfl
@[simp] theorem c_ge (a b : Int) : cmpV .ge (.p (.int a)) (.p (.int b)) = some (decide (b ≤ a)) := rfl
@[simp] theorem c_eqI (a b : Int) : cmpV .eq (.p (.int a)) (.p (.int b)) = some (decide (a = b)) := by
  show some (a == b) = _
  congr 1
@[simp] theorem c_neI (a b : Int) : cmpV .ne (.p (.int a)) (.p (.int b)) = some (decide (a ≠ b)) := by
  show some (!(a == b)) = _
  by_cases h : a = b <;> simp [h]
@[simp] theorem c_eqS (a b : List Nat) : cmpV .eq (.p (.str a)) (.p (.str b)) = some (decide (a = b)) := by
  show some (a == b) = _
  by_cases h : a = b <;> simp [h]
@[simp] theorem c_neS (a b : List Nat) : cmpV .ne (.p (.str a)) (.p (.str b)) = some (decide (a ≠ b)) := by
  show some (!(a == b)) = _
  by_cases h : a = b <;> simp [h]
@[simp] theorem c_isN (x y : Viewm) : cmpV .isN x y = some (isNon x) := rfl
@[simp] theorem c_notN (x y : Viewm) : cmpV .notN x y = some (!isNon x) := rfl
@[simp] theorem isNon_non : isNon (.p .non) = true := rfl
@[simp] theorem isNon_int (i : Int) : isNon (.p (.int i)) = false := rfl
@[simp] theorem isNon_bl (i : Bool) : isNon (.p (.bl i)) = false := rfl
@[simp] theorem isNon_str (i : List Nat) : isNon (.p (.str i)) = false := rfl
@[simp] theorem isNon_tup (i : List PVm) : isNon (.p (.tup i)) = false := rfl
@[simp] theorem isNon_lst (i : List PVm) : isNon (.p (.lst i)) = false := rfl
/-! built-ins -/
@[simp] theorem b_len (v : Viewm) : biV .len [v] = (lenV v).map fun (n : Nat) => RVm.val (.int (n : Int)) := rfl
@[simp] theorem len_str (l : List Nat) : lenV (.p (.str l)) = some l.length := rfl
@[simp] theorem len_tup (l : List PVm) : lenV (.p (.tup l)) = some l.length := rfl
@[simp] theorem len_lst (l : List PVm) : lenV (.p (.lst l)) = some l.length := rfl
@[simp] theorem len_rol (l : List PVm) : lenV (.p (.rol l)) = some l.length := rfl
@[simp] theorem len_ml (l : List PVm) : lenV (.m (.lst l)) = some l.length := rfl
@[simp] theorem len_dic (l : List (PVm × PVm)) : lenV (.m (.dic l)) = some l.length := rfl
@[simp] theorem b_intI (i : Int) : biV .int [.p (.int i)] = some (.val (.int i)) := rfl
@[simp] theorem b_intB (i : Bool) : biV .int [.p (.bl i)] = some (.val (.int (b2i i))) := rfl
@[simp] theorem b_listP (v : PVm) : biV .list [.p v] = (Viewm.p v).seqOf.map fun l => .own (.lst l) := rfl
@[simp] theorem b_listM (l : List PVm) : biV .list [.m (.lst l)] = some (.own (.lst l)) := rfl
@[simp] theorem b_listD (l : List (PVm × PVm)) : biV .list [.m (.dic l)] = some (.own (.lst (l.map (·.1)))) := rfl
theorem b_minL {v : Viewm} {a : Int} {r : List Int} (h : v.lstOf.bind intsOf = some (a :: r)) : biV .min2 [v] = some (.val (.int (r.foldl (fun m y => if y < m then y else m) a))) := by
  show (v.lstOf.bind intsOf).bind _ = _
  rw [h]; rfl
theorem b_maxL {v : Viewm} {a : Int} {r : List Int} (h : v.lstOf.bind intsOf = some (a :: r)) : biV .max2 [v] = some (.val (.int (r.foldl (fun m y => if y > m then y else m) a))) := by
  show (v.lstOf.bind intsOf).bind _ = _
  rw [h]; rfl
@[simp] theorem b_tuple (v : Viewm) : biV .tuple [v] = v.seqOf.map fun l => .val (.tup l) := rfl
@[simp] theorem so_tup (l : List PVm) : (Viewm.p (.tup l)).seqOf = some l := rfl
@[simp] theorem so_lst (l : List PVm) : (Viewm.p (.lst l)).seqOf = some l := rfl
@[simp] theorem so_rol (l : List PVm) : (Viewm.p (.rol l)).seqOf = some l := rfl
@[simp] theorem so_ml (l : List PVm) : (Viewm.m (.lst l)).seqOf = some l := rfl
@[simp] theorem lo_lst (l : List PVm) : (Viewm.p (.lst l)).lstOf = some l := rfl
@[simp] theorem lo_ml (l : List PVm) : (Viewm.m (.lst l)).lstOf = some l := rfl
@[simp] theorem b_isi (t : Tym) (v : Viewm) : biV (.isi t) [v] = (tyName v).map fun u => .val (.bl (isTy t u)) := rfl
@[simp] theorem ty_int (i : Int) : tyName (.p (.int i)) = some .int := rfl
@[simp] theorem ty_bl (i : Bool) : tyName (.p (.bl i)) = some .bool := rfl
@[simp] theorem ty_str (i : List Nat) : tyName (.p (.str i)) = some .str := rfl
@[simp] theorem ty_tup (i : List PVm) : tyName (.p (.tup i)) = some .tuple := rfl
@[simp] theorem ty_lst (i : List PVm) : tyName (.p (.lst i)) = some .list := rfl
@[simp] theorem ty_rol (i : List PVm) : tyName (.p (.rol i)) = some .list := rfl
@[simp] theorem ty_non : tyName (.p .non) = some .non := rfl
@[simp] theorem ty_ml (i : List PVm) : tyName (.m (.lst i)) = some .list := rfl
@[simp] theorem ty_md (i : List (PVm × PVm)) : tyName (.m (.dic i)) = some .dict := rfl
@[simp] theorem b_ord (c : Nat) : biV .ord [.p (.str [c])] = some (.val (.int c)) := rfl
@[simp] theorem b_max (a b : Int) : biV .max2 [.p (.int a), .p (.int b)] = some (.val (.int (max a b))) := by
  show some (RVm.val (.int (if b > a then b else a))) = _
  congr 3
  by_cases h : b > a
  · rw [if_pos h]; omega
  · rw [if_neg h]; omega
@[simp] theorem b_min (a b : Int) : biV .min2 [.p (.int a), .p (.int b)] = some (.val (.int (min a b))) := by
  show some (RVm.val (.int (if b < a then b else a))) = _
  congr 3
  by_cases h : b < a
  · rw [if_pos h]; omega
  · rw [if_neg h]; omega
@[simp] theorem intsOf_map (l : List Int) : intsOf (l.map .int) = some l := by
  induction l with
  | nil => rfl
  | cons a l ih => simp [intsOf, ih]
@[simp] theorem strsOf_map (l : List (List Nat)) : strsOf (l.map .str) = some l := by
  induction l with
  | nil => rfl
  | cons a l ih => simp [strsOf, ih]
@[simp] theorem b_sum (v : Viewm) : biV .sum [v] = (v.seqOf.bind intsOf).map fun l => .val (.int l.sum) := rfl
/-! subscripts, slices -/
@[simp] theorem ix_tup (l : List PVm) (i : Int) : idxV (.p (.tup l)) (.p (.int i)) = atI l i := rfl
@[simp] theorem ix_lst (l : List PVm) (i : Int) : idxV (.p (.lst l)) (.p (.int i)) = atI l i := rfl
@[simp] theorem ix_rol (l : List PVm) (i : Int) : idxV (.p (.rol l)) (.p (.int i)) = atI l i := rfl
@[simp] theorem ix_ml (l : List PVm) (i : Int) : idxV (.m (.lst l)) (.p (.int i)) = atI l i := rfl
@[simp] theorem ix_str (l : List Nat) (i : Int) : idxV (.p (.str l)) (.p (.int i)) = (atI l i).map fun c => .str [c] := rfl
theorem ixN_nat {n i : Nat} (h : i < n) : ixN n (i : Int) = some i := by
  unfold ixN
  rw [if_pos (by omega), if_pos (by omega)]
  simp
theorem ixN_of {n : Nat} {i : Int} (h : 0 ≤ i) (h2 : i < n) : ixN n i = some i.toNat := by
  unfold ixN
  rw [if_pos h, if_pos h2]
theorem atI_nat {α : Type} {l : List α} {i : Nat} : atI l (i : Int) = l[i]? := by
  unfold atI
  by_cases h : i < l.length
  · rw [ixN_nat h]; rfl
  · unfold ixN
    rw [if_pos (by omega), if_neg (by omega), List.getElem?_eq_none (by omega)]
    rfl
theorem atI_of {α : Type} {l : List α} {i : Int} (h : 0 ≤ i) : atI l i = l[i.toNat]? := by
  have := atI_nat (l := l) (i := i.toNat)
  rwa [Int.toNat_of_nonneg h] at this
@[simp] theorem atI_zero {α : Type} (x : α) (l : List α) : atI (x :: l) 0 = some x := by
  rw [atI_of (by omega)]; rfl
@[simp] theorem atI_one {α : Type} (x y : α) (l : List α) : atI (x :: y :: l) 1 = some y := by
  rw [atI_of (by omega)]; rfl
@[simp] theorem atI_two {α : Type} (x y z : α) (l : List α) : atI (x :: y :: z :: l) 2 = some z := by
  rw [atI_of (by omega)]; rfl
@[simp] theorem part_non : partOf (.p .non) = some none := rfl
@[simp] theorem part_int (i : Int) : partOf (.p (.int i)) = some (some i) := rfl
@[simp] theorem sl_str (l : List Nat) (a b : Option Int) : slcV (.p (.str l)) a b = some (.val (.str (cut l a b))) := rfl
@[simp] theorem sl_tup (l : List PVm) (a b : Option Int) : slcV (.p (.tup l)) a b = some (.val (.tup (cut l a b))) := rfl
@[simp] theorem sl_lst (l : List PVm) (a b : Option Int) : slcV (.p (.lst l)) a b = some (.own (.lst (cut l a b))) := rfl
@[simp] theorem sl_ml (l : List PVm) (a b : Option Int) : slcV (.m (.lst l)) a b = some (.own (.lst (cut l a b))) := rfl
@[simp] theorem rv_lst (l : List PVm) : revV (.p (.lst l)) = some (.own (.lst l.reverse)) := rfl
@[simp] theorem rv_ml (l : List PVm) : revV (.m (.lst l)) = some (.own (.lst l.reverse)) := rfl
/-- store at a place -/
def set1 (v : PVm) (x : RVm) (l : List PVm) (o : Option Nat) (st : Sm) : Resm Flm := match o with
        | some j => bndK (putO x (.lst (l.set j v)) st)
        | none => .stuck
def set2 (v : PVm) (x : RVm) (u w : Option Viewm) (st : Sm) : Resm Flm := match u, w with
      | some (.m (.lst l)), some (.p (.int k)) => set1 v x l (ixN l.length k) st
      | _, _ => .stuck
@[simp] theorem setK_eq (v x y : RVm) : setK v x y st = (fixR v st).bd fun v st => set2 v x (look x st) (look y st) st := rfl
@[simp] theorem set2_ml (v : PVm) (x : RVm) (l : List PVm) (k : Int) : set2 v x (some (.m (.lst l))) (some (.p (.int k))) st = set1 v x l (ixN l.length k) st := rfl
@[simp] theorem set1_some (v : PVm) (x : RVm) (l : List PVm) (k : Nat) : set1 v x l (some k) st = bndK (putO x (.lst (l.set k v)) st) := rfl
@[simp] theorem ixN_zero (n : Nat) : ixN (n + 1) 0 = some 0 := by
  unfold ixN
  rw [if_pos (by omega), if_pos (by omega)]; rfl
@[simp] theorem ixN_one (n : Nat) : ixN (n + 1 + 1) 1 = some 1 := by
  unfold ixN
  rw [if_pos (by omega), if_pos (by omega)]; rfl
@[simp] theorem bndK_ite (c : Prop) [Decidable c] (a b : Option Sm) : bndK (if c then a else b) = if c then bndK a else bndK b := by by_cases h : c <;> simp [h]
@[simp] theorem okO_ite (c : Prop) [Decidable c] (a b : Option Sm) (v : RVm) : okO (if c then a else b) v = if c then okO a v else okO b v := by by_cases h : c <;> simp [h]
/-! augmented -/
@[simp] theorem aK_add (i : Nat) (v u : Int) : augK .add i v (.val (.int u)) st = bndK (sets i (.val (.int (v + u))) st) := rfl
@[simp] theorem aK_sub (i : Nat) (v u : Int) : augK .sub i v (.val (.int u)) st = bndK (sets i (.val (.int (v - u))) st) := rfl
theorem aK_mul {i : Nat} {v u : Int} (h : mulOk v u = true) : augK .mul i v (.val (.int u)) st = bndK (sets i (.val (.int (v * u))) st) := by
  unfold augK; simp [h]; rfl
/-! pop -/
@[simp] theorem pop0_eq (r x : RVm) : mePop0 r x st = match look r st, x with
  | some (.m (.lst (y :: l))), .val (.int 0) => okO (putO r (.lst l) st) (.val y)
  | _, _ => .stuck := rfl
def pop1 (r : RVm) (u : Option Viewm) (st : Sm) : Resm RVm := match u with
  | some (.m (.lst l)) => (match l.getLast? with
    | some y => okO (putO r (.lst l.dropLast) st) (.val y)
    | none => .stuck)
  | _ => .stuck
@[simp] theorem pop_eq (r : RVm) : mePop r st = pop1 r (look r st) st := rfl
/-! what is walked -/
@[simp] theorem r1 (j : Int) : rngI [.val (.int j)] st = if -(2 ^ 62) ≤ j ∧ j < 2 ^ 62 then .ok ⟨rngL 0 j.toNat, []⟩ st else .stuck := rfl
@[simp] theorem r2 (i j : Int) : rngI [.val (.int i), .val (.int j)] st = if -(2 ^ 62) ≤ i ∧ i < 2 ^ 62 ∧ -(2 ^ 62) ≤ j ∧ j < 2 ^ 62 then .ok ⟨rngL i (j - i).toNat, []⟩ st else .stuck := rfl
def seqS (i : Nat) (s : Option Slotm) : Option (Bool × Itmm) := match s with
    | some (.own (.lst l)) => some (false, ⟨l, [(i, l)]⟩)
    | some (.lent (.lst l)) => some (false, ⟨l, [(i, l)]⟩)
    | some (.val (.lst l)) => some (false, ⟨l, []⟩)
    | some (.val (.tup l)) => some (true, ⟨l, []⟩)
    | some (.val (.rol l)) => some (false, ⟨l, []⟩)
    | _ => none
@[simp] theorem sI_at (i : Nat) : seqIt (.at i) st = seqS i (st.env[i]?) := rfl
@[simp] theorem sS_own (i : Nat) (l : List PVm) : seqS i (some (.own (.lst l))) = some (false, ⟨l, [(i, l)]⟩) := rfl
@[simp] theorem sS_lent (i : Nat) (l : List PVm) : seqS i (some (.lent (.lst l))) = some (false, ⟨l, [(i, l)]⟩) := rfl
@[simp] theorem sI_own (l : List PVm) : seqIt (.own (.lst l)) st = some (false, ⟨l, []⟩) := rfl
@[simp] theorem sI_lst (l : List PVm) : seqIt (.val (.lst l)) st = some (false, ⟨l, []⟩) := rfl
@[simp] theorem sI_tup (l : List PVm) : seqIt (.val (.tup l)) st = some (true, ⟨l, []⟩) := rfl
@[simp] theorem sI_rol (l : List PVm) : seqIt (.val (.rol l)) st = some (false, ⟨l, []⟩) := rfl
def itmK (o : Option (Bool × Itmm)) : Resm Itmm := match o with
    | some I => .ok I.2 st
    | none => .stuck
@[simp] theorem itmK_some (I : Bool × Itmm) : itmK st (some I) = .ok I.2 st := rfl
@[simp] theorem seqI_str (s : List Nat) : seqI (.val (.str s)) st = .ok ⟨s.map fun c => .str [c], []⟩ st := rfl
@[simp] theorem seqI_at (i : Nat) : seqI (.at i) st = itmK st (seqS i (st.env[i]?)) := rfl
@[simp] theorem seqI_own (o : MOm) : seqI (.own o) st = itmK st (seqIt (.own o) st) := rfl
@[simp] theorem seqI_lst (l : List PVm) : seqI (.val (.lst l)) st = .ok ⟨l, []⟩ st := rfl
@[simp] theorem seqI_tup (l : List PVm) : seqI (.val (.tup l)) st = .ok ⟨l, []⟩ st := rfl
@[simp] theorem seqI_rol (l : List PVm) : seqI (.val (.rol l)) st = .ok ⟨l, []⟩ st := rfl
def enmK (o : Option (Bool × Itmm)) : Resm Itmm := match o with
    | some I => .ok ⟨enumL 0 I.2.items, I.2.deps⟩ st
    | none => .stuck
@[simp] theorem enumI_eq (r : RVm) : enumI [r] st = enmK st (seqIt r st) := rfl
@[simp] theorem enmK_some (I : Bool × Itmm) : enmK st (some I) = .ok ⟨enumL 0 I.2.items, I.2.deps⟩ st := rfl
def zipK (I J : Option (Bool × Itmm)) : Resm Itmm := match I, J with
    | some I, some J => if I.1 = J.1 then .ok ⟨I.2.items.zipWith (fun x y => PVm.tup [x, y]) J.2.items, I.2.deps ++ J.2.deps⟩ st else .stuck
    | _, _ => .stuck
@[simp] theorem zipI_eq (r q : RVm) : zipI [r, q] st = zipK st (seqIt r st) (seqIt q st) := rfl
@[simp] theorem zipK_some (I J : Bool × Itmm) : zipK st (some I) (some J) = if I.1 = J.1 then .ok ⟨I.2.items.zipWith (fun x y => PVm.tup [x, y]) J.2.items, I.2.deps ++ J.2.deps⟩ st else .stuck := rfl
/-! a comprehension -/
def cmp0 (w : List Nat) (st0 : Sm) (r : Resm (List PVm)) : Resm RVm := match r with
  | .ok acc st' => .ok (.own (.lst acc)) { st' with env := unwipe st0.env w st'.env }
  | _ => .stuck
@[simp] theorem cmp0_ok (w : List Nat) (acc : List PVm) (st' : Sm) : cmp0 w st (.ok acc st') = .ok (.own (.lst acc)) { st' with env := unwipe st.env w st'.env } := rfl
theorem cmp0_sat {w : List Nat} {st0 : Sm} {r : Resm (List PVm)} {Q : RVm → Sm → Prop} {E : Exm → Sm → Prop} (h : r.sat (fun acc st' => Q (.own (.lst acc)) { st' with env := unwipe st0.env w st'.env }) noE) : (cmp0 w st0 r).sat Q E := by
  cases r with
  | stuck => exact h.elim
  | err x st => exact h.elim
  | ok a st => exact h
variable (ma : Sm → Resm RVm) (mt : Sm → Resm Bool) (mi : Sm → Resm Itmm)
def cmpB1 (t : Tgtm) (w : List Nat) (I : Itmm) (st : Sm) : Resm RVm := if noOwn w st.env = false then .stuck else cmp0 w st (compL I.deps (compB t mt ma w) I.items [] { st with env := wipeS w st.env })
@[simp] theorem e_comp (t : Tgtm) (w : List Nat) : eComp ma t mi mt w st = (mi st).bd fun I st => cmpB1 ma mt t w I st := by
  show _ = Resm.bind _ _
  unfold eComp
  congr 1
@[simp] theorem cmpB1_eq (t : Tgtm) (w : List Nat) (I : Itmm) : cmpB1 ma mt t w I st = if noOwn w st.env = false then .stuck else cmp0 w st (compL I.deps (compB t mt ma w) I.items [] { st with env := wipeS w st.env }) := rfl
def compT (w : List Nat) (k : Bool) (st : Sm) : Resm (Option PVm) := if k then (ma st).bd fun r st => (fixR r st).bd fun v st => wipeC w (some v) st else wipeC w none st
def compB1 (w : List Nat) (o : Option Sm) : Resm (Option PVm) := match o with
  | none => .stuck
  | some st => (mt st).bd fun k st => compT ma w k st
theorem compB_eq (t : Tgtm) (w : List Nat) (x : PVm) : compB t mt ma w x st = compB1 ma mt w (bindT t x st) := rfl
@[simp] theorem compB1_some (w : List Nat) : compB1 ma mt w (some st) = (mt st).bd fun k st => compT ma w k st := rfl
@[simp] theorem compT_eq (w : List Nat) (k : Bool) : compT ma w k st = if k then (ma st).bd fun r st => (fixR r st).bd fun v st => wipeC w (some v) st else wipeC w none st := rfl
@[simp] theorem wipeC_eq {α : Type} (w : List Nat) (a : α) : wipeC w a st = if noOwn w st.env then .ok a { st with env := wipeS w st.env } else .stuck := rfl
@[simp] theorem noOwn_nil (env : List Slotm) : noOwn [] env = true := rfl
def noO1 (s : Option Slotm) : Bool := match s with
  | some (.own _) => false
  | some (.lent _) => false
  | some _ => true
  | none => false
@[simp] theorem noOwn_cons (i : Nat) (w : List Nat) (env : List Slotm) : noOwn (i :: w) env = (noO1 env[i]? && noOwn w env) := rfl
@[simp] theorem noO1_no : noO1 (some .no) = true := rfl
@[simp] theorem noO1_val (v : PVm) : noO1 (some (.val v)) = true := rfl
@[simp] theorem noO1_exc (c : Nat) (v : List PVm) : noO1 (some (.exc c v)) = true := rfl
@[simp] theorem wipeS_nil (env : List Slotm) : wipeS [] env = env := rfl
@[simp] theorem wipeS_cons (i : Nat) (w : List Nat) (env : List Slotm) : wipeS (i :: w) env = (wipeS w env).set i .no := rfl
@[simp] theorem unwipe_nil (old env : List Slotm) : unwipe old [] env = env := rfl
@[simp] theorem unwipe_cons (i : Nat) (w : List Nat) (old env : List Slotm) : unwipe old (i :: w) env = (unwipe old w env).set i (old[i]?.getD .no) := rfl
/-- an expression's result that is a comprehension without effect -/
theorem compL_map {ds : List (Nat × List PVm)} {b : PVm → Sm → Resm (Option PVm)} {st : Sm} {f : PVm → Option PVm} (hd : depsOk ds st = true) :
    ∀ (items acc : List PVm), (∀ x ∈ items, b x st = .ok (f x) st) → acc.length + items.length ≤ 16777216 → compL ds b items acc st = .ok (acc ++ items.filterMap f) st
  | [], acc, _, _ => by
    unfold compL
    rw [if_pos hd]; simp
  | x :: xs, acc, hb, hl => by
    unfold compL
    rw [if_pos hd, hb x List.mem_cons_self]
    simp only [Resm.bind_ok]
    have hb2 : ∀ y ∈ xs, b y st = .ok (f y) st := fun y hy => hb y (List.mem_cons_of_mem _ hy)
    simp only [List.length_cons] at hl
    cases e : f x with
    | none =>
      simp only []
      rw [compL_map hd xs acc hb2 (by omega), List.filterMap_cons_none e]
    | some v =>
      simp only []
      rw [if_pos (by omega), compL_map hd xs _ hb2 (by simp; omega), List.filterMap_cons_some e]
      simp
@[simp] theorem depsOk_nil : depsOk [] st = true := rfl
def dep1 (s : Option Slotm) (l : List PVm) : Bool := match s with
  | some (.own (.lst k)) => k == l
  | some (.lent (.lst k)) => k == l
  | _ => false
@[simp] theorem depsOk_cons (i : Nat) (l : List PVm) (ds : List (Nat × List PVm)) : depsOk ((i, l) :: ds) st = (dep1 (st.env[i]?) l && depsOk ds st) := rfl
instance : LawfulBEq PVm := inferInstance
@[simp] theorem dep1_own (l : List PVm) : dep1 (some (.own (.lst l))) l = true := by show (l == l) = true; simp
@[simp] theorem dep1_lent (l : List PVm) : dep1 (some (.lent (.lst l))) l = true := by show (l == l) = true; simp
/-! try -/
def tryK (c i : Nat) (k : Nat) (hs : List Hitm) (r : Resm Flm) : Resm Flm := match r with
  | .err x st => if x.cls = c then (match hItems x.args hs with
      | some ps => if i < st.env.length then .ok (.ret (hRes k ps)) { st with env := st.env.set i .no } else .stuck
      | none => .stuck) else .err x st
  | r => r
@[simp] theorem tryF_eq (c i k : Nat) (hs : List Hitm) (m : Sm → Resm Flm) : tryF c i k hs m st = tryK c i k hs (m st) := by
  unfold tryF tryK
  cases m st <;> rfl
@[simp] theorem tryK_ok (c i k : Nat) (hs : List Hitm) (fl : Flm) : tryK c i k hs (.ok fl st) = .ok fl st := rfl
def tryC (i k : Nat) (st : Sm) (o : Option (List PVm)) : Resm Flm := match o with
      | some ps => if i < st.env.length then .ok (.ret (hRes k ps)) { st with env := st.env.set i .no } else .stuck
      | none => .stuck
@[simp] theorem tryK_err (c i k : Nat) (hs : List Hitm) (d : Nat) (a : List PVm) : tryK c i k hs (.err ⟨d, a⟩ st) = if d = c then tryC i k st (hItems a hs) else .err ⟨d, a⟩ st := rfl
@[simp] theorem tryC_some (i k : Nat) (ps : List PVm) : tryC i k st (some ps) = if i < st.env.length then .ok (.ret (hRes k ps)) { st with env := st.env.set i .no } else .stuck := rfl
@[simp] theorem hI_nil (a : List PVm) : hItems a [] = some [] := rfl
@[simp] theorem hI_cst (a : List PVm) (v : PVm) (r : List Hitm) : hItems a (.cst v :: r) = (hItems a r).map (v :: ·) := rfl
def hI1 (s : Option PVm) (t : Option (List PVm)) : Option (List PVm) := match s, t with
    | some v, some l => some (v :: l)
    | _, _ => none
@[simp] theorem hI_fld (a : List PVm) (k : Nat) (r : List Hitm) : hItems a (.fld k :: r) = hI1 a[k]? (hItems a r) := rfl
@[simp] theorem hI1_some (v : PVm) (l : List PVm) : hI1 (some v) (some l) = some (v :: l) := rfl
@[simp] theorem hRes_0 (ps : List PVm) : hRes 0 ps = .val (.tup ps) := rfl
@[simp] theorem hRes_1 (ps : List PVm) : hRes 1 ps = .own (.lst ps) := rfl
theorem tryK_sat {c i k : Nat} {hs : List Hitm} {r : Resm Flm} {Q : Flm → Sm → Prop} {E : Exm → Sm → Prop} (h : r.sat Q fun x st => (if x.cls = c then tryC i k st (hItems x.args hs) else .err x st).sat Q E) : (tryK c i k hs r).sat Q E := by
  cases r <;> exact h
@[simp] theorem ef (i k : Nat) : eExcf i k st = match st.env[i]? with
  | some (.exc _ a) => valE (a[k]?) st
  | _ => .stuck := rfl
/-! escape -/
def escS (i : Nat) (s : Option Slotm) (st : Sm) : Resm RVm := match s with
  | some (.own o) => .ok (.val (.ref st.hp.length)) ⟨st.env.set i (.val (.ref st.hp.length)), st.hp ++ [o]⟩
  | some (.val v) => .ok (.val v) st
  | _ => .stuck
@[simp] theorem e_esc (i : Nat) : eEsc i st = escS i (st.env[i]?) st := rfl
@[simp] theorem escS_own (i : Nat) (o : MOm) : escS i (some (.own o)) st = .ok (.val (.ref st.hp.length)) ⟨st.env.set i (.val (.ref st.hp.length)), st.hp ++ [o]⟩ := rfl
@[simp] theorem escS_val (i : Nat) (v : PVm) : escS i (some (.val v)) st = .ok (.val v) st := rfl
end
end Mp

set_option linter.all false
set_option maxRecDepth 100000
/-! Mq4: small helps for laws. -/
namespace Mp
theorem callK_at {P : List Defm} {f : Nat} {d : Defm} (h : P[f]? = some d) (k : Nat) (ss : List Slotm) (hp : List MOm) (hl : ss.length = d.npar) :
    callK P (k + 1) f ss hp = endD d.npar d.body.stos (execs (callK P k) d.body ⟨ss ++ List.replicate d.nloc .no, hp⟩) := by
  rw [← runD_eq _ _ _ _ hl]
  show (match P[f]? with
    | some d => runD (callK P k) d ss hp
    | none => .stuck) = _
  rw [h]
/-- ints that are numbers -/
def en (n : Nat) : PVm := .int (n : Int)
@[simp] theorem look_en (n : Nat) (st : Sm) : look (.val (en n)) st = some (.p (.int n)) := rfl
end Mp
namespace Mp
theorem endD_eq {n : Nat} {A : List Nat} {r : Resm Flm} {X : CRes} (h : r.sat (fun fl st => endD n A (.ok fl st) = X) fun x st => endD n A (.err x st) = X) : endD n A r = X := by
  cases r with
  | stuck => exact h.elim
  | err x st => exact h
  | ok fl st => exact h
theorem res_eq {α : Type} {r : Resm α} {X : Resm α} (h : r.sat (fun fl st => .ok fl st = X) fun x st => .err x st = X) : r = X := by
  cases r with
  | stuck => exact h.elim
  | err x st => exact h
  | ok fl st => exact h
/-- may be stored -/
def Slotm.free : Slotm → Bool
  | .lent _ => false
  | _ => true
theorem sets1_free {i : Nat} {s t : Slotm} {st : Sm} (h : s.free = true) : sets1 i t (some s) st = some { st with env := st.env.set i t } := by
  cases s <;> first | rfl | cases h
@[simp] theorem free_no : Slotm.free .no = true := rfl
@[simp] theorem free_val (v : PVm) : Slotm.free (.val v) = true := rfl
@[simp] theorem free_own (v : MOm) : Slotm.free (.own v) = true := rfl
/-- no object -/
def Slotm.calm : Slotm → Bool
  | .lent _ => false
  | .own _ => false
  | _ => true
theorem noO1_calm {s : Slotm} (h : s.calm = true) : noO1 (some s) = true := by cases s <;> first | rfl | cases h
theorem kl_calm {s : Slotm} (h : s.calm = true) : keepLent s = .no := by cases s <;> first | rfl | cases h
theorem kl_free {s : Slotm} (h : s.free = true) : keepLent s = .no := by cases s <;> first | rfl | cases h
theorem calm_free {s : Slotm} (h : s.calm = true) : s.free = true := by cases s <;> first | rfl | cases h
@[simp] theorem calm_no : Slotm.calm .no = true := rfl
@[simp] theorem calm_val (v : PVm) : Slotm.calm (.val v) = true := rfl
end Mp
namespace Mp
/-- not for simp -/
def Hide (p : Prop) (_ : Tg p := tg p) : Prop := p
theorem hide {p : Prop} (h : p) : Hide p := h
end Mp

set_option linter.all false
set_option maxRecDepth 100000
set_option exponentiation.threshold 2000
/-! Mq5: numbers, beginnings of sums. -/
namespace Mp
def ens (l : List Nat) : List PVm := l.map fun (n : Nat) => PVm.int (n : Int)
@[simp] theorem ens_nil : ens [] = [] := rfl
theorem ens_cons (a : Nat) (l : List Nat) : ens (a :: l) = .int (a : Int) :: ens l := rfl
theorem ens_app (a b : List Nat) : ens (a ++ b) = ens a ++ ens b := by simp [ens]
@[simp] theorem ens_len (l : List Nat) : (ens l).length = l.length := by simp [ens]
theorem intsOf_ens (l : List Nat) : intsOf (ens l) = some (l.map Int.ofNat) := by
  induction l with
  | nil => rfl
  | cons a l ih => show intsOf (PVm.int (a : Int) :: ens l) = _; simp only [intsOf, ih]; rfl
theorem sum_ofNat (l : List Nat) : (l.map Int.ofNat).sum = ((l.sum : Nat) : Int) := by
  induction l with
  | nil => rfl
  | cons a l ih => simp only [List.map_cons, List.sum_cons, ih]; show (a : Int) + _ = _; omega
theorem atI_ens {l : List Nat} {x : Nat} (h : x < l.length) : atI (ens l) (x : Int) = some (.int (l[x] : Nat)) := by
  rw [atI_nat]
  simp [ens, h]
/-- the sum of the first so many -/
def pre (l : List Nat) (i : Nat) : Nat := (l.take i).sum
@[simp] theorem pre_zero (l : List Nat) : pre l 0 = 0 := by simp [pre]
theorem pre_succ {l : List Nat} {i : Nat} (h : i < l.length) : pre l (i + 1) = pre l i + l[i] := by
  unfold pre
  rw [List.take_succ_eq_append_getElem h, List.sum_append]
  simp
theorem pre_all (l : List Nat) {i : Nat} (h : l.length ≤ i) : pre l i = l.sum := by
  unfold pre
  rw [List.take_of_length_le h]
theorem pre_mono (l : List Nat) {i j : Nat} (h : i ≤ j) : pre l i ≤ pre l j := by
  obtain ⟨d, rfl⟩ : ∃ d, j = i + d := ⟨j - i, by omega⟩
  induction d with
  | zero => exact Nat.le_refl _
  | succ d ih =>
    have := ih (by omega)
    by_cases hl : i + d < l.length
    · have e := pre_succ hl
      rw [show i + (d + 1) = i + d + 1 by omega]
      omega
    · rw [pre_all l (i := i + (d+1)) (by omega), pre_all l (i := i + d) (by omega)] at *
      exact this
theorem pre_le (l : List Nat) (i : Nat) : pre l i ≤ l.sum := by
  have := pre_mono l (i := i) (j := max i l.length) (by omega)
  rwa [pre_all l (i := max i l.length) (by omega)] at this
/-- the place of a number among stretches is one alone -/
theorem pre_uni {l : List Nat} {n i j : Nat} (h1 : pre l i ≤ n) (h2 : n < pre l (i + 1)) (h3 : pre l j ≤ n) (h4 : n < pre l (j + 1)) : i = j := by
  rcases Nat.lt_trichotomy i j with h | h | h
  · have := pre_mono l (i := i + 1) (j := j) (by omega); omega
  · exact h
  · have := pre_mono l (i := j + 1) (j := i) (by omega); omega
theorem pre_mul (l : List Nat) (c i : Nat) : pre (l.map (· * c)) i = pre l i * c := by
  unfold pre
  rw [← List.map_take]
  induction l.take i with
  | nil => simp
  | cons a t ih => simp only [List.map_cons, List.sum_cons, ih, Nat.add_mul]
/-- what is more in the one than in the other -/
def dif (a b : List Nat) : List Nat := List.zipWith (· - ·) a b
def mins (a b : List Nat) : List Nat := List.zipWith min a b
theorem dif_len {a b : List Nat} (h : a.length = b.length) : (dif a b).length = a.length := by simp [dif, h]
theorem dif_sum : ∀ {a b : List Nat}, a.length = b.length → (dif a b).sum + (mins a b).sum = a.sum
  | [], [], _ => rfl
  | x :: a, y :: b, h => by
    have := dif_sum (a := a) (b := b) (by simpa using h)
    simp only [dif, mins, List.zipWith_cons_cons, List.sum_cons] at this ⊢
    omega
theorem mins_comm (a b : List Nat) : mins a b = mins b a := by
  unfold mins
  rw [List.zipWith_comm]
  congr 1
  funext x y
  exact Nat.min_comm _ _
theorem dif_bal {a b : List Nat} (h : a.length = b.length) (hs : a.sum = b.sum) : (dif a b).sum = (dif b a).sum := by
  have h1 := dif_sum h
  have h2 := dif_sum h.symm
  rw [mins_comm] at h2
  omega
theorem dif_get {a b : List Nat} {i : Nat} (h : i < (dif a b).length) (ha : i < a.length) (hb : i < b.length) : (dif a b)[i] = a[i] - b[i] := by
  simp [dif]
def BIG : Nat := 2 ^ 1000
theorem mulOk_big {a b : Int} (ha : a.natAbs < BIG) (hb : b.natAbs < BIG) : mulOk a b = true := by
  have l1 : ∀ n : Nat, n < BIG → n.log2 < 1000 := fun n h => by
    by_cases h0 : n = 0
    · subst h0; decide
    · exact (Nat.log2_lt h0).mpr h
  unfold mulOk
  have := l1 _ ha
  have := l1 _ hb
  simp
  right; omega
theorem le_sum {l : List Nat} {i : Nat} (h : i < l.length) : l[i] ≤ l.sum := by
  have := pre_succ h
  have := pre_le l (i + 1)
  omega
theorem mem_le_sum {l : List Nat} {x : Nat} (h : x ∈ l) : x ≤ l.sum := by
  obtain ⟨i, hi, rfl⟩ := List.getElem_of_mem h
  exact le_sum hi
end Mp
namespace Mp
theorem compL_encF {ds : List (Nat × List PVm)} {b : PVm → Sm → Resm (Option PVm)} {st : Sm} {α : Type} {l : List α} {enc : α → PVm} {f : α → Option PVm} (hd : depsOk ds st = true) :
    ∀ (l : List α) (acc : List PVm), (∀ a ∈ l, b (enc a) st = .ok (f a) st) → acc.length + l.length ≤ 16777216 → compL ds b (l.map enc) acc st = .ok (acc ++ l.filterMap f) st
  | [], acc, _, _ => by
    unfold compL
    simp [hd]
  | x :: xs, acc, hb, hl => by
    have e := hb x List.mem_cons_self
    have hb2 : ∀ y ∈ xs, b (enc y) st = .ok (f y) st := fun y hy => hb y (List.mem_cons_of_mem _ hy)
    simp only [List.length_cons] at hl
    rw [List.map_cons]
    unfold compL
    rw [if_pos hd, e, Resm.bind_ok]
    cases e : f x with
    | none =>
      simp only []
      rw [compL_encF (l := l) hd xs acc hb2 (by omega), List.filterMap_cons_none e]
    | some v =>
      simp only []
      rw [if_pos (by omega), compL_encF (l := l) hd xs _ hb2 (by simp; omega), List.filterMap_cons_some e]
      simp
theorem compL_enc {ds : List (Nat × List PVm)} {b : PVm → Sm → Resm (Option PVm)} {st : Sm} {α : Type} {enc : α → PVm} (g : α → PVm) (l : List α) (acc : List PVm) (hd : depsOk ds st = true)
    (hb : ∀ a ∈ l, b (enc a) st = .ok (some (g a)) st) (hl : acc.length + l.length ≤ 16777216) : compL ds b (l.map enc) acc st = .ok (acc ++ l.map g) st := by
  rw [compL_encF (l := l) (f := fun a => some (g a)) hd l acc hb hl]
  congr 2
  induction l with
  | nil => rfl
  | cons a l ih => simp
theorem compL_ens {ds : List (Nat × List PVm)} {b : PVm → Sm → Resm (Option PVm)} {st : Sm} (g : Nat → Nat) (l : List Nat) (acc : List PVm) (hd : depsOk ds st = true)
    (hb : ∀ a ∈ l, b (.int (a : Int)) st = .ok (some (.int ((g a : Nat) : Int))) st) (hl : acc.length + l.length ≤ 16777216) : compL ds b (ens l) acc st = .ok (acc ++ ens (l.map g)) st := by
  unfold ens
  rw [compL_enc (fun n : Nat => PVm.int ((g n : Nat) : Int)) l acc hd hb hl]
  simp
theorem mulOk_nat {a b : Nat} (ha : a < BIG) (hb : b < BIG) : mulOk (a : Int) (b : Int) = true := mulOk_big (by simpa using ha) (by simpa using hb)
end Mp
namespace Mp
theorem ens_set (l : List Nat) (i n : Nat) {v : Int} (h : v = n) : (ens l).set i (.int v) = ens (l.set i n) := by
  subst h
  simp [ens, List.map_set]
end Mp
namespace Mp
theorem compL_rng {ds : List (Nat × List PVm)} {b : PVm → Sm → Resm (Option PVm)} {st : Sm} (g : Nat → PVm) (lo : Int) (n : Nat) (acc : List PVm) (hd : depsOk ds st = true)
    (hb : ∀ k, k < n → b (.int (lo + (k : Int))) st = .ok (some (g k)) st) (hl : acc.length + n ≤ 16777216) : compL ds b (rngL lo n) acc st = .ok (acc ++ (List.range n).map g) st := by
  unfold rngL
  rw [compL_enc g (List.range n) acc hd (fun a ha => hb a (List.mem_range.mp ha)) (by simpa using hl)]
theorem atI_ensD {l : List Nat} {x : Nat} (h : x < l.length) : atI (ens l) (x : Int) = some (.int ((l.getD x 0 : Nat) : Int)) := by
  rw [atI_ens h]
  simp [h]
theorem ens_map {α : Type} (l : List α) (g : α → Nat) : l.map (fun k => PVm.int ((g k : Nat) : Int)) = ens (l.map g) := by simp [ens]
end Mp
namespace Mp
theorem csat_ite (c : Prop) [Decidable c] (a b : CRes) (Q : RVm → List Slotm → List MOm → Prop) (E : Exm → List Slotm → List MOm → Prop) : (if c then a else b).sat Q E ↔ (c → a.sat Q E) ∧ (¬ c → b.sat Q E) := by
  by_cases h : c <;> simp [h]
theorem getD_eq {l : List Nat} {x : Nat} (h : x < l.length) : l.getD x 0 = l[x] := by simp [h]
theorem getD_mem {l : List Nat} {x : Nat} (h : x < l.length) : l.getD x 0 ∈ l := by rw [getD_eq h]; exact List.getElem_mem h
end Mp

set_option linter.all false
set_option maxRecDepth 100000
/-! Mq6: loops over ranges and written lists. -/
namespace Mp
/-- what a turn owes -/
def Turn (nx : Sm → Prop) (Q : Flm → Sm → Prop) : Flm → Sm → Prop := fun fl st' => match fl with
      | .nx => nx st'
      | .cont => nx st'
      | .brk => Q .nx st'
      | .ret r => Q (.ret r) st'
@[simp] theorem turn_nx (nx : Sm → Prop) (Q : Flm → Sm → Prop) (st : Sm) : Turn nx Q .nx st = nx st := rfl
@[simp] theorem turn_cont (nx : Sm → Prop) (Q : Flm → Sm → Prop) (st : Sm) : Turn nx Q .cont st = nx st := rfl
@[simp] theorem turn_brk (nx : Sm → Prop) (Q : Flm → Sm → Prop) (st : Sm) : Turn nx Q .brk st = Q .nx st := rfl
@[simp] theorem turn_ret (nx : Sm → Prop) (Q : Flm → Sm → Prop) (r : RVm) (st : Sm) : Turn nx Q (.ret r) st = Q (.ret r) st := rfl
theorem forL_enc {ds : List (Nat × List PVm)} {b : PVm → Sm → Resm Flm} {α : Type} {enc : α → PVm} (I : List α → List α → Sm → Prop) {Q : Flm → Sm → Prop} {E : Exm → Sm → Prop}
    (dep : ∀ pre post st, I pre post st → depsOk ds st = true)
    (turn : ∀ pre x post st, I pre (x :: post) st → (b (enc x) st).sat (Turn (I (pre ++ [x]) post) Q) E)
    (fin : ∀ pre st, I pre [] st → Q .nx st) :
    ∀ (post pre : List α) (st : Sm), I pre post st → (forL ds b (post.map enc) st).sat Q E
  | [], pre, st, h => by
    rw [List.map_nil]
    unfold forL
    rw [if_pos (dep _ _ _ h)]
    exact fin _ _ h
  | x :: xs, pre, st, h => by
    rw [List.map_cons]
    unfold forL
    rw [if_pos (dep _ _ _ h), sat_bind]
    refine sat_mono (turn _ _ _ _ h) (fun fl st' z => ?_) (fun _ _ z => z)
    cases fl with
    | nx => exact forL_enc I dep turn fin xs _ st' z
    | cont => exact forL_enc I dep turn fin xs _ st' z
    | brk => exact z
    | ret r => exact z
theorem forL_rng {ds : List (Nat × List PVm)} {b : PVm → Sm → Resm Flm} {lo : Int} {n : Nat} (I : Nat → Sm → Prop) {Q : Flm → Sm → Prop} {E : Exm → Sm → Prop}
    (dep : ∀ i st, I i st → depsOk ds st = true)
    (turn : ∀ (i : Nat) st, i < n → I i st → (b (.int (lo + (i : Int))) st).sat (Turn (I (i + 1)) Q) E)
    (fin : ∀ st, I n st → Q .nx st) {st : Sm} (h : I 0 st) : (forL ds b (rngL lo n) st).sat Q E := by
  unfold rngL
  refine forL_enc (fun pre post st => pre ++ post = List.range n ∧ I pre.length st) (fun pre post st h => dep _ _ h.2) (fun pre x post st h => ?_) (fun pre st h => ?_) (List.range n) [] st ⟨rfl, h⟩
  · obtain ⟨h1, h2⟩ := h
    have hx : x = pre.length ∧ pre.length < n := by
      have e : (List.range n)[pre.length]? = some x := by rw [← h1]; simp
      obtain ⟨hl, e⟩ := List.getElem?_eq_some_iff.mp e
      simp at e hl
      exact ⟨e.symm, hl⟩
    obtain ⟨rfl, hn⟩ := hx
    refine sat_mono (turn _ st hn h2) (fun fl st' z => ?_) (fun _ _ z => z)
    cases fl with
    | nx => exact ⟨by rw [← h1]; simp, by simpa using z⟩
    | cont => exact ⟨by rw [← h1]; simp, by simpa using z⟩
    | brk => exact z
    | ret r => exact z
  · obtain ⟨h1, h2⟩ := h
    have : pre.length = n := by
      have := congrArg List.length h1
      simpa using this
    rw [this] at h2
    exact fin _ h2
theorem forL_ens {ds : List (Nat × List PVm)} {b : PVm → Sm → Resm Flm} (I : List Nat → List Nat → Sm → Prop) {Q : Flm → Sm → Prop} {E : Exm → Sm → Prop}
    (dep : ∀ pre post st, I pre post st → depsOk ds st = true)
    (turn : ∀ pre x post st, I pre (x :: post) st → (b (.int (x : Int)) st).sat (Turn (I (pre ++ [x]) post) Q) E)
    (fin : ∀ pre st, I pre [] st → Q .nx st) (post : List Nat) (st : Sm) (h : I [] post st) : (forL ds b (ens post) st).sat Q E :=
  forL_enc (enc := fun n : Nat => PVm.int (n : Int)) I dep turn fin post [] st h
theorem rep_one {α : Type} (k : Int) (x : α) : rep k [x] = List.replicate k.toNat x := by
  unfold rep
  induction k.toNat with
  | zero => rfl
  | succ n ih => rw [List.replicate_succ, List.flatten_cons, ih]; rfl
theorem repOk_of {k : Int} {n : Nat} (h : k ≤ 1000000) (hn : n * k.toNat ≤ 16777216) : -(2 ^ 63) ≤ k → repOk k n = true := by
  intro h0
  unfold repOk
  simp
  refine ⟨⟨?_, ?_⟩, hn⟩ <;> omega
theorem ens_rep (n x : Nat) : List.replicate n (PVm.int (x : Int)) = ens (List.replicate n x) := by simp [ens]
end Mp
namespace Mp
theorem cut_mem {α : Type} {l : List α} {a b : Option Int} {x : α} (h : x ∈ cut l a b) : x ∈ l := List.mem_of_mem_drop (List.mem_of_mem_take h)
theorem cutQ_len {α : Type} (l : List α) (a b : Option Int) : (cut l a b).length ≤ l.length := by
  unfold cut
  rw [List.length_take, List.length_drop]
  omega
theorem rep_mem {α : Type} {k : Int} {l : List α} {x : α} (h : x ∈ rep k l) : x ∈ l := by
  unfold rep at h
  obtain ⟨m, h1, h2⟩ := List.mem_flatten.mp h
  rw [List.eq_of_mem_replicate h1] at h2
  exact h2
end Mp
namespace Mp
theorem endD_iff {n : Nat} {A : List Nat} {r : Resm Flm} {Q : RVm → List Slotm → List MOm → Prop} {E : Exm → List Slotm → List MOm → Prop} :
    (endD n A r).sat Q E ↔ r.sat (fun fl st => (endD n A (.ok fl st)).sat Q E) (fun x st => (endD n A (.err x st)).sat Q E) := by
  cases r <;> exact Iff.rfl
end Mp

set_option linter.all false
set_option maxRecDepth 100000
/-! Mq7: dicts. -/
namespace Mp
section
variable (C : CallEnv) (st : Sm) (ma mb mc : Sm → Resm RVm)
@[simp] theorem ev_dnew (t : Bool) : ev C (.dnew t) = eDnew t := rfl
@[simp] theorem ev_dget (d k : CE) : ev C (.dget d k) = eDget (ev C d) (ev C k) := rfl
@[simp] theorem ev_din (n : Bool) (k d : CE) : ev C (.din n k d) = eDin n (ev C k) (ev C d) := rfl
@[simp] theorem ev_dget2 (d k x : CE) : ev C (.dget2 d k x) = eDget2 (ev C d) (ev C k) (ev C x) := rfl
@[simp] theorem evT_dget (d k : CE) : evT C (.dget d k) = tst (eDget (ev C d) (ev C k)) := rfl
@[simp] theorem evT_din (n : Bool) (k d : CE) : evT C (.din n k d) = tst (eDin n (ev C k) (ev C d)) := rfl
@[simp] theorem evT_dget2 (d k x : CE) : evT C (.dget2 d k x) = tst (eDget2 (ev C d) (ev C k) (ev C x)) := rfl
@[simp] theorem e_dnewK : eDnew false st = .ok (.own (.dic [])) st := rfl
@[simp] theorem e_dnewT : eDnew true st = .ok (.own (.dit [])) st := rfl
def dgetK (o : Option (Option PVm)) (st : Sm) : Resm RVm := match o with
  | some (some v) => .ok (.val v) st
  | _ => .stuck
@[simp] theorem dgetK_some (v : PVm) : dgetK (some (some v)) st = .ok (.val v) st := rfl
@[simp] theorem e_dget : eDget ma mb st = (ma st).bd fun x st => (mb st).bd fun y st => dgetK (dAt (look x st) (look y st)) st := rfl
def dinK (n : Bool) (o : Option (Option PVm)) (st : Sm) : Resm RVm := match o with
  | some o => .ok (.val (.bl (o.isSome != n))) st
  | _ => .stuck
@[simp] theorem dinK_some (n : Bool) (o : Option PVm) : dinK n (some o) st = .ok (.val (.bl (o.isSome != n))) st := rfl
@[simp] theorem e_din (n : Bool) : eDin n ma mb st = (ma st).bd fun y st => (mb st).bd fun x st => dinK n (dAt (look x st) (look y st)) st := rfl
def dget2K (o : Option (Option PVm)) (r3 : RVm) (st : Sm) : Resm RVm := match o, r3 with
  | some o, .val p => .ok (.val (o.getD p)) st
  | _, _ => .stuck
@[simp] theorem dget2K_some (o : Option PVm) (p : PVm) : dget2K (some o) (.val p) st = .ok (.val (o.getD p)) st := rfl
def dget2J (mb mc : Sm → Resm RVm) (r1 : RVm) (b : Bool) (st : Sm) : Resm RVm := if b = true then (mb st).bd fun y st => (mc st).bd fun z st => dget2K (dAt (look r1 st) (look y st)) z st else .stuck
@[simp] theorem dget2J_true (r1 : RVm) : dget2J mb mc r1 true st = (mb st).bd fun y st => (mc st).bd fun z st => dget2K (dAt (look r1 st) (look y st)) z st := rfl
@[simp] theorem isDic_dic (l : List (PVm × PVm)) : isDic (some (.m (.dic l))) = true := rfl
@[simp] theorem isDic_dit (l : List (PVm × PVm)) : isDic (some (.m (.dit l))) = true := rfl
@[simp] theorem e_dget2 : eDget2 ma mb mc st = (ma st).bd fun r1 st => dget2J mb mc r1 (isDic (look r1 st)) st := by
  rfl
@[simp] theorem dAt_dic (l : List (PVm × PVm)) (k : PVm) : dAt (some (.m (.dic l))) (some (.p k)) = if keyK k then some (dLook l k) else none := rfl
@[simp] theorem dAt_dit (l : List (PVm × PVm)) (k : PVm) : dAt (some (.m (.dit l))) (some (.p k)) = if keyT k then some (dLook l k) else none := rfl
def dputJ (x : RVm) (o : Option MOm) (st : Sm) : Resm Flm := match o with
  | some o => bndK (putO x o st)
  | none => .stuck
@[simp] theorem dputJ_some (x : RVm) (o : MOm) : dputJ x (some o) st = bndK (putO x o st) := rfl
@[simp] theorem x_dput (d k e : CE) : exec C (.dput d k e) st = (ev C e st).bd fun v st => (ev C d st).bd fun x st => (ev C k st).bd fun y st => (fixR v st).bd fun v st => dputJ x (dSet (look x st) (look y st) v) st := rfl
@[simp] theorem dSet_dic (l : List (PVm × PVm)) (k v : PVm) : dSet (some (.m (.dic l))) (some (.p k)) v = if (keyK k && decide (l.length < 16777216)) = true then some (.dic (dPut l k v)) else none := rfl
@[simp] theorem dSet_dit (l : List (PVm × PVm)) (k v : PVm) : dSet (some (.m (.dit l))) (some (.p k)) v = if (keyT k && decide (l.length < 16777216)) = true then some (.dit (dPut l k v)) else none := rfl
end
/-! look behind put -/
theorem dLook_put (l : List (PVm × PVm)) (k k' v : PVm) : dLook (dPut l k v) k' = if k = k' then some v else dLook l k' := by
  have ap : ∀ (l : List (PVm × PVm)), (l.any fun q => decide (q.1 = k)) = false → dLook (l ++ [(k, v)]) k' = if k = k' then some v else dLook l k' := by
    intro l
    induction l with
    | nil =>
      intro _
      by_cases e : k = k' <;> simp [dLook, e]
    | cons q l ih =>
      intro h
      rw [List.any_cons, Bool.or_eq_false_iff, decide_eq_false_iff_not] at h
      have ih := ih h.2
      unfold dLook at ih ⊢
      rw [List.cons_append, List.find?_cons, List.find?_cons]
      by_cases e2 : q.1 = k'
      · have : ¬ k = k' := fun z => h.1 (by rw [e2, z])
        simp [e2, this]
      · simp only [e2, decide_false]
        exact ih
  have mp : ∀ (l : List (PVm × PVm)), (l.any fun q => decide (q.1 = k)) = true → dLook (l.map fun q => if q.1 = k then (q.1, v) else q) k' = if k = k' then some v else dLook l k' := by
    intro l
    induction l with
    | nil => intro h; cases h
    | cons q l ih =>
      intro h
      unfold dLook at ih ⊢
      rw [List.map_cons, List.find?_cons, List.find?_cons]
      by_cases e1 : q.1 = k
      · by_cases e : k = k'
        · simp [e1, e]
        · have e3 : ¬ q.1 = k' := by rw [e1]; exact e
          simp only [e1, if_true, e, decide_false, if_false]
          by_cases h2 : (l.any fun q => decide (q.1 = k)) = true
          · rw [ih h2, if_neg e]
          · have : (l.map fun q => if q.1 = k then (q.1, v) else q) = l := by
              rw [List.map_congr_left (g := id)]
              · simp
              · intro a ha
                have : ¬ a.1 = k := fun z => h2 (List.any_eq_true.mpr ⟨a, ha, by simp [z]⟩)
                simp [this]
            rw [this]
      · have h2 : (l.any fun q => decide (q.1 = k)) = true := by
          rw [List.any_cons] at h
          simpa [e1] using h
        have ih := ih h2
        simp only [e1, if_false]
        by_cases e2 : q.1 = k'
        · have : ¬ k = k' := fun z => e1 (by rw [e2, z])
          simp [e2, this]
        · simp only [e2, decide_false]
          exact ih
  unfold dPut
  split
  · rename_i h; exact mp l h
  · rename_i h; exact ap l (Bool.eq_false_iff.mpr h)
theorem dPut_len (l : List (PVm × PVm)) (k v : PVm) : (dPut l k v).length ≤ l.length + 1 := by
  unfold dPut
  split <;> simp
end Mp

set_option linter.all false
set_option maxRecDepth 100000
/-! K01d: the defs of law k01 in the small language (printed by gen.py). -/
namespace K01
open Mp
def b_is_text_2 : CSs := (.cons (.ret (.cst (.bl true)))
  .nil)
def l_is_text_1 : CSs := (.cons (.ite (.or (.not (.chain .le .le (.cst (.int 32)) (.bi .ord (.cons (.var 1) .nil)) (.cst (.int 126)))) (.cmp .eq (.bi .ord (.cons (.var 1) .nil)) (.cst (.int 37)))) (.cons (.ret (.cst (.bl false)))
  .nil) .nil)
  .nil)
def b_is_text_1 : CSs := (.cons (.loop (.v 1) (.seq (.var 0)) l_is_text_1)
  b_is_text_2)
def b_is_text_0 : CSs := (.cons (.ite (.not (.bi (.isi .str) (.cons (.var 0) .nil))) (.cons (.ret (.cst (.bl false)))
  .nil) .nil)
  b_is_text_1)
def d_is_text : Defm := ⟨1, 1, b_is_text_0⟩
def d_is_number : Defm := ⟨1, 0, (.cons (.ret (.and (.bi (.isi .int) (.cons (.var 0) .nil)) (.and (.not (.bi (.isi .bool) (.cons (.var 0) .nil))) (.cmp .ge (.var 0) (.cst (.int 0))))))
  .nil)⟩
def b_inner_texts_2 : CSs := (.cons (.ret (.bi .tuple (.cons (.srt 0 [105, 110, 110, 101, 114, 95, 116, 101, 120, 116, 115] (.bi .list (.cons (.var 1) .nil))) .nil)))
  .nil)
def l_inner_texts_2 : CSs := (.cons (.dput (.var 1) (.slc (.var 2) (.cst .non) (.var 3)) (.cst (.bl true)))
  .nil)
def l_inner_texts_1 : CSs := (.cons (.loop (.v 3) (.rng (.cons (.bi .len (.cons (.var 2) .nil)) .nil)) l_inner_texts_2)
  .nil)
def b_inner_texts_1 : CSs := (.cons (.loop (.v 2) (.seq (.var 0)) l_inner_texts_1)
  b_inner_texts_2)
def b_inner_texts_0 : CSs := (.cons (.asg (.v 1) (.dnew false))
  b_inner_texts_1)
def d_inner_texts : Defm := ⟨1, 3, b_inner_texts_0⟩
def d_a_ask_text : Defm := ⟨1, 0, (.cons (.ite (.or (.not (.call 0 (.cons (.var 0) .nil) [0])) (.cmp .gt (.bi .len (.cons (.var 0) .nil)) (.cst (.int 1200)))) (.cons (.raise 0 (.cons (.cst (.str [116, 101, 120, 116])) .nil))
  .nil) .nil)
  .nil)⟩
def b_token_number_2 : CSs := (.cons (.ret (.neg (.cst (.int 1))))
  .nil)
def l_token_number_1 : CSs := (.cons (.ite (.cmp .eq (.var 3) (.var 1)) (.cons (.ret (.var 2))
  .nil) .nil)
  .nil)
def b_token_number_1 : CSs := (.cons (.loop (.t [(.v 2), (.v 3)]) (.enum (.cons (.var 0) .nil)) l_token_number_1)
  b_token_number_2)
def b_token_number_0 : CSs := (.cons (.expr (.call 3 (.cons (.var 1) .nil) [0]))
  b_token_number_1)
def d_token_number : Defm := ⟨2, 2, b_token_number_0⟩
def b_is_row_2 : CSs := (.cons (.ret (.cst (.bl true)))
  .nil)
def l_is_row_1 : CSs := (.cons (.ite (.or (.not (.call 1 (.cons (.var 2) .nil) [0])) (.cmp .ge (.var 2) (.bi .len (.cons (.var 0) .nil)))) (.cons (.ret (.cst (.bl false)))
  .nil) .nil)
  .nil)
def b_is_row_1 : CSs := (.cons (.loop (.v 2) (.seq (.var 1)) l_is_row_1)
  b_is_row_2)
def b_is_row_0 : CSs := (.cons (.ite (.not (.bi (.isi .tuple) (.cons (.var 1) .nil))) (.cons (.ret (.cst (.bl false)))
  .nil) .nil)
  b_is_row_1)
def d_is_row : Defm := ⟨2, 1, b_is_row_0⟩
def b_a_ask_row_0 : CSs := (.cons (.ite (.or (.not (.call 5 (.cons (.var 0) (.cons (.var 1) .nil)) [0, 1])) (.cmp .gt (.bi .len (.cons (.var 1) .nil)) (.cst (.int 60)))) (.cons (.raise 0 (.cons (.cst (.str [114, 111, 119])) .nil))
  .nil) .nil)
  .nil)
def d_a_ask_row : Defm := ⟨2, 0, b_a_ask_row_0⟩
def b_row_text_1 : CSs := (.cons (.ret (.meth .join (.cst (.str [])) (.cons (.comp (.idx (.var 0) (.var 2)) (.v 2) (.seq (.var 1)) (.cst (.bl true)) [2]) .nil)))
  .nil)
def b_row_text_0 : CSs := (.cons (.expr (.call 6 (.cons (.var 0) (.cons (.var 1) .nil)) [0, 1]))
  b_row_text_1)
def d_row_text : Defm := ⟨2, 1, b_row_text_0⟩
def b_law_pool_3 : CSs := (.cons (.ret (.var 2))
  .nil)
def l_law_pool_1 : CSs := (.cons (.asg (.v 4) (.bi .int (.cons (.var 3) .nil)))
  (.cons (.asg (.v 5) (.ite (.cmp .ge (.var 4) (.cst (.int 0))) (.var 4) (.bin .sub (.cst (.int 3)) (.bin .mul (.cst (.int 2)) (.var 4)))))
  (.cons (.setI (.var 2) (.cst (.int 0)) (.bin .mod (.bi .int (.cons (.bin .add (.bin .add (.bin .mul (.idx (.var 2) (.cst (.int 0))) (.cst (.int 5038849))) (.bin .mul (.var 5) (.cst (.int 86243)))) (.cst (.int 4421))) .nil)) (.cst (.int 2305843009213693951))))
  (.cons (.ite (.cmp .ge (.var 5) (.bin .pow (.cst (.int 10)) (.cst (.int 18)))) (.cons (.expr (.meth .append (.var 2) (.cons (.bin .mod (.bi .int (.cons (.var 5) .nil)) (.var 1)) .nil)))
  .nil) .nil)
  .nil))))
def b_law_pool_2 : CSs := (.cons (.loop (.v 3) (.seq (.var 0)) l_law_pool_1)
  b_law_pool_3)
def b_law_pool_1 : CSs := (.cons (.asg (.v 2) (.lst (.cons (.cst (.int 0)) .nil)))
  b_law_pool_2)
def b_law_pool_0 : CSs := (.cons (.asg (.v 1) (.bin .mul (.bin .mul (.bin .mul (.bin .pow (.cst (.int 10)) (.cst (.int 60))) (.bin .pow (.cst (.int 10)) (.cst (.int 60)))) (.bin .pow (.cst (.int 10)) (.cst (.int 60)))) (.bin .pow (.cst (.int 10)) (.cst (.int 60)))))
  b_law_pool_1)
def d_law_pool : Defm := ⟨1, 5, b_law_pool_0⟩
def b_law_pick_3 : CSs := (.cons (.ret (.bin .mod (.bi .int (.cons (.bin .fdiv (.idx (.var 0) (.cst (.int 0))) (.cst (.int 32771))) .nil)) (.var 1)))
  .nil)
def b_law_pick_2 : CSs := (.cons (.setI (.var 0) (.cst (.int 0)) (.bin .mod (.bi .int (.cons (.bin .mul (.idx (.var 0) (.cst (.int 0))) (.cst (.int 69621))) .nil)) (.cst (.int 2305843009213693951))))
  b_law_pick_3)
def b_law_pick_1 : CSs := (.cons (.ite (.cmp .gt (.bi .len (.cons (.var 0) .nil)) (.cst (.int 1))) (.cons (.asg (.v 2) (.bi .int (.cons (.idx (.var 0) (.neg (.cst (.int 1)))) .nil)))
  (.cons (.setI (.var 0) (.neg (.cst (.int 1))) (.bin .fdiv (.var 2) (.var 1)))
  (.cons (.ret (.bin .mod (.var 2) (.var 1)))
  .nil))) .nil)
  b_law_pick_2)
def b_law_pick_0 : CSs := (.cons (.ite (.and (.cmp .gt (.bi .len (.cons (.var 0) .nil)) (.cst (.int 1))) (.cmp .eq (.idx (.var 0) (.neg (.cst (.int 1)))) (.cst (.int 0)))) (.cons (.expr (.meth .pop (.var 0) .nil))
  .nil) .nil)
  b_law_pick_1)
def d_law_pick : Defm := ⟨2, 1, b_law_pick_0⟩
def d_law_all : Defm := ⟨0, 0, (.cons (.ret (.cst (.str [32, 33, 34, 35, 36, 38, 39, 40, 41, 42, 43, 44, 45, 46, 47, 48, 49, 50, 51, 52, 53, 54, 55, 56, 57, 58, 59, 60, 61, 62, 63, 64, 65, 66, 67, 68, 69, 70, 71, 72, 73, 74, 75, 76, 77, 78, 79, 80, 81, 82, 83, 84, 85, 86, 87, 88, 89, 90, 91, 92, 93, 94, 95, 96, 97, 98, 99, 100, 101, 102, 103, 104, 105, 106, 107, 108, 109, 110, 111, 112, 113, 114, 115, 116, 117, 118, 119, 120, 121, 122, 123, 124, 125, 126])))
  .nil)⟩
def b_law_same_6 : CSs := (.cons (.ret (.cst (.bl true)))
  .nil)
def l_law_same_1 : CSs := (.cons (.ite (.not (.call 11 (.cons (.var 2) (.cons (.var 3) .nil)) [0, 1])) (.cons (.ret (.cst (.bl false)))
  .nil) .nil)
  .nil)
def b_law_same_5 : CSs := (.cons (.loop (.t [(.v 2), (.v 3)]) (.zip (.cons (.var 0) (.cons (.var 1) .nil))) l_law_same_1)
  b_law_same_6)
def b_law_same_4 : CSs := (.cons (.ite (.bi (.isi .tuple) (.cons (.var 1) .nil)) (.cons (.ite (.or (.not (.bi (.isi .tuple) (.cons (.var 0) .nil))) (.cmp .ne (.bi .len (.cons (.var 0) .nil)) (.bi .len (.cons (.var 1) .nil)))) (.cons (.ret (.cst (.bl false)))
  .nil) .nil)
  .nil) (.cons (.ite (.or (.not (.bi (.isi .list) (.cons (.var 0) .nil))) (.cmp .ne (.bi .len (.cons (.var 0) .nil)) (.bi .len (.cons (.var 1) .nil)))) (.cons (.ret (.cst (.bl false)))
  .nil) .nil)
  .nil))
  b_law_same_5)
def b_law_same_3 : CSs := (.cons (.ite (.bi (.isi .str) (.cons (.var 1) .nil)) (.cons (.ret (.and (.bi (.isi .str) (.cons (.var 0) .nil)) (.cmp .eq (.var 0) (.var 1))))
  .nil) .nil)
  b_law_same_4)
def b_law_same_2 : CSs := (.cons (.ite (.bi (.isi .int) (.cons (.var 1) .nil)) (.cons (.ret (.and (.bi (.isi .int) (.cons (.var 0) .nil)) (.and (.not (.bi (.isi .bool) (.cons (.var 0) .nil))) (.cmp .eq (.var 0) (.var 1)))))
  .nil) .nil)
  b_law_same_3)
def b_law_same_1 : CSs := (.cons (.ite (.bi (.isi .bool) (.cons (.var 1) .nil)) (.cons (.ret (.and (.bi (.isi .bool) (.cons (.var 0) .nil)) (.cmp .eq (.var 0) (.var 1))))
  .nil) .nil)
  b_law_same_2)
def b_law_same_0 : CSs := (.cons (.ite (.cmp .isN (.var 1) (.cst .non)) (.cons (.ret (.cmp .isN (.var 0) (.cst .non)))
  .nil) .nil)
  b_law_same_1)
def d_law_same : Defm := ⟨2, 2, b_law_same_0⟩
def b_law_word_2 : CSs := (.cons (.ret (.var 3))
  .nil)
def l_law_word_1 : CSs := (.cons (.asg (.v 3) (.bin .add (.var 3) (.idx (.var 1) (.call 9 (.cons (.var 0) (.cons (.bi .len (.cons (.var 1) .nil)) .nil)) [0, 1]))))
  .nil)
def b_law_word_1 : CSs := (.cons (.loop (.v 4) (.rng (.cons (.bin .add (.cst (.int 1)) (.call 9 (.cons (.var 0) (.cons (.var 2) .nil)) [0, 1])) .nil)) l_law_word_1)
  b_law_word_2)
def b_law_word_0 : CSs := (.cons (.asg (.v 3) (.cst (.str [])))
  b_law_word_1)
def d_law_word : Defm := ⟨3, 2, b_law_word_0⟩
def b_law_tokens_2 : CSs := (.cons (.ret (.bi .tuple (.cons (.var 4) .nil)))
  .nil)
def l_law_tokens_2 : CSs := (.cons (.ite (.cmp .isin (.var 6) (.var 4)) (.cons (.asg (.v 6) (.bin .add (.var 6) (.idx (.var 2) (.bin .sub (.var 7) (.bin .mul (.bin .fdiv (.var 7) (.bi .len (.cons (.var 2) .nil))) (.bi .len (.cons (.var 2) .nil)))))))
  .nil) .nil)
  .nil)
def l_law_tokens_1 : CSs := (.cons (.asg (.v 6) (.call 12 (.cons (.var 0) (.cons (.var 2) (.cons (.var 3) .nil))) [0, 1, 2]))
  (.cons (.loop (.v 7) (.rng (.cons (.var 1) .nil)) l_law_tokens_2)
  (.cons (.expr (.meth .append (.var 4) (.cons (.var 6) .nil)))
  .nil)))
def b_law_tokens_1 : CSs := (.cons (.loop (.v 5) (.rng (.cons (.var 1) .nil)) l_law_tokens_1)
  b_law_tokens_2)
def b_law_tokens_0 : CSs := (.cons (.asg (.v 4) (.lst .nil))
  b_law_tokens_1)
def d_law_tokens : Defm := ⟨4, 4, b_law_tokens_0⟩
def b_law_drawn_tokens_10 : CSs := (.cons (.ret (.var 6))
  .nil)
def b_law_drawn_tokens_9 : CSs := (.cons (.ite (.cmp .eq (.var 5) (.cst (.int 10))) (.cons (.asg (.v 7) (.bin .add (.bin .mul (.idx (.var 4) (.cst (.int 0))) (.cst (.int 11))) (.idx (.var 4) (.neg (.cst (.int 1))))))
  (.cons (.ite (.cmp .notin (.var 7) (.var 6)) (.cons (.asg (.v 6) (.bin .add (.tup (.cons (.var 7) .nil)) (.var 6)))
  .nil) .nil)
  .nil)) .nil)
  b_law_drawn_tokens_10)
def b_law_drawn_tokens_8 : CSs := (.cons (.asg (.v 6) (.call 13 (.cons (.var 0) (.cons (.bin .add (.cst (.int 1)) (.call 9 (.cons (.var 0) (.cons (.cst (.int 6)) .nil)) [0, 1])) (.cons (.var 4) (.cons (.ite (.cmp .eq (.var 5) (.cst (.int 8))) (.cst (.int 6)) (.cst (.int 3))) .nil)))) [0, 1, 2, 3]))
  b_law_drawn_tokens_9)
def b_law_drawn_tokens_7 : CSs := (.cons (.ite (.cmp .eq (.var 5) (.cst (.int 9))) (.cons (.ret (.bi .tuple (.cons (.comp (.bin .add (.idx (.var 1) (.bin .add (.bin .fdiv (.var 8) (.cst (.int 12))) (.cst (.int 3)))) (.idx (.var 1) (.bin .add (.bin .mod (.bi .int (.cons (.var 8) .nil)) (.cst (.int 12))) (.cst (.int 40))))) (.v 8) (.rng (.cons (.cst (.int 120)) .nil)) (.cst (.bl true)) [8]) .nil)))
  .nil) .nil)
  b_law_drawn_tokens_8)
def b_law_drawn_tokens_6 : CSs := (.cons (.asg (.v 5) (.call 9 (.cons (.var 0) (.cons (.cst (.int 16)) .nil)) [0, 1]))
  b_law_drawn_tokens_7)
def b_law_drawn_tokens_5 : CSs := (.cons (.ite (.cmp .eq (.var 2) (.cst (.int 3))) (.cons (.asg (.v 4) (.idx (.var 1) (.var 3)))
  .nil) .nil)
  b_law_drawn_tokens_6)
def b_law_drawn_tokens_4 : CSs := (.cons (.ite (.cmp .eq (.var 2) (.cst (.int 2))) (.cons (.asg (.v 4) (.var 1))
  .nil) .nil)
  b_law_drawn_tokens_5)
def b_law_drawn_tokens_3 : CSs := (.cons (.asg (.v 4) (.slc (.var 1) (.var 3) (.bin .add (.var 3) (.cst (.int 2)))))
  b_law_drawn_tokens_4)
def b_law_drawn_tokens_2 : CSs := (.cons (.asg (.v 3) (.call 9 (.cons (.var 0) (.cons (.cst (.int 92)) .nil)) [0, 1]))
  b_law_drawn_tokens_3)
def b_law_drawn_tokens_1 : CSs := (.cons (.asg (.v 2) (.call 9 (.cons (.var 0) (.cons (.cst (.int 4)) .nil)) [0, 1]))
  b_law_drawn_tokens_2)
def b_law_drawn_tokens_0 : CSs := (.cons (.asg (.v 1) (.call 10 .nil []))
  b_law_drawn_tokens_1)
def d_law_drawn_tokens : Defm := ⟨1, 8, b_law_drawn_tokens_0⟩
def b_law_inner_2 : CSs := (.cons (.ret (.bi .tuple (.cons (.var 1) .nil)))
  .nil)
def l_law_inner_2 : CSs := (.cons (.ite (.and (.cmp .gt (.bi .len (.cons (.var 4) .nil)) (.var 2)) (.cmp .notin (.slc (.var 4) (.cst .non) (.var 2)) (.var 3))) (.cons (.expr (.meth .append (.var 3) (.cons (.slc (.var 4) (.cst .non) (.var 2)) .nil)))
  .nil) .nil)
  .nil)
def l_law_inner_1 : CSs := (.cons (.asg (.v 3) (.lst .nil))
  (.cons (.loop (.v 4) (.seq (.var 0)) l_law_inner_2)
  (.cons (.expr (.meth .extend (.var 1) (.cons (.bi .sorted (.cons (.var 3) .nil)) .nil)))
  .nil)))
def b_law_inner_1 : CSs := (.cons (.loop (.v 2) (.rng (.cons (.cst (.int 12)) .nil)) l_law_inner_1)
  b_law_inner_2)
def b_law_inner_0 : CSs := (.cons (.asg (.v 1) (.lst .nil))
  b_law_inner_1)
def d_law_inner : Defm := ⟨1, 4, b_law_inner_0⟩
def b_law_number_2 : CSs := (.cons (.ret (.var 2))
  .nil)
def l_law_number_1 : CSs := (.cons (.ite (.cmp .eq (.idx (.var 0) (.var 3)) (.var 1)) (.cons (.asg (.v 2) (.var 3))
  .nil) .nil)
  .nil)
def b_law_number_1 : CSs := (.cons (.loop (.v 3) (.rng (.cons (.bi .len (.cons (.var 0) .nil)) .nil)) l_law_number_1)
  b_law_number_2)
def b_law_number_0 : CSs := (.cons (.asg (.v 2) (.neg (.cst (.int 1))))
  b_law_number_1)
def d_law_number : Defm := ⟨2, 2, b_law_number_0⟩
def d_law_number_told : Defm := ⟨3, 1, (.cons (.tr (.cons (.ite (.var 2) (.cons (.ret (.call 4 (.cons (.var 1) (.cons (.var 0) .nil)) [1, 0]))
  .nil) .nil)
  (.cons (.ret (.call 4 (.cons (.var 0) (.cons (.var 1) .nil)) [0, 1]))
  .nil)) 0 3 1 [.cst (.str [114, 101, 102, 117, 115, 101, 100]), .fld 0])
  .nil)⟩
def d_law_text_told : Defm := ⟨3, 1, (.cons (.tr (.cons (.ite (.var 2) (.cons (.ret (.call 7 (.cons (.var 1) (.cons (.var 0) .nil)) [1, 0]))
  .nil) .nil)
  (.cons (.ret (.call 7 (.cons (.var 0) (.cons (.var 1) .nil)) [0, 1]))
  .nil)) 0 3 1 [.cst (.str [114, 101, 102, 117, 115, 101, 100]), .fld 0])
  .nil)⟩
def b_law_letters_2 : CSs := (.cons (.ret (.var 2))
  .nil)
def l_law_letters_2 : CSs := (.cons (.asg (.v 2) (.bin .add (.var 2) (.var 4)))
  .nil)
def l_law_letters_1 : CSs := (.cons (.loop (.v 4) (.seq (.idx (.var 0) (.var 3))) l_law_letters_2)
  .nil)
def b_law_letters_1 : CSs := (.cons (.loop (.v 3) (.seq (.var 1)) l_law_letters_1)
  b_law_letters_2)
def b_law_letters_0 : CSs := (.cons (.asg (.v 2) (.cst (.str [])))
  b_law_letters_1)
def d_law_letters : Defm := ⟨2, 3, b_law_letters_0⟩
def b_law_rows_3 : CSs := (.cons (.ret (.var 2))
  .nil)
def l_law_rows_3 : CSs := (.cons (.expr (.meth .append (.var 5) (.cons (.bin .add (.var 6) (.tup (.cons (.var 7) .nil))) .nil)))
  .nil)
def l_law_rows_2 : CSs := (.cons (.loop (.v 7) (.rng (.cons (.var 0) .nil)) l_law_rows_3)
  .nil)
def l_law_rows_1 : CSs := (.cons (.asg (.v 5) (.lst .nil))
  (.cons (.loop (.v 6) (.seq (.var 3)) l_law_rows_2)
  (.cons (.expr (.meth .extend (.var 2) (.cons (.var 5) .nil)))
  (.cons (.asg (.v 3) (.var 5))
  .nil))))
def b_law_rows_2 : CSs := (.cons (.loop (.v 4) (.rng (.cons (.var 1) .nil)) l_law_rows_1)
  b_law_rows_3)
def b_law_rows_1 : CSs := (.cons (.asg (.v 3) (.lst (.cons (.tup .nil) .nil)))
  b_law_rows_2)
def b_law_rows_0 : CSs := (.cons (.asg (.v 2) (.lst (.cons (.tup .nil) .nil)))
  b_law_rows_1)
def d_law_rows : Defm := ⟨2, 6, b_law_rows_0⟩
def b_law_texts_right_9 : CSs := (.cons (.ret (.cst (.bl true)))
  .nil)
def l_law_texts_right_1 : CSs := (.cons (.asg (.v 9) (.idx (.var 7) (.call 9 (.cons (.var 0) (.cons (.cst (.int 8)) .nil)) [0, 1])))
  (.cons (.ite (.not (.call 11 (.cons (.call 17 (.cons (.var 1) (.cons (.var 9) (.cons (.cmp .eq (.var 8) (.cst (.int 1))) .nil))) [0, 1, 2]) (.cons (.lst (.cons (.cst (.str [114, 101, 102, 117, 115, 101, 100])) (.cons (.cst (.str [116, 101, 120, 116])) .nil))) .nil)) [0, 1])) (.cons (.ret (.cst (.bl false)))
  .nil) .nil)
  .nil))
def b_law_texts_right_8 : CSs := (.cons (.loop (.v 8) (.rng (.cons (.cst (.int 3)) .nil)) l_law_texts_right_1)
  b_law_texts_right_9)
def b_law_texts_right_7 : CSs := (.cons (.asg (.v 7) (.lst (.cons (.bin .mul (.idx (.idx (.var 1) (.cst (.int 0))) (.cst (.int 0))) (.cst (.int 1201))) (.cons (.cst .non) (.cons (.cst (.bl true)) (.cons (.cst (.int 0)) (.cons (.lst (.cons (.idx (.var 1) (.cst (.int 0))) .nil)) (.cons (.tup (.cons (.idx (.var 1) (.cst (.int 0))) .nil)) (.cons (.neg (.cst (.int 1))) (.cons (.tup .nil) .nil))))))))))
  b_law_texts_right_8)
def b_law_texts_right_6 : CSs := (.cons (.ite (.not (.call 11 (.cons (.call 17 (.cons (.var 1) (.cons (.bin .mul (.idx (.idx (.var 1) (.cst (.int 0))) (.cst (.int 0))) (.cst (.int 1200))) (.cons (.cst (.bl false)) .nil))) [0, 1, 2]) (.cons (.neg (.cst (.int 1))) .nil)) [0, 1])) (.cons (.ret (.cst (.bl false)))
  .nil) .nil)
  b_law_texts_right_7)
def b_law_texts_right_5 : CSs := (.cons (.ite (.not (.call 11 (.cons (.call 17 (.cons (.var 1) (.cons (.idx (.var 1) (.var 6)) (.cons (.cst (.bl true)) .nil))) [0, 1, 2]) (.cons (.var 6) .nil)) [0, 1])) (.cons (.ret (.cst (.bl false)))
  .nil) .nil)
  b_law_texts_right_6)
def b_law_texts_right_4 : CSs := (.cons (.asg (.v 6) (.bin .sub (.bi .len (.cons (.var 1) .nil)) (.cst (.int 1))))
  b_law_texts_right_5)
def l_law_texts_right_2 : CSs := (.cons (.ite (.not (.call 11 (.cons (.call 17 (.cons (.var 1) (.cons (.var 5) (.cons (.cst (.bl false)) .nil))) [0, 1, 2]) (.cons (.call 16 (.cons (.var 1) (.cons (.var 5) .nil)) [0, 1]) .nil)) [0, 1])) (.cons (.ret (.cst (.bl false)))
  .nil) .nil)
  .nil)
def b_law_texts_right_3 : CSs := (.cons (.loop (.v 5) (.seq (.var 3)) l_law_texts_right_2)
  b_law_texts_right_4)
def l_law_texts_right_3 : CSs := (.cons (.expr (.meth .append (.var 3) (.cons (.bin .add (.var 4) (.idx (.var 4) (.cst (.int 0)))) .nil)))
  (.cons (.expr (.meth .append (.var 3) (.cons (.slc (.var 4) (.cst (.int 1)) (.cst .non)) .nil)))
  .nil))
def b_law_texts_right_2 : CSs := (.cons (.loop (.v 4) (.seq (.slc (.var 1) (.cst .non) (.cst (.int 6)))) l_law_texts_right_3)
  b_law_texts_right_3)
def b_law_texts_right_1 : CSs := (.cons (.asg (.v 3) (.bin .add (.bin .add (.bin .add (.lst (.cons (.cst (.str [])) .nil)) (.bi .list (.cons (.slc (.var 1) (.cst .non) (.cst (.int 8))) .nil))) (.bi .list (.cons (.slc (.var 2) (.cst .non) (.cst (.int 12))) .nil))) (.lst (.cons (.call 12 (.cons (.var 0) (.cons (.call 10 .nil []) (.cons (.cst (.int 3)) .nil))) [0, 1, 2]) .nil))))
  b_law_texts_right_2)
def b_law_texts_right_0 : CSs := (.cons (.asg (.v 2) (.call 15 (.cons (.var 1) .nil) [0]))
  b_law_texts_right_1)
def d_law_texts_right : Defm := ⟨2, 8, b_law_texts_right_0⟩
def b_law_rows_right_10 : CSs := (.cons (.ret (.call 11 (.cons (.var 8) (.cons (.bi .list (.cons (.var 4) .nil)) .nil)) [0, 1]))
  .nil)
def b_law_rows_right_9 : CSs := (.cons (.ite (.not (.call 11 (.cons (.call 18 (.cons (.var 1) (.cons (.var 8) (.cons (.cst (.bl false)) .nil))) [0, 1, 2]) (.cons (.lst (.cons (.cst (.str [114, 101, 102, 117, 115, 101, 100])) (.cons (.cst (.str [114, 111, 119])) .nil))) .nil)) [0, 1])) (.cons (.ret (.cst (.bl false)))
  .nil) .nil)
  b_law_rows_right_10)
def b_law_rows_right_8 : CSs := (.cons (.asg (.v 8) (.bi .list (.cons (.var 4) .nil)))
  b_law_rows_right_9)
def l_law_rows_right_1 : CSs := (.cons (.asg (.v 9) (.idx (.var 6) (.call 9 (.cons (.var 0) (.cons (.cst (.int 14)) .nil)) [0, 1])))
  (.cons (.ite (.not (.call 11 (.cons (.call 18 (.cons (.var 1) (.cons (.var 9) (.cons (.cmp .eq (.var 7) (.cst (.int 2))) .nil))) [0, 1, 2]) (.cons (.lst (.cons (.cst (.str [114, 101, 102, 117, 115, 101, 100])) (.cons (.cst (.str [114, 111, 119])) .nil))) .nil)) [0, 1])) (.cons (.ret (.cst (.bl false)))
  .nil) .nil)
  .nil))
def b_law_rows_right_7 : CSs := (.cons (.loop (.v 7) (.rng (.cons (.cst (.int 4)) .nil)) l_law_rows_right_1)
  b_law_rows_right_8)
def b_law_rows_right_6 : CSs := (.cons (.asg (.v 6) (.lst (.cons (.slc (.bin .mul (.var 4) (.cst (.int 61))) (.cst .non) (.cst (.int 61))) (.cons (.bi .list (.cons (.var 4) .nil)) (.cons (.bin .add (.var 4) (.tup (.cons (.var 2) .nil))) (.cons (.bin .add (.tup (.cons (.neg (.cst (.int 1))) .nil)) (.var 4)) (.cons (.bin .add (.tup (.cons (.cst (.bl true)) .nil)) (.var 4)) (.cons (.bin .add (.var 4) (.tup (.cons (.cst (.bl false)) .nil))) (.cons (.cst .non) (.cons (.cst (.str [48])) (.cons (.cst (.int 0)) (.cons (.tup (.cons (.var 4) .nil)) (.cons (.bin .add (.var 4) (.tup (.cons (.cst (.str [48])) .nil))) (.cons (.bin .add (.var 4) (.tup (.cons (.lst (.cons (.cst (.int 0)) .nil)) .nil))) (.cons (.lst .nil) (.cons (.tup (.cons (.bin .pow (.cst (.int 10)) (.cst (.int 59))) .nil)) .nil))))))))))))))))
  b_law_rows_right_7)
def l_law_rows_right_2 : CSs := (.cons (.ite (.not (.call 11 (.cons (.call 18 (.cons (.var 1) (.cons (.var 5) (.cons (.cmp .eq (.bi .len (.cons (.var 5) .nil)) (.cst (.int 1))) .nil))) [0, 1, 2]) (.cons (.call 19 (.cons (.var 1) (.cons (.var 5) .nil)) [0, 1]) .nil)) [0, 1])) (.cons (.ret (.cst (.bl false)))
  .nil) .nil)
  .nil)
def b_law_rows_right_5 : CSs := (.cons (.loop (.v 5) (.seq (.var 3)) l_law_rows_right_2)
  b_law_rows_right_6)
def b_law_rows_right_4 : CSs := (.cons (.expr (.meth .append (.var 3) (.cons (.slc (.bin .mul (.var 4) (.cst (.int 60))) (.cst .non) (.cst (.int 60))) .nil)))
  b_law_rows_right_5)
def b_law_rows_right_3 : CSs := (.cons (.expr (.meth .append (.var 3) (.cons (.var 4) .nil)))
  b_law_rows_right_4)
def b_law_rows_right_2 : CSs := (.cons (.asg (.v 4) (.bi .tuple (.cons (.comp (.call 9 (.cons (.var 0) (.cons (.var 2) .nil)) [0, 1]) (.v 10) (.rng (.cons (.bin .add (.cst (.int 1)) (.call 9 (.cons (.var 0) (.cons (.cst (.int 12)) .nil)) [0, 1])) .nil)) (.cst (.bl true)) [10]) .nil)))
  b_law_rows_right_3)
def b_law_rows_right_1 : CSs := (.cons (.asg (.v 3) (.ite (.cmp .le (.var 2) (.cst (.int 3))) (.call 20 (.cons (.var 2) (.cons (.cst (.int 3)) .nil)) [0, 1]) (.lst (.cons (.tup .nil) (.cons (.tup (.cons (.bin .sub (.var 2) (.cst (.int 1))) .nil)) (.cons (.tup (.cons (.cst (.int 0)) (.cons (.bin .sub (.var 2) (.cst (.int 1))) .nil))) (.cons (.tup (.cons (.bin .sub (.var 2) (.cst (.int 1))) (.cons (.bin .sub (.var 2) (.cst (.int 2))) (.cons (.cst (.int 0)) .nil)))) .nil)))))))
  b_law_rows_right_2)
def b_law_rows_right_0 : CSs := (.cons (.asg (.v 2) (.bi .len (.cons (.var 1) .nil)))
  b_law_rows_right_1)
def d_law_rows_right : Defm := ⟨2, 9, b_law_rows_right_0⟩
def b_law_5 : CSs := (.cons (.ret (.cst (.bl true)))
  .nil)
def l_law_1 : CSs := (.cons (.ite (.not (.call 21 (.cons (.var 1) (.cons (.var 4) .nil)) [0, 1])) (.cons (.ret (.cst (.bl false)))
  .nil) .nil)
  (.cons (.ite (.not (.call 22 (.cons (.var 1) (.cons (.var 4) .nil)) [0, 1])) (.cons (.ret (.cst (.bl false)))
  .nil) .nil)
  (.cons (.ite (.not (.call 11 (.cons (.call 2 (.cons (.var 4) .nil) [0]) (.cons (.call 15 (.cons (.var 4) .nil) [0]) .nil)) [0, 1])) (.cons (.ret (.cst (.bl false)))
  .nil) .nil)
  .nil)))
def b_law_4 : CSs := (.cons (.loop (.v 4) (.seq (.lst (.cons (.var 3) (.cons (.var 2) .nil)))) l_law_1)
  b_law_5)
def b_law_3 : CSs := (.cons (.ite (.not (.call 11 (.cons (.call 2 (.cons (.var 2) .nil) [0]) (.cons (.call 15 (.cons (.var 2) .nil) [0]) .nil)) [0, 1])) (.cons (.ret (.cst (.bl false)))
  .nil) .nil)
  b_law_4)
def b_law_2 : CSs := (.cons (.asg (.v 3) (.call 14 (.cons (.var 1) .nil) [0]))
  b_law_3)
def b_law_1 : CSs := (.cons (.asg (.v 2) (.call 14 (.cons (.var 1) .nil) [0]))
  b_law_2)
def b_law_0 : CSs := (.cons (.asg (.v 1) (.call 8 (.cons (.var 0) .nil) [0]))
  b_law_1)
def d_law : Defm := ⟨1, 4, b_law_0⟩
def Ps : List Defm := [d_is_text, d_is_number, d_inner_texts, d_a_ask_text, d_token_number, d_is_row, d_a_ask_row, d_row_text, d_law_pool, d_law_pick, d_law_all, d_law_same, d_law_word, d_law_tokens, d_law_drawn_tokens, d_law_inner, d_law_number, d_law_number_told, d_law_text_told, d_law_letters, d_law_rows, d_law_texts_right, d_law_rows_right, d_law]
-- defs [(0, 5, 'is_text'), (1, 6, 'is_number'), (2, 9, 'inner_texts'), (3, 10, '_a_ask_text'), (4, 11, 'token_number'), (5, 14, 'is_row'), (6, 15, '_a_ask_row'), (7, 16, 'row_text'), (8, 18, '_law_pool'), (9, 19, '_law_pick'), (10, 20, '_law_all'), (11, 21, '_law_same'), (12, 22, '_law_word'), (13, 23, '_law_tokens'), (14, 24, '_law_drawn_tokens'), (15, 25, '_law_inner'), (16, 26, '_law_number'), (17, 27, '_law_number_told'), (18, 28, '_law_text_told'), (19, 29, '_law_letters'), (20, 30, '_law_rows'), (21, 31, '_law_texts_right'), (22, 32, '_law_rows_right'), (23, 33, 'law')]
-- exceptions [('NotUsable', ['word'])] kws [(2, ('tokens',), (0,)), (4, ('text', 'tokens'), (1, 0)), (7, ('row', 'tokens'), (1, 0))] consts {'_A_TEXT': 1200, '_A_ROW': 60}
end K01

set_option Elab.async false
set_option linter.all false
set_option maxRecDepth 100000
set_option maxHeartbeats 2000000
/-! K01a: the defs of law k01, checked against the row (printed by gen.py). -/
namespace K01
open Mp PySem L2
def top (i : Nat) : Stmt := PySem.Challenge.pw_stillends_k01_inner_texts_and_rows.main.body.getD i (.Pass ⟨0, 0, 0, 0⟩)
def inCls (i k : Nat) : Stmt := match top i with
  | .ClassDef (body := b) .. => b.getD k (.Pass ⟨0, 0, 0, 0⟩)
  | _ => .Pass ⟨0, 0, 0, 0⟩
def fs : List FnD := [
  ⟨"is_text", "is_text", ["thing"], ["thing", "char"], top 5, d_is_text, false⟩,
  ⟨"is_number", "is_number", ["thing"], ["thing"], top 6, d_is_number, false⟩,
  ⟨"inner_texts", "inner_texts", ["tokens"], ["tokens", "found", "token", "k"], top 9, d_inner_texts, true⟩,
  ⟨"_a_ask_text", "_a_ask_text", ["text"], ["text"], top 10, d_a_ask_text, false⟩,
  ⟨"token_number", "token_number", ["tokens", "text"], ["tokens", "text", "k", "token"], top 11, d_token_number, false⟩,
  ⟨"is_row", "is_row", ["tokens", "thing"], ["tokens", "thing", "token"], top 14, d_is_row, false⟩,
  ⟨"_a_ask_row", "_a_ask_row", ["tokens", "row"], ["tokens", "row"], top 15, d_a_ask_row, false⟩,
  ⟨"row_text", "row_text", ["tokens", "row"], ["tokens", "row", "token"], top 16, d_row_text, false⟩,
  ⟨"_law_pool", "_law_pool", ["script"], ["script", "room", "pool", "cell", "number", "turned"], top 18, d_law_pool, false⟩,
  ⟨"_law_pick", "_law_pick", ["pool", "many"], ["pool", "many", "number"], top 19, d_law_pick, false⟩,
  ⟨"_law_all", "_law_all", [], [], top 20, d_law_all, false⟩,
  ⟨"_law_same", "_law_same", ["told", "due"], ["told", "due", "one", "two"], top 21, d_law_same, false⟩,
  ⟨"_law_word", "_law_word", ["pool", "signs", "most"], ["pool", "signs", "most", "text", "k"], top 22, d_law_word, false⟩,
  ⟨"_law_tokens", "_law_tokens", ["pool", "many", "signs", "most"], ["pool", "many", "signs", "most", "row", "k", "word", "turn"], top 23, d_law_tokens, false⟩,
  ⟨"_law_drawn_tokens", "_law_drawn_tokens", ["pool"], ["pool", "letters", "kind", "first", "signs", "big", "tokens", "long", "k"], top 24, d_law_drawn_tokens, false⟩,
  ⟨"_law_inner", "_law_inner", ["tokens"], ["tokens", "due", "n", "found", "token"], top 25, d_law_inner, false⟩,
  ⟨"_law_number", "_law_number", ["tokens", "text"], ["tokens", "text", "due", "t"], top 26, d_law_number, false⟩,
  ⟨"_law_number_told", "_law_number_told", ["tokens", "text", "named"], ["tokens", "text", "named", "e"], top 27, d_law_number_told, false⟩,
  ⟨"_law_text_told", "_law_text_told", ["tokens", "row", "named"], ["tokens", "row", "named", "e"], top 28, d_law_text_told, false⟩,
  ⟨"_law_letters", "_law_letters", ["tokens", "row"], ["tokens", "row", "text", "t", "sign"], top 29, d_law_letters, false⟩,
  ⟨"_law_rows", "_law_rows", ["m", "most"], ["m", "most", "rows", "last", "n", "longer", "row", "t"], top 30, d_law_rows, false⟩,
  ⟨"_law_texts_right", "_law_texts_right", ["pool", "tokens"], ["pool", "tokens", "inner", "asked", "token", "text", "last", "odd", "turn", "thing"], top 31, d_law_texts_right, false⟩,
  ⟨"_law_rows_right", "_law_rows_right", ["pool", "tokens"], ["pool", "tokens", "m", "rows", "row", "some", "odd", "turn", "told", "thing", "k"], top 32, d_law_rows_right, false⟩,
  ⟨"law", "law", ["script"], ["script", "pool", "one", "two", "tokens"], top 33, d_law, false⟩]
def kws : List (Nat × List Str × List Nat) := [(2, ["tokens"], [0]), (4, ["text", "tokens"], [1, 0]), (7, ["row", "tokens"], [1, 0])]
def es : List ExD := [⟨"NotUsable", ["word"], "NotUsable.__init__", inCls 3 0⟩]
def gs : List (Str × PVm) := [("_A_TEXT", (.int 1200)), ("_A_ROW", (.int 60))]
def okAt (j : Nat) : Bool := match fs[j]? with | some z => okD (fs.map fun z => (z.name, z.ps)) kws gs (es.map fun z => (z.name, z.fields)) z | none => false
theorem t0 : okAt 0 = true := by decide +kernel
theorem t1 : okAt 1 = true := by decide +kernel
theorem t2 : okAt 2 = true := by decide +kernel
theorem t3 : okAt 3 = true := by decide +kernel
theorem t4 : okAt 4 = true := by decide +kernel
theorem t5 : okAt 5 = true := by decide +kernel
theorem t6 : okAt 6 = true := by decide +kernel
theorem t7 : okAt 7 = true := by decide +kernel
theorem t8 : okAt 8 = true := by decide +kernel
theorem t9 : okAt 9 = true := by decide +kernel
theorem t10 : okAt 10 = true := by decide +kernel
theorem t11 : okAt 11 = true := by decide +kernel
theorem t12 : okAt 12 = true := by decide +kernel
theorem t13 : okAt 13 = true := by decide +kernel
theorem t14 : okAt 14 = true := by decide +kernel
theorem t15 : okAt 15 = true := by decide +kernel
theorem t16 : okAt 16 = true := by decide +kernel
theorem t17 : okAt 17 = true := by decide +kernel
theorem t18 : okAt 18 = true := by decide +kernel
theorem t19 : okAt 19 = true := by decide +kernel
theorem t20 : okAt 20 = true := by decide +kernel
theorem t21 : okAt 21 = true := by decide +kernel
theorem t22 : okAt 22 = true := by decide +kernel
theorem t23 : okAt 23 = true := by decide +kernel
theorem all_ok : fs.all (okD (fs.map fun z => (z.name, z.ps)) kws gs (es.map fun z => (z.name, z.fields))) = true := by
  rw [List.all_eq_true]
  intro z hz
  obtain ⟨j, hj⟩ := List.mem_iff_getElem?.mp hz
  have key : ∀ j, okAt j = true → ∀ z, fs[j]? = some z → okD (fs.map fun z => (z.name, z.ps)) kws gs (es.map fun z => (z.name, z.fields)) z = true := fun j h z hz => by unfold okAt at h; rw [hz] at h; exact h
  match j, hj with
  | 0, hj => exact key _ t0 _ hj
  | 1, hj => exact key _ t1 _ hj
  | 2, hj => exact key _ t2 _ hj
  | 3, hj => exact key _ t3 _ hj
  | 4, hj => exact key _ t4 _ hj
  | 5, hj => exact key _ t5 _ hj
  | 6, hj => exact key _ t6 _ hj
  | 7, hj => exact key _ t7 _ hj
  | 8, hj => exact key _ t8 _ hj
  | 9, hj => exact key _ t9 _ hj
  | 10, hj => exact key _ t10 _ hj
  | 11, hj => exact key _ t11 _ hj
  | 12, hj => exact key _ t12 _ hj
  | 13, hj => exact key _ t13 _ hj
  | 14, hj => exact key _ t14 _ hj
  | 15, hj => exact key _ t15 _ hj
  | 16, hj => exact key _ t16 _ hj
  | 17, hj => exact key _ t17 _ hj
  | 18, hj => exact key _ t18 _ hj
  | 19, hj => exact key _ t19 _ hj
  | 20, hj => exact key _ t20 _ hj
  | 21, hj => exact key _ t21 _ hj
  | 22, hj => exact key _ t22 _ hj
  | 23, hj => exact key _ t23 _ hj
  | n + 24, hj => exact absurd hj (by simp [fs])
theorem bd0 : BindH "is_text" "is_text" ["thing"] (top 5) := fun _ _ _ _ _ _ us hl => match us, hl with | [_], _ => rfl
theorem sc0 : FnScope ["thing", "char"] ["thing"] (defScope (top 5)) := ⟨rfl, rfl, rfl, by decide +kernel, rfl, by decide +kernel, by decide +kernel⟩
theorem kw0 : ∀ ks p, (0, ks, p) ∈ kws → p.Nodup ∧ p.length = 1 ∧ BindW ⟨"is_text", "is_text", ["thing"], ["thing", "char"], top 5, d_is_text, false⟩ ks p := by
  intro ks p h
  simp [kws] at h
theorem bd1 : BindH "is_number" "is_number" ["thing"] (top 6) := fun _ _ _ _ _ _ us hl => match us, hl with | [_], _ => rfl
theorem sc1 : FnScope ["thing"] ["thing"] (defScope (top 6)) := ⟨rfl, rfl, rfl, by decide +kernel, rfl, by decide +kernel, by decide +kernel⟩
theorem kw1 : ∀ ks p, (1, ks, p) ∈ kws → p.Nodup ∧ p.length = 1 ∧ BindW ⟨"is_number", "is_number", ["thing"], ["thing"], top 6, d_is_number, false⟩ ks p := by
  intro ks p h
  simp [kws] at h
theorem bd2 : BindH "inner_texts" "inner_texts" ["tokens"] (top 9) := fun _ _ _ _ _ _ us hl => match us, hl with | [_], _ => rfl
theorem sc2 : FnScope ["tokens", "found", "token", "k"] ["tokens"] (defScope (top 9)) := ⟨rfl, rfl, rfl, by decide +kernel, rfl, by decide +kernel, by decide +kernel⟩
theorem kw2 : ∀ ks p, (2, ks, p) ∈ kws → p.Nodup ∧ p.length = 1 ∧ BindW ⟨"inner_texts", "inner_texts", ["tokens"], ["tokens", "found", "token", "k"], top 9, d_inner_texts, true⟩ ks p := by
  intro ks p h
  simp [kws] at h
  obtain ⟨rfl, rfl⟩ := h
  exact ⟨by decide, rfl, fun _ _ _ _ _ _ ws zs hl hp => match ws, hl with | [w0], _ => by cases hp; rfl⟩
theorem bd3 : BindH "_a_ask_text" "_a_ask_text" ["text"] (top 10) := fun _ _ _ _ _ _ us hl => match us, hl with | [_], _ => rfl
theorem sc3 : FnScope ["text"] ["text"] (defScope (top 10)) := ⟨rfl, rfl, rfl, by decide +kernel, rfl, by decide +kernel, by decide +kernel⟩
theorem kw3 : ∀ ks p, (3, ks, p) ∈ kws → p.Nodup ∧ p.length = 1 ∧ BindW ⟨"_a_ask_text", "_a_ask_text", ["text"], ["text"], top 10, d_a_ask_text, false⟩ ks p := by
  intro ks p h
  simp [kws] at h
theorem bd4 : BindH "token_number" "token_number" ["tokens", "text"] (top 11) := fun _ _ _ _ _ _ us hl => match us, hl with | [_, _], _ => rfl
theorem sc4 : FnScope ["tokens", "text", "k", "token"] ["tokens", "text"] (defScope (top 11)) := ⟨rfl, rfl, rfl, by decide +kernel, rfl, by decide +kernel, by decide +kernel⟩
theorem kw4 : ∀ ks p, (4, ks, p) ∈ kws → p.Nodup ∧ p.length = 2 ∧ BindW ⟨"token_number", "token_number", ["tokens", "text"], ["tokens", "text", "k", "token"], top 11, d_token_number, false⟩ ks p := by
  intro ks p h
  simp [kws] at h
  obtain ⟨rfl, rfl⟩ := h
  exact ⟨by decide, rfl, fun _ _ _ _ _ _ ws zs hl hp => match ws, hl with | [w0, w1], _ => by cases hp; rfl⟩
theorem bd5 : BindH "is_row" "is_row" ["tokens", "thing"] (top 14) := fun _ _ _ _ _ _ us hl => match us, hl with | [_, _], _ => rfl
theorem sc5 : FnScope ["tokens", "thing", "token"] ["tokens", "thing"] (defScope (top 14)) := ⟨rfl, rfl, rfl, by decide +kernel, rfl, by decide +kernel, by decide +kernel⟩
theorem kw5 : ∀ ks p, (5, ks, p) ∈ kws → p.Nodup ∧ p.length = 2 ∧ BindW ⟨"is_row", "is_row", ["tokens", "thing"], ["tokens", "thing", "token"], top 14, d_is_row, false⟩ ks p := by
  intro ks p h
  simp [kws] at h
theorem bd6 : BindH "_a_ask_row" "_a_ask_row" ["tokens", "row"] (top 15) := fun _ _ _ _ _ _ us hl => match us, hl with | [_, _], _ => rfl
theorem sc6 : FnScope ["tokens", "row"] ["tokens", "row"] (defScope (top 15)) := ⟨rfl, rfl, rfl, by decide +kernel, rfl, by decide +kernel, by decide +kernel⟩
theorem kw6 : ∀ ks p, (6, ks, p) ∈ kws → p.Nodup ∧ p.length = 2 ∧ BindW ⟨"_a_ask_row", "_a_ask_row", ["tokens", "row"], ["tokens", "row"], top 15, d_a_ask_row, false⟩ ks p := by
  intro ks p h
  simp [kws] at h
theorem bd7 : BindH "row_text" "row_text" ["tokens", "row"] (top 16) := fun _ _ _ _ _ _ us hl => match us, hl with | [_, _], _ => rfl
theorem sc7 : FnScope ["tokens", "row", "token"] ["tokens", "row"] (defScope (top 16)) := ⟨rfl, rfl, rfl, by decide +kernel, rfl, by decide +kernel, by decide +kernel⟩
theorem kw7 : ∀ ks p, (7, ks, p) ∈ kws → p.Nodup ∧ p.length = 2 ∧ BindW ⟨"row_text", "row_text", ["tokens", "row"], ["tokens", "row", "token"], top 16, d_row_text, false⟩ ks p := by
  intro ks p h
  simp [kws] at h
  obtain ⟨rfl, rfl⟩ := h
  exact ⟨by decide, rfl, fun _ _ _ _ _ _ ws zs hl hp => match ws, hl with | [w0, w1], _ => by cases hp; rfl⟩
theorem bd8 : BindH "_law_pool" "_law_pool" ["script"] (top 18) := fun _ _ _ _ _ _ us hl => match us, hl with | [_], _ => rfl
theorem sc8 : FnScope ["script", "room", "pool", "cell", "number", "turned"] ["script"] (defScope (top 18)) := ⟨rfl, rfl, rfl, by decide +kernel, rfl, by decide +kernel, by decide +kernel⟩
theorem kw8 : ∀ ks p, (8, ks, p) ∈ kws → p.Nodup ∧ p.length = 1 ∧ BindW ⟨"_law_pool", "_law_pool", ["script"], ["script", "room", "pool", "cell", "number", "turned"], top 18, d_law_pool, false⟩ ks p := by
  intro ks p h
  simp [kws] at h
theorem bd9 : BindH "_law_pick" "_law_pick" ["pool", "many"] (top 19) := fun _ _ _ _ _ _ us hl => match us, hl with | [_, _], _ => rfl
theorem sc9 : FnScope ["pool", "many", "number"] ["pool", "many"] (defScope (top 19)) := ⟨rfl, rfl, rfl, by decide +kernel, rfl, by decide +kernel, by decide +kernel⟩
theorem kw9 : ∀ ks p, (9, ks, p) ∈ kws → p.Nodup ∧ p.length = 2 ∧ BindW ⟨"_law_pick", "_law_pick", ["pool", "many"], ["pool", "many", "number"], top 19, d_law_pick, false⟩ ks p := by
  intro ks p h
  simp [kws] at h
theorem bd10 : BindH "_law_all" "_law_all" [] (top 20) := fun _ _ _ _ _ _ us hl => match us, hl with | [], _ => rfl
theorem sc10 : FnScope [] [] (defScope (top 20)) := ⟨rfl, rfl, rfl, by decide +kernel, rfl, by decide +kernel, by decide +kernel⟩
theorem kw10 : ∀ ks p, (10, ks, p) ∈ kws → p.Nodup ∧ p.length = 0 ∧ BindW ⟨"_law_all", "_law_all", [], [], top 20, d_law_all, false⟩ ks p := by
  intro ks p h
  simp [kws] at h
theorem bd11 : BindH "_law_same" "_law_same" ["told", "due"] (top 21) := fun _ _ _ _ _ _ us hl => match us, hl with | [_, _], _ => rfl
theorem sc11 : FnScope ["told", "due", "one", "two"] ["told", "due"] (defScope (top 21)) := ⟨rfl, rfl, rfl, by decide +kernel, rfl, by decide +kernel, by decide +kernel⟩
theorem kw11 : ∀ ks p, (11, ks, p) ∈ kws → p.Nodup ∧ p.length = 2 ∧ BindW ⟨"_law_same", "_law_same", ["told", "due"], ["told", "due", "one", "two"], top 21, d_law_same, false⟩ ks p := by
  intro ks p h
  simp [kws] at h
theorem bd12 : BindH "_law_word" "_law_word" ["pool", "signs", "most"] (top 22) := fun _ _ _ _ _ _ us hl => match us, hl with | [_, _, _], _ => rfl
theorem sc12 : FnScope ["pool", "signs", "most", "text", "k"] ["pool", "signs", "most"] (defScope (top 22)) := ⟨rfl, rfl, rfl, by decide +kernel, rfl, by decide +kernel, by decide +kernel⟩
theorem kw12 : ∀ ks p, (12, ks, p) ∈ kws → p.Nodup ∧ p.length = 3 ∧ BindW ⟨"_law_word", "_law_word", ["pool", "signs", "most"], ["pool", "signs", "most", "text", "k"], top 22, d_law_word, false⟩ ks p := by
  intro ks p h
  simp [kws] at h
theorem bd13 : BindH "_law_tokens" "_law_tokens" ["pool", "many", "signs", "most"] (top 23) := fun _ _ _ _ _ _ us hl => match us, hl with | [_, _, _, _], _ => rfl
theorem sc13 : FnScope ["pool", "many", "signs", "most", "row", "k", "word", "turn"] ["pool", "many", "signs", "most"] (defScope (top 23)) := ⟨rfl, rfl, rfl, by decide +kernel, rfl, by decide +kernel, by decide +kernel⟩
theorem kw13 : ∀ ks p, (13, ks, p) ∈ kws → p.Nodup ∧ p.length = 4 ∧ BindW ⟨"_law_tokens", "_law_tokens", ["pool", "many", "signs", "most"], ["pool", "many", "signs", "most", "row", "k", "word", "turn"], top 23, d_law_tokens, false⟩ ks p := by
  intro ks p h
  simp [kws] at h
theorem bd14 : BindH "_law_drawn_tokens" "_law_drawn_tokens" ["pool"] (top 24) := fun _ _ _ _ _ _ us hl => match us, hl with | [_], _ => rfl
theorem sc14 : FnScope ["pool", "letters", "kind", "first", "signs", "big", "tokens", "long", "k"] ["pool"] (defScope (top 24)) := ⟨rfl, rfl, rfl, by decide +kernel, rfl, by decide +kernel, by decide +kernel⟩
theorem kw14 : ∀ ks p, (14, ks, p) ∈ kws → p.Nodup ∧ p.length = 1 ∧ BindW ⟨"_law_drawn_tokens", "_law_drawn_tokens", ["pool"], ["pool", "letters", "kind", "first", "signs", "big", "tokens", "long", "k"], top 24, d_law_drawn_tokens, false⟩ ks p := by
  intro ks p h
  simp [kws] at h
theorem bd15 : BindH "_law_inner" "_law_inner" ["tokens"] (top 25) := fun _ _ _ _ _ _ us hl => match us, hl with | [_], _ => rfl
theorem sc15 : FnScope ["tokens", "due", "n", "found", "token"] ["tokens"] (defScope (top 25)) := ⟨rfl, rfl, rfl, by decide +kernel, rfl, by decide +kernel, by decide +kernel⟩
theorem kw15 : ∀ ks p, (15, ks, p) ∈ kws → p.Nodup ∧ p.length = 1 ∧ BindW ⟨"_law_inner", "_law_inner", ["tokens"], ["tokens", "due", "n", "found", "token"], top 25, d_law_inner, false⟩ ks p := by
  intro ks p h
  simp [kws] at h
theorem bd16 : BindH "_law_number" "_law_number" ["tokens", "text"] (top 26) := fun _ _ _ _ _ _ us hl => match us, hl with | [_, _], _ => rfl
theorem sc16 : FnScope ["tokens", "text", "due", "t"] ["tokens", "text"] (defScope (top 26)) := ⟨rfl, rfl, rfl, by decide +kernel, rfl, by decide +kernel, by decide +kernel⟩
theorem kw16 : ∀ ks p, (16, ks, p) ∈ kws → p.Nodup ∧ p.length = 2 ∧ BindW ⟨"_law_number", "_law_number", ["tokens", "text"], ["tokens", "text", "due", "t"], top 26, d_law_number, false⟩ ks p := by
  intro ks p h
  simp [kws] at h
theorem bd17 : BindH "_law_number_told" "_law_number_told" ["tokens", "text", "named"] (top 27) := fun _ _ _ _ _ _ us hl => match us, hl with | [_, _, _], _ => rfl
theorem sc17 : FnScope ["tokens", "text", "named", "e"] ["tokens", "text", "named"] (defScope (top 27)) := ⟨rfl, rfl, rfl, by decide +kernel, rfl, by decide +kernel, by decide +kernel⟩
theorem kw17 : ∀ ks p, (17, ks, p) ∈ kws → p.Nodup ∧ p.length = 3 ∧ BindW ⟨"_law_number_told", "_law_number_told", ["tokens", "text", "named"], ["tokens", "text", "named", "e"], top 27, d_law_number_told, false⟩ ks p := by
  intro ks p h
  simp [kws] at h
theorem bd18 : BindH "_law_text_told" "_law_text_told" ["tokens", "row", "named"] (top 28) := fun _ _ _ _ _ _ us hl => match us, hl with | [_, _, _], _ => rfl
theorem sc18 : FnScope ["tokens", "row", "named", "e"] ["tokens", "row", "named"] (defScope (top 28)) := ⟨rfl, rfl, rfl, by decide +kernel, rfl, by decide +kernel, by decide +kernel⟩
theorem kw18 : ∀ ks p, (18, ks, p) ∈ kws → p.Nodup ∧ p.length = 3 ∧ BindW ⟨"_law_text_told", "_law_text_told", ["tokens", "row", "named"], ["tokens", "row", "named", "e"], top 28, d_law_text_told, false⟩ ks p := by
  intro ks p h
  simp [kws] at h
theorem bd19 : BindH "_law_letters" "_law_letters" ["tokens", "row"] (top 29) := fun _ _ _ _ _ _ us hl => match us, hl with | [_, _], _ => rfl
theorem sc19 : FnScope ["tokens", "row", "text", "t", "sign"] ["tokens", "row"] (defScope (top 29)) := ⟨rfl, rfl, rfl, by decide +kernel, rfl, by decide +kernel, by decide +kernel⟩
theorem kw19 : ∀ ks p, (19, ks, p) ∈ kws → p.Nodup ∧ p.length = 2 ∧ BindW ⟨"_law_letters", "_law_letters", ["tokens", "row"], ["tokens", "row", "text", "t", "sign"], top 29, d_law_letters, false⟩ ks p := by
  intro ks p h
  simp [kws] at h
theorem bd20 : BindH "_law_rows" "_law_rows" ["m", "most"] (top 30) := fun _ _ _ _ _ _ us hl => match us, hl with | [_, _], _ => rfl
theorem sc20 : FnScope ["m", "most", "rows", "last", "n", "longer", "row", "t"] ["m", "most"] (defScope (top 30)) := ⟨rfl, rfl, rfl, by decide +kernel, rfl, by decide +kernel, by decide +kernel⟩
theorem kw20 : ∀ ks p, (20, ks, p) ∈ kws → p.Nodup ∧ p.length = 2 ∧ BindW ⟨"_law_rows", "_law_rows", ["m", "most"], ["m", "most", "rows", "last", "n", "longer", "row", "t"], top 30, d_law_rows, false⟩ ks p := by
  intro ks p h
  simp [kws] at h
theorem bd21 : BindH "_law_texts_right" "_law_texts_right" ["pool", "tokens"] (top 31) := fun _ _ _ _ _ _ us hl => match us, hl with | [_, _], _ => rfl
theorem sc21 : FnScope ["pool", "tokens", "inner", "asked", "token", "text", "last", "odd", "turn", "thing"] ["pool", "tokens"] (defScope (top 31)) := ⟨rfl, rfl, rfl, by decide +kernel, rfl, by decide +kernel, by decide +kernel⟩
theorem kw21 : ∀ ks p, (21, ks, p) ∈ kws → p.Nodup ∧ p.length = 2 ∧ BindW ⟨"_law_texts_right", "_law_texts_right", ["pool", "tokens"], ["pool", "tokens", "inner", "asked", "token", "text", "last", "odd", "turn", "thing"], top 31, d_law_texts_right, false⟩ ks p := by
  intro ks p h
  simp [kws] at h
theorem bd22 : BindH "_law_rows_right" "_law_rows_right" ["pool", "tokens"] (top 32) := fun _ _ _ _ _ _ us hl => match us, hl with | [_, _], _ => rfl
theorem sc22 : FnScope ["pool", "tokens", "m", "rows", "row", "some", "odd", "turn", "told", "thing", "k"] ["pool", "tokens"] (defScope (top 32)) := ⟨rfl, rfl, rfl, by decide +kernel, rfl, by decide +kernel, by decide +kernel⟩
theorem kw22 : ∀ ks p, (22, ks, p) ∈ kws → p.Nodup ∧ p.length = 2 ∧ BindW ⟨"_law_rows_right", "_law_rows_right", ["pool", "tokens"], ["pool", "tokens", "m", "rows", "row", "some", "odd", "turn", "told", "thing", "k"], top 32, d_law_rows_right, false⟩ ks p := by
  intro ks p h
  simp [kws] at h
theorem bd23 : BindH "law" "law" ["script"] (top 33) := fun _ _ _ _ _ _ us hl => match us, hl with | [_], _ => rfl
theorem sc23 : FnScope ["script", "pool", "one", "two", "tokens"] ["script"] (defScope (top 33)) := ⟨rfl, rfl, rfl, by decide +kernel, rfl, by decide +kernel, by decide +kernel⟩
theorem kw23 : ∀ ks p, (23, ks, p) ∈ kws → p.Nodup ∧ p.length = 1 ∧ BindW ⟨"law", "law", ["script"], ["script", "pool", "one", "two", "tokens"], top 33, d_law, false⟩ ks p := by
  intro ks p h
  simp [kws] at h
theorem dok : ∀ (j : Nat) (z : FnD), fs[j]? = some z → DefOk kws j z
  | 0, _, h => by cases h; exact ⟨bd0, kw0, sc0⟩
  | 1, _, h => by cases h; exact ⟨bd1, kw1, sc1⟩
  | 2, _, h => by cases h; exact ⟨bd2, kw2, sc2⟩
  | 3, _, h => by cases h; exact ⟨bd3, kw3, sc3⟩
  | 4, _, h => by cases h; exact ⟨bd4, kw4, sc4⟩
  | 5, _, h => by cases h; exact ⟨bd5, kw5, sc5⟩
  | 6, _, h => by cases h; exact ⟨bd6, kw6, sc6⟩
  | 7, _, h => by cases h; exact ⟨bd7, kw7, sc7⟩
  | 8, _, h => by cases h; exact ⟨bd8, kw8, sc8⟩
  | 9, _, h => by cases h; exact ⟨bd9, kw9, sc9⟩
  | 10, _, h => by cases h; exact ⟨bd10, kw10, sc10⟩
  | 11, _, h => by cases h; exact ⟨bd11, kw11, sc11⟩
  | 12, _, h => by cases h; exact ⟨bd12, kw12, sc12⟩
  | 13, _, h => by cases h; exact ⟨bd13, kw13, sc13⟩
  | 14, _, h => by cases h; exact ⟨bd14, kw14, sc14⟩
  | 15, _, h => by cases h; exact ⟨bd15, kw15, sc15⟩
  | 16, _, h => by cases h; exact ⟨bd16, kw16, sc16⟩
  | 17, _, h => by cases h; exact ⟨bd17, kw17, sc17⟩
  | 18, _, h => by cases h; exact ⟨bd18, kw18, sc18⟩
  | 19, _, h => by cases h; exact ⟨bd19, kw19, sc19⟩
  | 20, _, h => by cases h; exact ⟨bd20, kw20, sc20⟩
  | 21, _, h => by cases h; exact ⟨bd21, kw21, sc21⟩
  | 22, _, h => by cases h; exact ⟨bd22, kw22, sc22⟩
  | 23, _, h => by cases h; exact ⟨bd23, kw23, sc23⟩
  | n + 24, _, h => absurd h (by simp [fs])
theorem eb0 : BindH "__init__" "NotUsable.__init__" ["self", "word"] (inCls 3 0) := fun _ _ _ _ _ _ us hl => match us, hl with | [_, _], _ => rfl
theorem ec0 : FnScope ["self", "word"] ["self", "word"] (defScope (inCls 3 0)) := ⟨rfl, rfl, rfl, by decide +kernel, rfl, by decide +kernel, by decide +kernel⟩
theorem eok : ∀ z ∈ es, EOk z := by
  intro z hz
  simp only [es, List.mem_cons, List.not_mem_nil, or_false] at hz
  rcases hz with rfl
  · exact ⟨eb0, ec0, by decide +kernel, by decide, by decide, by decide, by decide⟩
-- defs [(0, 5, 'is_text'), (1, 6, 'is_number'), (2, 9, 'inner_texts'), (3, 10, '_a_ask_text'), (4, 11, 'token_number'), (5, 14, 'is_row'), (6, 15, '_a_ask_row'), (7, 16, 'row_text'), (8, 18, '_law_pool'), (9, 19, '_law_pick'), (10, 20, '_law_all'), (11, 21, '_law_same'), (12, 22, '_law_word'), (13, 23, '_law_tokens'), (14, 24, '_law_drawn_tokens'), (15, 25, '_law_inner'), (16, 26, '_law_number'), (17, 27, '_law_number_told'), (18, 28, '_law_text_told'), (19, 29, '_law_letters'), (20, 30, '_law_rows'), (21, 31, '_law_texts_right'), (22, 32, '_law_rows_right'), (23, 33, 'law')]
-- exceptions [('NotUsable', ['word'])] kws [(2, ('tokens',), (0,)), (4, ('text', 'tokens'), (1, 0)), (7, ('row', 'tokens'), (1, 0))] consts {'_A_TEXT': 1200, '_A_ROW': 60}
end K01

set_option linter.all false
set_option maxRecDepth 100000
/-! K01p1: numbers, rows. -/
namespace K01
open Mp
def isNumP : PVm → Bool
  | .int i => decide (0 ≤ i)
  | _ => false
theorem s_is_number (k : Nat) (v : PVm) (h : v.nref = true) (hp : List MOm) : callK Ps (k+1) 1 [.val v] hp = .ok (.val (.bl (isNumP v))) [.no] hp := by
  rw [callK_at (d := d_is_number) rfl _ _ _ rfl]
  cases v <;> simp -implicitDefEqProofs -dsimp [d_is_number, isTy, isNumP, CSs.stos, CS.sto, PVm.nref] at h ⊢
def tt (l : List (List Nat)) : List PVm := l.map fun w => .tup (ens w)
theorem tt_len (l : List (List Nat)) : (tt l).length = l.length := by simp [tt]
def notUs (w : List Nat) : Exm := ⟨0, [.str w]⟩
def ROW : List Nat := [114, 111, 119]
/-- no number below so many -/
def badN (m : Nat) : PVm → Bool
  | .int i => decide (i < 0 ∨ (m : Int) ≤ i)
  | _ => true
def isTup : PVm → Bool
  | .tup _ => true
  | _ => false
/-- numbers below T, so many -/
def nums (T : Nat) (l : List PVm) : Bool := l.all fun v => !badN T v
theorem nums_bad {T : Nat} {l : List PVm} {v : PVm} (h : v ∈ l) (hb : badN T v = true) : nums T l = false := by
  cases hh : nums T l
  · rfl
  · have := List.all_eq_true.mp hh v h
    rw [hb] at this; cases this
section
variable (k : Nat) (hp : List MOm)
/-- the same for rows -/
def rowB (m : Nat) (l : List PVm) : Bool := nums m l && decide (l.length ≤ 60)
theorem s_is_row (toks : List PVm) (l : List PVm) (hl : l.all PVm.nref = true) :
    callK Ps (k+2) 5 [.val (.tup toks), .val (.tup l)] hp = .ok (.val (.bl (nums toks.length l))) [.no, .no] hp := by
  rw [callK_at (d := d_is_row) rfl _ _ _ rfl]
  have hb : d_is_row.body = b_is_row_0 := rfl
  have hn : d_is_row.npar = 2 := rfl
  have hlo : d_is_row.nloc = 1 := rfl
  have hs : d_is_row.body.stos = [2] := rfl
  simp -implicitDefEqProofs -dsimp [hb, hn, hlo, ↓hs, b_is_row_0, b_is_row_1, isTy]
  refine endD_eq ?_
  rw [sat_bd]
  refine forL_sat (fun pre post st => Hide (l = pre ++ post ∧ nums toks.length pre = true ∧ ∃ s : Slotm, s.free = true ∧ st = ⟨[.val (.tup toks), .val (.tup l), s], hp⟩)) ?_ ?_ ?_ l [] _ (hide ⟨rfl, rfl, _, rfl, rfl⟩)
  · rintro pre post st ⟨_, _, s, _, rfl⟩
    rfl
  · rintro pre x post st ⟨e, hn, s, hs, rfl⟩
    have hx : x.nref = true := List.all_eq_true.mp hl x (by rw [e]; simp)
    have bad : badN toks.length x = true → nums toks.length l = false := nums_bad (by rw [e]; simp)
    have good : badN toks.length x = false → Hide (l = pre ++ [x] ++ post ∧ nums toks.length (pre ++ [x]) = true ∧ ∃ s : Slotm, s.free = true ∧ (⟨[.val (.tup toks), .val (.tup l), .val x], hp⟩ : Sm) = ⟨[.val (.tup toks), .val (.tup l), s], hp⟩) := fun h => hide ⟨by rw [e]; simp, by unfold nums at hn ⊢; rw [List.all_append, hn]; simp [h], _, rfl, rfl⟩
    simp -implicitDefEqProofs -dsimp [sets1_free hs, s_is_number k x hx, l_is_row_1]
    cases x <;> simp -implicitDefEqProofs -dsimp [isNumP]
    case int i =>
      exact ⟨fun h0 => bad (by simp [badN]; omega), fun h0 => ⟨fun h => bad (by simp [badN]; omega), fun h => good (by simp [badN]; omega)⟩⟩
    all_goals exact bad rfl
  · rintro pre st ⟨e, hn, s, hs, rfl⟩
    rw [List.append_nil] at e
    subst e
    simp -implicitDefEqProofs -dsimp [b_is_row_2, hn]
theorem s_ask (toks : List PVm) (l : List PVm) (hl : l.all PVm.nref = true) :
    callK Ps (k+3) 6 [.val (.tup toks), .val (.tup l)] hp = if rowB toks.length l = true then .ok (.val .non) [.no, .no] hp else .err (notUs ROW) [.no, .no] hp := by
  rw [callK_at (d := d_a_ask_row) rfl _ _ _ rfl]
  simp -implicitDefEqProofs -dsimp [d_a_ask_row, b_a_ask_row_0, CSs.stos, CS.sto, s_is_row k hp toks l hl]
  unfold rowB
  cases nums toks.length l
  · simp -implicitDefEqProofs -dsimp [notUs, ROW]
  · by_cases h : l.length ≤ 60
    · have e2 : ¬ (60 : Int) < (l.length : Int) := by omega
      simp -implicitDefEqProofs -dsimp [h, e2]
    · have e2 : (60 : Int) < (l.length : Int) := by omega
      simp -implicitDefEqProofs -dsimp [h, e2, notUs, ROW]
theorem s_ask0 (toks : List PVm) (v : PVm) (hv : v.nref = true) (ht : isTup v = false) :
    callK Ps (k+3) 6 [.val (.tup toks), .val v] hp = .err (notUs ROW) [.no, .no] hp := by
  rw [callK_at (d := d_a_ask_row) rfl _ _ _ rfl]
  have e : callK Ps (k+2) 5 [.val (.tup toks), .val v] hp = .ok (.val (.bl false)) [.no, .no] hp := by
    rw [callK_at (d := d_is_row) rfl _ _ _ rfl]
    have hb : d_is_row.body = b_is_row_0 := rfl
    have hn : d_is_row.npar = 2 := rfl
    have hlo : d_is_row.nloc = 1 := rfl
    have hs : d_is_row.body.stos = [2] := rfl
    cases v <;> first | (cases ht; done) | (cases hv; done) | simp -implicitDefEqProofs -dsimp [hb, hn, hlo, ↓hs, b_is_row_0, isTy]
  simp -implicitDefEqProofs -dsimp [d_a_ask_row, b_a_ask_row_0, CSs.stos, CS.sto, e, notUs, ROW]
end
theorem ens_nref (l : List Nat) : (ens l).all PVm.nref = true := by
  rw [List.all_eq_true]
  intro x hx
  obtain ⟨n, _, rfl⟩ := List.mem_map.mp hx
  rfl
theorem nums_ens {T : Nat} {l : List Nat} (h : ∀ d ∈ l, d < T) : nums T (ens l) = true := by
  unfold nums
  rw [List.all_eq_true]
  intro x hx
  obtain ⟨n, hn, rfl⟩ := List.mem_map.mp hx
  have := h n hn
  simp [badN]; omega
theorem rowB_ens {m : Nat} {l : List Nat} (h : ∀ t ∈ l, t < m) (hl : l.length ≤ 60) : rowB m (ens l) = true := by
  unfold rowB; rw [nums_ens h, ens_len, decide_eq_true hl]; rfl
def rp (n x : Nat) : List Nat := List.replicate n x
theorem tt_app (a b : List (List Nat)) : tt (a ++ b) = tt a ++ tt b := by simp [tt]
end K01

set_option linter.all false
set_option maxRecDepth 100000
/-! K01p2: the pool, numbers drawn. -/
namespace K01
open Mp
theorem mod_nat (x : Int) : ∃ s : Nat, x % 2305843009213693951 = (s : Int) := ⟨(x % 2305843009213693951).toNat, by omega⟩
theorem log2_small {m : Nat} (h : m < 100000000) : m.log2 < 9000 := by
  by_cases h0 : m = 0
  · subst h0; show Nat.log2 0 < 9000; simp
  · have : m.log2 < 27 := (Nat.log2_lt h0).mpr (by omega)
    omega
theorem ixN_neg1 (n : Nat) : ixN (n + 1) (-1) = some n := by
  unfold ixN
  have h1 : ¬ (0 : Int) ≤ -1 := by omega
  rw [if_neg h1, if_pos (by omega)]
  congr 1
  omega
theorem atI_neg1 (l : List Nat) (y : Nat) : atI (ens (l ++ [y])) (-1) = some (.int (y : Int)) := by
  unfold atI
  have : (ens (l ++ [y])).length = l.length + 1 := by simp
  rw [this, ixN_neg1]
  simp [ens]
theorem ens_setL (l : List Nat) (y v : Nat) : (ens (l ++ [y])).set l.length (.int (v : Int)) = ens (l ++ [v]) := by
  simp [ens]
theorem pick1 (k : Nat) (x : Nat) (r : List Nat) {many : Nat} (hm : 0 < many) (hB : many < 100000000) (hp : List MOm) :
    ∃ v x' r', v < many ∧ endD 2 [2] (execs (callK Ps k) b_law_pick_1 ⟨[.lent (.lst (ens (x :: r))), .val (.int (many : Int)), .no], hp⟩) = .ok (.val (.int ((v : Nat) : Int))) [.lent (.lst (ens (x' :: r'))), .no] hp := by
  have hmi : (0 : Int) < (many : Int) := by omega
  have hl2 : (many : Int).natAbs.log2 < 9000 := by simpa using log2_small hB
  rcases List.eq_nil_or_concat r with rfl | ⟨r0, y, e⟩
  · obtain ⟨s, hs⟩ := mod_nat ((x : Int) * 69621)
    refine ⟨(s / 32771) % many, s, [], Nat.mod_lt _ hm, ?_⟩
    have hlog : (32771 : Nat).log2 < 9000 := by decide
    have hmo : mulOk (x : Int) 69621 = true := mulOk_r (by decide)
    simp -implicitDefEqProofs -dsimp [b_law_pick_1, b_law_pick_2, b_law_pick_3, ens, hmo, hs, hmi, hlog]
    intro h; omega
  · have hr : x :: r = (x :: r0) ++ [y] := by rw [e, List.concat_eq_append]; rfl
    rw [hr]
    have hgt : (1 : Int) < ((r0.length : Int) + 1 + 1) := by omega
    have e2 := ens_setL (x :: r0) y (y / many)
    have hix : ixN (r0.length + 1 + 1) (-1) = some (r0.length + 1) := ixN_neg1 _
    have hlen : (ens (x :: r0 ++ [y])).length = r0.length + 1 + 1 := by simp
    refine ⟨y % many, x, r0 ++ [y / many], Nat.mod_lt _ hm, ?_⟩
    have e3 := atI_neg1 (x :: r0) y
    generalize ens (x :: r0 ++ [y]) = L at e2 e3 hlen ⊢
    simp only [List.length_cons] at e2
    simp -implicitDefEqProofs -dsimp [b_law_pick_1, hlen, hgt, e3, hix, hmi, hl2]
    have e4 : PVm.int ((y : Int) / (many : Int)) = .int ((y / many : Nat) : Int) := by rw [Int.natCast_ediv]
    rw [if_pos ⟨hm, log2_small hB⟩, if_pos hm, e4, e2]
    rfl
theorem s_pick (k : Nat) (x : Nat) (r : List Nat) {many : Nat} (hm : 0 < many) (hB : many < 100000000) (hp : List MOm) :
    ∃ v x' r', v < many ∧ callK Ps (k+1) 9 [.lent (.lst (ens (x :: r))), .val (.int (many : Int))] hp = .ok (.val (.int ((v : Nat) : Int))) [.lent (.lst (ens (x' :: r'))), .no] hp := by
  have hb : d_law_pick.body = b_law_pick_0 := rfl
  have hn : d_law_pick.npar = 2 := rfl
  have hlo : d_law_pick.nloc = 1 := rfl
  have hs : d_law_pick.body.stos = [2] := rfl
  rcases List.eq_nil_or_concat r with rfl | ⟨r0, y, e⟩
  · obtain ⟨v, x', r', h1, h2⟩ := pick1 k x [] hm hB hp
    refine ⟨v, x', r', h1, ?_⟩
    rw [callK_at (d := d_law_pick) rfl _ _ _ rfl, ← h2]
    simp -implicitDefEqProofs -dsimp [hb, hn, hlo, ↓hs, b_law_pick_0, ens]
  · have hr : x :: r = (x :: r0) ++ [y] := by rw [e, List.concat_eq_append]; rfl
    have hgt : (1 : Int) < ((r0.length : Int) + 1 + 1) := by omega
    have hlen : (ens (x :: r0 ++ [y])).length = r0.length + 1 + 1 := by simp
    have e3 := atI_neg1 (x :: r0) y
    by_cases hy : y = 0
    · obtain ⟨v, x', r', h1, h2⟩ := pick1 k x r0 hm hB hp
      refine ⟨v, x', r', h1, ?_⟩
      rw [callK_at (d := d_law_pick) rfl _ _ _ rfl, ← h2, hr]
      have e5 : (ens (x :: r0 ++ [y])).getLast? = some (.int (y : Int)) := by rw [ens_app]; exact List.getLast?_concat
      have e6 : (ens (x :: r0 ++ [y])).dropLast = ens (x :: r0) := by rw [ens_app]; exact List.dropLast_concat
      have hyi : (y : Int) = 0 := by omega
      generalize ens (x :: r0 ++ [y]) = L at e3 e5 e6 hlen ⊢
      have e7 : ∀ st, pop1 (.at 0) (some (.m (.lst L))) st = okO (putO (.at 0) (.lst (ens (x :: r0))) st) (.val (.int (y : Int))) := by
        intro st
        unfold pop1
        simp only [e5, e6]
      simp -implicitDefEqProofs -dsimp [hb, hn, hlo, ↓hs, b_law_pick_0, hlen, hgt, e3, e7, hy]
    · obtain ⟨v, x', r', h1, h2⟩ := pick1 k x r hm hB hp
      refine ⟨v, x', r', h1, ?_⟩
      rw [callK_at (d := d_law_pick) rfl _ _ _ rfl, ← h2, hr]
      have hyi : ¬ (y : Int) = 0 := by omega
      generalize ens (x :: r0 ++ [y]) = L at e3 hlen ⊢
      simp -implicitDefEqProofs -dsimp [hb, hn, hlo, ↓hs, b_law_pick_0, hlen, hgt, e3, hy]
def Rm : Int := 10 ^ 240
theorem Rm_pos : 0 < Rm := by decide
theorem room_ok (C : CallEnv) (st : Sm) : exec C (.asg (.v 1) (.bin .mul (.bin .mul (.bin .mul (.bin .pow (.cst (.int 10)) (.cst (.int 60))) (.bin .pow (.cst (.int 10)) (.cst (.int 60)))) (.bin .pow (.cst (.int 10)) (.cst (.int 60)))) (.bin .pow (.cst (.int 10)) (.cst (.int 60))))) st =
    exec C (.asg (.v 1) (.cst (.int Rm))) st := by
  have p : ∀ st, ev C (.bin .pow (.cst (.int 10)) (.cst (.int 60))) st = .ok (.val (.int (10 ^ 60))) st := fun st => by
    simp
  have m : ∀ (a b : CE) (i j : Nat) (st : Sm), i ≤ 200 → j ≤ 60 → ev C a st = .ok (.val (.int (10 ^ i))) st → ev C b st = .ok (.val (.int (10 ^ j))) st → ev C (.bin .mul a b) st = .ok (.val (.int (10 ^ (i + j)))) st := by
    intro a b i j st hi hj h1 h2
    have hk : mulOk (10 ^ i) (10 ^ j) = true := by
      apply mulOk_big
      · rw [Int.natAbs_pow]
        exact Nat.lt_of_le_of_lt (Nat.pow_le_pow_right (by decide) hi) (by decide)
      · rw [Int.natAbs_pow]
        exact Nat.lt_of_le_of_lt (Nat.pow_le_pow_right (by decide) hj) (by decide)
    simp [h1, h2, hk, Int.pow_add]
  rw [x_asg, x_asg, m _ _ 180 60 st (by decide) (by decide) (m _ _ 120 60 st (by decide) (by decide) (m _ _ 60 60 st (by decide) (by decide) (p st) (p st)) (p st)) (p st)]
  rfl
/-- a pool -/
def pl (l : List PVm) : Prop := ∃ x r, l = ens (x :: r)
theorem poolTurn (k : Nat) (hp : List MOm) (s0 : Slotm) (x : Nat) (r : List Nat) (c : Int) (s3 s4 s5 : Slotm) (h3 : s3.free = true) (h4 : s4.free = true) (h5 : s5.free = true) (hr : r.length < 1000) :
    ∃ x' r' s3' s4' s5', Slotm.free s3' = true ∧ Slotm.free s4' = true ∧ Slotm.free s5' = true ∧ r'.length ≤ r.length + 1 ∧
    turnF (.v 3) (execs (callK Ps k) l_law_pool_1) (.int c) ⟨[s0, .val (.int Rm), .own (.lst (ens (x :: r))), s3, s4, s5], hp⟩ = .ok .nx ⟨[s0, .val (.int Rm), .own (.lst (ens (x' :: r'))), s3', s4', s5'], hp⟩ := by
  obtain ⟨t, ht⟩ : ∃ t : Int, (if 0 ≤ c then c else 3 - 2 * c) = t := ⟨_, rfl⟩
  obtain ⟨s, hs⟩ := mod_nat ((x : Int) * 5038849 + t * 86243 + 4421)
  have hm1 : mulOk (x : Int) 5038849 = true := mulOk_r (by decide)
  have hm2 : mulOk t 86243 = true := mulOk_r (by decide)
  have hm3 : mulOk 2 c = true := mulOk_l (by decide)
  obtain ⟨q, hq⟩ : ∃ q : Nat, t % Rm = (q : Int) := ⟨(t % Rm).toNat, by have := Int.emod_nonneg t (Int.ne_of_gt Rm_pos); omega⟩
  have hRp := Rm_pos
  have hlt : (ens r).length + 1 < 16777216 := by rw [ens_len]; omega
  generalize Rm = R at hq hRp ⊢
  have fin : ∀ st : Sm, st = ⟨[s0, .val (.int R), .own (.lst (ens (x :: r))), .val (.int c), .val (.int c), .val (.int t)], hp⟩ →
      ∃ x' r', r'.length ≤ r.length + 1 ∧ (execs (callK Ps k) (.cons (.setI (.var 2) (.cst (.int 0)) (.bin .mod (.bi .int (.cons (.bin .add (.bin .add (.bin .mul (.idx (.var 2) (.cst (.int 0))) (.cst (.int 5038849))) (.bin .mul (.var 5) (.cst (.int 86243)))) (.cst (.int 4421))) .nil)) (.cst (.int 2305843009213693951))))
  (.cons (.ite (.cmp .ge (.var 5) (.bin .pow (.cst (.int 10)) (.cst (.int 18)))) (.cons (.expr (.meth .append (.var 2) (.cons (.bin .mod (.bi .int (.cons (.var 5) .nil)) (.var 1)) .nil)))
  .nil) .nil)
  .nil)) st) = .ok .nx ⟨[s0, .val (.int R), .own (.lst (ens (x' :: r'))), .val (.int c), .val (.int c), .val (.int t)], hp⟩ := by
    rintro st rfl
    by_cases hb : (1000000000000000000 : Int) ≤ t
    · refine ⟨s, r ++ [q], by simp, ?_⟩
      simp -implicitDefEqProofs -dsimp [ens_cons, hm1, hm2, hs, hb, hRp, hq, hlt, ens_app]
      omega
    · refine ⟨s, r, by simp, ?_⟩
      simp -implicitDefEqProofs -dsimp [ens_cons, hm1, hm2, hs, hb]
  obtain ⟨x', r', h1, h2⟩ := fin _ rfl
  refine ⟨x', r', .val (.int c), .val (.int c), .val (.int t), rfl, rfl, rfl, h1, ?_⟩
  rw [← h2]
  by_cases hc : 0 ≤ c
  · have : c = t := by rw [← ht, if_pos hc]
    subst this
    simp -implicitDefEqProofs -dsimp [l_law_pool_1, sets1_free h3, sets1_free h4, sets1_free h5, hc]
  · have : 3 - 2 * c = t := by rw [← ht, if_neg hc]
    simp -implicitDefEqProofs -dsimp [l_law_pool_1, sets1_free h3, sets1_free h4, sets1_free h5, hc, hm3, this]
theorem s_pool (k : Nat) (cs : List Int) (hl : cs.length ≤ 63) (hp : List MOm) :
    ∃ x r, callK Ps (k+1) 8 [.val (.rol (cs.map .int))] hp = .ok (.own (.lst (ens (x :: r)))) [.no] hp := by
  suffices h : (callK Ps (k+1) 8 [.val (.rol (cs.map .int))] hp).sat (fun v fin hp' => Hide (∃ x r, v = .own (.lst (ens (x :: r))) ∧ fin = [.no] ∧ hp' = hp)) (fun _ _ _ => False) by
    obtain ⟨v, sl, hp', e, x, r, rfl, rfl, rfl⟩ := csat_eq h
    exact ⟨x, r, e⟩
  rw [callK_at (d := d_law_pool) rfl _ _ _ rfl]
  have hb : d_law_pool.body = b_law_pool_0 := rfl
  have hn : d_law_pool.npar = 1 := rfl
  have hlo : d_law_pool.nloc = 5 := rfl
  have hs : d_law_pool.body.stos = [1, 2, 3, 4, 5] := rfl
  have e0 : ∀ st, execs (callK Ps k) b_law_pool_0 st = execs (callK Ps k) (.cons (.asg (.v 1) (.cst (.int Rm))) b_law_pool_1) st := fun st => by
    rw [b_law_pool_0, xs_cons, xs_cons, room_ok]
  simp -implicitDefEqProofs -dsimp [hb, hn, hlo, ↓hs, e0, b_law_pool_1, b_law_pool_2]
  refine endD_iff.mpr ?_
  rw [sat_bd]
  refine forL_sat (fun _ post st => Hide (∃ (qs : List Int) (x : Nat) (r : List Nat) (s3 s4 s5 : Slotm), post = qs.map .int ∧ s3.free = true ∧ s4.free = true ∧ s5.free = true ∧ r.length + qs.length ≤ 63 ∧ st = ⟨[.val (.rol (cs.map .int)), .val (.int Rm), .own (.lst (ens (x :: r))), s3, s4, s5], hp⟩)) ?_ ?_ ?_ _ [] _ (hide ⟨cs, 0, [], _, _, _, rfl, rfl, rfl, rfl, by simpa using hl, rfl⟩)
  · rintro pre post st ⟨qs, x, r, s3, s4, s5, _, _, _, _, _, rfl⟩
    rfl
  · rintro pre y post st ⟨qs, x, r, s3, s4, s5, eq, h3, h4, h5, hle, rfl⟩
    cases qs with
    | nil => cases eq
    | cons q qs =>
      cases eq
      simp only [List.length_cons] at hle
      obtain ⟨x', r', s3', s4', s5', g3, g4, g5, hl', e⟩ := poolTurn k hp (.val (.rol (cs.map .int))) x r q s3 s4 s5 h3 h4 h5 (by omega)
      rw [e]
      exact hide ⟨qs, x', r', s3', s4', s5', rfl, g3, g4, g5, by omega, rfl⟩
  · rintro pre st ⟨qs, x, r, s3, s4, s5, _, h3, h4, h5, hle, rfl⟩
    simp -implicitDefEqProofs -dsimp [b_law_pool_3]
    exact hide ⟨x, r, rfl, rfl, rfl⟩
/-- a comprehension that draws, each number as told -/
theorem drawsP {b : PVm → Sm → Resm (Option PVm)} (env : List PVm → List Slotm) (hp : List MOm) (P : Nat → Prop) (n : Nat) (hn : n ≤ 1000)
    (ht : ∀ (i : PVm) (x : Nat) (r : List Nat), ∃ (v x' : Nat) (r' : List Nat), P v ∧ b i ⟨env (ens (x :: r)), hp⟩ = .ok (some (.int (v : Int))) ⟨env (ens (x' :: r')), hp⟩) (x : Nat) (r : List Nat) :
    ∃ (l : List Nat) (x' : Nat) (r' : List Nat), l.length = n ∧ (∀ v ∈ l, P v) ∧ compL [] b (rngL 0 n) [] ⟨env (ens (x :: r)), hp⟩ = .ok (ens l) ⟨env (ens (x' :: r')), hp⟩ := by
  have key : ∀ (post : List PVm) (acc : List Nat) (x : Nat) (r : List Nat), acc.length + post.length ≤ 2000 →
      ∃ (l : List Nat) (x' : Nat) (r' : List Nat), l.length = post.length ∧ (∀ v ∈ l, P v) ∧ compL [] b post (ens acc) ⟨env (ens (x :: r)), hp⟩ = .ok (ens (acc ++ l)) ⟨env (ens (x' :: r')), hp⟩ := by
    intro post
    induction post with
    | nil =>
      intro acc x r _
      refine ⟨[], x, r, rfl, by simp, ?_⟩
      unfold compL
      rw [if_pos (by rfl), List.append_nil]
    | cons i post ih =>
      intro acc x r hl
      simp only [List.length_cons] at hl
      obtain ⟨v, x1, r1, hv, e⟩ := ht i x r
      obtain ⟨l, x2, r2, h1, h2, h3⟩ := ih (acc ++ [v]) x1 r1 (by simp; omega)
      refine ⟨v :: l, x2, r2, by simp [h1], fun y hy => ?_, ?_⟩
      · rcases List.mem_cons.mp hy with rfl | hy
        · exact hv
        · exact h2 y hy
      · unfold compL
        rw [if_pos (by rfl), e, Resm.bind_ok]
        show (if (ens acc).length < 16777216 then _ else _) = _
        rw [if_pos (by rw [ens_len]; omega)]
        have ea : ens acc ++ [PVm.int (v : Int)] = ens (acc ++ [v]) := by rw [ens_app]; rfl
        rw [ea, h3, List.append_assoc]
        rfl
  obtain ⟨l, x', r', h1, h2, h3⟩ := key (rngL 0 n) [] x r (by simp [rngL]; omega)
  exact ⟨l, x', r', by simpa [rngL] using h1, h2, by simpa using h3⟩
theorem cut_from (w : List Nat) (i : Nat) : cut (ens w) (some (i : Int)) none = ens (w.drop i) := by
  unfold cut sIx
  have h : ¬ (i : Int) < 0 := by omega
  simp only [h, if_false, ens_len, Int.toNat_natCast]
  unfold ens
  rw [← List.map_drop, ← List.map_take]
  congr 1
  by_cases hi : i ≤ w.length
  · rw [Nat.min_eq_left hi, List.take_of_length_le (by simp)]
  · rw [Nat.min_eq_right (by omega), List.drop_eq_nil_of_le (by omega), List.drop_eq_nil_of_le (by omega)]
    exact List.take_nil
theorem cut_to (w : List Nat) (i : Nat) : cut (ens w) none (some (i : Int)) = ens (w.take i) := by
  unfold cut sIx
  have h : ¬ (i : Int) < 0 := by omega
  simp only [h, if_false, ens_len, Int.toNat_natCast, List.drop_zero, Nat.sub_zero]
  unfold ens
  rw [← List.map_take]
  congr 1
  by_cases hi : i ≤ w.length
  · rw [Nat.min_eq_left hi]
  · rw [Nat.min_eq_right (by omega), List.take_of_length_le (by omega), List.take_of_length_le (by omega)]
theorem rep_ens (n : Nat) (l : List Nat) : rep (n : Int) (ens l) = ens ((List.replicate n l).flatten) := by
  unfold rep ens
  rw [Int.toNat_natCast, List.map_flatten, List.map_replicate]
theorem reps_mem {n : Nat} {l : List Nat} {d : Nat} (h : d ∈ (List.replicate n l).flatten) : d ∈ l := by
  obtain ⟨a, ha, hd⟩ := List.mem_flatten.mp h
  rw [List.eq_of_mem_replicate ha] at hd
  exact hd
theorem reps_len (n : Nat) (l : List Nat) : (List.replicate n l).flatten.length = n * l.length := by
  simp [List.length_flatten]
end K01

set_option linter.all false
set_option maxRecDepth 100000
/-! K01p3: the same. -/
namespace K01
open Mp
def due : Nat → PVm → Bool
  | _, .int _ => true
  | _, .bl _ => true
  | _, .str _ => true
  | d + 1, .tup l => decide (l.length ≤ 10000) && l.all (due d)
  | _, _ => false
theorem sameB : d_law_same.body = b_law_same_0 := rfl
theorem sameN : d_law_same.npar = 2 := rfl
theorem sameL : d_law_same.nloc = 2 := rfl
theorem sameS : d_law_same.body.stos = [2, 3] := rfl
theorem zip_self (l : List PVm) : l.zipWith (fun x y => PVm.tup [x, y]) l = l.map fun x => .tup [x, x] := by
  induction l with
  | nil => rfl
  | cons x l ih => simp [ih]
theorem s_same : ∀ (d k : Nat) (v : PVm) (hp : List MOm), due d v = true → callK Ps (k + d + 1) 11 [.val v, .val v] hp = .ok (.val (.bl true)) [.no, .no] hp
  | d, k, .int i, hp, _ => by
    rw [callK_at (d := d_law_same) rfl _ _ _ rfl]
    simp -implicitDefEqProofs -dsimp [sameB, sameN, sameL, ↓sameS, b_law_same_0, b_law_same_1, b_law_same_2, isTy]
  | d, k, .bl i, hp, _ => by
    rw [callK_at (d := d_law_same) rfl _ _ _ rfl]
    have e : cmpV .eq (.p (.bl i)) (.p (.bl i)) = some true := by cases i <;> rfl
    simp -implicitDefEqProofs -dsimp [sameB, sameN, sameL, ↓sameS, b_law_same_0, b_law_same_1, isTy, e]
  | d, k, .str s, hp, _ => by
    rw [callK_at (d := d_law_same) rfl _ _ _ rfl]
    simp -implicitDefEqProofs -dsimp [sameB, sameN, sameL, ↓sameS, b_law_same_0, b_law_same_1, b_law_same_2, b_law_same_3, isTy]
  | 0, k, .tup l, hp, h => by simp [due] at h
  | _, k, .non, hp, h => by simp [due] at h
  | _, k, .lst _, hp, h => by simp [due] at h
  | _, k, .rol _, hp, h => by simp [due] at h
  | _, k, .ref _, hp, h => by simp [due] at h
  | d + 1, k, .tup l, hp, h => by
    have hd : l.length ≤ 10000 ∧ ∀ x ∈ l, due d x = true := by simpa [due] using h
    obtain ⟨hl, hd⟩ := hd
    rw [callK_at (d := d_law_same) rfl _ _ _ rfl]
    simp -implicitDefEqProofs -dsimp [sameB, sameN, sameL, ↓sameS, b_law_same_0, b_law_same_1, b_law_same_2, b_law_same_3, b_law_same_4, b_law_same_5, isTy, zip_self]
    refine endD_eq ?_
    rw [sat_bd]
    refine forL_enc (enc := fun x : PVm => .tup [x, x]) (fun pre post st => Hide (l = pre ++ post ∧ ∃ c c' : Slotm, c.free = true ∧ c'.free = true ∧ st = ⟨[.val (.tup l), .val (.tup l), c, c'], hp⟩)) ?_ ?_ ?_ l [] _ (hide ⟨rfl, _, _, rfl, rfl, rfl⟩)
    · rintro pre post st ⟨_, c, c', _, _, rfl⟩
      rfl
    · rintro pre x post st ⟨e, c, c', hc, hc', rfl⟩
      have hx := hd x (by rw [e]; simp)
      have ih := s_same d k x hp hx
      simp -implicitDefEqProofs -dsimp [sets1_free hc, sets1_free hc', l_law_same_1]
      rw [show k + (d + 1) = k + d + 1 by omega, ih]
      simp -implicitDefEqProofs -dsimp
      exact hide ⟨by rw [e]; simp, _, _, rfl, rfl, rfl⟩
    · rintro pre st ⟨e, c, c', hc, hc', rfl⟩
      simp -implicitDefEqProofs -dsimp [b_law_same_6]
/-- two lists of texts: the one frozen or not -/
theorem s_sameL (k : Nat) (l : List PVm) (hp : List MOm) (hd : ∀ x ∈ l, due 0 x = true) (t : Slotm) (ht : t = .own (.lst l) ∨ t = .val (.lst l)) :
    callK Ps (k + 2) 11 [t, .own (.lst l)] hp = .ok (.val (.bl true)) [.no, .no] hp := by
  rw [callK_at (d := d_law_same) rfl _ _ _ rfl]
  have fin : ∀ (ds : List (Nat × List PVm)) (t : Slotm), keepLent t = .no → depsOk ds ⟨[t, .own (.lst l), .no, .no], hp⟩ = true → (∀ c c', depsOk ds ⟨[t, .own (.lst l), c, c'], hp⟩ = true) →
      endD 2 [2, 3] ((forL ds (turnF (.t [.v 2, .v 3]) (execs (callK Ps (k + 1)) l_law_same_1)) (l.map fun x => .tup [x, x]) ⟨[t, .own (.lst l), .no, .no], hp⟩).bd fun fl st => seqK (execs (callK Ps (k + 1)) b_law_same_6) fl st) = .ok (.val (.bl true)) [.no, .no] hp := by
    intro ds t hk h0 h1
    refine endD_eq ?_
    rw [sat_bd]
    refine forL_enc (enc := fun x : PVm => .tup [x, x]) (fun pre post st => Hide (l = pre ++ post ∧ ∃ c c' : Slotm, c.free = true ∧ c'.free = true ∧ st = ⟨[t, .own (.lst l), c, c'], hp⟩)) ?_ ?_ ?_ l [] _ (hide ⟨rfl, _, _, rfl, rfl, rfl⟩)
    · rintro pre post st ⟨_, c, c', _, _, rfl⟩
      exact h1 c c'
    · rintro pre x post st ⟨e, c, c', hc, hc', rfl⟩
      have ih := s_same 0 k x hp (hd x (by rw [e]; simp))
      simp -implicitDefEqProofs -dsimp [sets1_free hc, sets1_free hc', l_law_same_1]
      rw [show k + 0 + 1 = k + 1 by omega] at ih
      rw [ih]
      simp -implicitDefEqProofs -dsimp
      exact hide ⟨by rw [e]; simp, _, _, rfl, rfl, rfl⟩
    · rintro pre st ⟨e, c, c', hc, hc', rfl⟩
      simp -implicitDefEqProofs -dsimp [b_law_same_6, hk]
  rcases ht with rfl | rfl
  · simp -implicitDefEqProofs -dsimp [sameB, sameN, sameL, ↓sameS, b_law_same_0, b_law_same_1, b_law_same_2, b_law_same_3, b_law_same_4, b_law_same_5, isTy, zip_self]
    refine fin _ _ rfl ?_ ?_
    · simp [depsOk, depOk]
    · intro c c'; simp [depsOk, depOk]
  · simp -implicitDefEqProofs -dsimp [sameB, sameN, sameL, ↓sameS, b_law_same_0, b_law_same_1, b_law_same_2, b_law_same_3, b_law_same_4, b_law_same_5, isTy, zip_self]
    refine fin _ _ rfl ?_ ?_
    · simp [depsOk, depOk]
    · intro c c'; simp [depsOk, depOk]
end K01

set_option linter.all false
set_option maxRecDepth 100000
/-! K01p4: all rows. -/
namespace K01
open Mp
def lastL (m : Nat) : Nat → List (List Nat)
  | 0 => [[]]
  | n + 1 => (lastL m n).flatMap fun row => (List.range m).map fun t => row ++ [t]
theorem lastL_cons (m : Nat) : ∀ n, lastL m (n + 1) = (List.range m).flatMap fun t => (lastL m n).map (t :: ·)
  | 0 => by
    simp only [lastL, List.flatMap_cons, List.flatMap_nil, List.append_nil, List.map_cons, List.map_nil, List.nil_append]
    induction List.range m with
    | nil => rfl
    | cons a l ih => rw [List.map_cons, List.flatMap_cons, ih]; rfl
  | n + 1 => by
    have ih := lastL_cons m n
    show (lastL m (n + 1)).flatMap _ = _
    conv => lhs; rw [ih]
    rw [List.flatMap_assoc]
    congr 1
    funext t
    rw [List.flatMap_map]
    show _ = (lastL m (n + 1)).map (t :: ·)
    conv => rhs; unfold lastL
    rw [List.map_flatMap]
    congr 1
    funext row
    rw [List.map_map]
    rfl
theorem lastL_len (m : Nat) : ∀ n, (lastL m n).length = m ^ n
  | 0 => rfl
  | n + 1 => by
    rw [lastL_cons, List.length_flatMap]
    simp only [List.length_map, lastL_len m n]
    rw [List.map_const', List.sum_replicate_nat, List.length_range, Nat.pow_succ, Nat.mul_comm]
theorem lastL_mem {m : Nat} : ∀ {n : Nat} {l : List Nat}, l ∈ lastL m n → l.length = n ∧ ∀ t ∈ l, t < m
  | 0, l, h => by
    simp [lastL] at h
    subst h; simp
  | n + 1, l, h => by
    rw [lastL_cons, List.mem_flatMap] at h
    obtain ⟨t, ht, h⟩ := h
    obtain ⟨l', hl', rfl⟩ := List.mem_map.mp h
    obtain ⟨h1, h2⟩ := lastL_mem hl'
    refine ⟨by simp [h1], fun x hx => ?_⟩
    rcases List.mem_cons.mp hx with rfl | hx
    · exact List.mem_range.mp ht
    · exact h2 x hx
def allL (m : Nat) : Nat → List (List Nat)
  | 0 => [[]]
  | n + 1 => allL m n ++ lastL m (n + 1)
theorem last_le (m : Nat) : ∀ n, (lastL m n).length ≤ (allL m n).length
  | 0 => Nat.le_refl _
  | n + 1 => by simp [allL]
def extL (m : Nat) (row : List Nat) : List (List Nat) := (List.range m).map fun t => row ++ [t]
section
variable (k : Nat) (hp : List MOm)
/-- the inner loop -/
theorem rows3 (m most : Nat) (hm : m ≤ 1000) (row : List Nat) (hrow : row.length ≤ 1000) (acc : List (List Nat)) (hacc : acc.length + m ≤ 1000000) (r last nn s7 : Slotm) (h7 : s7.free = true) :
    ∃ s7', Slotm.free s7' = true ∧ (forL [] (turnF (.v 7) (execs (callK Ps k) l_law_rows_3)) (rngL 0 m) ⟨[.val (.int (m : Int)), .val (.int (most : Int)), r, last, nn, .own (.lst (tt acc)), .val (.tup (ens row)), s7], hp⟩) =
      .ok .nx ⟨[.val (.int (m : Int)), .val (.int (most : Int)), r, last, nn, .own (.lst (tt (acc ++ extL m row))), .val (.tup (ens row)), s7'], hp⟩ := by
  suffices h : (forL [] (turnF (.v 7) (execs (callK Ps k) l_law_rows_3)) (rngL 0 m) ⟨[.val (.int (m : Int)), .val (.int (most : Int)), r, last, nn, .own (.lst (tt acc)), .val (.tup (ens row)), s7], hp⟩).sat
      (fun fl st => Hide (fl = .nx ∧ ∃ s7', Slotm.free s7' = true ∧ st = ⟨[.val (.int (m : Int)), .val (.int (most : Int)), r, last, nn, .own (.lst (tt (acc ++ extL m row))), .val (.tup (ens row)), s7'], hp⟩)) noE by
    obtain ⟨fl, st, e, rfl, s7', h, rfl⟩ := sat_eq h
    exact ⟨s7', h, e⟩
  refine forL_rng (fun i st => Hide (∃ s7', Slotm.free s7' = true ∧ st = ⟨[.val (.int (m : Int)), .val (.int (most : Int)), r, last, nn, .own (.lst (tt (acc ++ (List.range i).map fun t => row ++ [t]))), .val (.tup (ens row)), s7'], hp⟩)) ?_ ?_ ?_ (hide ⟨s7, h7, by simp⟩)
  · rintro i st ⟨s7', _, rfl⟩
    rfl
  · rintro i st hi ⟨s7', h, rfl⟩
    have e : tt (acc ++ (List.range (i + 1)).map fun t => row ++ [t]) = tt (acc ++ (List.range i).map fun t => row ++ [t]) ++ [.tup (ens row ++ [.int (i : Int)])] := by
      rw [List.range_succ, List.map_append, ← List.append_assoc, tt_app]
      simp [tt, ens_app, ens_cons]
    have hl : (tt (acc ++ (List.range i).map fun t => row ++ [t])).length < 16777216 := by
      rw [tt_len]; simp; omega
    have hl2 : (ens row).length + 1 ≤ 16777216 := by rw [ens_len]; omega
    have tn : turnF (.v 7) (execs (callK Ps k) l_law_rows_3) (.int (0 + (i : Int))) ⟨[.val (.int (m : Int)), .val (.int (most : Int)), r, last, nn, .own (.lst (tt (acc ++ (List.range i).map fun t => row ++ [t]))), .val (.tup (ens row)), s7'], hp⟩ =
        .ok .nx ⟨[.val (.int (m : Int)), .val (.int (most : Int)), r, last, nn, .own (.lst (tt (acc ++ (List.range (i + 1)).map fun t => row ++ [t]))), .val (.tup (ens row)), .val (.int (i : Int))], hp⟩ := by
      rw [e]
      generalize tt (acc ++ (List.range i).map fun t => row ++ [t]) = A at hl ⊢
      generalize ens row = R at hl2 ⊢
      have hl2' : R.length < 16777216 := by omega
      simp -implicitDefEqProofs -dsimp [sets1_free h, l_law_rows_3, hl, hl2, hl2']
    rw [tn]
    exact hide ⟨_, rfl, rfl⟩
  · rintro st ⟨s7', h, rfl⟩
    exact hide ⟨rfl, s7', h, rfl⟩
/-- the middle loop -/
theorem rows2 (m most : Nat) (hm : m ≤ 1000) (r last nn : Slotm) (ds : List (Nat × List PVm)) (hds : ∀ a b c, depsOk ds ⟨[.val (.int (m : Int)), .val (.int (most : Int)), r, last, nn, a, b, c], hp⟩ = true) :
    ∀ (post acc : List (List Nat)) (s6 s7 : Slotm), s6.free = true → s7.free = true → (∀ row ∈ post, row.length ≤ 1000) → acc.length + post.length * m ≤ 1000000 →
    ∃ s6' s7', Slotm.free s6' = true ∧ Slotm.free s7' = true ∧ (forL ds (turnF (.v 6) (execs (callK Ps k) l_law_rows_2)) (tt post) ⟨[.val (.int (m : Int)), .val (.int (most : Int)), r, last, nn, .own (.lst (tt acc)), s6, s7], hp⟩) =
      .ok .nx ⟨[.val (.int (m : Int)), .val (.int (most : Int)), r, last, nn, .own (.lst (tt (acc ++ post.flatMap (extL m)))), s6', s7'], hp⟩
  | [], acc, s6, s7, h6, h7, _, _ => by
    refine ⟨s6, s7, h6, h7, ?_⟩
    show forL ds _ [] _ = _
    unfold forL
    rw [if_pos (hds _ _ _)]
    simp
  | row :: post, acc, s6, s7, h6, h7, hr, hl => by
    have hlm : acc.length + m + post.length * m ≤ 1000000 := by
      rw [List.length_cons, Nat.add_mul] at hl; omega
    obtain ⟨s7', g7, e7⟩ := rows3 k hp m most hm row (hr row List.mem_cons_self) acc (by omega) r last nn s7 h7
    obtain ⟨s6'', s7'', g6, g7', e6⟩ := rows2 m most hm r last nn ds hds post (acc ++ extL m row) (.val (.tup (ens row))) s7' rfl g7 (fun x hx => hr x (List.mem_cons_of_mem _ hx)) (by simp [extL]; omega)
    refine ⟨s6'', s7'', g6, g7', ?_⟩
    show forL ds _ (.tup (ens row) :: tt post) _ = _
    unfold forL
    rw [if_pos (hds _ _ _)]
    have q : (-4611686018427387904 : Int) ≤ (m : Int) ∧ (m : Int) < 4611686018427387904 := by omega
    have tn : turnF (.v 6) (execs (callK Ps k) l_law_rows_2) (.tup (ens row)) ⟨[.val (.int (m : Int)), .val (.int (most : Int)), r, last, nn, .own (.lst (tt acc)), s6, s7], hp⟩ =
        .ok .nx ⟨[.val (.int (m : Int)), .val (.int (most : Int)), r, last, nn, .own (.lst (tt (acc ++ extL m row))), .val (.tup (ens row)), s7'], hp⟩ := by
      simp -implicitDefEqProofs -dsimp [sets1_free h6, l_law_rows_2, q, e7]
    rw [tn, Resm.bind_ok]
    show forL ds _ (tt post) _ = _
    rw [e6, List.flatMap_cons, List.append_assoc]
end
section
variable (k : Nat) (hp : List MOm)
theorem rows1 (m most n : Nat) (hm : m ≤ 1000) (hn : n ≤ 900) (hB : (allL m (n + 1)).length ≤ 100000) (hB2 : (lastL m n).length * m ≤ 100000) (s3 s4 s5 s6 s7 : Slotm)
    (h3 : s3 = .own (.lst (tt (lastL m n))) ∨ s3 = .val (.lst (tt (lastL m n)))) (h4 : s4.free = true) (h5 : s5.free = true) (h6 : s6.free = true) (h7 : s7.free = true) :
    ∃ s5' s6' s7', Slotm.free s5' = true ∧ Slotm.free s6' = true ∧ Slotm.free s7' = true ∧
    turnF (.v 4) (execs (callK Ps k) l_law_rows_1) (.int (0 + (n : Int))) ⟨[.val (.int (m : Int)), .val (.int (most : Int)), .own (.lst (tt (allL m n))), s3, s4, s5, s6, s7], hp⟩ =
      .ok .nx ⟨[.val (.int (m : Int)), .val (.int (most : Int)), .own (.lst (tt (allL m (n + 1)))), .val (.lst (tt (lastL m (n + 1)))), .val (.int (n : Int)), s5', s6', s7'], hp⟩ := by
  have hrow : ∀ row ∈ lastL m n, row.length ≤ 1000 := fun row hr => by have := (lastL_mem hr).1; omega
  have e1 : (lastL m n).flatMap (extL m) = lastL m (n + 1) := rfl
  have hle : (tt (allL m n)).length + (tt (lastL m (n + 1))).length ≤ 16777216 := by
    rw [tt_len, tt_len]
    have : (allL m (n + 1)).length = (allL m n).length + (lastL m (n + 1)).length := by simp [allL]
    omega
  have e2 : tt (allL m n) ++ tt (lastL m (n + 1)) = tt (allL m (n + 1)) := by rw [← tt_app]; rfl
  rcases h3 with rfl | rfl
  · obtain ⟨s6', s7', g6, g7, e⟩ := rows2 k hp m most hm (.own (.lst (tt (allL m n)))) (.own (.lst (tt (lastL m n)))) (.val (.int (n : Int))) [(3, tt (lastL m n))] (fun a b c => by simp [depsOk, depOk]) (lastL m n) [] s6 s7 h6 h7 hrow (by simp; omega)
    rw [e1, List.nil_append] at e
    refine ⟨.val (.lst (tt (lastL m (n + 1)))), s6', s7', rfl, g6, g7, ?_⟩
    have e' : forL [(3, tt (lastL m n))] (turnF (.v 6) (execs (callK Ps k) l_law_rows_2)) (tt (lastL m n)) ⟨[.val (.int (m : Int)), .val (.int (most : Int)), .own (.lst (tt (allL m n))), .own (.lst (tt (lastL m n))), .val (.int (n : Int)), .own (.lst []), s6, s7], hp⟩ = _ := e
    rw [← e2]
    generalize tt (lastL m (n + 1)) = L1 at *
    generalize tt (allL m n) = AA at *
    generalize tt (lastL m n) = L0 at *
    have hst : l_law_rows_2.stos = [7] := rfl
    simp -implicitDefEqProofs -dsimp [sets1_free h4, sets1_free h5, l_law_rows_1, e', hst, hle, Tgtm.vars]
  · obtain ⟨s6', s7', g6, g7, e⟩ := rows2 k hp m most hm (.own (.lst (tt (allL m n)))) (.val (.lst (tt (lastL m n)))) (.val (.int (n : Int))) [] (fun a b c => by simp [depsOk, depOk]) (lastL m n) [] s6 s7 h6 h7 hrow (by simp; omega)
    rw [e1, List.nil_append] at e
    refine ⟨.val (.lst (tt (lastL m (n + 1)))), s6', s7', rfl, g6, g7, ?_⟩
    have e' : forL [] (turnF (.v 6) (execs (callK Ps k) l_law_rows_2)) (tt (lastL m n)) ⟨[.val (.int (m : Int)), .val (.int (most : Int)), .own (.lst (tt (allL m n))), .val (.lst (tt (lastL m n))), .val (.int (n : Int)), .own (.lst []), s6, s7], hp⟩ = _ := e
    rw [← e2]
    generalize tt (lastL m (n + 1)) = L1 at *
    generalize tt (allL m n) = AA at *
    generalize tt (lastL m n) = L0 at *
    have hst : l_law_rows_2.stos = [7] := rfl
    simp -implicitDefEqProofs -dsimp [sets1_free h4, sets1_free h5, l_law_rows_1, e', hst, hle, Tgtm.vars]
theorem s_rows (m most : Nat) (hm : m ≤ 1000) (hn : most ≤ 900) (hB : ∀ n, n < most → (allL m (n + 1)).length ≤ 100000 ∧ (lastL m n).length * m ≤ 100000) :
    callK Ps (k+1) 20 [.val (.int (m : Int)), .val (.int (most : Int))] hp = .ok (.own (.lst (tt (allL m most)))) [.no, .no] hp := by
  rw [callK_at (d := d_law_rows) rfl _ _ _ rfl]
  have hb : d_law_rows.body = b_law_rows_0 := rfl
  have hnp : d_law_rows.npar = 2 := rfl
  have hlo : d_law_rows.nloc = 6 := rfl
  have hs : d_law_rows.body.stos = [2, 3, 4, 5, 6, 7, 3] := rfl
  have q : (-4611686018427387904 : Int) ≤ (most : Int) ∧ (most : Int) < 4611686018427387904 := by omega
  simp -implicitDefEqProofs -dsimp [hb, hnp, hlo, ↓hs, b_law_rows_0, b_law_rows_1, b_law_rows_2, q]
  refine endD_eq ?_
  rw [sat_bd]
  refine forL_rng (fun n st => Hide (∃ s3 s4 s5 s6 s7 : Slotm, (s3 = .own (.lst (tt (lastL m n))) ∨ s3 = .val (.lst (tt (lastL m n)))) ∧ s4.free = true ∧ s5.free = true ∧ s6.free = true ∧ s7.free = true ∧ st = ⟨[.val (.int (m : Int)), .val (.int (most : Int)), .own (.lst (tt (allL m n))), s3, s4, s5, s6, s7], hp⟩)) ?_ ?_ ?_ (hide ⟨_, .no, .no, .no, .no, .inl rfl, rfl, rfl, rfl, rfl, rfl⟩)
  · rintro n st ⟨s3, s4, s5, s6, s7, _, _, _, _, _, rfl⟩
    rfl
  · rintro n st hi ⟨s3, s4, s5, s6, s7, h3, h4, h5, h6, h7, rfl⟩
    obtain ⟨b1, b2⟩ := hB n hi
    obtain ⟨s5', s6', s7', g5, g6, g7, e⟩ := rows1 k hp m most n hm (by omega) b1 b2 s3 s4 s5 s6 s7 h3 h4 h5 h6 h7
    rw [e]
    exact hide ⟨_, _, _, _, _, .inr rfl, rfl, g5, g6, g7, rfl⟩
  · rintro st ⟨s3, s4, s5, s6, s7, h3, h4, h5, h6, h7, rfl⟩
    simp -implicitDefEqProofs -dsimp [b_law_rows_3]
end
theorem allL_len (m : Nat) (h : 1 ≤ m) : ∀ n, (allL m n).length ≤ (n + 1) * m ^ n
  | 0 => by simp [allL]
  | n + 1 => by
    show (allL m n ++ lastL m (n + 1)).length ≤ _
    rw [List.length_append, lastL_len]
    have ih := allL_len m h n
    have : m ^ n ≤ m ^ (n + 1) := Nat.pow_le_pow_right h (by omega)
    have : (n + 1) * m ^ n ≤ (n + 1) * m ^ (n + 1) := Nat.mul_le_mul_left _ this
    rw [Nat.succ_mul (n + 1)]
    omega
theorem few {m b : Nat} (h1 : 1 ≤ m) (h2 : m ≤ 4) (hb : b ≤ 6) : ∀ n, n < b → (allL m (n + 1)).length ≤ 100000 ∧ (lastL m n).length * m ≤ 100000 := by
  intro n hn
  have p : m ^ (n + 1) ≤ 4096 := Nat.le_trans (Nat.pow_le_pow_left h2 (n + 1)) (Nat.le_trans (Nat.pow_le_pow_right (by decide) (show n + 1 ≤ 6 by omega)) (by decide))
  constructor
  · have := allL_len m h1 (n + 1)
    have e : (n + 1 + 1) * m ^ (n + 1) ≤ 7 * 4096 := Nat.mul_le_mul (by omega) p
    omega
  · rw [lastL_len]
    show m ^ (n + 1) ≤ _
    omega
end K01

set_option linter.all false
set_option maxRecDepth 100000
/-! K01p5: texts, the number of a token. -/
namespace K01
open Mp
def TEXT : List Nat := [116, 101, 120, 116]
def okC (c : Nat) : Bool := decide (32 ≤ c) && decide (c ≤ 126) && !decide (c = 37)
def okT (s : List Nat) : Bool := s.all okC
def txts (l : List (List Nat)) : List PVm := l.map .str
@[simp] theorem txts_len (l : List (List Nat)) : (txts l).length = l.length := by simp [txts]
/-- a text that may be asked for -/
def goodT : PVm → Bool
  | .str s => okT s && decide (s.length ≤ 1200)
  | _ => false
section
variable (k : Nat) (hp : List MOm)
theorem s_is_text (s : List Nat) : callK Ps (k+1) 0 [.val (.str s)] hp = .ok (.val (.bl (okT s))) [.no] hp := by
  rw [callK_at (d := d_is_text) rfl _ _ _ rfl]
  have hb : d_is_text.body = b_is_text_0 := rfl
  have hn : d_is_text.npar = 1 := rfl
  have hlo : d_is_text.nloc = 1 := rfl
  have hs : d_is_text.body.stos = [1] := rfl
  simp -implicitDefEqProofs -dsimp [hb, hn, hlo, ↓hs, b_is_text_0, b_is_text_1, isTy]
  refine endD_eq ?_
  rw [sat_bd]
  have key : ∀ (post : List Nat) (s1 : Slotm), s1.free = true →
      (forL [] (turnF (.v 1) (execs (callK Ps k) l_is_text_1)) (post.map fun c => PVm.str [c]) ⟨[.val (.str s), s1], hp⟩).sat
        (fun fl st => Hide (fl = (if post.all okC = true then .nx else .ret (.val (.bl false))) ∧ ∃ s1 : Slotm, st = ⟨[.val (.str s), s1], hp⟩)) noE := by
    intro post
    induction post with
    | nil =>
      intro s1 h1
      simp -implicitDefEqProofs -dsimp [forL]
      exact hide ⟨rfl, _, rfl⟩
    | cons c post ih =>
      intro s1 h1
      rw [List.map_cons]
      unfold forL
      rw [if_pos (by rfl)]
      by_cases hc : okC c = true
      · have h' := hc
        simp only [okC, Bool.and_eq_true, decide_eq_true_eq, Bool.not_eq_true', decide_eq_false_iff_not] at h'
        have g1 : (32 : Int) ≤ (c : Int) := by omega
        have g2 : (c : Int) ≤ 126 := by omega
        have g3 : ¬ (c : Int) = 37 := by omega
        have tn : turnF (.v 1) (execs (callK Ps k) l_is_text_1) (.str [c]) ⟨[.val (.str s), s1], hp⟩ = .ok .nx ⟨[.val (.str s), .val (.str [c])], hp⟩ := by
          simp -implicitDefEqProofs -dsimp [sets1_free h1, l_is_text_1, g1, g2, g3]
        rw [tn, Resm.bind_ok]
        refine sat_mono (ih _ rfl) ?_ (fun _ _ h => h)
        rintro fl st ⟨e, s1', rfl⟩
        exact hide ⟨by rw [e, List.all_cons, hc, Bool.true_and], s1', rfl⟩
      · have hc0 : okC c = false := by simpa using hc
        have tn : turnF (.v 1) (execs (callK Ps k) l_is_text_1) (.str [c]) ⟨[.val (.str s), s1], hp⟩ = .ok (.ret (.val (.bl false))) ⟨[.val (.str s), .val (.str [c])], hp⟩ := by
          simp only [okC, Bool.and_eq_false_iff, decide_eq_false_iff_not, Bool.not_eq_false', decide_eq_true_eq] at hc0
          by_cases a : (32 : Int) ≤ (c : Int)
          · by_cases b : (c : Int) ≤ 126
            · have g3 : (c : Int) = 37 := by omega
              simp -implicitDefEqProofs -dsimp [sets1_free h1, l_is_text_1, a, b, g3]
            · simp -implicitDefEqProofs -dsimp [sets1_free h1, l_is_text_1, a, b]
          · simp -implicitDefEqProofs -dsimp [sets1_free h1, l_is_text_1, a]
        rw [tn, Resm.bind_ok]
        exact hide ⟨by rw [List.all_cons, hc0, Bool.false_and]; rfl, _, rfl⟩
  refine sat_mono (key s .no rfl) ?_ (fun _ _ h => h.elim)
  rintro fl st ⟨rfl, s1, rfl⟩
  unfold okT
  cases s.all okC <;> simp -implicitDefEqProofs -dsimp [b_is_text_2]
theorem s_is_text0 (v : PVm) (hv : v.nref = true) (h : (match v with | .str _ => false | _ => true) = true) : callK Ps (k+1) 0 [.val v] hp = .ok (.val (.bl false)) [.no] hp := by
  rw [callK_at (d := d_is_text) rfl _ _ _ rfl]
  have hb : d_is_text.body = b_is_text_0 := rfl
  have hn : d_is_text.npar = 1 := rfl
  have hlo : d_is_text.nloc = 1 := rfl
  have hs : d_is_text.body.stos = [1] := rfl
  cases v <;> first | (cases h; done) | (cases hv; done) | simp -implicitDefEqProofs -dsimp [hb, hn, hlo, ↓hs, b_is_text_0, isTy]
theorem s_ask_t (v : PVm) (hv : v.nref = true) : callK Ps (k+2) 3 [.val v] hp = if goodT v = true then .ok (.val .non) [.no] hp else .err (notUs TEXT) [.no] hp := by
  rw [callK_at (d := d_a_ask_text) rfl _ _ _ rfl]
  by_cases h : (match v with | .str _ => false | _ => true) = true
  · have e : goodT v = false := by cases v <;> first | rfl | cases h
    rw [e, if_neg (by decide)]
    simp -implicitDefEqProofs -dsimp [d_a_ask_text, CSs.stos, CS.sto, s_is_text0 k hp v hv h, notUs, TEXT]
  · cases v <;> first | (exact absurd rfl h) | skip
    rename_i s
    simp -implicitDefEqProofs -dsimp [d_a_ask_text, CSs.stos, CS.sto, s_is_text k hp s]
    unfold goodT
    cases ht : okT s
    · simp -implicitDefEqProofs -dsimp [notUs, TEXT, ht]
    · by_cases hl : s.length ≤ 1200
      · have : ¬ (1200 : Int) < (s.length : Int) := by omega
        simp -implicitDefEqProofs -dsimp [hl, this, ht]
      · have : (1200 : Int) < (s.length : Int) := by omega
        simp -implicitDefEqProofs -dsimp [hl, this, ht, notUs, TEXT]
/-- the first place of a text -/
def nix (t : List Nat) : List (List Nat) → Nat → Int
  | [], _ => -1
  | w :: r, i => if w = t then (i : Int) else nix t r (i + 1)
/-- the last place -/
def lnx (t : List Nat) : List (List Nat) → Nat → Int → Int
  | [], _, d => d
  | w :: r, i, d => lnx t r (i + 1) (if w = t then (i : Int) else d)
theorem lnx_out {t : List Nat} : ∀ {l : List (List Nat)} (i : Nat) (d : Int), t ∉ l → lnx t l i d = d
  | [], _, _, _ => rfl
  | w :: r, i, d, h => by
    have h1 : ¬ w = t := fun z => h (by rw [z]; exact List.mem_cons_self)
    show lnx t r (i + 1) (if w = t then (i : Int) else d) = d
    rw [if_neg h1]
    exact lnx_out (i + 1) d fun z => h (List.mem_cons_of_mem _ z)
theorem nix_lnx {t : List Nat} : ∀ {l : List (List Nat)} (i : Nat), l.Nodup → nix t l i = lnx t l i (-1)
  | [], _, _ => rfl
  | w :: r, i, h => by
    have h := List.nodup_cons.mp h
    show (if w = t then (i : Int) else nix t r (i + 1)) = lnx t r (i + 1) (if w = t then (i : Int) else -1)
    by_cases e : w = t
    · rw [if_pos e, if_pos e, lnx_out _ _ (by rw [← e]; exact h.1)]
    · rw [if_neg e, if_neg e]
      exact nix_lnx (i + 1) h.2
theorem s_number (toks : List (List Nat)) (t : List Nat) (h : goodT (.str t) = true) :
    callK Ps (k+3) 4 [.val (.tup (txts toks)), .val (.str t)] hp = .ok (.val (.int (nix t toks 0))) [.no, .no] hp := by
  rw [callK_at (d := d_token_number) rfl _ _ _ rfl]
  have hb : d_token_number.body = b_token_number_0 := rfl
  have hn : d_token_number.npar = 2 := rfl
  have hlo : d_token_number.nloc = 2 := rfl
  have hs : d_token_number.body.stos = [2, 3] := rfl
  have ha := s_ask_t k hp (.str t) rfl
  rw [h, if_pos rfl] at ha
  simp -implicitDefEqProofs -dsimp [hb, hn, hlo, ↓hs, b_token_number_0, b_token_number_1, ha]
  refine endD_eq ?_
  rw [sat_bd]
  have key : ∀ (post : List (List Nat)) (i : Nat) (s1 s2 : Slotm), s1.free = true → s2.free = true →
      (forL [] (turnF (.t [.v 2, .v 3]) (execs (callK Ps (k + 2)) l_token_number_1)) (enumL i (txts post)) ⟨[.val (.tup (txts toks)), .val (.str t), s1, s2], hp⟩).sat
        (fun fl st => Hide ((fl = .ret (.val (.int (nix t post i))) ∨ (fl = .nx ∧ nix t post i = -1)) ∧ ∃ (s1 s2 : Slotm), st = ⟨[.val (.tup (txts toks)), .val (.str t), s1, s2], hp⟩)) noE := by
    intro post
    induction post with
    | nil =>
      intro i s1 s2 h1 h2
      simp -implicitDefEqProofs -dsimp [forL, txts, enumL]
      exact hide ⟨.inr ⟨rfl, rfl⟩, _, _, rfl⟩
    | cons w post ih =>
      intro i s1 s2 h1 h2
      show (forL [] _ (.tup [.int (i : Int), .str w] :: enumL (i + 1) (txts post)) _).sat _ _
      unfold forL
      rw [if_pos (by rfl)]
      by_cases e : w = t
      · have tn : turnF (.t [.v 2, .v 3]) (execs (callK Ps (k + 2)) l_token_number_1) (.tup [.int (i : Int), .str w]) ⟨[.val (.tup (txts toks)), .val (.str t), s1, s2], hp⟩ = .ok (.ret (.val (.int (i : Int)))) ⟨[.val (.tup (txts toks)), .val (.str t), .val (.int (i : Int)), .val (.str w)], hp⟩ := by
          simp -implicitDefEqProofs -dsimp [sets1_free h1, sets1_free h2, l_token_number_1, e]
        rw [tn, Resm.bind_ok]
        refine hide ⟨.inl ?_, _, _, rfl⟩
        show _ = Flm.ret (.val (.int (if w = t then (i : Int) else nix t post (i + 1))))
        rw [if_pos e]
      · have tn : turnF (.t [.v 2, .v 3]) (execs (callK Ps (k + 2)) l_token_number_1) (.tup [.int (i : Int), .str w]) ⟨[.val (.tup (txts toks)), .val (.str t), s1, s2], hp⟩ = .ok .nx ⟨[.val (.tup (txts toks)), .val (.str t), .val (.int (i : Int)), .val (.str w)], hp⟩ := by
          simp -implicitDefEqProofs -dsimp [sets1_free h1, sets1_free h2, l_token_number_1, e]
        rw [tn, Resm.bind_ok]
        refine sat_mono (ih (i + 1) _ _ rfl rfl) ?_ (fun _ _ h => h)
        rintro fl st ⟨hf, s1', s2', rfl⟩
        refine hide ⟨?_, s1', s2', rfl⟩
        have q : nix t (w :: post) i = nix t post (i + 1) := by
          show (if w = t then (i : Int) else nix t post (i + 1)) = _
          rw [if_neg e]
        rw [q]; exact hf
  refine sat_mono (key toks 0 .no .no rfl rfl) ?_ (fun _ _ h => h.elim)
  rintro fl st ⟨hf, s1, s2, rfl⟩
  rcases hf with rfl | ⟨rfl, e⟩
  · simp -implicitDefEqProofs -dsimp
  · rw [e]
    simp -implicitDefEqProofs -dsimp [b_token_number_2]
theorem s_number_r (w v : PVm) (hv : v.nref = true) (h : goodT v = false) :
    callK Ps (k+3) 4 [.val w, .val v] hp = .err (notUs TEXT) [.no, .no] hp := by
  rw [callK_at (d := d_token_number) rfl _ _ _ rfl]
  have hb : d_token_number.body = b_token_number_0 := rfl
  have hn : d_token_number.npar = 2 := rfl
  have hlo : d_token_number.nloc = 2 := rfl
  have hs : d_token_number.body.stos = [2, 3] := rfl
  have ha := s_ask_t k hp v hv
  rw [h, if_neg (by decide)] at ha
  simp -implicitDefEqProofs -dsimp [hb, hn, hlo, ↓hs, b_token_number_0, ha]
theorem s_lnumber (toks : List (List Nat)) (t : List Nat) (hl : toks.length ≤ 1000) :
    callK Ps (k+1) 16 [.val (.tup (txts toks)), .val (.str t)] hp = .ok (.val (.int (lnx t toks 0 (-1)))) [.no, .no] hp := by
  rw [callK_at (d := d_law_number) rfl _ _ _ rfl]
  have hb : d_law_number.body = b_law_number_0 := rfl
  have hn : d_law_number.npar = 2 := rfl
  have hlo : d_law_number.nloc = 2 := rfl
  have hs : d_law_number.body.stos = [2, 3, 2] := rfl
  have q : (-4611686018427387904 : Int) ≤ (toks.length : Int) ∧ (toks.length : Int) < 4611686018427387904 := by omega
  simp -implicitDefEqProofs -dsimp [hb, hn, hlo, ↓hs, b_law_number_0, b_law_number_1, q]
  refine endD_eq ?_
  rw [sat_bd]
  refine forL_rng (fun i st => Hide (∃ (d : Int) (s3 : Slotm), s3.free = true ∧ lnx t (toks.drop i) i d = lnx t toks 0 (-1) ∧ st = ⟨[.val (.tup (txts toks)), .val (.str t), .val (.int d), s3], hp⟩)) ?_ ?_ ?_ (hide ⟨-1, .no, rfl, rfl, rfl⟩)
  · rintro i st ⟨d, s3, _, _, rfl⟩
    rfl
  · rintro i st hi ⟨d, s3, h3, e, rfl⟩
    have ha : atI (txts toks) (i : Int) = some (.str toks[i]) := by rw [atI_nat]; simp [txts, hi]
    rw [List.drop_eq_getElem_cons hi] at e
    have e : lnx t (toks.drop (i + 1)) (i + 1) (if toks[i] = t then (i : Int) else d) = _ := e
    by_cases w : toks[i] = t
    · rw [if_pos w] at e
      simp -implicitDefEqProofs -dsimp [sets1_free h3, l_law_number_1, ha, w]
      exact hide ⟨(i : Int), _, rfl, e, rfl⟩
    · rw [if_neg w] at e
      simp -implicitDefEqProofs -dsimp [sets1_free h3, l_law_number_1, ha, w]
      exact hide ⟨d, _, rfl, e, rfl⟩
  · rintro st ⟨d, s3, _, e, rfl⟩
    rw [List.drop_eq_nil_of_le (Nat.le_refl _)] at e
    have e : d = lnx t toks 0 (-1) := e
    simp -implicitDefEqProofs -dsimp [b_law_number_2, e]
end
end K01

set_option linter.all false
set_option maxRecDepth 100000
/-! K01p6: the text of a row; what is told. -/
namespace K01
open Mp
def REF : List Nat := [114, 101, 102, 117, 115, 101, 100]
def refL (w : List Nat) : List PVm := [.str REF, .str w]
def cat (toks : List (List Nat)) (l : List Nat) : List Nat := (l.map fun t => toks.getD t []).flatten
theorem strsOf_txts (l : List (List Nat)) : strsOf (txts l) = some l := by
  induction l with
  | nil => rfl
  | cons w l ih =>
    show (strsOf (txts l)).map (w :: ·) = _
    rw [ih]; rfl
theorem joinS_nil : ∀ l : List (List Nat), joinS [] l = l.flatten
  | [] => rfl
  | [x] => by simp [joinS]
  | x :: y :: r => by
    show x ++ [] ++ joinS [] (y :: r) = _
    rw [joinS_nil (y :: r)]; simp
theorem join_eq (l : List (List Nat)) (st : Sm) (h : (l.map List.length).sum ≤ 16777216) : meJoin (.val (.str [])) (.own (.lst (txts l))) st = .ok (.val (.str l.flatten)) st := by
  have e : ((look (.own (.lst (txts l))) st).bind fun v => v.seqOf.bind strsOf) = some l := strsOf_txts l
  unfold meJoin
  rw [e]
  show (if (l.map List.length).sum + l.length * 0 ≤ 16777216 then Resm.ok (RVm.val (.str (joinS [] l))) st else .stuck) = _
  rw [if_pos (by omega), joinS_nil]
theorem sum_len_le {l : List (List Nat)} {c : Nat} (h : ∀ w ∈ l, w.length ≤ c) : (l.map List.length).sum ≤ l.length * c := by
  induction l with
  | nil => simp
  | cons w l ih =>
    have := h w (by simp)
    have := ih fun v hv => h v (by simp [hv])
    simp [Nat.succ_mul]; omega
section
variable (k : Nat) (hp : List MOm)
theorem s_row_text (toks : List (List Nat)) (ht : ∀ w ∈ toks, w.length ≤ 12) {l : List Nat} (h : ∀ t ∈ l, t < toks.length) (hl : l.length ≤ 60) :
    callK Ps (k+4) 7 [.val (.tup (txts toks)), .val (.tup (ens l))] hp = .ok (.val (.str (cat toks l))) [.no, .no] hp := by
  rw [callK_at (d := d_row_text) rfl _ _ _ rfl]
  have hb : d_row_text.body = b_row_text_0 := rfl
  have hn : d_row_text.npar = 2 := rfl
  have hlo : d_row_text.nloc = 1 := rfl
  have hs : d_row_text.body.stos = [] := rfl
  have ha := s_ask k hp (txts toks) (ens l) (ens_nref l)
  rw [txts_len, rowB_ens h hl, if_pos rfl] at ha
  have hlen : ((l.map fun t => toks.getD t []).map List.length).sum ≤ 16777216 := by
    have := sum_len_le (l := l.map fun t => toks.getD t []) (c := 12) (fun w hw => by
      obtain ⟨t, ht', rfl⟩ := List.mem_map.mp hw
      have := h t ht'
      exact ht _ (by simp [this]))
    simp at this ⊢; omega
  have hc : compL [] (compB (.v 2) (evT (callK Ps (k+3)) (.cst (.bl true))) (ev (callK Ps (k+3)) (.idx (.var 0) (.var 2))) [2]) (ens l) [] ⟨[.val (.tup (txts toks)), .val (.tup (ens l)), .no], hp⟩ = .ok ([] ++ l.map fun t => PVm.str (toks.getD t [])) ⟨[.val (.tup (txts toks)), .val (.tup (ens l)), .no], hp⟩ := by
    refine compL_enc (enc := fun n : Nat => PVm.int (n : Int)) (fun t => PVm.str (toks.getD t [])) l [] rfl (fun a ha => ?_) (by simp; omega)
    have hlt := h a ha
    have e : atI (txts toks) (a : Int) = some (.str (toks.getD a [])) := by rw [atI_nat]; simp [txts, hlt]
    simp -implicitDefEqProofs -dsimp [compB_eq, e, -List.getD_eq_getElem?_getD]
  have e2 : [] ++ l.map (fun t => PVm.str (toks.getD t [])) = txts (l.map fun t => toks.getD t []) := by simp [txts]
  rw [e2] at hc
  have hj := fun st => join_eq (l.map fun t => toks.getD t []) st hlen
  unfold cat
  generalize (l.map fun t => toks.getD t []) = L at hc hj ⊢
  simp only [ev_idx, ev_var, evT_cst] at hc
  simp -implicitDefEqProofs -dsimp [hb, hn, hlo, ↓hs, b_row_text_0, b_row_text_1, ha, hc, hj]
theorem s_row_text_r {toks : List PVm} {v : PVm} (hv : v.nref = true) (h : (match v with | .tup l => l.all PVm.nref && !rowB toks.length l | _ => true) = true) :
    callK Ps (k+4) 7 [.val (.tup toks), .val v] hp = .err (notUs ROW) [.no, .no] hp := by
  rw [callK_at (d := d_row_text) rfl _ _ _ rfl]
  have hb : d_row_text.body = b_row_text_0 := rfl
  have hn : d_row_text.npar = 2 := rfl
  have hlo : d_row_text.nloc = 1 := rfl
  have hs : d_row_text.body.stos = [] := rfl
  have ha : callK Ps (k+3) 6 [.val (.tup toks), .val v] hp = .err (notUs ROW) [.no, .no] hp := by
    by_cases ht : isTup v = true
    · cases v <;> first | (cases ht; done) | skip
      rename_i l
      simp only [Bool.and_eq_true, Bool.not_eq_true'] at h
      rw [s_ask k hp toks l h.1, h.2, if_neg (by decide)]
    · exact s_ask0 k hp toks v hv (by simpa using ht)
  simp -implicitDefEqProofs -dsimp [hb, hn, hlo, ↓hs, b_row_text_0, ha]
/-- a list of one's own as a row -/
theorem s_row_text_l (w : PVm) (l : List PVm) :
    callK Ps (k+4) 7 [.val w, .lent (.lst l)] hp = .err (notUs ROW) [.no, .lent (.lst l)] hp := by
  have e1 : callK Ps (k+2) 5 [.val w, .lent (.lst l)] hp = .ok (.val (.bl false)) [.no, .lent (.lst l)] hp := by
    rw [callK_at (d := d_is_row) rfl _ _ _ rfl]
    have hb : d_is_row.body = b_is_row_0 := rfl
    have hn : d_is_row.npar = 2 := rfl
    have hlo : d_is_row.nloc = 1 := rfl
    have hs : d_is_row.body.stos = [2] := rfl
    simp -implicitDefEqProofs -dsimp [hb, hn, hlo, ↓hs, b_is_row_0, isTy]
  have e2 : callK Ps (k+3) 6 [.val w, .lent (.lst l)] hp = .err (notUs ROW) [.no, .lent (.lst l)] hp := by
    rw [callK_at (d := d_a_ask_row) rfl _ _ _ rfl]
    have hb : d_a_ask_row.body = b_a_ask_row_0 := rfl
    have hn : d_a_ask_row.npar = 2 := rfl
    have hlo : d_a_ask_row.nloc = 0 := rfl
    have hs : d_a_ask_row.body.stos = [] := rfl
    simp -implicitDefEqProofs -dsimp [hb, hn, hlo, ↓hs, b_a_ask_row_0, e1, notUs, ROW]
  rw [callK_at (d := d_row_text) rfl _ _ _ rfl]
  have hb : d_row_text.body = b_row_text_0 := rfl
  have hn : d_row_text.npar = 2 := rfl
  have hlo : d_row_text.nloc = 1 := rfl
  have hs : d_row_text.body.stos = [] := rfl
  simp -implicitDefEqProofs -dsimp [hb, hn, hlo, ↓hs, b_row_text_0, e2, notUs, ROW]
theorem t_number (a b : PVm) (e : Bool) {res : CRes} (h : callK Ps k 4 [.val a, .val b] hp = res) (r : RVm)
    (ht : (∃ v, res = .ok (.val v) [.no, .no] hp ∧ r = .val v) ∨ ∃ w, res = .err (notUs w) [.no, .no] hp ∧ r = .own (.lst (refL w))) :
    callK Ps (k+1) 17 [.val a, .val b, .val (.bl e)] hp = .ok r [.no, .no, .no] hp := by
  rw [callK_at (d := d_law_number_told) rfl _ _ _ rfl]
  rcases ht with ⟨v, rfl, rfl⟩ | ⟨w, rfl, rfl⟩
  · cases e <;> simp -implicitDefEqProofs -dsimp [d_law_number_told, CSs.stos, CS.sto, permL, h]
  · cases e <;> simp -implicitDefEqProofs -dsimp [d_law_number_told, CSs.stos, CS.sto, permL, h, notUs, hItems, refL, REF]
theorem t_text (a b : PVm) (e : Bool) {res : CRes} (h : callK Ps k 7 [.val a, .val b] hp = res) (r : RVm)
    (ht : (∃ v, res = .ok (.val v) [.no, .no] hp ∧ r = .val v) ∨ ∃ w, res = .err (notUs w) [.no, .no] hp ∧ r = .own (.lst (refL w))) :
    callK Ps (k+1) 18 [.val a, .val b, .val (.bl e)] hp = .ok r [.no, .no, .no] hp := by
  rw [callK_at (d := d_law_text_told) rfl _ _ _ rfl]
  rcases ht with ⟨v, rfl, rfl⟩ | ⟨w, rfl, rfl⟩
  · cases e <;> simp -implicitDefEqProofs -dsimp [d_law_text_told, CSs.stos, CS.sto, permL, h]
  · cases e <;> simp -implicitDefEqProofs -dsimp [d_law_text_told, CSs.stos, CS.sto, permL, h, notUs, hItems, refL, REF]
theorem t_text_l (a : PVm) (l : List PVm) (h : callK Ps k 7 [.val a, .lent (.lst l)] hp = .err (notUs ROW) [.no, .lent (.lst l)] hp) :
    callK Ps (k+1) 18 [.val a, .lent (.lst l), .val (.bl false)] hp = .ok (.own (.lst (refL ROW))) [.no, .lent (.lst l), .no] hp := by
  rw [callK_at (d := d_law_text_told) rfl _ _ _ rfl]
  simp -implicitDefEqProofs -dsimp [d_law_text_told, CSs.stos, CS.sto, permL, h, notUs, hItems, refL, REF]
/-- the law's letters -/
theorem s_letters (toks : List (List Nat)) (ht : ∀ w ∈ toks, w.length ≤ 12) {l : List Nat} (h : ∀ t ∈ l, t < toks.length) (hl : l.length ≤ 1000) :
    callK Ps (k+1) 19 [.val (.tup (txts toks)), .val (.tup (ens l))] hp = .ok (.val (.str (cat toks l))) [.no, .no] hp := by
  rw [callK_at (d := d_law_letters) rfl _ _ _ rfl]
  have hb : d_law_letters.body = b_law_letters_0 := rfl
  have hn : d_law_letters.npar = 2 := rfl
  have hlo : d_law_letters.nloc = 3 := rfl
  have hs : d_law_letters.body.stos = [2, 3, 4, 2] := rfl
  simp -implicitDefEqProofs -dsimp [hb, hn, hlo, ↓hs, b_law_letters_0, b_law_letters_1]
  refine endD_eq ?_
  rw [sat_bd]
  have inner : ∀ (w acc : List Nat) (s3 s4 : Slotm), s4.free = true → acc.length + w.length ≤ 100000 → ∃ s4', Slotm.free s4' = true ∧
      forL [] (turnF (.v 4) (execs (callK Ps k) l_law_letters_2)) (w.map fun c => PVm.str [c]) ⟨[.val (.tup (txts toks)), .val (.tup (ens l)), .val (.str acc), s3, s4], hp⟩ = .ok .nx ⟨[.val (.tup (txts toks)), .val (.tup (ens l)), .val (.str (acc ++ w)), s3, s4'], hp⟩ := by
    intro w
    induction w with
    | nil =>
      intro acc s3 s4 h4 _
      exact ⟨s4, h4, by rw [List.append_nil]; rfl⟩
    | cons c w ih =>
      intro acc s3 s4 h4 hle
      simp only [List.length_cons] at hle
      obtain ⟨s4', g, e⟩ := ih (acc ++ [c]) s3 (.val (.str [c])) rfl (by simp; omega)
      refine ⟨s4', g, ?_⟩
      rw [List.map_cons]
      unfold forL
      rw [if_pos (by rfl)]
      have b1 : acc.length + 1 ≤ 16777216 := by omega
      have b2 : acc.length < 16777216 := by omega
      have tn : turnF (.v 4) (execs (callK Ps k) l_law_letters_2) (.str [c]) ⟨[.val (.tup (txts toks)), .val (.tup (ens l)), .val (.str acc), s3, s4], hp⟩ = .ok .nx ⟨[.val (.tup (txts toks)), .val (.tup (ens l)), .val (.str (acc ++ [c])), s3, .val (.str [c])], hp⟩ := by
        simp -implicitDefEqProofs -dsimp [sets1_free h4, l_law_letters_2, b1, b2]
      rw [tn, Resm.bind_ok]
      show forL _ _ _ _ = _
      rw [e, List.append_assoc]
      rfl
  refine forL_ens (fun pre post st => Hide (l = pre ++ post ∧ (cat toks pre).length ≤ pre.length * 12 ∧ ∃ s3 s4 : Slotm, s3.free = true ∧ s4.free = true ∧ st = ⟨[.val (.tup (txts toks)), .val (.tup (ens l)), .val (.str (cat toks pre)), s3, s4], hp⟩)) ?_ ?_ ?_ l _ (hide ⟨rfl, by simp [cat], .no, .no, rfl, rfl, rfl⟩)
  · rintro pre post st ⟨_, _, s3, s4, _, _, rfl⟩
    rfl
  · rintro pre x post st ⟨e, hle, s3, s4, h3, h4, rfl⟩
    have hx := h x (by rw [e]; simp)
    have hpl : pre.length ≤ 1000 := by have := congrArg List.length e; simp at this; omega
    have hw : (toks.getD x []).length ≤ 12 := ht _ (by simp [hx])
    have ha : atI (txts toks) (x : Int) = some (.str (toks.getD x [])) := by rw [atI_nat]; simp [txts, hx]
    obtain ⟨s4', g4, e4⟩ := inner (toks.getD x []) (cat toks pre) (.val (.int (x : Int))) s4 h4 (by omega)
    have ec : cat toks (pre ++ [x]) = cat toks pre ++ toks.getD x [] := by simp [cat, -List.getD_eq_getElem?_getD]
    generalize toks.getD x [] = W at *
    simp -implicitDefEqProofs -dsimp [sets1_free h3, l_law_letters_1, ha, e4]
    refine hide ⟨by rw [e]; simp, by rw [ec]; simp; omega, _, s4', rfl, g4, by rw [ec]⟩
  · rintro pre st ⟨e, _, s3, s4, h3, h4, rfl⟩
    rw [List.append_nil] at e
    subst e
    simp -implicitDefEqProofs -dsimp [b_law_letters_2]
end
end K01

set_option linter.all false
set_option maxRecDepth 100000
/-! K01p7: inner_texts. -/
namespace K01
open Mp
def NM : List Nat := [105, 110, 110, 101, 114, 95, 116, 101, 120, 116, 115]
def kd (l : List (List Nat)) : List (PVm × PVm) := l.map fun x => (.str x, .bl true)
def addN (l : List (List Nat)) (x : List Nat) : List (List Nat) := if x ∈ l then l else l ++ [x]
def adds (l xs : List (List Nat)) : List (List Nat) := xs.foldl addN l
def pfx (t : List Nat) : List (List Nat) := (List.range t.length).map t.take
theorem ev_srt (C : CallEnv) (t : Nat) (n : List Nat) (a : CE) : ev C (.srt t n a) = eSrt t n (ev C a) := rfl
theorem adds_app (l a b : List (List Nat)) : adds l (a ++ b) = adds (adds l a) b := by simp [adds, List.foldl_append]
theorem adds_mem {l xs : List (List Nat)} {x : List Nat} : x ∈ adds l xs ↔ x ∈ l ∨ x ∈ xs := by
  induction xs generalizing l with
  | nil => simp [adds]
  | cons a xs ih =>
    show x ∈ adds (addN l a) xs ↔ _
    rw [ih]
    unfold addN
    by_cases h : a ∈ l
    · rw [if_pos h]
      constructor
      · rintro (q | q)
        · exact .inl q
        · exact .inr (List.mem_cons_of_mem _ q)
      · rintro (q | q)
        · exact .inl q
        · rcases List.mem_cons.mp q with q | q
          · rw [q]; exact .inl h
          · exact .inr q
    · rw [if_neg h]
      simp only [List.mem_append, List.mem_cons, List.not_mem_nil, or_false]
      constructor
      · rintro ((q | q) | q)
        · exact .inl q
        · exact .inr (.inl q)
        · exact .inr (.inr q)
      · rintro (q | q | q)
        · exact .inl (.inl q)
        · exact .inl (.inr q)
        · exact .inr q
theorem adds_nodup {l xs : List (List Nat)} (h : l.Nodup) : (adds l xs).Nodup := by
  induction xs generalizing l with
  | nil => exact h
  | cons a xs ih =>
    show (adds (addN l a) xs).Nodup
    refine ih ?_
    unfold addN
    by_cases q : a ∈ l
    · rw [if_pos q]; exact h
    · rw [if_neg q]
      rw [List.nodup_append]
      exact ⟨h, by simp, fun x hx y hy z => q (by rw [List.mem_singleton.mp hy] at z; rw [← z]; exact hx)⟩
theorem addN_len (l : List (List Nat)) (x : List Nat) : (addN l x).length ≤ l.length + 1 := by
  unfold addN
  split <;> simp
theorem adds_len (l xs : List (List Nat)) : (adds l xs).length ≤ l.length + xs.length := by
  induction xs generalizing l with
  | nil => simp [adds]
  | cons a xs ih =>
    show (adds (addN l a) xs).length ≤ _
    have := ih (addN l a)
    have := addN_len l a
    simp; omega
theorem kd_put (l : List (List Nat)) (x : List Nat) : dPut (kd l) (.str x) (.bl true) = kd (addN l x) := by
  unfold dPut addN
  have e : ((kd l).any fun q => decide (q.1 = .str x)) = decide (x ∈ l) := by
    induction l with
    | nil => rfl
    | cons a l ih =>
      show (decide (PVm.str a = .str x) || (kd l).any fun q => decide (q.1 = .str x)) = _
      rw [ih]
      by_cases h : a = x
      · simp [h]
      · have : ¬ x = a := fun z => h z.symm
        simp [h, this]
  rw [e]
  by_cases h : x ∈ l
  · rw [if_pos (by simpa using h), if_pos h]
    clear e h
    induction l with
    | nil => rfl
    | cons a l ih =>
      show (if PVm.str a = .str x then (PVm.str a, PVm.bl true) else (.str a, .bl true)) :: List.map (fun q : PVm × PVm => if q.1 = PVm.str x then (q.1, PVm.bl true) else q) (kd l) = (.str a, .bl true) :: kd l
      rw [ih, ite_self]
  · rw [if_neg (by simpa using h), if_neg h]
    simp [kd]
theorem cutS_to (w : List Nat) (i : Nat) : cut w none (some (i : Int)) = w.take i := by
  unfold cut sIx
  have h : ¬ (i : Int) < 0 := by omega
  simp only [h, if_false, Int.toNat_natCast, List.drop_zero, Nat.sub_zero]
  by_cases hi : i ≤ w.length
  · rw [Nat.min_eq_left hi]
  · rw [Nat.min_eq_right (by omega), List.take_of_length_le (by omega), List.take_of_length_le (by omega)]
section
variable (k : Nat) (hp : List MOm)
theorem inTurn (toks : List (List Nat)) (t : List Nat) (ht : t.length ≤ 12) (l : List (List Nat)) (hl : l.length ≤ 100000) (s2 s3 : Slotm) (h2 : s2.free = true) (h3 : s3.free = true) :
    ∃ s3', Slotm.free s3' = true ∧ turnF (.v 2) (execs (callK Ps k) l_inner_texts_1) (.str t) ⟨[.val (.tup (txts toks)), .own (.dic (kd l)), s2, s3], hp⟩ =
      .ok .nx ⟨[.val (.tup (txts toks)), .own (.dic (kd (adds l (pfx t)))), .val (.str t), s3'], hp⟩ := by
  have h : ∃ s3', Slotm.free s3' = true ∧ forL [] (turnF (.v 3) (execs (callK Ps k) l_inner_texts_2)) (rngL 0 t.length) ⟨[.val (.tup (txts toks)), .own (.dic (kd l)), .val (.str t), s3], hp⟩ =
      .ok .nx ⟨[.val (.tup (txts toks)), .own (.dic (kd (adds l (pfx t)))), .val (.str t), s3'], hp⟩ := by
    suffices hh : (forL [] (turnF (.v 3) (execs (callK Ps k) l_inner_texts_2)) (rngL 0 t.length) ⟨[.val (.tup (txts toks)), .own (.dic (kd l)), .val (.str t), s3], hp⟩).sat
        (fun fl st => Hide (fl = .nx ∧ ∃ s3', Slotm.free s3' = true ∧ st = ⟨[.val (.tup (txts toks)), .own (.dic (kd (adds l (pfx t)))), .val (.str t), s3'], hp⟩)) noE by
      obtain ⟨fl, st, e, rfl, s3', h1, rfl⟩ := sat_eq hh
      exact ⟨s3', h1, e⟩
    refine forL_rng (fun i st => Hide (∃ s3', Slotm.free s3' = true ∧ st = ⟨[.val (.tup (txts toks)), .own (.dic (kd (adds l ((List.range i).map t.take)))), .val (.str t), s3'], hp⟩)) ?_ ?_ ?_ (hide ⟨s3, h3, rfl⟩)
    · rintro i st ⟨s, _, rfl⟩
      rfl
    · rintro i st hi ⟨s, hs, rfl⟩
      have e1 : adds l ((List.range (i + 1)).map t.take) = addN (adds l ((List.range i).map t.take)) (t.take i) := by
        rw [List.range_succ, List.map_append, adds_app]; rfl
      have e2 := cutS_to t i
      have hlen : (kd (adds l ((List.range i).map t.take))).length < 16777216 := by
        have := adds_len l ((List.range i).map t.take)
        simp [kd] at this ⊢; omega
      have e3 := kd_put (adds l ((List.range i).map t.take)) (t.take i)
      rw [e1]
      generalize kd (addN (adds l ((List.range i).map t.take)) (t.take i)) = B at e3 ⊢
      generalize kd (adds l ((List.range i).map t.take)) = A at hlen e3 ⊢
      have kk : keyK (.str (t.take i)) = true := rfl
      generalize t.take i = ti at e2 e3 kk
      simp -implicitDefEqProofs -dsimp [sets1_free hs, l_inner_texts_2, e2, hlen, e3, kk]
      exact hide ⟨_, rfl, rfl⟩
    · rintro st ⟨s, hs, rfl⟩
      exact hide ⟨rfl, s, hs, rfl⟩
  obtain ⟨s3', g3, e⟩ := h
  refine ⟨s3', g3, ?_⟩
  have q : (-4611686018427387904 : Int) ≤ (t.length : Int) ∧ (t.length : Int) < 4611686018427387904 := by omega
  generalize kd (adds l (pfx t)) = B at e ⊢
  simp -implicitDefEqProofs -dsimp [sets1_free h2, l_inner_texts_1, q, e]
theorem s_inner_texts (hT : hp[0]? = some (.tbl NM)) (toks : List (List Nat)) (ht : ∀ w ∈ toks, w.length ≤ 12) (hl : toks.length ≤ 1000) :
    callK Ps (k+1) 2 [.val (.tup (txts toks))] hp = .ok (.val (.tup (txts ((adds [] (toks.flatMap pfx)).mergeSort leLT)))) [.no] hp := by
  rw [callK_at (d := d_inner_texts) rfl _ _ _ rfl]
  have hb : d_inner_texts.body = b_inner_texts_0 := rfl
  have hn : d_inner_texts.npar = 1 := rfl
  have hlo : d_inner_texts.nloc = 3 := rfl
  have hs : d_inner_texts.body.stos = [1, 2, 3] := rfl
  simp -implicitDefEqProofs -dsimp [hb, hn, hlo, ↓hs, b_inner_texts_0, b_inner_texts_1]
  refine endD_eq ?_
  rw [sat_bd]
  refine forL_enc (enc := fun w : List Nat => PVm.str w) (fun pre post st => Hide (toks = pre ++ post ∧ ∃ s2 s3 : Slotm, s2.free = true ∧ s3.free = true ∧ st = ⟨[.val (.tup (txts toks)), .own (.dic (kd (adds [] (pre.flatMap pfx)))), s2, s3], hp⟩)) ?_ ?_ ?_ toks [] _ (hide ⟨rfl, .no, .no, rfl, rfl, rfl⟩)
  · rintro pre post st ⟨_, s2, s3, _, _, rfl⟩
    rfl
  · rintro pre w post st ⟨e, s2, s3, h2, h3, rfl⟩
    have hw := ht w (by rw [e]; simp)
    have hpl : pre.length ≤ 1000 := by have := congrArg List.length e; simp at this; omega
    have hll : (adds [] (pre.flatMap pfx)).length ≤ 100000 := by
      have h1 := adds_len ([] : List (List Nat)) (pre.flatMap pfx)
      simp only [List.length_nil, Nat.zero_add] at h1
      have h2 : (pre.flatMap pfx).length ≤ pre.length * 12 := by
        have : ∀ l : List (List Nat), (∀ w ∈ l, w.length ≤ 12) → (l.flatMap pfx).length ≤ l.length * 12 := by
          intro l
          induction l with
          | nil => simp
          | cons a l ih =>
            intro hl
            have := hl a (by simp)
            have := ih fun v hv => hl v (by simp [hv])
            rw [List.flatMap_cons, List.length_append, List.length_cons, Nat.succ_mul]
            simp [pfx] at this ⊢; omega
        exact this pre fun w hw => ht w (by rw [e]; simp [hw])
      omega
    obtain ⟨s3', g3, et⟩ := inTurn k hp toks w hw (adds [] (pre.flatMap pfx)) hll s2 s3 h2 h3
    rw [et]
    refine hide ⟨by rw [e]; simp, .val (.str w), s3', rfl, g3, ?_⟩
    rw [List.flatMap_append, adds_app]
    simp
  · rintro pre st ⟨e, s2, s3, h2, h3, rfl⟩
    rw [List.append_nil] at e
    subst e
    have hsrt : ∀ l : List (List Nat), ev (callK Ps k) (.srt 0 [105, 110, 110, 101, 114, 95, 116, 101, 120, 116, 115] (.bi .list (.cons (.var 1) .nil))) ⟨[.val (.tup (txts toks)), .own (.dic (kd l)), s2, s3], hp⟩ = .ok (.own (.lst (txts (l.mergeSort leLT)))) ⟨[.val (.tup (txts toks)), .own (.dic (kd l)), s2, s3], hp⟩ := by
      intro l
      have e1 : ev (callK Ps k) (.bi .list (.cons (.var 1) .nil)) ⟨[.val (.tup (txts toks)), .own (.dic (kd l)), s2, s3], hp⟩ = .ok (.own (.lst (txts l))) ⟨[.val (.tup (txts toks)), .own (.dic (kd l)), s2, s3], hp⟩ := by
        have : (kd l).map (·.1) = txts l := by simp [kd, txts]
        simp -implicitDefEqProofs -dsimp [this]
      rw [ev_srt]
      unfold eSrt
      rw [e1, Resm.bind_ok]
      have e2 : ((look (.own (.lst (txts l))) (⟨[.val (.tup (txts toks)), .own (.dic (kd l)), s2, s3], hp⟩ : Sm)).bind Viewm.lstOf).bind strsOf = some l := strsOf_txts l
      show (match hp[0]?, ((look (.own (.lst (txts l))) (⟨[.val (.tup (txts toks)), .own (.dic (kd l)), s2, s3], hp⟩ : Sm)).bind Viewm.lstOf).bind strsOf with
        | some (.tbl n'), some l => if n' = NM then Resm.ok (RVm.own (.lst ((l.mergeSort leLT).map .str))) _ else .stuck
        | _, _ => .stuck) = _
      rw [hT, e2]
      show (if NM = NM then _ else _) = _
      rw [if_pos rfl]
      rfl
    have hsr := hsrt (adds [] (toks.flatMap pfx))
    generalize txts ((adds [] (toks.flatMap pfx)).mergeSort leLT) = R at hsr ⊢
    generalize kd (adds [] (toks.flatMap pfx)) = KD at hsr ⊢
    generalize hE : ev (callK Ps k) (.srt 0 [105, 110, 110, 101, 114, 95, 116, 101, 120, 116, 115] (.bi .list (.cons (.var 1) .nil))) = E at hsr
    simp -implicitDefEqProofs -dsimp [b_inner_texts_2, hE, hsr]
end
end K01

set_option linter.all false
set_option maxRecDepth 100000
/-! K01p8: the law's inner texts. -/
namespace K01
open Mp
theorem txts_ok (l : List (List Nat)) : PVm.norefL (txts l) = true ∧ PVm.depthL (txts l) = 0 := by
  induction l with
  | nil => exact ⟨rfl, rfl⟩
  | cons w l ih =>
    obtain ⟨h1, h2⟩ := ih
    refine ⟨?_, ?_⟩
    · show (PVm.noref (.str w) && PVm.norefL (txts l)) = true
      rw [h1]; rfl
    · show max (PVm.depth (.str w)) (PVm.depthL (txts l)) = 0
      rw [h2]; rfl
theorem any_txts (w : List Nat) (l : List (List Nat)) : ((txts l).any fun z => z.eqv (.str w)) = decide (w ∈ l) := by
  induction l with
  | nil => rfl
  | cons a l ih =>
    show ((PVm.str a).eqv (.str w) || (txts l).any fun z => z.eqv (.str w)) = _
    rw [ih]
    have e : (PVm.str a).eqv (.str w) = decide (w = a) := by
      show (a == w) = _
      by_cases h : a = w
      · simp [h]
      · have : ¬ w = a := fun z => h z.symm
        simp [h, this]
    rw [e]
    simp
theorem isin_txts (w : List Nat) (l : List (List Nat)) : cmpV .isin (.p (.str w)) (.m (.lst (txts l))) = some (decide (w ∈ l)) := by
  obtain ⟨h1, h2⟩ := txts_ok l
  have c1 : (PVm.str w).cmpOk = true := rfl
  have c2 : (PVm.lst (txts l)).cmpOk = true := by
    show (PVm.norefL (txts l) && decide (PVm.depthL (txts l) + 1 ≤ 60)) = true
    rw [h1, h2]; rfl
  show (if ((PVm.str w).cmpOk && (PVm.lst (txts l)).cmpOk) = true then some ((txts l).any fun z => z.eqv (.str w)) else none) = _
  rw [c1, c2, any_txts]
  rfl
theorem notin_txts (w : List Nat) (l : List (List Nat)) : cmpV .notin (.p (.str w)) (.m (.lst (txts l))) = some (!decide (w ∈ l)) := by
  show (inO (.p (.str w)) (.m (.lst (txts l)))).map (fun k => !k) = _
  have e : inO (.p (.str w)) (.m (.lst (txts l))) = some (decide (w ∈ l)) := isin_txts w l
  rw [e]; rfl
theorem notin_tup (w : List Nat) (l : List (List Nat)) : cmpV .notin (.p (.str w)) (.p (.tup (txts l))) = some (!decide (w ∈ l)) := by
  obtain ⟨h1, h2⟩ := txts_ok l
  have c1 : (PVm.str w).cmpOk = true := rfl
  have c2 : (PVm.tup (txts l)).cmpOk = true := by
    show (PVm.norefL (txts l) && decide (PVm.depthL (txts l) + 1 ≤ 60)) = true
    rw [h1, h2]; rfl
  have e : inO (.p (.str w)) (.p (.tup (txts l))) = some (decide (w ∈ l)) := by
    show (if ((PVm.str w).cmpOk && (PVm.tup (txts l)).cmpOk) = true then some ((txts l).any fun z => z.eqv (.str w)) else none) = _
    rw [c1, c2, any_txts]
    rfl
  show (inO (.p (.str w)) (.p (.tup (txts l)))).map (fun k => !k) = _
  rw [e]; rfl
def leT (a b : List Nat) : Bool := decide (a ≤ b)
/-- the beginnings of that length, each once -/
def grp (toks : List (List Nat)) (n : Nat) : List (List Nat) := adds [] ((toks.filter fun t => decide (n < t.length)).map (·.take n))
def due12 (toks : List (List Nat)) : Nat → List (List Nat)
  | 0 => []
  | n + 1 => due12 toks n ++ (grp toks n).mergeSort leT
section
variable (k : Nat) (hp : List MOm)
theorem grpLoop (toks : List (List Nat)) (hl : toks.length ≤ 1000) (n : Nat) (s1 s4 : Slotm) (h4 : s4.free = true) :
    ∃ s4', Slotm.free s4' = true ∧ forL [] (turnF (.v 4) (execs (callK Ps k) l_law_inner_2)) (txts toks) ⟨[.val (.tup (txts toks)), s1, .val (.int (n : Int)), .own (.lst []), s4], hp⟩ =
      .ok .nx ⟨[.val (.tup (txts toks)), s1, .val (.int (n : Int)), .own (.lst (txts (grp toks n))), s4'], hp⟩ := by
  suffices hh : (forL [] (turnF (.v 4) (execs (callK Ps k) l_law_inner_2)) (txts toks) ⟨[.val (.tup (txts toks)), s1, .val (.int (n : Int)), .own (.lst []), s4], hp⟩).sat
      (fun fl st => Hide (fl = .nx ∧ ∃ s4', Slotm.free s4' = true ∧ st = ⟨[.val (.tup (txts toks)), s1, .val (.int (n : Int)), .own (.lst (txts (grp toks n))), s4'], hp⟩)) noE by
    obtain ⟨fl, st, e, rfl, s4', h1, rfl⟩ := sat_eq hh
    exact ⟨s4', h1, e⟩
  refine forL_enc (enc := fun w : List Nat => PVm.str w) (fun pre post st => Hide (toks = pre ++ post ∧ ∃ s4 : Slotm, s4.free = true ∧ st = ⟨[.val (.tup (txts toks)), s1, .val (.int (n : Int)), .own (.lst (txts (grp pre n))), s4], hp⟩)) ?_ ?_ ?_ toks [] _ (hide ⟨rfl, s4, h4, rfl⟩)
  · rintro pre post st ⟨_, s4, _, rfl⟩
    rfl
  · rintro pre w post st ⟨e, s4, h4, rfl⟩
    have hpl : pre.length ≤ 1000 := by have := congrArg List.length e; simp at this; omega
    have hgl : (grp pre n).length ≤ 1000 := by
      have h1 := adds_len ([] : List (List Nat)) ((pre.filter fun t => decide (n < t.length)).map (·.take n))
      have h2 : (pre.filter fun t => decide (n < t.length)).length ≤ pre.length := List.length_filter_le _ _
      simp only [List.length_nil, Nat.zero_add, List.length_map] at h1
      unfold grp; omega
    have c1 := cutS_to w n
    have c2 := notin_txts (w.take n) (grp pre n)
    have hlen : (txts (grp pre n)).length < 16777216 := by simp; omega
    by_cases hn : n < w.length
    · have hn' : (n : Int) < (w.length : Int) := by omega
      have eg : grp (pre ++ [w]) n = addN (grp pre n) (w.take n) := by
        unfold grp
        rw [List.filter_append, List.map_append, adds_app]
        simp [hn, adds]
      by_cases hm : w.take n ∈ grp pre n
      · have eg2 : grp (pre ++ [w]) n = grp pre n := by rw [eg]; unfold addN; rw [if_pos hm]
        rw [decide_eq_true hm] at c2
        rw [eg2]
        generalize txts (grp pre n) = F at c2 hlen ⊢
        generalize w.take n = wn at c1 c2
        simp -implicitDefEqProofs -dsimp [sets1_free h4, l_law_inner_2, hn', hn, c1, c2]
        exact hide ⟨by rw [e]; simp, _, rfl, rfl⟩
      · have eg2 : txts (grp (pre ++ [w]) n) = txts (grp pre n) ++ [.str (w.take n)] := by rw [eg]; unfold addN; rw [if_neg hm]; simp [txts]
        rw [decide_eq_false hm] at c2
        rw [eg2]
        generalize txts (grp pre n) = F at c2 hlen ⊢
        generalize w.take n = wn at c1 c2
        simp -implicitDefEqProofs -dsimp [sets1_free h4, l_law_inner_2, hn', hn, c1, c2, hlen]
        exact hide ⟨by rw [e]; simp, _, rfl, rfl⟩
    · have hn' : ¬ (n : Int) < (w.length : Int) := by omega
      have eg : grp (pre ++ [w]) n = grp pre n := by
        unfold grp
        rw [List.filter_append]
        simp [hn]
      rw [eg]
      simp -implicitDefEqProofs -dsimp [sets1_free h4, l_law_inner_2, hn', hn]
      exact hide ⟨by rw [e]; simp, _, rfl, rfl⟩
  · rintro pre st ⟨e, s4, h4, rfl⟩
    rw [List.append_nil] at e
    subst e
    exact hide ⟨rfl, s4, h4, rfl⟩
theorem s_linner (toks : List (List Nat)) (hl : toks.length ≤ 1000) :
    callK Ps (k+1) 15 [.val (.tup (txts toks))] hp = .ok (.val (.tup (txts (due12 toks 12)))) [.no] hp := by
  rw [callK_at (d := d_law_inner) rfl _ _ _ rfl]
  have hb : d_law_inner.body = b_law_inner_0 := rfl
  have hn : d_law_inner.npar = 1 := rfl
  have hlo : d_law_inner.nloc = 4 := rfl
  have hs : d_law_inner.body.stos = [1, 2, 3, 4] := rfl
  simp -implicitDefEqProofs -dsimp [hb, hn, hlo, ↓hs, b_law_inner_0, b_law_inner_1]
  refine endD_eq ?_
  rw [sat_bd]
  refine forL_rng (n := 12) (fun i st => Hide ((due12 toks i).length ≤ i * 1000 ∧ ∃ s2 s3 s4 : Slotm, s2.free = true ∧ s3.free = true ∧ s4.free = true ∧ st = ⟨[.val (.tup (txts toks)), .own (.lst (txts (due12 toks i))), s2, s3, s4], hp⟩)) ?_ ?_ ?_ (hide ⟨by simp [due12], .no, .no, .no, rfl, rfl, rfl, rfl⟩)
  · rintro i st ⟨_, s2, s3, s4, _, _, _, rfl⟩
    rfl
  · rintro i st hi ⟨hle, s2, s3, s4, h2, h3, h4, rfl⟩
    obtain ⟨s4', g4, e⟩ := grpLoop k hp toks hl i (.own (.lst (txts (due12 toks i)))) s4 h4
    have hgl : (grp toks i).length ≤ 1000 := by
      have h1 := adds_len ([] : List (List Nat)) ((toks.filter fun t => decide (i < t.length)).map (·.take i))
      have h2 : (toks.filter fun t => decide (i < t.length)).length ≤ toks.length := List.length_filter_le _ _
      simp only [List.length_nil, Nat.zero_add, List.length_map] at h1
      unfold grp; omega
    have hms : ((grp toks i).mergeSort leT).length = (grp toks i).length := List.length_mergeSort _
    have hbi : biV .sorted [.m (.lst (txts (grp toks i)))] = some (.own (.lst (txts ((grp toks i).mergeSort leT)))) := by
      show ((Viewm.m (.lst (txts (grp toks i)))).lstOf.bind strsOf).map _ = _
      have : ((Viewm.m (.lst (txts (grp toks i)))).lstOf.bind strsOf) = some (grp toks i) := strsOf_txts _
      rw [this]; rfl
    have ed : txts (due12 toks (i + 1)) = txts (due12 toks i) ++ txts ((grp toks i).mergeSort leT) := by simp [due12, txts]
    have hlen : (txts (due12 toks i)).length + (txts ((grp toks i).mergeSort leT)).length ≤ 16777216 := by simp; omega
    have hst : l_law_inner_2.stos = [] := rfl
    rw [ed]
    generalize txts ((grp toks i).mergeSort leT) = M at hbi hlen ⊢
    generalize txts (due12 toks i) = D at e hlen ⊢
    generalize txts (grp toks i) = G at e hbi
    generalize hTT : txts toks = TT at e ⊢
    simp -implicitDefEqProofs -dsimp [sets1_free h2, sets1_free h3, l_law_inner_1, e, hst, Tgtm.vars, hbi, hlen]
    exact hide ⟨by simp [due12]; omega, .val (.int (i : Int)), .own (.lst G), s4', rfl, rfl, g4, rfl⟩
  · rintro st ⟨_, s2, s3, s4, h2, h3, h4, rfl⟩
    simp -implicitDefEqProofs -dsimp [b_law_inner_2]
end
end K01

set_option linter.all false
set_option maxRecDepth 100000
/-! K01p9: the inner texts, the plain law. -/
namespace K01
open Mp
def ltL (a b : List Nat) : Prop := a.length < b.length ∨ (a.length = b.length ∧ a < b)
theorem ltL_trans {a b c : List Nat} (h : ltL a b) (g : ltL b c) : ltL a c := by
  rcases h with h | ⟨h1, h2⟩
  · rcases g with g | ⟨g1, g2⟩
    · exact .inl (by omega)
    · exact .inl (by omega)
  · rcases g with g | ⟨g1, g2⟩
    · exact .inl (by omega)
    · exact .inr ⟨by omega, List.lt_trans h2 g2⟩
theorem ltL_irr (a : List Nat) : ¬ ltL a a := by
  rintro (h | ⟨_, h⟩)
  · omega
  · exact List.lt_irrefl a h
/-- two lists in strict order with the same members are one list -/
theorem strict_eq : ∀ {l m : List (List Nat)}, l.Pairwise ltL → m.Pairwise ltL → (∀ x, x ∈ l ↔ x ∈ m) → l = m
  | [], [], _, _, _ => rfl
  | [], b :: m, _, _, h => by have := (h b).mpr List.mem_cons_self; cases this
  | a :: l, [], _, _, h => by have := (h a).mp List.mem_cons_self; cases this
  | a :: l, b :: m, hl, hm, h => by
    have hl' := List.pairwise_cons.mp hl
    have hm' := List.pairwise_cons.mp hm
    have e : a = b := by
      have h1 := (h a).mp List.mem_cons_self
      have h2 := (h b).mpr List.mem_cons_self
      rcases List.mem_cons.mp h1 with z | z
      · exact z
      · rcases List.mem_cons.mp h2 with y | y
        · exact y.symm
        · exact absurd (ltL_trans (hl'.1 b y) (hm'.1 a z)) (ltL_irr a)
    subst e
    rw [strict_eq hl'.2 hm'.2 fun x => ?_]
    constructor
    · intro hx
      rcases List.mem_cons.mp ((h x).mp (List.mem_cons_of_mem _ hx)) with z | z
      · rw [z] at hx; exact absurd (hl'.1 a hx) (ltL_irr a)
      · exact z
    · intro hx
      rcases List.mem_cons.mp ((h x).mpr (List.mem_cons_of_mem _ hx)) with z | z
      · rw [z] at hx; exact absurd (hm'.1 a hx) (ltL_irr a)
      · exact z
theorem leT_lt {a b : List Nat} (h : leT a b = true) (ne : a ≠ b) : a < b := by
  have h : a ≤ b := of_decide_eq_true h
  rcases List.le_iff_lt_or_eq.mp h with z | z
  · exact z
  · exact absurd z ne
theorem sort_strict {le : List Nat → List Nat → Bool} (tr : ∀ a b c, le a b = true → le b c = true → le a c = true) (to : ∀ a b, (le a b || le b a) = true) (hs : ∀ a b : List Nat, le a b = true → a ≠ b → ltL a b) {l : List (List Nat)} (nd : l.Nodup) :
    (l.mergeSort le).Pairwise ltL := by
  have p : (l.mergeSort le).Pairwise fun a b => le a b = true := List.pairwise_mergeSort tr to l
  have n : (l.mergeSort le).Nodup := (List.mergeSort_perm l le).nodup_iff.mpr nd
  have q : (l.mergeSort le).Pairwise fun a b => le a b = true ∧ a ≠ b := p.and n
  exact q.imp fun h => hs _ _ h.1 h.2
theorem leLT_tr (a b c : List Nat) (h : leLT a b = true) (g : leLT b c = true) : leLT a c = true := by
  unfold leLT at *
  simp only [decide_eq_true_eq] at *
  rcases h with h | ⟨h1, h2⟩
  · rcases g with g | ⟨g1, g2⟩
    · exact .inl (by omega)
    · exact .inl (by omega)
  · rcases g with g | ⟨g1, g2⟩
    · exact .inl (by omega)
    · exact .inr ⟨by omega, List.le_trans h2 g2⟩
theorem leLT_to (a b : List Nat) : (leLT a b || leLT b a) = true := by
  unfold leLT
  simp only [Bool.or_eq_true, decide_eq_true_eq]
  rcases Nat.lt_trichotomy a.length b.length with h | h | h
  · exact .inl (.inl h)
  · rcases List.le_total a b with g | g
    · exact .inl (.inr ⟨h, g⟩)
    · exact .inr (.inr ⟨h.symm, g⟩)
  · exact .inr (.inl h)
theorem leT_tr (a b c : List Nat) (h : leT a b = true) (g : leT b c = true) : leT a c = true := by
  unfold leT at *
  simp only [decide_eq_true_eq] at *
  exact List.le_trans h g
theorem leT_to (a b : List Nat) : (leT a b || leT b a) = true := by
  unfold leT
  simp only [Bool.or_eq_true, decide_eq_true_eq]
  exact List.le_total a b
theorem leLT_lt {a b : List Nat} (h : leLT a b = true) (ne : a ≠ b) : ltL a b := by
  unfold leLT at h
  rcases of_decide_eq_true h with h | ⟨h1, h2⟩
  · exact .inl h
  · exact .inr ⟨h1, leT_lt (decide_eq_true h2) ne⟩
theorem grp_mem {toks : List (List Nat)} {n : Nat} {x : List Nat} : x ∈ grp toks n ↔ ∃ t ∈ toks, n < t.length ∧ x = t.take n := by
  unfold grp
  rw [adds_mem]
  simp only [List.not_mem_nil, false_or, List.mem_map, List.mem_filter, decide_eq_true_eq]
  constructor
  · rintro ⟨t, ⟨h1, h2⟩, rfl⟩; exact ⟨t, h1, h2, rfl⟩
  · rintro ⟨t, h1, h2, rfl⟩; exact ⟨t, ⟨h1, h2⟩, rfl⟩
theorem due_mem {toks : List (List Nat)} {x : List Nat} : ∀ {n : Nat}, x ∈ due12 toks n ↔ ∃ i, i < n ∧ ∃ t ∈ toks, i < t.length ∧ x = t.take i
  | 0 => by simp [due12]
  | n + 1 => by
    show x ∈ due12 toks n ++ (grp toks n).mergeSort leT ↔ _
    rw [List.mem_append, due_mem, (List.mergeSort_perm _ _).mem_iff, grp_mem]
    constructor
    · rintro (⟨i, h1, h2⟩ | h)
      · exact ⟨i, by omega, h2⟩
      · exact ⟨n, by omega, h⟩
    · rintro ⟨i, h1, h2⟩
      by_cases e : i = n
      · subst e; exact .inr h2
      · exact .inl ⟨i, by omega, h2⟩
theorem due_len {toks : List (List Nat)} {x : List Nat} {n : Nat} (h : x ∈ due12 toks n) : x.length < n := by
  obtain ⟨i, h1, t, _, h2, rfl⟩ := due_mem.mp h
  simp; omega
theorem due_strict (toks : List (List Nat)) : ∀ n, (due12 toks n).Pairwise ltL
  | 0 => .nil
  | n + 1 => by
    show (due12 toks n ++ (grp toks n).mergeSort leT).Pairwise ltL
    have len : ∀ x ∈ (grp toks n).mergeSort leT, x.length = n := fun x hx => by
      obtain ⟨t, _, h, rfl⟩ := grp_mem.mp ((List.mergeSort_perm _ _).mem_iff.mp hx)
      simp; omega
    rw [List.pairwise_append]
    refine ⟨due_strict toks n, ?_, fun a ha b hb => .inl (by rw [len b hb]; exact due_len ha)⟩
    have p : ((grp toks n).mergeSort leT).Pairwise fun a b => leT a b = true := List.pairwise_mergeSort leT_tr leT_to _
    have nd : ((grp toks n).mergeSort leT).Nodup := (List.mergeSort_perm _ _).nodup_iff.mpr (adds_nodup (by simp))
    have q := (p.and nd)
    refine List.Pairwise.imp_of_mem (fun {a b} ha hb h => ?_) q
    exact .inr ⟨by rw [len a ha, len b hb], leT_lt h.1 h.2⟩
theorem inner_eq (toks : List (List Nat)) (ht : ∀ w ∈ toks, w.length ≤ 12) : (adds [] (toks.flatMap pfx)).mergeSort leLT = due12 toks 12 := by
  refine strict_eq (sort_strict leLT_tr leLT_to (fun a b => leLT_lt) (adds_nodup (by simp))) (due_strict toks 12) fun x => ?_
  rw [(List.mergeSort_perm _ _).mem_iff, adds_mem, due_mem]
  simp only [List.not_mem_nil, false_or, List.mem_flatMap, pfx, List.mem_map, List.mem_range]
  constructor
  · rintro ⟨t, h1, i, h2, rfl⟩
    exact ⟨i, by have := ht t h1; omega, t, h1, h2, rfl⟩
  · rintro ⟨i, h1, t, h2, h3, rfl⟩
    exact ⟨t, h2, i, h3, rfl⟩
end K01

set_option linter.all false
set_option maxRecDepth 100000
/-! K01p10: words and tokens drawn. -/
namespace K01
open Mp
theorem okT_app {a b : List Nat} : okT (a ++ b) = true ↔ okT a = true ∧ okT b = true := by simp [okT]
theorem okT_mem {s : List Nat} (h : okT s = true) {c : Nat} (hc : c ∈ s) : okC c = true := List.all_eq_true.mp h c hc
/-- how many of the row are as long -/
def cnt (row : List (List Nat)) (n : Nat) : Nat := row.countP fun s => decide (n ≤ s.length)
theorem cnt_le (row : List (List Nat)) (n : Nat) : cnt row n ≤ row.length := List.countP_le_length
theorem cnt_step : ∀ {row : List (List Nat)} {w : List Nat}, w ∈ row → cnt row (w.length + 1) + 1 ≤ cnt row w.length
  | a :: row, w, h => by
    have mono : ∀ (l : List (List Nat)) (n : Nat), cnt l (n + 1) ≤ cnt l n := fun l n => List.countP_mono_left fun x _ hx => by
      simp only [decide_eq_true_eq] at *; omega
    unfold cnt
    rw [List.countP_cons, List.countP_cons]
    rcases List.mem_cons.mp h with rfl | h
    · have := mono row w.length
      unfold cnt at this
      have e1 : decide (w.length + 1 ≤ w.length) = false := by simp
      have e2 : decide (w.length ≤ w.length) = true := by simp
      rw [e1, e2]; simp; omega
    · have ih := cnt_step h
      unfold cnt at ih
      by_cases q : w.length + 1 ≤ a.length
      · have q2 : w.length ≤ a.length := by omega
        simp only [q, q2, decide_true, if_true]; omega
      · by_cases q2 : w.length ≤ a.length
        · simp only [q, q2, decide_true, decide_false, if_true]; simp; omega
        · simp only [q, q2, decide_false]; simp; omega
section
variable (k : Nat) (hp : List MOm)
theorem s_word (signs : List Nat) (ho : okT signs = true) (h0 : 0 < signs.length) (h1 : signs.length ≤ 1000) (most : Nat) (hm0 : 0 < most) (hm : most ≤ 1000) (x : Nat) (r : List Nat) : ∃ (w : List Nat) (x' : Nat) (r' : List Nat), 1 ≤ w.length ∧ w.length ≤ most ∧ okT w = true ∧
    callK Ps (k+2) 12 [.lent (.lst (ens (x :: r))), .val (.str signs), .val (.int (most : Int))] hp = .ok (.val (.str w)) [.lent (.lst (ens (x' :: r'))), .no, .no] hp := by
  suffices h : (callK Ps (k+2) 12 [.lent (.lst (ens (x :: r))), .val (.str signs), .val (.int (most : Int))] hp).sat (fun v fin hp' => Hide (∃ (w : List Nat) (x' : Nat) (r' : List Nat), (1 ≤ w.length ∧ w.length ≤ most ∧ okT w = true) ∧ v = .val (.str w) ∧ fin = [.lent (.lst (ens (x' :: r'))), .no, .no] ∧ hp' = hp)) (fun _ _ _ => False) by
    revert h
    generalize callK Ps (k+2) 12 [.lent (.lst (ens (x :: r))), .val (.str signs), .val (.int (most : Int))] hp = R
    intro h
    cases R with
    | stuck => exact h.elim
    | err _ _ _ => exact h.elim
    | ok v sl hp' =>
      obtain ⟨w, x', r', ⟨q1, q2, q3⟩, e1, e2, e3⟩ := h
      exact ⟨w, x', r', q1, q2, q3, by rw [e1, e2, e3]⟩
  rw [callK_at (d := d_law_word) rfl _ _ _ rfl]
  have hb : d_law_word.body = b_law_word_0 := rfl
  have hn : d_law_word.npar = 3 := rfl
  have hlo : d_law_word.nloc = 2 := rfl
  have hs : d_law_word.body.stos = [3, 4, 3] := rfl
  obtain ⟨v, x1, r1, hv, e1⟩ := s_pick k x r (many := most) hm0 (by omega) hp
  have q : (-4611686018427387904 : Int) ≤ 1 + (v : Int) ∧ 1 + (v : Int) < 4611686018427387904 := by omega
  have qn : (1 + (v : Int)).toNat = v + 1 := by omega
  generalize ens (x :: r) = L0 at e1 ⊢
  simp -implicitDefEqProofs -dsimp [hb, hn, hlo, ↓hs, b_law_word_0, b_law_word_1, e1, q, qn]
  refine endD_iff.mpr ?_
  rw [sat_bd]
  refine forL_rng (fun i st => Hide (∃ (w : List Nat) (x' : Nat) (r' : List Nat) (s : Slotm), w.length = i ∧ okT w = true ∧ s.free = true ∧ st = ⟨[.lent (.lst (ens (x' :: r'))), .val (.str signs), .val (.int (most : Int)), .val (.str w), s], hp⟩)) ?_ ?_ ?_ (hide ⟨[], x1, r1, .no, rfl, rfl, rfl, rfl⟩)
  · rintro i st ⟨w, x', r', s, _, _, _, rfl⟩
    rfl
  · rintro i st hi ⟨w, x', r', s, hw, hok, h, rfl⟩
    obtain ⟨u, x2, r2, hu, e2⟩ := s_pick k x' r' (many := signs.length) h0 (by omega) hp
    have ea : atI signs (u : Int) = some signs[u] := by rw [atI_nat]; exact List.getElem?_eq_getElem hu
    have hc : okT (w ++ [signs[u]]) = true := okT_app.mpr ⟨hok, by simp [okT, okT_mem ho (List.getElem_mem hu)]⟩
    generalize signs[u] = c at ea hc
    have hl : w.length + 1 ≤ 16777216 := by omega
    have hl2 : w.length < 16777216 := by omega
    generalize ens (x' :: r') = L1 at e2 ⊢
    simp -implicitDefEqProofs -dsimp [sets1_free h, l_law_word_1, e2, ea, hl, hl2]
    exact hide ⟨w ++ [c], x2, r2, _, by simp [hw], hc, rfl, rfl⟩
  · rintro st ⟨w, x', r', s, hw, hok, h, rfl⟩
    simp -implicitDefEqProofs -dsimp [b_law_word_2]
    exact hide ⟨w, x', r', ⟨by omega, by omega, hok⟩, rfl, rfl, rfl⟩
theorem tokTurn (many : Nat) (hmany : many ≤ 100) (signs : List Nat) (ho : okT signs = true) (h0 : 0 < signs.length) (h1 : signs.length ≤ 1000) (s0 s3 s5 : Slotm) (row : List (List Nat)) (hrl : row.length ≤ 1000) (w : List Nat) (hw : okT w = true) (hwl : w.length ≤ 1000) (s7 : Slotm) (h7 : s7.free = true) :
    ∃ w' s7', Slotm.free s7' = true ∧ okT w' = true ∧ w.length ≤ w'.length ∧ w'.length ≤ w.length + row.length ∧ (row.length < many → w' ∉ row) ∧ (forL [] (turnF (.v 7) (execs (callK Ps k) l_law_tokens_2)) (rngL 0 many) ⟨[s0, .val (.int (many : Int)), .val (.str signs), s3, .own (.lst (txts row)), s5, .val (.str w), s7], hp⟩) =
      .ok .nx ⟨[s0, .val (.int (many : Int)), .val (.str signs), s3, .own (.lst (txts row)), s5, .val (.str w'), s7'], hp⟩ := by
  suffices h : (forL [] (turnF (.v 7) (execs (callK Ps k) l_law_tokens_2)) (rngL 0 many) ⟨[s0, .val (.int (many : Int)), .val (.str signs), s3, .own (.lst (txts row)), s5, .val (.str w), s7], hp⟩).sat
      (fun fl st => Hide (fl = .nx ∧ ∃ w' s7', (Slotm.free s7' = true ∧ okT w' = true ∧ w.length ≤ w'.length ∧ w'.length ≤ w.length + row.length ∧ (row.length < many → w' ∉ row)) ∧ st = ⟨[s0, .val (.int (many : Int)), .val (.str signs), s3, .own (.lst (txts row)), s5, .val (.str w'), s7'], hp⟩)) noE by
    obtain ⟨fl, st, e, rfl, w', s7', ⟨g1, g2, g3, g4, g5⟩, rfl⟩ := sat_eq h
    exact ⟨w', s7', g1, g2, g3, g4, g5, e⟩
  refine forL_rng (fun i st => Hide (∃ w' s7', okT w' = true ∧ w.length ≤ List.length w' ∧ List.length w' + cnt row (List.length w') ≤ w.length + cnt row w.length ∧ (w' ∉ row ∨ cnt row (List.length w') + i ≤ row.length) ∧ Slotm.free s7' = true ∧ st = ⟨[s0, .val (.int (many : Int)), .val (.str signs), s3, .own (.lst (txts row)), s5, .val (.str w'), s7'], hp⟩)) ?_ ?_ ?_ (hide ⟨w, s7, hw, Nat.le_refl _, Nat.le_refl _, .inr (by have := cnt_le row w.length; omega), h7, rfl⟩)
  · rintro i st ⟨w', s7', _, _, _, _, _, rfl⟩
    rfl
  · rintro i st hi ⟨w', s7', g1, g2, g3, g4, h, rfl⟩
    have hb := isin_txts w' row
    have hcl := cnt_le row w.length
    have hm1 : mulOk ((i : Int) / (signs.length : Int)) (signs.length : Int) = true := mulOk_r (by omega)
    have hlog : signs.length.log2 < 9000 := log2_small (by omega)
    have hix : atI signs ((i : Int) - (i : Int) / (signs.length : Int) * (signs.length : Int)) = some (signs[i % signs.length]'(Nat.mod_lt _ h0)) := by
      have : (i : Int) - (i : Int) / (signs.length : Int) * (signs.length : Int) = ((i % signs.length : Nat) : Int) := by
        have e := Int.emod_add_mul_ediv (i : Int) (signs.length : Int)
        rw [Int.mul_comm] at e
        rw [Int.natCast_emod]; omega
      rw [this, atI_nat]
      exact List.getElem?_eq_getElem _
    have hc : okC (signs[i % signs.length]'(Nat.mod_lt _ h0)) = true := okT_mem ho (List.getElem_mem _)
    generalize (signs[i % signs.length]'(Nat.mod_lt _ h0)) = c at hix hc
    have hl1 : w'.length + 1 ≤ 16777216 := by omega
    have hl2 : w'.length < 16777216 := by omega
    have h0' : (0 : Int) < (signs.length : Int) := by omega
    by_cases hin : w' ∈ row
    · rw [decide_eq_true hin] at hb
      generalize hT : txts row = TT at hb ⊢
      simp -implicitDefEqProofs -dsimp [sets1_free h, l_law_tokens_2, hb, h0, hm1, hlog, hix, hl1, hl2]
      have st := cnt_step hin
      have q : cnt row w'.length + i ≤ row.length := g4.elim (fun z => absurd hin z) id
      exact hide ⟨w' ++ [c], _, okT_app.mpr ⟨g1, by simp [okT, hc]⟩, by rw [List.length_append]; omega, by rw [List.length_append, List.length_singleton]; omega, .inr (by rw [List.length_append, List.length_singleton]; omega), rfl, rfl⟩
    · rw [decide_eq_false hin] at hb
      generalize hT : txts row = TT at hb ⊢
      simp -implicitDefEqProofs -dsimp [sets1_free h, l_law_tokens_2, hb]
      exact hide ⟨w', _, g1, g2, g3, .inl hin, rfl, rfl⟩
  · rintro st ⟨w', s7', g1, g2, g3, g4, h, rfl⟩
    have hcl := cnt_le row w.length
    exact hide ⟨rfl, w', s7', ⟨h, g1, g2, by omega, fun hlt hin => g4.elim (fun z => z hin) fun z => by omega⟩, rfl⟩
structure TKs (toks : List (List Nat)) (most : Nat) : Prop where
  nd : toks.Nodup
  tl : ∀ w ∈ toks, 1 ≤ w.length ∧ w.length ≤ most
  ok : ∀ w ∈ toks, okT w = true
theorem s_tokens (many : Nat) (hmany : many ≤ 100) (signs : List Nat) (ho : okT signs = true) (h0 : 0 < signs.length) (h1 : signs.length ≤ 1000) (most : Nat) (hm0 : 0 < most) (hm : most ≤ 100) (x : Nat) (r : List Nat) : ∃ (toks : List (List Nat)) (x' : Nat) (r' : List Nat), toks.length = many ∧ TKs toks (most + many) ∧
    callK Ps (k+3) 13 [.lent (.lst (ens (x :: r))), .val (.int (many : Int)), .val (.str signs), .val (.int (most : Int))] hp = .ok (.val (.tup (txts toks))) [.lent (.lst (ens (x' :: r'))), .no, .no, .no] hp := by
  suffices h : (callK Ps (k+3) 13 [.lent (.lst (ens (x :: r))), .val (.int (many : Int)), .val (.str signs), .val (.int (most : Int))] hp).sat (fun v fin hp' => Hide (∃ (toks : List (List Nat)) (x' : Nat) (r' : List Nat), toks.length = many ∧ TKs toks (most + many) ∧ v = .val (.tup (txts toks)) ∧ fin = [.lent (.lst (ens (x' :: r'))), .no, .no, .no] ∧ hp' = hp)) (fun _ _ _ => False) by
    revert h
    generalize callK Ps (k+3) 13 [.lent (.lst (ens (x :: r))), .val (.int (many : Int)), .val (.str signs), .val (.int (most : Int))] hp = R
    intro h
    cases R with
    | stuck => exact h.elim
    | err _ _ _ => exact h.elim
    | ok v sl hp' =>
      obtain ⟨toks, x', r', hl, ht, e1, e2, e3⟩ := h
      refine ⟨toks, x', r', hl, ht, ?_⟩
      rw [e1, e2, e3]
  rw [callK_at (d := d_law_tokens) rfl _ _ _ rfl]
  have hb : d_law_tokens.body = b_law_tokens_0 := rfl
  have hn : d_law_tokens.npar = 4 := rfl
  have hlo : d_law_tokens.nloc = 4 := rfl
  have hs : d_law_tokens.body.stos = [4, 5, 6, 7, 6] := rfl
  have q : (-4611686018427387904 : Int) ≤ (many : Int) ∧ (many : Int) < 4611686018427387904 := by omega
  generalize hL0 : ens (x :: r) = L0
  simp -implicitDefEqProofs -dsimp [hb, hn, hlo, ↓hs, b_law_tokens_0, b_law_tokens_1, q]
  subst hL0
  refine endD_iff.mpr ?_
  rw [sat_bd]
  refine forL_rng (fun i st => Hide (∃ (row : List (List Nat)) (x' : Nat) (r' : List Nat) (s5 s6 s7 : Slotm), row.length = i ∧ TKs row (most + many) ∧ s5.free = true ∧ s6.free = true ∧ s7.free = true ∧ st = ⟨[.lent (.lst (ens (x' :: r'))), .val (.int (many : Int)), .val (.str signs), .val (.int (most : Int)), .own (.lst (txts row)), s5, s6, s7], hp⟩)) ?_ ?_ ?_ (hide ⟨[], x, r, .no, .no, .no, rfl, ⟨by simp, by simp, by simp⟩, rfl, rfl, rfl, rfl⟩)
  · rintro i st ⟨row, x', r', s5, s6, s7, _, _, _, _, _, rfl⟩
    rfl
  · rintro i st hi ⟨row, x', r', s5, s6, s7, hrow, hT, h5, h6, h7, rfl⟩
    obtain ⟨w, x2, r2, hw1, hw2, hw3, e⟩ := s_word k hp signs ho h0 h1 most hm0 (by omega) x' r'
    obtain ⟨w', s7', g7, g1, g2, g3, g4, e7⟩ := tokTurn (k+2) hp many hmany signs ho h0 h1 (.lent (.lst (ens (x2 :: r2)))) (.val (.int (most : Int))) (.val (.int (i : Int))) row (by omega) w hw3 (by omega) s7 h7
    have hl : (txts row).length < 16777216 := by simp; omega
    have et : txts (row ++ [w']) = txts row ++ [.str w'] := by simp [txts]
    have hT' : TKs (row ++ [w']) (most + many) := by
      have nin := g4 (by omega)
      refine ⟨?_, fun v hv => ?_, fun v hv => ?_⟩
      · rw [List.nodup_append]
        exact ⟨hT.nd, by simp, fun a ha b hb z => nin (by rw [List.mem_singleton.mp hb] at z; rw [← z]; exact ha)⟩
      · rcases List.mem_append.mp hv with hv | hv
        · exact hT.tl v hv
        · rw [List.mem_singleton.mp hv]; omega
      · rcases List.mem_append.mp hv with hv | hv
        · exact hT.ok v hv
        · rw [List.mem_singleton.mp hv]; exact g1
    generalize hL1 : ens (x' :: r') = L1 at e ⊢
    generalize hL2 : ens (x2 :: r2) = L2 at e e7
    generalize hTT : txts row = TT at e7 hl et ⊢
    simp -implicitDefEqProofs -dsimp [sets1_free h5, sets1_free h6, l_law_tokens_1, e, q, e7, hl]
    exact hide ⟨row ++ [w'], x2, r2, _, _, s7', by simp [hrow], hT', rfl, rfl, g7, by rw [et, hL2]⟩
  · rintro st ⟨row, x', r', s5, s6, s7, hrow, hT, h5, h6, h7, rfl⟩
    simp -implicitDefEqProofs -dsimp [b_law_tokens_2]
    exact hide ⟨row, x', r', hrow, hT, rfl, rfl, rfl⟩
end
end K01

set_option linter.all false
set_option maxRecDepth 100000
/-! K01p11: the tokens of the law. -/
namespace K01
open Mp
/-- a statement kept as it stands -/
@[irreducible] def Tl (p : Prop) : Prop := p
theorem tl {p : Prop} (h : p) : Tl p := by unfold Tl; exact h
theorem un {p : Prop} (h : Tl p) : p := by unfold Tl at h; exact h
def ALL : List Nat := [32, 33, 34, 35, 36, 38, 39, 40, 41, 42, 43, 44, 45, 46, 47, 48, 49, 50, 51, 52, 53, 54, 55, 56, 57, 58, 59, 60, 61, 62, 63, 64, 65, 66, 67, 68, 69, 70, 71, 72, 73, 74, 75, 76, 77, 78, 79, 80, 81, 82, 83, 84, 85, 86, 87, 88, 89, 90, 91, 92, 93, 94, 95, 96, 97, 98, 99, 100, 101, 102, 103, 104, 105, 106, 107, 108, 109, 110, 111, 112, 113, 114, 115, 116, 117, 118, 119, 120, 121, 122, 123, 124, 125, 126]
theorem ALL_len : ALL.length = 94 := by decide
theorem ALL_ok : okT ALL = true := by decide
def SG (s : List Nat) : Prop := okT s = true ∧ 0 < s.length ∧ s.length ≤ 94
theorem SG_two : ∀ f : Nat, f < 92 → okT (cut ALL (some (f : Int)) (some ((f : Int) + 2))) = true ∧ 0 < (cut ALL (some (f : Int)) (some ((f : Int) + 2))).length ∧ (cut ALL (some (f : Int)) (some ((f : Int) + 2))).length ≤ 94 := by decide +kernel
def B9 : List (List Nat) := (List.range 120).map fun k => [ALL.getD (k / 12 + 3) 0, ALL.getD (k % 12 + 40) 0]
theorem B9_nd : B9.Nodup := by decide +kernel
theorem B9_tl : ∀ w ∈ B9, 1 ≤ w.length ∧ w.length ≤ 12 := by decide +kernel
theorem B9_ok : ∀ w ∈ B9, okT w = true := by decide +kernel
theorem B9_len : B9.length = 120 := by decide +kernel
/-- tokens that the law draws -/
structure TK (toks : List (List Nat)) : Prop where
  ts : TKs toks 12
  l0 : 1 ≤ toks.length
  l1 : toks.length ≤ 121
def DQ (hp : List MOm) : RVm → List Slotm → List MOm → Prop := fun v fin hp' => Hide (∃ (toks : List (List Nat)) (x' : Nat) (r' : List Nat), TK toks ∧ v = .val (.tup (txts toks)) ∧ fin = [.lent (.lst (ens (x' :: r')))] ∧ hp' = hp)
def DS : List Nat := [1, 2, 3, 4, 4, 4, 5, 6, 7, 6]
theorem dtS : d_law_drawn_tokens.body.stos = DS := rfl
section
variable (k : Nat) (hp : List MOm)
theorem s_all : callK Ps (k+1) 10 [] hp = .ok (.val (.str ALL)) [] hp := by
  rw [callK_at (d := d_law_all) rfl _ _ _ rfl]
  rfl
theorem d9 {signs : List Nat} (hs : SG signs) {toks : List (List Nat)} (hT : TKs toks 12) (h0 : 1 ≤ toks.length) (h1 : toks.length ≤ 100) (b : Nat) (x : Nat) (r : List Nat) (s1 s2 s3 : Slotm) :
    Tl ((endD 1 DS (execs (callK Ps (k+3)) b_law_drawn_tokens_9 ⟨[.lent (.lst (ens (x :: r))), s1, s2, s3, .val (.str signs), .val (.int (b : Int)), .val (.tup (txts toks)), .no, .no], hp⟩)).sat (DQ hp) (fun _ _ _ => False)) := by
  obtain ⟨g1, g2, g3⟩ := hs
  have a0 : atI signs 0 = some signs[0] := by
    have := atI_nat (l := signs) (i := 0)
    rw [show ((0 : Nat) : Int) = 0 from rfl] at this
    rw [this]; exact List.getElem?_eq_getElem g2
  have aL : ∃ c, atI signs (-1) = some c ∧ c ∈ signs := by
    obtain ⟨r0, y, e⟩ : ∃ r0 y, signs = r0 ++ [y] := ⟨signs.dropLast, signs.getLast (fun z => by rw [z] at g2; simp at g2), (List.dropLast_concat_getLast _).symm⟩
    refine ⟨y, ?_, by rw [e]; simp⟩
    rw [e]
    unfold atI
    rw [show (r0 ++ [y]).length = r0.length + 1 by simp, ixN_neg1]
    simp
  obtain ⟨cl, aL, hcl⟩ := aL
  have c0 : okC signs[0] = true := okT_mem g1 (List.getElem_mem g2)
  have c1 : okC cl = true := okT_mem g1 hcl
  generalize signs[0] = ch at a0 c0
  have hrep : rep 11 [ch] = List.replicate 11 ch := rep_one 11 ch
  generalize hR : List.replicate 11 ch = R at hrep
  have hRl : R.length = 11 := by rw [← hR]; simp
  have hRo : okT R = true := by rw [← hR]; simp [okT, c0]
  have hlok : okT (R ++ [cl]) = true := okT_app.mpr ⟨hRo, by simp [okT, c1]⟩
  have hnt := notin_tup (R ++ [cl]) toks
  have hro : repOk 11 1 = true := rfl
  have hlen : 1 + (txts toks).length ≤ 16777216 := by simp; omega
  by_cases hb : b = 10
  · have hb' : (b : Int) = 10 := by omega
    by_cases hin : R ++ [cl] ∈ toks
    · rw [decide_eq_true hin] at hnt
      generalize hL0 : ens (x :: r) = L0
      simp -implicitDefEqProofs -dsimp [b_law_drawn_tokens_9, b_law_drawn_tokens_10, hb', hb, a0, aL, hro, hrep, hRl, hnt]
      subst hL0
      exact tl (hide ⟨toks, x, r, ⟨hT, h0, by omega⟩, rfl, rfl, rfl⟩)
    · rw [decide_eq_false hin] at hnt
      have hT2 : TK ((R ++ [cl]) :: toks) := by
        refine ⟨⟨List.nodup_cons.mpr ⟨hin, hT.nd⟩, fun w hw => ?_, fun w hw => ?_⟩, by simp, by simp; omega⟩
        · rcases List.mem_cons.mp hw with rfl | hw
          · simp [hRl]
          · exact hT.tl w hw
        · rcases List.mem_cons.mp hw with rfl | hw
          · exact hlok
          · exact hT.ok w hw
      have et : PVm.str (R ++ [cl]) :: txts toks = txts ((R ++ [cl]) :: toks) := rfl
      generalize hTT : txts toks = TT at hnt hlen et ⊢
      generalize hL0 : ens (x :: r) = L0
      simp -implicitDefEqProofs -dsimp [b_law_drawn_tokens_9, b_law_drawn_tokens_10, hb', hb, a0, aL, hro, hrep, hRl, hnt, hlen]
      subst hL0
      rw [et]
      exact tl (hide ⟨_, x, r, hT2, rfl, rfl, rfl⟩)
  · have hb' : ¬ (b : Int) = 10 := by omega
    generalize hL0 : ens (x :: r) = L0
    simp -implicitDefEqProofs -dsimp [b_law_drawn_tokens_9, b_law_drawn_tokens_10, hb', hb]
    subst hL0
    exact tl (hide ⟨toks, x, r, ⟨hT, h0, by omega⟩, rfl, rfl, rfl⟩)
theorem d8 {signs : List Nat} (hs : SG signs) (b : Nat) (x : Nat) (r : List Nat) (s1 s2 s3 : Slotm) :
    Tl ((endD 1 DS (execs (callK Ps (k+3)) b_law_drawn_tokens_8 ⟨[.lent (.lst (ens (x :: r))), s1, s2, s3, .val (.str signs), .val (.int (b : Int)), .no, .no, .no], hp⟩)).sat (DQ hp) (fun _ _ _ => False)) := by
  have hs' := hs
  obtain ⟨g1, g2, g3⟩ := hs
  obtain ⟨v, x1, r1, hv, e1⟩ := s_pick (k+2) x r (many := 6) (by omega) (by omega) hp
  have e1' : callK Ps (k+3) 9 [.lent (.lst (ens (x :: r))), .val (.int 6)] hp = .ok (.val (.int ((v : Nat) : Int))) [.lent (.lst (ens (x1 :: r1))), .no] hp := e1
  by_cases hb : b = 8
  · have hb' : (b : Int) = 8 := by omega
    obtain ⟨toks, x2, r2, ht, hT, e2⟩ := s_tokens k hp (1 + v) (by omega) signs g1 g2 (by omega) 6 (by omega) (by omega) x1 r1
    have tail := d9 k hp hs' (toks := toks) ⟨hT.nd, fun w hw => by have := hT.tl w hw; omega, hT.ok⟩ (by omega) (by omega) b x2 r2 s1 s2 s3
    rw [show ((1 + v : Nat) : Int) = 1 + (v : Int) by omega, show ((6 : Nat) : Int) = 6 from rfl] at e2
    generalize ens (x :: r) = L0 at *
    generalize ens (x1 :: r1) = L1 at *
    generalize ens (x2 :: r2) = L2 at *
    rw [hb'] at tail
    simp -implicitDefEqProofs -dsimp [b_law_drawn_tokens_8, e1', hb', hb, e2]
    exact tail
  · have hb' : ¬ (b : Int) = 8 := by omega
    obtain ⟨toks, x2, r2, ht, hT, e2⟩ := s_tokens k hp (1 + v) (by omega) signs g1 g2 (by omega) 3 (by omega) (by omega) x1 r1
    have tail := d9 k hp hs' (toks := toks) ⟨hT.nd, fun w hw => by have := hT.tl w hw; omega, hT.ok⟩ (by omega) (by omega) b x2 r2 s1 s2 s3
    rw [show ((1 + v : Nat) : Int) = 1 + (v : Int) by omega, show ((3 : Nat) : Int) = 3 from rfl] at e2
    generalize ens (x :: r) = L0 at *
    generalize ens (x1 :: r1) = L1 at *
    generalize ens (x2 :: r2) = L2 at *
    simp -implicitDefEqProofs -dsimp [b_law_drawn_tokens_8, e1', hb', hb, e2]
    exact tail
theorem d6 {signs : List Nat} (hs : SG signs) (x : Nat) (r : List Nat) (s2 s3 : Slotm) :
    Tl ((endD 1 DS (execs (callK Ps (k+3)) b_law_drawn_tokens_6 ⟨[.lent (.lst (ens (x :: r))), .val (.str ALL), s2, s3, .val (.str signs), .no, .no, .no, .no], hp⟩)).sat (DQ hp) (fun _ _ _ => False)) := by
  obtain ⟨v, x1, r1, hv, e1⟩ := s_pick (k+2) x r (many := 16) (by omega) (by omega) hp
  have e1' : callK Ps (k+3) 9 [.lent (.lst (ens (x :: r))), .val (.int 16)] hp = .ok (.val (.int ((v : Nat) : Int))) [.lent (.lst (ens (x1 :: r1))), .no] hp := e1
  by_cases hb : v = 9
  · subst hb
    have hc : ∀ P : List PVm, compL [] (compB (.v 8) (evT (callK Ps (k+3)) (.cst (.bl true))) (ev (callK Ps (k+3)) (.bin .add (.idx (.var 1) (.bin .add (.bin .fdiv (.var 8) (.cst (.int 12))) (.cst (.int 3)))) (.idx (.var 1) (.bin .add (.bin .mod (.bi .int (.cons (.var 8) .nil)) (.cst (.int 12))) (.cst (.int 40)))))) [8]) (rngL 0 120) [] ⟨[.lent (.lst P), .val (.str ALL), s2, s3, .val (.str signs), .val (.int 9), .no, .no, .no], hp⟩ =
        .ok ([] ++ (List.range 120).map fun k => PVm.str [ALL.getD (k / 12 + 3) 0, ALL.getD (k % 12 + 40) 0]) ⟨[.lent (.lst P), .val (.str ALL), s2, s3, .val (.str signs), .val (.int 9), .no, .no, .no], hp⟩ := fun P =>
      compL_rng (fun k => PVm.str [ALL.getD (k / 12 + 3) 0, ALL.getD (k % 12 + 40) 0]) 0 120 [] rfl (fun i hi => by
        have hA := ALL_len
        have q1 : (i : Int) / 12 + 3 = ((i / 12 + 3 : Nat) : Int) := by omega
        have q2 : (i : Int) % 12 + 40 = ((i % 12 + 40 : Nat) : Int) := by omega
        have a1 : atI ALL ((i / 12 + 3 : Nat) : Int) = some (ALL.getD (i / 12 + 3) 0) := by
          have : i / 12 + 3 < ALL.length := by omega
          rw [atI_nat, List.getElem?_eq_getElem this, getD_eq this]
        have a2 : atI ALL ((i % 12 + 40 : Nat) : Int) = some (ALL.getD (i % 12 + 40) 0) := by
          have : i % 12 + 40 < ALL.length := by omega
          rw [atI_nat, List.getElem?_eq_getElem this, getD_eq this]
        have lg : Nat.log2 12 < 9000 := by decide
        rw [← q1] at a1
        rw [← q2] at a2
        generalize ALL.getD (i / 12 + 3) 0 = u1 at *
        generalize ALL.getD (i % 12 + 40) 0 = u2 at *
        generalize ALL = AL at *
        simp -implicitDefEqProofs -dsimp [compB_eq, a1, a2, lg]) (by simp)
    have e9 : [] ++ (List.range 120).map (fun k => PVm.str [ALL.getD (k / 12 + 3) 0, ALL.getD (k % 12 + 40) 0]) = txts B9 := by
      unfold B9 txts; rw [List.nil_append, List.map_map]; rfl
    rw [e9] at hc
    have hT9 : TK B9 := ⟨⟨B9_nd, B9_tl, B9_ok⟩, by rw [B9_len]; omega, by rw [B9_len]; omega⟩
    have e1'' : callK Ps (k+3) 9 [.lent (.lst (ens (x :: r))), .val (.int 16)] hp = .ok (.val (.int 9)) [.lent (.lst (ens (x1 :: r1))), .no] hp := e1'
    have hfin : ∀ L1, L1 = ens (x1 :: r1) → Tl (DQ hp (.val (.tup (txts B9))) [.lent (.lst L1)] hp) := fun L1 e => tl (hide ⟨B9, x1, r1, hT9, rfl, by rw [e], rfl⟩)
    generalize ens (x :: r) = L0 at *
    generalize hL1 : ens (x1 :: r1) = L1 at *
    generalize txts B9 = T9 at *
    generalize ALL = AL at *
    have hcm : ev (callK Ps (k+3)) (.comp (.bin .add (.idx (.var 1) (.bin .add (.bin .fdiv (.var 8) (.cst (.int 12))) (.cst (.int 3)))) (.idx (.var 1) (.bin .add (.bin .mod (.bi .int (.cons (.var 8) .nil)) (.cst (.int 12))) (.cst (.int 40))))) (.v 8) (.rng (.cons (.cst (.int 120)) .nil)) (.cst (.bl true)) [8]) ⟨[.lent (.lst L1), .val (.str AL), s2, s3, .val (.str signs), .val (.int 9), .no, .no, .no], hp⟩ = .ok (.own (.lst T9)) ⟨[.lent (.lst L1), .val (.str AL), s2, s3, .val (.str signs), .val (.int 9), .no, .no, .no], hp⟩ := by
      rw [ev_comp, e_comp]
      generalize ev (callK Ps (k+3)) (.bin .add (.idx (.var 1) (.bin .add (.bin .fdiv (.var 8) (.cst (.int 12))) (.cst (.int 3)))) (.idx (.var 1) (.bin .add (.bin .mod (.bi .int (.cons (.var 8) .nil)) (.cst (.int 12))) (.cst (.int 40))))) = EE at hc ⊢
      simp -implicitDefEqProofs -dsimp [-evT_cst]
      refine Eq.trans (congrArg (cmp0 [8] _) (hc L1)) ?_
      simp -implicitDefEqProofs
    simp -implicitDefEqProofs -dsimp [b_law_drawn_tokens_6, b_law_drawn_tokens_7, e1'', hcm, -ev_comp]
    exact hfin L1 rfl
  · have hb' : ¬ (v : Int) = 9 := by omega
    have tail := d8 k hp hs v x1 r1 (.val (.str ALL)) s2 s3
    generalize ens (x :: r) = L0 at *
    generalize ens (x1 :: r1) = L1 at *
    generalize ALL = AL at *
    simp -implicitDefEqProofs -dsimp [b_law_drawn_tokens_6, b_law_drawn_tokens_7, e1', hb', hb]
    exact tail
theorem s_drawn (x : Nat) (r : List Nat) : ∃ (toks : List (List Nat)) (x' : Nat) (r' : List Nat), TK toks ∧ callK Ps (k+4) 14 [.lent (.lst (ens (x :: r)))] hp = .ok (.val (.tup (txts toks))) [.lent (.lst (ens (x' :: r')))] hp := by
  suffices h : (callK Ps (k+4) 14 [.lent (.lst (ens (x :: r)))] hp).sat (DQ hp) (fun _ _ _ => False) by
    revert h
    generalize callK Ps (k+4) 14 [.lent (.lst (ens (x :: r)))] hp = R
    intro h
    cases R with
    | stuck => exact h.elim
    | err _ _ _ => exact h.elim
    | ok v sl hp' =>
      obtain ⟨toks, x', r', ht, e1, e2, e3⟩ := h
      exact ⟨toks, x', r', ht, by rw [e1, e2, e3]⟩
  rw [callK_at (d := d_law_drawn_tokens) rfl _ _ _ rfl]
  have hb : d_law_drawn_tokens.body = b_law_drawn_tokens_0 := rfl
  have hn : d_law_drawn_tokens.npar = 1 := rfl
  have hlo : d_law_drawn_tokens.nloc = 8 := rfl
  rw [dtS]
  refine un ?_
  have ea := s_all (k+2) hp
  obtain ⟨kd, x1, r1, hkd, e1⟩ := s_pick (k+2) x r (many := 4) (by omega) (by omega) hp
  have e1' : callK Ps (k+3) 9 [.lent (.lst (ens (x :: r))), .val (.int 4)] hp = .ok (.val (.int ((kd : Nat) : Int))) [.lent (.lst (ens (x1 :: r1))), .no] hp := e1
  obtain ⟨f, x2, r2, hf, e2⟩ := s_pick (k+2) x1 r1 (many := 92) (by omega) (by omega) hp
  have e2' : callK Ps (k+3) 9 [.lent (.lst (ens (x1 :: r1))), .val (.int 92)] hp = .ok (.val (.int ((f : Nat) : Int))) [.lent (.lst (ens (x2 :: r2))), .no] hp := e2
  have g2 := SG_two f hf
  have hA := ALL_len
  have aF : atI ALL (f : Int) = some ALL[f] := by rw [atI_nat]; exact List.getElem?_eq_getElem (by omega)
  have cF : okC ALL[f] = true := okT_mem ALL_ok (List.getElem_mem _)
  generalize ALL[f] = cf at aF cF
  have t1 := fun s2 s3 => d6 k hp (signs := cut ALL (some (f : Int)) (some ((f : Int) + 2))) g2 x2 r2 s2 s3
  have t2 := fun s2 s3 => d6 k hp (signs := ALL) ⟨ALL_ok, by omega, by omega⟩ x2 r2 s2 s3
  have t3 := fun s2 s3 => d6 k hp (signs := [cf]) ⟨by simp [okT, cF], by simp, by simp⟩ x2 r2 s2 s3
  generalize ens (x :: r) = L0 at *
  generalize ens (x1 :: r1) = L1 at *
  generalize ens (x2 :: r2) = L2 at *
  generalize ALL = AL at *
  by_cases h2 : kd = 2
  · subst h2
    simp -implicitDefEqProofs -dsimp [hb, hn, hlo, b_law_drawn_tokens_0, b_law_drawn_tokens_1, b_law_drawn_tokens_2, b_law_drawn_tokens_3, b_law_drawn_tokens_4, b_law_drawn_tokens_5, ea, e1', e2']
    exact t2 _ _
  · by_cases h3 : kd = 3
    · subst h3
      simp -implicitDefEqProofs -dsimp [hb, hn, hlo, b_law_drawn_tokens_0, b_law_drawn_tokens_1, b_law_drawn_tokens_2, b_law_drawn_tokens_3, b_law_drawn_tokens_4, b_law_drawn_tokens_5, ea, e1', e2', aF]
      exact t3 _ _
    · have h2' : ¬ (kd : Int) = 2 := by omega
      have h3' : ¬ (kd : Int) = 3 := by omega
      simp -implicitDefEqProofs -dsimp [hb, hn, hlo, b_law_drawn_tokens_0, b_law_drawn_tokens_1, b_law_drawn_tokens_2, b_law_drawn_tokens_3, b_law_drawn_tokens_4, b_law_drawn_tokens_5, ea, e1', e2', h2', h3', h2, h3]
      exact t1 _ _
end
end K01

set_option linter.all false
set_option maxRecDepth 100000
/-! K01p12: the texts are right, from the end to the start. -/
namespace K01
open Mp
theorem atI_some {l : List PVm} {u : Nat} (h : u < l.length) : ∃ v, v ∈ l ∧ atI l (u : Int) = some v := by
  rw [atI_nat]
  exact ⟨l[u], List.getElem_mem h, List.getElem?_eq_getElem h⟩
def RQ (hp : List MOm) : RVm → List Slotm → List MOm → Prop := fun v fin hp' => Hide (∃ (x' : Nat) (r' : List Nat), v = .val (.bl true) ∧ fin = [.lent (.lst (ens (x' :: r'))), .no] ∧ hp' = hp)
def XS : List Nat := [2, 3, 4, 5, 6, 7, 8, 9]
theorem xtS : d_law_texts_right.body.stos = XS := rfl
/-- refused as a text -/
def badT (v : PVm) : Bool := v.nref && !goodT v
theorem refT_due (w : List Nat) : ∀ x ∈ refL w, due 0 x = true := by
  intro x hx
  simp only [refL, List.mem_cons, List.not_mem_nil, or_false] at hx
  rcases hx with rfl | rfl <;> rfl
section
variable (k : Nat) (hp : List MOm)
theorem x8 (toks : List (List Nat)) (odd : List PVm) (ho : odd.length = 8) (hb : ∀ v ∈ odd, badT v = true) (x : Nat) (r : List Nat) (s2 s3 s4 s5 s6 : Slotm) :
    Tl ((endD 2 XS (execs (callK Ps (k+4)) b_law_texts_right_8 ⟨[.lent (.lst (ens (x :: r))), .val (.tup (txts toks)), s2, s3, s4, s5, s6, .own (.lst odd), .no, .no], hp⟩)).sat (RQ hp) (fun _ _ _ => False)) := by
  refine tl ?_
  generalize hL0 : ens (x :: r) = L0
  simp -implicitDefEqProofs -dsimp [b_law_texts_right_8]
  subst hL0
  refine endD_iff.mpr ?_
  rw [sat_bd]
  refine forL_rng (n := 3) (fun i st => Hide (∃ (x' : Nat) (r' : List Nat) (s8 s9 : Slotm), s8.free = true ∧ s9.free = true ∧ st = ⟨[.lent (.lst (ens (x' :: r'))), .val (.tup (txts toks)), s2, s3, s4, s5, s6, .own (.lst odd), s8, s9], hp⟩)) ?_ ?_ ?_ (hide ⟨x, r, .no, .no, rfl, rfl, rfl⟩)
  · rintro i st ⟨x', r', s8, s9, _, _, rfl⟩
    rfl
  · rintro i st hi ⟨x', r', s8, s9, h8, h9, rfl⟩
    obtain ⟨u, x2, r2, hu, e2⟩ := s_pick (k+3) x' r' (many := 8) (by omega) (by omega) hp
    have e2' : callK Ps (k+4) 9 [.lent (.lst (ens (x' :: r'))), .val (.int 8)] hp = .ok (.val (.int ((u : Nat) : Int))) [.lent (.lst (ens (x2 :: r2))), .no] hp := e2
    obtain ⟨v, hv, av⟩ := atI_some (l := odd) (u := u) (by omega)
    have hb' := Bool.and_eq_true_iff.mp (hb v hv)
    have hg : goodT v = false := by simpa using hb'.2
    have c1 := t_number (k+3) hp (.tup (txts toks)) v (decide ((i : Int) = 1)) (s_number_r k hp (.tup (txts toks)) v hb'.1 hg) _ (.inr ⟨_, rfl, rfl⟩)
    have c2 := s_sameL (k+2) (refL TEXT) hp (refT_due TEXT) _ (.inl rfl)
    rw [show k + 2 + 2 = k + 4 by omega] at c2
    rw [show k + 3 + 1 = k + 4 by omega] at c1
    simp only [refL, REF, TEXT] at c1 c2
    generalize hL1 : ens (x' :: r') = L1 at *
    generalize hL2 : ens (x2 :: r2) = L2 at *
    simp -implicitDefEqProofs -dsimp [sets1_free h8, sets1_free h9, l_law_texts_right_1, e2', av, c1, c2]
    subst hL2
    exact hide ⟨x2, r2, _, _, rfl, rfl, rfl⟩
  · rintro st ⟨x', r', s8, s9, h8, h9, rfl⟩
    generalize hL0 : ens (x' :: r') = L0
    simp -implicitDefEqProofs -dsimp [b_law_texts_right_9]
    subst hL0
    exact hide ⟨x', r', rfl, rfl, rfl⟩
theorem nix_out {t : List Nat} {l : List (List Nat)} (nd : l.Nodup) (h : t ∉ l) : nix t l 0 = -1 := by
  rw [nix_lnx 0 nd, lnx_out 0 _ h]
theorem nix_at {l : List (List Nat)} (nd : l.Nodup) : ∀ (u i : Nat) (h : u < l.length), nix l[u] l i = ((i + u : Nat) : Int) := by
  induction l with
  | nil => intro u i h; simp at h
  | cons w l ih =>
    intro u i h
    have nd' := List.nodup_cons.mp nd
    cases u with
    | zero =>
      show (if w = w then (i : Int) else _) = _
      rw [if_pos rfl]; rfl
    | succ u =>
      have hu : u < l.length := by simpa using h
      show (if w = l[u] then (i : Int) else nix l[u] l (i + 1)) = _
      have hne : ¬ w = l[u] := fun e => nd'.1 (by rw [e]; exact List.getElem_mem hu)
      rw [if_neg hne, ih nd'.2 u (i + 1) hu]
      congr 1; omega
theorem goodT_of {w : List Nat} (h : okT w = true) (hl : w.length ≤ 1200) : goodT (.str w) = true := by
  unfold goodT; simp [h, hl]
theorem okT_rep (n : Nat) {c : Nat} (h : okC c = true) : okT (List.replicate n c) = true := by simp [okT, h]
theorem x7 (toks : List (List Nat)) (w : List Nat) (c : Nat) (a0 : atI (txts toks) 0 = some (.str w)) (a1 : atI w 0 = some c) (hw : w.length ≤ 12) (x : Nat) (r : List Nat) (s2 s3 s4 s5 s6 : Slotm) :
    Tl ((endD 2 XS (execs (callK Ps (k+4)) b_law_texts_right_7 ⟨[.lent (.lst (ens (x :: r))), .val (.tup (txts toks)), s2, s3, s4, s5, s6, .no, .no, .no], hp⟩)).sat (RQ hp) (fun _ _ _ => False)) := by
  have hrep : rep 1201 [c] = List.replicate 1201 c := rep_one 1201 c
  generalize hR : List.replicate 1201 c = R at hrep
  have hRl : R.length = 1201 := by rw [← hR]; simp
  have hro : repOk 1201 1 = true := rfl
  have tail := x8 k hp toks [.str R, .non, .bl true, .int 0, .lst [.str w], .tup [.str w], .int (-1), .tup []] rfl (by
    intro v hv
    simp only [List.mem_cons, List.not_mem_nil, or_false] at hv
    rcases hv with rfl | rfl | rfl | rfl | rfl | rfl | rfl | rfl
    · simp [badT, goodT, hRl, PVm.nref]
    all_goals rfl) x r s2 s3 s4 s5 s6
  generalize ens (x :: r) = L0 at *
  generalize txts toks = TT at *
  simp -implicitDefEqProofs -dsimp [b_law_texts_right_7, a0, a1, hro, hrep]
  exact tail
end
end K01

set_option linter.all false
set_option maxRecDepth 100000
/-! K01p13: the texts are right, the rest. -/
namespace K01
open Mp
section
variable (k : Nat) (hp : List MOm)
theorem x6 {toks : List (List Nat)} (hT : TK toks) (w : List Nat) (c : Nat) (a0 : atI (txts toks) 0 = some (.str w)) (a1 : atI w 0 = some c) (hw : w.length ≤ 12) (hc : okC c = true) (x : Nat) (r : List Nat) (s2 s3 s4 s5 s6 : Slotm) :
    Tl ((endD 2 XS (execs (callK Ps (k+4)) b_law_texts_right_6 ⟨[.lent (.lst (ens (x :: r))), .val (.tup (txts toks)), s2, s3, s4, s5, s6, .no, .no, .no], hp⟩)).sat (RQ hp) (fun _ _ _ => False)) := by
  have tail := x7 k hp toks w c a0 a1 hw x r s2 s3 s4 s5 s6
  have hrep : rep 1200 [c] = List.replicate 1200 c := rep_one 1200 c
  have hRo : okT (List.replicate 1200 c) = true := okT_rep 1200 hc
  generalize hR : List.replicate 1200 c = R at hrep hRo
  have hRl : R.length = 1200 := by rw [← hR]; simp
  have hro : repOk 1200 1 = true := rfl
  have hn : nix R toks 0 = -1 := nix_out hT.ts.nd fun h => by have := (hT.ts.tl R h).2; omega
  have c1 := t_number (k+3) hp (.tup (txts toks)) (.str R) false (s_number k hp toks R (goodT_of hRo (by omega))) _ (.inl ⟨_, rfl, rfl⟩)
  have c2 := s_same 0 (k+3) (.int (-1)) hp rfl
  rw [hn] at c1
  rw [show k + 3 + 0 + 1 = k + 4 by omega] at c2
  rw [show k + 3 + 1 = k + 4 by omega] at c1
  generalize ens (x :: r) = L0 at *
  generalize txts toks = TT at *
  simp -implicitDefEqProofs -dsimp [b_law_texts_right_6, a0, a1, hro, hrep, c1, c2]
  exact tail
theorem x4 {toks : List (List Nat)} (hT : TK toks) (w : List Nat) (c : Nat) (a0 : atI (txts toks) 0 = some (.str w)) (a1 : atI w 0 = some c) (hw : w.length ≤ 12) (hc : okC c = true) (x : Nat) (r : List Nat) (s2 s3 s4 s5 : Slotm) :
    Tl ((endD 2 XS (execs (callK Ps (k+4)) b_law_texts_right_4 ⟨[.lent (.lst (ens (x :: r))), .val (.tup (txts toks)), s2, s3, s4, s5, .no, .no, .no, .no], hp⟩)).sat (RQ hp) (fun _ _ _ => False)) := by
  have tail := x6 k hp hT w c a0 a1 hw hc x r s2 s3 s4 s5 (.val (.int ((toks.length : Int) - 1)))
  obtain ⟨u, hu⟩ : ∃ u, toks.length = u + 1 := ⟨toks.length - 1, by have := hT.l0; omega⟩
  have hul : u < toks.length := by omega
  have e1 : ((toks.length : Int) - 1) = (u : Int) := by omega
  have av : atI (txts toks) (u : Int) = some (.str toks[u]) := by rw [atI_nat]; simp [txts, hul]
  have hm : toks[u] ∈ toks := List.getElem_mem hul
  have hn := nix_at hT.ts.nd u 0 hul
  have hg := goodT_of (hT.ts.ok _ hm) (by have := (hT.ts.tl _ hm).2; omega)
  generalize toks[u] = W at *
  have c1 := t_number (k+3) hp (.tup (txts toks)) (.str W) true (s_number k hp toks W hg) _ (.inl ⟨_, rfl, rfl⟩)
  rw [hn, show ((0 + u : Nat) : Int) = (u : Int) by omega] at c1
  have c2 := s_same 0 (k+3) (.int (u : Int)) hp rfl
  rw [show k + 3 + 0 + 1 = k + 4 by omega] at c2
  rw [show k + 3 + 1 = k + 4 by omega] at c1
  rw [e1] at tail
  have q : ((txts toks).length : Int) - 1 = (u : Int) := by simp [e1]
  generalize ens (x :: r) = L0 at *
  generalize txts toks = TT at *
  simp -implicitDefEqProofs -dsimp [b_law_texts_right_4, b_law_texts_right_5, q, av, c1, c2]
  exact tail
theorem x3 {toks : List (List Nat)} (hT : TK toks) (w : List Nat) (c : Nat) (a0 : atI (txts toks) 0 = some (.str w)) (a1 : atI w 0 = some c) (hw : w.length ≤ 12) (hc : okC c = true) (x : Nat) (r : List Nat) (asked : List (List Nat)) (ha : ∀ w ∈ asked, goodT (.str w) = true) (s2 s4 : Slotm) :
    Tl ((endD 2 XS (execs (callK Ps (k+4)) b_law_texts_right_3 ⟨[.lent (.lst (ens (x :: r))), .val (.tup (txts toks)), s2, .own (.lst (txts asked)), s4, .no, .no, .no, .no, .no], hp⟩)).sat (RQ hp) (fun _ _ _ => False)) := by
  refine tl ?_
  have tail := fun s3 s5 => x4 k hp hT w c a0 a1 hw hc x r s2 s3 s4 s5
  generalize hL : ens (x :: r) = L0 at *
  simp -implicitDefEqProofs -dsimp [b_law_texts_right_3]
  refine endD_iff.mpr ?_
  rw [sat_bd]
  refine forL_enc (enc := PVm.str) (fun pre post st => Hide (asked = pre ++ post ∧ ∃ s5 : Slotm, s5.free = true ∧ st = ⟨[.lent (.lst L0), .val (.tup (txts toks)), s2, .own (.lst (txts asked)), s4, s5, .no, .no, .no, .no], hp⟩)) ?_ ?_ ?_ asked [] _ (hide ⟨rfl, _, rfl, rfl⟩)
  · rintro pre post st ⟨_, s5, _, rfl⟩
    first | rfl | simp [depsOk, depOk]
  · rintro pre t post st ⟨e, s5, h5, rfl⟩
    have hg := ha t (by rw [e]; simp)
    have c1 := t_number (k+3) hp (.tup (txts toks)) (.str t) false (s_number k hp toks t hg) _ (.inl ⟨_, rfl, rfl⟩)
    have c3 := s_lnumber (k+3) hp toks t (by have := hT.l1; omega)
    have c2 := s_same 0 (k+3) (.int (nix t toks 0)) hp rfl
    rw [show k + 3 + 0 + 1 = k + 4 by omega] at c2
    rw [show k + 3 + 1 = k + 4 by omega] at c1 c3
    rw [← nix_lnx 0 hT.ts.nd] at c3
    generalize nix t toks 0 = N at *
    simp -implicitDefEqProofs -dsimp [sets1_free h5, l_law_texts_right_2, c1, c2, c3]
    exact hide ⟨by rw [e]; simp, _, rfl, rfl⟩
  · rintro pre st ⟨e, s5, h5, rfl⟩
    exact endD_iff.mp (un (tail _ _))
end
end K01

set_option linter.all false
set_option maxRecDepth 100000
/-! K01p14: the texts are right, the start. -/
namespace K01
open Mp
theorem cutT_to (l : List (List Nat)) (i : Nat) : cut (txts l) none (some (i : Int)) = txts (l.take i) := by
  unfold cut sIx
  have h : ¬ (i : Int) < 0 := by omega
  simp only [h, if_false, txts_len, Int.toNat_natCast, List.drop_zero, Nat.sub_zero]
  unfold txts
  rw [← List.map_take]
  congr 1
  by_cases hi : i ≤ l.length
  · rw [Nat.min_eq_left hi]
  · rw [Nat.min_eq_right (by omega), List.take_of_length_le (by omega), List.take_of_length_le (by omega)]
theorem okT_cut {w : List Nat} (h : okT w = true) (a b : Option Int) : okT (cut w a b) = true := List.all_eq_true.mpr fun c hc => okT_mem h (cut_mem hc)
section
variable (k : Nat) (hp : List MOm)
theorem x2 {toks : List (List Nat)} (hT : TK toks) (w : List Nat) (c : Nat) (a0 : atI (txts toks) 0 = some (.str w)) (a1 : atI w 0 = some c) (hw : w.length ≤ 12) (hc : okC c = true) (x : Nat) (r : List Nat) (asked : List (List Nat)) (ha : ∀ w ∈ asked, goodT (.str w) = true) (hal : asked.length ≤ 100000) (s2 : Slotm) :
    Tl ((endD 2 XS (execs (callK Ps (k+4)) b_law_texts_right_2 ⟨[.lent (.lst (ens (x :: r))), .val (.tup (txts toks)), s2, .own (.lst (txts asked)), .no, .no, .no, .no, .no, .no], hp⟩)).sat (RQ hp) (fun _ _ _ => False)) := by
  refine tl ?_
  have tail := fun asked ha s4 => x3 k hp hT w c a0 a1 hw hc x r asked ha s2 s4
  have hct : cut (txts toks) none (some 6) = txts (toks.take 6) := cutT_to toks 6
  have htk : ∀ w ∈ toks.take 6, w ∈ toks := fun w h => List.mem_of_mem_take h
  have htl : (toks.take 6).length ≤ 6 := by simp; omega
  generalize hL : ens (x :: r) = L0 at *
  generalize hU : toks.take 6 = U at *
  simp -implicitDefEqProofs -dsimp [b_law_texts_right_2, hct]
  refine endD_iff.mpr ?_
  rw [sat_bd]
  refine forL_enc (enc := PVm.str) (fun pre post st => Hide (U = pre ++ post ∧ ∃ (A : List (List Nat)) (s4 : Slotm), (∀ w ∈ A, goodT (.str w) = true) ∧ A.length ≤ 100000 + 2 * pre.length ∧ s4.free = true ∧ st = ⟨[.lent (.lst L0), .val (.tup (txts toks)), s2, .own (.lst (txts A)), s4, .no, .no, .no, .no, .no], hp⟩)) ?_ ?_ ?_ U [] _ (hide ⟨rfl, asked, _, ha, by omega, rfl, rfl⟩)
  · rintro pre post st ⟨_, A, s5, _, _, _, rfl⟩
    first | rfl | simp [depsOk, depOk]
  · rintro pre t post st ⟨e, A, s4, hA, hAl, h4, rfl⟩
    have hm : t ∈ toks := htk t (by rw [e]; simp)
    have hpl : pre.length ≤ 6 := by have := congrArg List.length e; simp at this; omega
    have h12 := hT.ts.tl t hm
    have hok := hT.ts.ok t hm
    have b0 : ∃ c, atI t 0 = some c ∧ okC c = true := by
      have := atI_nat (l := t) (i := 0)
      rw [show ((0 : Nat) : Int) = 0 from rfl] at this
      have hl0 : 0 < t.length := by omega
      exact ⟨t[0], by rw [this]; exact List.getElem?_eq_getElem hl0, okT_mem hok (List.getElem_mem _)⟩
    obtain ⟨c0, b0, hc0⟩ := b0
    have g1 : goodT (.str (t ++ [c0])) = true := goodT_of (okT_app.mpr ⟨hok, by simp [okT, hc0]⟩) (by simp; omega)
    have g2 : goodT (.str (cut t (some 1) none)) = true := goodT_of (okT_cut hok _ _) (by have := cutQ_len t (some 1) none; omega)
    generalize hV : cut t (some 1) none = V at *
    have q1 : t.length + 1 ≤ 16777216 := by omega
    have q1' : t.length < 16777216 := by omega
    have q2 : A.length < 16777216 := by omega
    have q3 : A.length + 1 < 16777216 := by omega
    have q4 : A.length + 1 ≤ 16777216 := by omega
    simp -implicitDefEqProofs -dsimp [sets1_free h4, l_law_texts_right_3, b0, q1, q1', q2, q3, q4, hV]
    refine hide ⟨by rw [e]; simp, A ++ [t ++ [c0], V], .val (.str t), ?_, by simp; omega, rfl, by simp [txts]⟩
    intro w hw
    rcases List.mem_append.mp hw with hw | hw
    · exact hA w hw
    · simp only [List.mem_cons, List.not_mem_nil, or_false] at hw
      rcases hw with rfl | rfl
      · exact g1
      · exact g2
  · rintro pre st ⟨e, A, s4, hA, hAl, h4, rfl⟩
    exact endD_iff.mp (un (tail A hA _))
theorem s_texts (toks : List (List Nat)) (hT : TK toks) (x : Nat) (r : List Nat) : ∃ (x' : Nat) (r' : List Nat), callK Ps (k+5) 21 [.lent (.lst (ens (x :: r))), .val (.tup (txts toks))] hp = .ok (.val (.bl true)) [.lent (.lst (ens (x' :: r'))), .no] hp := by
  suffices h : (callK Ps (k+5) 21 [.lent (.lst (ens (x :: r))), .val (.tup (txts toks))] hp).sat (RQ hp) (fun _ _ _ => False) by
    revert h
    generalize callK Ps (k+5) 21 [.lent (.lst (ens (x :: r))), .val (.tup (txts toks))] hp = R
    intro h
    cases R with
    | stuck => exact h.elim
    | err _ _ _ => exact h.elim
    | ok v sl hp' =>
      obtain ⟨x', r', e1, e2, e3⟩ := h
      exact ⟨x', r', by rw [e1, e2, e3]⟩
  rw [callK_at (d := d_law_texts_right) rfl _ _ _ rfl]
  have hb : d_law_texts_right.body = b_law_texts_right_0 := rfl
  have hn : d_law_texts_right.npar = 2 := rfl
  have hlo : d_law_texts_right.nloc = 8 := rfl
  rw [xtS]
  refine un ?_
  have hl0 := hT.l0
  have hm0 : toks[0] ∈ toks := List.getElem_mem _
  have a0 : atI (txts toks) 0 = some (.str toks[0]) := by
    have := atI_nat (l := txts toks) (i := 0)
    rw [show ((0 : Nat) : Int) = 0 from rfl] at this
    rw [this]
    have : 0 < toks.length := by omega
    simp [txts, this]
  generalize toks[0] = w at *
  have hw := hT.ts.tl w hm0
  have hok := hT.ts.ok w hm0
  have a1 : ∃ c, atI w 0 = some c ∧ okC c = true := by
    have := atI_nat (l := w) (i := 0)
    rw [show ((0 : Nat) : Int) = 0 from rfl] at this
    have hl0 : 0 < w.length := by omega
    exact ⟨w[0], by rw [this]; exact List.getElem?_eq_getElem hl0, okT_mem hok (List.getElem_mem _)⟩
  obtain ⟨c, a1, hc⟩ := a1
  obtain ⟨W, x1, r1, hW0, hW1, hWo, e1⟩ := s_word (k+2) hp ALL ALL_ok (by rw [ALL_len]; omega) (by rw [ALL_len]; omega) 3 (by omega) (by omega) x r
  have e1' : callK Ps (k+4) 12 [.lent (.lst (ens (x :: r))), .val (.str ALL), .val (.int 3)] hp = .ok (.val (.str W)) [.lent (.lst (ens (x1 :: r1))), .no, .no] hp := e1
  have ea : callK Ps (k+4) 10 [] hp = .ok (.val (.str ALL)) [] hp := s_all (k+3) hp
  have ei : callK Ps (k+4) 15 [.val (.tup (txts toks))] hp = .ok (.val (.tup (txts (due12 toks 12)))) [.no] hp := s_linner (k+3) hp toks (by have := hT.l1; omega)
  have hD : ∀ v ∈ due12 toks 12, okT v = true ∧ v.length ≤ 12 := fun v hv => by
    have h1 := due_len hv
    obtain ⟨i, _, t, ht, _, rfl⟩ := due_mem.mp hv
    exact ⟨List.all_eq_true.mpr fun c hc => okT_mem (hT.ts.ok t ht) (List.mem_of_mem_take hc), by omega⟩
  have hct1 : cut (txts toks) none (some 8) = txts (toks.take 8) := cutT_to toks 8
  have hct2 : cut (txts (due12 toks 12)) none (some 12) = txts ((due12 toks 12).take 12) := cutT_to _ 12
  have tail := x2 k hp hT w c a0 a1 (by omega) hc x1 r1 ([] :: (toks.take 8 ++ ((due12 toks 12).take 12 ++ [W]))) (fun v hv => by
    rcases List.mem_cons.mp hv with rfl | hv
    · rfl
    rcases List.mem_append.mp hv with hv | hv
    · have hm := List.mem_of_mem_take hv
      exact goodT_of (hT.ts.ok v hm) (by have := (hT.ts.tl v hm).2; omega)
    rcases List.mem_append.mp hv with hv | hv
    · have := hD v (List.mem_of_mem_take hv)
      exact goodT_of this.1 (by omega)
    · rw [List.mem_singleton.mp hv]
      exact goodT_of hWo (by omega)) (by simp; omega) (.val (.tup (txts (due12 toks 12))))
  have et : txts ([] :: (toks.take 8 ++ ((due12 toks 12).take 12 ++ [W]))) = .str [] :: (txts (toks.take 8) ++ (txts ((due12 toks 12).take 12) ++ [.str W])) := by simp [txts]
  rw [et] at tail
  have l1 : (txts (toks.take 8)).length ≤ 8 := by simp; omega
  have l2 : (txts ((due12 toks 12).take 12)).length ≤ 12 := by simp; omega
  generalize txts (toks.take 8) = T8 at *
  generalize txts ((due12 toks 12).take 12) = D8 at *
  generalize txts (due12 toks 12) = DD at *
  generalize ens (x :: r) = L0 at *
  generalize ens (x1 :: r1) = L1 at *
  generalize txts toks = TT at *
  generalize ALL = AL at *
  have q1 : 1 + T8.length ≤ 16777216 := by omega
  have q2 : 1 + T8.length + D8.length ≤ 16777216 := by omega
  have q3 : 1 + T8.length + D8.length + 1 ≤ 16777216 := by omega
  have q1' : T8.length + 1 ≤ 16777216 := by omega
  have q2' : T8.length + 1 + D8.length ≤ 16777216 := by omega
  have q3' : T8.length + 1 + D8.length < 16777216 := by omega
  have q4' : T8.length + D8.length + 1 < 16777216 := by omega
  have q5' : T8.length + D8.length + 1 + 1 ≤ 16777216 := by omega
  simp -implicitDefEqProofs -dsimp [hb, hn, hlo, b_law_texts_right_0, b_law_texts_right_1, ei, hct1, hct2, ea, e1', q1, q2, q3, q1', q2', q3', q4', q5']
  exact tail
end
end K01

set_option linter.all false
set_option maxRecDepth 100000
/-! K01p15: the rows are right, the end. -/
namespace K01
open Mp
/-- two lists of texts or numbers: the one lent, the other one's own -/
theorem s_sameO (k : Nat) (l : List PVm) (hp : List MOm) (hd : ∀ x ∈ l, due 0 x = true) :
    callK Ps (k + 2) 11 [.lent (.lst l), .own (.lst l)] hp = .ok (.val (.bl true)) [.lent (.lst l), .no] hp := by
  rw [callK_at (d := d_law_same) rfl _ _ _ rfl]
  simp -implicitDefEqProofs -dsimp [sameB, sameN, sameL, ↓sameS, b_law_same_0, b_law_same_1, b_law_same_2, b_law_same_3, b_law_same_4, b_law_same_5, isTy, zip_self]
  refine endD_eq ?_
  rw [sat_bd]
  refine forL_enc (enc := fun x : PVm => .tup [x, x]) (fun pre post st => Hide (l = pre ++ post ∧ ∃ c c' : Slotm, c.free = true ∧ c'.free = true ∧ st = ⟨[.lent (.lst l), .own (.lst l), c, c'], hp⟩)) ?_ ?_ ?_ l [] _ (hide ⟨rfl, _, _, rfl, rfl, rfl⟩)
  · rintro pre post st ⟨_, c, c', _, _, rfl⟩
    simp [depsOk, depOk]
  · rintro pre x post st ⟨e, c, c', hc, hc', rfl⟩
    have ih := s_same 0 k x hp (hd x (by rw [e]; simp))
    simp -implicitDefEqProofs -dsimp [sets1_free hc, sets1_free hc', l_law_same_1]
    rw [show k + 0 + 1 = k + 1 by omega] at ih
    rw [ih]
    simp -implicitDefEqProofs -dsimp
    exact hide ⟨by rw [e]; simp, _, _, rfl, rfl, rfl⟩
  · rintro pre st ⟨e, c, c', hc, hc', rfl⟩
    simp -implicitDefEqProofs -dsimp [b_law_same_6]
def YS : List Nat := [2, 3, 4, 5, 6, 7, 9, 8]
theorem yrS : d_law_rows_right.body.stos = YS := rfl
theorem ens_due (l : List Nat) : ∀ x ∈ ens l, due 0 x = true := by
  intro x hx
  obtain ⟨n, _, rfl⟩ := List.mem_map.mp hx
  rfl
/-- a row that is none -/
def badRow (m : Nat) (v : PVm) : Bool := v.nref && (match v with | .tup l => l.all PVm.nref && !rowB m l | _ => true)
section
variable (k : Nat) (hp : List MOm)
theorem y8 (toks : List (List Nat)) (row : List Nat) (hrow : row.length ≤ 1000) (x : Nat) (r : List Nat) (s2 s3 s5 s6 s7 s9 s10 : Slotm) :
    Tl ((endD 2 YS (execs (callK Ps (k+5)) b_law_rows_right_8 ⟨[.lent (.lst (ens (x :: r))), .val (.tup (txts toks)), s2, s3, .val (.tup (ens row)), s5, s6, s7, .no, s9, s10], hp⟩)).sat (RQ hp) (fun _ _ _ => False)) := by
  have c1 := t_text_l (k+4) hp (.tup (txts toks)) (ens row) (s_row_text_l k hp _ _)
  have c2 := s_sameL (k+3) (refL ROW) hp (refT_due ROW) _ (.inl rfl)
  have c3 := s_sameO (k+3) (ens row) hp (ens_due row)
  rw [show k + 3 + 2 = k + 5 by omega] at c2 c3
  rw [show k + 4 + 1 = k + 5 by omega] at c1
  simp only [refL, REF, ROW] at c1 c2
  refine tl ?_
  generalize hL0 : ens (x :: r) = L0
  generalize txts toks = TT at *
  generalize ens row = RR at *
  simp -implicitDefEqProofs -dsimp [b_law_rows_right_8, b_law_rows_right_9, b_law_rows_right_10, c1, c2, c3]
  subst hL0
  exact hide ⟨x, r, rfl, rfl, rfl⟩
theorem y7 (toks : List (List Nat)) (row : List Nat) (hrow : row.length ≤ 1000) (odd : List PVm) (ho : odd.length = 14) (hb : ∀ v ∈ odd, badRow toks.length v = true) (x : Nat) (r : List Nat) (s2 s3 s5 s10 : Slotm) :
    Tl ((endD 2 YS (execs (callK Ps (k+5)) b_law_rows_right_7 ⟨[.lent (.lst (ens (x :: r))), .val (.tup (txts toks)), s2, s3, .val (.tup (ens row)), s5, .own (.lst odd), .no, .no, .no, s10], hp⟩)).sat (RQ hp) (fun _ _ _ => False)) := by
  refine tl ?_
  have tail := fun x r s7 s9 => y8 k hp toks row hrow x r s2 s3 s5 (.own (.lst odd)) s7 s9 s10
  have pk : ∀ (x : Nat) (r : List Nat), ∃ (u x' : Nat) (r' : List Nat), u < 14 ∧ callK Ps (k+5) 9 [.lent (.lst (ens (x :: r))), .val (.int 14)] hp = .ok (.val (.int ((u : Nat) : Int))) [.lent (.lst (ens (x' :: r'))), .no] hp := fun x r => s_pick (k+4) x r (many := 14) (by omega) (by omega) hp
  have c1 : ∀ v ∈ odd, ∀ e : Bool, callK Ps (k+5) 18 [.val (.tup (txts toks)), .val v, .val (.bl e)] hp = .ok (.own (.lst (refL ROW))) [.no, .no, .no] hp := fun v hv e => by
    have hb' := Bool.and_eq_true_iff.mp (hb v hv)
    exact t_text (k+4) hp (.tup (txts toks)) v e (s_row_text_r k hp (toks := txts toks) hb'.1 (by rw [txts_len]; revert hb'; cases v <;> exact fun h => h.2)) _ (.inr ⟨_, rfl, rfl⟩)
  have c2 := s_sameL (k+3) (refL ROW) hp (refT_due ROW) _ (.inl rfl)
  rw [show k + 3 + 2 = k + 5 by omega] at c2
  simp only [refL, REF, ROW] at c1 c2
  generalize callK Ps (k+5) = C at *
  generalize hRR : ens row = RR at *
  generalize hL0 : ens (x :: r) = L0
  simp -implicitDefEqProofs -dsimp [b_law_rows_right_7]
  subst hL0
  refine endD_iff.mpr ?_
  rw [sat_bd]
  refine forL_rng (n := 4) (fun i st => Hide (∃ (x' : Nat) (r' : List Nat) (s7 s9 : Slotm), s7.free = true ∧ s9.free = true ∧ st = ⟨[.lent (.lst (ens (x' :: r'))), .val (.tup (txts toks)), s2, s3, .val (.tup RR), s5, .own (.lst odd), s7, .no, s9, s10], hp⟩)) ?_ ?_ ?_ (hide ⟨x, r, .no, .no, rfl, rfl, rfl⟩)
  · rintro i st ⟨x', r', s7, s9, _, _, rfl⟩
    rfl
  · rintro i st hi ⟨x', r', s7, s9, h7, h9, rfl⟩
    obtain ⟨u, x2, r2, hu, e2'⟩ := pk x' r'
    obtain ⟨v, hv, av⟩ := atI_some (l := odd) (u := u) (by omega)
    have c1 := c1 v hv (decide ((i : Int) = 2))
    generalize hL1 : ens (x' :: r') = L1 at *
    generalize hL2 : ens (x2 :: r2) = L2 at *
    simp -implicitDefEqProofs -dsimp [sets1_free h7, sets1_free h9, l_law_rows_right_1, e2', av, c1, c2]
    subst hL2
    exact hide ⟨x2, r2, _, _, rfl, rfl, rfl⟩
  · rintro st ⟨x', r', s7, s9, h7, h9, rfl⟩
    exact endD_iff.mp (un (tail x' r' s7 s9))
end
end K01

set_option linter.all false
set_option maxRecDepth 100000
/-! K01p16: the rows are right, the middle. -/
namespace K01
open Mp
section
variable (k : Nat) (hp : List MOm)
theorem nums_badB {T : Nat} {l : List PVm} {v : PVm} (h : v ∈ l) (hb : badN T v = true) (hl : l.all PVm.nref = true) : badRow T (.tup l) = true := by
  show (PVm.nref (.tup l) && (l.all PVm.nref && !rowB T l)) = true
  unfold rowB
  rw [nums_bad h hb, hl]
  rfl
theorem y6 (toks : List (List Nat)) (hm : toks.length ≤ 1000) (row : List Nat) (hrow : row.length ≤ 1000) (h0 : 1 ≤ row.length) (x : Nat) (r : List Nat) (s3 s5 s10 : Slotm) :
    Tl ((endD 2 YS (execs (callK Ps (k+5)) b_law_rows_right_6 ⟨[.lent (.lst (ens (x :: r))), .val (.tup (txts toks)), .val (.int (toks.length : Int)), s3, .val (.tup (ens row)), s5, .no, .no, .no, .no, s10], hp⟩)).sat (RQ hp) (fun _ _ _ => False)) := by
  have hn := ens_nref row
  have nb : ∀ (l : List PVm) (v : PVm), v ∈ l → badN toks.length v = true → l.all PVm.nref = true → badRow toks.length (.tup l) = true := fun l v h1 h2 h3 => nums_badB h1 h2 h3
  have q60 : rep (61 : Int) (ens row) = ens ((List.replicate 61 row).flatten) := rep_ens 61 row
  have c60 : cut (ens ((List.replicate 61 row).flatten)) none (some 61) = ens (((List.replicate 61 row).flatten).take 61) := cut_to _ 61
  have l60 : (((List.replicate 61 row).flatten).take 61).length = 61 := by
    rw [List.length_take, reps_len]; omega
  have hro : repOk 61 row.length = true := repOk_of (by decide) (by show row.length * 61 ≤ _; omega) (by decide)
  have b60 : badRow toks.length (.tup (ens (((List.replicate 61 row).flatten).take 61))) = true := by
    show (PVm.nref _ && ((ens _).all PVm.nref && !rowB toks.length (ens _))) = true
    unfold rowB
    rw [ens_nref, ens_len, l60, decide_eq_false (by omega), Bool.and_false]
    rfl
  have hpow : ∀ st, ev (callK Ps (k+5)) (.bin .pow (.cst (.int 10)) (.cst (.int 59))) st = .ok (.val (.int (10 ^ 59))) st := fun st => by simp
  have hbig : badN toks.length (.int (10 ^ 59)) = true := by
    show decide ((10 : Int) ^ 59 < 0 ∨ (toks.length : Int) ≤ 10 ^ 59) = true
    refine decide_eq_true (.inr ?_)
    have : (1000 : Int) ≤ 10 ^ 59 := by decide
    omega
  have tail := fun odd h1 h2 => y7 k hp toks row hrow odd h1 h2 x r (.val (.int (toks.length : Int))) s3 s5 s10
  generalize ((List.replicate 61 row).flatten) = R61 at *
  generalize ens (R61.take 61) = R at *
  generalize ens R61 = RR61 at *
  have hel : (ens row).length = row.length := ens_len row
  generalize ens row = E at *
  have t2 := tail [.tup R, .lst E, .tup (E ++ [.int (toks.length : Int)]), .tup (.int (-1) :: E), .tup (.bl true :: E), .tup (E ++ [.bl false]), .non, .str [48], .int 0, .tup [.tup E], .tup (E ++ [.str [48]]), .tup (E ++ [.lst [.int 0]]), .lst [], .tup [.int (10 ^ 59)]] rfl (by
    intro v hv
    simp only [List.mem_cons, List.not_mem_nil, or_false] at hv
    rcases hv with rfl | rfl | rfl | rfl | rfl | rfl | rfl | rfl | rfl | rfl | rfl | rfl | rfl | rfl
    · exact b60
    · simp [badRow, PVm.nref, hn]
    · exact nb _ (.int (toks.length : Int)) (by simp) (by simp [badN]) (by rw [List.all_append, hn]; rfl)
    · exact nb _ (.int (-1)) (by simp) (by simp [badN]) (by rw [List.all_cons, hn]; rfl)
    · exact nb _ (.bl true) (by simp) (by simp [badN]) (by rw [List.all_cons, hn]; rfl)
    · exact nb _ (.bl false) (by simp) (by simp [badN]) (by rw [List.all_append, hn]; rfl)
    · rfl
    · rfl
    · rfl
    · exact nb _ (.tup E) (by simp) (by simp [badN]) (by simp [PVm.nref])
    · exact nb _ (.str [48]) (by simp) (by simp [badN]) (by rw [List.all_append, hn]; rfl)
    · exact nb _ (.lst [.int 0]) (by simp) (by simp [badN]) (by rw [List.all_append, hn]; rfl)
    · rfl
    · exact nb _ (.int (10 ^ 59)) (by simp) hbig rfl)
  generalize callK Ps (k+5) = C at *
  generalize ens (x :: r) = L0 at *
  generalize txts toks = TT at *
  have q1 : E.length + 1 ≤ 16777216 := by omega
  have q2 : 1 + E.length ≤ 16777216 := by omega
  have q3 : E.length < 16777216 := by omega
  have q4 : E.length ≤ 1000 := by omega
  rw [← hel] at hro
  generalize (10 : Int) ^ 59 = B at *
  simp -implicitDefEqProofs -dsimp [b_law_rows_right_6, q60, c60, hro, q1, q2, q3, hpow, q4]
  exact t2
end
end K01

set_option linter.all false
set_option maxRecDepth 100000
/-! K01p17: the rows are right, the start. -/
namespace K01
open Mp
def goodR (m : Nat) (l : List Nat) : Prop := (∀ t ∈ l, t < m) ∧ l.length ≤ 60
theorem allL_mem {m : Nat} : ∀ {n : Nat} {l : List Nat}, l ∈ allL m n → l.length ≤ n ∧ ∀ t ∈ l, t < m
  | 0, l, h => by
    rw [List.mem_singleton.mp h]
    exact ⟨Nat.le_refl _, by simp⟩
  | n + 1, l, h => by
    rcases List.mem_append.mp h with h | h
    · have := allL_mem h
      exact ⟨by omega, this.2⟩
    · have := lastL_mem h
      exact ⟨by omega, this.2⟩
section
variable (k : Nat) (hp : List MOm)
theorem y5 {toks : List (List Nat)} (hT : TK toks) (row : List Nat) (hrow : row.length ≤ 1000) (h0 : 1 ≤ row.length) (RR : List (List Nat)) (hRR : ∀ l ∈ RR, goodR toks.length l) (x : Nat) (r : List Nat) (s10 : Slotm) :
    Tl ((endD 2 YS (execs (callK Ps (k+5)) b_law_rows_right_5 ⟨[.lent (.lst (ens (x :: r))), .val (.tup (txts toks)), .val (.int (toks.length : Int)), .own (.lst (tt RR)), .val (.tup (ens row)), .no, .no, .no, .no, .no, s10], hp⟩)).sat (RQ hp) (fun _ _ _ => False)) := by
  refine tl ?_
  have tail := fun s5 => y6 k hp toks (by have := hT.l1; omega) row hrow h0 x r (.own (.lst (tt RR))) s5 s10
  have c1 : ∀ l, goodR toks.length l → ∀ e : Bool, callK Ps (k+5) 18 [.val (.tup (txts toks)), .val (.tup (ens l)), .val (.bl e)] hp = .ok (.val (.str (cat toks l))) [.no, .no, .no] hp := fun l hl e =>
    t_text (k+4) hp (.tup (txts toks)) (.tup (ens l)) e (s_row_text k hp toks (fun w hw => (hT.ts.tl w hw).2) hl.1 hl.2) _ (.inl ⟨_, rfl, rfl⟩)
  have c2 : ∀ l, goodR toks.length l → callK Ps (k+5) 19 [.val (.tup (txts toks)), .val (.tup (ens l))] hp = .ok (.val (.str (cat toks l))) [.no, .no] hp := fun l hl =>
    s_letters (k+4) hp toks (fun w hw => (hT.ts.tl w hw).2) hl.1 (by have := hl.2; omega)
  have c3 : ∀ s : List Nat, callK Ps (k+5) 11 [.val (.str s), .val (.str s)] hp = .ok (.val (.bl true)) [.no, .no] hp := fun s => s_same 0 (k+4) (.str s) hp rfl
  generalize callK Ps (k+5) = C at *
  generalize ens row = R at *
  generalize ens (x :: r) = L0 at *
  generalize hN : toks.length = N at *
  generalize hTT : txts toks = TT at *
  simp -implicitDefEqProofs -dsimp [b_law_rows_right_5]
  refine endD_iff.mpr ?_
  rw [sat_bd]
  refine forL_enc (enc := fun w : List Nat => PVm.tup (ens w)) (fun pre post st => Hide (RR = pre ++ post ∧ ∃ s5 : Slotm, s5.free = true ∧ st = ⟨[.lent (.lst L0), .val (.tup TT), .val (.int (N : Int)), .own (.lst (tt RR)), .val (.tup R), s5, .no, .no, .no, .no, s10], hp⟩)) ?_ ?_ ?_ RR [] _ (hide ⟨rfl, _, rfl, rfl⟩)
  · rintro pre post st ⟨_, s5, _, rfl⟩
    first | rfl | simp [depsOk, depOk]
  · rintro pre l post st ⟨e, s5, h5, rfl⟩
    have hl := hRR l (by rw [e]; simp)
    have c1 := c1 l hl (decide ((l.length : Int) = 1))
    have c2 := c2 l hl
    have c3 := c3 (cat toks l)
    generalize cat toks l = W at *
    have hel : (ens l).length = l.length := ens_len l
    generalize hE : ens l = E at *
    rw [← hel] at c1
    simp -implicitDefEqProofs -dsimp [sets1_free h5, l_law_rows_right_2, c1, c2, c3]
    exact hide ⟨by rw [e]; simp, _, rfl, rfl⟩
  · rintro pre st ⟨e, s5, h5, rfl⟩
    exact endD_iff.mp (un (tail _))
theorem y3 {toks : List (List Nat)} (hT : TK toks) (row : List Nat) (hr : ∀ t ∈ row, t < toks.length) (hrow : row.length ≤ 60) (h0 : 1 ≤ row.length) (RR : List (List Nat)) (hRR : ∀ l ∈ RR, goodR toks.length l) (hRl : RR.length ≤ 200000) (x : Nat) (r : List Nat) (s10 : Slotm) :
    Tl ((endD 2 YS (execs (callK Ps (k+5)) b_law_rows_right_3 ⟨[.lent (.lst (ens (x :: r))), .val (.tup (txts toks)), .val (.int (toks.length : Int)), .own (.lst (tt RR)), .val (.tup (ens row)), .no, .no, .no, .no, .no, s10], hp⟩)).sat (RQ hp) (fun _ _ _ => False)) := by
  have tail := y5 k hp hT row (by omega) h0 (RR ++ [row, ((List.replicate 60 row).flatten).take 60]) (fun l hl => by
    rcases List.mem_append.mp hl with hl | hl
    · exact hRR l hl
    · simp only [List.mem_cons, List.not_mem_nil, or_false] at hl
      rcases hl with rfl | rfl
      · exact ⟨hr, hrow⟩
      · exact ⟨fun t ht => hr t (reps_mem (List.mem_of_mem_take ht)), by rw [List.length_take]; omega⟩) x r s10
  have q60 : rep (60 : Int) (ens row) = ens ((List.replicate 60 row).flatten) := rep_ens 60 row
  have c60 : cut (ens ((List.replicate 60 row).flatten)) none (some 60) = ens (((List.replicate 60 row).flatten).take 60) := cut_to _ 60
  have hel : (ens row).length = row.length := ens_len row
  have hro : repOk 60 (ens row).length = true := repOk_of (by decide) (by show (ens row).length * 60 ≤ _; omega) (by decide)
  have e4 : tt (RR ++ [row, ((List.replicate 60 row).flatten).take 60]) = tt RR ++ [.tup (ens row), .tup (ens (((List.replicate 60 row).flatten).take 60))] := by rw [tt_app]; rfl
  rw [e4] at tail
  generalize ((List.replicate 60 row).flatten) = R61 at *
  generalize ens (R61.take 60) = R at *
  generalize ens R61 = RR61 at *
  generalize ens row = E at *
  have b1 : (tt RR).length < 16777216 := by rw [tt_len]; omega
  have b2 : (tt RR).length + 1 < 16777216 := by rw [tt_len]; omega
  have b3 : E.length ≤ 1000 := by omega
  generalize tt RR = TR at *
  generalize callK Ps (k+5) = C at *
  generalize ens (x :: r) = L0 at *
  generalize txts toks = TT at *
  simp -implicitDefEqProofs -dsimp [b_law_rows_right_3, b_law_rows_right_4, q60, c60, hro, b1, b2, b3]
  exact tail
theorem rowDraw {toks : List (List Nat)} (h1 : 1 ≤ toks.length) (h2 : toks.length ≤ 1000) (x : Nat) (r : List Nat) (s3 : Slotm) :
    ∃ (l : List Nat) (x' : Nat) (r' : List Nat), 1 ≤ l.length ∧ l.length ≤ 12 ∧ (∀ v ∈ l, v < toks.length) ∧
    ev (callK Ps (k+1)) (.comp (.call 9 (.cons (.var 0) (.cons (.var 2) .nil)) [0, 1]) (.v 10) (.rng (.cons (.bin .add (.cst (.int 1)) (.call 9 (.cons (.var 0) (.cons (.cst (.int 12)) .nil)) [0, 1])) .nil)) (.cst (.bl true)) [10]) ⟨[.lent (.lst (ens (x :: r))), .val (.tup (txts toks)), .val (.int (toks.length : Int)), s3, .no, .no, .no, .no, .no, .no, .no], hp⟩ =
      .ok (.own (.lst (ens l))) ⟨[.lent (.lst (ens (x' :: r'))), .val (.tup (txts toks)), .val (.int (toks.length : Int)), s3, .no, .no, .no, .no, .no, .no, .no], hp⟩ := by
  obtain ⟨v, x1, r1, hv, e1⟩ := s_pick k x r (many := 12) (by omega) (by omega) hp
  have e1' : callK Ps (k+1) 9 [.lent (.lst (ens (x :: r))), .val (.int 12)] hp = .ok (.val (.int ((v : Nat) : Int))) [.lent (.lst (ens (x1 :: r1))), .no] hp := e1
  obtain ⟨l, x', r', h1, h2, h3⟩ := drawsP (b := compB (.v 10) (evT (callK Ps (k+1)) (.cst (.bl true))) (ev (callK Ps (k+1)) (.call 9 (.cons (.var 0) (.cons (.var 2) .nil)) [0, 1])) [10])
    (fun P => [.lent (.lst P), .val (.tup (txts toks)), .val (.int (toks.length : Int)), s3, .no, .no, .no, .no, .no, .no, .no]) hp (fun v => v < toks.length) (v + 1) (by omega) (fun i x r => by
      obtain ⟨v, x2, r2, hv, e⟩ := s_pick k x r (many := toks.length) (by omega) (by omega) hp
      refine ⟨v, x2, r2, hv, ?_⟩
      generalize ens (x :: r) = L0 at e ⊢
      generalize ens (x2 :: r2) = L2 at e ⊢
      simp -implicitDefEqProofs -dsimp [compB_eq, e]) x1 r1
  refine ⟨l, x', r', by omega, by omega, h2, ?_⟩
  have q : (-4611686018427387904 : Int) ≤ 1 + (v : Int) ∧ 1 + (v : Int) < 4611686018427387904 := by omega
  have q2 : (1 + (v : Int)).toNat = v + 1 := by omega
  generalize ens (x :: r) = L0 at e1' ⊢
  generalize ens (x1 :: r1) = L1 at e1' h3
  generalize ens (x' :: r') = L2 at h3 ⊢
  rw [ev_comp, e_comp]
  generalize ev (callK Ps (k + 1)) (.call 9 (.cons (.var 0) (.cons (.var 2) .nil)) [0, 1]) = EE at h3 ⊢
  simp -implicitDefEqProofs -dsimp [e1', q, q2, -evT_cst]
  refine Eq.trans (congrArg (cmp0 [10] _) h3) ?_
  simp -implicitDefEqProofs
theorem y2 {toks : List (List Nat)} (hT : TK toks) (RR : List (List Nat)) (hRR : ∀ l ∈ RR, goodR toks.length l) (hRl : RR.length ≤ 200000) (x : Nat) (r : List Nat) :
    Tl ((endD 2 YS (execs (callK Ps (k+5)) b_law_rows_right_2 ⟨[.lent (.lst (ens (x :: r))), .val (.tup (txts toks)), .val (.int (toks.length : Int)), .own (.lst (tt RR)), .no, .no, .no, .no, .no, .no, .no], hp⟩)).sat (RQ hp) (fun _ _ _ => False)) := by
  obtain ⟨l, x1, r1, h1, h2, h3, e⟩ := rowDraw (k+4) hp hT.l0 (by have := hT.l1; omega) x r (.own (.lst (tt RR)))
  rw [show k + 4 + 1 = k + 5 by omega] at e
  have tail := y3 k hp hT l h3 (by omega) h1 RR hRR hRl x1 r1 .no
  generalize callK Ps (k+5) = C at *
  generalize ens (x :: r) = L0 at *
  generalize ens (x1 :: r1) = L1 at *
  generalize ens l = E at *
  generalize txts toks = TT at *
  simp -implicitDefEqProofs -dsimp [b_law_rows_right_2, e, -ev_comp]
  exact tail
theorem s_rowsR (toks : List (List Nat)) (hT : TK toks) (x : Nat) (r : List Nat) : ∃ (x' : Nat) (r' : List Nat), callK Ps (k+6) 22 [.lent (.lst (ens (x :: r))), .val (.tup (txts toks))] hp = .ok (.val (.bl true)) [.lent (.lst (ens (x' :: r'))), .no] hp := by
  suffices h : (callK Ps (k+6) 22 [.lent (.lst (ens (x :: r))), .val (.tup (txts toks))] hp).sat (RQ hp) (fun _ _ _ => False) by
    revert h
    generalize callK Ps (k+6) 22 [.lent (.lst (ens (x :: r))), .val (.tup (txts toks))] hp = R
    intro h
    cases R with
    | stuck => exact h.elim
    | err _ _ _ => exact h.elim
    | ok v sl hp' =>
      obtain ⟨x', r', e1, e2, e3⟩ := h
      exact ⟨x', r', by rw [e1, e2, e3]⟩
  rw [callK_at (d := d_law_rows_right) rfl _ _ _ rfl]
  have hb : d_law_rows_right.body = b_law_rows_right_0 := rfl
  have hn : d_law_rows_right.npar = 2 := rfl
  have hlo : d_law_rows_right.nloc = 9 := rfl
  rw [yrS]
  refine un ?_
  have tail := fun RR h1 h2 => y2 k hp hT RR h1 h2 x r
  by_cases hm : toks.length ≤ 3
  · have c := s_rows (k+4) hp toks.length 3 (by omega) (by omega) (few hT.l0 (by omega) (by omega))
    rw [show k + 4 + 1 = k + 5 by omega, show ((3 : Nat) : Int) = 3 from rfl] at c
    have t2 := tail (allL toks.length 3) (fun l hl => by have := allL_mem hl; exact ⟨this.2, by omega⟩) (by have := (few (b := 3) hT.l0 (by omega) (by omega) 2 (by omega)).1; simp only [Nat.reduceAdd] at this; omega)
    have hm' : (toks.length : Int) ≤ 3 := by omega
    have hlen : ((txts toks).length : Int) = (toks.length : Int) := by rw [txts_len]
    generalize callK Ps (k+5) = C at *
    generalize ens (x :: r) = L0 at *
    generalize tt (allL toks.length 3) = TA at *
    generalize txts toks = TT at *
    simp -implicitDefEqProofs -dsimp [hb, hn, hlo, b_law_rows_right_0, b_law_rows_right_1, hlen, c, hm', hm]
    exact t2
  · have t2 := tail [[], [toks.length - 1], [0, toks.length - 1], [toks.length - 1, toks.length - 2, 0]] (fun l hl => by
      simp only [List.mem_cons, List.not_mem_nil, or_false] at hl
      rcases hl with rfl | rfl | rfl | rfl
      · exact ⟨by simp, by simp⟩
      · exact ⟨by simp; omega, by simp⟩
      · exact ⟨by simp; omega, by simp⟩
      · exact ⟨by simp; omega, by simp⟩) (by simp)
    have e4 : tt [[], [toks.length - 1], [0, toks.length - 1], [toks.length - 1, toks.length - 2, 0]] = [.tup [], .tup [.int ((toks.length : Int) - 1)], .tup [.int 0, .int ((toks.length : Int) - 1)], .tup [.int ((toks.length : Int) - 1), .int ((toks.length : Int) - 2), .int 0]] := by
      simp only [tt, ens, List.map_cons, List.map_nil]
      rw [show ((toks.length - 1 : Nat) : Int) = (toks.length : Int) - 1 by omega, show ((toks.length - 2 : Nat) : Int) = (toks.length : Int) - 2 by omega]
      rfl
    rw [e4] at t2
    have hm' : ¬ (toks.length : Int) ≤ 3 := by omega
    have hlen : ((txts toks).length : Int) = (toks.length : Int) := by rw [txts_len]
    generalize callK Ps (k+5) = C at *
    generalize ens (x :: r) = L0 at *
    generalize txts toks = TT at *
    simp -implicitDefEqProofs -dsimp [hb, hn, hlo, b_law_rows_right_0, b_law_rows_right_1, hlen, hm', hm]
    exact t2
end
end K01

set_option linter.all false
set_option maxRecDepth 100000
/-! K01p18: the law. -/
namespace K01
open Mp
def LQ : RVm → List Slotm → List MOm → Prop := fun v _ _ => v = .val (.bl true)
def LS : List Nat := [1, 2, 3, 4]
theorem lwS : d_law.body.stos = LS := rfl
theorem due12_len (toks : List (List Nat)) : ∀ n, (due12 toks n).length ≤ n * toks.length
  | 0 => by simp [due12]
  | n + 1 => by
    have ih := due12_len toks n
    have hms : ((grp toks n).mergeSort leT).length = (grp toks n).length := List.length_mergeSort _
    have h1 := adds_len ([] : List (List Nat)) ((toks.filter fun t => decide (n < t.length)).map (·.take n))
    have h2 : (toks.filter fun t => decide (n < t.length)).length ≤ toks.length := List.length_filter_le _ _
    simp only [List.length_nil, Nat.zero_add, List.length_map] at h1
    have h3 : (grp toks n).length ≤ toks.length := by unfold grp; omega
    show (due12 toks n ++ (grp toks n).mergeSort leT).length ≤ _
    rw [List.length_append, hms, Nat.succ_mul]
    omega
section
variable (k : Nat) (hp : List MOm)
theorem s_due {toks : List (List Nat)} (hT : TK toks) : due 1 (.tup (txts (due12 toks 12))) = true := by
  have h := due12_len toks 12
  have := hT.l1
  show (decide ((txts (due12 toks 12)).length ≤ 10000) && (txts (due12 toks 12)).all (due 0)) = true
  rw [decide_eq_true (by rw [txts_len]; omega), Bool.true_and, List.all_eq_true]
  intro x hx
  obtain ⟨w, _, rfl⟩ := List.mem_map.mp hx
  rfl
theorem s_inn (hT : hp[0]? = some (.tbl NM)) {toks : List (List Nat)} (h : TK toks) : callK Ps (k+1) 2 [.val (.tup (txts toks))] hp = .ok (.val (.tup (txts (due12 toks 12)))) [.no] hp := by
  have e := s_inner_texts k hp hT toks (fun w hw => (h.ts.tl w hw).2) (by have := h.l1; omega)
  rw [inner_eq toks (fun w hw => (h.ts.tl w hw).2)] at e
  exact e
theorem lTurn (hT : hp[0]? = some (.tbl NM)) {toks : List (List Nat)} (h : TK toks) (x : Nat) (r : List Nat) (s0 s2 s3 s4 : Slotm) (h4 : s4.free = true) :
    ∃ (x' : Nat) (r' : List Nat), turnF (.v 4) (execs (callK Ps (k+6)) l_law_1) (.tup (txts toks)) ⟨[s0, .own (.lst (ens (x :: r))), s2, s3, s4], hp⟩ =
      .ok .nx ⟨[s0, .own (.lst (ens (x' :: r'))), s2, s3, .val (.tup (txts toks))], hp⟩ := by
  obtain ⟨x1, r1, e1⟩ := s_texts (k+1) hp toks h x r
  rw [show k + 1 + 5 = k + 6 by omega] at e1
  obtain ⟨x2, r2, e2⟩ := s_rowsR k hp toks h x1 r1
  have e3 := s_inn (k+5) hp hT h
  have e4 := s_linner (k+5) hp toks (by have := h.l1; omega)
  have e5 := s_same 1 (k+4) (.tup (txts (due12 toks 12))) hp (s_due h)
  rw [show k + 4 + 1 + 1 = k + 6 by omega] at e5
  rw [show k + 5 + 1 = k + 6 by omega] at e3 e4
  refine ⟨x2, r2, ?_⟩
  generalize callK Ps (k+6) = C at *
  generalize txts (due12 toks 12) = D at *
  generalize txts toks = TT at *
  generalize ens (x :: r) = L0 at *
  generalize ens (x1 :: r1) = L1 at *
  generalize ens (x2 :: r2) = L2 at *
  simp -implicitDefEqProofs -dsimp [sets1_free h4, l_law_1, e1, e2, e3, e4, e5]
theorem l4 (hT : hp[0]? = some (.tbl NM)) {one two : List (List Nat)} (h1 : TK one) (h2 : TK two) (x : Nat) (r : List Nat) (s0 : Slotm) :
    Tl ((endD 1 LS (execs (callK Ps (k+6)) b_law_4 ⟨[s0, .own (.lst (ens (x :: r))), .val (.tup (txts one)), .val (.tup (txts two)), .no], hp⟩)).sat LQ (fun _ _ _ => False)) := by
  obtain ⟨x1, r1, e1⟩ := lTurn k hp hT h2 x r s0 (.val (.tup (txts one))) (.val (.tup (txts two))) .no rfl
  obtain ⟨x2, r2, e2⟩ := lTurn k hp hT h1 x1 r1 s0 (.val (.tup (txts one))) (.val (.tup (txts two))) (.val (.tup (txts two))) rfl
  refine tl ?_
  generalize callK Ps (k+6) = C at *
  have hst : l_law_1.stos = [] := rfl
  generalize txts one = T1 at *
  generalize txts two = T2 at *
  generalize ens (x :: r) = L0 at *
  generalize ens (x1 :: r1) = L1 at *
  generalize ens (x2 :: r2) = L2 at *
  have hF : forL [] (turnF (.v 4) (execs C l_law_1)) [.tup T2, .tup T1] ⟨[s0, .own (.lst L0), .val (.tup T1), .val (.tup T2), .no], hp⟩ = .ok .nx ⟨[s0, .own (.lst L2), .val (.tup T1), .val (.tup T2), .val (.tup T1)], hp⟩ := by
    unfold forL
    rw [if_pos (by rfl), e1, Resm.bind_ok]
    show forL _ _ _ _ = _
    unfold forL
    rw [if_pos (by rfl), e2, Resm.bind_ok]
    show forL _ _ _ _ = _
    unfold forL
    rw [if_pos (by rfl)]
  simp -implicitDefEqProofs -dsimp [b_law_4, hF, hst, Tgtm.vars, b_law_5]
  exact hide rfl
end
theorem s_law (ns : List Int) (h : ns.length ≤ 63) : ∃ fin hp', callK Ps 9 23 [.val (.rol (ns.map PVm.int))] [.tbl NM] = .ok (.val (.bl true)) fin hp' := by
  suffices hh : (callK Ps (2+7) 23 [.val (.rol (ns.map PVm.int))] [.tbl NM]).sat LQ (fun _ _ _ => False) by
    obtain ⟨v, sl, hp', e, rfl⟩ := csat_eq hh
    exact ⟨sl, hp', e⟩
  have hT : ([.tbl NM] : List MOm)[0]? = some (.tbl NM) := rfl
  generalize ([.tbl NM] : List MOm) = hp at *
  generalize 2 = k
  rw [callK_at (d := d_law) rfl _ _ _ rfl]
  have hb : d_law.body = b_law_0 := rfl
  have hn : d_law.npar = 1 := rfl
  have hlo : d_law.nloc = 4 := rfl
  rw [lwS]
  refine un ?_
  obtain ⟨x, r, e0⟩ := s_pool (k+5) ns h hp
  rw [show k + 5 + 1 = k + 6 by omega] at e0
  obtain ⟨one, x1, r1, h1, e1⟩ := s_drawn (k+2) hp x r
  rw [show k + 2 + 4 = k + 6 by omega] at e1
  obtain ⟨two, x2, r2, h2, e2⟩ := s_drawn (k+2) hp x1 r1
  rw [show k + 2 + 4 = k + 6 by omega] at e2
  have e3 := s_inn (k+5) hp hT h1
  have e4 := s_linner (k+5) hp one (by have := h1.l1; omega)
  have e5 := s_same 1 (k+4) (.tup (txts (due12 one 12))) hp (s_due h1)
  rw [show k + 4 + 1 + 1 = k + 6 by omega] at e5
  rw [show k + 5 + 1 = k + 6 by omega] at e3 e4
  have tail := fun s0 => l4 k hp hT h1 h2 x2 r2 s0
  generalize callK Ps (k+6) = C at *
  generalize txts (due12 one 12) = D at *
  generalize txts one = T1 at *
  generalize txts two = T2 at *
  generalize ens (x :: r) = L0 at *
  generalize ens (x1 :: r1) = L1 at *
  generalize ens (x2 :: r2) = L2 at *
  generalize ns.map PVm.int = NS at *
  simp -implicitDefEqProofs -dsimp [hb, hn, hlo, b_law_0, b_law_1, b_law_2, b_law_3, e0, e1, e2, e3, e4, e5]
  exact tail _
end K01

set_option Elab.async false
set_option linter.all false
set_option maxRecDepth 100000
set_option maxHeartbeats 0
namespace K01
open Mp PySem PySem.Spec PyProof.Rows L2
abbrev R : PySem.W.OpenRow := PySem.W.OpenLaw.row PySem.Challenge.rw_stillends_k01_inner_texts_and_rows
abbrev hk : PySem.W.Hook := hookT 5 fs (facts fs es gs) (hkDefs fs es) (lookT fs es)
def ob (s : PySem.W.SharedT) : He.AlD × Bool := obsT 5 fs (facts fs es gs) (hkDefs fs es) (lookT fs es) (HandSHeadRun.getT s)
theorem ob_eq (s : PySem.W.SharedT) : ob s = hk.obs s.abs := obsT_eq (HandSHeadRun.getT_eq s)
def loose1 : List Str := ["StillError", "CallError", "NotUsable", "is_text", "is_number", "_A_TEXT", "inner_texts", "_a_ask_text", "token_number", "_A_ROW", "is_row", "_a_ask_row", "row_text"]
def loose2 : List Str := ["_law_pool", "_law_pick", "_law_all", "_law_same", "_law_word", "_law_tokens", "_law_drawn_tokens", "_law_inner", "_law_number", "_law_number_told", "_law_text_told", "_law_letters", "_law_rows", "_law_texts_right", "_law_rows_right"]
def loose : List Str := loose1 ++ loose2
theorem run (w : World) : HandSHeadRun.RunEq R (PySem.W.view R.prog [33]) hk ob 4000 loose w := by
  intro os
  kernel_rfl
theorem s_run (ns : List Int) (h : ns.length ≤ 63) : ∃ fin hp', callK (fs.map FnD.d) (8 + 1) 23 [.val (.rol (ns.map PVm.int))] (tb0 fs) = .ok (.val (.bl true)) fin hp' := s_law ns h
theorem quals : ∀ z ∈ lams fs, z.qual = z.name := by decide +kernel
end K01
open PySem PySem.W PySem.Calls PyProof.Rows
theorem PySem.Challenge.cw_stillends_k01_inner_texts_and_rows_holds : PySem.Challenge.rw_stillends_k01_inner_texts_and_rows.Holds := by
  w_on; o_law
  refine HandSHeadRun.head_any (r := OpenLaw.row PySem.Challenge.rw_stillends_k01_inner_texts_and_rows) (q := view (OpenLaw.row PySem.Challenge.rw_stillends_k01_inner_texts_and_rows).prog [33]) (H := K01.hk) (ob := K01.ob) (M := 4000) (loose := K01.loose) (d := HandSHeadRun.topDef (OpenLaw.row PySem.Challenge.rw_stillends_k01_inner_texts_and_rows).prog 33) (kwd := []) K01.ob_eq
    (by kernel_rfl) (fun s => by kernel_rfl) K01.run (by kernel_rfl) (by kernel_rfl) (by kernel_rfl) (by rfl) (by first | assumption | decide +kernel) (by decide +kernel) ⟨rfl, rfl, rfl, rfl, rfl, by decide +kernel⟩ ?hw ?hc
  case hw => w_witness2
  case hc =>
    refine LamX.walk_ofTsE (l := PySem.Challenge.rw_stillends_k01_inner_texts_and_rows) (n := 63) (k := 11) (x := "script") (CX := fun _ => L2.CX0) rfl (by decide) (by kernel_rfl) ⟨rfl, by decide, by decide⟩ ?F (fun _ _ _ _ _ z => z)
    intro w mg fa h Y G hmg0
    obtain ⟨K, KX, c, hg⟩ := Y
    have hmg : mg ("law" : PySem.Str) = some (.ref fa) := by
      have e : (HandSHeadRun.topDef (OpenLaw.row PySem.Challenge.rw_stillends_k01_inner_texts_and_rows).prog 33).name = ("law" : PySem.Str) := by kernel_rfl
      rw [← e]
      exact hmg0
    exact Mp.law_headT KX G c hg rfl K01.dok K01.eok K01.quals K01.all_ok (j := 23) rfl rfl hmg 8 K01.s_run
