import PyProof.Rows.All
import HandS.ForMost
import HandS.TupAny
import HandS.TupMul
import HandS.SortInts
import HandS.Exc
import HandS.ExcOwn
import HandS.TryOnly
import HandS.WordsExc
import HandS.Wide
import HandS.WideBits
import HandS.Rev
import HandS.Zip
import HandS.Style
import HandS.Deep
import HandS.IsInst
import KE.KTupSum
import HandS.More
import HandS.HeadWalk
import HandS.EndBits
import HandS.Codes
import PySem.Challenge.RW_brimyard_k55_whole_benches_apart
set_option linter.all false
set_option Elab.async false
set_option maxRecDepth 100000
set_option maxHeartbeats 4000000
set_option autoImplicit true
/-! Br, part A: a small core language, its values and its predicate transformers. Tuples are values, lists, dicts and
objects that are changed are cells. By an AI agent. -/
namespace Br
open PySem

/-- values: tl is a list that nobody changes any more, ref a cell -/
inductive D where
  | non | bl (b : Bool) | int (i : Int) | str (s : Str) | tup (ds : List D) | tl (ds : List D) | ref (n : Nat)
instance : Inhabited D := ⟨.non⟩

/-- cells: dct a dict by intsOf and texts, lkd the same while it is walked, dtt one by tuples of these -/
inductive C where
  | dead
  | lst (ds : List D)
  | dct (kvs : List (D × D)) | lkd (kvs : List (D × D)) | dtt (kvs : List (D × D))
  | ins (c : Nat) (fs : List (Str × D))
abbrev G := List C
abbrev S := List (Option D)

/-- operators, built-ins, methods -/
inductive P where
  | add | sub | mul | fdiv | mod | pow
  | lt | le | gt | ge | eq | ne | isN | notN
  | item | cut (l u : Bool) | rev
  | len | sum | min1 | max1 | min2 | max2 | sorted | tuple | list | all | any | toInt | divmod | isa (t : String)
  | append | extend | index | clear | get | pop0
  deriving DecidableEq

/-- what is walked -/
inductive IK where
  | seq | rng1 | rng2 | zip | enum | revd
  deriving DecidableEq

mutual
inductive CE where
  | var (i : Nat)
  | lit (c : Const)
  | neg (i : Int)
  | glob (j : Nat)
  | prim (p : P) (cs : List CE)
  | meth (p : P) (c : CE) (cs : List CE)
  | slc (a l u : CE)
  | and (cs : List CE)
  | or (cs : List CE)
  | not (c : CE)
  | tup (cs : List CE)
  | lst (cs : List CE)
  | dict0
  | mat (c : CE)
  | frz (c : CE)
  | comp (t : Tg) (own : List (Str × Nat)) (k : IK) (its : List CE) (tst : List CE) (elt : CE)
  | compK (t : Tg) (own : List (Str × Nat)) (i : Nat) (tst : List CE) (elt : CE)
  | call (f : Nat) (cs : List CE)
  | fld (k : Nat) (c : CE) (f : Str)
  | make (k j : Nat) (cs : List CE)
  | own (k j : Nat) (c : CE) (m : Str) (cs : List CE)
inductive Tg where
  | name (i : Nat)
  | tup (ts : List Tg)
  | sub (o i : CE)
end

inductive CS where
  | asg (t : Tg) (e : CE)
  | expr (e : CE)
  | ret (e : CE)
  | ifs (c : CE) (a b : List CS)
  | whil (c : CE) (b : List CS)
  | for (t : Tg) (k : IK) (its : List CE) (b : List CS)
  | brk
  | sfld (k : Nat) (o : CE) (f : Str) (e : CE)
  | never

/-! ### reading -/
def lstOf (g : G) : D → Option (List D)
  | .tl ds => some ds
  | .ref n => match g[n]? with
    | some (.lst ds) => some ds
    | _ => none
  | _ => none
def seqOf (g : G) : D → Option (List D)
  | .tup ds => some ds
  | d => lstOf g d
def dctOf (g : G) : D → Option (List (D × D))
  | .ref n => match g[n]? with
    | some (.dct kvs) => some kvs
    | some (.lkd kvs) => some kvs
    | _ => none
  | _ => none
/-- intsOf, if all are -/
def intsOf : List D → Option (List Int)
  | [] => some []
  | .int i :: r => (intsOf r).map (i :: ·)
  | _ => none
def boolsOf : List D → Option (List Bool)
  | [] => some []
  | .bl b :: r => (boolsOf r).map (b :: ·)
  | _ => none
mutual
/-- cells told: a list cell's items in the place of its ref -/
def res (g : G) : D → D
  | .ref n => match g[n]? with
    | some (.lst ds) => .tl ds
    | _ => .ref n
  | .tup ds => .tup (resL g ds)
  | .tl ds => .tl (resL g ds)
  | .non => .non
  | .bl b => .bl b
  | .int i => .int i
  | .str s => .str s
def resL (g : G) : List D → List D
  | [] => []
  | d :: ds => res g d :: resL g ds
end
mutual
/-- as data -/
def dat : D → Option PyData
  | .non => some .none
  | .bl b => some (.bool b)
  | .int i => some (.int i)
  | .str s => some (.str s)
  | .tup ds => (datL ds).map .tuple
  | .tl ds => (datL ds).map .list
  | .ref _ => none
def datL : List D → Option (List PyData)
  | [] => some []
  | d :: ds => match dat d, datL ds with
    | some p, some ps => some (p :: ps)
    | _, _ => none
end
mutual
/-- all refs below n -/
def closed (n : Nat) : D → Prop
  | .ref m => m < n
  | .tup ds => closedL n ds
  | .tl ds => closedL n ds
  | .non => True
  | .bl _ => True
  | .int _ => True
  | .str _ => True
def closedL (n : Nat) : List D → Prop
  | [] => True
  | d :: ds => closed n d ∧ closedL n ds
end
def closedC (n : Nat) : C → Prop
  | .dead => True
  | .lst ds => closedL n ds
  | .dct kvs => ∀ p ∈ kvs, closed n p.1 ∧ closed n p.2
  | .lkd kvs => ∀ p ∈ kvs, closed n p.1 ∧ closed n p.2
  | .dtt kvs => ∀ p ∈ kvs, closed n p.1 ∧ closed n p.2
  | .ins _ fs => ∀ p ∈ fs, closed n p.2
/-- behind a def: what stood stands, or is something without the def's own cells -/
def okPop (g g' : G) : Prop := ∀ i, i < g.length → ∃ c, g'[i]? = some c ∧ (g[i]? = some c ∨ closedC g.length c)

/-! ### dicts -/
/-- a key: an int or a text -/
def keyB : D → D → Bool
  | .int i, .int j => i == j
  | .str s, .str t => s == t
  | _, _ => false
def isKey : D → Bool
  | .int _ => true
  | .str _ => true
  | _ => false
def kget : List (D × D) → D → Option D
  | [], _ => none
  | (a, v) :: r, k => if keyB a k then some v else kget r k
def kput (kvs : List (D × D)) (k v : D) : List (D × D) :=
  if (kvs.any fun p => keyB p.1 k) = true then kvs.map (fun p => if keyB p.1 k = true then (p.1, v) else p) else kvs ++ [(k, v)]

/-! ### order -/
mutual
def ltD : D → D → Bool
  | .int i, .int j => decide (i < j)
  | .str s, .str t => decide (s.cps.toList < t.cps.toList)
  | .tup a, .tup b => ltL a b
  | _, _ => false
def ltL : List D → List D → Bool
  | [], [] => false
  | [], _ :: _ => true
  | _ :: _, [] => false
  | a :: as, b :: bs => if eqD a b then ltL as bs else ltD a b
def eqD : D → D → Bool
  | .int i, .int j => i == j
  | .str s, .str t => s == t
  | .bl a, .bl b => a == b
  | .non, .non => true
  | .tup a, .tup b => eqL a b
  | _, _ => false
def eqL : List D → List D → Bool
  | [], [] => true
  | a :: as, b :: bs => eqD a b && eqL as bs
  | _, _ => false
end
def sortD (ds : List D) : List D := ds.mergeSort fun a b => !ltD b a

/-! ### places -/
/-- python's place: from the end where below nought -/
def place (n : Nat) (i : Int) : Option Nat :=
  if 0 ≤ i then (if i < n then some i.toNat else none) else (if 0 ≤ i + n then some (i + n).toNat else none)
/-- a slice's bound -/
def clampI (n : Nat) (i : Int) : Nat := if i < 0 then (i + n).toNat else min i.toNat n
def cutL {α : Type} (xs : List α) (l u : Option Int) : List α :=
  let a := (l.map (clampI xs.length)).getD 0
  let b := (u.map (clampI xs.length)).getD xs.length
  (xs.take b).drop a
/-- sizes of lists and texts -/
abbrev LINE : Nat := 16777216
def mulOk (i j : Int) : Prop := ¬ (64 < Builtin.Int.intBits i ∧ 64 < Builtin.Int.intBits j ∧ 100000000 < Builtin.Int.intBits i + Builtin.Int.intBits j)
def divOk (j : Int) : Prop := 0 < j ∧ j.natAbs.log2 < 9000
def bound63 (i : Int) : Prop := -(2 ^ 63) ≤ i ∧ i < 2 ^ 63

/-! ### operators, built-ins, methods: what they tell of values -/
section
variable (g : G) (Q : D → G → Prop)
def prAdd : D → D → Prop
  | .int i, .int j => Q (.int (i + j)) g
  | .str s, .str t => s.length + t.length ≤ LINE ∧ Q (.str (s ++ t)) g
  | .tup a, .tup b => a.length + b.length ≤ LINE ∧ Q (.tup (a ++ b)) g
  | .tl a, y => match lstOf g y with
    | some b => a.length + b.length ≤ LINE ∧ Q (.tl (a ++ b)) g
    | none => False
  | .ref n, y => match lstOf g (.ref n), lstOf g y with
    | some a, some b => a.length + b.length ≤ LINE ∧ Q (.tl (a ++ b)) g
    | _, _ => False
  | _, _ => False
def prMul : D → D → Prop
  | .int i, .int j => mulOk i j ∧ Q (.int (i * j)) g
  | .tl a, .int k => bound63 k ∧ a.length * k.toNat ≤ LINE ∧ Q (.tl (List.replicate k.toNat a).flatten) g
  | _, _ => False
def prItem : D → D → Prop
  | .tup ds, .int i => match place ds.length i with
    | some n => match ds[n]? with
      | some d => Q d g
      | none => False
    | none => False
  | .tl ds, .int i => match place ds.length i with
    | some n => match ds[n]? with
      | some d => Q d g
      | none => False
    | none => False
  | .ref n, k => match g[n]? with
    | some (.lst ds) => match k with
      | .int i => match place ds.length i with
        | some n => match ds[n]? with
          | some d => Q d g
          | none => False
        | none => False
      | _ => False
    | some (.dct kvs) => isKey k = true ∧ match kget kvs k with
      | some d => Q d g
      | none => False
    | some (.lkd kvs) => isKey k = true ∧ match kget kvs k with
      | some d => Q d g
      | none => False
    | _ => False
  | _, _ => False
def prCut (d : D) (l u : Option Int) : Prop :=
  (∀ i, l = some i → bound63 i) ∧ (∀ i, u = some i → bound63 i) ∧ match d with
  | .tup ds => Q (.tup (cutL ds l u)) g
  | .tl ds => Q (.tl (cutL ds l u)) g
  | .ref n => match lstOf g (.ref n) with
    | some ds => Q (.tl (cutL ds l u)) g
    | none => False
  | _ => False
def prRev : D → Prop
  | .tup ds => Q (.tup ds.reverse) g
  | .tl ds => Q (.tl ds.reverse) g
  | .ref n => match lstOf g (.ref n) with
    | some ds => Q (.tl ds.reverse) g
    | none => False
  | _ => False
def prCmp (f : Int → Int → Bool) : D → D → Prop
  | .int i, .int j => Q (.bl (f i j)) g
  | _, _ => False
/-- == over data -/
def prEq (neg : Bool) (x y : D) : Prop := match dat (res g x), dat (res g y) with
  | some p, some q => SeqAt.shaped p = true ∧ SeqAt.shaped q = true ∧ Q (.bl (if neg then !PyData.eqv p q else PyData.eqv p q)) g
  | _, _ => False
def prLen (d : D) : Prop := match d with
  | .str s => s.length ≤ LINE ∧ Q (.int s.length) g
  | .ref n => match g[n]? with
    | some (.lst ds) => Q (.int ds.length) g
    | some (.dct kvs) => Q (.int kvs.length) g
    | _ => False
  | .tup ds => Q (.int ds.length) g
  | .tl ds => Q (.int ds.length) g
  | _ => False
def prInts (f : List Int → Option Int) (d : D) : Prop := match seqOf g d with
  | some ds => match intsOf ds with
    | some ns => match f ns with
      | some i => Q (.int i) g
      | none => False
    | none => False
  | none => False
def prIntsL (f : List Int → Option Int) (d : D) : Prop := match lstOf g d with
  | some ds => match intsOf ds with
    | some ns => match f ns with
      | some i => Q (.int i) g
      | none => False
    | none => False
  | none => False
def prBools (f : List Bool → Bool) (d : D) : Prop := match lstOf g d with
  | some ds => match boolsOf ds with
    | some bs => Q (.bl (f bs)) g
    | none => False
  | none => False
/-- sorted: a list of intsOf, a dict's int keys -/
def prSorted (d : D) : Prop := match lstOf g d with
  | some ds => match intsOf ds with
    | some ns => Q (.tl ((ns.mergeSort fun a b => decide (a ≤ b)).map .int)) g
    | none => False
  | none => match dctOf g d with
    | some kvs => match intsOf (kvs.map (·.1)) with
      | some ns => ns.length < 64 ∧ Q (.tl ((ns.mergeSort fun a b => decide (a ≤ b)).map .int)) g
      | none => False
    | none => False
def prTuple (d : D) : Prop := match seqOf g d with
  | some ds => Q (.tup ds) g
  | none => False
def prList (d : D) : Prop := match seqOf g d with
  | some ds => Q (.tl ds) g
  | none => False
def prAppend : D → D → Prop
  | .ref n, d => match g[n]? with
    | some (.lst ds) => ds.length < LINE ∧ Q .non (g.set n (.lst (ds ++ [d])))
    | _ => False
  | _, _ => False
def prExtend : D → D → Prop
  | .ref n, d => match g[n]?, d with
    | some (.lst ds), .tl es => ds.length + es.length ≤ LINE ∧ Q .non (g.set n (.lst (ds ++ es)))
    | _, _ => False
  | _, _ => False
def prClear : D → Prop
  | .ref n => match g[n]? with
    | some (.lst _) => Q .non (g.set n (.lst []))
    | _ => False
  | _ => False
def prIndex (d : D) (x : D) : Prop := match lstOf g d, x with
  | some ds, .int i => match intsOf ds with
    | some ns => match ns.findIdx? (· == i) with
      | some k => Q (.int k) g
      | none => False
    | none => False
  | _, _ => False
def prGet (d k x : D) : Prop := match d with
  | .ref n => match g[n]? with
    | some (.dct kvs) => isKey k = true ∧ Q ((kget kvs k).getD x) g
    | _ => False
  | _ => False
def prPop0 (d : D) (i : D) : Prop := match d, i with
  | .ref n, .int i => match g[n]? with
    | some (.lst ds) => match place ds.length i with
      | some k => match ds[k]? with
        | some x => bound63 i ∧ Q x (g.set n (.lst (ds.eraseIdx k)))
        | none => False
      | none => False
    | _ => False
  | _, _ => False
def tyName : D → Option String
  | .tup _ => some "tuple"
  | .tl _ => some "list"
  | .int _ => some "int"
  | .bl _ => some "bool"
  | .str _ => some "str"
  | .non => some "NoneType"
  | .ref _ => none
def isaT (a t : String) : Option Bool := if a = t then some true else if a = "bool" ∧ t = "int" then some true else if t ∈ ["tuple", "list", "int", "bool", "str"] then some false else none
def prIsa (t : String) (d : D) : Prop := match tyName (res g d) with
  | some a => match isaT a t with
    | some b => Q (.bl b) g
    | none => False
  | none => False
end
def prII (K : Int → Int → Prop) : D → D → Prop
  | .int i, .int j => K i j
  | _, _ => False
def prI1 (K : Int → Prop) : D → Prop
  | .int i => K i
  | _ => False
def prToInt (g : G) (Q : D → G → Prop) : D → Prop
  | .bl b => Q (.int (if b then 1 else 0)) g
  | .int i => Q (.int i) g
  | _ => False
def pr (g : G) (Q : D → G → Prop) : P → List D → Prop
  | .add, [x, y] => prAdd g Q x y
  | .sub, [x, y] => prII (fun i j => Q (.int (i - j)) g) x y
  | .mul, [x, y] => prMul g Q x y
  | .fdiv, [x, y] => prII (fun i j => divOk j ∧ Q (.int (i / j)) g) x y
  | .mod, [x, y] => prII (fun i j => 0 < j ∧ Q (.int (i % j)) g) x y
  | .pow, [x, y] => prII (fun i j => (0 ≤ j ∧ j ≤ 1000000 ∧ i.natAbs < 2 ^ 64) ∧ Q (.int (i ^ j.toNat)) g) x y
  | .lt, [x, y] => prCmp g Q (fun i j => decide (i < j)) x y
  | .le, [x, y] => prCmp g Q (fun i j => decide (i ≤ j)) x y
  | .gt, [x, y] => prCmp g Q (fun i j => decide (j < i)) x y
  | .ge, [x, y] => prCmp g Q (fun i j => decide (j ≤ i)) x y
  | .eq, [x, y] => prEq g Q false x y
  | .ne, [x, y] => prEq g Q true x y
  | .item, [x, y] => prItem g Q x y
  | .cut false false, [x] => prCut g Q x none none
  | .cut true false, [x, i] => prI1 (fun i => prCut g Q x (some i) none) i
  | .cut false true, [x, i] => prI1 (fun i => prCut g Q x none (some i)) i
  | .rev, [x] => prRev g Q x
  | .len, [x] => prLen g Q x
  | .sum, [x] => prInts g Q (fun ns => some ns.sum) x
  | .min1, [x] => prIntsL g Q (fun ns => ns.min?) x
  | .max1, [x] => prIntsL g Q (fun ns => ns.max?) x
  | .min2, [x, y] => prII (fun i j => Q (.int (min i j)) g) x y
  | .max2, [x, y] => prII (fun i j => Q (.int (max i j)) g) x y
  | .sorted, [x] => prSorted g Q x
  | .tuple, [x] => prTuple g Q x
  | .list, [x] => prList g Q x
  | .all, [x] => prBools g Q (fun bs => bs.all id) x
  | .any, [x] => prBools g Q (fun bs => bs.any id) x
  | .toInt, [x] => prToInt g Q x
  | .divmod, [x, y] => prII (fun i j => divOk j ∧ Q (.tup [.int (i / j), .int (i % j)]) g) x y
  | .isa t, [x] => prIsa g Q t x
  | .append, [x, y] => prAppend g Q x y
  | .extend, [x, y] => prExtend g Q x y
  | .index, [x, y] => prIndex g Q x y
  | .clear, [x] => prClear g Q x
  | .get, [x, k, d] => prGet g Q x k d
  | .pop0, [x, i] => prPop0 g Q x i
  | _, _ => False

/-- what a method's receiver is, ahead of its arguments -/
def recvOk (g : G) (p : P) (d : D) : Prop := match p with
  | .get => match d with
    | .ref n => match g[n]? with
      | some (.dct _) => True
      | _ => False
    | _ => False
  | _ => (lstOf g d).isSome = true

/-- o[i] = d -/
def setI (g : G) (K : G → Prop) : D → D → D → Prop
  | .ref n, k, d => match g[n]? with
    | some (.lst ds) => match k with
      | .int i => match place ds.length i with
        | some j => bound63 i ∧ K (g.set n (.lst (ds.set j d)))
        | none => False
      | _ => False
    | some (.dct kvs) => isKey k = true ∧ kvs.length < LINE ∧ K (g.set n (.dct (kput kvs k d)))
    | _ => False
  | _, _, _ => False

/-- o.f -/
def fldAt (g : G) (k : Nat) (f : Str) (Q : D → G → Prop) : D → Prop
  | .ref n => match g[n]? with
    | some (.ins c fs) => c = k ∧ match fs.lookup f with
      | some v => Q v g
      | none => False
    | _ => False
  | _ => False
/-- o.m is the class's -/
def insAt (g : G) (k : Nat) (m : Str) : D → Prop
  | .ref n => match g[n]? with
    | some (.ins c fs) => c = k ∧ fs.lookup m = none
    | _ => False
  | _ => False
def putD (f : Str) (d : D) : List (Str × D) → List (Str × D)
  | [] => [(f, d)]
  | (a, x) :: r => if a = f then (a, d) :: r else (a, x) :: putD f d r
/-- o.f = v -/
def setF (g : G) (k : Nat) (f : Str) (v : D) (K : G → Prop) : D → Prop
  | .ref n => match g[n]? with
    | some (.ins c fs) => c = k ∧ fs.length < 1000 ∧ K (g.set n (.ins c (putD f v fs)))
    | _ => False
  | _ => False
/-- a class: its name, its __init__, its fields, its methods -/
structure Cd where
  name : Str
  init : Nat
  flds : List Str
  meths : List (Str × Nat)
/-- forget the slots of a comprehension's own names -/
def wipe (σ : S) : List Nat → S
  | [] => σ
  | v :: vs => (wipe σ vs).set v none

/-- a literal's value -/
def litD : Const → D
  | .int i => .int i
  | .bool b => .bl b
  | .str s => .str s
  | _ => .non

/-- the items that a walk goes through; lk: a cell to be kept as it is -/
def items (g : G) : IK → List D → Option (List D)
  | .seq, [x] => seqOf g x
  | .rng1, [.int n] => some ((List.range n.toNat).map fun i => .int (i : Nat))
  | .rng2, [.int a, .int b] => some ((List.range (b - a).toNat).map fun i => .int (a + (i : Nat)))
  | .zip, [x, y] => match x, y with
    | .tup a, .tup b => some ((a.zip b).map fun p => .tup [p.1, p.2])
    | _, _ => match lstOf g x, lstOf g y with
      | some a, some b => some ((a.zip b).map fun p => .tup [p.1, p.2])
      | _, _ => none
  | .enum, [x] => (lstOf g x).map fun a => (List.range a.length).zipWith (fun i d => .tup [.int (i : Nat), d]) a
  | .revd, [x] => (seqOf g x).map List.reverse
  | _, _ => none
/-- a range's ends -/
def rngOk : IK → List D → Prop
  | .rng1, [.int n] => n < 2 ^ 62 ∧ -(2 ^ 62) ≤ n
  | .rng2, [.int a, .int b] => a < 2 ^ 62 ∧ -(2 ^ 62) ≤ a ∧ b < 2 ^ 62 ∧ -(2 ^ 62) ≤ b
  | _, _ => True
/-- what is walked stays -/
def steadyAt (g0 : G) : IK → List D → G → Prop
  | .seq, [x], g => seqOf g x = seqOf g0 x
  | .revd, [x], g => seqOf g x = seqOf g0 x
  | .zip, [x, y], g => seqOf g x = seqOf g0 x ∧ seqOf g y = seqOf g0 y
  | .enum, [x], g => seqOf g x = seqOf g0 x
  | _, _, _ => True

/-! ### the predicate transformers -/
abbrev Ex := Nat → G → Prop
abbrev Phi := Nat → List D → G → (D → G → Prop) → Ex → Prop
structure En where
  nx : S → G → Prop
  rt : D → G → Prop
  bk : S → G → Prop
  ex : Nat → S → G → Prop

/-- a comprehension's turns -/
def compL (stp : D → G → (Option D → G → Prop) → Prop) (st : G → Prop) (fin : List D → G → Prop) : List D → List D → G → Prop
  | [], acc, g => st g ∧ fin acc g
  | x :: xs, acc, g => st g ∧ stp x g fun o g' => match o with
    | some y => acc.length < LINE ∧ compL stp st fin xs (acc ++ [y]) g'
    | none => compL stp st fin xs acc g'
/-- a for loop's turns -/
def forL (body : D → En → S → G → Prop) (st : G → Prop) (E : En) : List D → S → G → Prop
  | [], σ, g => st g ∧ E.nx σ g
  | x :: xs, σ, g => st g ∧ body x { E with nx := fun σ' g' => forL body st E xs σ' g' } σ g
/-- a while loop's turns, n of them at most -/
def whileN (c : S → G → (Bool → G → Prop) → Prop) (body : En → S → G → Prop) (E : En) : Nat → S → G → Prop
  | 0, _, _ => False
  | n + 1, σ, g => c σ g fun b g' => if b = true then body { E with nx := fun σ' g' => whileN c body E n σ' g', bk := E.nx } σ g' else E.nx σ g'
def isBl (d : D) (K : Bool → Prop) : Prop := match d with
  | .bl b => K b
  | _ => False

section
variable (GL : List (Str × D)) (Φ : Phi)
mutual
def wpE : CE → S → G → (D → G → Prop) → Ex → Prop
  | .var i, σ, g, Q, _ => match σ[i]? with
    | some (some d) => Q d g
    | _ => False
  | .lit c, _, g, Q, _ => Q (litD c) g
  | .neg i, _, g, Q, _ => Q (.int (-i)) g
  | .glob j, _, g, Q, _ => match GL[j]? with
    | some (_, d) => Q d g
    | none => False
  | .prim p cs, σ, g, Q, ex => wpEs cs σ g (fun ds g1 => pr g1 Q p ds) ex
  | .meth p c cs, σ, g, Q, ex => wpE c σ g (fun d g1 => recvOk g1 p d ∧ wpEs cs σ g1 (fun ds g2 => pr g2 Q p (d :: ds)) ex) ex
  | .slc a l u, σ, g, Q, ex => wpE a σ g (fun d g1 => wpE l σ g1 (fun x g2 => prI1 (fun i => wpE u σ g2 (fun y g3 => prI1 (fun j => prCut g3 Q d (some i) (some j)) y) ex) x) ex) ex
  | .and cs, σ, g, Q, ex => wpAnd cs σ g Q ex
  | .or cs, σ, g, Q, ex => wpOr cs σ g Q ex
  | .not c, σ, g, Q, ex => wpE c σ g (fun d g1 => isBl d fun b => Q (.bl (!b)) g1) ex
  | .tup cs, σ, g, Q, ex => wpEs cs σ g (fun ds g1 => ds.length ≤ LINE ∧ Q (.tup ds) g1) ex
  | .lst cs, σ, g, Q, ex => wpEs cs σ g (fun ds g1 => ds.length ≤ LINE ∧ Q (.tl ds) g1) ex
  | .dict0, _, g, Q, _ => Q (.ref g.length) (g ++ [.dct []])
  | .mat c, σ, g, Q, ex => wpE c σ g (fun d g1 => match d with
    | .tl ds => Q (.ref g1.length) (g1 ++ [.lst ds])
    | _ => False) ex
  | .frz c, σ, g, Q, ex => wpE c σ g (fun d g1 => match d with
    | .ref n => match g1[n]? with
      | some (.lst ds) => Q (.tl ds) (g1.set n .dead)
      | _ => False
    | _ => False) ex
  | .comp t own k its tst elt, σ, g, Q, ex => wpEs its σ g (fun ds g1 => match items g1 k ds with
    | some xs => rngOk k ds ∧ compL (fun x g2 K => wpT t x (wipe σ (own.map (·.2))) g2 (fun σ3 g3 =>
        wpTst tst σ3 g3 (fun b g4 => if b = true then wpE elt σ3 g4 (fun y g5 => K (some y) g5) (fun _ _ => False) else K none g4) (fun _ _ => False)) (fun _ _ => False))
        (steadyAt g1 k ds) (fun acc g' => Q (.tl acc) g') xs [] g1
    | none => False) ex
  | .compK t own i tst elt, σ, g, Q, _ => match σ[i]? with
    | some (some (.ref n)) => match g[n]? with
      | some (.dct kvs) => compL (fun x g2 K => wpT t x (wipe σ (own.map (·.2))) g2 (fun σ3 g3 =>
          wpTst tst σ3 g3 (fun b g4 => if b = true then wpE elt σ3 g4 (fun y g5 => K (some y) g5) (fun _ _ => False) else K none g4) (fun _ _ => False)) (fun _ _ => False))
          (fun _ => True) (fun acc g' => g'[n]? = some (.lkd kvs) ∧ Q (.tl acc) (g'.set n (.dct kvs))) (kvs.map (·.1)) [] (g.set n (.lkd kvs))
      | _ => False
    | _ => False
  | .call f cs, σ, g, Q, ex => wpEs cs σ g (fun ds g1 => Φ f ds g1 Q ex) ex
  | .fld k c f, σ, g, Q, ex => wpE c σ g (fun d g1 => fldAt g1 k f Q d) ex
  | .make k j cs, σ, g, Q, ex => wpEs cs σ g (fun ds g1 => Φ j (.ref g1.length :: ds) (g1 ++ [.ins k []]) (fun d g2 => d = .non ∧ Q (.ref g1.length) g2) (fun _ _ => False)) ex
  | .own k j c m cs, σ, g, Q, ex => wpE c σ g (fun d g1 => insAt g1 k m d ∧ wpEs cs σ g1 (fun ds g2 => Φ j (d :: ds) g2 Q ex) ex) ex
def wpEs : List CE → S → G → (List D → G → Prop) → Ex → Prop
  | [], _, g, Q, _ => Q [] g
  | c :: cs, σ, g, Q, ex => wpE c σ g (fun d g1 => wpEs cs σ g1 (fun ds g2 => Q (d :: ds) g2) ex) ex
def wpAnd : List CE → S → G → (D → G → Prop) → Ex → Prop
  | [], _, g, Q, _ => False
  | [c], σ, g, Q, ex => wpE c σ g (fun d g1 => isBl d fun b => Q (.bl b) g1) ex
  | c :: cs, σ, g, Q, ex => wpE c σ g (fun d g1 => isBl d fun b => if b = true then wpAnd cs σ g1 Q ex else Q (.bl false) g1) ex
def wpOr : List CE → S → G → (D → G → Prop) → Ex → Prop
  | [], _, g, Q, _ => False
  | [c], σ, g, Q, ex => wpE c σ g (fun d g1 => isBl d fun b => Q (.bl b) g1) ex
  | c :: cs, σ, g, Q, ex => wpE c σ g (fun d g1 => isBl d fun b => if b = true then Q (.bl true) g1 else wpOr cs σ g1 Q ex) ex
def wpTst : List CE → S → G → (Bool → G → Prop) → Ex → Prop
  | [], _, g, Q, _ => Q true g
  | [c], σ, g, Q, ex => wpE c σ g (fun d g1 => isBl d fun b => Q b g1) ex
  | _ :: _ :: _, _, _, _, _ => False
def wpT : Tg → D → S → G → (S → G → Prop) → Ex → Prop
  | .name i, d, σ, g, K, _ => K (σ.set i (some d)) g
  | .tup ts, d, σ, g, K, ex => match d with
    | .tup ds => ds.length = ts.length ∧ wpTs ts ds σ g K ex
    | _ => False
  | .sub o i, d, σ, g, K, ex => wpE o σ g (fun od g1 => wpE i σ g1 (fun id g2 => setI g2 (fun g3 => K σ g3) od id d) ex) ex
def wpTs : List Tg → List D → S → G → (S → G → Prop) → Ex → Prop
  | [], ds, σ, g, K, _ => ds = [] ∧ K σ g
  | t :: ts, ds, σ, g, K, ex => match ds with
    | d :: ds => wpT t d σ g (fun σ1 g1 => wpTs ts ds σ1 g1 K ex) ex
    | [] => False
end
mutual
def wpS : CS → En → S → G → Prop
  | .asg t e, E, σ, g => wpE GL Φ e σ g (fun d g1 => wpT GL Φ t d σ g1 E.nx (fun _ _ => False)) (fun c g' => E.ex c σ g')
  | .expr e, E, σ, g => wpE GL Φ e σ g (fun _ g1 => E.nx σ g1) (fun c g' => E.ex c σ g')
  | .ret e, E, σ, g => wpE GL Φ e σ g E.rt (fun c g' => E.ex c σ g')
  | .ifs c a b, E, σ, g => wpE GL Φ c σ g (fun d g1 => isBl d fun k => if k = true then wpSs a E σ g1 else wpSs b E σ g1) (fun c g' => E.ex c σ g')
  | .whil c b, E, σ, g => ∃ n, whileN (fun σ g K => wpE GL Φ c σ g (fun d g1 => isBl d fun k => K k g1) (fun c g' => E.ex c σ g')) (fun E' σ' g' => wpSs b E' σ' g') E n σ g
  | .for t k its b, E, σ, g => wpEs GL Φ its σ g (fun ds g1 => match items g1 k ds with
    | some xs => rngOk k ds ∧ forL (fun x E' σ' g' => wpT GL Φ t x σ' g' (fun σ2 g2 => wpSs b E' σ2 g2) (fun _ _ => False)) (steadyAt g1 k ds) { E with bk := E.nx } xs σ g1
    | none => False) (fun c g' => E.ex c σ g')
  | .brk, E, σ, g => E.bk σ g
  | .sfld k o f e, E, σ, g => wpE GL Φ e σ g (fun v g1 => wpE GL Φ o σ g1 (fun d g2 => setF g2 k f v (fun g3 => E.nx σ g3) d) (fun c g' => E.ex c σ g')) (fun c g' => E.ex c σ g')
  | .never, _, _, _ => False
def wpSs : List CS → En → S → G → Prop
  | [], E, σ, g => E.nx σ g
  | s :: ss, E, σ, g => wpS s { E with nx := fun σ' g' => wpSs ss E σ' g' } σ g
end
end

/-- a comprehension's turn -/
def stpC (GL : List (Str × D)) (Φ : Phi) (t : Tg) (own : List (Str × Nat)) (tst : List CE) (elt : CE) (σ : S) : D → G → (Option D → G → Prop) → Prop := fun x g2 K =>
  wpT GL Φ t x (wipe σ (own.map (·.2))) g2 (fun σ3 g3 =>
    wpTst GL Φ tst σ3 g3 (fun b g4 => if b = true then wpE GL Φ elt σ3 g4 (fun y g5 => K (some y) g5) (fun _ _ => False) else K none g4) (fun _ _ => False)) (fun _ _ => False)
theorem wpE_comp {GL Φ t own k its tst elt σ g Q ex} : wpE GL Φ (.comp t own k its tst elt) σ g Q ex = wpEs GL Φ its σ g (fun ds g1 => match items g1 k ds with
    | some xs => rngOk k ds ∧ compL (stpC GL Φ t own tst elt σ) (steadyAt g1 k ds) (fun acc g' => Q (.tl acc) g') xs [] g1
    | none => False) ex := by
  conv => lhs; unfold wpE
  rfl

theorem wpE_compK {GL Φ t own i tst elt σ g Q ex} : wpE GL Φ (.compK t own i tst elt) σ g Q ex = (match σ[i]? with
    | some (some (.ref n)) => match g[n]? with
      | some (.dct kvs) => compL (stpC GL Φ t own tst elt σ) (fun _ => True) (fun acc g' => g'[n]? = some (.lkd kvs) ∧ Q (.tl acc) (g'.set n (.dct kvs))) (kvs.map (·.1)) [] (g.set n (.lkd kvs))
      | _ => False
    | _ => False) := by
  conv => lhs; unfold wpE
  rfl
/-- a def: its parameters, its slots, whether its own cells are forgotten behind it, its body -/
structure Df where
  name : Str
  ar : Nat
  slots : Nat
  pop : Nat
  body : List CS
  top : Bool := true
/-- behind a def: 0 all stays, 1 its own cells are forgotten, 2 all but the cell that is handed out -/
def fin (pop : Nat) (g : G) (Q : D → G → Prop) (d : D) (g' : G) : Prop := match pop with
  | 0 => Q d g'
  | 1 => closed g.length d ∧ okPop g g' ∧ Q d (g'.take g.length)
  | _ => okPop g g' ∧ match d with
    | .ref m => g.length ≤ m ∧ match g'[m]? with
      | some c => closedC g.length c ∧ Q (.ref g.length) (g'.take g.length ++ [c])
      | none => False
    | _ => False
def startD (n : Nat) (ds : List D) : S := ds.map some ++ List.replicate (n - ds.length) none
def runD (GL : List (Str × D)) (Φ : Phi) (f : Df) (ds : List D) (g : G) (Q : D → G → Prop) (ex : Ex) : Prop :=
  ds.length = f.ar ∧ wpSs GL Φ f.body { nx := fun _ g' => fin f.pop g Q .non g', rt := fun d g' => fin f.pop g Q d g', bk := fun _ _ => False, ex := fun c _ g' => fin f.pop g (fun _ g'' => ex c g'') .non g' } (startD f.slots ds) g
def phi (GL : List (Str × D)) (T : List Df) : Nat → Phi
  | 0 => fun _ _ _ _ _ => False
  | k + 1 => fun f ds g Q ex => match T[f]? with
    | some d => runD GL (phi GL T k) d ds g Q ex
    | none => False
end Br

/-! Br, part B: how core states stand to the hand layer's heaps. -/
namespace Br
open PySem PySem.Spec PyProof.Rows L2

abbrev Rho := List (Option Addr)
/-- what is read at a, and nobody writes: not a cell's, not hidden; or known to the program -/
def RdT (K : PySem.W.Frag) (ρ : Rho) (B : Addr → Prop) (H : Hp) (a : Addr) (vs : List V) : Prop :=
  (H a = some (.tup vs) ∧ some a ∉ ρ ∧ ¬ B a) ∨
    ∃ (o : Obj) (its : Array Value) (n : Nat), K.lookup a = some o ∧ o.cls = .type "tuple" ∧ o.data = .seq its n ∧ its.size ≤ sizeLine ∧ Vals vs its.toList
def RdL (K : PySem.W.Frag) (ρ : Rho) (B : Addr → Prop) (H : Hp) (a : Addr) (vs : List V) : Prop :=
  (Rd H a (.lst vs) ∧ some a ∉ ρ ∧ ¬ B a) ∨
    ∃ (o : Obj) (its : Array Value) (n : Nat), K.lookup a = some o ∧ o.cls = .type "list" ∧ o.dict = none ∧ o.data = .seq its n ∧ its.size ≤ sizeLine ∧ Vals vs its.toList
theorem RdT.sq {K ρ B H a vs} (h : RdT K ρ B H a vs) : SqT K H a vs := h.elim (fun h => .inl (.inl h.1)) .inr
theorem RdL.sq {K ρ B H a vs} (h : RdL K ρ B H a vs) : SqL K H a vs := h.elim (fun h => .inl h.1) .inr

section
variable (K : PySem.W.Frag) (ρ : Rho) (B : Addr → Prop) (H : Hp)
mutual
def SimV : D → V → Prop
  | .non, v => v = .non
  | .bl b, v => v = .bl b
  | .int i, v => v = .int i
  | .str s, v => v = .str s
  | .tup ds, v => ∃ a vs, v = .ref a ∧ RdT K ρ B H a vs ∧ SimL ds vs
  | .tl ds, v => ∃ a vs, v = .ref a ∧ RdL K ρ B H a vs ∧ SimL ds vs
  | .ref n, v => n < ρ.length ∧ ∀ a, ρ[n]? = some (some a) → v = .ref a
def SimL : List D → List V → Prop
  | [], vs => vs = []
  | d :: ds, vs => ∃ v r, vs = v :: r ∧ SimV d v ∧ SimL ds r
end
end

/-- how the state may have gone on: cells stay or die, new ones are new, what is no cell stands -/
structure Ext (ρ : Rho) (H : Hp) (ρ' : Rho) (H' : Hp) : Prop where
  len : ρ.length ≤ ρ'.length
  old : ∀ (n : Nat) a, n < ρ.length → ρ'[n]? = some (some a) → ρ[n]? = some (some a)
  new : ∀ a, some a ∈ ρ' → some a ∈ ρ ∨ H a = none
  keep : ∀ a o, H a = some o → some a ∉ ρ → H' a = some o
  frz : ∀ a o u, H a = some (.frz o u) → H' a = some (.frz o u)
theorem Ext.refl (ρ : Rho) (H : Hp) : Ext ρ H ρ H := ⟨Nat.le_refl _, fun _ _ _ h => h, fun _ h => .inl h, fun _ _ h _ => h, fun _ _ _ h => h⟩
theorem Ext.trans {ρ H ρ1 H1 ρ2 H2} (a : Ext ρ H ρ1 H1) (b : Ext ρ1 H1 ρ2 H2) : Ext ρ H ρ2 H2 := by
  refine ⟨Nat.le_trans a.len b.len, fun n x hn h => a.old n x hn (b.old n x (Nat.lt_of_lt_of_le hn a.len) h), fun x h => ?_, fun x o h hn => ?_, fun x o u h => b.frz x o u (a.frz x o u h)⟩
  · rcases b.new x h with h | h
    · exact a.new x h
    · by_cases hx : some x ∈ ρ
      · exact .inl hx
      · refine .inr ?_
        cases q : H x with
        | none => rfl
        | some o =>
          rw [a.keep x o q hx] at h
          cases h
  · have h1 := a.keep x o h hn
    refine b.keep x o h1 fun hm => ?_
    rcases a.new x hm with z | z
    · exact hn z
    · rw [h] at z
      cases z
theorem Ext.fresh {ρ : Rho} {H : Hp} {p : Addr} {o : HO} (hp : H p = none) : Ext ρ H ρ (upd H p o) :=
  ⟨Nat.le_refl _, fun _ _ _ h => h, fun _ h => .inl h, fun a u h _ => by rw [upd_ne (ne_of_none h hp)]; exact h, fun a o u h => by rw [upd_ne (ne_of_none h hp)]; exact h⟩
/-- a cell is written -/
theorem nfL {H : Hp} {p : Addr} {vs : List V} (h : H p = some (.lst vs)) : ∀ x u, H p ≠ some (.frz x u) := fun x u e => by rw [h] at e; cases e
theorem nfK {H : Hp} {p : Addr} {vs : List (Key × V)} (h : H p = some (.dK vs)) : ∀ x u, H p ≠ some (.frz x u) := fun x u e => by rw [h] at e; cases e
theorem Ext.write {ρ : Rho} {H : Hp} {p : Addr} {o : HO} (hp : some p ∈ ρ) (hf : ∀ x u, H p ≠ some (.frz x u)) : Ext ρ H ρ (upd H p o) :=
  ⟨Nat.le_refl _, fun _ _ _ h => h, fun _ h => .inl h, fun a u h hn => by
    have : a ≠ p := fun e => hn (by rw [e]; exact hp)
    rw [upd_ne this]
    exact h, fun a o u h => by
    have : a ≠ p := fun e => hf o u (by rw [← e]; exact h)
    rw [upd_ne this]
    exact h⟩

section
variable {K : PySem.W.Frag} {ρ ρ' : Rho} {B : Addr → Prop} {H H' : Hp}
theorem Rd.ext {a u} (x : Ext ρ H ρ' H') (h : Rd H a u) (hn : some a ∉ ρ) : Rd H' a u ∧ some a ∉ ρ' := by
  have key : ∀ o, H a = some o → H' a = some o ∧ some a ∉ ρ' := fun o h => ⟨x.keep a o h hn, fun hm => by
    rcases x.new a hm with z | z
    · exact hn z
    · rw [h] at z; cases z⟩
  rcases h with h | ⟨o, h⟩
  · exact ⟨.inl (key _ h).1, (key _ h).2⟩
  · exact ⟨.inr ⟨o, (key _ h).1⟩, (key _ h).2⟩
theorem RdT.ext {a vs} (x : Ext ρ H ρ' H') (h : RdT K ρ B H a vs) : RdT K ρ' B H' a vs := by
  rcases h with ⟨h, hn, hb⟩ | h
  · have h2 := (Rd.ext x (u := .tup vs) (.inl h) hn).2
    exact .inl ⟨x.keep _ _ h hn, h2, hb⟩
  · exact .inr h
theorem RdL.ext {a vs} (x : Ext ρ H ρ' H') (h : RdL K ρ B H a vs) : RdL K ρ' B H' a vs := by
  rcases h with ⟨h, hn, hb⟩ | h
  · obtain ⟨h1, h2⟩ := Rd.ext x h hn
    exact .inl ⟨h1, h2, hb⟩
  · exact .inr h
mutual
theorem SimV.ext (x : Ext ρ H ρ' H') : ∀ (d : D) (v : V), SimV K ρ B H d v → SimV K ρ' B H' d v
  | .non, _, h => h
  | .bl _, _, h => h
  | .int _, _, h => h
  | .str _, _, h => h
  | .tup ds, _, h => by
    unfold SimV at h ⊢
    obtain ⟨a, vs, e, h1, h2⟩ := h
    exact ⟨a, vs, e, h1.ext x, SimL.ext x ds vs h2⟩
  | .tl ds, _, h => by
    unfold SimV at h ⊢
    obtain ⟨a, vs, e, h1, h2⟩ := h
    exact ⟨a, vs, e, h1.ext x, SimL.ext x ds vs h2⟩
  | .ref n, _, h => by
    unfold SimV at h ⊢
    exact ⟨Nat.lt_of_lt_of_le h.1 x.len, fun a e => h.2 a (x.old n a h.1 e)⟩
theorem SimL.ext (x : Ext ρ H ρ' H') : ∀ (ds : List D) (vs : List V), SimL K ρ B H ds vs → SimL K ρ' B H' ds vs
  | [], _, h => h
  | d :: ds, _, h => by
    unfold SimL at h ⊢
    obtain ⟨v, r, e, h1, h2⟩ := h
    exact ⟨v, r, e, SimV.ext x d v h1, SimL.ext x ds r h2⟩
end
theorem simL_nil {vs : List V} : SimL K ρ B H [] vs ↔ vs = [] := by unfold SimL; exact Iff.rfl
theorem simL_cons {d ds} {vs : List V} : SimL K ρ B H (d :: ds) vs ↔ ∃ v r, vs = v :: r ∧ SimV K ρ B H d v ∧ SimL K ρ B H ds r := by
  conv => lhs; unfold SimL
/-- place by place -/
theorem simL_iff : ∀ {ds : List D} {vs : List V}, SimL K ρ B H ds vs ↔ ds.length = vs.length ∧ ∀ (i : Nat) d v, ds[i]? = some d → vs[i]? = some v → SimV K ρ B H d v
  | [], vs => by
    rw [simL_nil]
    constructor
    · rintro rfl
      exact ⟨rfl, fun i d v h _ => by simp at h⟩
    · rintro ⟨h, _⟩
      exact List.length_eq_zero_iff.mp h.symm
  | d :: ds, vs => by
    rw [simL_cons]
    constructor
    · rintro ⟨v, r, rfl, h1, h2⟩
      obtain ⟨l, h3⟩ := simL_iff.mp h2
      refine ⟨by simp [l], fun i d' v' e1 e2 => ?_⟩
      cases i with
      | zero =>
        simp at e1 e2
        subst e1 e2
        exact h1
      | succ i => exact h3 i d' v' (by simpa using e1) (by simpa using e2)
    · rintro ⟨l, h⟩
      cases vs with
      | nil => simp at l
      | cons v r => exact ⟨v, r, rfl, h 0 d v rfl rfl, simL_iff.mpr ⟨by simpa using l, fun i d' v' e1 e2 => h (i + 1) d' v' (by simpa using e1) (by simpa using e2)⟩⟩
theorem SimL.len {ds : List D} {vs : List V} (h : SimL K ρ B H ds vs) : ds.length = vs.length := (simL_iff.mp h).1
theorem SimL.get {ds : List D} {vs : List V} (h : SimL K ρ B H ds vs) {i : Nat} {d : D} (e : ds[i]? = some d) : ∃ v, vs[i]? = some v ∧ SimV K ρ B H d v := by
  obtain ⟨l, h⟩ := simL_iff.mp h
  have hi : i < vs.length := by
    rw [← l]
    exact (List.getElem?_eq_some_iff.mp e).1
  exact ⟨vs[i], List.getElem?_eq_getElem hi, h i d _ e (List.getElem?_eq_getElem hi)⟩
theorem SimL.append : ∀ {as bs : List D} {us ws : List V}, SimL K ρ B H as us → SimL K ρ B H bs ws → SimL K ρ B H (as ++ bs) (us ++ ws)
  | [], bs, us, ws, h, k => by
    rw [simL_nil] at h
    subst h
    exact k
  | a :: as, bs, us, ws, h, k => by
    rw [simL_cons] at h
    obtain ⟨v, r, rfl, h1, h2⟩ := h
    exact simL_cons.mpr ⟨v, r ++ ws, rfl, h1, SimL.append h2 k⟩
theorem SimL.one {d v} (h : SimV K ρ B H d v) : SimL K ρ B H [d] [v] := simL_cons.mpr ⟨v, [], rfl, h, simL_nil.mpr rfl⟩
theorem SimL.set {ds : List D} {vs : List V} (h : SimL K ρ B H ds vs) (i : Nat) {d v} (k : SimV K ρ B H d v) : SimL K ρ B H (ds.set i d) (vs.set i v) := by
  obtain ⟨l, h⟩ := simL_iff.mp h
  refine simL_iff.mpr ⟨by simp [l], fun j d' v' e1 e2 => ?_⟩
  by_cases e : i = j
  · subst e
    by_cases hi : i < ds.length
    · rw [List.getElem?_set_self hi] at e1
      rw [List.getElem?_set_self (by omega)] at e2
      cases e1; cases e2
      exact k
    · rw [List.getElem?_eq_none (by simpa using hi)] at e1
      cases e1
  · rw [List.getElem?_set_ne e] at e1 e2
    exact h j d' v' e1 e2
theorem SimL.take {ds : List D} {vs : List V} (h : SimL K ρ B H ds vs) (n : Nat) : SimL K ρ B H (ds.take n) (vs.take n) := by
  obtain ⟨l, h⟩ := simL_iff.mp h
  refine simL_iff.mpr ⟨by simp [l], fun j d' v' e1 e2 => ?_⟩
  rw [List.getElem?_take] at e1 e2
  split at e1
  · rename_i hj
    rw [if_pos hj] at e2
    exact h j d' v' e1 e2
  · cases e1
theorem SimL.drop {ds : List D} {vs : List V} (h : SimL K ρ B H ds vs) (n : Nat) : SimL K ρ B H (ds.drop n) (vs.drop n) := by
  obtain ⟨l, h⟩ := simL_iff.mp h
  refine simL_iff.mpr ⟨by simp [l], fun j d' v' e1 e2 => ?_⟩
  rw [List.getElem?_drop] at e1 e2
  exact h _ d' v' e1 e2
theorem SimL.reverse {ds : List D} {vs : List V} (h : SimL K ρ B H ds vs) : SimL K ρ B H ds.reverse vs.reverse := by
  induction ds generalizing vs with
  | nil =>
    rw [simL_nil] at h
    subst h
    exact simL_nil.mpr rfl
  | cons d ds ih =>
    rw [simL_cons] at h
    obtain ⟨v, r, rfl, h1, h2⟩ := h
    rw [List.reverse_cons, List.reverse_cons]
    exact (ih h2).append (.one h1)
theorem SimL.rep {ds : List D} {vs : List V} (h : SimL K ρ B H ds vs) : ∀ n : Nat, SimL K ρ B H (List.replicate n ds).flatten (List.replicate n vs).flatten
  | 0 => simL_nil.mpr rfl
  | n + 1 => by
    rw [List.replicate_succ, List.replicate_succ, List.flatten_cons, List.flatten_cons]
    exact h.append (SimL.rep h n)
theorem SimL.eraseIdx {ds : List D} {vs : List V} (h : SimL K ρ B H ds vs) (n : Nat) : SimL K ρ B H (ds.eraseIdx n) (vs.eraseIdx n) := by
  rw [List.eraseIdx_eq_take_drop_succ, List.eraseIdx_eq_take_drop_succ]
  exact (h.take n).append (h.drop (n + 1))
theorem SimL.ints : ∀ {ds : List D} {vs : List V} {ns : List Int}, SimL K ρ B H ds vs → intsOf ds = some ns → vs = ns.map V.int
  | [], vs, ns, h, e => by
    rw [simL_nil] at h
    subst h
    cases e
    rfl
  | d :: ds, vs, ns, h, e => by
    rw [simL_cons] at h
    obtain ⟨v, r, rfl, h1, h2⟩ := h
    cases d <;> unfold intsOf at e <;> first | cases e | skip
    rename_i i
    cases q : intsOf ds with
    | none => rw [q] at e; cases e
    | some ms =>
      rw [q] at e
      cases e
      unfold SimV at h1
      rw [h1, SimL.ints h2 q]
      rfl
theorem SimL.bools : ∀ {ds : List D} {vs : List V} {ns : List Bool}, SimL K ρ B H ds vs → boolsOf ds = some ns → vs = ns.map V.bl
  | [], vs, ns, h, e => by
    rw [simL_nil] at h
    subst h
    cases e
    rfl
  | d :: ds, vs, ns, h, e => by
    rw [simL_cons] at h
    obtain ⟨v, r, rfl, h1, h2⟩ := h
    cases d <;> unfold boolsOf at e <;> first | cases e | skip
    rename_i i
    cases q : boolsOf ds with
    | none => rw [q] at e; cases e
    | some ms =>
      rw [q] at e
      cases e
      unfold SimV at h1
      rw [h1, SimL.bools h2 q]
      rfl
theorem simL_int : ∀ (ns : List Int), SimL K ρ B H (ns.map D.int) (ns.map V.int)
  | [] => simL_nil.mpr rfl
  | n :: ns => simL_cons.mpr ⟨.int n, _, rfl, by unfold SimV; rfl, simL_int ns⟩
end

/-! ### cells -/
def keyD : D → Option Key
  | .int i => some (.inl i)
  | .str s => some (.inr s)
  | _ => none
def keyT : D → Option (List Key)
  | .tup ds => ds.mapM keyD
  | _ => none
section
variable (K : PySem.W.Frag) (ρ : Rho) (B : Addr → Prop) (H : Hp)
def SimK : List (D × D) → List (Key × V) → Prop := Paired fun p q => keyD p.1 = some q.1 ∧ SimV K ρ B H p.2 q.2
def SimKT : List (D × D) → List (List Key × V) → Prop := Paired fun p q => keyT p.1 = some q.1 ∧ SimV K ρ B H p.2 q.2
def SimF : List (Str × D) → List (Str × V) → Prop := Paired fun p q => p.1 = q.1 ∧ SimV K ρ B H p.2 q.2
end
section
variable (K : PySem.W.Frag) (kl : Nat → Addr) (ρ : Rho) (B : Addr → Prop) (H : Hp)
def SimC : Option Addr → C → Prop
  | x, .dead => x = none
  | x, .lst ds => ∃ a vs, x = some a ∧ H a = some (.lst vs) ∧ SimL K ρ B H ds vs
  | x, .dct kvs => ∃ a ks, x = some a ∧ H a = some (.dK ks) ∧ SimK K ρ B H kvs ks
  | x, .lkd kvs => ∃ a o ks, x = some a ∧ H a = some (.frz o (.dK ks)) ∧ SimK K ρ B H kvs ks
  | x, .dtt kvs => ∃ a ks, x = some a ∧ H a = some (.dT ks) ∧ SimKT K ρ B H kvs ks
  | x, .ins c fs => ∃ a dx vs, x = some a ∧ H a = some (.ins (kl c) dx vs) ∧ SimF K ρ B H fs vs
structure SimG (g : G) : Prop where
  len : ρ.length = g.length
  inj : ∀ (n m : Nat) a, ρ[n]? = some (some a) → ρ[m]? = some (some a) → n = m
  cell : ∀ (n : Nat) c, g[n]? = some c → ∃ x, ρ[n]? = some x ∧ SimC K kl ρ B H x c
  hid : ∀ a, B a → H a ≠ none ∧ some a ∉ ρ
/-- the slots -/
structure Sl (σd : S) (σ : L2.St) : Prop where
  len : σd.length = σ.length
  at_ : ∀ (i : Nat) d, σd[i]? = some (some d) → ∃ v, σ[i]? = some (some v) ∧ SimV K ρ B H d v
structure Rel (σd : S) (g : G) (σ : L2.St) : Prop where
  g : SimG K kl ρ B H g
  s : Sl K ρ B H σd σ
end
section
variable {K : PySem.W.Frag} {kl : Nat → Addr} {ρ ρ' : Rho} {B : Addr → Prop} {H H' : Hp} {g : G}
theorem SimK.ext (x : Ext ρ H ρ' H') {kvs ks} (h : SimK K ρ B H kvs ks) : SimK K ρ' B H' kvs ks := Paired.mapP h fun _ _ z => ⟨z.1, SimV.ext x _ _ z.2⟩
theorem SimKT.ext (x : Ext ρ H ρ' H') {kvs ks} (h : SimKT K ρ B H kvs ks) : SimKT K ρ' B H' kvs ks := Paired.mapP h fun _ _ z => ⟨z.1, SimV.ext x _ _ z.2⟩
theorem SimF.ext (x : Ext ρ H ρ' H') {kvs ks} (h : SimF K ρ B H kvs ks) : SimF K ρ' B H' kvs ks := Paired.mapP h fun _ _ z => ⟨z.1, SimV.ext x _ _ z.2⟩
/-- a cell whose object stands -/
theorem SimC.ext (x : Ext ρ H ρ' H') {y c} (h : SimC K kl ρ B H y c) (k : ∀ a o, y = some a → H a = some o → H' a = some o) : SimC K kl ρ' B H' y c := by
  cases c with
  | dead => exact h
  | lst ds => obtain ⟨a, vs, e, h1, h2⟩ := h; exact ⟨a, vs, e, k a _ e h1, h2.ext x⟩
  | dct kvs => obtain ⟨a, vs, e, h1, h2⟩ := h; exact ⟨a, vs, e, k a _ e h1, h2.ext x⟩
  | lkd kvs => obtain ⟨a, o, vs, e, h1, h2⟩ := h; exact ⟨a, o, vs, e, k a _ e h1, h2.ext x⟩
  | dtt kvs => obtain ⟨a, vs, e, h1, h2⟩ := h; exact ⟨a, vs, e, k a _ e h1, h2.ext x⟩
  | ins c fs => obtain ⟨a, dx, vs, e, h1, h2⟩ := h; exact ⟨a, dx, vs, e, k a _ e h1, h2.ext x⟩
theorem SimC.there {y c a} (h : SimC K kl ρ B H y c) (e : y = some a) : ∃ o, H a = some o := by
  cases c with
  | dead =>
    have h' : y = none := h
    rw [e] at h'
    cases h'
  | lst ds => obtain ⟨b, vs, e', h1, h2⟩ := h; rw [e] at e'; cases e'; exact ⟨_, h1⟩
  | dct kvs => obtain ⟨b, vs, e', h1, h2⟩ := h; rw [e] at e'; cases e'; exact ⟨_, h1⟩
  | lkd kvs => obtain ⟨b, o, vs, e', h1, h2⟩ := h; rw [e] at e'; cases e'; exact ⟨_, h1⟩
  | dtt kvs => obtain ⟨b, vs, e', h1, h2⟩ := h; rw [e] at e'; cases e'; exact ⟨_, h1⟩
  | ins c fs => obtain ⟨b, dx, vs, e', h1, h2⟩ := h; rw [e] at e'; cases e'; exact ⟨_, h1⟩
theorem SimG.live (h : SimG K kl ρ B H g) {a : Addr} (m : some a ∈ ρ) : ∃ o, H a = some o := by
  obtain ⟨n, hn⟩ := List.mem_iff_getElem?.mp m
  have hl : n < g.length := by
    rw [← h.len]
    exact (List.getElem?_eq_some_iff.mp hn).1
  obtain ⟨x, e, c⟩ := h.cell n g[n] (List.getElem?_eq_getElem hl)
  rw [hn] at e
  cases e
  exact c.there rfl
/-- a new object beside -/
theorem SimG.fresh (h : SimG K kl ρ B H g) {p : Addr} {o : HO} (hp : H p = none) : SimG K kl ρ B (upd H p o) g where
  len := h.len
  inj := h.inj
  cell := fun n c e => by
    obtain ⟨x, e1, h1⟩ := h.cell n c e
    exact ⟨x, e1, h1.ext (Ext.fresh hp) fun a u _ q => by rw [upd_ne (ne_of_none q hp)]; exact q⟩
  hid := fun a b => ⟨by
    by_cases e : a = p
    · subst e
      rw [upd_same]
      exact fun z => nomatch z
    · rw [upd_ne e]
      exact (h.hid a b).1, (h.hid a b).2⟩
theorem mem_set_live {ρ : Rho} {n : Nat} {a : Addr} (h : ρ[n]? = some (some a)) : some a ∈ ρ := List.mem_iff_getElem?.mpr ⟨n, h⟩
/-- a cell is written -/
theorem SimG.write (h : SimG K kl ρ B H g) {n : Nat} {a : Addr} {o : HO} {c : C} (hn : ρ[n]? = some (some a)) (hf : ∀ x u, H a ≠ some (.frz x u)) (hc : SimC K kl ρ B (upd H a o) (some a) c) : SimG K kl ρ B (upd H a o) (g.set n c) where
  len := by rw [List.length_set]; exact h.len
  inj := h.inj
  cell := fun m d e => by
    have hl : n < g.length := by
      rw [← h.len]
      exact (List.getElem?_eq_some_iff.mp hn).1
    by_cases hm : n = m
    · subst hm
      rw [List.getElem?_set_self hl] at e
      cases e
      exact ⟨some a, hn, hc⟩
    · rw [List.getElem?_set_ne hm] at e
      obtain ⟨x, e1, h1⟩ := h.cell m d e
      refine ⟨x, e1, h1.ext (Ext.write (mem_set_live hn) hf) fun b u eb q => ?_⟩
      have : b ≠ a := fun z => hm (h.inj n m a hn (by rw [e1, eb, z]))
      rw [upd_ne this]
      exact q
  hid := fun b hb => ⟨by
    by_cases e : b = a
    · subst e
      rw [upd_same]
      exact fun z => nomatch z
    · rw [upd_ne e]
      exact (h.hid b hb).1, (h.hid b hb).2⟩
/-- a new cell -/
theorem SimG.alloc {p : Addr} {o : HO} {c : C} (h : SimG K kl ρ B H g) (hp : H p = none) (hc : SimC K kl (ρ ++ [some p]) B (upd H p o) (some p) c) :
    SimG K kl (ρ ++ [some p]) B (upd H p o) (g ++ [c]) ∧ Ext ρ H (ρ ++ [some p]) (upd H p o) := by
  have nm : some p ∉ ρ := fun m => by
    obtain ⟨u, e⟩ := h.live m
    rw [hp] at e
    cases e
  have x : Ext ρ H (ρ ++ [some p]) (upd H p o) := ⟨by simp, fun n a hn e => by rw [List.getElem?_append_left hn] at e; exact e, fun a m => by
    rcases List.mem_append.mp m with m | m
    · exact .inl m
    · simp at m
      subst m
      exact .inr hp, fun a u q _ => by rw [upd_ne (ne_of_none q hp)]; exact q, fun a o u q => by rw [upd_ne (ne_of_none q hp)]; exact q⟩
  refine ⟨⟨by simp [h.len], fun n m a e1 e2 => ?_, fun n d e => ?_, fun a b => ⟨?_, ?_⟩⟩, x⟩
  · have hx : ∀ k, (ρ ++ [some p])[k]? = some (some a) → (k < ρ.length ∧ ρ[k]? = some (some a)) ∨ (k = ρ.length ∧ a = p) := fun k e => by
      by_cases hk : k < ρ.length
      · rw [List.getElem?_append_left hk] at e
        exact .inl ⟨hk, e⟩
      · have hk2 : k = ρ.length := by
          have := (List.getElem?_eq_some_iff.mp e).1
          simp at this
          omega
        subst hk2
        simp at e
        exact .inr ⟨rfl, e.symm⟩
    rcases hx n e1 with ⟨h1, h2⟩ | ⟨h1, h2⟩ <;> rcases hx m e2 with ⟨h3, h4⟩ | ⟨h3, h4⟩
    · exact h.inj n m a h2 h4
    · subst h4
      exact absurd (mem_set_live h2) nm
    · subst h2
      exact absurd (mem_set_live h4) nm
    · omega
  · by_cases hn : n < g.length
    · rw [List.getElem?_append_left hn] at e
      obtain ⟨y, e1, h1⟩ := h.cell n d e
      refine ⟨y, by rw [List.getElem?_append_left (by rw [h.len]; exact hn)]; exact e1, h1.ext x fun a u _ q => by rw [upd_ne (ne_of_none q hp)]; exact q⟩
    · have hn2 : n = g.length := by
        have := (List.getElem?_eq_some_iff.mp e).1
        simp at this
        omega
      subst hn2
      simp at e
      subst e
      exact ⟨some p, by rw [← h.len]; simp, hc⟩
  · by_cases e : a = p
    · subst e
      rw [upd_same]
      exact fun z => nomatch z
    · rw [upd_ne e]
      exact (h.hid a b).1
  · intro m
    rcases List.mem_append.mp m with m | m
    · exact (h.hid a b).2 m
    · simp at m
      subst m
      exact (h.hid a b).1 hp
theorem Sl.ext {σd : S} {σ : L2.St} (x : Ext ρ H ρ' H') (h : Sl K ρ B H σd σ) : Sl K ρ' B H' σd σ :=
  ⟨h.len, fun i d e => let ⟨v, e1, h1⟩ := h.at_ i d e; ⟨v, e1, SimV.ext x d v h1⟩⟩
theorem Sl.set {σd : S} {σ : L2.St} (h : Sl K ρ B H σd σ) (i : Nat) {d v} (k : SimV K ρ B H d v) : Sl K ρ B H (σd.set i (some d)) (σ.set i (some v)) := by
  refine ⟨by simp [h.len], fun j d' e => ?_⟩
  by_cases hj : i = j
  · subst hj
    by_cases hi : i < σd.length
    · rw [List.getElem?_set_self hi] at e
      cases e
      exact ⟨v, List.getElem?_set_self (by rw [← h.len]; exact hi), k⟩
    · rw [List.getElem?_eq_none (by simpa using hi)] at e
      cases e
  · rw [List.getElem?_set_ne hj] at e ⊢
    exact h.at_ j d' e
theorem Rel.ext {σd : S} {σ : L2.St} {g' : G} (r : Rel K kl ρ B H σd g σ) (x : Ext ρ H ρ' H') (h : SimG K kl ρ' B H' g') : Rel K kl ρ' B H' σd g' σ := ⟨h, r.s.ext x⟩
end
end Br

/-! Br, part C: judgements over core expressions; operators, built-ins, methods. -/
namespace Br
open PySem PySem.Spec PyProof.Rows L2

/-- what is wanted behind: every state that stands for the told one -/
def Post (K : PySem.W.Frag) (kl : Nat → Addr) (R : D → G → Prop) (ρ : Rho) (B : Addr → Prop) (H : Hp) (Q : VK) : Prop :=
  ∀ d g' ρ' H' v, R d g' → Ext ρ H ρ' H' → SimG K kl ρ' B H' g' → SimV K ρ' B H' d v → Q v H'
def PostL (K : PySem.W.Frag) (kl : Nat → Addr) (R : List D → G → Prop) (ρ : Rho) (B : Addr → Prop) (H : Hp) (Q : List V → Hp → Prop) : Prop :=
  ∀ d g' ρ' H' v, R d g' → Ext ρ H ρ' H' → SimG K kl ρ' B H' g' → SimL K ρ' B H' d v → Q v H'
def PostX (K : PySem.W.Frag) (kl : Nat → Addr) (rx : Ex) (ρ : Rho) (B : Addr → Prop) (H : Hp) (W : L2.WX) (σ : L2.St) : Prop :=
  ∀ n g' ρ' H', rx n g' → Ext ρ H ρ' H' → SimG K kl ρ' B H' g' → W (.ref (kl n)) none σ H'
section
variable {K : PySem.W.Frag} {kl : Nat → Addr} {R : D → G → Prop} {ρ : Rho} {B : Addr → Prop} {H : Hp} {Q : VK} {g : G}
theorem Post.ret (q : Post K kl R ρ B H Q) {d v} (r : R d g) (hg : SimG K kl ρ B H g) (hv : SimV K ρ B H d v) : Q v H := q d g ρ H v r (Ext.refl _ _) hg hv
theorem Post.ext (q : Post K kl R ρ B H Q) {ρ' H'} (x : Ext ρ H ρ' H') : Post K kl R ρ' B H' Q := fun d g' ρ2 H2 v r x2 => q d g' ρ2 H2 v r (x.trans x2)
theorem RdT.new (hg : SimG K kl ρ B H g) {p : Addr} {vs : List V} (hp : H p = none) : RdT K ρ B (upd H p (.tup vs)) p vs :=
  .inl ⟨upd_same, (fun m => by obtain ⟨o, e⟩ := hg.live m; rw [hp] at e; cases e), fun b => (hg.hid p b).1 hp⟩
theorem RdL.new (hg : SimG K kl ρ B H g) {p : Addr} {vs : List V} (hp : H p = none) : RdL K ρ B (upd H p (.lst vs)) p vs :=
  .inl ⟨.of upd_same, (fun m => by obtain ⟨o, e⟩ := hg.live m; rw [hp] at e; cases e), fun b => (hg.hid p b).1 hp⟩
theorem Post.newT (q : Post K kl R ρ B H Q) {ds vs} (r : R (.tup ds) g) (hg : SimG K kl ρ B H g) (hv : SimL K ρ B H ds vs) : ∀ p, H p = none → Q (.ref p) (upd H p (.tup vs)) := fun p hp =>
  q _ g ρ _ _ r (Ext.fresh hp) (hg.fresh hp) (by unfold SimV; exact ⟨p, vs, rfl, RdT.new hg hp, hv.ext (Ext.fresh hp)⟩)
theorem Post.newL (q : Post K kl R ρ B H Q) {ds vs} (r : R (.tl ds) g) (hg : SimG K kl ρ B H g) (hv : SimL K ρ B H ds vs) : ∀ p, H p = none → Q (.ref p) (upd H p (.lst vs)) := fun p hp =>
  q _ g ρ _ _ r (Ext.fresh hp) (hg.fresh hp) (by unfold SimV; exact ⟨p, vs, rfl, RdL.new hg hp, hv.ext (Ext.fresh hp)⟩)
theorem simV_int {i v} : SimV K ρ B H (.int i) v ↔ v = .int i := by unfold SimV; exact Iff.rfl
theorem simV_bl {i v} : SimV K ρ B H (.bl i) v ↔ v = .bl i := by unfold SimV; exact Iff.rfl
theorem simV_str {i v} : SimV K ρ B H (.str i) v ↔ v = .str i := by unfold SimV; exact Iff.rfl
theorem simV_non {v} : SimV K ρ B H .non v ↔ v = .non := by unfold SimV; exact Iff.rfl
theorem simV_tup {ds v} : SimV K ρ B H (.tup ds) v ↔ ∃ a vs, v = .ref a ∧ RdT K ρ B H a vs ∧ SimL K ρ B H ds vs := by conv => lhs; unfold SimV
theorem simV_tl {ds v} : SimV K ρ B H (.tl ds) v ↔ ∃ a vs, v = .ref a ∧ RdL K ρ B H a vs ∧ SimL K ρ B H ds vs := by conv => lhs; unfold SimV
theorem simV_ref {n v} : SimV K ρ B H (.ref n) v ↔ n < ρ.length ∧ ∀ a, ρ[n]? = some (some a) → v = .ref a := by conv => lhs; unfold SimV
/-- a list cell -/
theorem SimG.lst (hg : SimG K kl ρ B H g) {n ds v} (hv : SimV K ρ B H (.ref n) v) (e : g[n]? = some (.lst ds)) : ∃ a vs, v = .ref a ∧ ρ[n]? = some (some a) ∧ H a = some (.lst vs) ∧ SimL K ρ B H ds vs := by
  obtain ⟨x, e1, a, vs, e2, h1, h2⟩ := hg.cell n _ e
  subst e2
  exact ⟨a, vs, (simV_ref.mp hv).2 a e1, e1, h1, h2⟩
theorem SimG.dct (hg : SimG K kl ρ B H g) {n kvs v} (hv : SimV K ρ B H (.ref n) v) (e : g[n]? = some (.dct kvs)) : ∃ a ks, v = .ref a ∧ ρ[n]? = some (some a) ∧ H a = some (.dK ks) ∧ SimK K ρ B H kvs ks := by
  obtain ⟨x, e1, a, vs, e2, h1, h2⟩ := hg.cell n _ e
  subst e2
  exact ⟨a, vs, (simV_ref.mp hv).2 a e1, e1, h1, h2⟩
theorem SimG.lkd (hg : SimG K kl ρ B H g) {n kvs v} (hv : SimV K ρ B H (.ref n) v) (e : g[n]? = some (.lkd kvs)) : ∃ a o ks, v = .ref a ∧ ρ[n]? = some (some a) ∧ H a = some (.frz o (.dK ks)) ∧ SimK K ρ B H kvs ks := by
  obtain ⟨x, e1, a, o, vs, e2, h1, h2⟩ := hg.cell n _ e
  subst e2
  exact ⟨a, o, vs, (simV_ref.mp hv).2 a e1, e1, h1, h2⟩
/-- a list, whatever it is -/
theorem SimG.lstR (hg : SimG K kl ρ B H g) {d ds v} (hv : SimV K ρ B H d v) (e : lstOf g d = some ds) : ∃ a vs, v = .ref a ∧ SqL K H a vs ∧ SimL K ρ B H ds vs := by
  cases d with
  | tl es =>
    obtain ⟨a, vs, e1, h1, h2⟩ := simV_tl.mp hv
    cases e
    exact ⟨a, vs, e1, h1.sq, h2⟩
  | ref n =>
    simp only [lstOf] at e
    split at e
    · rename_i es he
      cases e
      obtain ⟨a, vs, e1, _, h1, h2⟩ := hg.lst hv he
      exact ⟨a, vs, e1, SqL.of h1, h2⟩
    · cases e
  | _ => cases e
theorem SimG.seqR (hg : SimG K kl ρ B H g) {d ds v} (hv : SimV K ρ B H d v) (e : seqOf g d = some ds) : ∃ a vs, v = .ref a ∧ ((SqL K H a vs ∧ lstOf g d = some ds) ∨ (SqT K H a vs ∧ d = .tup ds)) ∧ SimL K ρ B H ds vs := by
  cases d with
  | tup es =>
    obtain ⟨a, vs, e1, h1, h2⟩ := simV_tup.mp hv
    cases e
    exact ⟨a, vs, e1, .inr ⟨h1.sq, rfl⟩, h2⟩
  | _ =>
    obtain ⟨a, vs, e1, h1, h2⟩ := hg.lstR hv e
    exact ⟨a, vs, e1, .inl ⟨h1, e⟩, h2⟩
theorem place_ix {n : Nat} {i : Int} : ixN n i = place n i := by
  unfold ixN place
  split
  · rfl
  · by_cases h : -(n : Int) ≤ i
    · rw [if_pos h, if_pos (by omega)]
    · rw [if_neg h, if_neg (by omega)]
theorem SimL.atI {ds : List D} {vs : List V} (h : SimL K ρ B H ds vs) {i : Int} {n d} (e1 : place ds.length i = some n) (e2 : ds[n]? = some d) : ∃ v, L2.atI vs i = some v ∧ SimV K ρ B H d v := by
  obtain ⟨v, hv, s⟩ := h.get e2
  refine ⟨v, ?_, s⟩
  unfold L2.atI
  rw [place_ix, ← h.len, e1]
  exact hv
theorem clamp_ix {n : Nat} {o : Option Int} : HT.sIx n 0 o = (o.map (clampI n)).getD 0 := by
  cases o <;> rfl
theorem clamp_ix2 {n : Nat} {o : Option Int} : HT.sIx n n o = (o.map (clampI n)).getD n := by
  cases o <;> rfl
theorem cut_v (xs : List V) (l u : Option Int) : cutV xs l u = cutL xs l u := by
  unfold cutV cutL
  rw [clamp_ix, clamp_ix2]
  show List.take _ (List.drop _ xs) = List.drop _ (List.take _ xs)
  rw [List.drop_take]
theorem SimL.cut {ds : List D} {vs : List V} (h : SimL K ρ B H ds vs) (l u : Option Int) : SimL K ρ B H (cutL ds l u) (cutV vs l u) := by
  rw [cut_v]
  unfold cutL
  rw [h.len]
  exact (h.take _).drop _
/-- keys -/
theorem SimK.get {kvs : List (D × D)} {ks : List (Key × V)} (h : SimK K ρ B H kvs ks) {k : D} {kk : Key} (hk : keyD k = some kk) : (∀ d, kget kvs k = some d → ∃ v, valV ks kk = some v ∧ SimV K ρ B H d v) ∧ (kget kvs k = none → valV ks kk = none) := by
  induction h with
  | nil => exact ⟨fun d e => (nomatch e), fun _ => rfl⟩
  | @cons p q ps qs hpq _ ih =>
    obtain ⟨pk, pd⟩ := p
    obtain ⟨qk, qd⟩ := q
    obtain ⟨e1, e2⟩ := hpq
    have hb : keyB pk k = true ↔ qk = kk := by
      cases pk <;> simp only [keyD, Option.some.injEq, reduceCtorEq] at e1 <;> cases k <;> simp only [keyD, Option.some.injEq, reduceCtorEq] at hk <;> subst e1 <;> subst hk <;> simp [keyB]
    by_cases hx : keyB pk k = true
    · have hq := hb.mp hx
      subst hq
      constructor
      · intro d e
        unfold kget at e
        rw [if_pos hx] at e
        cases e
        exact ⟨qd, by rw [valV_pos rfl], e2⟩
      · intro e
        unfold kget at e
        rw [if_pos hx] at e
        cases e
    · have hq : ¬ qk = kk := fun z => hx (hb.mpr z)
      constructor
      · intro d e
        unfold kget at e
        rw [if_neg hx] at e
        obtain ⟨v, h1, h2⟩ := ih.1 d e
        exact ⟨v, by rw [valV_neg hq]; exact h1, h2⟩
      · intro e
        unfold kget at e
        rw [if_neg hx] at e
        rw [valV_neg hq]
        exact ih.2 e
end
end Br

/-! Br, part P: operators, built-ins and methods by values: what HandS asks follows from what the core tells. -/
namespace Br
open PySem PySem.Spec PyProof.Rows L2

/-! ### arithmetic of any size -/
theorem mulOk_ok {i j : Int} (h : mulOk i j) : IntMulOk i j := by
  unfold IntMulOk
  intro hc
  simp only [Bool.and_eq_true, decide_eq_true_eq, shortFactorBits_eq] at hc
  obtain ⟨⟨h1, h2⟩, h3⟩ := hc
  have h1 := of_decide_eq_true h1
  have h2 := of_decide_eq_true h2
  unfold mulOk at h
  unfold Builtin.Int.intTooBig at h3
  have h3 := of_decide_eq_true h3
  rw [bitsLine_eq] at h3
  refine h ⟨?_, ?_, ?_⟩ <;> omega
theorem prII_iff {K : Int → Int → Prop} {x y : D} : prII K x y ↔ ∃ i j, x = .int i ∧ y = .int j ∧ K i j := by
  constructor
  · intro h
    unfold prII at h
    split at h
    · exact ⟨_, _, rfl, rfl, h⟩
    · exact h.elim
  · rintro ⟨i, j, rfl, rfl, h⟩
    exact h
theorem prI1_iff {K : Int → Prop} {x : D} : prI1 K x ↔ ∃ i, x = .int i ∧ K i := by
  constructor
  · intro h
    unfold prI1 at h
    split at h
    · exact ⟨_, rfl, h⟩
    · exact h.elim
  · rintro ⟨i, rfl, h⟩
    exact h

/-- the core's word of values -/
def rP (K : PySem.W.Frag) (kl : Nat → Addr) (p : P) : List V → Hp → VK → Prop := fun vs H Q => ∃ ρ B g ds R, SimG K kl ρ B H g ∧ SimL K ρ B H ds vs ∧ pr g R p ds ∧ Post K kl R ρ B H Q
abbrev rP2 (K : PySem.W.Frag) (kl : Nat → Addr) (p : P) : R2 := fun x y H Q => rP K kl p [x, y] H Q

section
variable {K : PySem.W.Frag} {ρ : Rho} {B : Addr → Prop} {H : Hp}
theorem simL_one {ds : List D} {x : V} (h : SimL K ρ B H ds [x]) : ∃ d, ds = [d] ∧ SimV K ρ B H d x := by
  cases ds with
  | nil => rw [simL_nil] at h; cases h
  | cons d r =>
    obtain ⟨v, vs, e, h1, h2⟩ := simL_cons.mp h
    cases e
    cases r with
    | nil => exact ⟨d, rfl, h1⟩
    | cons _ _ => obtain ⟨v, vs, e, _⟩ := simL_cons.mp h2; cases e
theorem simL_two {ds : List D} {x y : V} (h : SimL K ρ B H ds [x, y]) : ∃ d e, ds = [d, e] ∧ SimV K ρ B H d x ∧ SimV K ρ B H e y := by
  cases ds with
  | nil => rw [simL_nil] at h; cases h
  | cons d r =>
    obtain ⟨v, vs, e, h1, h2⟩ := simL_cons.mp h
    cases e
    obtain ⟨e, rfl, h3⟩ := simL_one h2
    exact ⟨d, e, rfl, h1, h3⟩
theorem simL_three {ds : List D} {x y z : V} (h : SimL K ρ B H ds [x, y, z]) : ∃ d e f, ds = [d, e, f] ∧ SimV K ρ B H d x ∧ SimV K ρ B H e y ∧ SimV K ρ B H f z := by
  cases ds with
  | nil => rw [simL_nil] at h; cases h
  | cons d r =>
    obtain ⟨v, vs, e, h1, h2⟩ := simL_cons.mp h
    cases e
    obtain ⟨e, f, rfl, h3, h4⟩ := simL_two h2
    exact ⟨d, e, f, rfl, h1, h3, h4⟩
end

/-! ### more operators of HandS's kind -/
section
variable {X : Cx} {kl : Nat → Addr}
theorem op_mulB : OpR X (binaryOp .Mult) (rI mulOk fun i j => .int (i * j)) := opI fun _ _ _ _ _ _ _ hc q => mul_int q (mulOk_ok hc)
/-- two lists that are read -/
def rCatR (K : PySem.W.Frag) : R2 := fun x y H Q => ∃ l b xs zs, x = .ref l ∧ y = .ref b ∧ SqL K H l xs ∧ SqL K H b zs ∧ xs.length + zs.length ≤ sizeLine ∧ ∀ p, H p = none → Q (.ref p) (upd H p (.lst (xs ++ zs)))
theorem op_catR : OpR X (binaryOp .Add) (rCatR X.K) := by
  intro pins s σ H x y v u Q I rx ry h
  obtain ⟨l, b, xs, zs, rfl, rfl, hH, hB, hz, q⟩ := h
  cases rx
  cases ry
  obtain ⟨its, r, hl, z⟩ := I.list hH
  obtain ⟨its2, r2, hl2, z2⟩ := I.list hB
  obtain ⟨⟨cls, dd, data, sl⟩, ho, hc, n, hd⟩ := hl.isList
  obtain ⟨⟨cls2, dd2, data2, sl2⟩, ho2, hc2, n2, hd2⟩ := hl2.isList
  simp only at hc hd hc2 hd2
  subst hc hd hc2 hd2
  have e : its.toArray ++ its2.toArray = (its ++ its2).toArray := by simp
  have hlen : its.toArray.size + its2.toArray.size ≤ sizeLine := by
    rw [List.size_toArray, List.size_toArray, ← r.length, ← r2.length]
    exact hz
  refine concat_meets ⟨_, ho, rfl⟩ ⟨_, ho2, rfl⟩ noFill_list_add seq_list_add PySem.F.slot_list_add PySem.F.entry_list_add (PySem.F.args_list_add_2 _ _) (list_addW l b its.toArray its2.toArray n n2 dd dd2 sl sl2 hlen) ⟨ho, ho2, ?_⟩
  rw [e]
  exact ⟨.ref _, _, I.lnew (t' := s.toks) (r.append r2) (by rw [List.length_append]; omega), rfl, q _ I.fresh⟩
def rRepR (K : PySem.W.Frag) : R2 := fun x y H Q => ∃ l k xs, x = .ref l ∧ y = .int k ∧ SqL K H l xs ∧ -(2 ^ 63) ≤ k ∧ k < 2 ^ 63 ∧ xs.length * k.toNat ≤ sizeLine ∧
  ∀ p, H p = none → Q (.ref p) (upd H p (.lst (List.replicate k.toNat xs).flatten))
theorem op_repR : OpR X (binaryOp .Mult) (rRepR X.K) := by
  intro pins s σ H x y v u Q I rx ry h
  obtain ⟨l, k, xs, rfl, rfl, hH, h1, h2, hz, q⟩ := h
  cases rx
  obtain ⟨t, rfl⟩ := ry
  obtain ⟨its, r, hl, z⟩ := I.list hH
  obtain ⟨⟨cls, dd, data, sl⟩, ho, hc, n, hd⟩ := hl.isList
  simp only at hc hd
  subst hc hd
  have hsz : its.toArray.size * k.toNat ≤ sizeLine := by rw [List.size_toArray, ← r.length]; exact hz
  refine wpAny_binaryOp_repeat_ref (T := "list") (U := "int") (by decide) ⟨_, ho, rfl⟩ (fun s' => typeIs_int s' k t) noFill_list_mul F.fills_int_mul F.slot_int_rmul repeat_list F.slot_int_index.lookup
    (call_meets F.slot_int_rmul (typeIs_int s k t) F.entry_int_rmul (F.args_int_rmul_2 _ _) (lm_int_rmul_list_any k t l its.toArray n dd sl)
      ⟨ho, rfl, ⟨_, ho, rfl⟩, call_meets F.slot_list_mul ⟨_, ho, rfl⟩ F.entry_list_mul (F.args_list_mul_2 _ _)
        (lm_list_mul_any l its.toArray n dd sl k t (by simp [Builtin.List.listFitsIndex]; omega) (by rw [sizeLine_eq] at hsz; omega) (by simp [Builtin.List.listTooLong]; rw [sizeLine_eq] at hsz ⊢; omega))
        ⟨ho, ?_⟩⟩)
  have e : List.foldl (fun x1 x2 => x1 ++ x2) #[] (List.replicate (if its.toArray.isEmpty = true then 0 else k.toNat) its.toArray) = (List.replicate k.toNat its).flatten.toArray := listMul_foldl_if _ _
  rw [e]
  have rv : Vals (List.replicate k.toNat xs).flatten (List.replicate k.toNat its).flatten := by
    generalize k.toNat = m
    induction m with
    | zero => exact .nil
    | succ m ih =>
      rw [List.replicate_succ, List.replicate_succ, List.flatten_cons, List.flatten_cons]
      exact r.append ih
  refine ⟨.ref _, _, I.lnew (t' := s.toks) rv ?_, rfl, q _ I.fresh⟩
  rw [rv.length, lm_len_rep_flat, ← r.length, Nat.mul_comm]
  exact hz
end
end Br

/-! Br, part P2: each operator, built-in and method of the core. -/
namespace Br
open PySem PySem.Spec PyProof.Rows L2

section
variable {X : Cx} {kl : Nat → Addr}
theorem p_add : OpR X (binaryOp .Add) (rP2 X.K kl .add) := by
  intro pins s σ H x y v u Q I rx ry h
  obtain ⟨ρ, B, g, ds, R, hg, hl, hp, q⟩ := h
  obtain ⟨d, e, rfl, h1, h2⟩ := simL_two hl
  simp only [pr] at hp
  unfold prAdd at hp
  split at hp
  · rw [simV_int] at h1 h2
    subst h1 h2
    exact op_add pins s σ H _ _ v u Q I rx ry ⟨_, _, rfl, rfl, q.ret hp hg (simV_int.mpr rfl)⟩
  · rw [simV_str] at h1 h2
    subst h1 h2
    exact op_add_str pins s σ H _ _ v u Q I rx ry ⟨_, _, rfl, rfl, by rw [sizeLine_eq]; exact hp.1, q.ret hp.2 hg (simV_str.mpr rfl)⟩
  · obtain ⟨a, xs, rfl, ha, hxs⟩ := simV_tup.mp h1
    obtain ⟨b, ys, rfl, hb, hys⟩ := simV_tup.mp h2
    refine op_catA pins s σ H _ _ v u Q I rx ry ⟨a, b, xs, ys, rfl, rfl, ha.sq, hb.sq, by rw [sizeLine_eq, ← hxs.len, ← hys.len]; exact hp.1, fun e => ?_, fun _ e => ?_, fun _ _ => q.newT hp.2 hg (hxs.append hys)⟩
    · refine q.ret hp.2 hg (simV_tup.mpr ⟨b, xs ++ ys, rfl, by rw [e]; exact hb, hxs.append hys⟩)
    · refine q.ret hp.2 hg (simV_tup.mpr ⟨a, xs ++ ys, rfl, by rw [e, List.append_nil]; exact ha, hxs.append hys⟩)
  · split at hp
    · rename_i b hb
      obtain ⟨a1, xs, rfl, ha, hxs⟩ := simV_tl.mp h1
      obtain ⟨b1, ys, rfl, hb, hys⟩ := hg.lstR h2 hb
      exact op_catR pins s σ H _ _ v u Q I rx ry ⟨a1, b1, xs, ys, rfl, rfl, ha.sq, hb, by rw [sizeLine_eq, ← hxs.len, ← hys.len]; exact hp.1, q.newL hp.2 hg (hxs.append hys)⟩
    · exact hp.elim
  · split at hp
    · rename_i a b ha hb
      obtain ⟨a1, xs, rfl, ha, hxs⟩ := hg.lstR h1 ha
      obtain ⟨b1, ys, rfl, hb, hys⟩ := hg.lstR h2 hb
      exact op_catR pins s σ H _ _ v u Q I rx ry ⟨a1, b1, xs, ys, rfl, rfl, ha, hb, by rw [sizeLine_eq, ← hxs.len, ← hys.len]; exact hp.1, q.newL hp.2 hg (hxs.append hys)⟩
    · exact hp.elim
  · exact hp.elim
/-- two ints -/
theorem p_ii {f : Value → Value → Sem Value} {p : P} {C : Int → Int → Prop} {h : Int → Int → Int} (ho : OpR X f (rI C fun i j => .int (h i j))) (hp : ∀ g R x y, pr g R p [x, y] → prII (fun i j => C i j ∧ R (.int (h i j)) g) x y) : OpR X f (rP2 X.K kl p) := by
  intro pins s σ H x y v u Q I rx ry hq
  obtain ⟨ρ, B, g, ds, R, hg, hl, hpp, q⟩ := hq
  obtain ⟨d, e, rfl, h1, h2⟩ := simL_two hl
  obtain ⟨i, j, rfl, rfl, hc, hr⟩ := prII_iff.mp (hp _ _ _ _ hpp)
  rw [simV_int] at h1 h2
  subst h1 h2
  exact ho pins s σ H _ _ v u Q I rx ry ⟨i, j, rfl, rfl, hc, q.ret hr hg (simV_int.mpr rfl)⟩
theorem rI_of0 {f : Value → Value → Sem Value} {h : Int → Int → V} (ho : OpR X f (rI0 h)) : OpR X f (rI (fun _ _ => True) h) := fun pins s σ H x y v u Q I rx ry ⟨i, j, e1, e2, _, q⟩ => ho pins s σ H x y v u Q I rx ry ⟨i, j, e1, e2, q⟩
theorem p_sub : OpR X (binaryOp .Sub) (rP2 X.K kl .sub) := p_ii (rI_of0 op_sub) fun g R x y h => by
  obtain ⟨i, j, e1, e2, q⟩ := prII_iff.mp h
  exact prII_iff.mpr ⟨i, j, e1, e2, trivial, q⟩
theorem p_fdiv : OpR X (binaryOp .FloorDiv) (rP2 X.K kl .fdiv) := p_ii op_fdivW fun g R x y h => h
theorem p_mod : OpR X (binaryOp .Mod) (rP2 X.K kl .mod) := p_ii op_mod fun g R x y h => h
theorem p_pow : OpR X (binaryOp .Pow) (rP2 X.K kl .pow) := p_ii op_pow fun g R x y h => h
theorem p_mul : OpR X (binaryOp .Mult) (rP2 X.K kl .mul) := by
  intro pins s σ H x y v u Q I rx ry h
  obtain ⟨ρ, B, g, ds, R, hg, hl, hp, q⟩ := h
  obtain ⟨d, e, rfl, h1, h2⟩ := simL_two hl
  simp only [pr] at hp
  unfold prMul at hp
  split at hp
  · rw [simV_int] at h1 h2
    subst h1 h2
    exact op_mulB pins s σ H _ _ v u Q I rx ry ⟨_, _, rfl, rfl, hp.1, q.ret hp.2 hg (simV_int.mpr rfl)⟩
  · rw [simV_int] at h2
    subst h2
    obtain ⟨a, xs, rfl, ha, hxs⟩ := simV_tl.mp h1
    exact op_repR pins s σ H _ _ v u Q I rx ry ⟨a, _, xs, rfl, rfl, ha.sq, hp.1.1, hp.1.2, by rw [sizeLine_eq, ← hxs.len]; exact hp.2.1, q.newL hp.2.2 hg (hxs.rep _)⟩
  · exact hp.elim
/-- a comparison of two ints -/
theorem p_cmp {f : Value → Value → Sem Value} {p : P} {h : Int → Int → Bool} (ho : OpR X f (rI0 fun i j => .bl (h i j))) (hp : ∀ g R x y, pr g R p [x, y] → prCmp g R h x y) : OpR X f (rP2 X.K kl p) := by
  intro pins s σ H x y v u Q I rx ry hq
  obtain ⟨ρ, B, g, ds, R, hg, hl, hpp, q⟩ := hq
  obtain ⟨d, e, rfl, h1, h2⟩ := simL_two hl
  have hc := hp _ _ _ _ hpp
  unfold prCmp at hc
  split at hc
  · rw [simV_int] at h1 h2
    subst h1 h2
    exact ho pins s σ H _ _ v u Q I rx ry ⟨_, _, rfl, rfl, q.ret hc hg (simV_bl.mpr rfl)⟩
  · exact hc.elim
theorem p_lt : OpR X (compareOp .Lt) (rP2 X.K kl .lt) := p_cmp op_lt fun g R x y h => h
theorem p_le : OpR X (compareOp .LtE) (rP2 X.K kl .le) := p_cmp op_le fun g R x y h => h
theorem p_gt : OpR X (compareOp .Gt) (rP2 X.K kl .gt) := p_cmp op_gt fun g R x y h => h
theorem p_ge : OpR X (compareOp .GtE) (rP2 X.K kl .ge) := p_cmp op_ge fun g R x y h => h
/-! data -/
section
variable {K : PySem.W.Frag} {ρ : Rho} {B : Addr → Prop} {H : Hp} {g : G}
mutual
theorem dp_of : ∀ (d : D) (v : V) (p : PyData), SimV K ρ B H d v → dat d = some p → Dp K H v p
  | .non, v, p, h, e => by rw [simV_non] at h; subst h; cases e; exact .non
  | .bl _, v, p, h, e => by rw [simV_bl] at h; subst h; cases e; exact .bl _
  | .int _, v, p, h, e => by rw [simV_int] at h; subst h; cases e; exact .int _
  | .str _, v, p, h, e => by rw [simV_str] at h; subst h; cases e; exact .str _
  | .tup ds, v, p, h, e => by
    obtain ⟨a, xs, rfl, h1, h2⟩ := simV_tup.mp h
    simp only [dat, Option.map_eq_some_iff] at e
    obtain ⟨ps, e1, rfl⟩ := e
    exact .tup h1.sq (dp_ofL ds xs ps h2 e1)
  | .tl ds, v, p, h, e => by
    obtain ⟨a, xs, rfl, h1, h2⟩ := simV_tl.mp h
    simp only [dat, Option.map_eq_some_iff] at e
    obtain ⟨ps, e1, rfl⟩ := e
    exact .lst h1.sq (dp_ofL ds xs ps h2 e1)
  | .ref _, _, _, _, e => by cases e
theorem dp_ofL : ∀ (ds : List D) (vs : List V) (ps : List PyData), SimL K ρ B H ds vs → datL ds = some ps → DpAll K H vs ps
  | [], vs, ps, h, e => by rw [simL_nil] at h; subst h; cases e; exact .nil
  | d :: ds, vs, ps, h, e => by
    obtain ⟨v, r, rfl, h1, h2⟩ := simL_cons.mp h
    simp only [datL] at e
    split at e
    · rename_i p ps' e1 e2
      cases e
      exact .cons (dp_of d v p h1 e1) (dp_ofL ds r ps' h2 e2)
    · cases e
end
mutual
theorem dp_res (hg : SimG K kl ρ B H g) : ∀ (d : D) (v : V) (p : PyData), SimV K ρ B H d v → dat (res g d) = some p → Dp K H v p
  | .non, v, p, h, e => dp_of _ v p h e
  | .bl _, v, p, h, e => dp_of _ v p h e
  | .int _, v, p, h, e => dp_of _ v p h e
  | .str _, v, p, h, e => dp_of _ v p h e
  | .tup ds, v, p, h, e => by
    obtain ⟨a, xs, rfl, h1, h2⟩ := simV_tup.mp h
    simp only [res, dat, Option.map_eq_some_iff] at e
    obtain ⟨ps, e1, rfl⟩ := e
    exact .tup h1.sq (dp_resL hg ds xs ps h2 e1)
  | .tl ds, v, p, h, e => by
    obtain ⟨a, xs, rfl, h1, h2⟩ := simV_tl.mp h
    simp only [res, dat, Option.map_eq_some_iff] at e
    obtain ⟨ps, e1, rfl⟩ := e
    exact .lst h1.sq (dp_resL hg ds xs ps h2 e1)
  | .ref n, v, p, h, e => by
    simp only [res] at e
    split at e
    · rename_i ds he
      obtain ⟨a, vs, rfl, _, h1, h2⟩ := hg.lst h he
      simp only [dat, Option.map_eq_some_iff] at e
      obtain ⟨ps, e1, rfl⟩ := e
      exact .lst (SqL.of h1) (dp_ofL ds vs ps h2 e1)
    · cases e
theorem dp_resL (hg : SimG K kl ρ B H g) : ∀ (ds : List D) (vs : List V) (ps : List PyData), SimL K ρ B H ds vs → datL (resL g ds) = some ps → DpAll K H vs ps
  | [], vs, ps, h, e => by rw [simL_nil] at h; subst h; cases e; exact .nil
  | d :: ds, vs, ps, h, e => by
    obtain ⟨v, r, rfl, h1, h2⟩ := simL_cons.mp h
    simp only [resL, datL] at e
    split at e
    · rename_i p ps' e1 e2
      cases e
      exact .cons (dp_res hg d v p h1 e1) (dp_resL hg ds r ps' h2 e2)
    · cases e
end
end
theorem p_eq (hu : X.A.units + 64 < cLine) : OpR X (compareOp .Eq) (rP2 X.K kl .eq) := by
  intro pins s σ H x y v u Q I rx ry h
  obtain ⟨ρ, B, g, ds, R, hg, hl, hp, q⟩ := h
  obtain ⟨d, e, rfl, h1, h2⟩ := simL_two hl
  simp only [pr] at hp
  unfold prEq at hp
  split at hp
  · rename_i p1 p2 e1 e2
    exact op_eqD hu pins s σ H _ _ v u Q I rx ry ⟨p1, p2, dp_res hg _ _ _ h1 e1, dp_res hg _ _ _ h2 e2, hp.1, hp.2.1, q.ret hp.2.2 hg (simV_bl.mpr rfl)⟩
  · exact hp.elim
theorem p_ne (hu : X.A.units + 64 < cLine) : OpR X (compareOp .NotEq) (rP2 X.K kl .ne) := by
  intro pins s σ H x y v u Q I rx ry h
  obtain ⟨ρ, B, g, ds, R, hg, hl, hp, q⟩ := h
  obtain ⟨d, e, rfl, h1, h2⟩ := simL_two hl
  simp only [pr] at hp
  unfold prEq at hp
  split at hp
  · rename_i p1 p2 e1 e2
    exact op_neD hu pins s σ H _ _ v u Q I rx ry ⟨p1, p2, dp_res hg _ _ _ h1 e1, dp_res hg _ _ _ h2 e2, hp.1, hp.2.1, q.ret hp.2.2 hg (simV_bl.mpr rfl)⟩
  · exact hp.elim
/-! subscripts -/
def rIxDk : R2 := fun x y H Q => ∃ a v, x = .ref a ∧ DGet H a y (some v) ∧ Q v H
theorem ix_dict (hu : X.A.units + 1 < cLine) : IxR X rIxDk := by
  intro value slice pins s σ H x y v u Q I rx ry h hs
  obtain ⟨a, w, rfl, hd, q⟩ := h
  cases rx
  exact tail_any (dict_typeIs I hd) PySem.F.slot_dict_getitem.lookup (d_getItem hu I hd ry fun w' s3 I3 rw' => ⟨w, H, I3, rw', q⟩) hs
theorem keyV {K : PySem.W.Frag} {ρ : Rho} {B : Addr → Prop} {H : Hp} {k : D} {y : V} (h : SimV K ρ B H k y) (hk : isKey k = true) : ∃ kk, keyD k = some kk ∧ y = kV kk := by
  cases k with
  | int i => rw [simV_int] at h; exact ⟨_, rfl, h⟩
  | str i => rw [simV_str] at h; exact ⟨_, rfl, h⟩
  | _ => cases hk
theorem p_item (hu : X.A.units + 1 < cLine) : IxR X (rP2 X.K kl .item) := by
  intro value slice pins s σ H x y v u Q I rx ry h hs
  obtain ⟨ρ, B, g, ds, R, hg, hl, hp, q⟩ := h
  obtain ⟨d, e, rfl, h1, h2⟩ := simL_two hl
  simp only [pr] at hp
  unfold prItem at hp
  split at hp
  · rename_i ds i
    rw [simV_int] at h2
    subst h2
    obtain ⟨a, xs, rfl, ha, hxs⟩ := simV_tup.mp h1
    split at hp
    · rename_i n hn
      split at hp
      · rename_i d hd
        obtain ⟨w, e1, e2⟩ := hxs.atI hn hd
        exact ix_tup value slice pins s σ H _ _ v u Q I rx ry ⟨a, xs, i, w, rfl, rfl, ha.sq, e1, q.ret hp hg e2⟩ hs
      · exact hp.elim
    · exact hp.elim
  · rename_i ds i
    rw [simV_int] at h2
    subst h2
    obtain ⟨a, xs, rfl, ha, hxs⟩ := simV_tl.mp h1
    split at hp
    · rename_i n hn
      split at hp
      · rename_i d hd
        obtain ⟨w, e1, e2⟩ := hxs.atI hn hd
        exact ix_list value slice pins s σ H _ _ v u Q I rx ry ⟨a, xs, i, w, rfl, rfl, ha.sq, e1, q.ret hp hg e2⟩ hs
      · exact hp.elim
    · exact hp.elim
  · split at hp
    · rename_i n ds hn
      obtain ⟨a, xs, rfl, _, ha, hxs⟩ := hg.lst h1 hn
      split at hp
      · rename_i i
        rw [simV_int] at h2
        subst h2
        split at hp
        · rename_i m hm
          split at hp
          · rename_i d hd
            obtain ⟨w, e1, e2⟩ := hxs.atI hm hd
            exact ix_list value slice pins s σ H _ _ v u Q I rx ry ⟨a, xs, i, w, rfl, rfl, SqL.of ha, e1, q.ret hp hg e2⟩ hs
          · exact hp.elim
        · exact hp.elim
      · exact hp.elim
    · rename_i n kvs hn
      obtain ⟨a, xs, rfl, _, ha, hxs⟩ := hg.dct h1 hn
      obtain ⟨hk, hp⟩ := hp
      obtain ⟨kk, ek, rfl⟩ := keyV h2 hk
      split at hp
      · rename_i d hd
        obtain ⟨w, e1, e2⟩ := (hxs.get ek).1 d hd
        exact ix_dict hu value slice pins s σ H _ _ v u Q I rx ry ⟨a, w, rfl, .inl ⟨xs, kk, .inl ha, rfl, e1.symm⟩, q.ret hp hg e2⟩ hs
      · exact hp.elim
    · rename_i n kvs hn
      obtain ⟨a, o, xs, rfl, _, ha, hxs⟩ := hg.lkd h1 hn
      obtain ⟨hk, hp⟩ := hp
      obtain ⟨kk, ek, rfl⟩ := keyV h2 hk
      split at hp
      · rename_i d hd
        obtain ⟨w, e1, e2⟩ := (hxs.get ek).1 d hd
        exact ix_dict hu value slice pins s σ H _ _ v u Q I rx ry ⟨a, w, rfl, .inl ⟨xs, kk, .inr ⟨o, ha⟩, rfl, e1.symm⟩, q.ret hp hg e2⟩ hs
      · exact hp.elim
    · exact hp.elim
  · exact hp.elim
end
end Br

/-! Br, part P3: built-ins, methods, stores. -/
namespace Br
open PySem PySem.Spec PyProof.Rows L2

section
variable {X : Cx} {kl : Nat → Addr}
/-! slices -/
def rPcut (K : PySem.W.Frag) (kl : Nat → Addr) : V → Option Int → Option Int → Hp → VK → Prop := fun x lo hi H Q => ∃ ρ B g d R, SimG K kl ρ B H g ∧ SimV K ρ B H d x ∧ prCut g R d lo hi ∧ Post K kl R ρ B H Q
theorem p_cut : SlR X (rPcut X.K kl) := by
  intro pins s σ H x v vl vu lo hi sl Q I rx hs pl pu h
  obtain ⟨ρ, B, g, d, R, hg, h1, hp, q⟩ := h
  unfold prCut at hp
  obtain ⟨_, _, hp⟩ := hp
  split at hp
  · rename_i ds
    obtain ⟨a, xs, rfl, ha, hxs⟩ := simV_tup.mp h1
    refine sl_tupA pins s σ H _ v vl vu lo hi sl Q I rx hs pl pu ⟨a, xs, rfl, ha.sq, fun e => ?_, fun _ => q.newT hp hg (hxs.cut lo hi)⟩
    have hc : cutV xs lo hi = xs := by
      unfold cutV
      rw [e.1, e.2]
      simp
    have h2 := hxs.cut lo hi
    rw [hc] at h2
    exact q.ret hp hg (simV_tup.mpr ⟨a, xs, rfl, ha, h2⟩)
  · rename_i ds
    obtain ⟨a, xs, rfl, ha, hxs⟩ := simV_tl.mp h1
    exact sl_list pins s σ H _ v vl vu lo hi sl Q I rx hs pl pu ⟨a, xs, rfl, ha.sq, q.newL hp hg (hxs.cut lo hi)⟩
  · split at hp
    · rename_i ds hds
      obtain ⟨a, xs, rfl, ha, hxs⟩ := hg.lstR h1 hds
      exact sl_list pins s σ H _ v vl vu lo hi sl Q I rx hs pl pu ⟨a, xs, rfl, ha, q.newL hp hg (hxs.cut lo hi)⟩
    · exact hp.elim
  · exact hp.elim
/-! built-ins -/
def rC1 (K : PySem.W.Frag) (kl : Nat → Addr) (p : P) : List V → Hp → VK → Prop := fun vs H Q => ∃ x, vs = [x] ∧ rP K kl p [x] H Q
def rC2 (K : PySem.W.Frag) (kl : Nat → Addr) (p : P) : List V → Hp → VK → Prop := fun vs H Q => ∃ x y, vs = [x, y] ∧ rP K kl p [x, y] H Q
theorem p_len : CallR X (.builtin "len") (rC1 X.K kl .len) := by
  intro pins s σ H vs us Q I r h
  obtain ⟨x, rfl, ρ, B, g, ds, R, hg, hl, hp, q⟩ := h
  obtain ⟨d, rfl, h1⟩ := simL_one hl
  simp only [pr] at hp
  unfold prLen at hp
  split at hp
  · rename_i z
    rw [simV_str] at h1
    subst h1
    exact call_len pins s σ H _ us Q I r ⟨_, _, rfl, ⟨by rw [sizeLine_eq]; exact hp.1, rfl⟩, q.ret hp.2 hg (simV_int.mpr rfl)⟩
  · rename_i n
    split at hp
    · rename_i es he
      obtain ⟨a, xs, rfl, _, ha, hxs⟩ := hg.lst h1 he
      exact call_len pins s σ H _ us Q I r ⟨_, xs.length, rfl, .inl ⟨xs, SqL.of ha, rfl⟩, q.ret hp hg (simV_int.mpr (by rw [hxs.len]))⟩
    · rename_i es he
      obtain ⟨a, xs, rfl, _, ha, hxs⟩ := hg.dct h1 he
      exact call_lenD pins s σ H _ us Q I r ⟨a, xs, rfl, ha, q.ret hp hg (simV_int.mpr (by rw [Paired.length hxs]))⟩
    · exact hp.elim
  · rename_i es
    obtain ⟨a, xs, rfl, ha, hxs⟩ := simV_tup.mp h1
    exact call_len pins s σ H _ us Q I r ⟨_, xs.length, rfl, .inr ⟨xs, ha.sq, rfl⟩, q.ret hp hg (simV_int.mpr (by rw [hxs.len]))⟩
  · rename_i es
    obtain ⟨a, xs, rfl, ha, hxs⟩ := simV_tl.mp h1
    exact call_len pins s σ H _ us Q I r ⟨_, xs.length, rfl, .inl ⟨xs, ha.sq, rfl⟩, q.ret hp hg (simV_int.mpr (by rw [hxs.len]))⟩
  · exact hp.elim

end
/-! [::-1] of a tuple -/
theorem valsRev : ∀ {xs : List V} {its : List Value}, Vals xs its → Vals xs.reverse its.reverse
  | _, _, .nil => .nil
  | _, _, .cons r t => by
    rw [List.reverse_cons, List.reverse_cons]
    exact (valsRev t).append (.cons r .nil)
theorem revPick (xs : Array Value) : ((List.range xs.size).filterMap fun (m : Nat) => xs[(((xs.size : Int) - 1) + (m : Int) * (-1)).toNat]?).toArray = xs.toList.reverse.toArray := by
  have e : (fun (m : Nat) => xs[(((xs.size : Int) - 1) + (m : Int) * (-1)).toNat]?) = (fun k => xs[k]?) ∘ fun m => xs.size - 1 - m := by
    funext m
    show xs[(((xs.size : Int) - 1) + (m : Int) * (-1)).toNat]? = xs[xs.size - 1 - m]?
    congr 1
    omega
  rw [e, ← List.filterMap_map, PySem.W.krv_range, List.filterMap_reverse, PySem.W.krv_all]
section
variable {prog : Program} {w : World} {A : Around} {E : Value → Shared → Prop} {s : Shared}
theorem sliceApplied_rev {sl : Addr} {vl vu vs : Value} {n : Nat} {Q : Int × Int × Nat → Shared → Prop} (hs : s.heap.IsSliceOf sl vl vu vs) (pl : IsPart vl none) (pu : IsPart vu none) (ps : IsPart vs (some (-1)))
    (h : Q ((n : Int) - 1, -1, n) s) : wpAny (model prog w) A (Builtin.Slice.sliceApplied (.ref sl) (pure (n : Int))) Q E s := by
  obtain ⟨os, hos, hcs, hds⟩ := id hs
  unfold Builtin.Slice.sliceApplied Builtin.Slice.sliceFields
  refine wpAny_bind (wpAny_bind (wpAny_field hos hds (x := vl) rfl (wpAny_bind (wpAny_field hos hds (x := vu) rfl (wpAny_bind (wpAny_field hos hds (x := vs) rfl (wpAny_pure ?_)))))))
  refine wpAny_bind (HT.slicePart_ ps ?_)
  show wpAny _ _ (if ((-1 : Int) == 0) = true then _ else _) _ _ s
  rw [if_neg (by decide)]
  refine wpAny_bind (HT.slicePart_ pl (wpAny_bind (HT.slicePart_ pu (wpAny_bind (wpAny_pure ?_)))))
  have e : Builtin.Slice.slicePlaces ((n : Int) - 1) (-1) (-1) = n := by
    unfold Builtin.Slice.slicePlaces
    have h1 : ¬ ((-1 : Int) > 0) := by decide
    simp only [h1, if_false]
    split
    · rw [show (- -1 : Int) = 1 by decide, Int.ediv_one]
      omega
    · omega
  show wpAny _ _ (pure ((n : Int) - 1, (-1 : Int), Builtin.Slice.slicePlaces ((n : Int) - 1) (-1) (-1))) _ _ s
  rw [e]
  exact wpAny_pure h
theorem getItem_tuple_rev {t sl : Addr} {items : Array Value} {vl vu vs : Value} {Q : Value → Shared → Prop} (ht : IsTup s.heap t items) (hs : s.heap.IsSliceOf sl vl vu vs) (pl : IsPart vl none) (pu : IsPart vu none) (ps : IsPart vs (some (-1)))
    (h : Q (.ref s.heap.objs.size) { s with heap := s.heap.push { cls := .type "tuple", data := .seq items.toList.reverse.toArray } })
    (hsz : items.size ≤ sizeLine) : wpAny (model prog w) A (getItem (.ref t) (.ref sl)) Q E s := by
  have htake : sizeOk (.seq items.toList.reverse.toArray) := by
    show items.toList.reverse.toArray.size ≤ sizeLine
    simpa using hsz
  obtain ⟨os, hos, hcs, hds⟩ := id hs
  have hTs : s.TypeIs (.ref sl) "slice" := ⟨os, hos, hcs⟩
  unfold getItem
  try with_reducible refine wpAny_holding ?_
  first | refine wpAny_bind (wpAny_pure ?_) | skip
  refine wpAny_bind (wpAny_sequenceKey ht.typeIs (by decide) ?_)
  refine wpAny_bind (wpAny_callSpecial?_slot (name := Str.ofString "__getitem__") ht.typeIs PyProof.Rows.slot_tuple_getitem
    (wpAny_call_entry PyProof.Rows.slot_tuple_getitem ht.typeIs entry_tuple_getitem ?_ (args_tuple_getitem _ _)))
  show wpAny _ _ (Builtin.Tuple.tupleItemsOf (.ref t) >>= _) _ _ s
  refine wpAny_bind (tupleItemsOf_ ht ?_)
  refine wpAny_bind (wpAny_typeOf hTs ?_)
  rw [if_pos (by decide)]
  refine wpAny_bind (sliceApplied_rev hs pl pu ps ?_)
  show wpAny _ _ (if (((items.size : Int) - 1) == 0 && (-1 : Int) == 1 && items.size == items.size) = true then _ else _) _ _ s
  rw [if_neg (by simp), revPick]
  first
    | exact wpAny_bind (m := Builtin.Tuple.tupleExact _) (wpAny_newObj_type (wpAny_pure ⟨_, rfl, wpAny_pure h⟩) htake)
    | exact wpAny_bind (m := Builtin.Tuple.tupleExact _) (wpAny_newObj_type (wpAny_bind (wpAny_pure (wpAny_pure ⟨_, rfl, wpAny_pure h⟩))) htake)
    | exact wpAny_bind (wpAny_bind (m := Builtin.Tuple.tupleExact _) (wpAny_newObj_type (wpAny_pure (wpAny_pure ⟨_, rfl, wpAny_pure h⟩)) htake))
    | exact wpAny_bind (wpAny_bind (m := Builtin.Tuple.tupleExact _) (wpAny_newObj_type (wpAny_pure ⟨_, rfl, wpAny_pure h⟩) htake))
end
section
variable {X : Cx} {kl : Nat → Addr}
def tPrev (K : PySem.W.Frag) (kl : Nat → Addr) (te : TE) : TE := fun σ H Q => te σ H fun x H1 => rP K kl .rev [x] H1 Q
theorem p_rev {e : Expr} {te : TE} {k : Nat} {p1 p2 p3 pos : Pos} (he : PE X e te) : PE X (.Subscript e (.Slice none none (some (.UnaryOp .USub (.Constant (.int 1) k p1) p2)) p3) pos) (tPrev X.K kl te) := by
  refine ⟨fun pins s σ H Q I h => ?_⟩
  refine Subscript_ (thn (he.run pins s σ H _ I h) fun v s1 ⟨x, H1, I1, r1, q1⟩ => ?_)
  obtain ⟨ρ, B, g, ds, R, hg, hl, hp, q⟩ := q1
  obtain ⟨d, rfl, h1⟩ := simL_one hl
  simp only [pr] at hp
  have hst : PO X (some (.UnaryOp .USub (.Constant (.int 1) k p1) p2)) (tPart (tUn (rU fun i => .int (-i)) (tC (.int 1)))) := po_some (pe_un un_neg pe_int)
  refine wpAny_Slice (thn (po_none.run pins s1 σ H1 (fun o H2 => o = none ∧ H2 = H1) I1 ⟨rfl, rfl⟩) fun vl s2 ⟨l, H2, I2, pl, el, e2⟩ => ?_)
  subst el e2
  refine thn (po_none.run pins s2 σ H2 (fun o H3 => o = none ∧ H3 = H2) I2 ⟨rfl, rfl⟩) fun vu s3 ⟨u, H3, I3, pu, eu, e3⟩ => ?_
  subst eu e3
  refine thn (hst.run pins s3 σ H3 (fun o H4 => o = some (-1) ∧ H4 = H3) I3 ⟨1, rfl, -1, rfl, rfl, rfl⟩) fun vs s4 ⟨o, H4, I4, ps, eo, e4⟩ => ?_
  subst eo e4
  have I5 : Inv X pins σ H4 { s4 with heap := s4.heap.push { cls := .type "slice", data := .fields #[vl, vu, vs] } } := I4.kept (t' := s4.toks) fun b ob q => Heap.get?_push_of_some _ q
  have lst : ∀ (a : Addr) (xs : List V), x = .ref a → SqL X.K H4 a xs → (∀ p, H4 p = none → Q (.ref p) (upd H4 p (.lst xs.reverse))) →
      wpAny (model X.prog X.w) X.A (subscriptTail e (.Slice none none (some (.UnaryOp .USub (.Constant (.int 1) k p1) p2)) p3) v (.ref s4.heap.objs.size)) (EP X pins σ Q) X.xe { s4 with heap := s4.heap.push { cls := .type "slice", data := .fields #[vl, vu, vs] } } := fun a xs ex hx q => by
    subst ex
    cases r1
    obtain ⟨its, r, ht, hz⟩ := I5.list hx
    have hlen := r.length
    refine tail_any (ops := [.ref a, .ref s4.heap.objs.size]) ht.isList.typeIs (PySem.slot_list_getitem.lookup) ?_ (by with_unfolding_all rfl)
    refine wpAny_getItem_list_slice ht.isList (Heap.IsSliceOf.new _ vl vu vs) pl pu ps (by decide) ?_ (by rw [List.size_toArray]; omega)
    rw [PySem.W.krv_pick]
    refine ⟨.ref _, _, I5.laid (t' := s4.toks) (o := .lst xs.reverse) (fun b ob q => Heap.get?_push_of_some _ q) (Nat.le_refl _) ?_, rfl, q _ (I5.hok.fresh (Nat.le_refl _))⟩
    exact ⟨by rw [List.length_reverse]; exact hz, its.reverse, 0, valsRev r, Heap.get?_push_size _ rfl⟩
  unfold prRev at hp
  split at hp
  · obtain ⟨a, xs, rfl, ha, hxs⟩ := simV_tup.mp h1
    cases r1
    obtain ⟨its, r, ht, hz⟩ := I5.tuple ha.sq
    show wpAny (model X.prog X.w) X.A (subscriptTail e (.Slice none none (some (.UnaryOp .USub (.Constant (.int 1) k p1) p2)) p3) (.ref a) (.ref s4.heap.objs.size)) (EP X pins σ Q) X.xe { s4 with heap := s4.heap.push { cls := .type "slice", data := .fields #[vl, vu, vs] } }
    refine tail_any (ops := [.ref a, .ref s4.heap.objs.size]) ht.typeIs (PyProof.Rows.slot_tuple_getitem.lookup) ?_ (by with_unfolding_all rfl)
    refine getItem_tuple_rev ht (Heap.IsSliceOf.new _ vl vu vs) pl pu ps ?_ (by rw [List.size_toArray, ← r.length]; exact hz)
    refine ⟨.ref _, _, I5.laid (t' := s4.toks) (o := .tup xs.reverse) (fun b ob q => Heap.get?_push_of_some _ q) (Nat.le_refl _) ?_, rfl, (q.newT hp hg hxs.reverse) _ (I5.hok.fresh (Nat.le_refl _))⟩
    exact ⟨by rw [List.length_reverse]; exact hz, its.reverse, valsRev r, IsTup.new _ _⟩
  · obtain ⟨a, xs, ex, ha, hxs⟩ := simV_tl.mp h1
    exact lst a xs ex ha.sq (q.newL hp hg hxs.reverse)
  · split at hp
    · rename_i ds hds
      obtain ⟨a, xs, ex, ha, hxs⟩ := hg.lstR h1 hds
      exact lst a xs ex ha (q.newL hp hg hxs.reverse)
    · exact hp.elim
  · exact hp.elim
end
end Br

/-! Br, part P4: built-ins by name, methods, stores. -/
namespace Br
open PySem PySem.Spec PyProof.Rows L2

theorem min_of {ns : List Int} {m : Int} (h1 : m ∈ ns) (h2 : ∀ y ∈ ns, m ≤ y) : ns.min? = some m := by
  rw [List.min?_eq_some_iff]
  exact ⟨h1, h2⟩
theorem max_of {ns : List Int} {m : Int} (h1 : m ∈ ns) (h2 : ∀ y ∈ ns, y ≤ m) : ns.max? = some m := by
  rw [List.max?_eq_some_iff]
  exact ⟨h1, h2⟩
theorem sort_of {ns ks : List Int} (h1 : ks.Perm ns) (h2 : ks.Pairwise (· ≤ ·)) : ks = ns.mergeSort fun a b => decide (a ≤ b) := by
  have h3 : (ns.mergeSort fun a b => decide (a ≤ b)).Pairwise (· ≤ ·) := by
    have := List.pairwise_mergeSort (le := fun (a b : Int) => decide (a ≤ b)) (fun a b c h h' => by simp at *; omega) (fun a b => by simp; omega) ns
    exact this.imp fun {a b} h => by simpa using h
  exact List.Perm.eq_of_pairwise (fun a b _ _ h h' => Int.le_antisymm h h') h2 h3 (h1.trans (List.mergeSort_perm ns _).symm)
section
variable {X : Cx} {kl : Nat → Addr}
/-- sum of a list or a tuple of ints -/
theorem cr_sumA (hc : X.calm = true) : CallR X (.builtin "sum") (fun vs H Q => ∃ (a : Addr) (ns : List Int), vs = [V.ref a] ∧ (SqL X.K H a (ns.map V.int) ∨ SqT X.K H a (ns.map V.int)) ∧ Q (.int ns.sum) H) := by
  intro pins s σ H vs us Q I r h
  obtain ⟨a, ns, rfl, hs, q⟩ := h
  rcases hs with hs | hs
  · exact cr_sum hc pins s σ H _ us Q I r ⟨a, ns, rfl, hs, q⟩
  · obtain ⟨its, rv, hl, _⟩ := I.tuple hs
    rw [Vals.ref1 r]
    have hi : IntsAre its ns := rv.ints
    obtain ⟨xs, e⟩ := hi.allInts.items
    have hn : numsOf (intItems xs).toList = ns := by rw [← e]; exact hi.numsOf
    rw [nums_intItems] at hn
    rw [e] at hl
    refine PySem.W.ktm_sumG (I.ok.hd hc) hl fun h' tk t' hk => ?_
    rw [preSum_eq, List.take_of_length_le (by simp), hn]
    exact ⟨.int _, H, I.kept hk, ⟨_, rfl⟩, q⟩
theorem p_sum (hc : X.calm = true) : CallR X (.builtin "sum") (rC1 X.K kl .sum) := by
  intro pins s σ H vs us Q I r h
  obtain ⟨x, rfl, ρ, B, g, ds, R, hg, hl, hp, q⟩ := h
  obtain ⟨d, rfl, h1⟩ := simL_one hl
  simp only [pr] at hp
  unfold prInts at hp
  split at hp
  · rename_i es he
    split at hp
    · rename_i ns hn
      obtain ⟨a, xs, rfl, hk, hxs⟩ := hg.seqR h1 he
      have e := hxs.ints hn
      subst e
      exact cr_sumA hc pins s σ H _ us Q I r ⟨a, ns, rfl, hk.imp (fun z => z.1) (fun z => z.1), q.ret hp hg (simV_int.mpr rfl)⟩
    · exact hp.elim
  · exact hp.elim
theorem p_min1 (hc : X.calm = true) : CallR X (.builtin "min") (rC1 X.K kl .min1) := by
  intro pins s σ H vs us Q I r h
  obtain ⟨x, rfl, ρ, B, g, ds, R, hg, hl, hp, q⟩ := h
  obtain ⟨d, rfl, h1⟩ := simL_one hl
  simp only [pr] at hp
  unfold prIntsL at hp
  split at hp
  · rename_i es he
    split at hp
    · rename_i ns hn
      split at hp
      · rename_i i hi
        obtain ⟨a, xs, rfl, hk, hxs⟩ := hg.lstR h1 he
        have e := hxs.ints hn
        subst e
        have hne : 0 < ns.length := by
          cases ns with
          | nil => cases hi
          | cons _ _ => simp
        refine cr_min hc pins s σ H _ us Q I r ⟨a, ns, rfl, hk, hne, fun m h2 h3 => ?_⟩
        have e := min_of h2 h3
        rw [show ns.min? = some i from hi] at e
        cases e
        exact q.ret hp hg (simV_int.mpr rfl)
      · exact hp.elim
    · exact hp.elim
  · exact hp.elim
theorem p_max1 (hc : X.calm = true) : CallR X (.builtin "max") (rC1 X.K kl .max1) := by
  intro pins s σ H vs us Q I r h
  obtain ⟨x, rfl, ρ, B, g, ds, R, hg, hl, hp, q⟩ := h
  obtain ⟨d, rfl, h1⟩ := simL_one hl
  simp only [pr] at hp
  unfold prIntsL at hp
  split at hp
  · rename_i es he
    split at hp
    · rename_i ns hn
      split at hp
      · rename_i i hi
        obtain ⟨a, xs, rfl, hk, hxs⟩ := hg.lstR h1 he
        have e := hxs.ints hn
        subst e
        have hne : 0 < ns.length := by
          cases ns with
          | nil => cases hi
          | cons _ _ => simp
        refine cr_max hc pins s σ H _ us Q I r ⟨a, ns, rfl, hk, hne, fun m h2 h3 => ?_⟩
        have e := max_of h2 h3
        rw [show ns.max? = some i from hi] at e
        cases e
        exact q.ret hp hg (simV_int.mpr rfl)
      · exact hp.elim
    · exact hp.elim
  · exact hp.elim
theorem p_min2 (hc : X.calm = true) : CallR X (.builtin "min") (rC2 X.K kl .min2) := by
  intro pins s σ H vs us Q I r h
  obtain ⟨x, y, rfl, ρ, B, g, ds, R, hg, hl, hp, q⟩ := h
  obtain ⟨d, e, rfl, h1, h2⟩ := simL_two hl
  obtain ⟨i, j, rfl, rfl, hr⟩ := prII_iff.mp hp
  rw [simV_int] at h1 h2
  subst h1 h2
  refine call_min2 hc pins s σ H _ us Q I r ⟨i, j, rfl, q.ret hr hg (simV_int.mpr ?_)⟩
  congr 1
  split <;> omega
theorem p_max2 (hc : X.calm = true) : CallR X (.builtin "max") (rC2 X.K kl .max2) := by
  intro pins s σ H vs us Q I r h
  obtain ⟨x, y, rfl, ρ, B, g, ds, R, hg, hl, hp, q⟩ := h
  obtain ⟨d, e, rfl, h1, h2⟩ := simL_two hl
  obtain ⟨i, j, rfl, rfl, hr⟩ := prII_iff.mp hp
  rw [simV_int] at h1 h2
  subst h1 h2
  refine call_max2 hc pins s σ H _ us Q I r ⟨i, j, rfl, q.ret hr hg (simV_int.mpr ?_)⟩
  congr 1
  split <;> omega
theorem p_divmod : CallR X (.builtin "divmod") (rC2 X.K kl .divmod) := by
  intro pins s σ H vs us Q I r h
  obtain ⟨x, y, rfl, ρ, B, g, ds, R, hg, hl, hp, q⟩ := h
  obtain ⟨d, e, rfl, h1, h2⟩ := simL_two hl
  obtain ⟨i, j, rfl, rfl, hk, hr⟩ := prII_iff.mp hp
  rw [simV_int] at h1 h2
  subst h1 h2
  exact call_divmodW pins s σ H _ us Q I r ⟨i, j, rfl, ⟨hk.1, PyProof.noPylong_of_log2 hk.2⟩, q.newT hr hg (simL_cons.mpr ⟨_, _, rfl, simV_int.mpr rfl, SimL.one (simV_int.mpr rfl)⟩)⟩
theorem p_toInt : CallR X (.type "int") (rC1 X.K kl .toInt) := by
  intro pins s σ H vs us Q I r h
  obtain ⟨x, rfl, ρ, B, g, ds, R, hg, hl, hp, q⟩ := h
  obtain ⟨d, rfl, h1⟩ := simL_one hl
  simp only [pr] at hp
  unfold prToInt at hp
  split at hp
  · rw [simV_bl] at h1
    subst h1
    exact call_int1 pins s σ H _ us Q I r (.inr ⟨_, rfl, q.ret hp hg (simV_int.mpr rfl)⟩)
  · rw [simV_int] at h1
    subst h1
    exact call_int1 pins s σ H _ us Q I r (.inl ⟨_, rfl, q.ret hp hg (simV_int.mpr rfl)⟩)
  · exact hp.elim
theorem p_bools {b : String} {p : P} {f : List Bool → Bool} (hb : CallR X (.builtin b) (fun vs H Q => ∃ (a : Addr) (bs : List Bool), vs = [V.ref a] ∧ SqL X.K H a (bs.map V.bl) ∧ Q (.bl (f bs)) H)) (he : ∀ g R x, pr g R p [x] → prBools g R f x) : CallR X (.builtin b) (rC1 X.K kl p) := by
  intro pins s σ H vs us Q I r h
  obtain ⟨x, rfl, ρ, B, g, ds, R, hg, hl, hp, q⟩ := h
  obtain ⟨d, rfl, h1⟩ := simL_one hl
  have hp := he _ _ _ hp
  unfold prBools at hp
  split at hp
  · rename_i es hes
    split at hp
    · rename_i bs hbs
      obtain ⟨a, xs, rfl, ha, hxs⟩ := hg.lstR h1 hes
      have e := hxs.bools hbs
      subst e
      exact hb pins s σ H _ us Q I r ⟨a, bs, rfl, ha, q.ret hp hg (simV_bl.mpr rfl)⟩
    · exact hp.elim
  · exact hp.elim
theorem p_all (hc : X.calm = true) : CallR X (.builtin "all") (rC1 X.K kl .all) := p_bools (cr_all hc) fun _ _ _ h => h
theorem p_any (hc : X.calm = true) : CallR X (.builtin "any") (rC1 X.K kl .any) := p_bools (cr_any hc) fun _ _ _ h => h
theorem keys_ints {K : PySem.W.Frag} {ρ : Rho} {B : Addr → Prop} {H : Hp} : ∀ {kvs : List (D × D)} {ks : List (Key × V)} {ns : List Int}, SimK K ρ B H kvs ks → intsOf (kvs.map (·.1)) = some ns → ks.map (·.1) = ns.map Sum.inl
  | _, _, ns, .nil, e => by cases e; rfl
  | (p :: ps), (y :: ys), ns, .cons h t, e => by
    obtain ⟨pk, pd⟩ := p
    obtain ⟨h1, _⟩ := h
    simp only [List.map_cons] at e
    cases pk <;> simp only [intsOf, reduceCtorEq] at e
    rename_i i
    cases q : intsOf (ps.map (·.1)) with
    | none => rw [q] at e; cases e
    | some ms =>
      rw [q] at e
      cases e
      simp only [keyD, Option.some.injEq] at h1
      rw [List.map_cons, keys_ints t q, ← h1]
      rfl
theorem p_sorted (hc : X.calm = true) : CallR X (.builtin "sorted") (rC1 X.K kl .sorted) := by
  intro pins s σ H vs us Q I r h
  obtain ⟨x, rfl, ρ, B, g, ds, R, hg, hl, hp, q⟩ := h
  obtain ⟨d, rfl, h1⟩ := simL_one hl
  simp only [pr] at hp
  unfold prSorted at hp
  split at hp
  · rename_i es hes
    split at hp
    · rename_i ns hn
      obtain ⟨a, xs, rfl, ha, hxs⟩ := hg.lstR h1 hes
      have e := hxs.ints hn
      subst e
      refine cr_sortedI pins s σ H _ us Q I r ⟨a, ns, rfl, ha, fun ks p h2 h3 hn2 => ?_⟩
      rw [sort_of h2 h3]
      exact q.newL hp hg (simL_int _) p hn2
    · exact hp.elim
  · split at hp
    · rename_i kvs hk
      split at hp
      · rename_i ns hn
        have fin : ∀ (a : Addr) (ks : List (Key × V)), x = .ref a → Rd H a (.dK ks) → SimK X.K ρ B H kvs ks → wpAny (model X.prog X.w) X.A (call (.builtin "sorted") us) (EP X pins σ Q) X.xe s := fun a ks e hd hks => by
          subst e
          refine call_sortedDI hc pins s σ H _ us Q I r ⟨a, ks, ns, rfl, hd, keys_ints hks hn, hp.1, fun ys p h2 h3 hn2 => ?_⟩
          rw [sort_of h2 h3]
          exact q.newL hp.2 hg (simL_int _) p hn2
        cases d with
        | ref n =>
          simp only [dctOf] at hk
          split at hk
          · rename_i kv he
            cases hk
            obtain ⟨a, ks, e, _, ha, hks⟩ := hg.dct h1 he
            exact fin a ks e (.inl ha) hks
          · rename_i kv he
            cases hk
            obtain ⟨a, o, ks, e, _, ha, hks⟩ := hg.lkd h1 he
            exact fin a ks e (.inr ⟨o, ha⟩) hks
          · cases hk
        | _ => cases hk
      · exact hp.elim
    · exact hp.elim
theorem p_tuple : CallR X (.type "tuple") (rC1 X.K kl .tuple) := by
  intro pins s σ H vs us Q I r h
  obtain ⟨x, rfl, ρ, B, g, ds, R, hg, hl, hp, q⟩ := h
  obtain ⟨d, rfl, h1⟩ := simL_one hl
  simp only [pr] at hp
  unfold prTuple at hp
  split at hp
  · rename_i es hes
    obtain ⟨a, xs, rfl, hk, hxs⟩ := hg.seqR h1 hes
    rcases hk with ⟨hk, _⟩ | ⟨hk, rfl⟩
    · exact call_tuple_of pins s σ H _ us Q I r ⟨a, xs, rfl, .inl ⟨hk, q.newT hp hg hxs⟩⟩
    · exact call_tuple_of pins s σ H _ us Q I r ⟨a, xs, rfl, .inr ⟨hk, q.ret hp hg h1⟩⟩
  · exact hp.elim
theorem p_list : CallR X (.type "list") (rC1 X.K kl .list) := by
  intro pins s σ H vs us Q I r h
  obtain ⟨x, rfl, ρ, B, g, ds, R, hg, hl, hp, q⟩ := h
  obtain ⟨d, rfl, h1⟩ := simL_one hl
  simp only [pr] at hp
  unfold prList at hp
  split at hp
  · rename_i es hes
    obtain ⟨a, xs, rfl, hk, hxs⟩ := hg.seqR h1 hes
    exact call_list_of pins s σ H _ us Q I r ⟨a, xs, rfl, hk.imp (fun z => z.1) (fun z => z.1), q.newL hp hg hxs⟩
  · exact hp.elim
end
end Br

/-! Br, part P5: methods, stores, isinstance. -/
namespace Br
open PySem PySem.Spec PyProof.Rows L2
section
variable {K : PySem.W.Frag} {kl : Nat → Addr} {R : D → G → Prop} {ρ : Rho} {B : Addr → Prop} {H : Hp} {Q : VK} {g : G}
theorem Post.write (q : Post K kl R ρ B H Q) (hg : SimG K kl ρ B H g) {n a o c d v} (hn : ρ[n]? = some (some a)) (hf : ∀ x u, H a ≠ some (.frz x u)) (hc : SimC K kl ρ B (upd H a o) (some a) c) (hv : SimV K ρ B (upd H a o) d v) (r : R d (g.set n c)) : Q v (upd H a o) :=
  q d _ ρ _ v r (Ext.write (mem_set_live hn) hf) (hg.write hn hf hc) hv
theorem simC_lst {a : Addr} {ds vs} (m : some a ∈ ρ) (hf : ∀ x u, H a ≠ some (.frz x u)) (h : SimL K ρ B H ds vs) : SimC K kl ρ B (upd H a (.lst vs)) (some a) (.lst ds) := ⟨a, vs, rfl, upd_same, h.ext (Ext.write m hf)⟩
end
section
variable {X : Cx} {kl : Nat → Addr}
def rM1 (K : PySem.W.Frag) (kl : Nat → Addr) (p : P) : V → List V → Hp → VK → Prop := fun x vs H Q => vs = [] ∧ rP K kl p [x] H Q
def rM2 (K : PySem.W.Frag) (kl : Nat → Addr) (p : P) : V → List V → Hp → VK → Prop := fun x vs H Q => ∃ y, vs = [y] ∧ rP K kl p [x, y] H Q
theorem p_append : MtR X "list.append" (rM2 X.K kl .append) := by
  intro pins s σ H x vs v us Q I rx rv h
  obtain ⟨y, rfl, ρ, B, g, ds, R, hg, hl, hp, q⟩ := h
  obtain ⟨d, e, rfl, h1, h2⟩ := simL_two hl
  simp only [pr] at hp
  unfold prAppend at hp
  split at hp
  · split at hp
    · rename_i ds he
      obtain ⟨a, xs, rfl, hn, ha, hxs⟩ := hg.lst h1 he
      refine mt_append pins s σ H _ _ v us Q I rx rv ⟨a, xs, y, rfl, rfl, ha, by rw [sizeLine_eq, ← hxs.len]; exact hp.1, ?_⟩
      exact q.write hg hn (nfL ha) (simC_lst (mem_set_live hn) (nfL ha) (hxs.append (.one h2))) (simV_non.mpr rfl) hp.2
    · exact hp.elim
  · exact hp.elim
theorem list_extendW (l : Addr) (items : Array Value) (n : Nat) (b : Addr) (items2 : Array Value) (n2 : Nat) (sl2 : Array (Option Value)) (hc0 : ¬(!items.isEmpty && Builtin.List.listTooLong (items.size + items2.size)) = true) (hc1 : items.size ≤ sizeLine) (hs2 : items.size + items2.size ≤ sizeLine + 1) :
    Meets (Builtin.«list.extend» ⟨[.ref l, .ref b], []⟩) (fun _ R s => s.heap.get? l = some { cls := .type "list", dict := none, data := .seq items n, slots := #[] } ∧ s.heap.get? b = some { cls := .type "list", dict := none, data := .seq items2 n2, slots := sl2 } ∧ R (.ok (.ret Value.none)) { s with heap := s.heap.update l (Obj.mapSeq fun x => x ++ items2), toks := s.toks }) :=
  .of_wp fun prog w A R s h => by
    obtain ⟨hp, g, d, tk, os⟩ := s
    obtain ⟨hl, hb, h⟩ := h
    have f1 := AutoSeq1.idx_int
    have f2 := AutoSeq1.sub_tuple_tuple
    have f3 := AutoSeq1.sub_list_list
    have f4 := AutoSeq1.sub_tuple_list
    have f5 := AutoSeq1.sub_list_tuple
    have hz' : (items ++ items2).size ≤ sizeLine + 1 := by rw [Array.size_append]; exact hs2
    wp_walk using (wpAny_updateSeq hl rfl (hz := hc1) (_hz' := hz')), wpAny_loadPart' hl, wpAny_loadPart' hb
    exact ⟨_, rfl, h⟩
/-- extend by any list that is read -/
theorem mt_extendR : MtR X "list.extend" (fun x vs H Q => ∃ l b xs zs, x = .ref l ∧ vs = [.ref b] ∧ H l = some (.lst xs) ∧ SqL X.K H b zs ∧ xs.length + zs.length ≤ sizeLine ∧ Q .non (upd H l (.lst (xs ++ zs)))) := by
  intro pins s σ H x vs v us Q I rx rv h
  obtain ⟨l, b, xs, zs, rfl, rfl, hH, hB, hz, q⟩ := h
  cases rx
  obtain ⟨u, rfl, ru⟩ := rv.one
  cases ru
  obtain ⟨z, its, n, r, hl, e⟩ := I.lstM hH
  obtain ⟨its2, r2, hp2, hz2⟩ := I.list hB
  have hl2 := r2.length
  obtain ⟨⟨cls, dd, data, sl⟩, n2, ho, hc, hd, hdt⟩ := hp2
  simp only at hc hd hdt
  subst hc hd hdt
  have hsz : its.toArray.size + its2.toArray.size ≤ sizeLine := by rw [List.size_toArray, List.size_toArray]; omega
  have hlong : ¬ (!its.toArray.isEmpty && Builtin.List.listTooLong (its.toArray.size + its2.toArray.size)) = true := by
    rw [notLongL hsz, Bool.and_false]
    exact Bool.false_ne_true
  refine call_meets F.slot_list_extend ⟨_, e, rfl⟩ F.entry_list_extend (F.args_list_extend_2 _ _)
    (list_extendW l its.toArray n b its2.toArray n2 sl hlong (by rw [List.size_toArray]; omega) (by omega)) ⟨e, ho, ?_⟩
  refine ⟨.non, _, I.lset (its' := its ++ its2) hH e (by simp) (r.append r2) ?_, rfl, q⟩
  rw [List.length_append]
  omega
theorem p_extend : MtR X "list.extend" (rM2 X.K kl .extend) := by
  intro pins s σ H x vs v us Q I rx rv h
  obtain ⟨y, rfl, ρ, B, g, ds, R, hg, hl, hp, q⟩ := h
  obtain ⟨d, e, rfl, h1, h2⟩ := simL_two hl
  simp only [pr] at hp
  unfold prExtend at hp
  split at hp
  · split at hp
    · rename_i ds es he
      obtain ⟨a, xs, rfl, hn, ha, hxs⟩ := hg.lst h1 he
      obtain ⟨b, ys, rfl, hb, hys⟩ := simV_tl.mp h2
      refine mt_extendR pins s σ H _ _ v us Q I rx rv ⟨a, b, xs, ys, rfl, rfl, ha, hb.sq, by rw [sizeLine_eq, ← hxs.len, ← hys.len]; exact hp.1, ?_⟩
      exact q.write hg hn (nfL ha) (simC_lst (mem_set_live hn) (nfL ha) (hxs.append hys)) (simV_non.mpr rfl) hp.2
    · exact hp.elim
  · exact hp.elim
theorem p_clear : MtR X "list.clear" (rM1 X.K kl .clear) := by
  intro pins s σ H x vs v us Q I rx rv h
  obtain ⟨rfl, ρ, B, g, ds, R, hg, hl, hp, q⟩ := h
  obtain ⟨d, rfl, h1⟩ := simL_one hl
  simp only [pr] at hp
  unfold prClear at hp
  split at hp
  · split at hp
    · rename_i ds he
      obtain ⟨a, xs, rfl, hn, ha, hxs⟩ := hg.lst h1 he
      exact mt_clear pins s σ H _ _ v us Q I rx rv ⟨a, xs, rfl, rfl, ha, q.write hg hn (nfL ha) (simC_lst (mem_set_live hn) (nfL ha) (simL_nil.mpr rfl)) (simV_non.mpr rfl) hp⟩
    · exact hp.elim
  · exact hp.elim
theorem p_pop0 : MtR X "list.pop" (rM2 X.K kl .pop0) := by
  intro pins s σ H x vs v us Q I rx rv h
  obtain ⟨y, rfl, ρ, B, g, ds, R, hg, hl, hp, q⟩ := h
  obtain ⟨d, e, rfl, h1, h2⟩ := simL_two hl
  simp only [pr] at hp
  unfold prPop0 at hp
  split at hp
  · rename_i n i
    split at hp
    · rename_i ds he
      obtain ⟨a, xs, rfl, hn, ha, hxs⟩ := hg.lst h1 he
      rw [simV_int] at h2
      subst h2
      split at hp
      · rename_i k hk
        split at hp
        · rename_i w hw
          obtain ⟨wv, hwv, sw⟩ := hxs.get hw
          have hk2 : ixN xs.length i = some k := by rw [place_ix, ← hxs.len]; exact hk
          exact mt_popAt pins s σ H _ _ v us Q I rx rv ⟨a, xs, i, k, wv, rfl, rfl, ha, hp.1.1, hp.1.2, (ixN_seq hk2).1, hwv, q.write hg hn (nfL ha) (simC_lst (mem_set_live hn) (nfL ha) (hxs.eraseIdx k)) (SimV.ext (Ext.write (mem_set_live hn) (nfL ha)) _ _ sw) hp.2⟩
        · exact hp.elim
      · exact hp.elim
    · exact hp.elim
  · exact hp.elim
theorem p_index : MtR X "list.index" (rM2 X.K kl .index) := by
  intro pins s σ H x vs v us Q I rx rv h
  obtain ⟨y, rfl, ρ, B, g, ds, R, hg, hl, hp, q⟩ := h
  obtain ⟨d, e, rfl, h1, h2⟩ := simL_two hl
  simp only [pr] at hp
  unfold prIndex at hp
  split at hp
  · rename_i es i hes
    split at hp
    · rename_i ns hn
      split at hp
      · rename_i k hk
        obtain ⟨a, xs, rfl, ha, hxs⟩ := hg.lstR h1 hes
        have e := hxs.ints hn
        subst e
        rw [simV_int] at h2
        subst h2
        rw [List.findIdx?_eq_some_iff_getElem] at hk
        obtain ⟨h3, h4, h5⟩ := hk
        refine mt_index pins s σ H _ _ v us Q I rx rv ⟨a, _, .int i, k, .int ns[k], rfl, rfl, ha, rfl, ?_, ?_, ?_, ?_, q.ret hp hg (simV_int.mpr rfl)⟩
        · rw [List.all_eq_true]
          intro z hz
          obtain ⟨w, _, rfl⟩ := List.mem_map.mp hz
          rfl
        · rw [List.getElem?_map, List.getElem?_eq_getElem h3]
          rfl
        · simpa [eqV] using h4
        · intro m z hm hz
          rw [List.getElem?_map] at hz
          have hml : m < ns.length := by omega
          rw [List.getElem?_eq_getElem hml] at hz
          cases hz
          simpa [eqV] using h5 m hm
      · exact hp.elim
    · exact hp.elim
  · exact hp.elim
end
end Br

/-! Br, part P6: stores, d.get, isinstance. -/
namespace Br
open PySem PySem.Spec PyProof.Rows L2
section
variable {K : PySem.W.Frag} {kl : Nat → Addr} {R : D → G → Prop} {ρ : Rho} {B : Addr → Prop} {H : Hp} {Q : VK} {g : G}
theorem keyB_iff {pk k : D} {a b : Key} (e1 : keyD pk = some a) (hk : keyD k = some b) : keyB pk k = true ↔ a = b := by
  cases pk <;> simp only [keyD, Option.some.injEq, reduceCtorEq] at e1 <;> cases k <;> simp only [keyD, Option.some.injEq, reduceCtorEq] at hk <;> subst e1 <;> subst hk <;> simp [keyB]
theorem SimK.any {kvs : List (D × D)} {ks : List (Key × V)} (h : SimK K ρ B H kvs ks) {k : D} {kk : Key} (hk : keyD k = some kk) : (kvs.any fun p => keyB p.1 k) = ks.any fun kv => decide (kv.1 = kk) := by
  induction h with
  | nil => rfl
  | cons hpq _ ih =>
    rw [List.any_cons, List.any_cons, ih]
    congr 1
    rw [Bool.eq_iff_iff, keyB_iff hpq.1 hk, decide_eq_true_iff]
theorem SimK.map {kvs : List (D × D)} {ks : List (Key × V)} (h : SimK K ρ B H kvs ks) {k d : D} {v : V} {kk : Key} (hk : keyD k = some kk) (hd : SimV K ρ B H d v) :
    SimK K ρ B H (kvs.map fun p => if keyB p.1 k = true then (p.1, d) else p) (ks.map fun kv => if kv.1 = kk then (kv.1, v) else kv) := by
  induction h with
  | nil => exact .nil
  | @cons p q ps qs hpq _ ih =>
    rw [List.map_cons, List.map_cons]
    refine .cons ?_ ih
    have hb := keyB_iff hpq.1 hk
    by_cases hx : keyB p.1 k = true
    · rw [if_pos hx, if_pos (hb.mp hx)]
      exact ⟨hpq.1, hd⟩
    · rw [if_neg hx, if_neg fun z => hx (hb.mpr z)]
      exact hpq
theorem SimK.snoc {kvs : List (D × D)} {ks : List (Key × V)} (h : SimK K ρ B H kvs ks) {k d : D} {v : V} {kk : Key} (hk : keyD k = some kk) (hd : SimV K ρ B H d v) : SimK K ρ B H (kvs ++ [(k, d)]) (ks ++ [(kk, v)]) := by
  induction h with
  | nil => exact .cons ⟨hk, hd⟩ .nil
  | cons hpq _ ih => exact .cons hpq ih
theorem SimK.put {kvs : List (D × D)} {ks : List (Key × V)} (h : SimK K ρ B H kvs ks) {k d : D} {v : V} {kk : Key} (hk : keyD k = some kk) (hd : SimV K ρ B H d v) : SimK K ρ B H (kput kvs k d) (putK ks kk v) := by
  unfold kput putK
  rw [h.any hk]
  split
  · exact h.map hk hd
  · exact h.snoc hk hd
theorem simC_dct {a : Addr} {kvs ks} (m : some a ∈ ρ) (hf : ∀ x u, H a ≠ some (.frz x u)) (h : SimK K ρ B H kvs ks) : SimC K kl ρ B (upd H a (.dK ks)) (some a) (.dct kvs) := ⟨a, ks, rfl, upd_same, h.ext (Ext.write m hf)⟩
end
section
variable {X : Cx} {kl : Nat → Addr}
/-- what the core's setI tells of a store -/
def rPset (K : PySem.W.Frag) (kl : Nat → Addr) : TSet := fun o i v H Kn => ∃ ρ B g od id d Kg, SimG K kl ρ B H g ∧ SimV K ρ B H od o ∧ SimV K ρ B H id i ∧ SimV K ρ B H d v ∧ setI g Kg od id d ∧
  ∀ g' H', Kg g' → Ext ρ H ρ H' → SimG K kl ρ B H' g' → Kn H'
theorem p_set (hu : X.A.units + 1 < cLine) : PSet X (rPset X.K kl) := by
  intro pins s σ H o i v ov iv u Q I ro ri rv h
  obtain ⟨ρ, B, g, od, id, d, Kg, hg, h1, h2, h3, hs, q⟩ := h
  unfold setI at hs
  split at hs
  · split at hs
    · rename_i n k ds he
      obtain ⟨a, xs, rfl, hn, ha, hxs⟩ := hg.lst h1 he
      split at hs
      · rename_i j
        rw [simV_int] at h2
        subst h2
        split at hs
        · rename_i m hm
          have hm2 : ixN xs.length j = some m := by rw [place_ix, ← hxs.len]; exact hm
          exact set_list pins s σ H _ _ v ov iv u Q I ro ri rv ⟨a, xs, j, m, rfl, rfl, ha, hm2, q _ _ hs.2 (Ext.write (mem_set_live hn) (nfL ha)) (hg.write hn (nfL ha) (simC_lst (mem_set_live hn) (nfL ha) (hxs.set m h3)))⟩
        · exact hs.elim
      · exact hs.elim
    · rename_i n k kvs he
      obtain ⟨a, ks, rfl, hn, ha, hks⟩ := hg.dct h1 he
      obtain ⟨hk, hl, hs⟩ := hs
      obtain ⟨kk, ek, rfl⟩ := keyV h2 hk
      cases ro
      have hlen : ks.length < sizeLine := by rw [sizeLine_eq, ← Paired.length hks]; exact hl
      exact d_setItem hu I (DPut.k ha hlen) ri rv fun s4 I4 => ⟨_, I4, q _ _ hs (Ext.write (mem_set_live hn) (nfK ha)) (hg.write hn (nfK ha) (simC_dct (mem_set_live hn) (nfK ha) (hks.put ek h3)))⟩
    · exact hs.elim
  · exact hs.elim
def rM3 (K : PySem.W.Frag) (kl : Nat → Addr) (p : P) : V → List V → Hp → VK → Prop := fun x vs H Q => ∃ y z, vs = [y, z] ∧ rP K kl p [x, y, z] H Q
theorem p_get (hu : X.A.units + 1 < cLine) : MtR X "dict.get" (rM3 X.K kl .get) := by
  intro pins s σ H x vs v us Q I rx rv h
  obtain ⟨y, z, rfl, ρ, B, g, ds, R, hg, hl, hp, q⟩ := h
  obtain ⟨d, e, f, rfl, h1, h2, h3⟩ := simL_three hl
  simp only [pr] at hp
  unfold prGet at hp
  split at hp
  · split at hp
    · rename_i kvs he
      obtain ⟨a, ks, rfl, hn, ha, hks⟩ := hg.dct h1 he
      obtain ⟨kk, ek, rfl⟩ := keyV h2 hp.1
      cases rx
      obtain ⟨u1, us1, rfl, r1, r2⟩ : ∃ u1 us1, us = u1 :: us1 ∧ L2.RelV (kV kk) u1 ∧ Vals [z] us1 := by
        cases rv with
        | cons r1 r2 => exact ⟨_, _, rfl, r1, r2⟩
      obtain ⟨u2, rfl, r3⟩ := vals1 r2
      refine d_get2 hu I (DGet.k ha) r1 r3 fun w' s4 I4 rw' => ⟨_, H, I4, rw', ?_⟩
      cases hk : kget kvs e with
      | none =>
        rw [(hks.get ek).2 hk]
        have hp := hp.2
        rw [hk] at hp
        exact q.ret hp hg h3
      | some w =>
        obtain ⟨wv, e1, e2⟩ := (hks.get ek).1 w hk
        rw [e1]
        have hp := hp.2
        rw [hk] at hp
        exact q.ret hp hg e2
    · exact hp.elim
  · exact hp.elim
/-! isinstance -/
theorem isaT_kit {K : PySem.W.Frag} {a t : String} {b : Bool} (ha : a ∈ ["tuple", "list", "int", "bool", "str", "NoneType"]) (h : isaT a t = some b) : PySem.W.kitOne K (.type a) (.type t) = some b := by
  apply kit_ty
  have ht : t ∈ ["tuple", "list", "int", "bool", "str", "NoneType"] := by
    unfold isaT at h
    split at h
    · rename_i e
      subst e
      exact ha
    · split at h
      · rename_i e
        rw [e.2]
        decide
      · split at h
        · rename_i e
          simp only [List.mem_cons, List.mem_nil_iff, or_false] at e ⊢
          rcases e with e | e | e | e | e <;> simp [e]
        · cases h
  simp only [List.mem_cons, List.mem_nil_iff, or_false] at ha ht
  rcases ha with rfl | rfl | rfl | rfl | rfl | rfl <;> rcases ht with rfl | rfl | rfl | rfl | rfl | rfl <;> first
    | (simp only [isaT] at h; revert h; revert b; decide +kernel)
    | (revert h; revert b; decide +kernel)
theorem p_isa {t : String} : CallR X (.builtin "isinstance") (fun vs H Q => ∃ x, vs = [x, .ty t] ∧ rP X.K kl (.isa t) [x] H Q) := by
  intro pins s σ H vs us Q I r h
  obtain ⟨x, rfl, ρ, B, g, ds, R, hg, hl, hp, q⟩ := h
  obtain ⟨d, rfl, h1⟩ := simL_one hl
  simp only [pr] at hp
  unfold prIsa at hp
  split at hp
  · rename_i a ha
    split at hp
    · rename_i b hb
      have go : ∀ {tv : Value}, TyX X.K H x (.type a) → a ∈ ["tuple", "list", "int", "bool", "str", "NoneType"] → wpAny (model X.prog X.w) X.A (call (.builtin "isinstance") us) (EP X pins σ Q) X.xe s := fun {tv} ty hm =>
        call_isi pins s σ H _ us Q I r ⟨x, .ty t, .type a, .type t, b, rfl, .ty t, ty, isaT_kit hm hb, q.ret hp hg (simV_bl.mpr rfl)⟩
      have lst : ∀ {p : Addr} {xs : List V}, x = .ref p → SqL X.K H p xs → TyX X.K H x (.type "list") := fun {p xs} e hq => by
        subst e
        rcases hq with (hq | ⟨o, hq⟩) | ⟨o, _, _, hk, hc, _⟩
        · exact .base (.lst hq)
        · exact .base (.frz hq)
        · exact .kList hk hc
      cases d with
      | tup es =>
        cases ha
        obtain ⟨p, xs, rfl, hq, _⟩ := simV_tup.mp h1
        rcases hq with ⟨hq, _⟩ | ⟨o, _, _, hk, hc, _⟩
        · exact go (tv := .none) (.base (.tup hq)) (by decide)
        · exact go (tv := .none) (.kTuple hk hc) (by decide)
      | tl es =>
        cases ha
        obtain ⟨p, xs, e, hq, _⟩ := simV_tl.mp h1
        exact go (tv := .none) (lst e hq.sq) (by decide)
      | ref n =>
        simp only [res] at ha
        split at ha
        · rename_i es he
          cases ha
          obtain ⟨p, xs, e, _, hq, _⟩ := hg.lst h1 he
          exact go (tv := .none) (lst e (SqL.of hq)) (by decide)
        · cases ha
      | int i => cases ha; rw [simV_int] at h1; subst h1; exact go (tv := .none) (.base (.int i)) (by decide)
      | bl i => cases ha; rw [simV_bl] at h1; subst h1; exact go (tv := .none) (.base (.bl i)) (by decide)
      | str i => cases ha; rw [simV_str] at h1; subst h1; exact go (tv := .none) (.base (.str i)) (by decide)
      | non => cases ha; rw [simV_non] at h1; subst h1; exact go (tv := .none) (.base .non) (by decide)
    · exact hp.elim
  · exact hp.elim
end
end Br

/-! Br, part E: which core expression stands for which of the text, and that it tells the truth of it. -/
namespace Br
open PySem PySem.Spec PyProof.Rows L2

/-! ### the check -/
def visB (sc : Scope) (x : Str) : Bool := (match sc.names.lookup x with
  | some .local => true
  | some .cell => true
  | some .free => true
  | _ => false) && !(x == ("__debug__" : Str)) && !(x == ("__classdict__" : Str))
def glB (sc : Scope) (x : Str) : Bool := decide (sc.names.lookup x = some .globalImplicit) && !(x == ("__debug__" : Str)) && decide (x ≠ ("__name__" : Str))
def noStar : Expr → Bool
  | .Starred _ _ => false
  | _ => true
def noSuper : Expr → Bool
  | .Call (.Name _ _) [] [] _ => false
  | _ => true
def noSup2 : Expr → Bool
  | _ => true
def noSlice : Expr → Bool
  | .Slice _ _ _ _ => false
  | _ => true
def opOf : P → Option Operator
  | .add => some .Add | .sub => some .Sub | .mul => some .Mult | .fdiv => some .FloorDiv | .mod => some .Mod | .pow => some .Pow
  | _ => none
def cmpOf : P → Option CmpOp
  | .lt => some .Lt | .le => some .LtE | .gt => some .Gt | .ge => some .GtE | .eq => some .Eq | .ne => some .NotEq
  | _ => none
def bltOf : P → Option (Str × Nat)
  | .len => some ("len", 1) | .sum => some ("sum", 1) | .min1 => some ("min", 1) | .max1 => some ("max", 1) | .min2 => some ("min", 2) | .max2 => some ("max", 2)
  | .sorted => some ("sorted", 1) | .all => some ("all", 1) | .any => some ("any", 1) | .divmod => some ("divmod", 2)
  | .tuple => some ("tuple", 1) | .list => some ("list", 1) | .toInt => some ("int", 1)
  | _ => none
def mthOf : P → Option (Str × Nat)
  | .append => some ("append", 1) | .extend => some ("extend", 1) | .index => some ("index", 1) | .clear => some ("clear", 0) | .get => some ("get", 2) | .pop0 => some ("pop", 1)
  | _ => none
/-- the parts of an expression of that form -/
def shape (sc : Scope) (p : P) (e : Expr) : Option (List Expr) := match e with
  | .BinOp a op b _ => if opOf p = some op then some [a, b] else none
  | .Compare a [op] [b] _ => if cmpOf p = some op then some [a, b] else none
  | .Subscript a (.Slice lo hi none _) _ => match p, lo, hi with
    | .cut false false, none, none => some [a]
    | .cut true false, some l, none => some [a, l]
    | .cut false true, none, some u => some [a, u]
    | _, _, _ => none
  | .Subscript a (.Slice none none (some (.UnaryOp .USub (.Constant (.int 1) _ _) _)) _) _ => if p = .rev then some [a] else none
  | .Subscript a i _ => if p = .item ∧ noSlice i = true then some [a, i] else none
  | .Call (.Name x _) es [] _ => if glB sc x = true ∧ bltOf p = some (x, es.length) then some es else match p, es with
    | .isa t, [a, .Name y _] => if x = ("isinstance" : Str) ∧ glB sc x = true ∧ glB sc y = true ∧ y = (Str.ofString t) ∧ t ∈ ["tuple", "list", "int", "bool", "str"] then some [a] else none
    | _, _ => none
  | _ => none
/-- receiver and arguments -/
def shapeM (p : P) (e : Expr) : Option (Expr × List Expr) := match e with
  | .Call (.Attribute o m ap) es [] cp => if mthOf p = some (m, es.length) ∧ (ap.endLine == cp.line) = true ∧ noSuper o = true then some (o, es) else none
  | _ => none
/-- a list that is new: it may become a cell -/
def freshC : CE → Bool
  | .lst _ => true
  | .prim .mul _ => true
  | .prim .list _ => true
  | .comp _ _ _ _ _ _ => true
  | _ => false
mutual
def slotsT : Tg → List Nat
  | .name i => [i]
  | .tup ts => slotsTs ts
  | .sub _ _ => []
def slotsTs : List Tg → List Nat
  | [] => []
  | t :: ts => slotsT t ++ slotsTs ts
end
/-- what a walk's expression is made of -/
def shapeI (sc : Scope) (k : IK) (it : Expr) : Option (List Expr) := match k with
  | .seq => (match it with
    | .Set _ _ _ => none
    | _ => some [it])
  | .rng1 => (match it with
    | .Call (.Name x _) [a] [] _ => if x = ("range" : Str) ∧ glB sc x = true then some [a] else none
    | _ => none)
  | .rng2 => (match it with
    | .Call (.Name x _) [a, b] [] _ => if x = ("range" : Str) ∧ glB sc x = true then some [a, b] else none
    | _ => none)
  | .revd => (match it with
    | .Call (.Name x _) [a] [] _ => if x = ("reversed" : Str) ∧ glB sc x = true then some [a] else none
    | _ => none)
  | .enum => (match it with
    | .Call (.Name x _) [a] [] _ => if x = ("enumerate" : Str) ∧ glB sc x = true then some [a] else none
    | _ => none)
  | .zip => (match it with
    | .Call (.Name x _) [a, b] [] _ => if x = ("zip" : Str) ∧ glB sc x = true then some [a, b] else none
    | _ => none)
/-- a walk that makes pairs wants a pair of targets -/
def pairT (k : IK) (tg : Expr) : Bool := match k, tg with
  | .enum, .Tuple _ _ _ => true
  | .zip, .Tuple _ _ _ => true
  | .enum, _ => false
  | .zip, _ => false
  | _, _ => true
/-- what may be asked as a test -/
def testC : CE → Bool
  | .var _ => true
  | .lit _ => true
  | .glob _ => true
  | .prim _ _ => true
  | .meth _ _ _ => true
  | .call _ _ => true
  | .and cs => testL cs
  | .or cs => testL cs
  | .not c => testC c
  | _ => false
where testL : List CE → Bool
  | [] => true
  | c :: cs => testC c && testL cs
section
variable (GL : List (Str × D)) (T : List Df) (CL : List Cd)
mutual
def chkE : List Str → Scope → (Str → Bool) → CE → Expr → Bool
  | N, sc, fn, .var i, e => match e with
    | .Name x _ => decide (N[i]? = some x) && visB sc x
    | _ => false
  | N, sc, fn, .lit c, e => match e with
    | .Constant d _ _ => match c, d with
      | .int a, .int b => a == b
      | .bool a, .bool b => a == b
      | .none, .none => true
      | .str a, .str b => a == b
      | _, _ => false
    | _ => false
  | N, sc, fn, .neg i, e => match e with
    | .UnaryOp .USub (.Constant (.int j) _ _) _ => i == j
    | _ => false
  | N, sc, fn, .glob j, e => match e with
    | .Name x _ => glB sc x && (match GL[j]? with
      | some (y, _) => x == y
      | none => false)
    | _ => false
  | N, sc, fn, .prim p cs, e => match shape sc p e with
    | some es => chkEs N sc fn cs es
    | none => false
  | N, sc, fn, .meth p c cs, e => match shapeM p e with
    | some (o, es) => chkE N sc fn c o && chkEs N sc fn cs es
    | none => false
  | N, sc, fn, .slc a l u, e => match e with
    | .Subscript x (.Slice (some y) (some z) none _) _ => chkE N sc fn a x && chkE N sc fn l y && chkE N sc fn u z
    | _ => false
  | N, sc, fn, .and cs, e => match e with
    | .BoolOp .And es _ => !es.isEmpty && chkEs N sc fn cs es
    | _ => false
  | N, sc, fn, .or cs, e => match e with
    | .BoolOp .Or es _ => !es.isEmpty && chkEs N sc fn cs es
    | _ => false
  | N, sc, fn, .not c, e => match e with
    | .UnaryOp .Not a _ => chkE N sc fn c a
    | _ => false
  | N, sc, fn, .tup cs, e => match e with
    | .Tuple es _ _ => chkEs N sc fn cs es
    | _ => false
  | N, sc, fn, .lst cs, e => match e with
    | .List es _ => chkEs N sc fn cs es
    | _ => false
  | N, sc, fn, .dict0, e => match e with
    | .Dict [] [] _ => true
    | _ => false
  | N, sc, fn, .mat c, e => freshC c && chkE N sc fn c e
  | N, sc, fn, .frz c, e => chkE N sc fn c e
  | N, sc, fn, .comp t own k its tst elt, e => match e with
    | .ListComp x [⟨tg, it, ifs, 0⟩] scope _ => blkC N sc scope own && pairT k tg && (match shapeI sc k it with
      | some es => chkEs N sc fn its es
      | none => false) && chkT N (relS scope sc) (fun y => scope.names.lookup y == some .cell) t tg && (slotsT t).all (fun i => (own.map (·.2)).contains i)
        && chkEs N (relS scope sc) (fun y => scope.names.lookup y == some .cell) tst ifs && decide (tst.length ≤ 1) && testC.testL tst && chkE N (relS scope sc) (fun y => scope.names.lookup y == some .cell) elt x && decide ((relS scope sc).kind = .function)
    | _ => false
  | N, sc, fn, .compK t own i tst elt, e => match e with
    | .ListComp x [⟨tg, .Name y _, ifs, 0⟩] scope _ => blkC N sc scope own && decide (N[i]? = some y) && visB sc y
        && chkT N (relS scope sc) (fun y => scope.names.lookup y == some .cell) t tg && (slotsT t).all (fun i => (own.map (·.2)).contains i)
        && chkEs N (relS scope sc) (fun y => scope.names.lookup y == some .cell) tst ifs && decide (tst.length ≤ 1) && testC.testL tst && chkE N (relS scope sc) (fun y => scope.names.lookup y == some .cell) elt x && decide ((relS scope sc).kind = .function)
    | _ => false
  | N, sc, fn, .fld k c f, e => match e with
    | .Attribute o x _ => x == f && noSuper o && noSup2 o && chkE N sc fn c o && (match CL[k]? with
      | some cd => cd.flds.contains f
      | none => false)
    | _ => false
  | N, sc, fn, .make k j cs, e => match e with
    | .Call (.Name x _) es [] _ => glB sc x && chkEs N sc fn cs es && (match CL[k]? with
      | some cd => cd.name == x && cd.init == j && (match T[j]? with
        | some d => d.ar == es.length + 1
        | none => false)
      | none => false)
    | _ => false
  | N, sc, fn, .own k j c m cs, e => match e with
    | .Call (.Attribute o x ap) es [] cp => x == m && noSuper o && (ap.endLine == cp.line) && decide (es.length < 20) && chkE N sc fn c o && chkEs N sc fn cs es && (match CL[k]? with
      | some cd => cd.meths.contains (m, j) && (match T[j]? with
        | some d => d.ar == es.length + 1
        | none => false)
      | none => false)
    | _ => false
  | N, sc, fn, .call f cs, e => match e with
    | .Call (.Name x _) es [] _ => glB sc x && !es.isEmpty && chkEs N sc fn cs es && (match T[f]? with
      | some d => d.top && d.name == x && d.ar == es.length
      | none => false)
    | _ => false
def chkEs : List Str → Scope → (Str → Bool) → List CE → List Expr → Bool
  | N, sc, fn, [], es => es.isEmpty
  | N, sc, fn, c :: cs, es => match es with
    | e :: es => chkE N sc fn c e && noStar e && chkEs N sc fn cs es
    | [] => false
def chkT : List Str → Scope → (Str → Bool) → Tg → Expr → Bool
  | N, sc, fn, .name i, e => match e with
    | .Name x _ => decide (N[i]? = some x) && (decide (sc.names.lookup x = some .local) || (decide (sc.names.lookup x = some .cell) && fn x))
    | _ => false
  | N, sc, fn, .tup ts, e => match e with
    | .Tuple es _ _ => chkTs N sc fn ts es
    | _ => false
  | N, sc, fn, .sub o i, e => match e with
    | .Subscript a b _ => chkE N sc fn o a && chkE N sc fn i b && noSlice b
    | _ => false
def chkTs : List Str → Scope → (Str → Bool) → List Tg → List Expr → Bool
  | N, sc, fn, [], es => es.isEmpty
  | N, sc, fn, t :: ts, es => match es with
    | e :: es => chkT N sc fn t e && noStar e && chkTs N sc fn ts es
    | [] => false
end
end
end Br

/-! Br, part F: the core's readings of expressions are the text's. -/
namespace Br
open PySem PySem.Spec PyProof.Rows L2

/-- the built-in names that the core leans on -/
def BL : List Str := ["len", "sum", "min", "max", "sorted", "all", "any", "divmod", "tuple", "list", "int", "isinstance", "range", "reversed", "zip", "enumerate", "dict", "str", "abs", "bool", "set"]
section
variable (kl : Nat → Addr) (Φ : Phi)
/-- what a def promises, by the core -/
def spD (K : PySem.W.Frag) (j n : Nat) : Sp := fun vs H Q E => ∃ ρ B g ds R rx, SimG K kl ρ B H g ∧ SimL K ρ B H ds vs ∧ ds.length = n ∧ Φ j ds g R rx ∧ Post K kl R ρ B H Q ∧
  ∀ c g' ρ' H', rx c g' → Ext ρ H ρ' H' → SimG K kl ρ' B H' g' → E (.ref (kl c)) none H'
variable (GL : List (Str × D)) (T : List Df) (CL : List Cd) (lv : Nat)
structure XOk (X : Cx) (N : List Str) (sc : Scope) (fn : Str → Bool) : Prop where
  hN : X.N = N
  nd : N.Nodup
  hsc : X.env.scope = sc
  fk : sc.kind = .function
  calm : X.calm = true
  fnb : ∀ x, fn x = true → X.fn x = true
  glb : ∀ (j : Nat) x d, GL[j]? = some (x, d) → ∃ u v, X.mg x = some u ∧ L2.RelV v u ∧ ∀ ρ B H, SimV X.K ρ B H d v
  blt : ∀ x ∈ BL, X.mg x = none
  cls : ∀ (k : Nat) cd, CL[k]? = some cd → X.mg cd.name = some (.ref (kl k)) ∧ Cls X.K (kl k) ∧ (∀ f ∈ cd.flds, NoAttr X.K (kl k) f) ∧
    (∃ f fd ps d, Mk X.K (kl k) f ∧ T[cd.init]? = some d ∧ Binds X.K fd ps [] ∧ ps.length = d.ar ∧ FnOk X.prog X.w X.K X.mg X.base (L2.CX X.prog X.w) lv f fd ps (spD kl Φ X.K cd.init d.ar)) ∧
    ∀ p ∈ cd.meths, ∃ f fd ps d, Meth X.K (kl k) p.1 f ∧ T[p.2]? = some d ∧ Binds X.K fd ps [] ∧ ps.length = d.ar ∧ FnOk X.prog X.w X.K X.mg X.base (L2.CX X.prog X.w) lv f fd ps (spD kl Φ X.K p.2 d.ar)
  fns : ∀ (j : Nat) d, T[j]? = some d → d.top = true → ∃ f fd ps, X.mg d.name = some (.ref f) ∧ PySem.W.keepIn X.K (.ref f) = true ∧ Binds X.K fd ps [] ∧ ps.length = d.ar ∧ FnOk X.prog X.w X.K X.mg X.base (L2.CX X.prog X.w) lv f fd ps (spD kl Φ X.K j d.ar)
  room1 : Room (lv + 1) X.A
theorem XOk.room {X N sc fn} (h : XOk kl Φ GL T CL lv X N sc fn) : Room lv X.A := h.room1.mono (Nat.le_succ _)
theorem XOk.hu {X N sc fn} (h : XOk kl Φ GL T CL lv X N sc fn) : X.A.units + 64 < cLine := h.room.units
theorem XOk.hu1 {X N sc fn} (h : XOk kl Φ GL T CL lv X N sc fn) : X.A.units + 1 < cLine := by have := h.room.units; omega
variable (K : PySem.W.Frag) (W : L2.WX)
def tE (c : CE) : TE := fun σ H Q => ∃ ρ B σd g R rx, Rel K kl ρ B H σd g σ ∧ wpE GL Φ c σd g R rx ∧ Post K kl R ρ B H Q ∧ PostX K kl rx ρ B H W σ
def tEs (cs : List CE) : TA := fun σ H Q => ∃ ρ B σd g R rx, Rel K kl ρ B H σd g σ ∧ wpEs GL Φ cs σd g R rx ∧
  (∀ ds g' ρ' H' vs, R ds g' → ds.length = cs.length → Ext ρ H ρ' H' → SimG K kl ρ' B H' g' → SimL K ρ' B H' ds vs → Q vs H') ∧ PostX K kl rx ρ B H W σ
def tTg (t : Tg) : TG := fun v σ H Kn => ∃ ρ B σd g d Rk rx, Rel K kl ρ B H σd g σ ∧ SimV K ρ B H d v ∧ wpT GL Φ t d σd g Rk rx ∧
  (∀ σd' g' ρ' H' σ', Rk σd' g' → Ext ρ H ρ' H' → Rel K kl ρ' B H' σd' g' σ' → (∀ vs, (∀ i ∈ slotsT t, i ∈ vs) → L2.wipe σ' vs = L2.wipe σ vs) → Kn σ' H') ∧ (∀ n g', ¬ rx n g')
def tTgs (ts : List Tg) : TGs := fun vs σ H Kn => ∃ ρ B σd g ds Rk rx, Rel K kl ρ B H σd g σ ∧ SimL K ρ B H ds vs ∧ wpTs GL Φ ts ds σd g Rk rx ∧
  (∀ σd' g' ρ' H' σ', Rk σd' g' → Ext ρ H ρ' H' → Rel K kl ρ' B H' σd' g' σ' → (∀ ws, (∀ i ∈ slotsTs ts, i ∈ ws) → L2.wipe σ' ws = L2.wipe σ ws) → Kn σ' H') ∧ (∀ n g', ¬ rx n g')
end
theorem peI {X e t t'} (h : PE X e t) (i : ∀ σ H Q, t' σ H Q → t σ H Q) : PE X e t' := ⟨fun pins s σ H Q I hw => h.run pins s σ H Q I (i _ _ _ hw)⟩
theorem ptI {X e t t'} (h : PT X e t) (i : ∀ σ H Q, t' σ H Q → t σ H Q) : PT X e t' := ⟨fun pins s σ H Q I hw => h.run pins s σ H Q I (i _ _ _ hw)⟩
theorem pwI {X e t t'} (h : PW X e t) (i : ∀ σ H Q, t' σ H Q → t σ H Q) : PW X e t' := ⟨fun wh pins s σ H Q I hw => h.run wh pins s σ H Q I (i _ _ _ hw)⟩
theorem paI {X e t t'} (h : PA X e t) (i : ∀ σ H Q, t' σ H Q → t σ H Q) : PA X e t' := ⟨fun pos pins s σ H Q I hw => h.run pos pins s σ H Q I (i _ _ _ hw)⟩
theorem pgI {X e t t'} (h : PG X e t) (i : ∀ v σ H Q, t' v σ H Q → t v σ H Q) : PG X e t' := ⟨fun pins s σ H v u Q I r hw => h.run pins s σ H v u Q I r (i _ _ _ _ hw)⟩
theorem PostX.ext {K kl rx ρ B H W σ ρ' H'} (q : PostX K kl rx ρ B H W σ) (x : Ext ρ H ρ' H') : PostX K kl rx ρ' B H' W σ := fun n g' ρ2 H2 r x2 => q n g' ρ2 H2 r (x.trans x2)

def AllE (Pr : CE → Expr → Prop) : List CE → List Expr → Prop
  | [], [] => True
  | c :: cs, e :: es => Pr c e ∧ AllE Pr cs es
  | _, _ => False
theorem AllE.len {Pr} : ∀ {cs es}, AllE Pr cs es → cs.length = es.length
  | [], [], _ => rfl
  | _ :: _, _ :: _, h => by simp [AllE.len h.2]
  | [], _ :: _, h => h.elim
  | _ :: _, [], h => h.elim
theorem AllE.one {Pr cs e} (h : AllE Pr cs [e]) : ∃ c, cs = [c] ∧ Pr c e := by
  match cs, h with
  | [c], h => exact ⟨c, rfl, h.1⟩
  | [], h => exact h.elim
  | _ :: _ :: _, h => exact h.2.elim
theorem AllE.two {Pr cs a b} (h : AllE Pr cs [a, b]) : ∃ c d, cs = [c, d] ∧ Pr c a ∧ Pr d b := by
  match cs, h with
  | c :: cs, h =>
    obtain ⟨d, rfl, h2⟩ := h.2.one
    exact ⟨c, d, rfl, h.1, h2⟩
  | [], h => exact h.elim
theorem AllE.three {Pr cs a b x} (h : AllE Pr cs [a, b, x]) : ∃ c d f, cs = [c, d, f] ∧ Pr c a ∧ Pr d b ∧ Pr f x := by
  match cs, h with
  | c :: cs, h =>
    obtain ⟨d, f, rfl, h2, h3⟩ := h.2.two
    exact ⟨c, d, f, rfl, h.1, h2, h3⟩
  | [], h => exact h.elim
theorem star_of {e : Expr} {es : List Expr} {env : Env} (h : noStar e = true) : starEach (e :: es) env = (false, eval e env) :: starEach es env := by
  cases e <;> first | rfl | cases h
theorem plain_of {env : Env} {pos : Pos} : ∀ {es : List Expr}, es.all noStar = true → (backTo pos (starEach es env)).any (·.1) = false
  | [], _ => rfl
  | e :: es, h => by
    rw [List.all_cons, Bool.and_eq_true] at h
    rw [star_of h.1]
    show (false || (backTo pos (starEach es env)).any (·.1)) = false
    rw [plain_of h.2]
    rfl
theorem few_of {env : Env} {pos : Pos} : ∀ {es : List Expr}, es.all noStar = true → (backTo pos (starEach es env)).all (fun x => !x.1) = true
  | [], _ => rfl
  | e :: es, h => by
    rw [List.all_cons, Bool.and_eq_true] at h
    rw [star_of h.1]
    show (!false && (backTo pos (starEach es env)).all (fun x => !x.1)) = true
    rw [few_of h.2]
    rfl
theorem base_of {o : Expr} {m : Str} {env : Env} {whole : Sem Value} (h : noSuper o = true) : attributeBase o m env whole = whole := by
  unfold attributeBase
  split
  · cases h
  · rfl
section
variable {kl : Nat → Addr} {Φ : Phi} {GL : List (Str × D)} {T : List Df} {CL : List Cd} {lv : Nat} {X : Cx} {N : List Str} {sc : Scope} {fn : Str → Bool} {W : L2.WX}
theorem pa_of {cs : List CE} : ∀ {es : List Expr}, AllE (fun c e => PE X e (tE kl Φ GL X.K W c)) cs es → es.all noStar = true → PA X es (tEs kl Φ GL X.K W cs) := by
  induction cs with
  | nil =>
    intro es h hn
    cases es with
    | cons _ _ => exact h.elim
    | nil =>
      refine paI pa_nil fun σ H Q ⟨ρ, B, σd, g, R, rx, rel, hw, q, _⟩ => ?_
      exact q [] g ρ H [] hw rfl (Ext.refl _ _) rel.g (simL_nil.mpr rfl)
  | cons c cs ih =>
    intro es h hn
    cases es with
    | nil => exact h.elim
    | cons e es =>
      rw [List.all_cons, Bool.and_eq_true] at hn
      refine paI (pa_cons h.1 (ih h.2 hn.2) (star_of hn.1)) fun σ H Q ⟨ρ, B, σd, g, R, rx, rel, hw, q, px⟩ => ?_
      refine ⟨ρ, B, σd, g, _, rx, rel, hw, fun d g' ρ' H' v r x hg hv => ?_, px⟩
      refine ⟨ρ', B, σd, g', _, rx, rel.ext x hg, r, fun ds g2 ρ2 H2 vs r2 l2 x2 hg2 hvs => ?_, px.ext x⟩
      exact q (d :: ds) g2 ρ2 H2 (v :: vs) r2 (by simp [l2]) (x.trans x2) hg2 (simL_cons.mpr ⟨v, vs, rfl, SimV.ext x2 _ _ hv, hvs⟩)
/-- two operands -/
theorem two_of {p : P} {ca cb : CE} {σ H Q} (h : tE kl Φ GL X.K W (.prim p [ca, cb]) σ H Q) : tOp (rP2 X.K kl p) (tE kl Φ GL X.K W ca) (tE kl Φ GL X.K W cb) σ H Q := by
  obtain ⟨ρ, B, σd, g, R, rx, rel, hw, q, px⟩ := h
  refine ⟨ρ, B, σd, g, _, rx, rel, hw, fun d g' ρ' H' v r x hg hv => ?_, px⟩
  refine ⟨ρ', B, σd, g', _, rx, rel.ext x hg, r, fun d2 g2 ρ2 H2 v2 r2 x2 hg2 hv2 => ?_, px.ext x⟩
  exact ⟨ρ2, B, g2, [d, d2], R, hg2, simL_cons.mpr ⟨v, [v2], rfl, SimV.ext x2 _ _ hv, SimL.one hv2⟩, r2, q.ext (x.trans x2)⟩
theorem args_of {p : P} {cs : List CE} {σ H Q} (h : tE kl Φ GL X.K W (.prim p cs) σ H Q) : tCB (fun vs H Q => vs.length = cs.length ∧ rP X.K kl p vs H Q) (tEs kl Φ GL X.K W cs) σ H Q := by
  obtain ⟨ρ, B, σd, g, R, rx, rel, hw, q, px⟩ := h
  refine ⟨ρ, B, σd, g, _, rx, rel, hw, fun ds g' ρ' H' vs r l x hg hv => ?_, px⟩
  exact ⟨by rw [← hv.len, l], ρ', B, g', ds, R, hg, hv, r, q.ext x⟩
end
end Br

/-! Br, part G: operators, built-ins and methods as expressions. -/
namespace Br
open PySem PySem.Spec PyProof.Rows L2
section
variable {kl : Nat → Addr} {Φ : Phi} {GL : List (Str × D)} {T : List Df} {CL : List Cd} {lv : Nat} {X : Cx} {N : List Str} {sc : Scope} {fn : Str → Bool} {W : L2.WX}
theorem gl_of (hX : XOk kl Φ GL T CL lv X N sc fn) {x : Str} (h : glB sc x = true) : Gl X x ∧ (x == ("__debug__" : Str)) = false ∧ x ≠ "__name__" := by
  unfold glB at h
  simp only [Bool.and_eq_true, decide_eq_true_eq, Bool.not_eq_true'] at h
  refine ⟨?_, h.1.2, h.2⟩
  show X.env.scope.names.lookup x = some .globalImplicit
  rw [hX.hsc]
  exact h.1.1
/-- a built-in function's call -/
theorem blt_pe (hX : XOk kl Φ GL T CL lv X N sc fn) {x : Str} {p1 pos : Pos} {p : P} {id : String} {es : List Expr} {cs : List CE} (hg : glB sc x = true) (hx : x ∈ BL) (hv : bootBuiltins x = some (.builtin id)) (hr : CallR X (.builtin id) (fun vs H Q => vs.length = es.length ∧ rP X.K kl p vs H Q))
    (ha : AllE (fun c e => PE X e (tE kl Φ GL X.K W c)) cs es) (hn : es.all noStar = true) (hl : 0 < es.length) : PE X (.Call (.Name x p1) es [] pos) (tE kl Φ GL X.K W (.prim p cs)) := by
  obtain ⟨g1, g2, g3⟩ := gl_of hX hg
  cases es with
  | nil => simp at hl
  | cons e es =>
    have hn2 := hn
    rw [List.all_cons, Bool.and_eq_true] at hn2
    refine peI (pe_callB hr g1 (hX.blt x hx) hv (pa_of ha hn) g3 g2 (star_of hn2.1) (plain_of hn2.2)) fun σ H Q h => ?_
    rw [← ha.len]
    exact args_of h
theorem ty_pe (hX : XOk kl Φ GL T CL lv X N sc fn) {x : Str} {p1 pos : Pos} {p : P} {id : String} {es : List Expr} {cs : List CE} (hg : glB sc x = true) (hx : x ∈ BL) (hv : bootBuiltins x = some (.type id)) (hr : CallR X (.type id) (fun vs H Q => vs.length = es.length ∧ rP X.K kl p vs H Q))
    (ha : AllE (fun c e => PE X e (tE kl Φ GL X.K W c)) cs es) (hn : es.all noStar = true) (hl : 0 < es.length) : PE X (.Call (.Name x p1) es [] pos) (tE kl Φ GL X.K W (.prim p cs)) := by
  obtain ⟨g1, g2, g3⟩ := gl_of hX hg
  cases es with
  | nil => simp at hl
  | cons e es =>
    have hn2 := hn
    rw [List.all_cons, Bool.and_eq_true] at hn2
    refine peI (pe_callTy hr g1 (hX.blt x hx) hv (pa_of ha hn) g3 g2 (star_of hn2.1) (plain_of hn2.2)) fun σ H Q h => ?_
    rw [← ha.len]
    exact args_of h
theorem c1_of {f : Value} {p : P} {n : Nat} (h : CallR X f (rC1 X.K kl p)) (hn : n = 1) : CallR X f (fun vs H Q => vs.length = n ∧ rP X.K kl p vs H Q) := fun pins s σ H xs us Q I r ⟨hl, hr⟩ => by
  match xs, hl, hr, r with
  | [x], _, hr, r => exact h pins s σ H [x] us Q I r ⟨x, rfl, hr⟩
  | [], hl, _, _ => simp at hl; omega
  | _ :: _ :: _, hl, _, _ => simp at hl; omega
theorem c2_of {f : Value} {p : P} {n : Nat} (h : CallR X f (rC2 X.K kl p)) (hn : n = 2) : CallR X f (fun vs H Q => vs.length = n ∧ rP X.K kl p vs H Q) := fun pins s σ H xs us Q I r ⟨hl, hr⟩ => by
  match xs, hl, hr, r with
  | [x, y], _, hr, r => exact h pins s σ H [x, y] us Q I r ⟨x, y, rfl, hr⟩
  | [], hl, _, _ => simp at hl; omega
  | [_], hl, _, _ => simp at hl; omega
  | _ :: _ :: _ :: _, hl, _, _ => simp at hl; omega
theorem op_pe (hX : XOk kl Φ GL T CL lv X N sc fn) {op : Operator} {p : P} (h : opOf p = some op) : OpR X (binaryOp op) (rP2 X.K kl p) := by
  cases p <;> simp only [opOf, Option.some.injEq, reduceCtorEq] at h <;> subst h
  · exact p_add
  · exact p_sub
  · exact p_mul
  · exact p_fdiv
  · exact p_mod
  · exact p_pow
theorem cmp_pe (hX : XOk kl Φ GL T CL lv X N sc fn) {op : CmpOp} {p : P} (h : cmpOf p = some op) : OpR X (compareOp op) (rP2 X.K kl p) ∧ op ≠ .In ∧ op ≠ .NotIn := by
  cases p <;> simp only [cmpOf, Option.some.injEq, reduceCtorEq] at h <;> subst h
  · exact ⟨p_lt, by decide, by decide⟩
  · exact ⟨p_le, by decide, by decide⟩
  · exact ⟨p_gt, by decide, by decide⟩
  · exact ⟨p_ge, by decide, by decide⟩
  · exact ⟨p_eq hX.room.units, by decide, by decide⟩
  · exact ⟨p_ne hX.room.units, by decide, by decide⟩
theorem blt_of (hX : XOk kl Φ GL T CL lv X N sc fn) {x : Str} {n : Nat} {p1 pos : Pos} {p : P} {es : List Expr} {cs : List CE} (h : bltOf p = some (x, n)) (hg : glB sc x = true) (hlen : n = es.length)
    (ha : AllE (fun c e => PE X e (tE kl Φ GL X.K W c)) cs es) (hn : es.all noStar = true) : PE X (.Call (.Name x p1) es [] pos) (tE kl Φ GL X.K W (.prim p cs)) := by
  cases p <;> simp only [bltOf, Option.some.injEq, reduceCtorEq, Prod.mk.injEq] at h <;> obtain ⟨rfl, rfl⟩ := h
  · exact blt_pe hX hg (by decide +kernel) (by decide +kernel) (c1_of p_len hlen.symm) ha hn (by omega)
  · exact blt_pe hX hg (by decide +kernel) (by decide +kernel) (c1_of (p_sum hX.calm) hlen.symm) ha hn (by omega)
  · exact blt_pe hX hg (by decide +kernel) (by decide +kernel) (c1_of (p_min1 hX.calm) hlen.symm) ha hn (by omega)
  · exact blt_pe hX hg (by decide +kernel) (by decide +kernel) (c1_of (p_max1 hX.calm) hlen.symm) ha hn (by omega)
  · exact blt_pe hX hg (by decide +kernel) (by decide +kernel) (c2_of (p_min2 hX.calm) hlen.symm) ha hn (by omega)
  · exact blt_pe hX hg (by decide +kernel) (by decide +kernel) (c2_of (p_max2 hX.calm) hlen.symm) ha hn (by omega)
  · exact blt_pe hX hg (by decide +kernel) (by decide +kernel) (c1_of (p_sorted hX.calm) hlen.symm) ha hn (by omega)
  · exact ty_pe hX hg (by decide +kernel) (by decide +kernel) (c1_of p_tuple hlen.symm) ha hn (by omega)
  · exact ty_pe hX hg (by decide +kernel) (by decide +kernel) (c1_of p_list hlen.symm) ha hn (by omega)
  · exact blt_pe hX hg (by decide +kernel) (by decide +kernel) (c1_of (p_all hX.calm) hlen.symm) ha hn (by omega)
  · exact blt_pe hX hg (by decide +kernel) (by decide +kernel) (c1_of (p_any hX.calm) hlen.symm) ha hn (by omega)
  · exact ty_pe hX hg (by decide +kernel) (by decide +kernel) (c1_of p_toInt hlen.symm) ha hn (by omega)
  · exact blt_pe hX hg (by decide +kernel) (by decide +kernel) (c2_of p_divmod hlen.symm) ha hn (by omega)
theorem ix_pe {i : Expr} (h : noSlice i = true) : PlainIx i := by
  intro o j
  cases i <;> first | rfl | cases h
end
end Br

/-! Br, part H: slices, isinstance; all operators, built-ins, methods. -/
namespace Br
open PySem PySem.Spec PyProof.Rows L2
section
variable {kl : Nat → Addr} {Φ : Phi} {GL : List (Str × D)} {T : List Df} {CL : List Cd} {lv : Nat} {X : Cx} {N : List Str} {sc : Scope} {fn : Str → Bool} {W : L2.WX}
theorem cut_ff {a : Expr} {p2 pos : Pos} {ca : CE} (ha : PE X a (tE kl Φ GL X.K W ca)) : PE X (.Subscript a (.Slice none none none p2) pos) (tE kl Φ GL X.K W (.prim (.cut false false) [ca])) := by
  refine peI (pe_slice (p_cut (kl := kl)) ha po_none po_none) fun σ H Q ⟨ρ, B, σd, g, R, rx, rel, hw, q, px⟩ => ?_
  refine ⟨ρ, B, σd, g, _, rx, rel, hw, fun d g' ρ' H' v r x hg hv => ?_, px⟩
  exact ⟨ρ', B, g', d, R, hg, hv, r, q.ext x⟩
theorem cut_tf {a l : Expr} {p2 pos : Pos} {ca cl : CE} (ha : PE X a (tE kl Φ GL X.K W ca)) (hl : PE X l (tE kl Φ GL X.K W cl)) : PE X (.Subscript a (.Slice (some l) none none p2) pos) (tE kl Φ GL X.K W (.prim (.cut true false) [ca, cl])) := by
  refine peI (pe_slice (p_cut (kl := kl)) ha (po_some hl) po_none) fun σ H Q ⟨ρ, B, σd, g, R, rx, rel, hw, q, px⟩ => ?_
  refine ⟨ρ, B, σd, g, _, rx, rel, hw, fun d g' ρ' H' v r x hg hv => ?_, px⟩
  refine ⟨ρ', B, σd, g', _, rx, rel.ext x hg, r, fun d2 g2 ρ2 H2 v2 r2 x2 hg2 hv2 => ?_, px.ext x⟩
  obtain ⟨i, rfl, hp⟩ := prI1_iff.mp r2
  rw [simV_int] at hv2
  subst hv2
  exact ⟨i, rfl, ρ2, B, g2, d, R, hg2, SimV.ext x2 _ _ hv, hp, q.ext (x.trans x2)⟩
theorem cut_ft {a l : Expr} {p2 pos : Pos} {ca cl : CE} (ha : PE X a (tE kl Φ GL X.K W ca)) (hl : PE X l (tE kl Φ GL X.K W cl)) : PE X (.Subscript a (.Slice none (some l) none p2) pos) (tE kl Φ GL X.K W (.prim (.cut false true) [ca, cl])) := by
  refine peI (pe_slice (p_cut (kl := kl)) ha po_none (po_some hl)) fun σ H Q ⟨ρ, B, σd, g, R, rx, rel, hw, q, px⟩ => ?_
  refine ⟨ρ, B, σd, g, _, rx, rel, hw, fun d g' ρ' H' v r x hg hv => ?_, px⟩
  refine ⟨ρ', B, σd, g', _, rx, rel.ext x hg, r, fun d2 g2 ρ2 H2 v2 r2 x2 hg2 hv2 => ?_, px.ext x⟩
  obtain ⟨i, rfl, hp⟩ := prI1_iff.mp r2
  rw [simV_int] at hv2
  subst hv2
  exact ⟨i, rfl, ρ2, B, g2, d, R, hg2, SimV.ext x2 _ _ hv, hp, q.ext (x.trans x2)⟩
theorem cut_tt {a l u : Expr} {p2 pos : Pos} {ca cl cu : CE} (ha : PE X a (tE kl Φ GL X.K W ca)) (hl : PE X l (tE kl Φ GL X.K W cl)) (hu : PE X u (tE kl Φ GL X.K W cu)) : PE X (.Subscript a (.Slice (some l) (some u) none p2) pos) (tE kl Φ GL X.K W (.slc ca cl cu)) := by
  refine peI (pe_slice (p_cut (kl := kl)) ha (po_some hl) (po_some hu)) fun σ H Q ⟨ρ, B, σd, g, R, rx, rel, hw, q, px⟩ => ?_
  refine ⟨ρ, B, σd, g, _, rx, rel, hw, fun d g' ρ' H' v r x hg hv => ?_, px⟩
  refine ⟨ρ', B, σd, g', _, rx, rel.ext x hg, r, fun d2 g2 ρ2 H2 v2 r2 x2 hg2 hv2 => ?_, px.ext x⟩
  obtain ⟨i, rfl, hp⟩ := prI1_iff.mp r2
  rw [simV_int] at hv2
  subst hv2
  refine ⟨i, rfl, ρ2, B, σd, g2, _, rx, rel.ext (x.trans x2) hg2, hp, fun d3 g3 ρ3 H3 v3 r3 x3 hg3 hv3 => ?_, px.ext (x.trans x2)⟩
  obtain ⟨j, rfl, hp⟩ := prI1_iff.mp r3
  rw [simV_int] at hv3
  subst hv3
  exact ⟨j, rfl, ρ3, B, g3, d, R, hg3, SimV.ext (x2.trans x3) _ _ hv, hp, q.ext ((x.trans x2).trans x3)⟩
theorem rev_pe {a : Expr} {k : Nat} {p1 p2 p3 pos : Pos} {ca : CE} (ha : PE X a (tE kl Φ GL X.K W ca)) : PE X (.Subscript a (.Slice none none (some (.UnaryOp .USub (.Constant (.int 1) k p1) p2)) p3) pos) (tE kl Φ GL X.K W (.prim .rev [ca])) := by
  refine peI (p_rev (kl := kl) ha) fun σ H Q ⟨ρ, B, σd, g, R, rx, rel, hw, q, px⟩ => ?_
  refine ⟨ρ, B, σd, g, _, rx, rel, hw, fun d g' ρ' H' v r x hg hv => ?_, px⟩
  exact ⟨ρ', B, g', [d], R, hg, SimL.one hv, r, q.ext x⟩
theorem isa_pe (hX : XOk kl Φ GL T CL lv X N sc fn) {a : Expr} {t : String} {p1 p2 pos : Pos} {ca : CE} (hg : glB sc ("isinstance" : Str) = true) (hy : glB sc (Str.ofString t) = true) (ht : t ∈ ["tuple", "list", "int", "bool", "str"]) (hn : noStar a = true)
    (ha : PE X a (tE kl Φ GL X.K W ca)) : PE X (.Call (.Name "isinstance" p1) [a, .Name (Str.ofString t) p2] [] pos) (tE kl Φ GL X.K W (.prim (.isa t) [ca])) := by
  obtain ⟨g1, g2, g3⟩ := gl_of hX hg
  obtain ⟨y1, y2, y3⟩ := gl_of hX hy
  have hv : bootBuiltins (Str.ofString t) = some (.type t) ∧ (Str.ofString t) ∈ BL := by
    simp only [List.mem_cons, List.mem_nil_iff, or_false] at ht
    rcases ht with rfl | rfl | rfl | rfl | rfl <;> exact ⟨by decide +kernel, by decide +kernel⟩
  have hT : PE X (.Name (Str.ofString t) p2) (tC (.ty t)) := pe_bltn y1 (hX.blt _ hv.2) hv.1 rfl y3 y2
  refine peI (pe_callB (p_isa (kl := kl) (t := t)) g1 (hX.blt _ (by decide +kernel)) (by decide +kernel) (pa_cons ha (pa_cons hT pa_nil (by rfl)) (star_of hn)) g3 g2 (star_of hn) rfl) fun σ H Q ⟨ρ, B, σd, g, R, rx, rel, hw, q, px⟩ => ?_
  refine ⟨ρ, B, σd, g, _, rx, rel, hw, fun d g' ρ' H' v r x hg hv => ?_, px⟩
  exact ⟨v, rfl, ρ', B, g', [d], R, hg, SimL.one hv, r, q.ext x⟩
/-- operators and built-ins -/
theorem prim_pe (hX : XOk kl Φ GL T CL lv X N sc fn) {p : P} {e : Expr} {es : List Expr} {cs : List CE} (h : shape sc p e = some es) (ha : AllE (fun c e => PE X e (tE kl Φ GL X.K W c)) cs es) (hn : es.all noStar = true) : PE X e (tE kl Φ GL X.K W (.prim p cs)) := by
  unfold shape at h
  split at h
  · split at h
    · rename_i h1
      cases h
      obtain ⟨c, d, rfl, h2, h3⟩ := ha.two
      exact peI (pe_op (op_pe hX h1) h2 h3) fun _ _ _ z => two_of z
    · cases h
  · split at h
    · rename_i h1
      cases h
      obtain ⟨c, d, rfl, h2, h3⟩ := ha.two
      obtain ⟨k1, k2, k3⟩ := cmp_pe hX h1
      exact peI (pe_cmpR k1 h2 h3 (nomark _ k2 k3)) fun _ _ _ z => two_of z
    · cases h
  · split at h
    · cases h
      obtain ⟨c, rfl, h2⟩ := ha.one
      exact cut_ff h2
    · cases h
      obtain ⟨c, d, rfl, h2, h3⟩ := ha.two
      exact cut_tf h2 h3
    · cases h
      obtain ⟨c, d, rfl, h2, h3⟩ := ha.two
      exact cut_ft h2 h3
    · cases h
  · split at h
    · rename_i h1
      subst h1
      cases h
      obtain ⟨c, rfl, h2⟩ := ha.one
      exact rev_pe h2
    · cases h
  · split at h
    · rename_i h1
      obtain ⟨rfl, h1⟩ := h1
      cases h
      obtain ⟨c, d, rfl, h2, h3⟩ := ha.two
      exact peI (pe_ix (p_item hX.hu1) h2 h3 (ix_pe h1)) fun _ _ _ z => two_of z
    · cases h
  · split at h
    · rename_i h1
      cases h
      exact blt_of hX h1.2 h1.1 rfl ha hn
    · split at h
      · split at h
        · rename_i h1
          obtain ⟨rfl, h2, h3, rfl, h5⟩ := h1
          cases h
          obtain ⟨c, rfl, h6⟩ := ha.one
          simp only [List.all_cons, List.all_nil, Bool.and_true] at hn
          exact isa_pe hX h2 h3 h5 hn h6
        · cases h
      · cases h
  · cases h
/-- methods -/
theorem meth_pe (hX : XOk kl Φ GL T CL lv X N sc fn) {p : P} {e o : Expr} {es : List Expr} {c : CE} {cs : List CE} (h : shapeM p e = some (o, es)) (ho : PE X o (tE kl Φ GL X.K W c)) (ha : AllE (fun c e => PE X e (tE kl Φ GL X.K W c)) cs es) (hn : es.all noStar = true) :
    PE X e (tE kl Φ GL X.K W (.meth p c cs)) := by
  unfold shapeM at h
  split at h
  · rename_i o' m ap es' cp
    split at h
    · rename_i h1
      obtain ⟨h1, h2, h3⟩ := h1
      cases h
      have lst1 : ∀ {id : String} {name : Str}, (p ≠ .get) → Slot "list" name id → typeOf (.builtin id) = pure (.type "method_descriptor") → MtR X id (rM2 X.K kl p) → es.length = 1 →
          PE X (.Call (.Attribute o name ap) es [] cp) (tE kl Φ GL X.K W (.meth p c cs)) := fun {id name} hp sl ty mt hl => by
        match es, hl, ha, hn with
        | [a], _, ha, hn =>
          obtain ⟨ca, rfl, h4⟩ := ha.one
          simp only [List.all_cons, List.all_nil, Bool.and_true] at hn
          refine peI (pe_bm PySem.F.plainAttrs_list sl ty mt ho (pa_cons h4 pa_nil (star_of hn)) (base_of h3) ?_ h2 (star_of hn) rfl) fun σ H Q ⟨ρ, B, σd, g, R, rx, rel, hw, q, px⟩ => ?_
          · rw [few_of (es := [a]) (by simpa using hn)]
            rfl
          · refine ⟨ρ, B, σd, g, _, rx, rel, hw, fun d g' ρ' H' v r x hg hv => ⟨?_, ?_⟩, px⟩
            · have hr := r.1
              unfold recvOk at hr
              split at hr
              · exact absurd rfl hp
              · obtain ⟨ds, hds⟩ := Option.isSome_iff_exists.mp hr
                obtain ⟨b, vs, rfl, hb, _⟩ := hg.lstR hv hds
                exact .inl ⟨rfl, vs, hb⟩
            · refine ⟨ρ', B, σd, g', _, rx, rel.ext x hg, r.2, fun d2 g2 ρ2 H2 v2 r2 x2 hg2 hv2 => ?_, px.ext x⟩
              exact ⟨v2, rfl, ρ2, B, g2, [d, d2], R, hg2, simL_cons.mpr ⟨v, [v2], rfl, SimV.ext x2 _ _ hv, SimL.one hv2⟩, r2, q.ext (x.trans x2)⟩
      cases p <;> simp only [mthOf, Option.some.injEq, reduceCtorEq, Prod.mk.injEq] at h1 <;> obtain ⟨rfl, hl⟩ := h1
      · exact lst1 (by decide) PySem.F.slot_list_append PySem.F.type_list_append p_append hl.symm
      · exact lst1 (by decide) PySem.F.slot_list_extend PySem.F.type_list_extend p_extend hl.symm
      · exact lst1 (by decide) PySem.F.slot_list_index PySem.F.type_list_index p_index hl.symm
      · match es, hl, ha, hn with
        | [], _, ha, hn =>
          obtain rfl : cs = [] := by
            cases cs with
            | nil => rfl
            | cons _ _ => exact ha.elim
          refine peI (pe_bm0 PySem.F.plainAttrs_list PySem.F.slot_list_clear PySem.F.type_list_clear (p_clear (kl := kl)) ho (base_of h3) h2) fun σ H Q ⟨ρ, B, σd, g, R, rx, rel, hw, q, px⟩ => ?_
          refine ⟨ρ, B, σd, g, _, rx, rel, hw, fun d g' ρ' H' v r x hg hv => ⟨?_, ?_⟩, px⟩
          · have hr := r.1
            obtain ⟨ds, hds⟩ := Option.isSome_iff_exists.mp (show (lstOf g' d).isSome = true from hr)
            obtain ⟨b, vs, rfl, hb, _⟩ := hg.lstR hv hds
            exact .inl ⟨rfl, vs, hb⟩
          · exact ⟨rfl, ρ', B, g', [d], R, hg, SimL.one hv, r.2, q.ext x⟩
      · match es, hl, ha, hn with
        | [a, b], _, ha, hn =>
          obtain ⟨ca, cb, rfl, h4, h5⟩ := ha.two
          simp only [List.all_cons, List.all_nil, Bool.and_true, Bool.and_eq_true] at hn
          refine peI (pe_bm PySem.F.plainAttrs_dict PySem.F.slot_dict_get PySem.F.type_dict_get (p_get (kl := kl) hX.hu1) ho (pa_cons h4 (pa_cons h5 pa_nil (star_of hn.2)) (star_of hn.1)) (base_of h3) ?_ h2 (star_of hn.1) (plain_of (by simpa using hn.2))) fun σ H Q ⟨ρ, B, σd, g, R, rx, rel, hw, q, px⟩ => ?_
          · rw [few_of (es := [a, b]) (by simpa using hn)]
            rfl
          · refine ⟨ρ, B, σd, g, _, rx, rel, hw, fun d g' ρ' H' v r x hg hv => ⟨?_, ?_⟩, px⟩
            · have hr := r.1
              simp only [recvOk] at hr
              split at hr
              · split at hr
                · rename_i n kvs he
                  obtain ⟨a1, ks, rfl, _, h6, _⟩ := hg.dct hv he
                  exact .inr (.inr (.inl ⟨rfl, .inl ⟨ks, h6⟩⟩))
                · exact hr.elim
              · exact hr.elim
            · refine ⟨ρ', B, σd, g', _, rx, rel.ext x hg, r.2, fun d2 g2 ρ2 H2 v2 r2 x2 hg2 hv2 => ?_, px.ext x⟩
              refine ⟨ρ2, B, σd, g2, _, rx, rel.ext (x.trans x2) hg2, r2, fun d3 g3 ρ3 H3 v3 r3 x3 hg3 hv3 => ?_, px.ext (x.trans x2)⟩
              exact ⟨v2, v3, rfl, ρ3, B, g3, [d, d2, d3], R, hg3, simL_cons.mpr ⟨v, [v2, v3], rfl, SimV.ext (x2.trans x3) _ _ hv, simL_cons.mpr ⟨v2, [v3], rfl, SimV.ext x3 _ _ hv2, SimL.one hv3⟩⟩, r3, q.ext ((x.trans x2).trans x3)⟩
      · exact lst1 (by decide) PySem.F.slot_list_pop PySem.F.type_list_pop p_pop0 hl.symm
    · cases h
  · cases h
end
end Br

/-! Br, part W: what is hidden; walks. -/
namespace Br
open PySem PySem.Spec PyProof.Rows L2

/-- what is told in one state holds in the other -/
structure Mp (K : PySem.W.Frag) (ρ : Rho) (B : Addr → Prop) (H : Hp) (ρ' : Rho) (B' : Addr → Prop) (H' : Hp) : Prop where
  len : ρ.length ≤ ρ'.length
  old : ∀ (n : Nat) a, n < ρ.length → ρ'[n]? = some (some a) → ρ[n]? = some (some a)
  t : ∀ a vs, RdT K ρ B H a vs → RdT K ρ' B' H' a vs
  l : ∀ a vs, RdL K ρ B H a vs → RdL K ρ' B' H' a vs
section
variable {K : PySem.W.Frag} {kl : Nat → Addr} {ρ ρ' : Rho} {B B' : Addr → Prop} {H H' : Hp} {g : G}
mutual
theorem SimV.mp (x : Mp K ρ B H ρ' B' H') : ∀ (d : D) (v : V), SimV K ρ B H d v → SimV K ρ' B' H' d v
  | .non, _, h => h
  | .bl _, _, h => h
  | .int _, _, h => h
  | .str _, _, h => h
  | .tup ds, _, h => by
    unfold SimV at h ⊢
    obtain ⟨a, vs, e, h1, h2⟩ := h
    exact ⟨a, vs, e, x.t a vs h1, SimL.mp x ds vs h2⟩
  | .tl ds, _, h => by
    unfold SimV at h ⊢
    obtain ⟨a, vs, e, h1, h2⟩ := h
    exact ⟨a, vs, e, x.l a vs h1, SimL.mp x ds vs h2⟩
  | .ref n, _, h => by
    unfold SimV at h ⊢
    exact ⟨Nat.lt_of_lt_of_le h.1 x.len, fun a e => h.2 a (x.old n a h.1 e)⟩
theorem SimL.mp (x : Mp K ρ B H ρ' B' H') : ∀ (ds : List D) (vs : List V), SimL K ρ B H ds vs → SimL K ρ' B' H' ds vs
  | [], _, h => h
  | d :: ds, _, h => by
    unfold SimL at h ⊢
    obtain ⟨v, r, e, h1, h2⟩ := h
    exact ⟨v, r, e, SimV.mp x d v h1, SimL.mp x ds r h2⟩
end
theorem SimC.mp (x : Mp K ρ B H ρ' B' H') {y c} (h : SimC K kl ρ B H y c) (k : ∀ a o, y = some a → H a = some o → H' a = some o) : SimC K kl ρ' B' H' y c := by
  cases c with
  | dead => exact h
  | lst ds => obtain ⟨a, vs, e, h1, h2⟩ := h; exact ⟨a, vs, e, k a _ e h1, SimL.mp x _ _ h2⟩
  | dct kvs => obtain ⟨a, vs, e, h1, h2⟩ := h; exact ⟨a, vs, e, k a _ e h1, Paired.mapP h2 fun _ _ z => ⟨z.1, SimV.mp x _ _ z.2⟩⟩
  | lkd kvs => obtain ⟨a, o, vs, e, h1, h2⟩ := h; exact ⟨a, o, vs, e, k a _ e h1, Paired.mapP h2 fun _ _ z => ⟨z.1, SimV.mp x _ _ z.2⟩⟩
  | dtt kvs => obtain ⟨a, vs, e, h1, h2⟩ := h; exact ⟨a, vs, e, k a _ e h1, Paired.mapP h2 fun _ _ z => ⟨z.1, SimV.mp x _ _ z.2⟩⟩
  | ins c fs => obtain ⟨a, dx, vs, e, h1, h2⟩ := h; exact ⟨a, dx, vs, e, k a _ e h1, Paired.mapP h2 fun _ _ z => ⟨z.1, SimV.mp x _ _ z.2⟩⟩
theorem Mp.toB (hb : ∀ a, B' a → B a ∨ H a = none) : Mp K ρ B H ρ B' H :=
  ⟨Nat.le_refl _, fun _ _ _ h => h, fun a vs h => by
    rcases h with ⟨h1, h2, h3⟩ | h
    · exact .inl ⟨h1, h2, fun b => (hb a b).elim h3 fun z => by rw [h1] at z; cases z⟩
    · exact .inr h, fun a vs h => by
    rcases h with ⟨h1, h2, h3⟩ | h
    · exact .inl ⟨h1, h2, fun b => (hb a b).elim h3 fun z => by rcases h1 with h1 | ⟨o, h1⟩ <;> rw [h1] at z <;> cases z⟩
    · exact .inr h⟩
theorem Mp.hset {D : Addr} {o : HO} (hb : B D) : Mp K ρ B H ρ B (upd H D o) :=
  ⟨Nat.le_refl _, fun _ _ _ h => h, fun a vs h => by
    rcases h with ⟨h1, h2, h3⟩ | h
    · have : a ≠ D := fun e => h3 (e ▸ hb)
      exact .inl ⟨by rw [upd_ne this]; exact h1, h2, h3⟩
    · exact .inr h, fun a vs h => by
    rcases h with ⟨h1, h2, h3⟩ | h
    · have : a ≠ D := fun e => h3 (e ▸ hb)
      refine .inl ⟨?_, h2, h3⟩
      rcases h1 with h1 | ⟨o, h1⟩
      · exact .inl (by rw [upd_ne this]; exact h1)
      · exact .inr ⟨o, by rw [upd_ne this]; exact h1⟩
    · exact .inr h⟩
theorem SimG.hset (h : SimG K kl ρ B H g) {D : Addr} {o : HO} (hb : B D) : SimG K kl ρ B (upd H D o) g where
  len := h.len
  inj := h.inj
  cell := fun n c e => by
    obtain ⟨x, e1, h1⟩ := h.cell n c e
    refine ⟨x, e1, h1.mp (.hset hb) fun a u ea q => ?_⟩
    subst ea
    have : a ≠ D := fun z => (h.hid D hb).2 (z ▸ mem_set_live e1)
    rw [upd_ne this]
    exact q
  hid := fun a b => ⟨by
    by_cases e : a = D
    · subst e
      rw [upd_same]
      exact fun z => nomatch z
    · rw [upd_ne e]
      exact (h.hid a b).1, (h.hid a b).2⟩
theorem SimG.hide (h : SimG K kl ρ B H g) {D : Addr} {o : HO} (hp : H D = none) : SimG K kl ρ (fun a => B a ∨ a = D) (upd H D o) g := by
  have h1 := h.fresh (o := o) hp
  refine ⟨h1.len, h1.inj, fun n c e => ?_, fun a b => ?_⟩
  · obtain ⟨x, e1, h2⟩ := h.cell n c e
    have h3 : SimC K kl ρ (fun a => B a ∨ a = D) H x c := h2.mp (.toB fun a b => b.elim .inl fun z => .inr (z ▸ hp)) fun _ _ _ q => q
    exact ⟨x, e1, h3.ext (Ext.fresh hp) fun a u _ q => by rw [upd_ne (ne_of_none q hp)]; exact q⟩
  · rcases b with b | b
    · exact h1.hid a b
    · subst b
      refine ⟨by rw [upd_same]; exact fun z => (nomatch z), fun m => ?_⟩
      obtain ⟨u, e⟩ := h.live m
      rw [hp] at e
      cases e
theorem SimG.unhide (h : SimG K kl ρ B' H g) (hb : ∀ a, B a → B' a) : SimG K kl ρ B H g := by
  refine ⟨h.len, h.inj, fun n c e => ?_, fun a b => h.hid a (hb a b)⟩
  obtain ⟨x, e1, h2⟩ := h.cell n c e
  exact ⟨x, e1, h2.mp (.toB fun a b => .inl (hb a b)) fun _ _ _ q => q⟩
theorem Ext.hset {D : Addr} {o : HO} (x : Ext ρ H ρ' H') (hp : H D = none) : Ext ρ H ρ' (upd H' D o) :=
  ⟨x.len, x.old, x.new, fun a u e hn => by rw [upd_ne (ne_of_none e hp)]; exact x.keep a u e hn, fun a o u e => by rw [upd_ne (ne_of_none e hp)]; exact x.frz a o u e⟩
theorem Sl.mp {σd : S} {σ : L2.St} (x : Mp K ρ B H ρ' B' H') (h : Sl K ρ B H σd σ) : Sl K ρ' B' H' σd σ :=
  ⟨h.len, fun i d e => let ⟨v, e1, h1⟩ := h.at_ i d e; ⟨v, e1, SimV.mp x d v h1⟩⟩
theorem Sl.none {σd : S} {σ : L2.St} (h : Sl K ρ B H σd σ) (i : Nat) : Sl K ρ B H (σd.set i none) (σ.set i none) := by
  refine ⟨by simp [h.len], fun j d e => ?_⟩
  by_cases hj : i = j
  · subst hj
    by_cases hi : i < σd.length
    · rw [List.getElem?_set_self hi] at e
      cases e
    · rw [List.getElem?_eq_none (by simpa using hi)] at e
      cases e
  · rw [List.getElem?_set_ne hj] at e ⊢
    exact h.at_ j d e
theorem Sl.wipe {σd : S} {σ : L2.St} (h : Sl K ρ B H σd σ) : ∀ vs : List Nat, Sl K ρ B H (wipe σd vs) (L2.wipe σ vs)
  | [] => h
  | v :: vs => (Sl.wipe h vs).none v
theorem wipe_idem (σ : L2.St) (vs : List Nat) : L2.wipe (L2.wipe σ vs) vs = L2.wipe σ vs := by
  have key : ∀ ws : List Nat, (∀ w ∈ ws, w ∈ vs) → L2.wipe (L2.wipe σ vs) ws = L2.wipe σ vs := by
    intro ws
    induction ws with
    | nil => intro _; rfl
    | cons w ws ih =>
      intro h
      show (L2.wipe (L2.wipe σ vs) ws).set w Option.none = L2.wipe σ vs
      rw [ih fun z hz => h z (List.mem_cons_of_mem _ hz)]
      have hw := h w List.mem_cons_self
      apply List.ext_getElem? 
      intro j
      by_cases hj : w = j
      · subst hj
        by_cases hl : w < (L2.wipe σ vs).length
        · rw [List.getElem?_set_self hl, List.getElem?_eq_getElem hl]
          cases q : (L2.wipe σ vs)[w] with
          | none => rfl
          | some x =>
            have : (L2.wipe σ vs)[w]? = some (some x) := by rw [List.getElem?_eq_getElem hl, q]
            exact absurd hw (wipe_some this).2
        · rw [List.getElem?_eq_none (by simpa using hl), List.getElem?_eq_none (by simpa using hl)]
      · rw [List.getElem?_set_ne hj]
  exact key vs fun _ h => h

/-- a hidden list becomes a cell -/
theorem SimG.adopt {D : Addr} {av : List V} {acc : List Br.D} (h : SimG K kl ρ B' H g) (hb : ∀ a, B a → B' a ∧ a ≠ D) (hD : B' D) (e : H D = some (.lst av)) (hv : SimL K ρ B' H acc av) : SimG K kl (ρ ++ [some D]) B H (g ++ [.lst acc]) := by
  have nD : some D ∉ ρ := (h.hid D hD).2
  have m : Mp K ρ B' H (ρ ++ [some D]) B H := ⟨by simp, fun n a hn e => by rw [List.getElem?_append_left hn] at e; exact e, fun a vs r => by
    rcases r with ⟨h1, h2, h3⟩ | r
    · refine .inl ⟨h1, fun z => ?_, fun z => h3 (hb a z).1⟩
      rcases List.mem_append.mp z with z | z
      · exact h2 z
      · simp at z
        exact h3 (z ▸ hD)
    · exact .inr r, fun a vs r => by
    rcases r with ⟨h1, h2, h3⟩ | r
    · refine .inl ⟨h1, fun z => ?_, fun z => h3 (hb a z).1⟩
      rcases List.mem_append.mp z with z | z
      · exact h2 z
      · simp at z
        exact h3 (z ▸ hD)
    · exact .inr r⟩
  have hx : ∀ (k : Nat) a, (ρ ++ [some D])[k]? = some (some a) → (k < ρ.length ∧ ρ[k]? = some (some a)) ∨ (k = ρ.length ∧ a = D) := fun k a e => by
    by_cases hk : k < ρ.length
    · rw [List.getElem?_append_left hk] at e
      exact .inl ⟨hk, e⟩
    · have hk2 : k = ρ.length := by
        have := (List.getElem?_eq_some_iff.mp e).1
        simp at this
        omega
      subst hk2
      simp at e
      exact .inr ⟨rfl, e.symm⟩
  refine ⟨by simp [h.len], fun n m a e1 e2 => ?_, fun n c e1 => ?_, fun a b => ⟨(h.hid a (hb a b).1).1, fun z => ?_⟩⟩
  · rcases hx n a e1 with ⟨h1, h2⟩ | ⟨h1, h2⟩ <;> rcases hx m a e2 with ⟨h3, h4⟩ | ⟨h3, h4⟩
    · exact h.inj n m a h2 h4
    · subst h4
      exact absurd (mem_set_live h2) nD
    · subst h2
      exact absurd (mem_set_live h4) nD
    · omega
  · by_cases hn : n < g.length
    · rw [List.getElem?_append_left hn] at e1
      obtain ⟨y, e2, h1⟩ := h.cell n c e1
      exact ⟨y, by rw [List.getElem?_append_left (by rw [h.len]; exact hn)]; exact e2, h1.mp m fun _ _ _ q => q⟩
    · have hn2 : n = g.length := by
        have := (List.getElem?_eq_some_iff.mp e1).1
        simp at this
        omega
      subst hn2
      simp at e1
      subst e1
      exact ⟨some D, by rw [← h.len]; simp, D, av, rfl, e, SimL.mp m _ _ hv⟩
  · rcases List.mem_append.mp z with z | z
    · exact (h.hid a (hb a b).1).2 z
    · simp at z
      exact (hb a b).2 z
theorem Ext.adopt {D : Addr} (x : Ext ρ H ρ' H') (hD : H D = none) : Ext ρ H (ρ' ++ [some D]) H' :=
  ⟨by have := x.len; simp; omega, fun n a hn e => by
    rw [List.getElem?_append_left (Nat.lt_of_lt_of_le hn x.len)] at e
    exact x.old n a hn e, fun a m => by
    rcases List.mem_append.mp m with m | m
    · exact x.new a m
    · simp at m
      subst m
      exact .inr hD, x.keep, x.frz⟩
/-- a dict that was walked may be written again -/
theorem SimG.unlock {n : Nat} {d : Addr} {o : Obj} {ks : List (Key × V)} {kvs : List (Br.D × Br.D)} (h : SimG K kl ρ B H g) (hn : ρ[n]? = some none ∨ ρ[n]? = some (some d)) (e : H d = some (.frz o (.dK ks))) (hc : g[n]? = some (.lkd kvs)) (nB : ¬ B d) :
    SimG K kl ρ B (upd H d (.dK ks)) (g.set n (.dct kvs)) := by
  obtain ⟨y, e1, a, o', ks', ey, e2, hk⟩ := h.cell n _ hc
  subst ey
  have hn : ρ[n]? = some (some d) := hn.resolve_left fun z => by rw [e1] at z; cases z
  rw [hn] at e1
  cases e1
  rw [e] at e2
  cases e2
  have hl : n < g.length := (List.getElem?_eq_some_iff.mp hc).1
  have hmem := mem_set_live hn
  have m : Mp K ρ B H ρ B (upd H d (.dK ks)) := ⟨Nat.le_refl _, fun _ _ _ h => h, fun a vs r => by
    rcases r with ⟨h1, h2, h3⟩ | r
    · have : a ≠ d := fun z => h2 (z ▸ hmem)
      exact .inl ⟨by rw [upd_ne this]; exact h1, h2, h3⟩
    · exact .inr r, fun a vs r => by
    rcases r with ⟨h1, h2, h3⟩ | r
    · have : a ≠ d := fun z => h2 (z ▸ hmem)
      refine .inl ⟨?_, h2, h3⟩
      rcases h1 with h1 | ⟨o, h1⟩
      · exact .inl (by rw [upd_ne this]; exact h1)
      · exact .inr ⟨o, by rw [upd_ne this]; exact h1⟩
    · exact .inr r⟩
  refine ⟨by rw [List.length_set]; exact h.len, h.inj, fun k c ek => ?_, fun a b => ⟨?_, (h.hid a b).2⟩⟩
  · by_cases hk2 : n = k
    · subst hk2
      rw [List.getElem?_set_self hl] at ek
      cases ek
      exact ⟨some d, hn, d, ks, rfl, upd_same, Paired.mapP hk fun _ _ z => ⟨z.1, SimV.mp m _ _ z.2⟩⟩
    · rw [List.getElem?_set_ne hk2] at ek
      obtain ⟨y, e3, h3⟩ := h.cell k c ek
      refine ⟨y, e3, h3.mp m fun a u ea q => ?_⟩
      have : a ≠ d := fun z => hk2 (h.inj n k d hn (by rw [e3, ea, z]))
      rw [upd_ne this]
      exact q
  · by_cases ea : a = d
    · subst ea
      exact absurd b nB
    · rw [upd_ne ea]
      exact (h.hid a b).1
/-! ### attributes -/
theorem SimF.look {fs : List (Str × D)} {vs : List (Str × V)} (h : SimF K ρ B H fs vs) (f : Str) : (∀ d, fs.lookup f = some d → ∃ v, vs.lookup f = some v ∧ SimV K ρ B H d v) ∧ (fs.lookup f = none → vs.lookup f = none) := by
  induction h with
  | nil => exact ⟨fun d e => (nomatch e), fun _ => rfl⟩
  | @cons p q ps qs hpq _ ih =>
    obtain ⟨a, x⟩ := p
    obtain ⟨b, y⟩ := q
    obtain ⟨e1, e2⟩ := hpq
    have e1 : a = b := e1
    subst e1
    rw [List.lookup_cons, List.lookup_cons]
    by_cases hf : (f == a) = true
    · rw [hf]
      exact ⟨fun d e => by cases e; exact ⟨y, rfl, e2⟩, fun e => by cases e⟩
    · rw [Bool.not_eq_true] at hf
      rw [hf]
      exact ih
theorem SimF.put {fs : List (Str × D)} {vs : List (Str × V)} (h : SimF K ρ B H fs vs) (f : Str) {d : D} {v : V} (hv : SimV K ρ B H d v) : SimF K ρ B H (putD f d fs) (putF f v vs) := by
  induction h with
  | nil => exact .cons ⟨rfl, hv⟩ .nil
  | @cons p q ps qs hpq hr ih =>
    obtain ⟨a, x⟩ := p
    obtain ⟨b, y⟩ := q
    obtain ⟨e1, e2⟩ := hpq
    have e1 : a = b := e1
    subst e1
    unfold putD putF
    split
    · exact .cons ⟨rfl, hv⟩ hr
    · exact .cons ⟨rfl, e2⟩ ih
theorem SimF.mp (x : Mp K ρ B H ρ' B' H') {fs : List (Str × D)} {vs : List (Str × V)} (h : SimF K ρ B H fs vs) : SimF K ρ' B' H' fs vs := Paired.mapP h fun _ _ z => ⟨z.1, SimV.mp x _ _ z.2⟩
theorem SimG.ins (hg : SimG K kl ρ B H g) {n c fs v} (hv : SimV K ρ B H (.ref n) v) (e : g[n]? = some (.ins c fs)) : ∃ a dx vs, v = .ref a ∧ ρ[n]? = some (some a) ∧ H a = some (.ins (kl c) dx vs) ∧ SimF K ρ B H fs vs := by
  obtain ⟨x, e1, a, dx, vs, e2, h1, h2⟩ := hg.cell n _ e
  subst e2
  exact ⟨a, dx, vs, (simV_ref.mp hv).2 a e1, e1, h1, h2⟩
theorem nfI {H : Hp} {p c dx : Addr} {vs : List (Str × V)} (h : H p = some (.ins c dx vs)) : ∀ x u, H p ≠ some (.frz x u) := fun x u e => by rw [h] at e; cases e
/-- the turns of an iterator give these -/
def Walk (K : PySem.W.Frag) (kl : Nat → Addr) (B : Addr → Prop) (J : It) (xs : List D) (st : G → Prop) (ρ1 : Rho) (H1 : Hp) : Prop :=
  ∀ B' ρ H g, (∀ a, B' a → B a ∨ H1 a = none) → Ext ρ1 H1 ρ H → SimG K kl ρ B' H g → st g → (∀ i, xs.length ≤ i → J.stop i H) ∧
    ∀ (i : Nat) d, xs[i]? = some d → J.go i H ∧ ∀ x H', J.yld i H x H' → SimG K kl ρ B' H' g ∧ Ext ρ H ρ H' ∧ SimV K ρ B' H' d x
/-- a value in a later state -/
theorem SimV.later {ρ1 H1 d v} (h : SimV K ρ1 B H1 d v) (hb : ∀ a, B' a → B a ∨ H1 a = none) (x : Ext ρ1 H1 ρ H) : SimV K ρ B' H d v := SimV.ext x _ _ (SimV.mp (.toB hb) _ _ h)
theorem walk_lst {ρ1 H1} {x : D} {a : Addr} {xs : List D} {g1 : G} (hv : SimV K ρ1 B H1 x (.ref a)) (e : lstOf g1 x = some xs) : Walk K kl B (Itl K a) xs (fun g => lstOf g x = lstOf g1 x) ρ1 H1 := by
  intro B' ρ H g hb hx hg st
  obtain ⟨a', vs, ea, h1, h2⟩ := hg.lstR (hv.later hb hx) (st.trans e)
  cases ea
  refine ⟨fun i hi => ⟨vs, h1, by rw [← h2.len]; exact hi⟩, fun i d he => ?_⟩
  obtain ⟨v, hv, hs⟩ := h2.get he
  refine ⟨⟨vs, v, h1, hv⟩, fun y H' ⟨eh, hy⟩ => ?_⟩
  subst eh
  have := hy vs h1
  rw [hv] at this
  cases this
  exact ⟨hg, .refl _ _, hs⟩
theorem walk_tup {ρ1 H1} {a : Addr} {xs : List D} (hv : SimV K ρ1 B H1 (.tup xs) (.ref a)) : Walk K kl B (Itt K a) xs (fun _ => True) ρ1 H1 := by
  intro B' ρ H g hb hx hg st
  obtain ⟨a', vs, ea, h1, h2⟩ := simV_tup.mp (hv.later hb hx)
  cases ea
  refine ⟨fun i hi => ⟨vs, h1.sq, by rw [← h2.len]; exact hi⟩, fun i d he => ?_⟩
  obtain ⟨v, hv, hs⟩ := h2.get he
  refine ⟨⟨vs, v, h1.sq, hv⟩, fun y H' ⟨eh, hy⟩ => ?_⟩
  subst eh
  have := hy vs h1.sq
  rw [hv] at this
  cases this
  exact ⟨hg, .refl _ _, hs⟩
theorem rev_at {α : Type} {xs : List α} {i : Nat} (h : i < xs.length) : xs.reverse[i]? = xs[xs.length - 1 - i]? := by
  rw [List.getElem?_reverse h]
theorem walk_revL {ρ1 H1} {x : D} {a : Addr} {xs : List D} {g1 : G} {n : Nat} (hv : SimV K ρ1 B H1 x (.ref a)) (e : lstOf g1 x = some xs) (hn : n = xs.length) : Walk K kl B (Itv K a n) xs.reverse (fun g => lstOf g x = lstOf g1 x) ρ1 H1 := by
  subst hn
  intro B' ρ H g hb hx hg st
  obtain ⟨a', vs, ea, h1, h2⟩ := hg.lstR (hv.later hb hx) (st.trans e)
  cases ea
  refine ⟨fun i hi => (show _ ≤ i by simpa using hi), fun i d he => ?_⟩
  have hi : i < xs.length := by simpa using (List.getElem?_eq_some_iff.mp he).1
  rw [rev_at hi] at he
  obtain ⟨v, hv, hs⟩ := h2.get he
  refine ⟨⟨hi, vs, v, h1, hv⟩, fun y H' ⟨eh, hy⟩ => ?_⟩
  subst eh
  have := hy vs h1
  rw [hv] at this
  cases this
  exact ⟨hg, .refl _ _, hs⟩
theorem walk_revT {ρ1 H1} {a : Addr} {xs : List D} {n : Nat} (hv : SimV K ρ1 B H1 (.tup xs) (.ref a)) (hn : n = xs.length) : Walk K kl B (RT.ItvT K a n) xs.reverse (fun _ => True) ρ1 H1 := by
  subst hn
  intro B' ρ H g hb hx hg st
  obtain ⟨a', vs, ea, h1, h2⟩ := simV_tup.mp (hv.later hb hx)
  cases ea
  refine ⟨fun i hi => (show _ ≤ i by simpa using hi), fun i d he => ?_⟩
  have hi : i < xs.length := by simpa using (List.getElem?_eq_some_iff.mp he).1
  rw [rev_at hi] at he
  obtain ⟨v, hv, hs⟩ := h2.get he
  refine ⟨⟨hi, vs, v, h1.sq, hv⟩, fun y H' ⟨eh, hy⟩ => ?_⟩
  subst eh
  have := hy vs h1.sq
  rw [hv] at this
  cases this
  exact ⟨hg, .refl _ _, hs⟩
theorem walk_rng {ρ1 H1} {lo : Int} {n : Nat} : Walk K kl B (Itr lo n) ((List.range n).map fun i => .int (lo + (i : Nat))) (fun _ => True) ρ1 H1 := by
  intro B' ρ H g hb hx hg st
  refine ⟨fun i hi => (show _ ≤ i by simpa using hi), fun i d he => ?_⟩
  have hi : i < n := by simpa using (List.getElem?_eq_some_iff.mp he).1
  rw [List.getElem?_map, List.getElem?_range hi] at he
  cases he
  refine ⟨hi, fun y H' ⟨eh, hy⟩ => ?_⟩
  subst eh hy
  exact ⟨hg, .refl _ _, simV_int.mpr rfl⟩
/-- a new pair -/
theorem pair_new {d e : D} {x y : V} {T : Addr} (hg : SimG K kl ρ B H g) (hT : H T = none) (hx : SimV K ρ B H d x) (hy : SimV K ρ B H e y) :
    SimG K kl ρ B (upd H T (.tup [x, y])) g ∧ Ext ρ H ρ (upd H T (.tup [x, y])) ∧ SimV K ρ B (upd H T (.tup [x, y])) (.tup [d, e]) (.ref T) := by
  have ex : Ext ρ H ρ (upd H T (.tup [x, y])) := .fresh hT
  exact ⟨hg.fresh hT, ex, simV_tup.mpr ⟨T, [x, y], rfl, .new hg hT, simL_cons.mpr ⟨x, [y], rfl, SimV.ext ex _ _ hx, .one (SimV.ext ex _ _ hy)⟩⟩⟩
theorem walk_enum {ρ1 H1} {x : D} {a : Addr} {xs : List D} {g1 : G} (hv : SimV K ρ1 B H1 x (.ref a)) (e : lstOf g1 x = some xs) :
    Walk K kl B (Ite K a) ((List.range xs.length).zipWith (fun i d => .tup [.int (i : Nat), d]) xs) (fun g => lstOf g x = lstOf g1 x) ρ1 H1 := by
  intro B' ρ H g hb hx hg st
  obtain ⟨a', vs, ea, h1, h2⟩ := hg.lstR (hv.later hb hx) (st.trans e)
  cases ea
  refine ⟨fun i hi => ⟨vs, h1, by rw [← h2.len]; simpa using hi⟩, fun i d he => ?_⟩
  have hi : i < xs.length := by simpa using (List.getElem?_eq_some_iff.mp he).1
  rw [List.getElem?_zipWith, List.getElem?_range hi, List.getElem?_eq_getElem hi] at he
  cases he
  obtain ⟨v, hv, hs⟩ := h2.get (List.getElem?_eq_getElem hi)
  refine ⟨⟨vs, v, h1, hv⟩, fun y H' ⟨T, z, ey, hT, eh, hy⟩ => ?_⟩
  subst ey eh
  have := hy vs h1
  rw [hv] at this
  cases this
  exact pair_new hg hT (simV_int.mpr rfl) hs
theorem zip_at {xs ys : List D} {i : Nat} {d : D} (h : ((xs.zip ys).map fun p => D.tup [p.1, p.2])[i]? = some d) : ∃ a b, xs[i]? = some a ∧ ys[i]? = some b ∧ d = .tup [a, b] := by
  rw [List.getElem?_map] at h
  cases q : (xs.zip ys)[i]? with
  | none => rw [q] at h; cases h
  | some p =>
    rw [q] at h
    cases h
    obtain ⟨h1, h2⟩ := List.getElem?_zip_eq_some.mp q
    exact ⟨p.1, p.2, h1, h2, rfl⟩
theorem walk_zipL {ρ1 H1} {x y : D} {a b : Addr} {xs ys : List D} {g1 : G} (hv : SimV K ρ1 B H1 x (.ref a)) (hw : SimV K ρ1 B H1 y (.ref b)) (e : lstOf g1 x = some xs) (e2 : lstOf g1 y = some ys) :
    Walk K kl B (Itz K a b) ((xs.zip ys).map fun p => .tup [p.1, p.2]) (fun g => lstOf g x = lstOf g1 x ∧ lstOf g y = lstOf g1 y) ρ1 H1 := by
  intro B' ρ H g hb hx hg st
  obtain ⟨a', vs, ea, h1, h2⟩ := hg.lstR (hv.later hb hx) (st.1.trans e)
  cases ea
  obtain ⟨b', ws, ea, k1, k2⟩ := hg.lstR (hw.later hb hx) (st.2.trans e2)
  cases ea
  refine ⟨fun i hi => ⟨vs, ws, h1, k1, ?_⟩, fun i d he => ?_⟩
  · rw [← h2.len, ← k2.len]
    simp only [List.length_map, List.length_zip] at hi
    omega
  · obtain ⟨p, q, e3, e4, rfl⟩ := zip_at he
    obtain ⟨v, hv, hs⟩ := h2.get e3
    obtain ⟨w, hw, hs2⟩ := k2.get e4
    refine ⟨⟨vs, ws, v, w, h1, k1, hv, hw⟩, fun y H' ⟨T, z, z2, ey, hT, eh, hy, hy2⟩ => ?_⟩
    subst ey eh
    have := hy vs h1
    rw [hv] at this
    cases this
    have := hy2 ws k1
    rw [hw] at this
    cases this
    exact pair_new hg hT hs hs2
theorem walk_zipT {ρ1 H1} {a b : Addr} {xs ys : List D} (hv : SimV K ρ1 B H1 (.tup xs) (.ref a)) (hw : SimV K ρ1 B H1 (.tup ys) (.ref b)) :
    Walk K kl B (RZ.ItzT K a b) ((xs.zip ys).map fun p => .tup [p.1, p.2]) (fun _ => True) ρ1 H1 := by
  intro B' ρ H g hb hx hg st
  obtain ⟨a', vs, ea, h1, h2⟩ := simV_tup.mp (hv.later hb hx)
  cases ea
  obtain ⟨b', ws, ea, k1, k2⟩ := simV_tup.mp (hw.later hb hx)
  cases ea
  refine ⟨fun i hi => ⟨vs, ws, h1.sq, k1.sq, ?_⟩, fun i d he => ?_⟩
  · rw [← h2.len, ← k2.len]
    simp only [List.length_map, List.length_zip] at hi
    omega
  · obtain ⟨p, q, e3, e4, rfl⟩ := zip_at he
    obtain ⟨v, hv, hs⟩ := h2.get e3
    obtain ⟨w, hw, hs2⟩ := k2.get e4
    refine ⟨⟨vs, ws, v, w, h1.sq, k1.sq, hv, hw⟩, fun y H' ⟨T, z, z2, ey, hT, eh, hy, hy2⟩ => ?_⟩
    subst ey eh
    have := hy vs h1.sq
    rw [hv] at this
    cases this
    have := hy2 ws k1.sq
    rw [hw] at this
    cases this
    exact pair_new hg hT hs hs2
end
end Br

/-! Br, part I: walks and list comprehensions of the text. -/
namespace Br
open PySem PySem.Spec PyProof.Rows L2
section
variable (kl : Nat → Addr) (Φ : Phi) (GL : List (Str × D)) (K : PySem.W.Frag) (W : L2.WX)
def tI (k : IK) (its : List CE) : TI := fun σ H R => ∃ ρ B σd g, ∃ Rk : List D → List D → G → Prop, ∃ rx, Rel K kl ρ B H σd g σ ∧ wpEs GL Φ its σd g (fun ds g1 => match items g1 k ds with
    | some xs => rngOk k ds ∧ Rk ds xs g1
    | none => False) rx ∧
  (∀ ds xs g' ρ' H' J, items g' k ds = some xs → Rk ds xs g' → Ext ρ H ρ' H' → SimG K kl ρ' B H' g' → Walk K kl B J xs (steadyAt g' k ds) ρ' H' → R J H') ∧ PostX K kl rx ρ B H W σ
/-- a test -/
def tBo (c : CE) : TT := fun σ H Q => ∃ ρ B σd g, ∃ R : Bool → G → Prop, ∃ rx, Rel K kl ρ B H σd g σ ∧ wpE GL Φ c σd g (fun d g1 => isBl d fun b => R b g1) rx ∧
  (∀ b g' ρ' H', R b g' → Ext ρ H ρ' H' → SimG K kl ρ' B H' g' → Q b H') ∧ PostX K kl rx ρ B H W σ
def tTs (cs : List CE) : TT := fun σ H Q => ∃ ρ B σd g, ∃ R : Bool → G → Prop, ∃ rx, Rel K kl ρ B H σd g σ ∧ wpTst GL Φ cs σd g R rx ∧
  (∀ b g' ρ' H', R b g' → Ext ρ H ρ' H' → SimG K kl ρ' B H' g' → Q b H') ∧ PostX K kl rx ρ B H W σ
end
section
variable {kl : Nat → Addr} {Φ : Phi} {GL : List (Str × D)} {T : List Df} {CL : List Cd} {lv : Nat} {X : Cx} {N : List Str} {sc : Scope} {fn : Str → Bool} {W : L2.WX}
theorem piI {tg e t t'} (h : PI X tg e t) (i : ∀ σ H R, t' σ H R → t σ H R) : PI X tg e t' := ⟨fun pins s σ H R I hw => h.run pins s σ H R I (i _ _ _ hw)⟩
theorem isBl_iff {d : D} {K : Bool → Prop} : isBl d K ↔ ∃ b, d = .bl b ∧ K b := by
  constructor
  · intro h
    unfold isBl at h
    split at h
    · exact ⟨_, rfl, h⟩
    · exact h.elim
  · rintro ⟨b, rfl, h⟩
    exact h
/-- a walk of what an expression stands for -/
def iSeq (K : PySem.W.Frag) (tl : TE) : TI := fun σ H R => tl σ H fun x H1 => ∃ a, x = .ref a ∧ (((∃ xs, SqL K H1 a xs) ∧ R (Itl K a) H1) ∨ ((∃ xs, SqT K H1 a xs) ∧ R (Itt K a) H1))
theorem pi_seq {tg l : Expr} {tl : TE} (hl : PE X l tl) : PI X tg l (iSeq X.K tl) := by
  refine ⟨fun pins s σ H R I h => ?_⟩
  refine thn (hl.run pins s σ H _ I h) fun v s1 ⟨x, H1, I1, r1, q1⟩ => ?_
  obtain ⟨a, e, q⟩ := q1
  subst e
  cases r1
  have lay : ∀ o, Inv X pins σ H1 { s1 with heap := s1.heap.push o } := fun o => I1.kept (t' := s1.toks) fun b o e => Heap.get?_push_of_some _ e
  have own : ∀ b, b ∈ [s1.heap.objs.size] → FpOk X pins H1 b := fun b hb => by
    have e : b = s1.heap.objs.size := by simpa using hb
    subst e
    exact I1.fpOk (Nat.le_refl _) (I1.hok.fresh (Nat.le_refl _))
  rcases q with ⟨⟨xs, hq⟩, q⟩ | ⟨⟨xs, hq⟩, q⟩
  · obtain ⟨its, _, p, _⟩ := I1.list hq
    exact wpAny_pyIter_list p.isList ⟨_, _, _, _, H1, rfl, lay _, turn_list a _, ⟨_, Heap.get?_push_size _ rfl, rfl, rfl⟩, own, q⟩
  · obtain ⟨its, _, p, _⟩ := I1.tuple hq
    exact wpAny_pyIter_tuple (show s1.heap.IsTuple a its.toArray from p) ⟨_, _, _, _, H1, rfl, lay _, turn_tuple a _, ⟨_, Heap.get?_push_size _ rfl, rfl, rfl⟩, own, q⟩
theorem items_rng1 {g : G} {ds xs : List D} (h : items g .rng1 ds = some xs) (hr : rngOk .rng1 ds) : ∃ n : Int, ds = [.int n] ∧ n < 2 ^ 62 ∧ -(2 ^ 62) ≤ n ∧ xs = (List.range n.toNat).map fun i => .int (0 + (i : Nat)) := by
  match ds, h, hr with
  | [.int n], h, hr =>
    simp only [items, Option.some.injEq] at h
    subst h
    exact ⟨n, rfl, hr.1, hr.2, by simp only [Int.zero_add]⟩
theorem items_rng2 {g : G} {ds xs : List D} (h : items g .rng2 ds = some xs) (hr : rngOk .rng2 ds) : ∃ a b : Int, ds = [.int a, .int b] ∧ (a < 2 ^ 62 ∧ -(2 ^ 62) ≤ a ∧ b < 2 ^ 62 ∧ -(2 ^ 62) ≤ b) ∧ xs = (List.range (b - a).toNat).map fun i => .int (a + (i : Nat)) := by
  match ds, h, hr with
  | [.int a, .int b], h, hr =>
    simp only [items, Option.some.injEq] at h
    subst h
    exact ⟨a, b, rfl, hr, rfl⟩
theorem items_revd {g : G} {ds xs : List D} (h : items g .revd ds = some xs) : ∃ x ys, ds = [x] ∧ seqOf g x = some ys ∧ xs = ys.reverse := by
  match ds, h with
  | [x], h =>
    simp only [items] at h
    cases q : seqOf g x with
    | none => rw [q] at h; cases h
    | some ys =>
      rw [q] at h
      cases h
      exact ⟨x, ys, rfl, q, rfl⟩
theorem items_enum {g : G} {ds xs : List D} (h : items g .enum ds = some xs) : ∃ x ys, ds = [x] ∧ lstOf g x = some ys ∧ xs = (List.range ys.length).zipWith (fun i d => .tup [.int (i : Nat), d]) ys := by
  match ds, h with
  | [x], h =>
    simp only [items] at h
    cases q : lstOf g x with
    | none => rw [q] at h; cases h
    | some ys =>
      rw [q] at h
      cases h
      exact ⟨x, ys, rfl, q, rfl⟩
theorem items_zip {g : G} {ds xs : List D} (h : items g .zip ds = some xs) : ∃ x y as bs, ds = [x, y] ∧ xs = ((as.zip bs).map fun p => .tup [p.1, p.2]) ∧ ((x = .tup as ∧ y = .tup bs) ∨ (lstOf g x = some as ∧ lstOf g y = some bs)) := by
  match ds, h with
  | [x, y], h =>
    simp only [items] at h
    split at h
    · cases h
      exact ⟨_, _, _, _, rfl, rfl, .inl ⟨rfl, rfl⟩⟩
    · split at h
      · rename_i h1 h2
        cases h
        exact ⟨x, y, _, _, rfl, rfl, .inr ⟨h1, h2⟩⟩
      · cases h
theorem seq_lst {g g' : G} {d : D} {xs : List D} (he : lstOf g d = some xs) (st : seqOf g' d = seqOf g d) : lstOf g' d = lstOf g d := by
  cases d with
  | tup _ => cases he
  | _ => exact st
/-- what a walk is over -/
theorem pi_of (hX : XOk kl Φ GL T CL lv X N sc fn) {k : IK} {tg it : Expr} {es : List Expr} {cs : List CE} (h : shapeI sc k it = some es) (hp : pairT k tg = true) (ha : AllE (fun c e => PE X e (tE kl Φ GL X.K W c)) cs es) (hn : es.all noStar = true) :
    PI X tg it (tI kl Φ GL X.K W k cs) := by
  cases k with
  | seq =>
    have h : some [it] = some es := by
      unfold shapeI at h
      simp only at h
      split at h
      · cases h
      · exact h
    cases h
    obtain ⟨c, rfl, hc⟩ := ha.one
    refine piI (pi_seq hc) fun σ H R ⟨ρ, B, σd, g, Rk, rx, rel, hw, q, px⟩ => ?_
    refine ⟨ρ, B, σd, g, _, rx, rel, hw, fun d g' ρ' H' v r x hg hv => ?_, px⟩
    change (match items g' .seq [d] with
      | some xs => rngOk .seq [d] ∧ Rk [d] xs g'
      | none => False) at r
    split at r
    · rename_i xs hi
      have hi' : seqOf g' d = some xs := hi
      obtain ⟨a, vs, rfl, hs, hl⟩ := hg.seqR hv hi'
      refine ⟨a, rfl, ?_⟩
      rcases hs with ⟨hs, he⟩ | ⟨hs, rfl⟩
      · refine .inl ⟨⟨vs, hs⟩, q [d] xs g' ρ' H' _ hi r.2 x hg fun B' ρ2 H2 g2 hb x2 hg2 st => walk_lst hv he B' ρ2 H2 g2 hb x2 hg2 (seq_lst he st)⟩
      · exact .inr ⟨⟨vs, hs⟩, q [.tup xs] xs g' ρ' H' _ hi r.2 x hg fun B' ρ2 H2 g2 hb x2 hg2 st => walk_tup hv B' ρ2 H2 g2 hb x2 hg2 trivial⟩
    · exact r.elim
  | rng1 =>
    unfold shapeI at h
    simp only at h
    split at h
    · split at h
      · rename_i h1
        obtain ⟨rfl, h1⟩ := h1
        cases h
        obtain ⟨g1, g2, g3⟩ := gl_of hX h1
        refine piI (pi_range1 g1 (hX.blt _ (by decide +kernel)) (pa_of ha hn) (by simp only [List.all_cons, Bool.and_eq_true] at hn; rw [star_of hn.1]; rfl)) fun σ H R ⟨ρ, B, σd, g, Rk, rx, rel, hw, q, px⟩ => ?_
        refine ⟨ρ, B, σd, g, _, rx, rel, hw, fun ds g' ρ' H' vs r l x hg hv => ?_, px⟩
        split at r
        · rename_i xs hi
          obtain ⟨n, rfl, h2, h3, rfl⟩ := items_rng1 hi r.1
          obtain ⟨v, w, rfl, hv1, hv2⟩ := simL_cons.mp hv
          rw [simV_int] at hv1
          rw [simL_nil] at hv2
          subst hv1 hv2
          exact ⟨n, rfl, h3, h2, q _ _ g' ρ' H' _ hi r.2 x hg fun B' ρ2 H2 g2 hb x2 hg2 _ => walk_rng (B := B) B' ρ2 H2 g2 hb x2 hg2 trivial⟩
        · exact r.elim
      · cases h
    · cases h
  | rng2 =>
    unfold shapeI at h
    simp only at h
    split at h
    · split at h
      · rename_i h1
        obtain ⟨rfl, h1⟩ := h1
        cases h
        obtain ⟨g1, g2, g3⟩ := gl_of hX h1
        have hn2 := hn
        simp only [List.all_cons, Bool.and_eq_true] at hn2
        refine piI (pi_range2 g1 (hX.blt _ (by decide +kernel)) (pa_of ha hn) (by rw [star_of hn2.1, star_of hn2.2.1]; rfl) (by rw [star_of hn2.2.1]; rfl)) fun σ H R ⟨ρ, B, σd, g, Rk, rx, rel, hw, q, px⟩ => ?_
        refine ⟨ρ, B, σd, g, _, rx, rel, hw, fun ds g' ρ' H' vs r l x hg hv => ?_, px⟩
        split at r
        · rename_i xs hi
          obtain ⟨a, b, rfl, h2, rfl⟩ := items_rng2 hi r.1
          obtain ⟨v, w, rfl, hv1, hv2⟩ := simL_cons.mp hv
          obtain ⟨v2, w2, rfl, hv2, hv3⟩ := simL_cons.mp hv2
          rw [simV_int] at hv1 hv2
          rw [simL_nil] at hv3
          subst hv1 hv2 hv3
          exact ⟨a, b, rfl, ⟨h2.2.1, h2.1, h2.2.2.2, h2.2.2.1⟩, q _ _ g' ρ' H' _ hi r.2 x hg fun B' ρ2 H2 g2 hb x2 hg2 _ => walk_rng (B := B) B' ρ2 H2 g2 hb x2 hg2 trivial⟩
        · exact r.elim
      · cases h
    · cases h
  | revd =>
    unfold shapeI at h
    simp only at h
    split at h
    · split at h
      · rename_i h1
        obtain ⟨rfl, h1⟩ := h1
        cases h
        obtain ⟨g1, g2, g3⟩ := gl_of hX h1
        obtain ⟨c, rfl, hc⟩ := ha.one
        refine piI (RT.pi_revA g1 (hX.blt _ (by decide +kernel)) hc (by simp only [List.all_cons, Bool.and_eq_true] at hn; rw [star_of hn.1])) fun σ H R ⟨ρ, B, σd, g, Rk, rx, rel, hw, q, px⟩ => ?_
        refine ⟨ρ, B, σd, g, _, rx, rel, hw, fun d g' ρ' H' v r x hg hv => ?_, px⟩
        change (match items g' .revd [d] with
          | some xs => rngOk .revd [d] ∧ Rk [d] xs g'
          | none => False) at r
        split at r
        · rename_i xs hi
          obtain ⟨d', ys, e1, h2, rfl⟩ := items_revd hi
          cases e1
          obtain ⟨a, vs, rfl, hs, hl⟩ := hg.seqR hv h2
          refine ⟨a, vs, rfl, ?_⟩
          rcases hs with ⟨hs, he⟩ | ⟨hs, rfl⟩
          · exact .inl ⟨hs, q [d] _ g' ρ' H' _ hi r.2 x hg fun B' ρ2 H2 g2 hb x2 hg2 st => walk_revL hv he hl.len.symm B' ρ2 H2 g2 hb x2 hg2 (seq_lst he st)⟩
          · exact .inr ⟨hs, q _ _ g' ρ' H' _ hi r.2 x hg fun B' ρ2 H2 g2 hb x2 hg2 st => walk_revT hv hl.len.symm B' ρ2 H2 g2 hb x2 hg2 trivial⟩
        · exact r.elim
      · cases h
    · cases h
  | enum =>
    unfold shapeI at h
    simp only at h
    split at h
    · split at h
      · rename_i h1
        obtain ⟨rfl, h1⟩ := h1
        cases h
        obtain ⟨g1, g2, g3⟩ := gl_of hX h1
        cases tg with
        | Tuple elts kk tpos =>
          refine piI (pi_enum g1 (hX.blt _ (by decide +kernel)) (pa_of ha hn) (by simp only [List.all_cons, Bool.and_eq_true] at hn; rw [star_of hn.1]; rfl)) fun σ H R ⟨ρ, B, σd, g, Rk, rx, rel, hw, q, px⟩ => ?_
          refine ⟨ρ, B, σd, g, _, rx, rel, hw, fun ds g' ρ' H' vs r l x hg hv => ?_, px⟩
          split at r
          · rename_i xs hi
            obtain ⟨d, ys, rfl, h2, rfl⟩ := items_enum hi
            obtain ⟨v, w, rfl, hv1, hv2⟩ := simL_cons.mp hv
            rw [simL_nil] at hv2
            subst hv2
            obtain ⟨a, vs, rfl, hs, hl⟩ := hg.lstR hv1 h2
            exact ⟨a, vs, rfl, hs, q _ _ g' ρ' H' _ hi r.2 x hg fun B' ρ2 H2 g2 hb x2 hg2 st => walk_enum hv1 h2 B' ρ2 H2 g2 hb x2 hg2 (seq_lst h2 st)⟩
          · exact r.elim
        | _ => cases hp
      · cases h
    · cases h
  | zip =>
    unfold shapeI at h
    simp only at h
    split at h
    · split at h
      · rename_i h1
        obtain ⟨rfl, h1⟩ := h1
        cases h
        obtain ⟨g1, g2, g3⟩ := gl_of hX h1
        have hn2 := hn
        simp only [List.all_cons, Bool.and_eq_true] at hn2
        cases tg with
        | Tuple elts kk tpos =>
          refine piI (RZ.pi_zipA g1 (hX.blt _ (by decide +kernel)) (pa_of ha hn) (by rw [star_of hn2.1]) (by rw [star_of hn2.2.1]; rfl)) fun σ H R ⟨ρ, B, σd, g, Rk, rx, rel, hw, q, px⟩ => ?_
          refine ⟨ρ, B, σd, g, _, rx, rel, hw, fun ds g' ρ' H' vs r l x hg hv => ?_, px⟩
          split at r
          · rename_i xs hi
            obtain ⟨d, e, as, bs, rfl, rfl, h2⟩ := items_zip hi
            obtain ⟨v, w, rfl, hv1, hv0⟩ := simL_cons.mp hv
            obtain ⟨v2, w2, rfl, hv2, hv3⟩ := simL_cons.mp hv0
            rw [simL_nil] at hv3
            subst hv3
            rcases h2 with ⟨rfl, rfl⟩ | ⟨h2, h3⟩
            · obtain ⟨a, vs, rfl, hs, hl⟩ := simV_tup.mp hv1
              obtain ⟨b, ws, rfl, ks, kl'⟩ := simV_tup.mp hv2
              exact ⟨a, b, vs, ws, rfl, .inr ⟨hs.sq, ks.sq, q _ _ g' ρ' H' _ hi r.2 x hg fun B' ρ2 H2 g2 hb x2 hg2 st => walk_zipT hv1 hv2 B' ρ2 H2 g2 hb x2 hg2 trivial⟩⟩
            · obtain ⟨a, vs, rfl, hs, hl⟩ := hg.lstR hv1 h2
              obtain ⟨b, ws, rfl, ks, kl'⟩ := hg.lstR hv2 h3
              exact ⟨a, b, vs, ws, rfl, .inl ⟨hs, ks, q _ _ g' ρ' H' _ hi r.2 x hg fun B' ρ2 H2 g2 hb x2 hg2 st => walk_zipL hv1 hv2 h2 h3 B' ρ2 H2 g2 hb x2 hg2 ⟨seq_lst h2 st.1, seq_lst h3 st.2⟩⟩⟩
          · exact r.elim
        | _ => cases hp
      · cases h
    · cases h

/-- a list comprehension's turns -/
theorem comp_core {t : Tg} {own : List (Str × Nat)} {tst : List CE} {ce : CE} (hsl : ∀ i ∈ slotsT t, i ∈ own.map (·.2)) {J : It} {xs : List D} {st : G → Prop} {R' : List D → G → Prop} {Qf : Hp → Prop} {σ : L2.St} {σd : S} {B : Addr → Prop} {ρ1 : Rho} {H1 : Hp} {g1 : G}
    (sl1 : Sl X.K ρ1 B H1 σd σ) (hg1 : SimG X.K kl ρ1 B H1 g1) (hW : Walk X.K kl B J xs st ρ1 H1) (hR : compL (stpC GL Φ t own tst ce σd) st R' xs [] g1) (D : Addr) (hD : H1 D = none)
    (hfin : ∀ ρ2 H2 g2 acc av, R' acc g2 → Ext ρ1 H1 ρ2 H2 → SimG X.K kl ρ2 (fun a => B a ∨ a = D) H2 g2 → H2 D = some (.lst av) → SimL X.K ρ2 (fun a => B a ∨ a = D) H2 acc av → Qf H2) :
    ∃ W : Nat → Nat → Hp → Prop, (∃ m, W 0 m (upd H1 D (.lst []))) ∧ ∀ i m H, W i m H → (J.stop i H ∧ Qf H) ∨
      (J.go i H ∧ ∃ Nx : Hp → Prop, (∀ H', Nx H' → ∃ m', m' < m ∧ W (i + 1) m' H') ∧ ∀ x H', J.yld i H x H' → tTg kl Φ GL X.K t x (L2.wipe σ (own.map (·.2))) H' fun σ2 H2 => L2.wipe σ2 (own.map (·.2)) = L2.wipe σ (own.map (·.2)) ∧ tTs kl Φ GL X.K (fun _ _ _ _ => False) tst σ2 H2 fun b H3 =>
        if b = true then tE kl Φ GL X.K (fun _ _ _ _ => False) ce σ2 H3 fun y H4 => ∃ acc, H4 D = some (.lst acc) ∧ acc.length < sizeLine ∧ Nx (upd H4 D (.lst (acc ++ [y]))) else Nx H3) := by
  let B' : Addr → Prop := fun a => B a ∨ a = D
  have hB : ∀ a, B' a → B a ∨ H1 a = none := fun a z => z.elim .inl fun z => .inr (z ▸ hD)
  generalize hst : stpC GL Φ t own tst ce σd = stp at hR
  refine ⟨fun i m H2 => i + m = xs.length ∧ ∃ ρ2 g2 acc av, Ext ρ1 H1 ρ2 H2 ∧ SimG X.K kl ρ2 B' H2 g2 ∧ H2 D = some (.lst av) ∧ SimL X.K ρ2 B' H2 acc av ∧ compL stp st R' (xs.drop i) acc g2,
    ⟨xs.length, by omega, ρ1, g1, [], [], .fresh hD, hg1.hide hD, upd_same, simL_nil.mpr rfl, hR⟩, fun i m H2 ⟨him, ρ2, g2, acc, av, x2, hg2, hD2, hac, hc⟩ => ?_⟩
  have nD : some D ∉ ρ2 := (hg2.hid D (.inr rfl)).2
  cases hx : xs.drop i with
  | nil =>
    rw [hx] at hc
    unfold compL at hc
    have hle : xs.length ≤ i := List.drop_eq_nil_iff.mp hx
    exact .inl ⟨(hW B' ρ2 H2 g2 hB x2 hg2 hc.1).1 i hle, hfin ρ2 H2 g2 acc av hc.2 x2 hg2 hD2 hac⟩
  | cons d rest =>
    rw [hx] at hc
    unfold compL at hc
    have hil : i < xs.length := by
      apply Nat.lt_of_not_le
      intro z
      rw [List.drop_eq_nil_iff.mpr z] at hx
      cases hx
    have hd : xs[i]? = some d := by
      have := List.getElem?_drop (xs := xs) (i := i) (j := 0)
      rw [hx] at this
      simpa using this.symm
    have hrest : xs.drop (i + 1) = rest := by
      rw [← List.drop_drop, hx]
      rfl
    obtain ⟨hgo, hy⟩ := (hW B' ρ2 H2 g2 hB x2 hg2 hc.1).2 i d hd
    refine .inr ⟨hgo, fun H3 => ∃ ρ3 g3 acc av, Ext ρ1 H1 ρ3 H3 ∧ SimG X.K kl ρ3 B' H3 g3 ∧ H3 D = some (.lst av) ∧ SimL X.K ρ3 B' H3 acc av ∧ compL stp st R' rest acc g3,
      fun H3 ⟨ρ3, g3, acc3, av3, z⟩ => ⟨m - 1, by omega, by omega, ρ3, g3, acc3, av3, by rw [hrest]; exact z⟩, fun y H3 hyl => ?_⟩
    obtain ⟨hg3, x3, hv3⟩ := hy y H3 hyl
    have hc2 := hc.2
    rw [← hst] at hc2
    unfold stpC at hc2
    have sl : Rel X.K kl ρ2 B' H3 (wipe σd (own.map (·.2))) g2 (L2.wipe σ (own.map (·.2))) :=
      ⟨hg3, Sl.wipe (sl1.mp (.toB hB) |>.ext (x2.trans x3)) _⟩
    refine ⟨ρ2, B', _, g2, d, _, _, sl, hv3, hc2, fun σd4 g4 ρ4 H4 σ4 r4 x4 rel4 hwp => ⟨(hwp _ hsl).trans (wipe_idem σ _), ?_⟩, fun _ _ z => z⟩
    refine ⟨ρ4, B', σd4, g4, _, _, rel4, r4, fun b g5 ρ5 H5 r5 x5 hg5 => ?_, fun _ _ _ _ z => z.elim⟩
    have hD3 : H3 D = some (.lst av) := x3.keep _ _ hD2 nD
    have hD4 : H4 D = some (.lst av) := x4.keep _ _ hD3 nD
    have nD4 : some D ∉ ρ4 := (rel4.g.hid D (.inr rfl)).2
    have hD5 : H5 D = some (.lst av) := x5.keep _ _ hD4 nD4
    have x25 : Ext ρ2 H2 ρ5 H5 := x3.trans (x4.trans x5)
    cases b with
    | false =>
      simp only [Bool.false_eq_true, if_false] at r5 ⊢
      change compL (stpC GL Φ t own tst ce σd) _ _ _ _ _ at r5
      rw [hst] at r5
      exact ⟨ρ5, g5, acc, av, x2.trans x25, hg5, hD5, SimL.ext x25 _ _ hac, r5⟩
    | true =>
      simp only [if_true] at r5 ⊢
      refine ⟨ρ5, B', σd4, g5, _, _, rel4.ext x5 hg5, r5, fun y g6 ρ6 H6 v r6 x6 hg6 hv6 => ?_, fun _ _ _ _ z => z.elim⟩
      have nD5 : some D ∉ ρ5 := (hg5.hid D (.inr rfl)).2
      have hD6 : H6 D = some (.lst av) := x6.keep _ _ hD5 nD5
      obtain ⟨r6, r7⟩ := r6
      change compL (stpC GL Φ t own tst ce σd) _ _ _ _ _ at r7
      rw [hst] at r7
      have x26 := x25.trans x6
      have hal : acc.length = av.length := hac.len
      refine ⟨av, hD6, by rw [← hal, sizeLine_eq]; exact r6, ρ6, g6, acc ++ [y], av ++ [v], (x2.trans x26).hset hD, hg6.hset (.inr rfl), upd_same, ?_, r7⟩
      exact SimL.mp (.hset (.inr rfl)) _ _ ((SimL.ext x26 _ _ hac).append (.one hv6))
/-- as a value, as a cell -/
theorem comp_lc {t : Tg} {own : List (Str × Nat)} {k : IK} {its tst : List CE} {ce : CE} (hsl : ∀ i ∈ slotsT t, i ∈ own.map (·.2)) (σ : L2.St) (H : Hp) (Q : VK) (z : tE kl Φ GL X.K W (.comp t own k its tst ce) σ H Q) :
    tLc (tI kl Φ GL X.K W k its) (tTg kl Φ GL X.K t) (tTs kl Φ GL X.K (fun _ _ _ _ => False) tst) (tE kl Φ GL X.K (fun _ _ _ _ => False) ce) (own.map (·.2)) σ H Q := by
  obtain ⟨ρ, B, σd, g, R, rx, rel, hw, q, px⟩ := z
  rw [wpE_comp] at hw
  refine ⟨ρ, B, σd, g, fun ds xs g1 => compL (stpC GL Φ t own tst ce σd) (steadyAt g1 k ds) (fun acc g' => R (.tl acc) g') xs [] g1, rx, rel, hw, fun ds xs g1 ρ1 H1 J hit hR x hg1 hW D hD => ?_, px⟩
  have nB : ¬ B D := fun z => (hg1.hid D z).1 hD
  refine comp_core hsl (rel.s.ext x) hg1 hW hR D hD fun ρ2 H2 g2 acc av r x2 hg2 hD2 hac => ?_
  exact q _ g2 ρ2 H2 _ r (x.trans x2) (hg2.unhide fun a z => .inl z) (simV_tl.mpr ⟨D, av, rfl, .inl ⟨.of hD2, (hg2.hid D (.inr rfl)).2, nB⟩, SimL.mp (.toB fun a z => .inl (.inl z)) _ _ hac⟩)
theorem comp_lcM {t : Tg} {own : List (Str × Nat)} {k : IK} {its tst : List CE} {ce : CE} (hsl : ∀ i ∈ slotsT t, i ∈ own.map (·.2)) (σ : L2.St) (H : Hp) (Q : VK) (z : tE kl Φ GL X.K W (.mat (.comp t own k its tst ce)) σ H Q) :
    tLc (tI kl Φ GL X.K W k its) (tTg kl Φ GL X.K t) (tTs kl Φ GL X.K (fun _ _ _ _ => False) tst) (tE kl Φ GL X.K (fun _ _ _ _ => False) ce) (own.map (·.2)) σ H Q := by
  obtain ⟨ρ, B, σd, g, R, rx, rel, hw, q, px⟩ := z
  have hw : wpE GL Φ (.comp t own k its tst ce) σd g (fun d g1 => match d with
    | .tl ds => R (.ref g1.length) (g1 ++ [.lst ds])
    | _ => False) rx := hw
  rw [wpE_comp] at hw
  refine ⟨ρ, B, σd, g, fun ds xs g1 => compL (stpC GL Φ t own tst ce σd) (steadyAt g1 k ds) (fun acc g1 => R (.ref g1.length) (g1 ++ [.lst acc])) xs [] g1, rx, rel, hw, fun ds xs g1 ρ1 H1 J hit hR x hg1 hW D hD => ?_, px⟩
  have nB : ¬ B D := fun z => (hg1.hid D z).1 hD
  refine comp_core hsl (rel.s.ext x) hg1 hW hR D hD fun ρ2 H2 g2 acc av r x2 hg2 hD2 hac => ?_
  exact q _ _ _ H2 _ r (x.trans (x2.adopt hD)) (hg2.adopt (fun a z => ⟨.inl z, fun e => nB (e ▸ z)⟩) (.inr rfl) hD2 hac) (simV_ref.mpr ⟨by simp [hg2.len], fun a e => by rw [← hg2.len] at e; simp at e; rw [e]⟩)
theorem kv_sim {K ρ B H} {d : D} {k : Key} (h : keyD d = some k) : SimV K ρ B H d (kV k) := by
  cases d with
  | int i => cases h; exact simV_int.mpr rfl
  | str s => cases h; exact simV_str.mpr rfl
  | _ => cases h
theorem walk_keys {K : PySem.W.Frag} {ρ1 ρ0 : Rho} {B B0 : Addr → Prop} {H1 H0 : Hp} {a : Addr} {o : Obj} {kvs : List (D × D)} {ks : List (Key × V)} (h : H1 a = some (.frz o (.dK ks))) (hk : SimK K ρ0 B0 H0 kvs ks) : Walk K kl B (Itk a o ks) (kvs.map (·.1)) (fun _ => True) ρ1 H1 := by
  intro B' ρ H g hb hx hg st
  have e := hx.frz _ _ _ h
  have hl : kvs.length = ks.length := Paired.length hk
  refine ⟨fun i hi => ⟨e, by rw [← hl]; simpa using hi⟩, fun i d he => ?_⟩
  have hi : i < kvs.length := by simpa using (List.getElem?_eq_some_iff.mp he).1
  refine ⟨⟨e, by omega⟩, fun y H' ⟨eh, k, v, e2, ey⟩ => ?_⟩
  subst eh ey
  refine ⟨hg, .refl _ _, ?_⟩
  rw [List.getElem?_map, List.getElem?_eq_getElem hi] at he
  cases he
  have : ∀ {l₁ : List (D × D)} {l₂ : List (Key × V)} {i : Nat} {p q}, SimK K ρ0 B0 H0 l₁ l₂ → l₁[i]? = some p → l₂[i]? = some q → keyD p.1 = some q.1 := by
    intro l₁ l₂ i p q hp
    induction hp generalizing i with
    | nil => intro e1 _; simp at e1
    | cons r _ ih =>
      intro e1 e2
      cases i with
      | zero =>
        simp at e1 e2
        subst e1 e2
        exact r.1
      | succ i => exact ih (by simpa using e1) (by simpa using e2)
  exact kv_sim (this hk (List.getElem?_eq_getElem hi) e2)
/-- over a dict's keys: the dict is locked meanwhile -/
theorem comp_lcK {t : Tg} {own : List (Str × Nat)} {i : Nat} {tst : List CE} {ce : CE} (hsl : ∀ i ∈ slotsT t, i ∈ own.map (·.2)) (σ : L2.St) (H : Hp) (Q : VK) (z : tE kl Φ GL X.K W (.compK t own i tst ce) σ H Q) :
    tLockE (tLc (iKeys (tVar i)) (tTg kl Φ GL X.K t) (tTs kl Φ GL X.K (fun _ _ _ _ => False) tst) (tE kl Φ GL X.K (fun _ _ _ _ => False) ce) (own.map (·.2))) σ H Q := by
  obtain ⟨ρ, B, σd, g, R, rx, rel, hw, q, px⟩ := z
  rw [wpE_compK] at hw
  split at hw
  · rename_i n hs
    split at hw
    · rename_i kvs hc
      obtain ⟨v, hv, sv⟩ := rel.s.at_ i _ hs
      obtain ⟨a, ks, rfl, hn, ha, hk⟩ := rel.g.dct sv hc
      refine ⟨a, .dK ks, ha, trivial, fun od => ?_⟩
      refine ⟨_, hv, a, od, rfl, .inl ⟨ks, upd_same, fun D hD => ?_⟩⟩
      have hm := mem_set_live hn
      have nfa := nfK ha
      have nBa : ¬ B a := fun z => (rel.g.hid a z).2 hm
      have xl : Ext ρ H ρ (upd H a (.frz od (.dK ks))) := .write hm nfa
      have hg1 : SimG X.K kl ρ B (upd H a (.frz od (.dK ks))) (g.set n (.lkd kvs)) := rel.g.write hn nfa ⟨a, od, ks, rfl, upd_same, hk.ext xl⟩
      have hDa : D ≠ a := fun e => by rw [e, upd_same] at hD; cases hD
      have hD0 : H D = none := by rw [upd_ne hDa] at hD; exact hD
      have nB : ¬ B D := fun z => (hg1.hid D z).1 hD
      refine comp_core hsl (rel.s.ext xl) hg1 (walk_keys upd_same hk) hw D hD fun ρ2 H2 g2 acc av r x2 hg2 hD2 hac => ?_
      have ha2 : H2 a = some (.frz od (.dK ks)) := x2.frz _ _ _ upd_same
      refine ⟨ha2, ?_⟩
      have hn2 : ρ2[n]? = some none ∨ ρ2[n]? = some (some a) := by
        obtain ⟨y, e1, _⟩ := hg2.cell n _ r.1
        cases y with
        | none => exact .inl e1
        | some b =>
          have := x2.old n b (by rw [rel.g.len]; exact (List.getElem?_eq_some_iff.mp hc).1) e1
          rw [hn] at this
          cases this
          exact .inr e1
      have hg3 : SimG X.K kl ρ2 B H2 g2 := hg2.unhide fun a z => .inl z
      have hg4 := hg3.unlock hn2 ha2 r.1 nBa
      have nD : some D ∉ ρ2 := (hg2.hid D (.inr rfl)).2
      obtain ⟨y, e1, a', o', ks', ey, e2, _⟩ := hg2.cell n _ r.1
      subst ey
      have hn3 : ρ2[n]? = some (some a) := hn2.resolve_left fun z => by rw [e1] at z; cases z
      have hm2 : some a ∈ ρ2 := mem_set_live hn3
      have x3 : Ext ρ H ρ2 (upd H2 a (.dK ks)) := ⟨x2.len, x2.old, fun b m => (x2.new b m).imp id fun z => by
          by_cases eb : b = a
          · subst eb
            rw [upd_same] at z
            cases z
          · rw [upd_ne eb] at z
            exact z, fun b u e hb => by
          have eb : b ≠ a := fun z => hb (z ▸ hm)
          rw [upd_ne eb]
          exact x2.keep b u (by rw [upd_ne eb]; exact e) hb, fun b o u e => by
          have eb : b ≠ a := fun z => nfa o u (z ▸ e)
          rw [upd_ne eb]
          exact x2.frz b o u (by rw [upd_ne eb]; exact e)⟩
      have m : Mp X.K ρ2 (fun a => B a ∨ a = D) H2 ρ2 B (upd H2 a (.dK ks)) := ⟨Nat.le_refl _, fun _ _ _ h => h, fun b vs r => by
        rcases r with ⟨h1, h2, h3⟩ | r
        · have eb : b ≠ a := fun z => h2 (z ▸ hm2)
          exact .inl ⟨by rw [upd_ne eb]; exact h1, h2, fun z => h3 (.inl z)⟩
        · exact .inr r, fun b vs r => by
        rcases r with ⟨h1, h2, h3⟩ | r
        · have eb : b ≠ a := fun z => h2 (z ▸ hm2)
          refine .inl ⟨?_, h2, fun z => h3 (.inl z)⟩
          rcases h1 with h1 | ⟨o, h1⟩
          · exact .inl (by rw [upd_ne eb]; exact h1)
          · exact .inr ⟨o, by rw [upd_ne eb]; exact h1⟩
        · exact .inr r⟩
      exact q _ _ ρ2 _ _ r.2 x3 hg4 (simV_tl.mpr ⟨D, av, rfl, .inl ⟨.of (by rw [upd_ne hDa]; exact hD2), nD, nB⟩, SimL.mp m _ _ hac⟩)
    · exact hw.elim
  · exact hw.elim
theorem comp_pe (hX : XOk kl Φ GL T CL lv X N sc fn) {elt tg it : Expr} {ifs : List Expr} {scope : Scope} {own : List (Str × Nat)} {pos : Pos} {k : IK} {t : Tg} {its tst : List CE} {ce : CE}
    (hi : PI X tg it (tI kl Φ GL X.K W k its)) (ok : BlkOk N sc scope own) (hsl : ∀ i ∈ slotsT t, i ∈ own.map (·.2)) (hs : ∀ x, foldedSetIterable it X.env x = pure x)
    (hg : ∀ (s : Shared) (H : Hp) (C : Addr) (cl : List (Str × Addr)) (fp : List Addr), PG (X.blk s H scope (compEnvC scope cl C X.env) fp) tg (tTg kl Φ GL X.K t))
    (ht : ∀ (s : Shared) (H : Hp) (C : Addr) (cl : List (Str × Addr)) (fp : List Addr), PTs (X.blk s H scope (compEnvC scope cl C X.env) fp) ifs (tTs kl Φ GL X.K (fun _ _ _ _ => False) tst))
    (he : ∀ (s : Shared) (H : Hp) (C : Addr) (cl : List (Str × Addr)) (fp : List Addr), PE (X.blk s H scope (compEnvC scope cl C X.env) fp) elt (tE kl Φ GL X.K (fun _ _ _ _ => False) ce)) :
    PE X (.ListComp elt [⟨tg, it, ifs, 0⟩] scope pos) (tE kl Φ GL X.K W (.comp t own k its tst ce)) := by
  exact peI (pe_lc hX.calm (by rw [hX.hN]; exact hX.nd) hi (by rw [hX.hN, hX.hsc]; exact ok) hg ht he hs) fun σ H Q z => comp_lc hsl σ H Q z
theorem comp_peM (hX : XOk kl Φ GL T CL lv X N sc fn) {elt tg it : Expr} {ifs : List Expr} {scope : Scope} {own : List (Str × Nat)} {pos : Pos} {k : IK} {t : Tg} {its tst : List CE} {ce : CE}
    (hi : PI X tg it (tI kl Φ GL X.K W k its)) (ok : BlkOk N sc scope own) (hsl : ∀ i ∈ slotsT t, i ∈ own.map (·.2)) (hs : ∀ x, foldedSetIterable it X.env x = pure x)
    (hg : ∀ (s : Shared) (H : Hp) (C : Addr) (cl : List (Str × Addr)) (fp : List Addr), PG (X.blk s H scope (compEnvC scope cl C X.env) fp) tg (tTg kl Φ GL X.K t))
    (ht : ∀ (s : Shared) (H : Hp) (C : Addr) (cl : List (Str × Addr)) (fp : List Addr), PTs (X.blk s H scope (compEnvC scope cl C X.env) fp) ifs (tTs kl Φ GL X.K (fun _ _ _ _ => False) tst))
    (he : ∀ (s : Shared) (H : Hp) (C : Addr) (cl : List (Str × Addr)) (fp : List Addr), PE (X.blk s H scope (compEnvC scope cl C X.env) fp) elt (tE kl Φ GL X.K (fun _ _ _ _ => False) ce)) :
    PE X (.ListComp elt [⟨tg, it, ifs, 0⟩] scope pos) (tE kl Φ GL X.K W (.mat (.comp t own k its tst ce))) := by
  exact peI (pe_lc hX.calm (by rw [hX.hN]; exact hX.nd) hi (by rw [hX.hN, hX.hsc]; exact ok) hg ht he hs) fun σ H Q z => comp_lcM hsl σ H Q z
theorem comp_peK (hX : XOk kl Φ GL T CL lv X N sc fn) {elt tg : Expr} {y : Str} {py : Pos} {ifs : List Expr} {scope : Scope} {own : List (Str × Nat)} {pos : Pos} {t : Tg} {i : Nat} {tst : List CE} {ce : CE}
    (hv : PE X (.Name y py) (tVar i)) (ok : BlkOk N sc scope own) (hsl : ∀ i ∈ slotsT t, i ∈ own.map (·.2))
    (hg : ∀ (s : Shared) (H : Hp) (C : Addr) (cl : List (Str × Addr)) (fp : List Addr), PG (X.blk s H scope (compEnvC scope cl C X.env) fp) tg (tTg kl Φ GL X.K t))
    (ht : ∀ (s : Shared) (H : Hp) (C : Addr) (cl : List (Str × Addr)) (fp : List Addr), PTs (X.blk s H scope (compEnvC scope cl C X.env) fp) ifs (tTs kl Φ GL X.K (fun _ _ _ _ => False) tst))
    (he : ∀ (s : Shared) (H : Hp) (C : Addr) (cl : List (Str × Addr)) (fp : List Addr), PE (X.blk s H scope (compEnvC scope cl C X.env) fp) elt (tE kl Φ GL X.K (fun _ _ _ _ => False) ce)) :
    PE X (.ListComp elt [⟨tg, .Name y py, ifs, 0⟩] scope pos) (tE kl Φ GL X.K W (.compK t own i tst ce)) := by
  exact peI (pe_lock (pe_lc hX.calm (by rw [hX.hN]; exact hX.nd) (pi_keys hv) (by rw [hX.hN, hX.hsc]; exact ok) hg ht he (fun _ => rfl))) fun σ H Q z => comp_lcK hsl σ H Q z
end
end Br

/-! Br, part J: the text's expressions, targets and tests by the core's reading. -/
namespace Br
open PySem PySem.Spec PyProof.Rows L2
def plainE : Expr → Bool
  | .UnaryOp .Not _ _ => false
  | .BoolOp _ _ _ => false
  | .IfExp _ _ _ _ => false
  | .Compare _ _ _ _ => false
  | _ => true
theorem isT_plain {e : Expr} {env : Env} (h : plainE e = true) (whole : Sem Value) : isTrue e env whole = (do let v ← whole; standAt e.pos; holding [v] (truthy v)) := by
  cases e with
  | UnaryOp op a p => cases op <;> first | rfl | cases h
  | BoolOp _ _ _ => cases h
  | IfExp _ _ _ _ => cases h
  | Compare _ _ _ _ => cases h
  | _ => rfl
theorem wipe_set {σ : L2.St} {i : Nat} {x : Option V} : ∀ {vs : List Nat}, i ∈ vs → L2.wipe (σ.set i x) vs = L2.wipe σ vs
  | v :: vs, h => by
    show (L2.wipe (σ.set i x) vs).set v none = (L2.wipe σ vs).set v none
    by_cases hm : i ∈ vs
    · rw [wipe_set hm]
    · have e : i = v := by
        rcases List.mem_cons.mp h with h | h
        · exact h
        · exact absurd h hm
      subst e
      have hl : ∀ ws : List Nat, i ∉ ws → (L2.wipe (σ.set i x) ws).set i none = (L2.wipe σ ws).set i none := by
        intro ws
        induction ws with
        | nil =>
          intro _
          show (σ.set i x).set i none = σ.set i none
          rw [List.set_set]
        | cons w ws ih =>
          intro hw
          have h1 : i ≠ w := fun z => hw (z ▸ List.mem_cons_self)
          show ((L2.wipe (σ.set i x) ws).set w none).set i none = ((L2.wipe σ ws).set w none).set i none
          rw [List.set_comm _ _ (Ne.symm h1), ih (fun z => hw (List.mem_cons_of_mem _ z)), List.set_comm _ _ (Ne.symm h1)]
      exact hl vs hm
section
variable {kl : Nat → Addr} {Φ : Phi} {GL : List (Str × D)} {T : List Df} {CL : List Cd} {lv : Nat} {X : Cx} {N : List Str} {sc : Scope} {fn : Str → Bool} {W : L2.WX}
/-! ### tests -/
theorem tBo_tE {c : CE} {σ H Q} (h : tBo kl Φ GL X.K W c σ H Q) : tE kl Φ GL X.K W c σ H fun x H1 => ∃ k, x = .bl k ∧ Q k H1 := by
  obtain ⟨ρ, B, σd, g, R, rx, rel, hw, q, px⟩ := h
  refine ⟨ρ, B, σd, g, _, rx, rel, hw, fun d g' ρ' H' v r x hg hv => ?_, px⟩
  obtain ⟨b, rfl, r⟩ := isBl_iff.mp r
  rw [simV_bl] at hv
  exact ⟨b, hv, q b g' ρ' H' r x hg⟩
theorem pt_pl {c : CE} {e : Expr} (h : PE X e (tE kl Φ GL X.K W c)) (he : plainE e = true) : PT X e (tBo kl Φ GL X.K W c) := ptI (pt_val h fun w => isT_plain he w) fun _ _ _ z => tBo_tE z
theorem plain_prim {p : P} {e : Expr} {es : List Expr} (h : shape sc p e = some es) : plainE e = true ∨ ∃ a op b pos, e = .Compare a [op] [b] pos ∧ cmpOf p = some op ∧ es = [a, b] := by
  unfold shape at h
  split at h
  · exact .inl rfl
  · split at h
    · cases h
      exact .inr ⟨_, _, _, _, rfl, by assumption, rfl⟩
    · cases h
  · exact .inl rfl
  · exact .inl rfl
  · exact .inl rfl
  · exact .inl rfl
  · cases h
theorem prim_pt (hX : XOk kl Φ GL T CL lv X N sc fn) {p : P} {e : Expr} {es : List Expr} {cs : List CE} (h : shape sc p e = some es) (ha : AllE (fun c e => PE X e (tE kl Φ GL X.K W c)) cs es) (hn : es.all noStar = true) : PT X e (tBo kl Φ GL X.K W (.prim p cs)) := by
  rcases plain_prim h with h1 | ⟨a, op, b, pos, rfl, h2, rfl⟩
  · exact pt_pl (prim_pe hX h ha hn) h1
  · obtain ⟨c, d, rfl, h4, h5⟩ := ha.two
    obtain ⟨k1, k2, k3⟩ := cmp_pe hX h2
    exact ptI (pt_cmpR k1 h4 h5 (nomark _ k2 k3)) fun _ _ _ z => two_of (tBo_tE z)
theorem not_pt {c : CE} {a : Expr} {pos : Pos} (h : PT X a (tBo kl Φ GL X.K W c)) : PT X (.UnaryOp .Not a pos) (tBo kl Φ GL X.K W (.not c)) := by
  refine ptI (pt_not h) fun σ H Q ⟨ρ, B, σd, g, R, rx, rel, hw, q, px⟩ => ?_
  refine ⟨ρ, B, σd, g, fun b g' => R (!b) g', rx, rel, hw, fun b g' ρ' H' r x hg => q _ g' ρ' H' r x hg, px⟩
theorem not_pe {c : CE} {a : Expr} {pos : Pos} (h : PE X a (tE kl Φ GL X.K W c)) : PE X (.UnaryOp .Not a pos) (tE kl Φ GL X.K W (.not c)) := by
  refine peI (pe_not h) fun σ H Q ⟨ρ, B, σd, g, R, rx, rel, hw, q, px⟩ => ?_
  refine ⟨ρ, B, σd, g, _, rx, rel, hw, fun d g' ρ' H' v r x hg hv => ?_, px⟩
  obtain ⟨b, rfl, r⟩ := isBl_iff.mp r
  rw [simV_bl] at hv
  exact ⟨b, hv, (q.ext x).ret r hg (simV_bl.mpr rfl)⟩
theorem and_pe : ∀ {cs : List CE} {es : List Expr} {pos : Pos}, AllE (fun c e => PE X e (tE kl Φ GL X.K W c)) cs es → es ≠ [] → PE X (.BoolOp .And es pos) (tE kl Φ GL X.K W (.and cs))
  | [], [], _, _, h => absurd rfl h
  | [], _ :: _, _, h, _ => h.elim
  | _ :: _, [], _, h, _ => h.elim
  | [c], [e], pos, h, _ => by
    refine peI (pe_one h.1) fun σ H Q ⟨ρ, B, σd, g, R, rx, rel, hw, q, px⟩ => ?_
    refine ⟨ρ, B, σd, g, _, rx, rel, hw, fun d g' ρ' H' v r x hg hv => ?_, px⟩
    obtain ⟨b, rfl, r⟩ := isBl_iff.mp r
    exact (q.ext x).ret r hg hv
  | c :: c2 :: cs, e :: e2 :: es, pos, h, _ => by
    refine peI (pe_and h.1 (and_pe (pos := pos) h.2 (by simp))) fun σ H Q ⟨ρ, B, σd, g, R, rx, rel, hw, q, px⟩ => ?_
    refine ⟨ρ, B, σd, g, _, rx, rel, hw, fun d g' ρ' H' v r x hg hv => ?_, px⟩
    obtain ⟨b, rfl, r⟩ := isBl_iff.mp r
    rw [simV_bl] at hv
    refine ⟨b, hv, ?_⟩
    cases b with
    | true => exact ⟨ρ', B, σd, g', R, rx, rel.ext x hg, r, q.ext x, px.ext x⟩
    | false => exact (q.ext x).ret r hg (simV_bl.mpr rfl)
  | [c], e :: e2 :: es, _, h, _ => h.2.elim
  | c :: c2 :: cs, [e], _, h, _ => h.2.elim
theorem or_pe : ∀ {cs : List CE} {es : List Expr} {pos : Pos}, AllE (fun c e => PE X e (tE kl Φ GL X.K W c)) cs es → es ≠ [] → PE X (.BoolOp .Or es pos) (tE kl Φ GL X.K W (.or cs))
  | [], [], _, _, h => absurd rfl h
  | [], _ :: _, _, h, _ => h.elim
  | _ :: _, [], _, h, _ => h.elim
  | [c], [e], pos, h, _ => by
    refine peI (pe_one h.1) fun σ H Q ⟨ρ, B, σd, g, R, rx, rel, hw, q, px⟩ => ?_
    refine ⟨ρ, B, σd, g, _, rx, rel, hw, fun d g' ρ' H' v r x hg hv => ?_, px⟩
    obtain ⟨b, rfl, r⟩ := isBl_iff.mp r
    exact (q.ext x).ret r hg hv
  | c :: c2 :: cs, e :: e2 :: es, pos, h, _ => by
    refine peI (pe_or h.1 (or_pe (pos := pos) h.2 (by simp))) fun σ H Q ⟨ρ, B, σd, g, R, rx, rel, hw, q, px⟩ => ?_
    refine ⟨ρ, B, σd, g, _, rx, rel, hw, fun d g' ρ' H' v r x hg hv => ?_, px⟩
    obtain ⟨b, rfl, r⟩ := isBl_iff.mp r
    rw [simV_bl] at hv
    refine ⟨b, hv, ?_⟩
    cases b with
    | false => exact ⟨ρ', B, σd, g', R, rx, rel.ext x hg, r, q.ext x, px.ext x⟩
    | true => exact (q.ext x).ret r hg (simV_bl.mpr rfl)
  | [c], e :: e2 :: es, _, h, _ => h.2.elim
  | c :: c2 :: cs, [e], _, h, _ => h.2.elim
theorem and_pw : ∀ {cs : List CE} {es : List Expr} {pos : Pos}, AllE (fun c e => PT X e (tBo kl Φ GL X.K W c)) cs es → es ≠ [] → PW X (.BoolOp .And es pos) (tBo kl Φ GL X.K W (.and cs))
  | [], [], _, _, h => absurd rfl h
  | [], _ :: _, _, h, _ => h.elim
  | _ :: _, [], _, h, _ => h.elim
  | [c], [e], pos, h, _ => by
    refine pwI (pw_and1 h.1) fun σ H Q ⟨ρ, B, σd, g, R, rx, rel, hw, q, px⟩ => ?_
    exact ⟨ρ, B, σd, g, R, rx, rel, hw, q, px⟩
  | c :: c2 :: cs, e :: e2 :: es, pos, h, _ => by
    refine pwI (pw_and h.1 (and_pw (pos := pos) h.2 (by simp))) fun σ H Q ⟨ρ, B, σd, g, R, rx, rel, hw, q, px⟩ => ?_
    refine ⟨ρ, B, σd, g, fun b g1 => if b = true then wpAnd GL Φ (c2 :: cs) σd g1 (fun d g1 => isBl d fun b => R b g1) rx else R false g1, rx, rel, hw, fun b g' ρ' H' r x hg => ?_, px⟩
    cases b with
    | true => exact ⟨ρ', B, σd, g', R, rx, rel.ext x hg, r, fun b g2 ρ2 H2 r2 x2 hg2 => q b g2 ρ2 H2 r2 (x.trans x2) hg2, px.ext x⟩
    | false => exact q false g' ρ' H' r x hg
  | [c], e :: e2 :: es, _, h, _ => h.2.elim
  | c :: c2 :: cs, [e], _, h, _ => h.2.elim
theorem or_pw : ∀ {cs : List CE} {es : List Expr} {pos : Pos}, AllE (fun c e => PT X e (tBo kl Φ GL X.K W c)) cs es → es ≠ [] → PW X (.BoolOp .Or es pos) (tBo kl Φ GL X.K W (.or cs))
  | [], [], _, _, h => absurd rfl h
  | [], _ :: _, _, h, _ => h.elim
  | _ :: _, [], _, h, _ => h.elim
  | [c], [e], pos, h, _ => by
    refine pwI (pw_or1 h.1) fun σ H Q ⟨ρ, B, σd, g, R, rx, rel, hw, q, px⟩ => ?_
    exact ⟨ρ, B, σd, g, R, rx, rel, hw, q, px⟩
  | c :: c2 :: cs, e :: e2 :: es, pos, h, _ => by
    refine pwI (pw_or h.1 (or_pw (pos := pos) h.2 (by simp))) fun σ H Q ⟨ρ, B, σd, g, R, rx, rel, hw, q, px⟩ => ?_
    refine ⟨ρ, B, σd, g, fun b g1 => if b = true then R true g1 else wpOr GL Φ (c2 :: cs) σd g1 (fun d g1 => isBl d fun b => R b g1) rx, rx, rel, hw, fun b g' ρ' H' r x hg => ?_, px⟩
    cases b with
    | false => exact ⟨ρ', B, σd, g', R, rx, rel.ext x hg, r, fun b g2 ρ2 H2 r2 x2 hg2 => q b g2 ρ2 H2 r2 (x.trans x2) hg2, px.ext x⟩
    | true => exact q true g' ρ' H' r x hg
  | [c], e :: e2 :: es, _, h, _ => h.2.elim
  | c :: c2 :: cs, [e], _, h, _ => h.2.elim
theorem pw_pt {op es pos t} (h : PW X (.BoolOp op es pos) t) : PT X (.BoolOp op es pos) t := ⟨fun pins s σ H Q I hw => h.run _ pins s σ H Q I hw⟩

/-! ### leaves and displays -/
theorem var0_pe (hX : XOk kl Φ GL T CL lv X N sc fn) {i : Nat} {x : Str} {pos : Pos} (hN : N[i]? = some x) (hv : visB sc x = true) : PE X (.Name x pos) (tVar i) := by
  unfold visB at hv
  simp only [Bool.and_eq_true, Bool.not_eq_true'] at hv
  obtain ⟨⟨h1, h2⟩, h3⟩ := hv
  have hvis : Vis X.env.scope x := by
    rw [hX.hsc]
    unfold Vis
    split at h1
    · exact .inl (by assumption)
    · exact .inr (.inl (by assumption))
    · exact .inr (.inr (by assumption))
    · cases h1
  exact pe_var (by rw [hX.hN]; exact hN) hvis h2 h3
theorem var_pe (hX : XOk kl Φ GL T CL lv X N sc fn) {i : Nat} {x : Str} {pos : Pos} (hN : N[i]? = some x) (hv : visB sc x = true) : PE X (.Name x pos) (tE kl Φ GL X.K W (.var i)) := by
  unfold visB at hv
  simp only [Bool.and_eq_true, Bool.not_eq_true'] at hv
  obtain ⟨⟨h1, h2⟩, h3⟩ := hv
  have hvis : Vis X.env.scope x := by
    rw [hX.hsc]
    unfold Vis
    split at h1
    · exact .inl (by assumption)
    · exact .inr (.inl (by assumption))
    · exact .inr (.inr (by assumption))
    · cases h1
  refine peI (pe_var (by rw [hX.hN]; exact hN) hvis h2 h3) fun σ H Q ⟨ρ, B, σd, g, R, rx, rel, hw, q, px⟩ => ?_
  have hw : (match σd[i]? with
    | some (some d) => R d g
    | _ => False) := hw
  split at hw
  · rename_i d hd
    obtain ⟨v, e, hs⟩ := rel.s.at_ i d hd
    exact ⟨v, e, q.ret hw rel.g hs⟩
  · exact hw.elim
theorem c_pe {e : Expr} {v : V} {d : D} {c : CE} (h : PE X e (tC v)) (hc : ∀ σd g R rx, wpE GL Φ c σd g R rx → R d g) (hs : ∀ ρ B H, SimV X.K ρ B H d v) : PE X e (tE kl Φ GL X.K W c) :=
  peI h fun σ H Q ⟨ρ, B, σd, g, R, rx, rel, hw, q, px⟩ => q.ret (hc _ _ _ _ hw) rel.g (hs _ _ _)
theorem lit_pe {N : List Str} {c : Const} {e : Expr} (h : chkE GL T CL N sc fn (.lit c) e = true) : PE X e (tE kl Φ GL X.K W (.lit c)) ∧ plainE e = true := by
  unfold chkE at h
  split at h
  · refine ⟨?_, rfl⟩
    split at h
    · obtain rfl := eq_of_beq h
      exact c_pe pe_int (fun _ _ _ _ z => z) fun _ _ _ => simV_int.mpr rfl
    · obtain rfl := eq_of_beq h
      exact c_pe pe_bl (fun _ _ _ _ z => z) fun _ _ _ => simV_bl.mpr rfl
    · exact c_pe pe_non (fun _ _ _ _ z => z) fun _ _ _ => simV_non.mpr rfl
    · obtain rfl := eq_of_beq h
      exact c_pe pe_str (fun _ _ _ _ z => z) fun _ _ _ => simV_str.mpr rfl
    · cases h
  · cases h
theorem neg_pe {i : Int} {k : Nat} {p1 p2 : Pos} : PE X (.UnaryOp .USub (.Constant (.int i) k p1) p2) (tE kl Φ GL X.K W (.neg i)) := by
  refine peI (pe_un un_neg pe_int) fun σ H Q ⟨ρ, B, σd, g, R, rx, rel, hw, q, px⟩ => ?_
  exact ⟨i, rfl, q.ret hw rel.g (simV_int.mpr rfl)⟩
theorem glob_pe (hX : XOk kl Φ GL T CL lv X N sc fn) {j : Nat} {x : Str} {d : D} {pos : Pos} (hg : glB sc x = true) (hj : GL[j]? = some (x, d)) : PE X (.Name x pos) (tE kl Φ GL X.K W (.glob j)) := by
  obtain ⟨g1, g2, g3⟩ := gl_of hX hg
  obtain ⟨u, v, hm, r, hs⟩ := hX.glb j x d hj
  refine c_pe (pe_glob g1 hm r g2) (fun σd g R rx hw => ?_) hs
  have hw : (match GL[j]? with
    | some (_, d) => R d g
    | none => False) := hw
  rw [hj] at hw
  exact hw
theorem tup_pe {cs : List CE} {es : List Expr} {k : Nat} {pos : Pos} (ha : AllE (fun c e => PE X e (tE kl Φ GL X.K W c)) cs es) (hn : es.all noStar = true) : PE X (.Tuple es k pos) (tE kl Φ GL X.K W (.tup cs)) := by
  refine peI (pe_tup (pa_of ha hn)) fun σ H Q ⟨ρ, B, σd, g, R, rx, rel, hw, q, px⟩ => ?_
  refine ⟨ρ, B, σd, g, _, rx, rel, hw, fun ds g' ρ' H' vs r l x hg hv => ?_, px⟩
  exact ⟨by rw [sizeLine_eq, ← hv.len]; exact r.1, (q.ext x).newT r.2 hg hv⟩
theorem lst_pe {cs : List CE} {es : List Expr} {pos : Pos} (ha : AllE (fun c e => PE X e (tE kl Φ GL X.K W c)) cs es) (hn : es.all noStar = true) : PE X (.List es pos) (tE kl Φ GL X.K W (.lst cs)) := by
  refine peI (pe_lst (pa_of ha hn)) fun σ H Q ⟨ρ, B, σd, g, R, rx, rel, hw, q, px⟩ => ?_
  refine ⟨ρ, B, σd, g, _, rx, rel, hw, fun ds g' ρ' H' vs r l x hg hv => ?_, px⟩
  exact ⟨by rw [sizeLine_eq, ← hv.len]; exact r.1, (q.ext x).newL r.2 hg hv⟩
/-! ### cells -/
theorem Post.newC {K ρ B H R Q g} (q : Post K kl R ρ B H Q) {ds vs} (r : R (.ref g.length) (g ++ [.lst ds])) (hg : SimG K kl ρ B H g) (hv : SimL K ρ B H ds vs) : ∀ p, H p = none → Q (.ref p) (upd H p (.lst vs)) := fun p hp => by
  have x0 : Ext ρ H (ρ ++ [some p]) (upd H p (.lst vs)) := ⟨by simp, fun n a hn e => by rw [List.getElem?_append_left hn] at e; exact e, fun a m => by
    rcases List.mem_append.mp m with m | m
    · exact .inl m
    · simp at m
      subst m
      exact .inr hp, fun a u q _ => by rw [upd_ne (ne_of_none q hp)]; exact q, fun a o u q => by rw [upd_ne (ne_of_none q hp)]; exact q⟩
  obtain ⟨h1, h2⟩ := hg.alloc (o := .lst vs) (c := .lst ds) hp ⟨p, vs, rfl, upd_same, SimL.ext x0 _ _ hv⟩
  exact q _ _ _ _ _ r h2 h1 (simV_ref.mpr ⟨by simp [hg.len], fun a e => by rw [← hg.len] at e; simp at e; rw [e]⟩)
theorem dict0_pe {pos : Pos} : PE X (.Dict [] [] pos) (tE kl Φ GL X.K W .dict0) := by
  refine peI pe_dnewK fun σ H Q ⟨ρ, B, σd, g, R, rx, rel, hw, q, px⟩ => fun p hp => ?_
  obtain ⟨h1, h2⟩ := rel.g.alloc (o := .dK []) (c := .dct []) hp ⟨p, [], rfl, upd_same, .nil⟩
  exact q _ _ _ _ _ hw h2 h1 (simV_ref.mpr ⟨by simp [rel.g.len], fun a e => by rw [← rel.g.len] at e; simp at e; rw [e]⟩)
theorem mat_lst {cs : List CE} {es : List Expr} {pos : Pos} (ha : AllE (fun c e => PE X e (tE kl Φ GL X.K W c)) cs es) (hn : es.all noStar = true) : PE X (.List es pos) (tE kl Φ GL X.K W (.mat (.lst cs))) := by
  refine peI (pe_lst (pa_of ha hn)) fun σ H Q ⟨ρ, B, σd, g, R, rx, rel, hw, q, px⟩ => ?_
  refine ⟨ρ, B, σd, g, _, rx, rel, hw, fun ds g' ρ' H' vs r l x hg hv => ?_, px⟩
  exact ⟨by rw [sizeLine_eq, ← hv.len]; exact r.1, (q.ext x).newC r.2 hg hv⟩
/-- the core's word of values that make a cell -/
def rPc (K : PySem.W.Frag) (kl : Nat → Addr) (p : P) : List V → Hp → VK → Prop := fun vs H Q => ∃ ρ B g ds R, SimG K kl ρ B H g ∧ SimL K ρ B H ds vs ∧ pr g (fun d g1 => match d with
    | .tl ds => R (.ref g1.length) (g1 ++ [.lst ds])
    | _ => False) p ds ∧ Post K kl R ρ B H Q
theorem p_mulC : OpR X (binaryOp .Mult) (fun x y H Q => rPc X.K kl .mul [x, y] H Q) := by
  intro pins s σ H x y v u Q I rx ry h
  obtain ⟨ρ, B, g, ds, R, hg, hl, hp, q⟩ := h
  obtain ⟨d, e, rfl, h1, h2⟩ := simL_two hl
  simp only [pr] at hp
  unfold prMul at hp
  split at hp
  · exact hp.2.elim
  · rw [simV_int] at h2
    subst h2
    obtain ⟨a, xs, rfl, ha, hxs⟩ := simV_tl.mp h1
    exact op_repR pins s σ H _ _ v u Q I rx ry ⟨a, _, xs, rfl, rfl, ha.sq, hp.1.1, hp.1.2, by rw [sizeLine_eq, ← hxs.len]; exact hp.2.1, q.newC hp.2.2 hg (hxs.rep _)⟩
  · exact hp.elim
theorem p_listC : CallR X (.type "list") (fun vs H Q => vs.length = 1 ∧ rPc X.K kl .list vs H Q) := by
  intro pins s σ H vs us Q I r h
  obtain ⟨hl1, ρ, B, g, ds, R, hg, hl, hp, q⟩ := h
  match vs, hl1 with
  | [x], _ =>
    obtain ⟨d, rfl, h1⟩ := simL_one hl
    simp only [pr] at hp
    unfold prList at hp
    split at hp
    · rename_i es hes
      obtain ⟨a, xs, rfl, hk, hxs⟩ := hg.seqR h1 hes
      exact call_list_of pins s σ H _ us Q I r ⟨a, xs, rfl, hk.imp (fun z => z.1) (fun z => z.1), q.newC hp hg hxs⟩
    · exact hp.elim
theorem mat_prim (hX : XOk kl Φ GL T CL lv X N sc fn) {p : P} {cs : List CE} (hp : freshC (.prim p cs) = true) {e : Expr} {es : List Expr} (h : shape sc p e = some es) (ha : AllE (fun c e => PE X e (tE kl Φ GL X.K W c)) cs es) (hn : es.all noStar = true) : PE X e (tE kl Φ GL X.K W (.mat (.prim p cs))) := by
  have hpp : p = .mul ∨ p = .list := by
    cases p <;> first | exact .inl rfl | exact .inr rfl | cases hp
  unfold shape at h
  split at h
  · split at h
    · rename_i op b pos h1
      cases h
      obtain ⟨c, d, rfl, h2, h3⟩ := ha.two
      rcases hpp with rfl | rfl
      · obtain rfl : op = .Mult := by
          simp only [opOf, Option.some.injEq] at h1
          exact h1.symm
        refine peI (pe_op (p_mulC (kl := kl)) h2 h3) fun σ H Q ⟨ρ, B, σd, g, R, rx, rel, hw, q, px⟩ => ?_
        refine ⟨ρ, B, σd, g, _, rx, rel, hw, fun d g' ρ' H' v r x hg hv => ?_, px⟩
        refine ⟨ρ', B, σd, g', _, rx, rel.ext x hg, r, fun d2 g2 ρ2 H2 v2 r2 x2 hg2 hv2 => ?_, px.ext x⟩
        exact ⟨ρ2, B, g2, [d, d2], R, hg2, simL_cons.mpr ⟨v, [v2], rfl, SimV.ext x2 _ _ hv, SimL.one hv2⟩, r2, q.ext (x.trans x2)⟩
      · cases h1
    · cases h
  · split at h
    · rename_i h1
      rcases hpp with rfl | rfl <;> cases h1
    · cases h
  · rcases hpp with rfl | rfl <;> simp at h
  · rcases hpp with rfl | rfl <;> simp at h
  · rcases hpp with rfl | rfl <;> simp at h
  · split at h
    · rename_i h1
      rcases hpp with rfl | rfl
      · cases h1.2
      · cases h
        obtain ⟨h1, h2⟩ := h1
        simp only [bltOf, Option.some.injEq, Prod.mk.injEq] at h2
        obtain ⟨rfl, hl⟩ := h2
        obtain ⟨g1, g2, g3⟩ := gl_of hX h1
        match es, hl, ha, hn with
        | [a], _, ha, hn =>
          have hn2 := hn
          rw [List.all_cons, Bool.and_eq_true] at hn2
          refine peI (pe_callTy (p_listC (kl := kl)) g1 (hX.blt _ (by decide +kernel)) (by decide +kernel) (pa_of ha hn) g3 g2 (star_of hn2.1) (plain_of hn2.2)) fun σ H Q ⟨ρ, B, σd, g, R, rx, rel, hw, q, px⟩ => ?_
          refine ⟨ρ, B, σd, g, _, rx, rel, hw, fun ds g' ρ' H' vs r l x hg hv => ?_, px⟩
          refine ⟨by rw [← hv.len, l]; exact ha.len, ρ', B, g', ds, R, hg, hv, r, q.ext x⟩
    · split at h
      · split at h
        · rcases hpp with z | z <;> cases z
        · cases h
      · cases h
  · cases h
/-- a cell that becomes a value -/
theorem SimG.kill {K ρ B H g} (h : SimG K kl ρ B H g) (n : Nat) : SimG K kl (ρ.set n none) B H (g.set n .dead) ∧ Ext ρ H (ρ.set n none) H := by
  have hset : ∀ (m : Nat) a, (ρ.set n none)[m]? = some (some a) → ρ[m]? = some (some a) ∧ m ≠ n := fun m a e => by
    by_cases hm : n = m
    · subst hm
      by_cases hl : n < ρ.length
      · rw [List.getElem?_set_self hl] at e
        cases e
      · rw [List.getElem?_eq_none (by simpa using hl)] at e
        cases e
    · rw [List.getElem?_set_ne hm] at e
      exact ⟨e, Ne.symm hm⟩
  have hmem : ∀ a, some a ∈ ρ.set n none → some a ∈ ρ := fun a m => by
    obtain ⟨k, hk⟩ := List.mem_iff_getElem?.mp m
    exact mem_set_live (hset k a hk).1
  have x : Ext ρ H (ρ.set n none) H := ⟨by simp, fun m a _ e => (hset m a e).1, fun a m => .inl (hmem a m), fun _ _ e _ => e, fun _ _ _ e => e⟩
  refine ⟨⟨by simp [h.len], fun m k a e1 e2 => h.inj m k a (hset m a e1).1 (hset k a e2).1, fun m c e => ?_, fun a b => ⟨(h.hid a b).1, fun m => (h.hid a b).2 (hmem a m)⟩⟩, x⟩
  by_cases hm : n = m
  · subst hm
    have hl : n < g.length := by
      have := (List.getElem?_eq_some_iff.mp e).1
      simpa using this
    rw [List.getElem?_set_self hl] at e
    cases e
    exact ⟨none, List.getElem?_set_self (by rw [h.len]; exact hl), rfl⟩
  · rw [List.getElem?_set_ne hm] at e
    obtain ⟨y, e1, h1⟩ := h.cell m c e
    exact ⟨y, by rw [List.getElem?_set_ne hm]; exact e1, h1.ext x fun _ _ _ q => q⟩
theorem frz_pe {c : CE} {e : Expr} (h : PE X e (tE kl Φ GL X.K W c)) : PE X e (tE kl Φ GL X.K W (.frz c)) := by
  refine peI h fun σ H Q ⟨ρ, B, σd, g, R, rx, rel, hw, q, px⟩ => ?_
  refine ⟨ρ, B, σd, g, _, rx, rel, hw, fun d g' ρ' H' v r x hg hv => ?_, px⟩
  simp only at r
  split at r
  · rename_i n
    split at r
    · rename_i ds he
      obtain ⟨a, vs, rfl, hn, ha, hvs⟩ := hg.lst hv he
      obtain ⟨h1, h2⟩ := hg.kill n
      refine q _ _ _ _ _ r (x.trans h2) h1 (simV_tl.mpr ⟨a, vs, rfl, .inl ⟨.of ha, fun m => ?_, fun b => (hg.hid a b).2 (mem_set_live hn)⟩, SimL.ext h2 _ _ hvs⟩)
      obtain ⟨k, hk⟩ := List.mem_iff_getElem?.mp m
      by_cases hm : n = k
      · subst hm
        rw [List.getElem?_set_self (List.getElem?_eq_some_iff.mp hn).1] at hk
        cases hk
      · rw [List.getElem?_set_ne hm] at hk
        exact hm (hg.inj n k a hn hk)
    · exact r.elim
  · exact r.elim
end
end Br

/-! Br, part K: the core's reading of every expression and target that the check lets through. -/
namespace Br
open PySem PySem.Spec PyProof.Rows L2
section
variable {kl : Nat → Addr} {Φ : Phi} {GL : List (Str × D)} {T : List Df} {CL : List Cd} {lv : Nat} {X : Cx} {N : List Str} {sc : Scope} {fn : Str → Bool} {W : L2.WX}
/-- inside a comprehension -/
theorem XOk.blk (hX : XOk kl Φ GL T CL lv X N sc fn) {scope : Scope} (hk : (relS scope sc).kind = .function) (s : Shared) (H : Hp) (C : Addr) (cl : List (Str × Addr)) (fp : List Addr) :
    XOk kl Φ GL T CL lv (X.blk s H scope (compEnvC scope cl C X.env) fp) N (relS scope sc) (fun y => scope.names.lookup y == some .cell) where
  hN := hX.hN
  nd := hX.nd
  hsc := by
    rw [← hX.hsc]
    rfl
  fk := hk
  calm := hX.calm
  fnb := fun _ h => h
  glb := hX.glb
  blt := hX.blt
  fns := hX.fns
  cls := hX.cls
  room1 := hX.room1
theorem each_of : ∀ {es : List Expr} {env : Env}, es.all noStar = true → (assignEach es env).length = es.length ∧ (assignEach es env).findIdx? (·.1) = none
  | [], _, _ => ⟨rfl, rfl⟩
  | e :: es, env, h => by
    rw [List.all_cons, Bool.and_eq_true] at h
    obtain ⟨h1, h2⟩ := each_of (env := env) h.2
    have : assignEach (e :: es) env = (false, assign e env) :: assignEach es env := by
      have h0 := h.1
      cases e <;> first | rfl | cases h0
    rw [this]
    exact ⟨by simp [h1], by rw [List.findIdx?_cons, h2]; rfl⟩
theorem name_pg (hX : XOk kl Φ GL T CL lv X N sc fn) {i : Nat} {x : Str} {pos : Pos} (hi : N[i]? = some x) (h : sc.names.lookup x = some .local ∨ (sc.names.lookup x = some .cell ∧ fn x = true)) : PG X (.Name x pos) (tTg kl Φ GL X.K (.name i)) := by
  have hl : Loc X.env.scope x := by
    rw [hX.hsc]
    exact h.imp id fun z => z.1
  refine pgI (pg_name (by rw [hX.hN]; exact hX.nd) (by rw [hX.hN]; exact hi) hl (by rw [hX.hsc]; exact h.elim .inr fun z => .inl (hX.fnb _ z.2))) fun v σ H Kn ⟨ρ, B, σd, g, d, Rk, rx, rel, hv, hw, k, _⟩ => ?_
  exact k _ g ρ H _ hw (Ext.refl _ _) ⟨rel.g, rel.s.set i hv⟩ fun vs hvs => wipe_set (hvs i (by simp [slotsT]))
theorem tup_pg (hX : XOk kl Φ GL T CL lv X N sc fn) {ts : List Tg} {es : List Expr} {k : Nat} {pos : Pos} (h : PGs X es (tTgs kl Φ GL X.K ts)) (hn : es.all noStar = true) (hl : ts.length = es.length) : PG X (.Tuple es k pos) (tTg kl Φ GL X.K (.tup ts)) := by
  obtain ⟨h1, h2⟩ := each_of (env := X.env) hn
  refine pgI (pg_tup hX.calm h h1 h2) fun v σ H Kn ⟨ρ, B, σd, g, d, Rk, rx, rel, hv, hw, q, px⟩ => ?_
  cases d with
  | tup ds =>
    obtain ⟨hw1, hw2⟩ := (show ds.length = ts.length ∧ wpTs GL Φ ts ds σd g Rk rx from hw)
    obtain ⟨a, vs, rfl, ha, hvs⟩ := simV_tup.mp hv
    exact ⟨a, vs, rfl, ha.sq, by rw [← hvs.len, hw1, hl], ρ, B, σd, g, ds, Rk, rx, rel, hvs, hw2, q, px⟩
  | _ => exact (show False from hw).elim
theorem nil_pgs : PGs X [] (tTgs kl Φ GL X.K []) := by
  refine ⟨fun pins s σ H vs us Q I r hw => ?_⟩
  obtain ⟨ρ, B, σd, g, ds, Rk, rx, rel, hv, hw, q, px⟩ := hw
  have hw2 : ds = [] ∧ Rk σd g := hw
  obtain ⟨rfl, hw3⟩ := hw2
  rw [simL_nil] at hv
  exact pgs_nil.run pins s σ H vs us Q I r ⟨hv, q σd g ρ H σ hw3 (Ext.refl _ _) rel fun _ _ => rfl⟩
theorem cons_pgs {t : Tg} {ts : List Tg} {e : Expr} {es : List Expr} (h1 : PG X e (tTg kl Φ GL X.K t)) (h2 : PGs X es (tTgs kl Φ GL X.K ts)) (hn : noStar e = true) : PGs X (e :: es) (tTgs kl Φ GL X.K (t :: ts)) := by
  have hs : (assignEach (e :: es) X.env).map (·.2) = assign e X.env :: (assignEach es X.env).map (·.2) := by
    cases e <;> first | rfl | cases hn
  refine ⟨fun pins s σ H vs us Q I r hw => ?_⟩
  obtain ⟨ρ, B, σd, g, ds, Rk, rx, rel, hv, hw, q, px⟩ := hw
  refine (pgs_cons h1 h2 hs).run pins s σ H vs us Q I r ?_
  cases ds with
  | nil => exact (show False from hw).elim
  | cons d ds =>
    obtain ⟨v, w, rfl, hv1, hv2⟩ := simL_cons.mp hv
    refine ⟨v, w, rfl, ρ, B, σd, g, d, _, rx, rel, hv1, hw, fun σd' g' ρ' H' σ' r x rel' hwp => ?_, px⟩
    refine ⟨ρ', B, σd', g', ds, _, rx, rel', SimL.ext x _ _ hv2, r, fun σd2 g2 ρ2 H2 σ2 r2 x2 rel2 hwp2 => ?_, px⟩
    exact q σd2 g2 ρ2 H2 σ2 r2 (x.trans x2) rel2 fun ws hws => (hwp2 ws fun i hi => hws i (by simp [slotsTs, hi])).trans (hwp ws fun i hi => hws i (by simp [slotsTs, hi]))
theorem sub_pg (hX : XOk kl Φ GL T CL lv X N sc fn) {o i : Expr} {co ci : CE} {pos : Pos} (hns : noSlice i = true) (ho : PE X o (tE kl Φ GL X.K (fun _ _ _ _ => False) co)) (hi : PE X i (tE kl Φ GL X.K (fun _ _ _ _ => False) ci)) : PG X (.Subscript o i pos) (tTg kl Φ GL X.K (.sub co ci)) := by
  refine pgI (pg_sub ho hi (p_set (kl := kl) hX.hu1) (fun v => by cases i <;> first | rfl | cases hns)) fun v σ H Kn ⟨ρ, B, σd, g, d, Rk, rx, rel, hv, hw, q, px⟩ => ?_
  refine ⟨ρ, B, σd, g, _, rx, rel, hw, fun od g' ρ' H' ov r x hg hov => ?_, fun n g' ρ' H' r _ _ => px n g' r⟩
  refine ⟨ρ', B, σd, g', _, rx, rel.ext x hg, r, fun id g2 ρ2 H2 iv r2 x2 hg2 hiv => ?_, fun n g' ρ' H' r _ _ => px n g' r⟩
  refine ⟨ρ2, B, g2, od, id, d, _, hg2, SimV.ext x2 _ _ hov, hiv, SimV.ext (x.trans x2) _ _ hv, r2, fun g3 H3 r3 x3 hg3 => ?_⟩
  exact q σd g3 ρ2 H3 σ r3 ((x.trans x2).trans x3) (rel.ext ((x.trans x2).trans x3) hg3) fun _ _ => rfl
theorem call_pe (hX : XOk kl Φ GL T CL lv X N sc fn) (tk : Takes X W) {f : Nat} {x : Str} {p pos : Pos} {es : List Expr} {cs : List CE} {d : Df} (hg : glB sc x = true) (hT : T[f]? = some d) (htop : d.top = true) (hd : d.name = x) (har : d.ar = es.length) (h0 : es ≠ [])
    (ha : AllE (fun c e => PE X e (tE kl Φ GL X.K W c)) cs es) (hn : es.all noStar = true) : PE X (.Call (.Name x p) es [] pos) (tE kl Φ GL X.K W (.call f cs)) := by
  obtain ⟨g1, g2, g3⟩ := gl_of hX hg
  obtain ⟨fa, fd, ps, hm, hk, hb, hps, F⟩ := hX.fns f d hT htop
  subst hd
  cases es with
  | nil => exact absurd rfl h0
  | cons e es =>
    have hn2 := hn
    rw [List.all_cons, Bool.and_eq_true] at hn2
    refine peI (pe_callS (E := WE W) F hX.room g1 hm hk hb (L2.passAt tk) (pa_of ha hn) g2 (star_of hn2.1) (plain_of hn2.2)) fun σ H Q ⟨ρ, B, σd, g, R, rx, rel, hw, q, px⟩ => ?_
    refine ⟨ρ, B, σd, g, _, rx, rel, hw, fun ds g' ρ' H' vs r l x hg hv => ?_, px⟩
    exact ⟨ρ', B, g', ds, R, rx, hg, hv, by rw [l, har]; exact ha.len, r, q.ext x, px.ext x⟩
theorem tst_pts : ∀ {cs : List CE} {es : List Expr}, AllE (fun c e => PT X e (tBo kl Φ GL X.K W c)) cs es → cs.length ≤ 1 → PTs X es (tTs kl Φ GL X.K W cs)
  | [], [], _, _ => ⟨fun pins s σ H Q I ⟨ρ, B, σd, g, R, rx, rel, hw, q, px⟩ => pts_nil.run pins s σ H Q I (q true g ρ H hw (Ext.refl _ _) rel.g)⟩
  | [c], [e], h, _ => ⟨fun pins s σ H Q I ⟨ρ, B, σd, g, R, rx, rel, hw, q, px⟩ => (pts_one h.1).run pins s σ H Q I ⟨ρ, B, σd, g, R, rx, rel, hw, q, px⟩⟩
  | [], _ :: _, h, _ => h.elim
  | _ :: _, [], h, _ => h.elim
  | [_], _ :: _ :: _, h, _ => h.2.elim
  | _ :: _ :: _, _, _, h => by simp at h
/-! ### objects -/
theorem fldAt_iff {g : G} {k : Nat} {f : Str} {Q : D → G → Prop} {d : D} (h : fldAt g k f Q d) : ∃ n fs v, d = .ref n ∧ g[n]? = some (.ins k fs) ∧ fs.lookup f = some v ∧ Q v g := by
  unfold fldAt at h
  split at h
  · split at h
    · rename_i c fs he
      obtain ⟨rfl, h⟩ := h
      split at h
      · exact ⟨_, fs, _, rfl, he, by assumption, h⟩
      · exact h.elim
    · exact h.elim
  · exact h.elim
theorem insAt_iff {g : G} {k : Nat} {m : Str} {d : D} (h : insAt g k m d) : ∃ n fs, d = .ref n ∧ g[n]? = some (.ins k fs) ∧ fs.lookup m = none := by
  unfold insAt at h
  split at h
  · split at h
    · rename_i c fs he
      obtain ⟨rfl, h⟩ := h
      exact ⟨_, fs, rfl, he, h⟩
    · exact h.elim
  · exact h.elim
theorem fld_pe (hX : XOk kl Φ GL T CL lv X N sc fn) {k : Nat} {cd : Cd} {f : Str} {o : Expr} {c : CE} {pos : Pos} (hc : CL[k]? = some cd) (hf : f ∈ cd.flds) (hs : noSuper o = true) (ho : PE X o (tE kl Φ GL X.K W c)) : PE X (.Attribute o f pos) (tE kl Φ GL X.K W (.fld k c f)) := by
  obtain ⟨_, cls, na, _, _⟩ := hX.cls k cd hc
  refine peI (pe_fld ho (base_of hs)) fun σ H Q ⟨ρ, B, σd, g, R, rx, rel, hw, q, px⟩ => ?_
  refine ⟨ρ, B, σd, g, _, rx, rel, hw, fun d g' ρ' H' v r x hg hv => ?_, px⟩
  obtain ⟨n, fs, v', rfl, he, hl, hr⟩ := fldAt_iff r
  obtain ⟨a, dx, vs, rfl, hn, ha, hF⟩ := hg.ins hv he
  obtain ⟨w, hw2, hs2⟩ := (hF.look f).1 _ hl
  exact ⟨a, kl k, dx, vs, w, rfl, ha, cls, na f hf, hw2, (q.ext x).ret hr hg hs2⟩
theorem own_eval {o : Expr} {m : Str} {ap cp : Pos} {es : List Expr} {env : Env} (hs : noSuper o = true) (hl : (ap.endLine == cp.line) = true) (h20 : es.length < 20) (hn : es.all noStar = true) :
    eval (.Call (.Attribute o m ap) es [] cp) env = (do
      let ov ← eval o env
      standAt ap.atName
      let (f, first) ← holding [ov] (getMethod ov m (plainOf o env))
      callWith cp f first (backTo cp (starEach es env)) (backToKw cp (keywordEach [] env))) := by
  have hf : methodCallForm (es.length + ([] : List Keyword).length) (backTo cp (starEach es env)) (backToKw cp (keywordEach [] env)) = true := by
    unfold methodCallForm
    rw [few_of hn]
    show (true && true && decide (es.length + 0 + 0 < 30)) = true
    simp
    omega
  have e1 : eval (.Call (.Attribute o m ap) es [] cp) env = (do
      let ov ← attributeBase o m env (eval o env)
      standAt ap.atName
      methodCall o m ap cp env ov (es.length + ([] : List Keyword).length) (backTo cp (starEach es env)) (backToKw cp (keywordEach [] env))) := rfl
  rw [e1, base_of hs]
  simp only [mcall_line hf hl]
theorem own_pe (hX : XOk kl Φ GL T CL lv X N sc fn) (tk : Takes X W) {k j : Nat} {cd : Cd} {m : Str} {d : Df} {o : Expr} {c : CE} {es : List Expr} {cs : List CE} {ap cp : Pos} (hc : CL[k]? = some cd) (hm : (m, j) ∈ cd.meths) (hT : T[j]? = some d) (har : d.ar = es.length + 1) (hs : noSuper o = true)
    (hl : (ap.endLine == cp.line) = true) (h20 : es.length < 20) (ho : PE X o (tE kl Φ GL X.K W c)) (ha : AllE (fun c e => PE X e (tE kl Φ GL X.K W c)) cs es) (hn : es.all noStar = true) : PE X (.Call (.Attribute o m ap) es [] cp) (tE kl Φ GL X.K W (.own k j c m cs)) := by
  obtain ⟨_, cls, _, _, hms⟩ := hX.cls k cd hc
  obtain ⟨f, fd, ps, d', hmt, hT', hb, hps, F⟩ := hms _ hm
  have hT' : T[j]? = some d' := hT'
  rw [hT] at hT'
  cases hT'
  refine ⟨fun pins s σ H Q I ⟨ρ, B, σd, g, R, rx, rel, hw, q, px⟩ => ?_⟩
  refine PySem.W.methodCall_KW (thn (ho.run pins s σ H (fun v H1 => ∃ d g' ρ', (insAt g' k m d ∧ wpEs GL Φ cs σd g' (fun ds g2 => Φ j (d :: ds) g2 R rx) rx) ∧ Ext ρ H ρ' H1 ∧ SimG X.K kl ρ' B H1 g' ∧ SimV X.K ρ' B H1 d v) I
    ⟨ρ, B, σd, g, _, rx, rel, hw, fun d g' ρ' H' v r x hg hv => ⟨d, g', ρ', r, x, hg, hv⟩, px⟩) fun u s1 ⟨x, H1, I1, rx1, dd, g1, ρ1, ⟨hi, hws⟩, x1, hg1, hv1⟩ => ?_) (own_eval hs hl h20 hn)
  obtain ⟨n, fs, rfl, he, hlk⟩ := insAt_iff hi
  obtain ⟨a, dx, vs, rfl, hna, haa, hF⟩ := hg1.ins hv1 he
  have hu : u = Value.ref a := rx1
  subst hu
  refine getmeth_ok I1 haa cls hmt ((hF.look m).2 hlk) ?_
  have fin : ∀ {us : List Value} {ws : List V} {H2 : Hp} {s2 : Shared} {ds : List D} {g2 : G} {ρ2 : Rho}, Inv X pins σ H2 s2 → Vals ws us → Φ j (.ref n :: ds) g2 R rx → ds.length = es.length → Ext ρ1 H1 ρ2 H2 → SimG X.K kl ρ2 B H2 g2 → SimL X.K ρ2 B H2 ds ws → wpAny (model X.prog X.w) X.A (call (.ref f) (.ref a :: us)) (EP X pins σ Q) X.xe s2 := fun {us ws H2 s2 ds g2 ρ2} I2 r hΦ hlen x2 hg2 hv2 =>
    run_fnS (E := WE W) (vs := .ref a :: ws) F hX.room hb (L2.passAt tk σ) I2 (.cons rfl r) ⟨ρ2, B, g2, .ref n :: ds, R, rx, hg2, simL_cons.mpr ⟨_, _, rfl, SimV.ext x2 _ _ hv1, hv2⟩, by simp [hlen, har], hΦ, q.ext (x1.trans x2), px.ext (x1.trans x2)⟩
  cases es with
  | nil =>
    have hcs : cs = [] := by
      cases cs with
      | nil => rfl
      | cons _ _ => exact ha.elim
    subst hcs
    exact PySem.W.callWith_K0 (first := [.ref a]) I1.kIn hmt.kp (fin I1 .nil hws rfl (Ext.refl _ _) hg1 (simL_nil.mpr rfl))
  | cons e es =>
    have hn2 := hn
    rw [List.all_cons, Bool.and_eq_true] at hn2
    refine PySem.W.callWith_K (first := [.ref a]) (h₀ := X.base) I.ok.mod.kin hmt.kp (thn ((pa_of ha hn).run cp pins s1 σ H1 (fun ws H2 => ∃ ds g2 ρ2, Φ j (.ref n :: ds) g2 R rx ∧ ds.length = (e :: es).length ∧ Ext ρ1 H1 ρ2 H2 ∧ SimG X.K kl ρ2 B H2 g2 ∧ SimL X.K ρ2 B H2 ds ws) I1
      ⟨ρ1, B, σd, g1, _, rx, rel.ext x1 hg1, hws, fun ds g' ρ' H' vs r l x hg hv => ⟨ds, g', ρ', r, by rw [l]; exact ha.len, x, hg, hv⟩, px.ext x1⟩) fun us s2 ⟨ws, H2, I2, r, ds, g2, ρ2, h1, h2, h3, h4, h5⟩ => ⟨I2.kIn, fin I2 r h1 h2 h3 h4 h5⟩) (star_of hn2.1) (plain_of hn2.2)
theorem make_t {K : PySem.W.Frag} {k j ar : Nat} {ds : List D} {vs : List V} {ρ1 : Rho} {B : Addr → Prop} {H1 : Hp} {g1 : G} {R : D → G → Prop} {Q : VK} {nE : XK} (hg : SimG K kl ρ1 B H1 g1) (hv : SimL K ρ1 B H1 ds vs) (hl : ds.length + 1 = ar)
    (hΦ : Φ j (.ref g1.length :: ds) (g1 ++ [.ins k []]) (fun d g2 => d = .non ∧ R (.ref g1.length) g2) (fun _ _ => False)) (q : Post K kl R ρ1 B H1 Q) : ∀ x dx, H1 x = none → H1 dx = none → dx ≠ x →
      spD kl Φ K j ar (.ref x :: (vs ++ [])) (upd (upd H1 dx (.own x)) x (.ins (kl k) dx [])) (fun v H2 => v = .non ∧ Q (.ref x) H2) nE := by
  intro x dx hx hdx hne
  have hx2 : upd H1 dx (.own x) x = none := by rw [upd_ne (Ne.symm hne)]; exact hx
  obtain ⟨h1, h2⟩ := (hg.fresh (o := .own x) hdx).alloc (o := .ins (kl k) dx []) (c := .ins k []) hx2 ⟨x, dx, [], rfl, upd_same, .nil⟩
  have x12 := (Ext.fresh (ρ := ρ1) (o := .own x) hdx).trans h2
  have sx : SimV K (ρ1 ++ [some x]) B (upd (upd H1 dx (.own x)) x (.ins (kl k) dx [])) (.ref g1.length) (.ref x) := simV_ref.mpr ⟨by simp [hg.len], fun a e => by rw [← hg.len] at e; simp at e; rw [e]⟩
  refine ⟨_, B, _, .ref g1.length :: ds, _, _, h1, simL_cons.mpr ⟨_, _, rfl, sx, by rw [List.append_nil]; exact SimL.ext x12 _ _ hv⟩, by simp [hl], hΦ, fun d g' ρ' H' v r x3 hg3 hv3 => ?_, fun _ _ _ _ r => r.elim⟩
  obtain ⟨rfl, r⟩ := r
  exact ⟨simV_non.mp hv3, q _ g' ρ' H' _ r (x12.trans x3) hg3 (SimV.ext x3 _ _ sx)⟩
theorem make_pe (hX : XOk kl Φ GL T CL lv X N sc fn) {k j : Nat} {cd : Cd} {x : Str} {d : Df} {es : List Expr} {cs : List CE} {p pos : Pos} (hg : glB sc x = true) (hc : CL[k]? = some cd) (hx : cd.name = x) (hj : cd.init = j) (hT : T[j]? = some d) (har : d.ar = es.length + 1)
    (ha : AllE (fun c e => PE X e (tE kl Φ GL X.K W c)) cs es) (hn : es.all noStar = true) : PE X (.Call (.Name x p) es [] pos) (tE kl Φ GL X.K W (.make k j cs)) := by
  obtain ⟨hmg, cls, _, ⟨f, fd, ps, d', hmk, hT', hb, hps, F⟩, _⟩ := hX.cls k cd hc
  subst hx hj
  rw [hT] at hT'
  cases hT'
  obtain ⟨g1, g2, g3⟩ := gl_of hX hg
  cases es with
  | nil =>
    have hcs : cs = [] := by
      cases cs with
      | nil => rfl
      | cons _ _ => exact ha.elim
    subst hcs
    refine peI (pe_make0 (E := fun _ _ _ => False) hmk F hX.room1 g1 hmg hb .nil passL g2) fun σ H Q ⟨ρ, B, σd, g, R, rx, rel, hw, q, px⟩ => ?_
    exact make_t (vs := []) rel.g (simL_nil.mpr rfl) (by simpa using har.symm) hw q
  | cons e es =>
    have hn2 := hn
    rw [List.all_cons, Bool.and_eq_true] at hn2
    refine peI (pe_make (E := fun _ _ _ => False) hmk F hX.room1 g1 hmg hb .nil passL (pa_of ha hn) g2 (star_of hn2.1) (plain_of hn2.2)) fun σ H Q ⟨ρ, B, σd, g, R, rx, rel, hw, q, px⟩ => ?_
    refine ⟨ρ, B, σd, g, _, rx, rel, hw, fun ds g' ρ' H' vs r l x hg hv => ?_, px⟩
    exact make_t hg hv (by rw [l, ha.len, har]) r (q.ext x)
theorem shapeI_set {k : IK} {it : Expr} {es : List Expr} (h : shapeI sc k it = some es) (env : Env) (x : Value) : foldedSetIterable it env x = pure x := by
  cases it <;> first | rfl | (cases k <;> simp [shapeI] at h)
end
section
variable {kl : Nat → Addr} {Φ : Phi} {GL : List (Str × D)} {T : List Df} {CL : List Cd} {lv : Nat}
mutual
theorem soundE : ∀ (c : CE) {X : Cx} {N : List Str} {sc : Scope} {fn : Str → Bool} {W : L2.WX} {e : Expr}, XOk kl Φ GL T CL lv X N sc fn → Takes X W → chkE GL T CL N sc fn c e = true →
    PE X e (tE kl Φ GL X.K W c) ∧ (testC c = true → PT X e (tBo kl Φ GL X.K W c))
  | .var i, X, N, sc, fn, W, e, hX, tk, h => by
    unfold chkE at h
    split at h
    · simp only [Bool.and_eq_true, decide_eq_true_eq] at h
      have := var_pe (W := W) (pos := ‹_›) hX h.1 h.2
      exact ⟨this, fun _ => pt_pl this rfl⟩
    · cases h
  | .lit c, X, N, sc, fn, W, e, hX, tk, h => by
    obtain ⟨h1, h2⟩ := lit_pe (X := X) (kl := kl) (Φ := Φ) (W := W) h
    exact ⟨h1, fun _ => pt_pl h1 h2⟩
  | .neg i, X, N, sc, fn, W, e, hX, tk, h => by
    unfold chkE at h
    split at h
    · obtain rfl := eq_of_beq h
      exact ⟨neg_pe, fun z => by cases z⟩
    · cases h
  | .glob j, X, N, sc, fn, W, e, hX, tk, h => by
    unfold chkE at h
    split at h
    · rw [Bool.and_eq_true] at h
      obtain ⟨h1, h2⟩ := h
      split at h2
      · rename_i hj
        obtain rfl := eq_of_beq h2
        have := glob_pe (W := W) (pos := ‹_›) hX h1 hj
        exact ⟨this, fun _ => pt_pl this rfl⟩
      · cases h2
    · cases h
  | .prim p cs, X, N, sc, fn, W, e, hX, tk, h => by
    unfold chkE at h
    split at h
    · rename_i hs
      obtain ⟨h1, h2, _⟩ := soundEs cs hX tk h
      exact ⟨prim_pe hX hs h1 h2, fun _ => prim_pt hX hs h1 h2⟩
    · cases h
  | .meth p c cs, X, N, sc, fn, W, e, hX, tk, h => by
    unfold chkE at h
    split at h
    · rename_i hs
      rw [Bool.and_eq_true] at h
      obtain ⟨h1, h2, _⟩ := soundEs cs hX tk h.2
      have := meth_pe hX hs (soundE c hX tk h.1).1 h1 h2
      refine ⟨this, fun _ => pt_pl this ?_⟩
      unfold shapeM at hs
      split at hs
      · rfl
      · cases hs
    · cases h
  | .slc a l u, X, N, sc, fn, W, e, hX, tk, h => by
    unfold chkE at h
    split at h
    · simp only [Bool.and_eq_true] at h
      exact ⟨cut_tt (soundE a hX tk h.1.1).1 (soundE l hX tk h.1.2).1 (soundE u hX tk h.2).1, fun z => by cases z⟩
    · cases h
  | .and cs, X, N, sc, fn, W, e, hX, tk, h => by
    unfold chkE at h
    split at h
    · rw [Bool.and_eq_true] at h
      obtain ⟨h1, h2, h3⟩ := soundEs cs hX tk h.2
      have h0 : ∀ {es : List Expr}, (!es.isEmpty) = true → es ≠ [] := fun z e => by subst e; cases z
      exact ⟨and_pe h1 (h0 h.1), fun z => pw_pt (and_pw (h3 (by unfold testC at z; exact z)) (h0 h.1))⟩
    · cases h
  | .or cs, X, N, sc, fn, W, e, hX, tk, h => by
    unfold chkE at h
    split at h
    · rw [Bool.and_eq_true] at h
      obtain ⟨h1, h2, h3⟩ := soundEs cs hX tk h.2
      have h0 : ∀ {es : List Expr}, (!es.isEmpty) = true → es ≠ [] := fun z e => by subst e; cases z
      exact ⟨or_pe h1 (h0 h.1), fun z => pw_pt (or_pw (h3 (by unfold testC at z; exact z)) (h0 h.1))⟩
    · cases h
  | .not c, X, N, sc, fn, W, e, hX, tk, h => by
    unfold chkE at h
    split at h
    · obtain ⟨h1, h2⟩ := soundE c hX tk h
      exact ⟨not_pe h1, fun z => not_pt (h2 (by unfold testC at z; exact z))⟩
    · cases h
  | .tup cs, X, N, sc, fn, W, e, hX, tk, h => by
    unfold chkE at h
    split at h
    · obtain ⟨h1, h2, _⟩ := soundEs cs hX tk h
      exact ⟨tup_pe h1 h2, fun z => by cases z⟩
    · cases h
  | .lst cs, X, N, sc, fn, W, e, hX, tk, h => by
    unfold chkE at h
    split at h
    · obtain ⟨h1, h2, _⟩ := soundEs cs hX tk h
      exact ⟨lst_pe h1 h2, fun z => by cases z⟩
    · cases h
  | .dict0, X, N, sc, fn, W, e, hX, tk, h => by
    unfold chkE at h
    split at h
    · exact ⟨dict0_pe, fun z => by cases z⟩
    · cases h
  | .mat (.lst cs), X, N, sc, fn, W, e, hX, tk, h => by
    unfold chkE at h
    rw [Bool.and_eq_true] at h
    have h := h.2
    unfold chkE at h
    split at h
    · obtain ⟨h1, h2, _⟩ := soundEs cs hX tk h
      exact ⟨mat_lst h1 h2, fun z => by cases z⟩
    · cases h
  | .mat (.prim p cs), X, N, sc, fn, W, e, hX, tk, h => by
    unfold chkE at h
    rw [Bool.and_eq_true] at h
    obtain ⟨h0, h⟩ := h
    unfold chkE at h
    split at h
    · rename_i hs
      obtain ⟨h1, h2, _⟩ := soundEs cs hX tk h
      exact ⟨mat_prim hX h0 hs h1 h2, fun z => by cases z⟩
    · cases h
  | .frz c, X, N, sc, fn, W, e, hX, tk, h => by
    unfold chkE at h
    exact ⟨frz_pe (soundE c hX tk h).1, fun z => by cases z⟩
  | .comp t own k its tst elt, X, N, sc, fn, W, e, hX, tk, h => by
    unfold chkE at h
    split at h
    · simp only [Bool.and_eq_true, decide_eq_true_eq] at h
      obtain ⟨⟨⟨⟨⟨⟨⟨⟨⟨h1, h2⟩, h3⟩, h4⟩, h5⟩, h6⟩, h7⟩, h8⟩, h9⟩, h10⟩ := h
      split at h3
      · rename_i hs
        obtain ⟨a1, a2, _⟩ := soundEs its hX tk h3
        refine ⟨comp_pe hX (pi_of hX hs h2 a1 a2) (blkOk_by h1) (fun i hi => by simpa using List.all_eq_true.mp h5 i hi) (shapeI_set hs X.env) (fun s H C cl fp => ?_) (fun s H C cl fp => ?_) (fun s H C cl fp => ?_), fun z => by cases z⟩
        · exact soundT t (hX.blk h10 s H C cl fp) h4
        · obtain ⟨b1, b2, b3⟩ := soundEs tst (W := fun _ _ _ _ => False) (hX.blk h10 s H C cl fp) takes0 h6
          exact tst_pts (b3 h8) h7
        · exact (soundE elt (W := fun _ _ _ _ => False) (hX.blk h10 s H C cl fp) takes0 h9).1
      · cases h3
    · cases h
  | .mat (.comp t own k its tst elt), X, N, sc, fn, W, e, hX, tk, h => by
    unfold chkE at h
    rw [Bool.and_eq_true] at h
    have h := h.2
    unfold chkE at h
    split at h
    · simp only [Bool.and_eq_true, decide_eq_true_eq] at h
      obtain ⟨⟨⟨⟨⟨⟨⟨⟨⟨h1, h2⟩, h3⟩, h4⟩, h5⟩, h6⟩, h7⟩, h8⟩, h9⟩, h10⟩ := h
      split at h3
      · rename_i hs
        obtain ⟨a1, a2, _⟩ := soundEs its hX tk h3
        refine ⟨comp_peM hX (pi_of hX hs h2 a1 a2) (blkOk_by h1) (fun i hi => by simpa using List.all_eq_true.mp h5 i hi) (shapeI_set hs X.env) (fun s H C cl fp => ?_) (fun s H C cl fp => ?_) (fun s H C cl fp => ?_), fun z => by cases z⟩
        · exact soundT t (hX.blk h10 s H C cl fp) h4
        · obtain ⟨b1, b2, b3⟩ := soundEs tst (W := fun _ _ _ _ => False) (hX.blk h10 s H C cl fp) takes0 h6
          exact tst_pts (b3 h8) h7
        · exact (soundE elt (W := fun _ _ _ _ => False) (hX.blk h10 s H C cl fp) takes0 h9).1
      · cases h3
    · cases h
  | .compK t own i tst elt, X, N, sc, fn, W, e, hX, tk, h => by
    unfold chkE at h
    split at h
    · simp only [Bool.and_eq_true, decide_eq_true_eq] at h
      obtain ⟨⟨⟨⟨⟨⟨⟨⟨⟨h1, h2⟩, h3⟩, h4⟩, h5⟩, h6⟩, h7⟩, h8⟩, h9⟩, h10⟩ := h
      refine ⟨comp_peK hX (var0_pe hX h2 h3) (blkOk_by h1) (fun i hi => by simpa using List.all_eq_true.mp h5 i hi) (fun s H C cl fp => ?_) (fun s H C cl fp => ?_) (fun s H C cl fp => ?_), fun z => by cases z⟩
      · exact soundT t (hX.blk h10 s H C cl fp) h4
      · obtain ⟨b1, b2, b3⟩ := soundEs tst (W := fun _ _ _ _ => False) (hX.blk h10 s H C cl fp) takes0 h6
        exact tst_pts (b3 h8) h7
      · exact (soundE elt (W := fun _ _ _ _ => False) (hX.blk h10 s H C cl fp) takes0 h9).1
    · cases h
  | .fld k c f, X, N, sc, fn, W, e, hX, tk, h => by
    unfold chkE at h
    split at h
    · simp only [Bool.and_eq_true] at h
      obtain ⟨⟨⟨⟨h1, h2⟩, _⟩, h3⟩, h4⟩ := h
      obtain rfl := eq_of_beq h1
      split at h4
      · rename_i hc
        have := fun pos => fld_pe (pos := pos) hX hc (List.contains_iff_mem.mp h4) h2 (soundE c hX tk h3).1
        exact ⟨this _, fun z => by cases z⟩
      · cases h4
    · cases h
  | .make k j cs, X, N, sc, fn, W, e, hX, tk, h => by
    unfold chkE at h
    split at h
    · simp only [Bool.and_eq_true] at h
      obtain ⟨⟨h1, h2⟩, h3⟩ := h
      split at h3
      · rename_i hc
        simp only [Bool.and_eq_true] at h3
        obtain ⟨⟨h4, h5⟩, h6⟩ := h3
        split at h6
        · rename_i hT
          obtain ⟨a1, a2, _⟩ := soundEs cs hX tk h2
          have := fun p pos => make_pe (p := p) (pos := pos) (W := W) hX h1 hc (eq_of_beq h4) (eq_of_beq h5) hT (eq_of_beq h6) a1 a2
          exact ⟨this _ _, fun z => by cases z⟩
        · cases h6
      · cases h3
    · cases h
  | .own k j c m cs, X, N, sc, fn, W, e, hX, tk, h => by
    unfold chkE at h
    split at h
    · simp only [Bool.and_eq_true, decide_eq_true_eq] at h
      obtain ⟨⟨⟨⟨⟨⟨h1, h2⟩, h3⟩, h4⟩, h5⟩, h6⟩, h7⟩ := h
      obtain rfl := eq_of_beq h1
      split at h7
      · rename_i hc
        simp only [Bool.and_eq_true] at h7
        obtain ⟨h8, h9⟩ := h7
        split at h9
        · rename_i hT
          obtain ⟨a1, a2, _⟩ := soundEs cs hX tk h6
          have := own_pe hX tk hc (List.contains_iff_mem.mp h8) hT (eq_of_beq h9) h2 h3 h4 (soundE c hX tk h5).1 a1 a2
          exact ⟨this, fun _ => pt_pl this rfl⟩
        · cases h9
      · cases h7
    · cases h
  | .call f cs, X, N, sc, fn, W, e, hX, tk, h => by
    unfold chkE at h
    split at h
    · simp only [Bool.and_eq_true] at h
      obtain ⟨⟨⟨h1, h2⟩, h3⟩, h4⟩ := h
      split at h4
      · rename_i hT
        simp only [Bool.and_eq_true] at h4
        obtain ⟨a1, a2, _⟩ := soundEs cs hX tk h3
        have := fun p pos => call_pe (p := p) (pos := pos) hX tk h1 hT h4.1.1 (eq_of_beq h4.1.2) (eq_of_beq h4.2) (fun e => by subst e; cases h2) a1 a2
        exact ⟨this _ _, fun _ => pt_pl (this _ _) rfl⟩
      · cases h4
    · cases h
  | .mat (.var _), _, _, _, _, _, _, _, _, h => by unfold chkE at h; cases h
  | .mat (.lit _), _, _, _, _, _, _, _, _, h => by unfold chkE at h; cases h
  | .mat (.neg _), _, _, _, _, _, _, _, _, h => by unfold chkE at h; cases h
  | .mat (.glob _), _, _, _, _, _, _, _, _, h => by unfold chkE at h; cases h
  | .mat (.meth _ _ _), _, _, _, _, _, _, _, _, h => by unfold chkE at h; cases h
  | .mat (.slc _ _ _), _, _, _, _, _, _, _, _, h => by unfold chkE at h; cases h
  | .mat (.and _), _, _, _, _, _, _, _, _, h => by unfold chkE at h; cases h
  | .mat (.or _), _, _, _, _, _, _, _, _, h => by unfold chkE at h; cases h
  | .mat (.not _), _, _, _, _, _, _, _, _, h => by unfold chkE at h; cases h
  | .mat (.tup _), _, _, _, _, _, _, _, _, h => by unfold chkE at h; cases h
  | .mat .dict0, _, _, _, _, _, _, _, _, h => by unfold chkE at h; cases h
  | .mat (.mat _), _, _, _, _, _, _, _, _, h => by unfold chkE at h; cases h
  | .mat (.frz _), _, _, _, _, _, _, _, _, h => by unfold chkE at h; cases h
  | .mat (.compK _ _ _ _ _), _, _, _, _, _, _, _, _, h => by unfold chkE at h; cases h
  | .mat (.fld _ _ _), _, _, _, _, _, _, _, _, h => by unfold chkE at h; cases h
  | .mat (.make _ _ _), _, _, _, _, _, _, _, _, h => by unfold chkE at h; cases h
  | .mat (.own _ _ _ _ _), _, _, _, _, _, _, _, _, h => by unfold chkE at h; cases h
  | .mat (.call _ _), _, _, _, _, _, _, _, _, h => by unfold chkE at h; cases h
theorem soundEs : ∀ (cs : List CE) {X : Cx} {N : List Str} {sc : Scope} {fn : Str → Bool} {W : L2.WX} {es : List Expr}, XOk kl Φ GL T CL lv X N sc fn → Takes X W → chkEs GL T CL N sc fn cs es = true →
    AllE (fun c e => PE X e (tE kl Φ GL X.K W c)) cs es ∧ es.all noStar = true ∧ (testC.testL cs = true → AllE (fun c e => PT X e (tBo kl Φ GL X.K W c)) cs es)
  | [], X, N, sc, fn, W, es, hX, tk, h => by
    unfold chkEs at h
    cases es with
    | nil => exact ⟨trivial, rfl, fun _ => trivial⟩
    | cons _ _ => cases h
  | c :: cs, X, N, sc, fn, W, es, hX, tk, h => by
    unfold chkEs at h
    cases es with
    | nil => cases h
    | cons e es =>
      simp only [Bool.and_eq_true] at h
      obtain ⟨h1, h2⟩ := soundE c hX tk h.1.1
      obtain ⟨h3, h4, h5⟩ := soundEs cs hX tk h.2
      refine ⟨⟨h1, h3⟩, by rw [List.all_cons, h.1.2, h4]; rfl, fun z => ?_⟩
      unfold testC.testL at z
      rw [Bool.and_eq_true] at z
      exact ⟨h2 z.1, h5 z.2⟩
theorem soundT : ∀ (t : Tg) {X : Cx} {N : List Str} {sc : Scope} {fn : Str → Bool} {e : Expr}, XOk kl Φ GL T CL lv X N sc fn → chkT GL T CL N sc fn t e = true → PG X e (tTg kl Φ GL X.K t)
  | .name i, X, N, sc, fn, e, hX, h => by
    unfold chkT at h
    split at h
    · simp only [Bool.and_eq_true, Bool.or_eq_true, decide_eq_true_eq] at h
      exact name_pg hX h.1 h.2
    · cases h
  | .tup ts, X, N, sc, fn, e, hX, h => by
    unfold chkT at h
    split at h
    · obtain ⟨h1, h2, h3⟩ := soundTs ts hX h
      exact tup_pg hX h1 h2 h3
    · cases h
  | .sub o i, X, N, sc, fn, e, hX, h => by
    unfold chkT at h
    split at h
    · simp only [Bool.and_eq_true] at h
      exact sub_pg hX h.2 (soundE o (W := fun _ _ _ _ => False) hX takes0 h.1.1).1 (soundE i (W := fun _ _ _ _ => False) hX takes0 h.1.2).1
    · cases h
theorem soundTs : ∀ (ts : List Tg) {X : Cx} {N : List Str} {sc : Scope} {fn : Str → Bool} {es : List Expr}, XOk kl Φ GL T CL lv X N sc fn → chkTs GL T CL N sc fn ts es = true → PGs X es (tTgs kl Φ GL X.K ts) ∧ es.all noStar = true ∧ ts.length = es.length
  | [], X, N, sc, fn, es, hX, h => by
    unfold chkTs at h
    cases es with
    | nil => exact ⟨nil_pgs, rfl, rfl⟩
    | cons _ _ => cases h
  | t :: ts, X, N, sc, fn, es, hX, h => by
    unfold chkTs at h
    cases es with
    | nil => cases h
    | cons e es =>
      simp only [Bool.and_eq_true] at h
      obtain ⟨h1, h2, h3⟩ := soundTs ts hX h.2
      exact ⟨cons_pgs (soundT t hX h.1.1) h1 h.1.2, by rw [List.all_cons, h.1.2, h2]; rfl, by simp [h3]⟩
end
end
end Br

/-! Br, part L: statements. -/
namespace Br
open PySem PySem.Spec PyProof.Rows L2
/-! ### the check -/
def isComp : Expr → Bool
  | .ListComp _ _ _ _ => true
  | .SetComp _ _ _ _ => true
  | .DictComp _ _ _ _ _ => true
  | _ => false
/-- name = [..]: the store is ahead of the comprehension's own end -/
def swC (sc : Scope) (c : CE) (x : Str) (px : Pos) (v : Expr) : Bool := match v, c with
  | .ListComp _ _ scope lp, .comp _ _ _ _ _ _ => decide (sc.names.lookup x = some .local) && (px.line == lp.line) && !(scope.names.any fun (n, k) => n == x && (k == .local || k == .cell))
  | .ListComp _ _ scope lp, .mat (.comp _ _ _ _ _ _) => decide (sc.names.lookup x = some .local) && (px.line == lp.line) && !(scope.names.any fun (n, k) => n == x && (k == .local || k == .cell))
  | _, _ => false
section
variable (GL : List (Str × D)) (T : List Df) (CL : List Cd)
mutual
def chkS : List Str → Scope → CS → Stmt → Bool
  | N, sc, .asg t c, st => match st with
    | .Assign [tg] v _ => chkT GL T CL N sc (fun _ => true) t tg && chkE GL T CL N sc (fun _ => true) c v && (match tg, v with
      | .Name x px, v => if isComp v = true then swC sc c x px v else true
      | .Subscript _ _ _, _ => true
      | .Tuple _ _ _, .Tuple _ _ _ => false
      | .Tuple _ _ _, _ => true
      | _, _ => false)
    | _ => false
  | N, sc, .expr c, st => match st with
    | .Expr v _ => chkE GL T CL N sc (fun _ => true) c v && !(isComp v)
    | _ => false
  | N, sc, .ret c, st => match st with
    | .Return (some v) _ => chkE GL T CL N sc (fun _ => true) c v
    | _ => false
  | N, sc, .ifs c a b, st => match st with
    | .If e as bs _ => chkE GL T CL N sc (fun _ => true) c e && testC c && chkSs N sc a as && chkSs N sc b bs
    | _ => false
  | N, sc, .whil c b, st => match st with
    | .While e bs [] _ => chkE GL T CL N sc (fun _ => true) c e && testC c && chkSs N sc b bs
    | _ => false
  | N, sc, .for t k its b, st => match st with
    | .For tg it bs [] _ => chkT GL T CL N sc (fun _ => true) t tg && pairT k tg && (match shapeI sc k it with
      | some es => chkEs GL T CL N sc (fun _ => true) its es
      | none => false) && chkSs N sc b bs
    | _ => false
  | _, _, .brk, st => match st with
    | .Break _ => true
    | _ => false
  | N, sc, .sfld k o f c, st => match st with
    | .Assign [.Attribute a x _] v _ => x == f && chkE GL T CL N sc (fun _ => true) o a && chkE GL T CL N sc (fun _ => true) c v && (match CL[k]? with
      | some cd => cd.flds.contains f
      | none => false)
    | _ => false
  | _, _, .never, _ => true
def chkSs : List Str → Scope → List CS → List Stmt → Bool
  | _, _, [], sts => sts.isEmpty
  | N, sc, c :: cs, sts => match sts with
    | st :: sts => chkS N sc c st && chkSs N sc cs sts
    | [] => false
end
end

/-- what an end of the text's may be reached with -/
structure EndsOk (K : PySem.W.Frag) (kl : Nat → Addr) (E : En) (ρ : Rho) (B : Addr → Prop) (H : Hp) (W : L2.WX) (D : Ends) : Prop where
  nx : ∀ σd g ρ' H' σ', E.nx σd g → Ext ρ H ρ' H' → Rel K kl ρ' B H' σd g σ' → D.nx σ' H'
  rt : ∀ d g ρ' H' v, E.rt d g → Ext ρ H ρ' H' → SimG K kl ρ' B H' g → SimV K ρ' B H' d v → D.rt v H'
  bk : ∀ σd g ρ' H' σ', E.bk σd g → Ext ρ H ρ' H' → Rel K kl ρ' B H' σd g σ' → D.bk σ' H'
  ex : ∀ n σd g ρ' H' σ', E.ex n σd g → Ext ρ H ρ' H' → Rel K kl ρ' B H' σd g σ' → W (.ref (kl n)) none σ' H'
theorem EndsOk.ext {K kl E ρ B H W D ρ' H'} (h : EndsOk K kl E ρ B H W D) (x : Ext ρ H ρ' H') : EndsOk K kl E ρ' B H' W D :=
  ⟨fun σd g ρ2 H2 σ2 e x2 r => h.nx σd g ρ2 H2 σ2 e (x.trans x2) r, fun d g ρ2 H2 v e x2 r s => h.rt d g ρ2 H2 v e (x.trans x2) r s,
    fun σd g ρ2 H2 σ2 e x2 r => h.bk σd g ρ2 H2 σ2 e (x.trans x2) r, fun n σd g ρ2 H2 σ2 e x2 r => h.ex n σd g ρ2 H2 σ2 e (x.trans x2) r⟩
section
variable (kl : Nat → Addr) (Φ : Phi) (GL : List (Str × D)) (K : PySem.W.Frag) (W : L2.WX)
def tS (s : CS) : TS := fun D σ H => ∃ ρ B σd g E, Rel K kl ρ B H σd g σ ∧ wpS GL Φ s E σd g ∧ EndsOk K kl E ρ B H W D
def tSs (ss : List CS) : TS := fun D σ H => ∃ ρ B σd g E, Rel K kl ρ B H σd g σ ∧ wpSs GL Φ ss E σd g ∧ EndsOk K kl E ρ B H W D
end
theorem psI {X st t t'} (h : PS X st t) (i : ∀ D σ H, t' D σ H → t D σ H) : PS X st t' := ⟨fun pins s σ H D I hw => h.run pins s σ H D I (i _ _ _ hw)⟩
section
variable {kl : Nat → Addr} {Φ : Phi} {GL : List (Str × D)} {T : List Df} {CL : List Cd} {lv : Nat} {X : Cx} {N : List Str} {sc : Scope} {W : L2.WX}
theorem EndsOk.px {K E ρ B H D σd g σ} (h : EndsOk K kl E ρ B H W D) (r : Rel K kl ρ B H σd g σ) : PostX K kl (fun c g' => E.ex c σd g') ρ B H W σ :=
  fun n g' ρ' H' e x hg => h.ex n σd g' ρ' H' σ e x (r.ext x hg)
theorem tE_mono {c : CE} {σ H Q Q'} (h : tE kl Φ GL X.K W c σ H Q) (i : ∀ v H', Q v H' → Q' v H') : tE kl Φ GL X.K W c σ H Q' := by
  obtain ⟨ρ, B, σd, g, R, rx, rel, hw, q, px⟩ := h
  exact ⟨ρ, B, σd, g, R, rx, rel, hw, fun d g' ρ' H' v r x hg hv => i _ _ (q d g' ρ' H' v r x hg hv), px⟩
/-- an expression's value goes to a target -/
theorem asg_t {t : Tg} {c : CE} {D σ H} (h : tS kl Φ GL X.K W (.asg t c) D σ H) : tAsg (tE kl Φ GL X.K W c) (tTg kl Φ GL X.K t) D σ H := by
  obtain ⟨ρ, B, σd, g, E, rel, hw, eo⟩ := h
  refine ⟨ρ, B, σd, g, _, _, rel, hw, fun d g' ρ' H' v r x hg hv => ?_, eo.px rel⟩
  exact ⟨ρ', B, σd, g', d, E.nx, _, rel.ext x hg, hv, r, fun σd2 g2 ρ2 H2 σ2 r2 x2 rel2 _ => (eo.ext x).nx σd2 g2 ρ2 H2 σ2 r2 x2 rel2, fun _ _ z => z⟩
theorem name_t {i : Nat} {v σ H Kn} (h : tTg kl Φ GL X.K (.name i) v σ H Kn) : gName i v σ H Kn := by
  obtain ⟨ρ, B, σd, g, d, Rk, rx, rel, hv, hw, k, _⟩ := h
  exact k _ g ρ H _ hw (Ext.refl _ _) ⟨rel.g, rel.s.set i hv⟩ fun vs hvs => wipe_set (hvs i (by simp [slotsT]))
theorem sw_plain {v : Expr} {tg : Option Expr} {l : Nat} {env : Env} (h : isComp v = false) : swapsWith v tg l env = pure false := by
  cases v <;> first | rfl | cases h
theorem sole_sub {v o i : Expr} {p : Pos} {l : Nat} {env : Env} : swapsWithSole [.Subscript o i p] v l env = pure false := by
  cases v <;> rfl
theorem sole_tup {v : Expr} {es : List Expr} {k : Nat} {p : Pos} {l : Nat} {env : Env} : swapsWithSole [.Tuple es k p] v l env = pure false := by
  cases v <;> rfl
theorem stores_sub {v o i : Expr} {p : Pos} {env : Env} : swappedStores [.Subscript o i p] v env = pure none := by
  cases v <;> rfl
theorem setLc_ps (hX : XOk kl Φ GL T CL lv X N sc (fun _ => true)) (tk : Takes X W) {i : Nat} {x : Str} {px : Pos} {c : CE} {t' : Tg} {own : List (Str × Nat)} {k : IK} {its tst : List CE} {ce : CE} {elt : Expr} {gs : List Comprehension} {scope : Scope} {lp spos : Pos}
    (hlc : (∀ i ∈ slotsT t', i ∈ own.map (·.2)) → ∀ (σ : L2.St) (H : Hp) (Q : VK), tE kl Φ GL X.K W c σ H Q → tLc (tI kl Φ GL X.K W k its) (tTg kl Φ GL X.K t') (tTs kl Φ GL X.K (fun _ _ _ _ => False) tst) (tE kl Φ GL X.K (fun _ _ _ _ => False) ce) (own.map (·.2)) σ H Q)
    (hN : X.N.Nodup) (hi' : X.N[i]? = some x) (hl : sc.names.lookup x = some .local) (hp : (px.line == lp.line) = true) (ha : (scope.names.any fun (n, k) => n == x && (k == .local || k == .cell)) = false)
    (h2 : chkE GL T CL N sc (fun _ => true) (.comp t' own k its tst ce) (.ListComp elt gs scope lp) = true) : PS X (.Assign [.Name x px] (.ListComp elt gs scope lp) spos) (tS kl Φ GL X.K W (.asg (.name i) c)) := by
  unfold chkE at h2
  split at h2
  · rename_i e0 tg0 it0 ifs0 sc0 p0 heq
    cases heq
    simp only [Bool.and_eq_true, decide_eq_true_eq] at h2
    obtain ⟨⟨⟨⟨⟨⟨⟨⟨⟨k1, k2⟩, k3⟩, k4⟩, k5⟩, k6⟩, k7⟩, k8⟩, k9⟩, k10⟩ := h2
    split at k3
    · rename_i hs
      obtain ⟨a1, a2, _⟩ := soundEs its hX tk k3
      have hsl : ∀ i ∈ slotsT t', i ∈ own.map (·.2) := fun i hi => by simpa using List.all_eq_true.mp k5 i hi
      have hyl : X.env.scope.names.lookup x = some .local := by rw [hX.hsc]; exact hl
      refine psI (ps_setLc (g := tTg kl Φ GL X.K t') (tt := tTs kl Φ GL X.K (fun _ _ _ _ => False) tst) (te := tE kl Φ GL X.K (fun _ _ _ _ => False) ce) hX.calm hN hi' hyl (sw_true (by rw [hX.hsc]; exact hX.fk) hyl hp ha) (pi_of hX hs k2 a1 a2) (by rw [hX.hN, hX.hsc]; exact blkOk_by k1) (fun s H C cl fp => soundT t' (hX.blk k10 s H C cl fp) k4) (fun s H C cl fp => ?_) (fun s H C cl fp => (soundE ce (W := fun _ _ _ _ => False) (hX.blk k10 s H C cl fp) takes0 k9).1) (shapeI_set hs X.env)) fun D σ H z => ?_
      · obtain ⟨b1, b2, b3⟩ := soundEs tst (W := fun _ _ _ _ => False) (hX.blk k10 s H C cl fp) takes0 k6
        exact tst_pts (b3 k8) k7
      · have z := asg_t z
        refine hlc hsl σ H _ ?_
        have z : tE kl Φ GL X.K W _ σ H (fun x H1 => tTg kl Φ GL X.K (.name i) x σ H1 D.nx) := z
        exact tE_mono z fun x H1 w => name_t w
    · cases k3
  · cases h2
theorem asg_ps (hX : XOk kl Φ GL T CL lv X N sc (fun _ => true)) (tk : Takes X W) {t : Tg} {c : CE} {st : Stmt} (h : chkS GL T CL N sc (.asg t c) st = true) : PS X st (tS kl Φ GL X.K W (.asg t c)) := by
  unfold chkS at h
  split at h
  · rename_i tg v spos
    simp only [Bool.and_eq_true] at h
    obtain ⟨⟨h1, h2⟩, h3⟩ := h
    have pg := soundT t hX h1
    have pe := (soundE c hX tk h2).1
    split at h3
    · rename_i x px
      have ht : ∃ i, t = .name i ∧ N[i]? = some x := by
        cases t with
        | name i =>
          unfold chkT at h1
          simp only [Bool.and_eq_true, decide_eq_true_eq] at h1
          exact ⟨i, rfl, h1.1⟩
        | tup _ => unfold chkT at h1; cases h1
        | sub _ _ => unfold chkT at h1; cases h1
      obtain ⟨i, rfl, hi⟩ := ht
      have hN : X.N.Nodup := by rw [hX.hN]; exact hX.nd
      have hi' : X.N[i]? = some x := by rw [hX.hN]; exact hi
      by_cases hc : isComp v = true
      · rw [if_pos hc] at h3
        unfold swC at h3
        split at h3
        · rename_i elt gs scope lp t' own k its tst ce
          simp only [Bool.and_eq_true, decide_eq_true_eq, Bool.not_eq_true'] at h3
          obtain ⟨⟨hl, hp⟩, ha⟩ := h3
          exact setLc_ps hX tk (fun hsl σ H Q z => comp_lc hsl σ H Q z) hN hi' hl hp ha h2
        · rename_i elt gs scope lp t' own k its tst ce
          simp only [Bool.and_eq_true, decide_eq_true_eq, Bool.not_eq_true'] at h3
          obtain ⟨⟨hl, hp⟩, ha⟩ := h3
          unfold chkE at h2
          rw [Bool.and_eq_true] at h2
          exact setLc_ps hX tk (fun hsl σ H Q z => comp_lcM hsl σ H Q z) hN hi' hl hp ha h2.2
        · cases h3
      · refine psI (ps_set hN hi' (by
          rw [hX.hsc]
          unfold chkT at h1
          simp only [Bool.and_eq_true, Bool.or_eq_true, decide_eq_true_eq] at h1
          exact h1.2.imp id fun z => z.1) pe (sw_plain (by simpa using hc)) (.inl (hX.fnb _ rfl))) fun D σ H z => ?_
        have z : tE kl Φ GL X.K W c σ H (fun x H1 => tTg kl Φ GL X.K (.name i) x σ H1 D.nx) := asg_t z
        exact tE_mono z fun x H1 w => name_t w
    · exact psI (ps_asg pe pg sole_sub stores_sub (by rfl)) fun D σ H z => asg_t z
    · cases h3
    · rename_i hnt
      refine psI (ps_asg pe pg sole_tup ?_ (by rfl)) fun D σ H z => asg_t z
      cases v <;> first | rfl | exact absurd rfl (hnt _ _ _)
    · cases h3
  · cases h
theorem sw_attr {v o : Expr} {f : Str} {p : Pos} {l : Nat} {env : Env} : swapsWith v (some (.Attribute o f p)) l env = pure false := by
  cases v <;> rfl
theorem setF_iff {g : G} {k : Nat} {f : Str} {v : D} {Kg : G → Prop} {d : D} (h : setF g k f v Kg d) : ∃ n fs, d = .ref n ∧ g[n]? = some (.ins k fs) ∧ fs.length < 1000 ∧ Kg (g.set n (.ins k (putD f v fs))) := by
  unfold setF at h
  split at h
  · split at h
    · rename_i c fs he
      obtain ⟨rfl, h1, h2⟩ := h
      exact ⟨_, fs, rfl, he, h1, h2⟩
    · exact h.elim
  · exact h.elim
/-- a statement in a def -/
structure SOk (kl : Nat → Addr) (Φ : Phi) (GL : List (Str × D)) (T : List Df) (CL : List Cd) (lv : Nat) (X : Cx) (N : List Str) (sc : Scope) (W : L2.WX) : Prop where
  x : XOk kl Φ GL T CL lv X N sc (fun _ => true)
  tk : Takes X W
  own : PassesOwn (model X.prog X.w) X.A X.env X.xe
theorem wpSs_cons {s : CS} {ss : List CS} {E σ g} : wpSs GL Φ (s :: ss) E σ g = wpS GL Φ s { E with nx := fun σ' g' => wpSs GL Φ ss E σ' g' } σ g := by
  conv => lhs; unfold wpSs
theorem wpSs_nil {E σ g} : wpSs GL Φ [] E σ g = E.nx σ g := by
  conv => lhs; unfold wpSs
theorem wpE_mat {c σ g Q ex} : wpE GL Φ (.mat c) σ g Q ex = wpE GL Φ c σ g (fun d g1 => match d with
    | .tl ds => Q (.ref g1.length) (g1 ++ [.lst ds])
    | _ => False) ex := by
  (conv => lhs; unfold wpE) <;> try rfl
theorem wpS_for {t k its b E σ g} : wpS GL Φ (.for t k its b) E σ g = wpEs GL Φ its σ g (fun ds g1 => match items g1 k ds with
    | some xs => rngOk k ds ∧ forL (fun x E' σ' g' => wpT GL Φ t x σ' g' (fun σ2 g2 => wpSs GL Φ b E' σ2 g2) (fun _ _ => False)) (steadyAt g1 k ds) { E with bk := E.nx } xs σ g1
    | none => False) (fun c g' => E.ex c σ g') := by
  (conv => lhs; unfold wpS) <;> try rfl
theorem wpS_whil {c b E σ g} : wpS GL Φ (.whil c b) E σ g = ∃ n, whileN (fun σ g K => wpE GL Φ c σ g (fun d g1 => isBl d fun k => K k g1) (fun c g' => E.ex c σ g')) (fun E' σ' g' => wpSs GL Φ b E' σ' g') E n σ g := by
  conv => lhs; unfold wpS
theorem for_ps (hS : SOk kl Φ GL T CL lv X N sc W) {t : Tg} {tg it : Expr} {k : IK} {its : List CE} {b : List CS} {bs : List Stmt} {pos : Pos} (hi : PI X tg it (tI kl Φ GL X.K W k its)) (hg : PG X tg (tTg kl Φ GL X.K t)) (hb : PSs X bs (tSs kl Φ GL X.K W b))
    (hs : ∀ x, foldedSetIterable it X.env x = pure x) : PS X (.For tg it bs [] pos) (tS kl Φ GL X.K W (.for t k its b)) := by
  refine psI (ps_for hS.own hS.x.calm hi hg hb hs) fun D σ H ⟨ρ, B, σd, g, E, rel, hw, eo⟩ => ?_
  rw [wpS_for] at hw
  refine ⟨ρ, B, σd, g, fun ds xs g1 => forL (fun x E' σ' g' => wpT GL Φ t x σ' g' (fun σ2 g2 => wpSs GL Φ b E' σ2 g2) (fun _ _ => False)) (steadyAt g1 k ds) { E with bk := E.nx } xs σd g1, _, rel, hw, fun ds xs g1 ρ1 H1 J hit hR x hg1 hW => ?_, eo.px rel⟩
  refine ⟨fun i m σ2 H2 => i + m = xs.length ∧ ∃ ρ2 σd2 g2, Ext ρ1 H1 ρ2 H2 ∧ Rel X.K kl ρ2 B H2 σd2 g2 σ2 ∧ forL (fun x E' σ' g' => wpT GL Φ t x σ' g' (fun σ2 g2 => wpSs GL Φ b E' σ2 g2) (fun _ _ => False)) (steadyAt g1 k ds) { E with bk := E.nx } (xs.drop i) σd2 g2,
    ⟨xs.length, by omega, ρ1, σd, g1, Ext.refl _ _, rel.ext x hg1, hR⟩, fun i m σ2 H2 ⟨him, ρ2, σd2, g2, x2, rel2, hc⟩ => ?_⟩
  cases hx : xs.drop i with
  | nil =>
    rw [hx] at hc
    unfold forL at hc
    have hle : xs.length ≤ i := List.drop_eq_nil_iff.mp hx
    exact .inl ⟨(hW B ρ2 H2 g2 (fun _ z => .inl z) x2 rel2.g hc.1).1 i hle, eo.nx σd2 g2 ρ2 H2 σ2 hc.2 (x.trans x2) rel2⟩
  | cons d rest =>
    rw [hx] at hc
    unfold forL at hc
    have hil : i < xs.length := by
      apply Nat.lt_of_not_le
      intro z
      rw [List.drop_eq_nil_iff.mpr z] at hx
      cases hx
    have hd : xs[i]? = some d := by
      have := List.getElem?_drop (xs := xs) (i := i) (j := 0)
      rw [hx] at this
      simpa using this.symm
    have hrest : xs.drop (i + 1) = rest := by
      rw [← List.drop_drop, hx]
      rfl
    obtain ⟨hgo, hy⟩ := (hW B ρ2 H2 g2 (fun _ z => .inl z) x2 rel2.g hc.1).2 i d hd
    refine .inr ⟨hgo, fun σ3 H3 => ∃ ρ3 σd3 g3, Ext ρ1 H1 ρ3 H3 ∧ Rel X.K kl ρ3 B H3 σd3 g3 σ3 ∧ forL (fun x E' σ' g' => wpT GL Φ t x σ' g' (fun σ2 g2 => wpSs GL Φ b E' σ2 g2) (fun _ _ => False)) (steadyAt g1 k ds) { E with bk := E.nx } rest σd3 g3,
      fun σ3 H3 ⟨ρ3, σd3, g3, z⟩ => ⟨m - 1, by omega, by omega, ρ3, σd3, g3, by rw [hrest]; exact z⟩, fun y H3 hyl => ?_⟩
    obtain ⟨hg3, x3, hv3⟩ := hy y H3 hyl
    have x13 := x2.trans x3
    refine ⟨ρ2, B, σd2, g2, d, _, _, rel2.ext x3 hg3, hv3, hc.2, fun σd4 g4 ρ4 H4 σ4 r4 x4 rel4 _ => ?_, fun _ _ z => z⟩
    refine ⟨ρ4, B, σd4, g4, _, rel4, r4, ?_⟩
    have x14 := x13.trans x4
    have eo4 := eo.ext (x.trans x14)
    exact ⟨fun σd5 g5 ρ5 H5 σ5 e x5 r => ⟨ρ5, σd5, g5, x14.trans x5, r, e⟩, eo4.rt, eo4.nx, eo4.ex⟩
theorem while_ps (hS : SOk kl Φ GL T CL lv X N sc W) {c : CE} {e : Expr} {b : List CS} {bs : List Stmt} {pos : Pos} (hc : PT X e (tBo kl Φ GL X.K W c)) (hb : PSs X bs (tSs kl Φ GL X.K W b)) : PS X (.While e bs [] pos) (tS kl Φ GL X.K W (.whil c b)) := by
  refine psI (ps_while hS.own hc hb) fun D σ H ⟨ρ, B, σd, g, E, rel, hw, eo⟩ => ?_
  rw [wpS_whil] at hw
  obtain ⟨n, hw⟩ := hw
  refine ⟨fun m σ2 H2 => ∃ ρ2 σd2 g2, Ext ρ H ρ2 H2 ∧ Rel X.K kl ρ2 B H2 σd2 g2 σ2 ∧ whileN (fun σ g K => wpE GL Φ c σ g (fun d g1 => isBl d fun k => K k g1) (fun c g' => E.ex c σ g')) (fun E' σ' g' => wpSs GL Φ b E' σ' g') E m σd2 g2,
    ⟨n, ρ, σd, g, Ext.refl _ _, rel, hw⟩, fun m σ2 H2 ⟨ρ2, σd2, g2, x2, rel2, hc⟩ => ?_⟩
  cases m with
  | zero => unfold whileN at hc; exact hc.elim
  | succ m =>
    unfold whileN at hc
    refine ⟨ρ2, B, σd2, g2, _, _, rel2, hc, fun k g3 ρ3 H3 r x3 hg3 => ?_, (eo.ext x2).px rel2⟩
    have rel3 := rel2.ext x3 hg3
    have x13 := x2.trans x3
    have eo3 := eo.ext x13
    cases k with
    | false =>
      simp only [Bool.false_eq_true, if_false] at r ⊢
      exact eo3.nx σd2 g3 ρ3 H3 σ2 r (Ext.refl _ _) rel3
    | true =>
      simp only [if_true] at r ⊢
      refine ⟨fun σ4 H4 => ∃ ρ4 σd4 g4, Ext ρ H ρ4 H4 ∧ Rel X.K kl ρ4 B H4 σd4 g4 σ4 ∧ whileN (fun σ g K => wpE GL Φ c σ g (fun d g1 => isBl d fun k => K k g1) (fun c g' => E.ex c σ g')) (fun E' σ' g' => wpSs GL Φ b E' σ' g') E m σd4 g4,
        fun σ4 H4 z => ⟨m, by omega, z⟩, ρ3, B, σd2, g3, _, rel3, r, ?_⟩
      exact ⟨fun σd5 g5 ρ5 H5 σ5 e x5 r => ⟨ρ5, σd5, g5, x13.trans x5, r, e⟩, eo3.rt, eo3.nx, eo3.ex⟩
end
section
variable {kl : Nat → Addr} {Φ : Phi} {GL : List (Str × D)} {T : List Df} {CL : List Cd} {lv : Nat}
mutual
theorem soundS : ∀ (s : CS) {X : Cx} {N : List Str} {sc : Scope} {W : L2.WX} {st : Stmt}, SOk kl Φ GL T CL lv X N sc W → chkS GL T CL N sc s st = true → PS X st (tS kl Φ GL X.K W s)
  | .asg t c, X, N, sc, W, st, hS, h => asg_ps hS.x hS.tk h
  | .expr c, X, N, sc, W, st, hS, h => by
    unfold chkS at h
    split at h
    · simp only [Bool.and_eq_true, Bool.not_eq_true'] at h
      refine psI (ps_expr (soundE c hS.x hS.tk h.1).1 (sw_plain h.2)) fun D σ H ⟨ρ, B, σd, g, E, rel, hw, eo⟩ => ?_
      exact ⟨ρ, B, σd, g, _, _, rel, hw, fun d g' ρ' H' v r x hg hv => eo.nx σd g' ρ' H' σ r x (rel.ext x hg), eo.px rel⟩
    · cases h
  | .ret c, X, N, sc, W, st, hS, h => by
    unfold chkS at h
    split at h
    · refine psI (ps_ret (soundE c hS.x hS.tk h).1) fun D σ H ⟨ρ, B, σd, g, E, rel, hw, eo⟩ => ?_
      exact ⟨ρ, B, σd, g, _, _, rel, hw, fun d g' ρ' H' v r x hg hv => eo.rt d g' ρ' H' v r x hg hv, eo.px rel⟩
    · cases h
  | .ifs c a b, X, N, sc, W, st, hS, h => by
    unfold chkS at h
    split at h
    · simp only [Bool.and_eq_true] at h
      obtain ⟨⟨⟨h1, h2⟩, h3⟩, h4⟩ := h
      refine psI (ps_if ((soundE c hS.x hS.tk h1).2 h2) (soundSs a hS h3) (soundSs b hS h4)) fun D σ H ⟨ρ, B, σd, g, E, rel, hw, eo⟩ => ?_
      refine ⟨ρ, B, σd, g, fun k g1 => if k = true then wpSs GL Φ a E σd g1 else wpSs GL Φ b E σd g1, _, rel, hw, fun k g' ρ' H' r x hg => ?_, eo.px rel⟩
      cases k with
      | true => exact ⟨ρ', B, σd, g', E, rel.ext x hg, r, eo.ext x⟩
      | false => exact ⟨ρ', B, σd, g', E, rel.ext x hg, r, eo.ext x⟩
    · cases h
  | .whil c b, X, N, sc, W, st, hS, h => by
    unfold chkS at h
    split at h
    · simp only [Bool.and_eq_true] at h
      exact while_ps hS ((soundE c hS.x hS.tk h.1.1).2 h.1.2) (soundSs b hS h.2)
    · cases h
  | .for t k its b, X, N, sc, W, st, hS, h => by
    unfold chkS at h
    split at h
    · simp only [Bool.and_eq_true] at h
      obtain ⟨⟨⟨h1, h2⟩, h3⟩, h4⟩ := h
      split at h3
      · rename_i hs
        obtain ⟨a1, a2, _⟩ := soundEs its hS.x hS.tk h3
        exact for_ps hS (pi_of hS.x hs h2 a1 a2) (soundT t hS.x h1) (soundSs b hS h4) (shapeI_set hs X.env)
      · cases h3
    · cases h
  | .brk, X, N, sc, W, st, hS, h => by
    unfold chkS at h
    split at h
    · exact psI ps_break fun D σ H ⟨ρ, B, σd, g, E, rel, hw, eo⟩ => eo.bk σd g ρ H σ hw (Ext.refl _ _) rel
    · cases h
  | .sfld k o f c, X, N, sc, W, st, hS, h => by
    unfold chkS at h
    split at h
    · rename_i aa xx pp vv pos'
      simp only [Bool.and_eq_true] at h
      obtain ⟨⟨⟨h1, h2⟩, h3⟩, h4⟩ := h
      obtain rfl := eq_of_beq h1
      split at h4
      · rename_i hc
        obtain ⟨_, cls, na, _, _⟩ := hS.x.cls k _ hc
        refine psI (ps_fld (soundE o hS.x hS.tk h2).1 (soundE c hS.x hS.tk h3).1 sw_attr) fun D σ H ⟨ρ, B, σd, g, E, rel, hw, eo⟩ => ?_
        refine ⟨ρ, B, σd, g, _, _, rel, hw, fun d g' ρ' H' v r x hg hv => ?_, eo.px rel⟩
        refine ⟨ρ', B, σd, g', _, _, rel.ext x hg, r, fun d2 g2 ρ2 H2 v2 r2 x2 hg2 hv2 => ?_, (eo.ext x).px (rel.ext x hg)⟩
        obtain ⟨n, fs, rfl, he, hl, hk⟩ := setF_iff r2
        obtain ⟨a, dx, vs, rfl, hn, ha, hF⟩ := hg2.ins hv2 he
        have hw2 : Ext ρ2 H2 ρ2 (upd H2 a (.ins (kl k) dx (putF xx v vs))) := .write (mem_set_live hn) (nfI ha)
        have hg3 := hg2.write (c := .ins k (putD xx d fs)) hn (nfI ha) ⟨a, dx, _, rfl, upd_same, SimF.put (SimF.ext hw2 hF) _ (SimV.ext (x2.trans hw2) _ _ hv)⟩
        exact ⟨a, kl k, dx, vs, rfl, ha, cls, na _ (List.contains_iff_mem.mp h4), by rw [← Paired.length hF]; exact hl, eo.nx σd _ ρ2 _ σ hk ((x.trans x2).trans hw2) (rel.ext ((x.trans x2).trans hw2) hg3)⟩
      · cases h4
    · cases h
  | .never, X, N, sc, W, st, hS, h => psI ps_never fun D σ H ⟨ρ, B, σd, g, E, rel, hw, eo⟩ => hw
theorem soundSs : ∀ (ss : List CS) {X : Cx} {N : List Str} {sc : Scope} {W : L2.WX} {sts : List Stmt}, SOk kl Φ GL T CL lv X N sc W → chkSs GL T CL N sc ss sts = true → PSs X sts (tSs kl Φ GL X.K W ss)
  | [], X, N, sc, W, sts, hS, h => by
    unfold chkSs at h
    cases sts with
    | nil => exact ⟨fun pins s σ H D I ⟨ρ, B, σd, g, E, rel, hw, eo⟩ => pss_nil.run pins s σ H D I (eo.nx σd g ρ H σ hw (Ext.refl _ _) rel)⟩
    | cons _ _ => cases h
  | c :: cs, X, N, sc, W, sts, hS, h => by
    unfold chkSs at h
    cases sts with
    | nil => cases h
    | cons st sts =>
      simp only [Bool.and_eq_true] at h
      refine ⟨fun pins s σ H D I ⟨ρ, B, σd, g, E, rel, hw, eo⟩ => (pss_cons (soundS c hS h.1) (soundSs cs hS h.2)).run pins s σ H D I ?_⟩
      rw [wpSs_cons] at hw
      refine ⟨ρ, B, σd, g, _, rel, hw, fun σd2 g2 ρ2 H2 σ2 e x r => ⟨ρ2, B, σd2, g2, E, r, e, eo.ext x⟩, eo.rt, eo.bk, eo.ex⟩
end
end
end Br

/-! Br, part M: defs, by the fuel. -/
namespace Br
open PySem PySem.Spec PyProof.Rows L2
section
variable {K : PySem.W.Frag} {kl : Nat → Addr} {ρ ρ' : Rho} {B : Addr → Prop} {H H' : Hp} {g g' : G}
mutual
theorem SimV.closed : ∀ (d : D) (v : V), SimV K ρ B H d v → Br.closed ρ.length d
  | .non, _, _ => trivial
  | .bl _, _, _ => trivial
  | .int _, _, _ => trivial
  | .str _, _, _ => trivial
  | .tup ds, _, h => by
    unfold SimV at h
    obtain ⟨a, vs, e, h1, h2⟩ := h
    unfold Br.closed
    exact SimL.closed ds vs h2
  | .tl ds, _, h => by
    unfold SimV at h
    obtain ⟨a, vs, e, h1, h2⟩ := h
    unfold Br.closed
    exact SimL.closed ds vs h2
  | .ref n, _, h => by
    unfold SimV at h
    exact h.1
theorem SimL.closed : ∀ (ds : List D) (vs : List V), SimL K ρ B H ds vs → closedL ρ.length ds
  | [], _, _ => trivial
  | d :: ds, _, h => by
    unfold SimL at h
    obtain ⟨v, r, e, h1, h2⟩ := h
    exact ⟨SimV.closed d v h1, SimL.closed ds r h2⟩
end
theorem pair_of {α β : Type} {F : α → β → Prop} : ∀ {l₁ : List α} {l₂ : List β}, Paired F l₁ l₂ → ∀ a ∈ l₁, ∃ b, F a b
  | _, _, .nil, _, h => by cases h
  | _, _, .cons r t, a, h => by
    rcases List.mem_cons.mp h with rfl | h
    · exact ⟨_, r⟩
    · exact pair_of t a h
theorem keyD_closed {n : Nat} {d : D} {k : Key} (h : keyD d = some k) : closed n d := by
  cases d with
  | int _ => trivial
  | str _ => trivial
  | _ => cases h
theorem keyL_closed {n : Nat} : ∀ {ds : List D} {ks : List Key}, ds.mapM keyD = some ks → closedL n ds
  | [], _, _ => trivial
  | d :: ds, ks, h => by
    rw [List.mapM_cons] at h
    cases h1 : keyD d with
    | none => rw [h1] at h; cases h
    | some k =>
      rw [h1] at h
      cases h2 : ds.mapM keyD with
      | none => rw [h2] at h; cases h
      | some r => exact ⟨keyD_closed h1, keyL_closed h2⟩
theorem keyT_closed {n : Nat} {d : D} {k : List Key} (h : keyT d = some k) : closed n d := by
  cases d with
  | tup ds => exact keyL_closed h
  | _ => cases h
theorem SimC.closed {x c} (h : SimC K kl ρ B H x c) : closedC ρ.length c := by
  cases c with
  | dead => trivial
  | lst ds => obtain ⟨a, vs, e, h1, h2⟩ := h; exact h2.closed
  | dct kvs => obtain ⟨a, vs, e, h1, h2⟩ := h; exact fun p hp => let ⟨q, z⟩ := pair_of h2 p hp; ⟨keyD_closed z.1, SimV.closed _ _ z.2⟩
  | lkd kvs => obtain ⟨a, o, vs, e, h1, h2⟩ := h; exact fun p hp => let ⟨q, z⟩ := pair_of h2 p hp; ⟨keyD_closed z.1, SimV.closed _ _ z.2⟩
  | dtt kvs => obtain ⟨a, vs, e, h1, h2⟩ := h; exact fun p hp => let ⟨q, z⟩ := pair_of h2 p hp; ⟨keyT_closed z.1, SimV.closed _ _ z.2⟩
  | ins c fs => obtain ⟨a, dx, vs, e, h1, h2⟩ := h; exact fun p hp => let ⟨q, z⟩ := pair_of h2 p hp; SimV.closed _ _ z.2
theorem mem_take {n : Nat} {x : Option Addr} (h : x ∈ ρ.take n) : x ∈ ρ := List.mem_of_mem_take h
theorem take_at {α : Type} {xs : List α} {n m : Nat} (h : m < n) : (xs.take n)[m]? = xs[m]? := by
  rw [List.getElem?_take, if_pos h]
/-- the first n cells and some more -/
structure Sb (n : Nat) (ρ ρ2 : Rho) : Prop where
  len : n ≤ ρ2.length
  sub : ∀ a, some a ∈ ρ2 → some a ∈ ρ
  at_ : ∀ m, m < n → ρ2[m]? = ρ[m]?
mutual
theorem SimV.sub {n : Nat} {ρ2 : Rho} (z : Sb n ρ ρ2) : ∀ (d : D) (v : V), closed n d → SimV K ρ B H d v → SimV K ρ2 B H d v
  | .non, _, _, h => h
  | .bl _, _, _, h => h
  | .int _, _, _, h => h
  | .str _, _, _, h => h
  | .tup ds, _, c, h => by
    unfold SimV at h ⊢
    unfold Br.closed at c
    obtain ⟨a, vs, e, h1, h2⟩ := h
    exact ⟨a, vs, e, h1.imp (fun y => ⟨y.1, fun m => y.2.1 (z.sub _ m), y.2.2⟩) id, SimL.sub z ds vs c h2⟩
  | .tl ds, _, c, h => by
    unfold SimV at h ⊢
    unfold Br.closed at c
    obtain ⟨a, vs, e, h1, h2⟩ := h
    exact ⟨a, vs, e, h1.imp (fun y => ⟨y.1, fun m => y.2.1 (z.sub _ m), y.2.2⟩) id, SimL.sub z ds vs c h2⟩
  | .ref m, _, c, h => by
    unfold SimV at h ⊢
    have c : m < n := c
    refine ⟨Nat.lt_of_lt_of_le c z.len, fun a e => h.2 a ?_⟩
    rw [z.at_ m c] at e
    exact e
theorem SimL.sub {n : Nat} {ρ2 : Rho} (z : Sb n ρ ρ2) : ∀ (ds : List D) (vs : List V), closedL n ds → SimL K ρ B H ds vs → SimL K ρ2 B H ds vs
  | [], _, _, h => h
  | d :: ds, _, c, h => by
    unfold SimL at h ⊢
    obtain ⟨v, r, e, h1, h2⟩ := h
    exact ⟨v, r, e, SimV.sub z d v c.1 h1, SimL.sub z ds r c.2 h2⟩
end
theorem Sb.take {n : Nat} (hn : n ≤ ρ.length) : Sb n ρ (ρ.take n) := ⟨by rw [List.length_take]; omega, fun _ m => mem_take m, fun m h => take_at h⟩
theorem pair_mem {α β : Type} {F F' : α → β → Prop} : ∀ {l₁ : List α} {l₂ : List β}, Paired F l₁ l₂ → (∀ a b, a ∈ l₁ → F a b → F' a b) → Paired F' l₁ l₂
  | _, _, .nil, _ => .nil
  | _, _, .cons r t, h => .cons (h _ _ List.mem_cons_self r) (pair_mem t fun a b m => h a b (List.mem_cons_of_mem _ m))
theorem SimC.sub {n : Nat} {ρ2 : Rho} (y : Sb n ρ ρ2) {x c} (h : SimC K kl ρ B H x c) (z : closedC n c) : SimC K kl ρ2 B H x c := by
  cases c with
  | dead => exact h
  | lst ds => obtain ⟨a, vs, e, h1, h2⟩ := h; exact ⟨a, vs, e, h1, SimL.sub y _ _ z h2⟩
  | dct kvs => obtain ⟨a, vs, e, h1, h2⟩ := h; exact ⟨a, vs, e, h1, pair_mem h2 fun p q m w => ⟨w.1, SimV.sub y _ _ (z p m).2 w.2⟩⟩
  | lkd kvs => obtain ⟨a, o, vs, e, h1, h2⟩ := h; exact ⟨a, o, vs, e, h1, pair_mem h2 fun p q m w => ⟨w.1, SimV.sub y _ _ (z p m).2 w.2⟩⟩
  | dtt kvs => obtain ⟨a, vs, e, h1, h2⟩ := h; exact ⟨a, vs, e, h1, pair_mem h2 fun p q m w => ⟨w.1, SimV.sub y _ _ (z p m).2 w.2⟩⟩
  | ins c fs => obtain ⟨a, dx, vs, e, h1, h2⟩ := h; exact ⟨a, dx, vs, e, h1, pair_mem h2 fun p q m w => ⟨w.1, SimV.sub y _ _ (z p m) w.2⟩⟩
/-- a def's own cells are forgotten -/
theorem SimG.cutR (h0 : SimG K kl ρ B H g) (h : SimG K kl ρ' B H' g') (x : Ext ρ H ρ' H') (ok : okPop g g') : SimG K kl (ρ'.take g.length) B H' (g'.take g.length) ∧ Ext ρ H (ρ'.take g.length) H' := by
  have hn : g.length ≤ ρ'.length := by rw [← h0.len]; exact x.len
  have hn2 : g.length ≤ g'.length := by rw [← h.len]; exact hn
  refine ⟨⟨by rw [List.length_take, List.length_take, h.len], fun m k a e1 e2 => ?_, fun m c e => ?_, fun a b => ⟨(h.hid a b).1, fun m => (h.hid a b).2 (mem_take m)⟩⟩, ⟨?_, fun m a hm e => ?_, fun a m => x.new a (mem_take m), x.keep, x.frz⟩⟩
  · have l1 := (List.getElem?_eq_some_iff.mp e1).1
    have l2 := (List.getElem?_eq_some_iff.mp e2).1
    rw [List.length_take] at l1 l2
    rw [take_at (by omega)] at e1 e2
    exact h.inj m k a e1 e2
  · have l1 := (List.getElem?_eq_some_iff.mp e).1
    rw [List.length_take] at l1
    have hm : m < g.length := by omega
    rw [take_at hm] at e
    obtain ⟨y, e1, h1⟩ := h.cell m c e
    refine ⟨y, by rw [take_at hm]; exact e1, h1.sub (.take hn) ?_⟩
    obtain ⟨c', e2, h2⟩ := ok m hm
    rw [e] at e2
    cases e2
    rcases h2 with h2 | h2
    · obtain ⟨y', _, h3⟩ := h0.cell m c h2
      rw [← h0.len]
      exact h3.closed
    · exact h2
  · rw [List.length_take, h0.len]
    omega
  · rw [h0.len] at hm
    rw [take_at hm] at e
    exact x.old m a (by rw [h0.len]; exact hm) e
/-- .. but the cell that is handed out -/
theorem SimG.cutR1 (h0 : SimG K kl ρ B H g) (h : SimG K kl ρ' B H' g') (x : Ext ρ H ρ' H') (ok : okPop g g') {m : Nat} {c : C} {v : V} (hm : g.length ≤ m) (hc : g'[m]? = some c) (cc : closedC g.length c) (hv : SimV K ρ' B H' (.ref m) v) :
    ∃ ρ2, SimG K kl ρ2 B H' (g'.take g.length ++ [c]) ∧ Ext ρ H ρ2 H' ∧ SimV K ρ2 B H' (.ref g.length) v := by
  obtain ⟨h1, h2⟩ := h0.cutR h x ok
  obtain ⟨y, e1, hy⟩ := h.cell m c hc
  have hn : g.length ≤ ρ'.length := by rw [← h0.len]; exact x.len
  have hn2 : g.length ≤ g'.length := by rw [← h.len]; exact hn
  have lt : (ρ'.take g.length).length = g.length := by rw [List.length_take]; omega
  have lg : (g'.take g.length).length = g.length := by rw [List.length_take]; omega
  have hyn : ∀ a, y = some a → some a ∉ ρ'.take g.length := fun a ea z => by
    obtain ⟨k, hk⟩ := List.mem_iff_getElem?.mp z
    have l := (List.getElem?_eq_some_iff.mp hk).1
    rw [lt] at l
    rw [take_at l] at hk
    have := h.inj k m a hk (by rw [e1, ea])
    omega
  have ym : ∀ a, y = some a → some a ∈ ρ' := fun a ea => mem_set_live (by rw [e1, ea])
  have sb : Sb g.length ρ' (ρ'.take g.length ++ [y]) := ⟨by rw [List.length_append, lt]; omega, fun a z => by
    rcases List.mem_append.mp z with z | z
    · exact mem_take z
    · simp at z
      exact ym a z.symm, fun k hk => by rw [List.getElem?_append_left (by rw [lt]; exact hk), take_at hk]⟩
  have hx : ∀ (k : Nat) a, (ρ'.take g.length ++ [y])[k]? = some (some a) → (k < g.length ∧ ρ'[k]? = some (some a)) ∨ (k = g.length ∧ y = some a) := fun k a e => by
    by_cases hk : k < g.length
    · rw [sb.at_ k hk] at e
      exact .inl ⟨hk, e⟩
    · have hk2 : k = g.length := by
        have := (List.getElem?_eq_some_iff.mp e).1
        rw [List.length_append, lt] at this
        simp at this
        omega
      subst hk2
      rw [List.getElem?_append_right (by rw [lt]; exact Nat.le_refl _), lt] at e
      simp at e
      exact .inr ⟨rfl, e⟩
  refine ⟨ρ'.take g.length ++ [y], ⟨by simp [lt, lg], fun n k a ea eb => ?_, fun k c' e => ?_, fun a b => ⟨(h.hid a b).1, fun z => (h.hid a b).2 (sb.sub a z)⟩⟩, ⟨?_, fun k a hk e => ?_, fun a z => x.new a (sb.sub a z), x.keep, x.frz⟩, simV_ref.mpr ⟨by simp [lt], fun a e => ?_⟩⟩
  · rcases hx n a ea with ⟨h3, h4⟩ | ⟨h3, h4⟩ <;> rcases hx k a eb with ⟨h5, h6⟩ | ⟨h5, h6⟩
    · exact h.inj n k a h4 h6
    · have := h.inj n m a h4 (by rw [e1, h6])
      omega
    · have := h.inj k m a h6 (by rw [e1, h4])
      omega
    · omega
  · by_cases hk : k < g.length
    · rw [List.getElem?_append_left (by rw [lg]; exact hk), take_at hk] at e
      obtain ⟨z, e3, h3⟩ := h.cell k c' e
      refine ⟨z, by rw [sb.at_ k hk]; exact e3, h3.sub sb ?_⟩
      obtain ⟨c2, e2, h4⟩ := ok k hk
      rw [e] at e2
      cases e2
      rcases h4 with h4 | h4
      · obtain ⟨_, _, h5⟩ := h0.cell k c' h4
        rw [← h0.len]
        exact h5.closed
      · exact h4
    · have hk2 : k = g.length := by
        have := (List.getElem?_eq_some_iff.mp e).1
        rw [List.length_append, lg] at this
        simp at this
        omega
      subst hk2
      rw [List.getElem?_append_right (by rw [lg]; exact Nat.le_refl _), lg] at e
      simp at e
      subst e
      refine ⟨y, ?_, hy.sub sb cc⟩
      rw [List.getElem?_append_right (by rw [lt]; exact Nat.le_refl _), lt]
      simp
  · rw [List.length_append, lt, h0.len]
    omega
  · have hk : k < g.length := by rw [← h0.len]; exact hk
    rw [sb.at_ k hk] at e
    exact x.old k a (by rw [h0.len]; exact hk) e
  · rcases hx g.length a e with ⟨h3, _⟩ | ⟨_, h4⟩
    · omega
    · exact (simV_ref.mp hv).2 a (by rw [e1, h4])
theorem sl_start {N : List Str} {ds : List D} {vs : List V} {n : Nat} (hn : n = N.length) (h : SimL K ρ B H ds vs) : Sl K ρ B H (startD n ds) (L2.start N vs) := by
  subst hn
  have hl := h.len
  refine ⟨by simp [startD, L2.start, hl], fun i d e => ?_⟩
  unfold startD at e
  unfold L2.start
  by_cases hi : i < ds.length
  · rw [List.getElem?_append_left (by simpa using hi), List.getElem?_map, List.getElem?_eq_getElem hi] at e
    cases e
    obtain ⟨v, hv, hs⟩ := h.get (List.getElem?_eq_getElem hi)
    exact ⟨v, by rw [List.getElem?_append_left (by simp; omega), List.getElem?_map, hv]; rfl, hs⟩
  · rw [List.getElem?_append_right (by simpa using hi)] at e
    rw [List.getElem?_replicate] at e
    split at e
    · cases e
    · cases e
end
/-- a def of the text that the core's stands for -/
structure DefOk (K : PySem.W.Frag) (mg : Str → Option Value) (GL : List (Str × D)) (T : List Df) (CL : List Cd) (d : Df) (f : Addr) (fd : FuncData) (ps N : List Str) (qual : Str) (st : Stmt) : Prop where
  fn : Fun K d.name qual st f fd
  g : d.top = true → mg d.name = some (.ref f)
  k : PySem.W.keepIn K (.ref f) = true
  b : Binds K fd ps []
  ar : ps.length = d.ar
  sc : FnScope N ps (defScope st)
  n : N.length = d.slots
  c : chkSs GL T CL N (defScope st) d.body (defBody st) = true
/-- a class of the text that the core's stands for -/
structure ClOk (K : PySem.W.Frag) (mg : Str → Option Value) (kl : Nat → Addr) (GL : List (Str × D)) (T : List Df) (CL : List Cd) (k : Nat) (cd : Cd) : Prop where
  g : mg cd.name = some (.ref (kl k))
  c : Cls K (kl k)
  n : ∀ f ∈ cd.flds, NoAttr K (kl k) f
  i : ∃ f fd ps N qual st d, Mk K (kl k) f ∧ T[cd.init]? = some d ∧ DefOk K mg GL T CL d f fd ps N qual st
  m : ∀ p ∈ cd.meths, ∃ f fd ps N qual st d, Meth K (kl k) p.1 f ∧ T[p.2]? = some d ∧ DefOk K mg GL T CL d f fd ps N qual st
/-- where the classes lie -/
def klOf (K : PySem.W.Frag) (CL : List Cd) (k : Nat) : Addr := match CL[k]? with
  | some cd => (match PySem.W.nsIn K mainGlobals cd.name with
    | some (some (.ref c)) => c
    | _ => 0)
  | none => 0
section
variable {P : Program} {w : World} {K : PySem.W.Frag} {mg : Str → Option Value} {base : Heap} {kl : Nat → Addr} {GL : List (Str × D)} {T : List Df} {CL : List Cd}
/-- every def keeps what the core tells of it -/
theorem fn_all (hT : ∀ (j : Nat) d, T[j]? = some d → ∃ f fd ps N qual st, DefOk K mg GL T CL d f fd ps N qual st)
    (hG : ∀ (j : Nat) x d, GL[j]? = some (x, d) → ∃ u v, mg x = some u ∧ L2.RelV v u ∧ ∀ ρ B H, SimV K ρ B H d v) (hB : ∀ x ∈ BL, mg x = none) (hC : ∀ (k : Nat) cd, CL[k]? = some cd → ClOk K mg kl GL T CL k cd) :
    ∀ (k j : Nat) (d : Df), T[j]? = some d → ∀ {f fd ps N qual st}, DefOk K mg GL T CL d f fd ps N qual st → FnOk P w K mg base (L2.CX P w) (2 * k) f fd ps (spD kl (phi GL T k) K j d.ar)
  | 0, j, d, h, f, fd, ps, N, qual, st, F => by
    refine ⟨fun vs H Q E ⟨ρ, B, g, ds, R, rx, _, _, _, hw, _⟩ => hw.elim, fun A outer s H args us vs Q E _ _ _ _ ⟨ρ, B, g, ds, R, rx, _, _, _, hw, _⟩ => hw.elim⟩
  | k + 1, j, d, h, f, fd, ps, N, qual, st, F => by
    have ih : ∀ (j : Nat) d, T[j]? = some d → d.top = true → ∃ f fd ps, mg d.name = some (.ref f) ∧ PySem.W.keepIn K (.ref f) = true ∧ Binds K fd ps [] ∧ ps.length = d.ar ∧ FnOk P w K mg base (L2.CX P w) (2 * k) f fd ps (spD kl (phi GL T k) K j d.ar) := fun j d hj ht =>
      let ⟨f, fd, ps, N, qual, st, F⟩ := hT j d hj
      ⟨f, fd, ps, F.g ht, F.k, F.b, F.ar, fn_all hT hG hB hC k j d hj F⟩
    have ic : ∀ (c : Nat) cd, CL[c]? = some cd → mg cd.name = some (.ref (kl c)) ∧ Cls K (kl c) ∧ (∀ f ∈ cd.flds, NoAttr K (kl c) f) ∧
        (∃ f fd ps d, Mk K (kl c) f ∧ T[cd.init]? = some d ∧ Binds K fd ps [] ∧ ps.length = d.ar ∧ FnOk P w K mg base (L2.CX P w) (2 * k) f fd ps (spD kl (phi GL T k) K cd.init d.ar)) ∧
        ∀ p ∈ cd.meths, ∃ f fd ps d, Meth K (kl c) p.1 f ∧ T[p.2]? = some d ∧ Binds K fd ps [] ∧ ps.length = d.ar ∧ FnOk P w K mg base (L2.CX P w) (2 * k) f fd ps (spD kl (phi GL T k) K p.2 d.ar) := fun c cd hc =>
      let z := hC c cd hc
      ⟨z.g, z.c, z.n, (let ⟨f, fd, ps, N, qual, st, d, h1, h2, F⟩ := z.i; ⟨f, fd, ps, d, h1, h2, F.b, F.ar, fn_all hT hG hB hC k _ d h2 F⟩), fun p hp =>
        let ⟨f, fd, ps, N, qual, st, d, h1, h2, F⟩ := z.m p hp
        ⟨f, fd, ps, d, h1, h2, F.b, F.ar, fn_all hT hG hB hC k _ d h2 F⟩⟩
    refine F.fn.okX (k := 2 * k + 1) F.sc (fun vs H Q E ⟨ρ, B, g, ds, R, rx, _, hv, hl, _⟩ => by rw [← hv.len, hl, F.ar]) fun cdv A outer s H vs Q E hr hsp => ?_
    obtain ⟨ρ, B, g, ds, R, rx, hg, hv, hl, hw, q, px⟩ := hsp
    have hS : SOk kl (phi GL T k) GL T CL (2 * k) (cxOf (L2.CX P w) P w K mg base N qual (defScope st) f cdv A outer s H E) N (defScope st) (fun cls d _ H => E cls d H) :=
      ⟨⟨rfl, F.sc.nd, rfl, F.sc.kind, rfl, fun _ _ => rfl, hG, hB, ic, ih, hr⟩, takes_of rfl rfl rfl rfl, passes_of rfl⟩
    refine ⟨_, soundSs d.body hS F.c, ?_⟩
    have hw : (match T[j]? with
      | some d => runD GL (phi GL T k) d ds g R rx
      | none => False) := hw
    rw [h] at hw
    obtain ⟨_, hw⟩ := hw
    have key : ∀ {R' : D → G → Prop} {d1 g1 ρ1 H1 v1}, fin d.pop g R' d1 g1 → Ext ρ H ρ1 H1 → SimG K kl ρ1 B H1 g1 → SimV K ρ1 B H1 d1 v1 → ∃ d2 g2 ρ2, R' d2 g2 ∧ Ext ρ H ρ2 H1 ∧ SimG K kl ρ2 B H1 g2 ∧ SimV K ρ2 B H1 d2 v1 := by
      intro R' d1 g1 ρ1 H1 v1 hf x hg1 hv1
      unfold fin at hf
      split at hf
      · exact ⟨d1, g1, ρ1, hf, x, hg1, hv1⟩
      · obtain ⟨hc, ok, r⟩ := hf
        obtain ⟨h1, h2⟩ := hg.cutR hg1 x ok
        exact ⟨d1, _, _, r, h2, h1, SimV.sub (.take (by rw [← hg.len]; exact x.len)) _ _ hc hv1⟩
      · obtain ⟨ok, hf⟩ := hf
        split at hf
        · rename_i m
          obtain ⟨hm, hf⟩ := hf
          split at hf
          · rename_i c hc
            obtain ⟨ρ2, h1, h2, h3⟩ := hg.cutR1 hg1 x ok hm hc hf.1 hv1
            exact ⟨_, _, ρ2, hf.2, h2, h1, h3⟩
          · exact hf.elim
        · exact hf.elim
    refine ⟨ρ, B, _, g, _, ⟨hg, sl_start F.n.symm hv⟩, hw, ⟨fun σd g1 ρ1 H1 σ1 e x r => ?_, fun d1 g1 ρ1 H1 v1 e x hg1 hv1 => ?_, fun σd g1 ρ1 H1 σ1 e x r => e.elim, fun n σd g1 ρ1 H1 σ1 e x r => ?_⟩⟩
    · obtain ⟨d2, g2, ρ2, r2, x2, hg2, hv2⟩ := key (v1 := .non) e x r.g (simV_non.mpr rfl)
      exact q _ _ _ _ _ r2 x2 hg2 hv2
    · obtain ⟨d2, g2, ρ2, r2, x2, hg2, hv2⟩ := key e x hg1 hv1
      exact q _ _ _ _ _ r2 x2 hg2 hv2
    · obtain ⟨d2, g2, ρ2, r2, x2, hg2, hv2⟩ := key (R' := fun _ g' => rx n g') (d1 := .non) (v1 := .non) e x r.g (simV_non.mpr rfl)
      exact px _ _ _ _ r2 x2 hg2
end
/-- what the law's own def is to tell -/
theorem walk_br {l : PySem.W.OpenLaw} {q : Program} {loose : List Str} {XP : (Str → Option Value) → Heap → Prop} {YP : World → Heap → Prop} {dr : DefRec} {K : Params → PySem.W.Frag} {GL : List (Str × D)} {T : List Df} {CL : List Cd} {jl k : Nat} {dl : Df} {x : Str}
    (hn : l.most = some 63) (hdf : dr.params.defaults = []) (hr : Room (2 * k) callerA) (hY : ∀ (w : World) (h : Heap), YP w h → (K w.params).In h) (hj : T[jl]? = some dl) (har : dl.ar = 1)
    (F : ∀ (w : World) (mg : Str → Option Value) (fa : Addr) (h : Heap), (K w.params).In h → h.Ns mainGlobals mg → mg dr.name = some (.ref fa) →
      ∃ fd N qual st, DefOk (K w.params) mg GL T CL dl fa fd [x] N qual st ∧ (∀ (s : Shared) (u : Value), BindsTo s fd ⟨[u], []⟩ [(x, u)]) ∧
        (∀ (j : Nat) d, T[j]? = some d → ∃ f fd ps N qual st, DefOk (K w.params) mg GL T CL d f fd ps N qual st) ∧ (∀ (j : Nat) x d, GL[j]? = some (x, d) → ∃ u v, mg x = some u ∧ L2.RelV v u ∧ ∀ ρ B H, SimV (K w.params) ρ B H d v) ∧ (∀ x ∈ BL, mg x = none) ∧ ∀ (k : Nat) cd, CL[k]? = some cd → ClOk (K w.params) mg (klOf (K w.params) CL) GL T CL k cd)
    (main : ∀ ns : List Int, ns.length ≤ 63 → (∀ z ∈ ns, Builtin.Int.intBits z ≤ 1048576) → phi GL T k jl [.tl (ns.map .int)] [] (fun d _ => d = .bl true) (fun _ _ => False)) :
    PySem.W.WalkO q loose XP YP l.row.toRowW dr [] (fun f vs => PySem.call f vs) := by
  refine walk_ofB (n := 63) (k := 2 * k) (x := x) (CX := fun w => L2.CX l.prog w) (sp := fun w => spD (klOf (K w.params) CL) (phi GL T k) (K w.params) jl 1) hn (by decide) hdf hr hY (fun w mg fa h KX G hmg => ?_) (fun w H a ns hl hb hO hS => ?_) fun w H s e s' z => ?_
  · obtain ⟨fd, N, qual, st, F0, hbt, hT, hG, hB, hC⟩ := F w mg fa h KX G hmg
    refine ⟨fd, hbt, fun base _ _ => ?_⟩
    have := fn_all (P := l.prog) (w := w) (base := base) (kl := klOf (K w.params) CL) hT hG hB hC k jl dl hj F0
    rw [har] at this
    exact this
  · have hl2 : RdL (K w.params) [] (fun _ => False) H a (ns.map V.int) := by
      rcases hS with h | h
      · exact .inl ⟨h, fun z => (nomatch z), fun z => z⟩
      · exact .inr h
    refine ⟨[], fun _ => False, [], [.tl (ns.map .int)], _, _, ⟨rfl, fun n m a e => by simp at e, fun n c e => by simp at e, fun a z => z.elim⟩, simL_cons.mpr ⟨.ref a, [], rfl, simV_tl.mpr ⟨a, _, rfl, hl2, simL_int ns⟩, simL_nil.mpr rfl⟩, rfl, main ns hl hb, fun d g' ρ' H' v r x hg hv => ?_, fun c g' ρ' H' r _ _ => r.elim⟩
    subst r
    exact simV_bl.mp hv
  · obtain ⟨_, _, _, _, _, _, _, _, _, _, _, _, h⟩ := z
    exact h.elim
/-- a def's facts, from the text behind the top -/
theorem def_mk {K : PySem.W.Frag} {h : Heap} {mg : Str → Option Value} {GL : List (Str × D)} {T : List Df} {CL : List Cd} {d : Df} {f : Addr} {ps N : List Str} {qual : Str} {st : Stmt} {oc kV dc pm cd ct : Value} {od an : Option Addr} {sl : Array (Option Value)} (X : K.In h) (G : h.Ns mainGlobals mg)
    (ck : ps.length = d.ar ∧ N.length = d.slots ∧ C8.scC N ps (defScope st) = true ∧ chkSs GL T CL N (defScope st) d.body (defBody st) = true)
    (b : ∀ (kV doc pm : Value) (an : Option Addr) (cdv ct : Value) (us : List Value), us.length = ps.length → bindArgs (PySem.W.fnOf d.name qual (defArgs st) (defBody st) (defScope st) .none kV doc pm an cdv ct) ⟨us, []⟩ = pure (ps.zip us))
    (a : PySem.W.nsIn K mainGlobals d.name = some (some (.ref f))) (l : K.lookup f = some ⟨oc, od, .func (PySem.W.fnOf d.name qual (defArgs st) (defBody st) (defScope st) .none kV dc pm an cd ct), sl⟩) (c : PySem.W.codeIn K cd qual = true) (k : PySem.W.keepIn K (.ref f) = true) :
    DefOk K mg GL T CL d f (PySem.W.fnOf d.name qual (defArgs st) (defBody st) (defScope st) .none kV dc pm an cd ct) ps N qual st :=
  ⟨fun_mk l c k, fun _ => PySem.W.mg_of X G a, k, (fun_mk l c k).binds b, ck.1, C8.fnScope_by ck.2.2.1, ck.2.1, ck.2.2.2⟩
/-- a method's facts -/
theorem meth_mk {K : PySem.W.Frag} {mg : Str → Option Value} {GL : List (Str × D)} {T : List Df} {CL : List Cd} {d : Df} {f : Addr} {ps N : List Str} {qual : Str} {st : Stmt} {oc kV dc pm cd ct : Value} {od an : Option Addr} {sl : Array (Option Value)} (ht : d.top = false)
    (ck : ps.length = d.ar ∧ N.length = d.slots ∧ C8.scC N ps (defScope st) = true ∧ chkSs GL T CL N (defScope st) d.body (defBody st) = true)
    (b : ∀ (kV doc pm : Value) (an : Option Addr) (cdv ct : Value) (us : List Value), us.length = ps.length → bindArgs (PySem.W.fnOf d.name qual (defArgs st) (defBody st) (defScope st) .none kV doc pm an cdv ct) ⟨us, []⟩ = pure (ps.zip us))
    (l : K.lookup f = some ⟨oc, od, .func (PySem.W.fnOf d.name qual (defArgs st) (defBody st) (defScope st) .none kV dc pm an cd ct), sl⟩) (c : PySem.W.codeIn K cd qual = true) (k : PySem.W.keepIn K (.ref f) = true) :
    DefOk K mg GL T CL d f (PySem.W.fnOf d.name qual (defArgs st) (defBody st) (defScope st) .none kV dc pm an cd ct) ps N qual st :=
  ⟨fun_mk l c k, (fun z => by rw [ht] at z; cases z), k, (fun_mk l c k).binds b, ck.1, C8.fnScope_by ck.2.2.1, ck.2.1, ck.2.2.2⟩
end Br

/-! Br, part Q: plain laws of the core's readings. -/
namespace Br
open PySem PySem.PyData

/-! ### loops -/
theorem forL_go {body : D → En → S → G → Prop} {st : G → Prop} {E : En} {xs : List D} (Inv : Nat → S → G → Prop) {σ : S} {g : G} (h0 : Inv 0 σ g)
    (hs : ∀ (i : Nat) x σ g (F : S → G → Prop), xs[i]? = some x → Inv i σ g → (∀ σ' g', Inv (i + 1) σ' g' → F σ' g') → st g ∧ body x { E with nx := F } σ g)
    (hd : ∀ σ g, Inv xs.length σ g → st g ∧ E.nx σ g) : forL body st E xs σ g := by
  have key : ∀ (ys : List D) (i : Nat) σ g, i + ys.length = xs.length → xs.drop i = ys → Inv i σ g → forL body st E ys σ g := by
    intro ys
    induction ys with
    | nil =>
      intro i σ g hl hd' hi
      simp at hl
      subst hl
      exact hd σ g hi
    | cons y ys ih =>
      intro i σ g hl hdr hi
      have hx : xs[i]? = some y := by
        have := List.getElem?_drop (xs := xs) (i := i) (j := 0)
        rw [hdr] at this
        simpa using this.symm
      unfold forL
      refine hs i y σ g _ hx hi fun σ' g' hi' => ih (i + 1) σ' g' (by simp at hl; omega) ?_ hi'
      rw [← List.drop_drop, hdr]
      rfl
  exact key xs 0 σ g (by simp) (by simp) h0
theorem compL_go {stp : D → G → (Option D → G → Prop) → Prop} {st : G → Prop} {fin : List D → G → Prop} {xs : List D} (Inv : Nat → List D → G → Prop) {acc : List D} {g : G} (h0 : Inv 0 acc g)
    (hs : ∀ (i : Nat) x acc g (F : Option D → G → Prop), xs[i]? = some x → Inv i acc g → (∀ y g', acc.length < LINE → Inv (i + 1) (acc ++ [y]) g' → F (some y) g') → (∀ g', Inv (i + 1) acc g' → F none g') → st g ∧ stp x g F)
    (hl : ∀ i acc g, Inv i acc g → i < xs.length → acc.length < LINE) (hd : ∀ acc g, Inv xs.length acc g → st g ∧ fin acc g) : compL stp st fin xs acc g := by
  have key : ∀ (ys : List D) (i : Nat) acc g, i + ys.length = xs.length → xs.drop i = ys → Inv i acc g → compL stp st fin ys acc g := by
    intro ys
    induction ys with
    | nil =>
      intro i acc g hl' hd' hi
      simp at hl'
      subst hl'
      exact hd acc g hi
    | cons y ys ih =>
      intro i acc g hl' hdr hi
      have hx : xs[i]? = some y := by
        have := List.getElem?_drop (xs := xs) (i := i) (j := 0)
        rw [hdr] at this
        simpa using this.symm
      have hdr2 : xs.drop (i + 1) = ys := by
        rw [← List.drop_drop, hdr]
        rfl
      unfold compL
      have hacc : acc.length < LINE := hl i acc g hi (by simp at hl'; omega)
      exact hs i y acc g _ hx hi (fun z g' _ hi' => ⟨hacc, ih (i + 1) _ g' (by simp at hl'; omega) hdr2 hi'⟩) fun g' hi' => ih (i + 1) _ g' (by simp at hl'; omega) hdr2 hi'
  exact key xs 0 acc g (by simp) (by simp) h0
/-- a comprehension that changes nothing -/
theorem compL_map {stp : D → G → (Option D → G → Prop) → Prop} {st : G → Prop} {fin : List D → G → Prop} {xs : List D} {g : G} (f : D → D) (hst : st g) (hl : xs.length ≤ LINE)
    (hs : ∀ x ∈ xs, ∀ F : Option D → G → Prop, F (some (f x)) g → stp x g F) (hd : fin (xs.map f) g) : compL stp st fin xs [] g := by
  refine compL_go (fun i acc g' => g' = g ∧ acc = (xs.take i).map f ∧ i ≤ xs.length) ⟨rfl, by simp, Nat.zero_le _⟩ ?_ ?_ ?_
  · rintro i x acc g' F hx ⟨rfl, rfl, hi⟩ hF _
    have hil : i < xs.length := (List.getElem?_eq_some_iff.mp hx).1
    refine ⟨hst, hs x (List.mem_of_getElem? hx) F (hF _ _ (by simp; omega) ⟨rfl, ?_, hil⟩)⟩
    rw [List.take_add_one, hx]
    simp
  · rintro i acc g' ⟨_, rfl, _⟩ hi
    simp
    omega
  · rintro acc g' ⟨rfl, rfl, _⟩
    exact ⟨hst, by simpa using hd⟩
theorem compL_fm {stp : D → G → (Option D → G → Prop) → Prop} {st : G → Prop} {fin : List D → G → Prop} {xs : List D} {g : G} (f : D → Option D) (hst : st g) (hl : xs.length ≤ LINE)
    (hs : ∀ x ∈ xs, ∀ F : Option D → G → Prop, F (f x) g → stp x g F) (hd : fin (xs.filterMap f) g) : compL stp st fin xs [] g := by
  have hle : ∀ i, i ≤ xs.length → ((xs.take i).filterMap f).length ≤ i := fun i hi => by
    have := List.length_filterMap_le f (xs.take i)
    simp at this
    omega
  refine compL_go (fun i acc g' => g' = g ∧ acc = (xs.take i).filterMap f ∧ i ≤ xs.length) ⟨rfl, by simp, Nat.zero_le _⟩ ?_ ?_ ?_
  · rintro i x acc g' F hx ⟨rfl, rfl, hi⟩ hF hN
    have hil : i < xs.length := (List.getElem?_eq_some_iff.mp hx).1
    have h1 := hle i hi
    have e : (xs.take (i + 1)).filterMap f = (xs.take i).filterMap f ++ (f x).toList := by
      rw [List.take_add_one, hx, List.filterMap_append]
      cases h : f x <;> simp [h]
    refine ⟨hst, hs x (List.mem_of_getElem? hx) F ?_⟩
    cases h : f x with
    | none => exact hN _ ⟨rfl, by rw [e, h]; simp, hil⟩
    | some y => exact hF _ _ (by omega) ⟨rfl, by rw [e, h]; simp, hil⟩
  · rintro i acc g' ⟨_, rfl, hi⟩ hi2
    have := hle i hi
    omega
  · rintro acc g' ⟨rfl, rfl, _⟩
    exact ⟨hst, by simpa using hd⟩

/-! ### data -/
def pd : Nat → D → Bool
  | _, .int _ => true
  | _, .non => true
  | _, .str s => strOk s
  | n + 1, .tup ds => ds.all (pd n)
  | n + 1, .tl ds => ds.all (pd n)
  | _, _ => false
theorem resL_id {g : G} : ∀ {ds : List D}, (∀ d ∈ ds, res g d = d) → resL g ds = ds
  | [], _ => rfl
  | d :: ds, h => by
    unfold resL
    rw [h d List.mem_cons_self, resL_id fun x hx => h x (List.mem_cons_of_mem _ hx)]
theorem pd_res {g : G} : ∀ (n : Nat) (d : D), pd n d = true → res g d = d
  | n, .int _, _ => rfl
  | n, .non, _ => rfl
  | n, .str _, _ => rfl
  | n + 1, .tup ds, h => by
    unfold pd at h
    unfold res
    rw [resL_id fun d hd => pd_res n d (List.all_eq_true.mp h d hd)]
  | n + 1, .tl ds, h => by
    unfold pd at h
    unfold res
    rw [resL_id fun d hd => pd_res n d (List.all_eq_true.mp h d hd)]
  | n, .bl _, h => by unfold pd at h; cases h
  | n, .ref _, h => by unfold pd at h; cases h
  | 0, .tup _, h => by unfold pd at h; cases h
  | 0, .tl _, h => by unfold pd at h; cases h
theorem datL_of {n : Nat} : ∀ {ds : List D}, (∀ d ∈ ds, ∃ p, dat d = some p ∧ p.canLay0 = true ∧ p.depth ≤ n) → ∃ ps, datL ds = some ps ∧ PyData.canLayAll0 ps = true ∧ PyData.depthAll ps ≤ n
  | [], _ => ⟨[], rfl, rfl, Nat.zero_le _⟩
  | d :: ds, h => by
    obtain ⟨p, h1, h2, h3⟩ := h d List.mem_cons_self
    obtain ⟨ps, h4, h5, h6⟩ := datL_of fun x hx => h x (List.mem_cons_of_mem _ hx)
    refine ⟨p :: ps, ?_, ?_, ?_⟩
    · unfold datL
      rw [h1, h4]
    · unfold PyData.canLayAll0
      rw [h2, h5]
      rfl
    · unfold PyData.depthAll
      omega
theorem pd_dat : ∀ (n : Nat) (d : D), pd n d = true → ∃ p, dat d = some p ∧ p.canLay0 = true ∧ p.depth ≤ n
  | n, .int i, _ => ⟨.int i, rfl, rfl, Nat.zero_le _⟩
  | n, .non, _ => ⟨.none, rfl, rfl, Nat.zero_le _⟩
  | n, .str s, h => ⟨.str s, rfl, by unfold pd at h; exact h, Nat.zero_le _⟩
  | n + 1, .tup ds, h => by
    unfold pd at h
    obtain ⟨ps, h1, h2, h3⟩ := datL_of (n := n) fun d hd => pd_dat n d (List.all_eq_true.mp h d hd)
    exact ⟨.tuple ps, by unfold dat; rw [h1]; rfl, h2, Nat.succ_le_succ h3⟩
  | n + 1, .tl ds, h => by
    unfold pd at h
    obtain ⟨ps, h1, h2, h3⟩ := datL_of (n := n) fun d hd => pd_dat n d (List.all_eq_true.mp h d hd)
    exact ⟨.list ps, by unfold dat; rw [h1]; rfl, h2, Nat.succ_le_succ h3⟩
  | n, .bl _, h => by unfold pd at h; cases h
  | n, .ref _, h => by unfold pd at h; cases h
  | 0, .tup _, h => by unfold pd at h; cases h
  | 0, .tl _, h => by unfold pd at h; cases h
theorem datL_eqv {n : Nat} (ih : ∀ d e p q, pd n d = true → pd n e = true → dat d = some p → dat e = some q → (PyData.eqv p q = true ↔ d = e)) : ∀ {ds es : List D} {ps qs : List PyData}, ds.all (pd n) = true → es.all (pd n) = true → datL ds = some ps → datL es = some qs → (PyData.eqvAll ps qs = true ↔ ds = es)
  | [], [], ps, qs, _, _, h1, h2 => by
    cases h1; cases h2
    simp [PyData.eqvAll]
  | [], e :: es, ps, qs, _, _, h1, h2 => by
    cases h1
    unfold datL at h2
    split at h2
    · cases h2
      simp [PyData.eqvAll]
    · cases h2
  | d :: ds, [], ps, qs, _, _, h1, h2 => by
    cases h2
    unfold datL at h1
    split at h1
    · cases h1
      simp [PyData.eqvAll]
    · cases h1
  | d :: ds, e :: es, ps, qs, a1, a2, h1, h2 => by
    rw [List.all_cons, Bool.and_eq_true] at a1 a2
    unfold datL at h1 h2
    split at h1
    · rename_i p ps' e1 e2
      cases h1
      split at h2
      · rename_i q qs' e3 e4
        cases h2
        unfold PyData.eqvAll
        rw [Bool.and_eq_true, ih d e p q a1.1 a2.1 e1 e3, datL_eqv ih a1.2 a2.2 e2 e4]
        simp
      · cases h2
    · cases h1
theorem pd_eqv : ∀ (n : Nat) (d e : D) (p q : PyData), pd n d = true → pd n e = true → dat d = some p → dat e = some q → (PyData.eqv p q = true ↔ d = e) := by
  intro n
  induction n with
  | zero =>
    intro d e p q h1 h2 h3 h4
    cases d <;> cases e <;> simp only [pd, Bool.false_eq_true] at h1 h2 <;> simp only [dat, Option.some.injEq] at h3 h4 <;> subst h3 <;> subst h4 <;> simp [PyData.eqv]
  | succ n ih =>
    intro d e p q h1 h2 h3 h4
    cases d with
    | bl _ => simp [pd] at h1
    | ref _ => simp [pd] at h1
    | tup ds =>
      simp only [pd] at h1
      cases h5 : datL ds with
      | none => simp [dat, h5] at h3
      | some ps =>
        simp only [dat, h5, Option.map_some, Option.some.injEq] at h3
        subst h3
        cases e with
        | bl _ => simp [pd] at h2
        | ref _ => simp [pd] at h2
        | tup es =>
          simp only [pd] at h2
          cases h6 : datL es with
          | none => simp [dat, h6] at h4
          | some qs =>
            simp only [dat, h6, Option.map_some, Option.some.injEq] at h4
            subst h4
            rw [PyData.eqv, datL_eqv ih h1 h2 h5 h6]
            simp
        | tl es =>
          cases h6 : datL es with
          | none => simp [dat, h6] at h4
          | some qs =>
            simp only [dat, h6, Option.map_some, Option.some.injEq] at h4
            subst h4
            simp [PyData.eqv]
        | _ =>
          simp only [dat, Option.some.injEq] at h4
          subst h4
          simp [PyData.eqv]
    | tl ds =>
      simp only [pd] at h1
      cases h5 : datL ds with
      | none => simp [dat, h5] at h3
      | some ps =>
        simp only [dat, h5, Option.map_some, Option.some.injEq] at h3
        subst h3
        cases e with
        | bl _ => simp [pd] at h2
        | ref _ => simp [pd] at h2
        | tl es =>
          simp only [pd] at h2
          cases h6 : datL es with
          | none => simp [dat, h6] at h4
          | some qs =>
            simp only [dat, h6, Option.map_some, Option.some.injEq] at h4
            subst h4
            rw [PyData.eqv, datL_eqv ih h1 h2 h5 h6]
            simp
        | tup es =>
          cases h6 : datL es with
          | none => simp [dat, h6] at h4
          | some qs =>
            simp only [dat, h6, Option.map_some, Option.some.injEq] at h4
            subst h4
            simp [PyData.eqv]
        | _ =>
          simp only [dat, Option.some.injEq] at h4
          subst h4
          simp [PyData.eqv]
    | _ =>
      simp only [dat, Option.some.injEq] at h3
      subst h3
      cases e with
      | bl _ => simp [pd] at h2
      | ref _ => simp [pd] at h2
      | tup es =>
        cases h6 : datL es with
        | none => simp [dat, h6] at h4
        | some qs =>
          simp only [dat, h6, Option.map_some, Option.some.injEq] at h4
          subst h4
          simp [PyData.eqv]
      | tl es =>
        cases h6 : datL es with
        | none => simp [dat, h6] at h4
        | some qs =>
          simp only [dat, h6, Option.map_some, Option.some.injEq] at h4
          subst h4
          simp [PyData.eqv]
      | _ =>
        simp only [dat, Option.some.injEq] at h4
        subst h4
        simp [PyData.eqv]
/-- == and != over such data -/
theorem prEq_pd {g : G} {Q : D → G → Prop} {neg : Bool} {x y a b : D} (n : Nat) (hx : res g x = a) (hy : res g y = b) (ha : pd n a = true) (hb : pd n b = true) (hn : n ≤ 64) (hq : ∀ c : Bool, (c = true ↔ a = b) → Q (.bl (if neg then !c else c)) g) : prEq g Q neg x y := by
  obtain ⟨p, h1, h2, h3⟩ := pd_dat n a ha
  obtain ⟨q, h4, h5, h6⟩ := pd_dat n b hb
  unfold prEq
  rw [hx, hy, h1, h4]
  refine ⟨?_, ?_, hq _ (pd_eqv n a b p q ha hb h1 h4)⟩
  · exact Bool.and_eq_true_iff.mpr ⟨h2, decide_eq_true (by omega)⟩
  · exact Bool.and_eq_true_iff.mpr ⟨h5, decide_eq_true (by omega)⟩
theorem intsOf_map : ∀ ns : List Int, intsOf (ns.map D.int) = some ns
  | [] => rfl
  | n :: ns => by
    show (intsOf (ns.map D.int)).map (n :: ·) = some (n :: ns)
    rw [intsOf_map ns]
    rfl
theorem boolsOf_map : ∀ ns : List Bool, boolsOf (ns.map D.bl) = some ns
  | [] => rfl
  | n :: ns => by
    show (boolsOf (ns.map D.bl)).map (n :: ·) = some (n :: ns)
    rw [boolsOf_map ns]
    rfl
/-! ### heaps -/
theorem set_app {α : Type} {A B : List α} {n : Nat} {x : α} (h : n < A.length) : (A ++ B).set n x = A.set n x ++ B := List.set_append_left _ _ h
theorem get_app {α : Type} {A B : List α} {n : Nat} (h : n < A.length) : (A ++ B)[n]? = A[n]? := List.getElem?_append_left h
end Br

namespace Kw
open PySem PySem.Spec PyProof.Rows L2 Br
def c_law_deal : List CS := [.ifs (.prim .ge [.var 0, .prim .pow [.lit (.int 10), .lit (.int 18)]]) [.ret (.mat (.lst [.prim .sub [.var 0, .prim .pow [.lit (.int 10), .lit (.int 18)]]]))] [],
      .asg (.name 2) (.lit (.int 0)),
      .asg (.name 3) (.prim .mod [.prim .mul [.prim .add [.prim .mod [.var 0, .lit (.int 2147483647)], .lit (.int 2311)], .lit (.int 69621)], .lit (.int 2147483647)]),
      .for (.name 4) .rng1 [.var 1] [.asg (.name 3) (.prim .mod [.prim .add [.prim .add [.prim .mul [.var 3, .lit (.int 48271)], .var 4], .lit (.int 1)], .lit (.int 2147483647)]),
      .asg (.name 5) (.prim .mod [.prim .mul [.var 3, .var 3], .lit (.int 2147483629)]),
      .asg (.name 2) (.prim .add [.prim .mul [.var 2, .lit (.int 999983)], .prim .mod [.prim .add [.prim .fdiv [.var 5, .lit (.int 1021)], .var 5], .lit (.int 999983)]])],
      .ret (.mat (.lst [.var 2]))]
def d_law_deal : Df := ⟨"_law_deal", 2, 6, 2, c_law_deal, true⟩
def n_law_deal : List Str := ["cell", "many", "number", "one", "k", "two"]
def c_law_take : List CS := [.asg (.tup [.sub (.var 0) (.lit (.int 0)), .name 2]) (.prim .divmod [.prim .item [.var 0, .lit (.int 0)], .var 1]),
      .ret (.var 2)]
def d_law_take : Df := ⟨"_law_take", 2, 3, 0, c_law_take, true⟩
def n_law_take : List Str := ["pot", "many", "digit"]
def c_law_need : List CS := [.asg (.name 1) (.call 1 [.var 0, .lit (.int 4)]),
      .ret (.prim .add [.prim .item [.lst [.lit (.int 1), .lit (.int 13), .prim .sub [.prim .pow [.lit (.int 10), .lit (.int 12)], .lit (.int 6)], .lit (.int 60)], .var 1], .call 1 [.var 0, .prim .item [.lst [.lit (.int 12), .lit (.int 48), .lit (.int 7), .prim .pow [.lit (.int 10), .lit (.int 6)]], .var 1]]])]
def d_law_need : Df := ⟨"_law_need", 1, 2, 0, c_law_need, true⟩
def n_law_need : List Str := ["pot", "way"]
def c_law_size : List CS := [.asg (.name 3) (.prim .add [.lit (.int 1), .call 1 [.var 0, .lit (.int 4)]]),
      .ifs (.prim .eq [.var 2, .lit (.int 0)]) [.ret (.prim .add [.lit (.int 1), .call 1 [.var 0, .var 1]])] [],
      .ifs (.prim .eq [.var 2, .lit (.int 1)]) [.ret (.prim .max2 [.lit (.int 1), .prim .min2 [.prim .pow [.lit (.int 10), .lit (.int 12)], .prim .sub [.prim .add [.prim .fdiv [.var 1, .var 3], .call 1 [.var 0, .lit (.int 3)]], .lit (.int 1)]]])] [],
      .ifs (.prim .eq [.var 2, .lit (.int 2)]) [.ret (.prim .add [.lit (.int 1), .call 1 [.var 0, .prim .max2 [.lit (.int 1), .prim .fdiv [.var 1, .lit (.int 3)]]]])] [],
      .ret (.prim .item [.lst [.prim .max2 [.lit (.int 1), .prim .fdiv [.var 1, .lit (.int 60)]], .prim .min2 [.prim .pow [.lit (.int 10), .lit (.int 12)], .prim .add [.var 1, .call 1 [.var 0, .lit (.int 9)]]], .prim .max2 [.lit (.int 1), .prim .sub [.var 1, .lit (.int 1)]], .lit (.int 1)], .prim .sub [.var 3, .lit (.int 1)]])]
def d_law_size : Df := ⟨"_law_size", 3, 4, 0, c_law_size, true⟩
def n_law_size : List Str := ["pot", "need", "kind", "part"]
def c_law_alone : List CS := [.asg (.name 2) (.make 0 7 [.var 0]),
      .asg (.name 3) (.comp (.name 4) [("size", 4)] .seq [.var 1] [] (.own 0 8 (.var 2) "put" [.var 4])),
      .ret (.tup [.var 3, .own 0 9 (.var 2) "shut_lots" [], .own 0 10 (.var 2) "open_lot" [], .own 0 11 (.var 2) "part_of" [], .own 0 12 (.var 2) "bound_so" []])]
def d_law_alone : Df := ⟨"_law_alone", 2, 5, 1, c_law_alone, true⟩
def n_law_alone : List Str := ["need", "sizes", "bench", "told", "size"]
def c_law_greater : List CS := [.ret (.comp (.name 2) [("lot", 2)] .seq [.var 0] [] (.prim .tuple [.comp (.name 3) [("size", 3)] .seq [.var 2] [] (.prim .mul [.var 1, .var 3])]))]
def d_law_greater : Df := ⟨"_law_greater", 2, 4, 0, c_law_greater, true⟩
def n_law_greater : List Str := ["lots", "many", "lot", "size"]
def c_law : List CS := [.asg (.name 1) (.call 0 [.prim .item [.prim .add [.var 0, .lst [.lit (.int 0)]], .lit (.int 0)], .lit (.int 60)]),
      .asg (.name 2) (.prim .add [.lit (.int 2), .call 1 [.var 1, .lit (.int 9)]]),
      .asg (.name 3) (.prim .min2 [.call 2 [.var 1], .prim .pow [.lit (.int 10), .lit (.int 11)]]),
      .asg (.name 4) (.comp (.name 5) [("k", 5)] .rng1 [.prim .add [.lit (.int 1), .call 1 [.var 1, .lit (.int 4)]]] [] (.prim .max2 [.lit (.int 1), .prim .min2 [.prim .pow [.lit (.int 10), .lit (.int 11)], .call 3 [.var 1, .var 3, .call 1 [.var 1, .lit (.int 4)]]]])),
      .asg (.name 6) (.lst [.var 3, .prim .add [.lit (.int 1), .call 1 [.var 1, .lit (.int 90)]], .prim .mul [.var 2, .var 3]]),
      .asg (.name 7) (.comp (.name 8) [("one", 8)] .seq [.var 6] [] (.make 0 7 [.var 8])),
      .asg (.name 9) (.lst [.mat (.lst []), .mat (.lst []), .mat (.lst [])]),
      .asg (.name 10) (.lst [.mat (.lst []), .mat (.lst []), .mat (.lst [])]),
      .asg (.name 11) (.mat (.lst [])),
      .for (.name 12) .seq [.prim (.cut false true) [.var 0, .lit (.int 63)]] [.asg (.name 13) (.prim .item [.call 0 [.var 12, .lit (.int 2)], .lit (.int 0)]),
      .asg (.name 14) (.prim .mod [.prim .fdiv [.var 13, .lit (.int 7)], .lit (.int 3)]),
      .asg (.name 15) (.prim .mul [.prim .item [.var 4, .prim .mod [.prim .fdiv [.var 13, .lit (.int 21)], .prim .len [.var 4]]], .prim .item [.lst [.lit (.int 1), .lit (.int 1), .var 2], .var 14]]),
      .expr (.meth .append (.prim .item [.var 9, .var 14]) [.var 15]),
      .expr (.meth .append (.prim .item [.var 10, .var 14]) [.own 0 8 (.prim .item [.var 7, .var 14]) "put" [.var 15]]),
      .asg (.name 16) (.own 0 9 (.prim .item [.var 7, .var 14]) "shut_lots" []),
      .expr (.meth .append (.var 11) [.tup [.var 14, .var 16, .prim .list [.var 16]]])],
      .for (.name 14) .rng1 [.lit (.int 3)] [.asg (.name 17) (.prim .item [.var 7, .var 14]),
      .ifs (.prim .ne [.tup [.prim .item [.var 10, .var 14], .own 0 9 (.var 17) "shut_lots" [], .own 0 10 (.var 17) "open_lot" [], .own 0 11 (.var 17) "part_of" [], .own 0 12 (.var 17) "bound_so" []], .call 4 [.prim .item [.var 6, .var 14], .prim .item [.var 9, .var 14]]]) [.ret (.lit (.bool false))] []],
      .for (.tup [.name 14, .name 16, .name 18]) .seq [.var 11] [.ifs (.or [.prim .ne [.var 16, .var 18], .prim .ne [.prim (.cut false true) [.own 0 9 (.prim .item [.var 7, .var 14]) "shut_lots" [], .prim .len [.var 18]], .var 18]]) [.ret (.lit (.bool false))] []],
      .asg (.name 19) (.call 4 [.var 3, .comp (.name 15) [("size", 15)] .seq [.prim .item [.var 9, .lit (.int 2)]] [] (.prim .fdiv [.var 15, .var 2])]),
      .ret (.and [.prim .eq [.own 0 9 (.prim .item [.var 7, .lit (.int 2)]) "shut_lots" [], .call 5 [.prim .item [.var 19, .lit (.int 1)], .var 2]], .prim .eq [.own 0 11 (.prim .item [.var 7, .lit (.int 2)]) "part_of" [], .prim .item [.var 19, .lit (.int 3)]]])]
def d_law : Df := ⟨"law", 1, 20, 0, c_law, true⟩
def n_law : List Str := ["script", "pot", "many", "need", "menu", "k", "needs", "benches", "one", "came", "told", "kept", "cell", "number", "which", "size", "found", "bench", "copy", "small"]
def c_Bench_init : List CS := [.sfld 0 (.var 0) "full_at" (.var 1),
      .sfld 0 (.var 0) "shut" (.mat (.lst [])),
      .sfld 0 (.var 0) "lying" (.mat (.lst [])),
      .sfld 0 (.var 0) "greatest_came" (.lit (.int 0))]
def d_Bench_init : Df := ⟨"__init__", 2, 2, 0, c_Bench_init, false⟩
def n_Bench_init : List Str := ["self", "need"]
def c_Bench_put : List CS := [.sfld 0 (.var 0) "greatest_came" (.prim .max2 [.fld 0 (.var 0) "greatest_came", .var 1]),
      .expr (.meth .append (.fld 0 (.var 0) "lying") [.var 1]),
      .ifs (.prim .lt [.prim .sum [.fld 0 (.var 0) "lying"], .fld 0 (.var 0) "full_at"]) [.ret (.lit (.bool false))] [],
      .expr (.meth .append (.fld 0 (.var 0) "shut") [.prim .tuple [.prim .sorted [.fld 0 (.var 0) "lying"]]]),
      .sfld 0 (.var 0) "lying" (.mat (.lst [])),
      .ret (.lit (.bool true))]
def d_Bench_put : Df := ⟨"put", 2, 2, 0, c_Bench_put, false⟩
def n_Bench_put : List Str := ["self", "size"]
def c_Bench_shut_lots : List CS := [.ret (.prim .list [.fld 0 (.var 0) "shut"])]
def d_Bench_shut_lots : Df := ⟨"shut_lots", 1, 1, 0, c_Bench_shut_lots, false⟩
def n_Bench_shut_lots : List Str := ["self"]
def c_Bench_open_lot : List CS := [.ret (.prim .tuple [.prim .sorted [.fld 0 (.var 0) "lying"]])]
def d_Bench_open_lot : Df := ⟨"open_lot", 1, 1, 0, c_Bench_open_lot, false⟩
def n_Bench_open_lot : List Str := ["self"]
def c_Bench_part_of : List CS := [.ifs (.prim .eq [.fld 0 (.var 0) "greatest_came", .lit (.int 0)]) [.ret (.glob 0)] [],
      .ret (.prim .max2 [.lit (.int 1), .prim .min2 [.glob 0, .prim .fdiv [.fld 0 (.var 0) "full_at", .fld 0 (.var 0) "greatest_came"]]])]
def d_Bench_part_of : Df := ⟨"part_of", 1, 1, 0, c_Bench_part_of, false⟩
def n_Bench_part_of : List Str := ["self"]
def c_Bench_bound_so : List CS := [.asg (.name 1) (.own 0 11 (.var 0) "part_of" []),
      .ret (.prim .fdiv [.prim .sub [.prim .add [.prim .mul [.prim .add [.var 1, .lit (.int 1)], .prim .len [.fld 0 (.var 0) "shut"]], .var 1], .lit (.int 1)], .var 1])]
def d_Bench_bound_so : Df := ⟨"bound_so", 1, 2, 0, c_Bench_bound_so, false⟩
def n_Bench_bound_so : List Str := ["self", "part"]
def T : List Df := [d_law_deal, d_law_take, d_law_need, d_law_size, d_law_alone, d_law_greater, d_law, d_Bench_init, d_Bench_put, d_Bench_shut_lots, d_Bench_open_lot, d_Bench_part_of, d_Bench_bound_so]
def CL : List Cd := [⟨"Bench", 7, ["full_at", "shut", "lying", "greatest_came"], [("put", 8), ("shut_lots", 9), ("open_lot", 10), ("part_of", 11), ("bound_so", 12)]⟩]
def GL : List (Str × D) := [("MOST_PART", .int 60)]
end Kw

namespace Kw
open PySem Br
/-! ### small things -/
theorem lineE : LINE = 16777216 := rfl
theorem wpE_prim {Φ : Phi} {p cs σ g Q ex} : wpE GL Φ (.prim p cs) σ g Q ex = wpEs GL Φ cs σ g (fun ds g1 => pr g1 Q p ds) ex := by
  conv => lhs; unfold wpE
theorem wpEs_cons {Φ : Phi} {c cs σ g Q ex} : wpEs GL Φ (c :: cs) σ g Q ex = wpE GL Φ c σ g (fun d g1 => wpEs GL Φ cs σ g1 (fun ds g2 => Q (d :: ds) g2) ex) ex := by
  conv => lhs; unfold wpEs
def lotsD (L : List (List Int)) : List D := L.map fun l => .tup (l.map .int)
def srt (l : List Int) : List Int := l.mergeSort fun a b => decide (a ≤ b)
/-! ### a bench -/
structure Bn where
  need : Int
  shut : List (List Int)
  lying : List Int
  great : Int
def Bn.put (b : Bn) (x : Int) : Bn × Bool :=
  if (b.lying ++ [x]).sum < b.need then (⟨b.need, b.shut, b.lying ++ [x], max b.great x⟩, false)
  else (⟨b.need, b.shut ++ [srt (b.lying ++ [x])], [], max b.great x⟩, true)
def Bn.part (b : Bn) : Int := if b.great = 0 then 60 else max 1 (min 60 (b.need / b.great))
def Bn.bound (b : Bn) : Int := ((b.part + 1) * b.shut.length + b.part - 1) / b.part
def insD (b : Bn) (s l : Nat) : C := .ins 0 [("full_at", .int b.need), ("shut", .ref s), ("lying", .ref l), ("greatest_came", .int b.great)]
structure At (g : G) (i s l : Nat) (b : Bn) : Prop where
  oc : g[i]? = some (insD b s l)
  sc : g[s]? = some (.lst (lotsD b.shut))
  lc : g[l]? = some (.lst (b.lying.map .int))
  ne : s ≠ l
  z1 : b.shut.length ≤ 100
  z2 : b.lying.length ≤ 100
theorem lk1 : (("shut" : Str) == "full_at") = false := by decide +kernel
theorem lk2 : (("lying" : Str) == "full_at") = false := by decide +kernel
theorem lk3 : (("lying" : Str) == "shut") = false := by decide +kernel
theorem lk4 : (("greatest_came" : Str) == "full_at") = false := by decide +kernel
theorem lk5 : (("greatest_came" : Str) == "shut") = false := by decide +kernel
theorem lk6 : (("greatest_came" : Str) == "lying") = false := by decide +kernel
section
variable {n m : Int} {s l : D}
abbrev fs (n : Int) (s l : D) (m : Int) : List (Str × D) := [("full_at", .int n), ("shut", s), ("lying", l), ("greatest_came", .int m)]
theorem f1 : (fs n s l m).lookup ("full_at" : Str) = some (.int n) := by
  simp only [fs, List.lookup_cons, BEq.rfl]
theorem f2 : (fs n s l m).lookup ("shut" : Str) = some s := by
  simp only [fs, List.lookup_cons, lk1, BEq.rfl]
theorem f3 : (fs n s l m).lookup ("lying" : Str) = some l := by
  simp only [fs, List.lookup_cons, lk2, lk3, BEq.rfl]
theorem f4 : (fs n s l m).lookup ("greatest_came" : Str) = some (.int m) := by
  simp only [fs, List.lookup_cons, lk4, lk5, lk6, BEq.rfl]
theorem neS {a b : Str} (h : (a == b) = false) : ¬ b = a := fun e => by subst e; simp at h
theorem p4 {y : Int} : putD ("greatest_came" : Str) (.int y) (fs n s l m) = fs n s l y := by
  simp only [fs, putD, if_neg (neS lk4), if_neg (neS lk5), if_neg (neS lk6), if_true]
theorem p3 {y : D} : putD ("lying" : Str) y (fs n s l m) = fs n s y m := by
  simp only [fs, putD, if_neg (neS lk2), if_neg (neS lk3), if_true]
end
theorem intsum (ns : List Int) : intsOf (ns.map D.int) = some ns := intsOf_map ns
theorem p_put {k : Nat} {g : G} {i s l : Nat} {b : Bn} {x : Int} {Q : D → G → Prop} {ex : Ex} (h : At g i s l b) (z1 : b.shut.length < 100) (z2 : b.lying.length < 100)
    (hq : ∀ g' l', At g' i s l' (b.put x).1 → (l' = l ∨ l' = g.length) → g.length ≤ g'.length → (∀ j, j < g.length → j ≠ i → j ≠ s → j ≠ l → g'[j]? = g[j]?) → Q (.bl (b.put x).2) g') : phi GL T (k + 1) 8 [.ref i, .int x] g Q ex := by
  have le := lineE
  have hio : i < g.length := (List.getElem?_eq_some_iff.mp h.oc).1
  have hso : s < g.length := (List.getElem?_eq_some_iff.mp h.sc).1
  have hlo : l < g.length := (List.getElem?_eq_some_iff.mp h.lc).1
  have his : i ≠ s := fun e => by have := h.oc; rw [e, h.sc] at this; cases this
  have hil : i ≠ l := fun e => by have := h.oc; rw [e, h.lc] at this; cases this
  have ho : g[i]? = some (.ins 0 (fs b.need (.ref s) (.ref l) b.great)) := h.oc
  show runD GL (phi GL T k) d_Bench_put _ _ Q ex
  refine ⟨rfl, ?_⟩
  simp only [d_Bench_put, c_Bench_put, startD, List.map_cons, List.map_nil, List.length_cons, List.length_nil, List.replicate, List.cons_append, List.nil_append, Nat.reduceSub, Nat.reduceAdd]
  rw [wpSs_cons]
  simp only [wpS, wpE, wpEs, wpT, wpTs, wpAnd, wpOr, wpTst, pr, litD, isBl, prII, prI1, List.length_cons, List.length_nil, List.getElem?_cons_zero, List.getElem?_cons_succ, List.set_cons_zero, List.set_cons_succ, Nat.reduceAdd, fldAt, ho, f4, setF, p4]
  refine ⟨trivial, trivial, by simp, ?_⟩
  -- g1
  have o1 : (g.set i (.ins 0 (fs b.need (.ref s) (.ref l) (max b.great x))))[i]? = some (.ins 0 (fs b.need (.ref s) (.ref l) (max b.great x))) := List.getElem?_set_self hio
  have l1 : (g.set i (.ins 0 (fs b.need (.ref s) (.ref l) (max b.great x))))[l]? = some (.lst (b.lying.map .int)) := by rw [List.getElem?_set_ne hil]; exact h.lc
  rw [wpSs_cons]
  simp only [wpS, wpE, wpEs, wpT, wpTs, wpAnd, wpOr, wpTst, pr, litD, isBl, prII, prI1, List.length_cons, List.length_nil, List.getElem?_cons_zero, List.getElem?_cons_succ, List.set_cons_zero, List.set_cons_succ, Nat.reduceAdd, fldAt, o1, f3, recvOk, lstOf, l1, Option.isSome_some, prAppend]
  refine ⟨trivial, trivial, by simp; omega, ?_⟩
  have ea : b.lying.map D.int ++ [.int x] = (b.lying ++ [x]).map D.int := by simp
  rw [ea]
  generalize hg1 : g.set i (.ins 0 (fs b.need (.ref s) (.ref l) (max b.great x))) = g1 at o1 l1
  have n1 : g1.length = g.length := by rw [← hg1]; simp
  have s1 : g1[s]? = some (.lst (lotsD b.shut)) := by rw [← hg1, List.getElem?_set_ne his]; exact h.sc
  have o2 : (g1.set l (.lst ((b.lying ++ [x]).map .int)))[i]? = some (.ins 0 (fs b.need (.ref s) (.ref l) (max b.great x))) := by rw [List.getElem?_set_ne (Ne.symm hil)]; exact o1
  have l2 : (g1.set l (.lst ((b.lying ++ [x]).map .int)))[l]? = some (.lst ((b.lying ++ [x]).map .int)) := List.getElem?_set_self (by omega)
  have s2 : (g1.set l (.lst ((b.lying ++ [x]).map .int)))[s]? = some (.lst (lotsD b.shut)) := by rw [List.getElem?_set_ne (Ne.symm h.ne)]; exact s1
  have k2 : ∀ j, j < g.length → j ≠ i → j ≠ s → j ≠ l → (g1.set l (.lst ((b.lying ++ [x]).map .int)))[j]? = g[j]? := fun j _ a1 a2 a3 => by
    rw [List.getElem?_set_ne (Ne.symm a3), ← hg1, List.getElem?_set_ne (Ne.symm a1)]
  generalize hg2 : g1.set l (.lst ((b.lying ++ [x]).map .int)) = g2 at o2 l2 s2 k2
  have n2 : g2.length = g.length := by rw [← hg2]; simp [n1]
  rw [wpSs_cons]
  simp only [wpS, wpE, wpEs, wpT, wpTs, wpAnd, wpOr, wpTst, pr, litD, isBl, prII, prI1, List.length_cons, List.length_nil, List.getElem?_cons_zero, List.getElem?_cons_succ, List.set_cons_zero, List.set_cons_succ, Nat.reduceAdd, fldAt, o2, f3, f1, prInts, seqOf, lstOf, l2, intsum, prCmp]
  refine ⟨trivial, trivial, ?_⟩
  by_cases hlt : (b.lying ++ [x]).sum < b.need
  · simp only [decide_eq_true hlt, if_true]
    rw [wpSs_cons]
    simp only [wpS, wpE, wpEs, wpT, wpTs, wpAnd, wpOr, wpTst, pr, litD, isBl, prII, prI1, List.length_cons, List.length_nil, List.getElem?_cons_zero, List.getElem?_cons_succ, List.set_cons_zero, List.set_cons_succ, Nat.reduceAdd, fin]
    have e : b.put x = (⟨b.need, b.shut, b.lying ++ [x], max b.great x⟩, false) := by unfold Bn.put; rw [if_pos hlt]
    have := hq g2 l (by rw [e]; exact ⟨o2, s2, l2, h.ne, h.z1, by simp; omega⟩) (.inl rfl) (by omega) k2
    rw [e] at this
    exact this
  · simp only [decide_eq_false hlt, Bool.false_eq_true, if_false]
    rw [wpSs_nil]
    dsimp only
    rw [wpSs_cons]
    simp only [wpS, wpE, wpEs, wpT, wpTs, wpAnd, wpOr, wpTst, pr, litD, isBl, prII, prI1, List.length_cons, List.length_nil, List.getElem?_cons_zero, List.getElem?_cons_succ, List.set_cons_zero, List.set_cons_succ, Nat.reduceAdd, fldAt, o2, f2, recvOk, lstOf, s2, Option.isSome_some, f3, prSorted, l2, intsum, prTuple, seqOf, prAppend]
    refine ⟨trivial, trivial, trivial, by simp [lotsD]; omega, ?_⟩
    have es : lotsD b.shut ++ [.tup ((srt (b.lying ++ [x])).map .int)] = lotsD (b.shut ++ [srt (b.lying ++ [x])]) := by simp [lotsD]
    unfold srt at es
    rw [es]
    have o3 : (g2.set s (.lst (lotsD (b.shut ++ [(b.lying ++ [x]).mergeSort fun a b => decide (a ≤ b)]))))[i]? = some (.ins 0 (fs b.need (.ref s) (.ref l) (max b.great x))) := by rw [List.getElem?_set_ne (Ne.symm his)]; exact o2
    have s3 : (g2.set s (.lst (lotsD (b.shut ++ [(b.lying ++ [x]).mergeSort fun a b => decide (a ≤ b)]))))[s]? = some (.lst (lotsD (b.shut ++ [srt (b.lying ++ [x])]))) := List.getElem?_set_self (by omega)
    have k3 : ∀ j, j < g.length → j ≠ i → j ≠ s → j ≠ l → (g2.set s (.lst (lotsD (b.shut ++ [(b.lying ++ [x]).mergeSort fun a b => decide (a ≤ b)]))))[j]? = g[j]? := fun j a0 a1 a2 a3 => by
      rw [List.getElem?_set_ne (Ne.symm a2)]
      exact k2 j a0 a1 a2 a3
    generalize hg3 : g2.set s (.lst (lotsD (b.shut ++ [(b.lying ++ [x]).mergeSort fun a b => decide (a ≤ b)]))) = g3 at o3 s3 k3
    have n3 : g3.length = g.length := by rw [← hg3]; simp [n2]
    have o4 : (g3 ++ [C.lst []])[i]? = some (.ins 0 (fs b.need (.ref s) (.ref l) (max b.great x))) := by rw [get_app (by omega)]; exact o3
    rw [wpSs_cons]
    simp only [wpS, wpE, wpEs, wpT, wpTs, wpAnd, wpOr, wpTst, pr, litD, isBl, prII, prI1, List.length_cons, List.length_nil, List.getElem?_cons_zero, List.getElem?_cons_succ, List.set_cons_zero, List.set_cons_succ, Nat.reduceAdd, setF, o4, p3]
    refine ⟨by decide, trivial, by simp, ?_⟩
    rw [wpSs_cons]
    simp only [wpS, wpE, wpEs, wpT, wpTs, wpAnd, wpOr, wpTst, pr, litD, isBl, prII, prI1, List.length_cons, List.length_nil, List.getElem?_cons_zero, List.getElem?_cons_succ, List.set_cons_zero, List.set_cons_succ, Nat.reduceAdd, fin]
    have e : b.put x = (⟨b.need, b.shut ++ [srt (b.lying ++ [x])], [], max b.great x⟩, true) := by unfold Bn.put; rw [if_neg hlt]
    have := hq ((g3 ++ [C.lst []]).set i (.ins 0 (fs b.need (.ref s) (.ref g3.length) (max b.great x)))) g3.length (by
      rw [e]
      refine ⟨List.getElem?_set_self (by simp; omega), ?_, ?_, (show s ≠ g3.length by omega), by simp; omega, by simp⟩
      · rw [List.getElem?_set_ne his, get_app (by omega)]
        exact s3
      · rw [List.getElem?_set_ne (by omega)]
        simp) (.inr n3) (by simp; omega) (fun j a0 a1 a2 a3 => by
      rw [List.getElem?_set_ne (Ne.symm a1), get_app (by omega)]
      exact k3 j a0 a1 a2 a3)
    rw [e] at this
    exact this
theorem p_shut {k : Nat} {g : G} {i s l : Nat} {b : Bn} {Q : D → G → Prop} {ex : Ex} (h : At g i s l b) (hq : Q (.tl (lotsD b.shut)) g) : phi GL T (k + 1) 9 [.ref i] g Q ex := by
  show runD GL (phi GL T k) d_Bench_shut_lots _ _ Q ex
  have ho : g[i]? = some (.ins 0 (fs b.need (.ref s) (.ref l) b.great)) := h.oc
  refine ⟨rfl, ?_⟩
  simp only [d_Bench_shut_lots, c_Bench_shut_lots, startD, List.map_cons, List.map_nil, List.length_cons, List.length_nil, List.replicate, List.cons_append, List.nil_append, Nat.reduceSub, Nat.reduceAdd]
  rw [wpSs_cons]
  simp only [wpS, wpE, wpEs, wpT, wpTs, wpAnd, wpOr, wpTst, pr, litD, isBl, prII, prI1, List.length_cons, List.length_nil, List.getElem?_cons_zero, List.getElem?_cons_succ, List.set_cons_zero, List.set_cons_succ, Nat.reduceAdd, fldAt, ho, f2, prList, seqOf, lstOf, h.sc, fin]
  exact ⟨trivial, hq⟩
theorem p_open {k : Nat} {g : G} {i s l : Nat} {b : Bn} {Q : D → G → Prop} {ex : Ex} (h : At g i s l b) (hq : Q (.tup ((srt b.lying).map .int)) g) : phi GL T (k + 1) 10 [.ref i] g Q ex := by
  show runD GL (phi GL T k) d_Bench_open_lot _ _ Q ex
  have ho : g[i]? = some (.ins 0 (fs b.need (.ref s) (.ref l) b.great)) := h.oc
  refine ⟨rfl, ?_⟩
  simp only [d_Bench_open_lot, c_Bench_open_lot, startD, List.map_cons, List.map_nil, List.length_cons, List.length_nil, List.replicate, List.cons_append, List.nil_append, Nat.reduceSub, Nat.reduceAdd]
  rw [wpSs_cons]
  simp only [wpS, wpE, wpEs, wpT, wpTs, wpAnd, wpOr, wpTst, pr, litD, isBl, prII, prI1, List.length_cons, List.length_nil, List.getElem?_cons_zero, List.getElem?_cons_succ, List.set_cons_zero, List.set_cons_succ, Nat.reduceAdd, fldAt, ho, f3, prSorted, lstOf, h.lc, intsum, prTuple, seqOf, fin]
  exact ⟨trivial, hq⟩
theorem p_part {k : Nat} {g : G} {i s l : Nat} {b : Bn} {Q : D → G → Prop} {ex : Ex} (h : At g i s l b) (h0 : 0 ≤ b.great) (h1 : b.great < 2 ^ 62) (hq : Q (.int b.part) g) : phi GL T (k + 1) 11 [.ref i] g Q ex := by
  show runD GL (phi GL T k) d_Bench_part_of _ _ Q ex
  have ho : g[i]? = some (.ins 0 (fs b.need (.ref s) (.ref l) b.great)) := h.oc
  refine ⟨rfl, ?_⟩
  simp only [d_Bench_part_of, c_Bench_part_of, startD, List.map_cons, List.map_nil, List.length_cons, List.length_nil, List.replicate, List.cons_append, List.nil_append, Nat.reduceSub, Nat.reduceAdd]
  rw [wpSs_cons]
  simp only [wpS, wpE, wpEs, wpT, wpTs, wpAnd, wpOr, wpTst, pr, litD, isBl, prII, prI1, List.length_cons, List.length_nil, List.getElem?_cons_zero, List.getElem?_cons_succ, List.set_cons_zero, List.set_cons_succ, Nat.reduceAdd, fldAt, ho, f4]
  refine ⟨trivial, ?_⟩
  refine prEq_pd (a := .int b.great) (b := .int 0) 0 rfl rfl rfl rfl (by decide) fun c hc => ?_
  unfold Bn.part at hq
  cases c with
  | true =>
    have e : b.great = 0 := by
      have := hc.mp rfl
      simpa using this
    rw [if_pos e] at hq
    simp only [Bool.false_eq_true, if_false, if_true]
    rw [wpSs_cons]
    simp only [wpS, wpE, wpEs, wpT, wpTs, wpAnd, wpOr, wpTst, pr, litD, isBl, prII, prI1, List.length_cons, List.length_nil, List.getElem?_cons_zero, List.getElem?_cons_succ, List.set_cons_zero, List.set_cons_succ, Nat.reduceAdd, GL, fin]
    exact hq
  | false =>
    have e : ¬ b.great = 0 := fun z => by
      have := hc.mpr (by rw [z])
      cases this
    rw [if_neg e] at hq
    simp only [Bool.false_eq_true, if_false]
    rw [wpSs_nil]
    dsimp only
    rw [wpSs_cons]
    simp only [wpS, wpE, wpEs, wpT, wpTs, wpAnd, wpOr, wpTst, pr, litD, isBl, prII, prI1, List.length_cons, List.length_nil, List.getElem?_cons_zero, List.getElem?_cons_succ, List.set_cons_zero, List.set_cons_succ, Nat.reduceAdd, GL, fldAt, ho, f1, f4, divOk, fin]
    refine ⟨trivial, trivial, ⟨by omega, ?_⟩, hq⟩
    have : b.great.natAbs.log2 < 62 := (Nat.log2_lt (by omega)).mpr (by omega)
    omega
theorem part_pos (b : Bn) : 1 ≤ b.part ∧ b.part ≤ 60 := by
  unfold Bn.part
  split <;> omega
theorem mulR {i j : Int} (h : j.natAbs < 2 ^ 64) : mulOk i j := by
  have : Builtin.Int.intBits j ≤ 64 := by
    unfold Builtin.Int.intBits
    split
    · exact Nat.zero_le _
    · rename_i hz
      have : j.natAbs ≠ 0 := by
        intro z
        apply hz
        simpa using z
      have := (Nat.log2_lt this).mpr h
      omega
  unfold mulOk
  omega
theorem p_bound {k : Nat} {g : G} {i s l : Nat} {b : Bn} {Q : D → G → Prop} {ex : Ex} (h : At g i s l b) (h0 : 0 ≤ b.great) (h1 : b.great < 2 ^ 62) (hq : Q (.int b.bound) g) : phi GL T (k + 2) 12 [.ref i] g Q ex := by
  show runD GL (phi GL T (k + 1)) d_Bench_bound_so _ _ Q ex
  have ho : g[i]? = some (.ins 0 (fs b.need (.ref s) (.ref l) b.great)) := h.oc
  have pp := part_pos b
  have zz := h.z1
  have lp : (fs b.need (.ref s) (.ref l) b.great).lookup ("part_of" : Str) = none := by
    have e1 : (("part_of" : Str) == "full_at") = false := by decide +kernel
    have e2 : (("part_of" : Str) == "shut") = false := by decide +kernel
    have e3 : (("part_of" : Str) == "lying") = false := by decide +kernel
    have e4 : (("part_of" : Str) == "greatest_came") = false := by decide +kernel
    simp only [fs, List.lookup_cons, e1, e2, e3, e4, List.lookup_nil]
  refine ⟨rfl, ?_⟩
  simp only [d_Bench_bound_so, c_Bench_bound_so, startD, List.map_cons, List.map_nil, List.length_cons, List.length_nil, List.replicate, List.cons_append, List.nil_append, Nat.reduceSub, Nat.reduceAdd]
  rw [wpSs_cons]
  simp only [wpS, wpE, wpEs, wpT, wpTs, wpAnd, wpOr, wpTst, pr, litD, isBl, prII, prI1, List.length_cons, List.length_nil, List.getElem?_cons_zero, List.getElem?_cons_succ, List.set_cons_zero, List.set_cons_succ, Nat.reduceAdd, insAt, ho, lp]
  refine ⟨⟨trivial, trivial⟩, ?_⟩
  refine p_part h h0 h1 ?_
  rw [wpSs_cons]
  simp only [wpS, wpE, wpEs, wpT, wpTs, wpAnd, wpOr, wpTst, pr, litD, isBl, prII, prI1, List.length_cons, List.length_nil, List.getElem?_cons_zero, List.getElem?_cons_succ, List.set_cons_zero, List.set_cons_succ, Nat.reduceAdd, prAdd, fldAt, ho, f2, prLen, h.sc, prMul, divOk, fin]
  refine ⟨trivial, mulR (by simp [lotsD]; omega), ⟨by omega, ?_⟩, ?_⟩
  · have : b.part.natAbs.log2 < 62 := (Nat.log2_lt (by omega)).mpr (by omega)
    omega
  · have e : (lotsD b.shut).length = b.shut.length := by simp [lotsD]
    rw [e]
    exact hq
abbrev u1 (n : Int) : List (Str × D) := [("full_at", .int n)]
abbrev u2 (n : Int) (s : D) : List (Str × D) := [("full_at", .int n), ("shut", s)]
abbrev u3 (n : Int) (s l : D) : List (Str × D) := [("full_at", .int n), ("shut", s), ("lying", l)]
theorem p_init {k : Nat} {g : G} {n : Int} {Q : D → G → Prop} {ex : Ex} (hq : Q .non (g ++ [insD ⟨n, [], [], 0⟩ (g.length + 1) (g.length + 2), .lst [], .lst []])) : phi GL T (k + 1) 7 [.ref g.length, .int n] (g ++ [.ins 0 []]) Q ex := by
  show runD GL (phi GL T k) d_Bench_init _ _ Q ex
  refine ⟨rfl, ?_⟩
  simp only [d_Bench_init, c_Bench_init, startD, List.map_cons, List.map_nil, List.length_cons, List.length_nil, List.replicate, List.cons_append, List.nil_append, Nat.reduceSub, Nat.reduceAdd]
  have gt : ∀ (x : C) (E : G), (g ++ x :: E)[g.length]? = some x := fun x E => by
    rw [List.getElem?_append_right (Nat.le_refl _)]
    simp
  have st : ∀ (x y : C) (E : G), (g ++ x :: E).set g.length y = g ++ y :: E := fun x y E => by
    rw [List.set_append_right _ _ (Nat.le_refl _)]
    simp
  have a1 : putD ("shut" : Str) (.ref (g.length + 1)) (u1 n) = u2 n (.ref (g.length + 1)) := by
    simp only [u1, u2, putD, if_neg (neS lk1)]
  have a2 : putD ("lying" : Str) (.ref (g.length + 2)) (u2 n (.ref (g.length + 1))) = u3 n (.ref (g.length + 1)) (.ref (g.length + 2)) := by
    simp only [u2, u3, putD, if_neg (neS lk2), if_neg (neS lk3)]
  have a3 : putD ("greatest_came" : Str) (.int 0) (u3 n (.ref (g.length + 1)) (.ref (g.length + 2))) = fs n (.ref (g.length + 1)) (.ref (g.length + 2)) 0 := by
    simp only [u3, fs, putD, if_neg (neS lk4), if_neg (neS lk5), if_neg (neS lk6)]
  have a0 : putD ("full_at" : Str) (.int n) [] = u1 n := rfl
  rw [wpSs_cons]
  simp only [wpS, wpE, wpEs, wpT, wpTs, wpAnd, wpOr, wpTst, pr, litD, isBl, prII, prI1, List.length_cons, List.length_nil, List.getElem?_cons_zero, List.getElem?_cons_succ, List.set_cons_zero, List.set_cons_succ, Nat.reduceAdd, setF, gt, st, a0]
  refine ⟨trivial, by decide, ?_⟩
  rw [wpSs_cons]
  simp only [wpS, wpE, wpEs, wpT, wpTs, wpAnd, wpOr, wpTst, pr, litD, isBl, prII, prI1, List.length_cons, List.length_nil, List.getElem?_cons_zero, List.getElem?_cons_succ, List.set_cons_zero, List.set_cons_succ, Nat.reduceAdd, setF, List.append_assoc, List.cons_append, List.nil_append, List.length_append, gt, st, a1]
  refine ⟨by decide, trivial, by decide, ?_⟩
  rw [wpSs_cons]
  simp only [wpS, wpE, wpEs, wpT, wpTs, wpAnd, wpOr, wpTst, pr, litD, isBl, prII, prI1, List.length_cons, List.length_nil, List.getElem?_cons_zero, List.getElem?_cons_succ, List.set_cons_zero, List.set_cons_succ, Nat.reduceAdd, setF, List.append_assoc, List.cons_append, List.nil_append, List.length_append, gt, st, a2]
  refine ⟨by decide, trivial, by decide, ?_⟩
  rw [wpSs_cons]
  simp only [wpS, wpE, wpEs, wpT, wpTs, wpAnd, wpOr, wpTst, pr, litD, isBl, prII, prI1, List.length_cons, List.length_nil, List.getElem?_cons_zero, List.getElem?_cons_succ, List.set_cons_zero, List.set_cons_succ, Nat.reduceAdd, setF, gt, st, a3]
  refine ⟨trivial, by decide, ?_⟩
  rw [wpSs_nil]
  exact hq
end Kw

namespace Kw
open PySem Br
/-! ### digits -/
theorem place0 {n : Nat} : place (n + 1) 0 = some 0 := by
  unfold place
  simp
theorem place_of {n : Nat} {k : Nat} (h : k < n) : place n (k : Int) = some k := by
  unfold place
  rw [if_pos (by omega), if_pos (by omega)]
  simp
theorem place_ofI {n : Nat} {i : Int} (h0 : 0 ≤ i) (h : i < n) : place n i = some i.toNat := by
  unfold place
  rw [if_pos h0, if_pos h]
theorem b0 : bound63 0 := by unfold bound63; decide
theorem bnd {i : Int} (h0 : 0 ≤ i) (h : i < 2 ^ 62) : bound63 i := by unfold bound63; omega
theorem mulL {i j : Int} (h : i.natAbs < 2 ^ 64) : mulOk i j := by
  have := mulR (i := j) h
  unfold mulOk at this ⊢
  omega
theorem mint {ns : List Int} {k : Nat} {v : Int} (h : ns[k]? = some v) : (ns.map D.int)[k]? = some (.int v) := by
  rw [List.getElem?_map, h]
  rfl
def stt (g : G) (n : Nat) (i : Int) (B : G) : G := g.set n (.lst [.int i]) ++ B
section
variable {g B : G} {n : Nat} {i : Int}
theorem stt_at (hn : n < g.length) : (stt g n i B)[n]? = some (.lst [.int i]) := by
  unfold stt
  rw [get_app (by simpa using hn), List.getElem?_set_self hn]
theorem stt_set (hn : n < g.length) (j : Int) : (stt g n i B).set n (.lst [.int j]) = stt g n j B := by
  unfold stt
  rw [set_app (by simpa using hn), List.set_set]
theorem stt_len : (stt g n i B).length = g.length + B.length := by simp [stt]
theorem stt_app (E : G) : stt g n i B ++ E = stt g n i (B ++ E) := by simp [stt]
theorem stt_self {v : Int} : g ++ [C.lst [.int v]] = stt (g ++ [C.lst [.int v]]) g.length v [] := by
  unfold stt
  simp
end
theorem p_take {k : Nat} {g B : G} {n : Nat} {i m : Int} {Q : D → G → Prop} {ex : Ex} (hn : n < g.length) (hm : 0 < m) (hm2 : m < 2 ^ 62) (hq : ∀ v i', 0 ≤ v → v < m → Q (.int v) (stt g n i' B)) : phi GL T (k + 1) 1 [.ref n, .int m] (stt g n i B) Q ex := by
  show runD GL (phi GL T k) d_law_take _ _ Q ex
  refine ⟨rfl, ?_⟩
  simp only [d_law_take, c_law_take, wpSs, wpS, wpE, wpEs, wpT, wpTs, wpAnd, wpOr, wpTst, pr, litD, isBl, fin, startD, prII, prI1, List.map_cons, List.map_nil, List.length_cons, List.length_nil, List.replicate, List.cons_append, List.nil_append, List.getElem?_cons_zero, List.getElem?_cons_succ, List.set_cons_zero, List.set_cons_succ, Nat.reduceSub, Nat.reduceAdd, prItem, stt_at hn, place0, setI, List.length_set, divOk, stt_set hn]
  refine ⟨⟨hm, ?_⟩, trivial, b0, trivial, hq _ _ (Int.emod_nonneg _ (by omega)) (Int.emod_lt_of_pos _ hm)⟩
  have : m.natAbs.log2 < 62 := (Nat.log2_lt (by omega)).mpr (by omega)
  omega
theorem p_deal {k : Nat} {g : G} {c many : Int} {Q : D → G → Prop} {ex : Ex} (h0 : 0 ≤ many) (h1 : many ≤ 100) (hq : ∀ v, Q (.ref g.length) (g ++ [.lst [.int v]])) : phi GL T (k + 1) 0 [.int c, .int many] g Q ex := by
  show runD GL (phi GL T k) d_law_deal _ _ Q ex
  refine ⟨rfl, ?_⟩
  have pw : ((10 : Int) ^ (18 : Int).toNat) = 1000000000000000000 := by decide
  have f2 : ∀ v, fin 2 g Q (.ref g.length) (g ++ [.lst [.int v]]) := fun v => by
    refine ⟨fun k hk => ⟨g[k], by rw [get_app hk]; exact List.getElem?_eq_getElem hk, .inl (List.getElem?_eq_getElem hk)⟩, Nat.le_refl _, ?_⟩
    simp only [List.getElem?_append_right (Nat.le_refl _), Nat.sub_self, List.getElem?_cons_zero, List.take_left']
    exact ⟨⟨trivial, trivial⟩, hq v⟩
  simp only [d_law_deal, c_law_deal, startD, List.map_cons, List.map_nil, List.length_cons, List.length_nil, List.replicate, List.cons_append, List.nil_append, Nat.reduceSub, Nat.reduceAdd]
  rw [wpSs_cons]
  simp only [wpS, wpE, wpEs, wpT, wpTs, wpAnd, wpOr, wpTst, pr, litD, isBl, prII, prI1, List.length_cons, List.length_nil, List.getElem?_cons_zero, List.getElem?_cons_succ, List.set_cons_zero, List.set_cons_succ, Nat.reduceAdd, prCmp, pw]
  refine ⟨by decide, ?_⟩
  split
  · rw [wpSs_cons]
    simp only [wpS, wpE, wpEs, wpT, wpTs, wpAnd, wpOr, wpTst, pr, litD, isBl, prII, prI1, List.length_cons, List.length_nil, List.getElem?_cons_zero, List.getElem?_cons_succ, List.set_cons_zero, List.set_cons_succ, Nat.reduceAdd, pw]
    exact ⟨by decide, by decide, f2 _⟩
  · rw [wpSs_nil]
    dsimp only
    rw [wpSs_cons]
    simp only [wpS, wpE, wpEs, wpT, wpTs, wpAnd, wpOr, wpTst, pr, litD, isBl, prII, prI1, List.length_cons, List.length_nil, List.getElem?_cons_zero, List.getElem?_cons_succ, List.set_cons_zero, List.set_cons_succ, Nat.reduceAdd]
    rw [wpSs_cons]
    simp only [wpS, wpE, wpEs, wpT, wpTs, wpAnd, wpOr, wpTst, pr, litD, isBl, prII, prI1, List.length_cons, List.length_nil, List.getElem?_cons_zero, List.getElem?_cons_succ, List.set_cons_zero, List.set_cons_succ, Nat.reduceAdd, prAdd, prMul]
    refine ⟨by decide, mulR (by decide), by decide, ?_⟩
    rw [wpSs_cons, wpS_for]
    simp only [wpS, wpE, wpEs, wpT, wpTs, wpAnd, wpOr, wpTst, pr, litD, isBl, prII, prI1, List.length_cons, List.length_nil, List.getElem?_cons_zero, List.getElem?_cons_succ, List.set_cons_zero, List.set_cons_succ, Nat.reduceAdd, items]
    refine ⟨⟨by omega, by omega⟩, ?_⟩
    refine forL_go (fun _ σ g' => g' = g ∧ ∃ a o b d, σ = [some (.int c), some (.int many), some (.int a), some (.int o), b, d] ∧ 0 ≤ o ∧ o < 2147483647) ⟨rfl, 0, _, none, none, rfl, Int.emod_nonneg _ (by decide), Int.emod_lt_of_pos _ (by decide)⟩ ?_ ?_
    · rintro j x σ g' F hx ⟨rfl, a, o, b, d, rfl, o1, o2⟩ hF
      have hj : j < many.toNat := by
        have := (List.getElem?_eq_some_iff.mp hx).1
        simpa using this
      rw [List.getElem?_map, List.getElem?_range (by simpa using hj)] at hx
      cases hx
      refine ⟨trivial, ?_⟩
      simp only [wpT, List.set_cons_zero, List.set_cons_succ]
      rw [wpSs_cons]
      simp only [wpS, wpE, wpEs, wpT, wpTs, wpAnd, wpOr, wpTst, pr, litD, isBl, prII, prI1, List.length_cons, List.length_nil, List.getElem?_cons_zero, List.getElem?_cons_succ, List.set_cons_zero, List.set_cons_succ, Nat.reduceAdd, prMul, prAdd]
      refine ⟨mulR (by decide), by decide, ?_⟩
      have e1 := Int.emod_nonneg (o * 48271 + (j : Int) + 1) (b := 2147483647) (by decide)
      have e2 := Int.emod_lt_of_pos (o * 48271 + (j : Int) + 1) (b := 2147483647) (by decide)
      rw [wpSs_cons]
      simp only [wpS, wpE, wpEs, wpT, wpTs, wpAnd, wpOr, wpTst, pr, litD, isBl, prII, prI1, List.length_cons, List.length_nil, List.getElem?_cons_zero, List.getElem?_cons_succ, List.set_cons_zero, List.set_cons_succ, Nat.reduceAdd, prMul]
      refine ⟨mulR (by omega), by decide, ?_⟩
      rw [wpSs_cons]
      simp only [wpS, wpE, wpEs, wpT, wpTs, wpAnd, wpOr, wpTst, pr, litD, isBl, prII, prI1, List.length_cons, List.length_nil, List.getElem?_cons_zero, List.getElem?_cons_succ, List.set_cons_zero, List.set_cons_succ, Nat.reduceAdd, prMul, prAdd, divOk]
      refine ⟨mulR (by decide), ⟨by decide, by decide⟩, by decide, ?_⟩
      rw [wpSs_nil]
      exact hF _ _ ⟨rfl, _, _, _, _, rfl, e1, e2⟩
    · rintro σ g' ⟨rfl, a, o, b, d, rfl, _, _⟩
      refine ⟨trivial, ?_⟩
      dsimp only
      rw [wpSs_cons]
      simp only [wpS, wpE, wpEs, wpT, wpTs, wpAnd, wpOr, wpTst, pr, litD, isBl, prII, prI1, List.length_cons, List.length_nil, List.getElem?_cons_zero, List.getElem?_cons_succ, List.set_cons_zero, List.set_cons_succ, Nat.reduceAdd]
      exact ⟨by decide, f2 _⟩
theorem pw12 : (10 : Int) ^ (12 : Int).toNat = 1000000000000 := by decide
theorem pw6 : (10 : Int) ^ (6 : Int).toNat = 1000000 := by decide
theorem pw11 : (10 : Int) ^ (11 : Int).toNat = 100000000000 := by decide
theorem q0 : place 4 0 = some 0 := by decide
theorem q1 : place 4 1 = some 1 := by decide
theorem q2 : place 4 2 = some 2 := by decide
theorem q3 : place 4 3 = some 3 := by decide
theorem p_need {k : Nat} {g B : G} {n : Nat} {i : Int} {Q : D → G → Prop} {ex : Ex} (hn : n < g.length) (hq : ∀ v i', 1 ≤ v → v ≤ 10000000000000 → Q (.int v) (stt g n i' B)) : phi GL T (k + 2) 2 [.ref n] (stt g n i B) Q ex := by
  show runD GL (phi GL T (k + 1)) d_law_need _ _ Q ex
  refine ⟨rfl, ?_⟩
  simp only [d_law_need, c_law_need, startD, List.map_cons, List.map_nil, List.length_cons, List.length_nil, List.replicate, List.cons_append, List.nil_append, Nat.reduceSub, Nat.reduceAdd]
  rw [wpSs_cons]
  simp only [wpS, wpE, wpEs, wpT, wpTs, wpAnd, wpOr, wpTst, pr, litD, isBl, prII, prI1, List.length_cons, List.length_nil, List.getElem?_cons_zero, List.getElem?_cons_succ, List.set_cons_zero, List.set_cons_succ, Nat.reduceAdd]
  refine p_take hn (by decide) (by decide) fun v i' v1 v2 => ?_
  rw [wpSs_cons]
  simp only [wpS, wpE, wpEs, wpT, wpTs, wpAnd, wpOr, wpTst, pr, litD, isBl, prII, prI1, List.length_cons, List.length_nil, List.getElem?_cons_zero, List.getElem?_cons_succ, List.set_cons_zero, List.set_cons_succ, Nat.reduceAdd, pw12, pw6]
  refine ⟨⟨by decide, by decide, by decide⟩, by decide, ?_⟩
  rcases (by omega : v = 0 ∨ v = 1 ∨ v = 2 ∨ v = 3) with rfl | rfl | rfl | rfl
  all_goals
    simp only [prItem, List.length_cons, List.length_nil, Nat.reduceAdd, q0, q1, q2, q3, List.getElem?_cons_zero, List.getElem?_cons_succ, prAdd]
    refine ⟨⟨by decide, by decide, by decide⟩, by decide, ?_⟩
    exact p_take hn (by decide) (by decide) fun v i' v1 v2 => hq _ _ (by omega) (by omega)
theorem p_size {k : Nat} {g B : G} {n : Nat} {i need kind : Int} {Q : D → G → Prop} {ex : Ex} (hn : n < g.length) (n1 : 1 ≤ need) (n2 : need < 2 ^ 61) (hq : ∀ v i', Q (.int v) (stt g n i' B)) : phi GL T (k + 2) 3 [.ref n, .int need, .int kind] (stt g n i B) Q ex := by
  show runD GL (phi GL T (k + 1)) d_law_size _ _ Q ex
  refine ⟨rfl, ?_⟩
  simp only [d_law_size, c_law_size, startD, List.map_cons, List.map_nil, List.length_cons, List.length_nil, List.replicate, List.cons_append, List.nil_append, Nat.reduceSub, Nat.reduceAdd]
  rw [wpSs_cons]
  simp only [wpS, wpE, wpEs, wpT, wpTs, wpAnd, wpOr, wpTst, pr, litD, isBl, prII, prI1, List.length_cons, List.length_nil, List.getElem?_cons_zero, List.getElem?_cons_succ, List.set_cons_zero, List.set_cons_succ, Nat.reduceAdd]
  refine p_take hn (by decide) (by decide) fun p i' p1 p2 => ?_
  simp only [prAdd]
  rw [wpSs_cons]
  simp only [wpS, wpE, wpEs, wpT, wpTs, wpAnd, wpOr, wpTst, pr, litD, isBl, prII, prI1, List.length_cons, List.length_nil, List.getElem?_cons_zero, List.getElem?_cons_succ, List.set_cons_zero, List.set_cons_succ, Nat.reduceAdd]
  refine prEq_pd 0 rfl rfl rfl rfl (by decide) fun c _ => ?_
  cases c with
  | true =>
    simp only [Bool.false_eq_true, if_false, if_true]
    rw [wpSs_cons]
    simp only [wpS, wpE, wpEs, wpT, wpTs, wpAnd, wpOr, wpTst, pr, litD, isBl, prII, prI1, List.length_cons, List.length_nil, List.getElem?_cons_zero, List.getElem?_cons_succ, List.set_cons_zero, List.set_cons_succ, Nat.reduceAdd]
    exact p_take hn (by omega) (by omega) fun v i' v1 v2 => hq _ _
  | false =>
    simp only [Bool.false_eq_true, if_false]
    rw [wpSs_nil]
    dsimp only
    rw [wpSs_cons]
    simp only [wpS, wpE, wpEs, wpT, wpTs, wpAnd, wpOr, wpTst, pr, litD, isBl, prII, prI1, List.length_cons, List.length_nil, List.getElem?_cons_zero, List.getElem?_cons_succ, List.set_cons_zero, List.set_cons_succ, Nat.reduceAdd]
    refine prEq_pd 0 rfl rfl rfl rfl (by decide) fun c _ => ?_
    cases c with
    | true =>
      simp only [Bool.false_eq_true, if_false, if_true]
      rw [wpSs_cons]
      simp only [wpS, wpE, wpEs, wpT, wpTs, wpAnd, wpOr, wpTst, pr, litD, isBl, prII, prI1, List.length_cons, List.length_nil, List.getElem?_cons_zero, List.getElem?_cons_succ, List.set_cons_zero, List.set_cons_succ, Nat.reduceAdd, pw12, divOk]
      refine ⟨⟨by decide, by decide, by decide⟩, ⟨by omega, ?_⟩, ?_⟩
      · have : (1 + p).natAbs.log2 < 62 := (Nat.log2_lt (by omega)).mpr (by omega)
        omega
      · exact p_take hn (by decide) (by decide) fun v i' v1 v2 => hq _ _
    | false =>
      simp only [Bool.false_eq_true, if_false]
      rw [wpSs_nil]
      dsimp only
      rw [wpSs_cons]
      simp only [wpS, wpE, wpEs, wpT, wpTs, wpAnd, wpOr, wpTst, pr, litD, isBl, prII, prI1, List.length_cons, List.length_nil, List.getElem?_cons_zero, List.getElem?_cons_succ, List.set_cons_zero, List.set_cons_succ, Nat.reduceAdd]
      refine prEq_pd 0 rfl rfl rfl rfl (by decide) fun c _ => ?_
      cases c with
      | true =>
        simp only [Bool.false_eq_true, if_false, if_true]
        rw [wpSs_cons]
        simp only [wpS, wpE, wpEs, wpT, wpTs, wpAnd, wpOr, wpTst, pr, litD, isBl, prII, prI1, List.length_cons, List.length_nil, List.getElem?_cons_zero, List.getElem?_cons_succ, List.set_cons_zero, List.set_cons_succ, Nat.reduceAdd, divOk]
        refine ⟨⟨by decide, by decide⟩, ?_⟩
        exact p_take hn (by omega) (by omega) fun v i' v1 v2 => hq _ _
      | false =>
        simp only [Bool.false_eq_true, if_false]
        rw [wpSs_nil]
        dsimp only
        rw [wpSs_cons]
        simp only [wpS, wpE, wpEs, wpT, wpTs, wpAnd, wpOr, wpTst, pr, litD, isBl, prII, prI1, List.length_cons, List.length_nil, List.getElem?_cons_zero, List.getElem?_cons_succ, List.set_cons_zero, List.set_cons_succ, Nat.reduceAdd, divOk, pw12, prAdd]
        refine ⟨⟨by decide, by decide⟩, ⟨by decide, by decide, by decide⟩, ?_⟩
        refine p_take hn (by decide) (by decide) fun v i' v1 v2 => ?_
        refine ⟨by decide, ?_⟩
        rcases (by omega : p = 0 ∨ p = 1 ∨ p = 2 ∨ p = 3) with rfl | rfl | rfl | rfl
        all_goals
          simp only [prItem, List.length_cons, List.length_nil, Nat.reduceAdd, Int.reduceAdd, Int.reduceSub, q0, q1, q2, q3, List.getElem?_cons_zero, List.getElem?_cons_succ]
          exact hq _ _
end Kw

namespace Kw
open PySem Br
def run (b : Bn) : List Int → Bn × List Bool
  | [] => (b, [])
  | x :: xs => ((run (b.put x).1 xs).1, (b.put x).2 :: (run (b.put x).1 xs).2)
theorem run_snoc (x : Int) : ∀ (xs : List Int) (b : Bn), run b (xs ++ [x]) = (((run b xs).1.put x).1, (run b xs).2 ++ [((run b xs).1.put x).2])
  | [], b => rfl
  | y :: xs, b => by
    show ((run (b.put y).1 (xs ++ [x])).1, (b.put y).2 :: (run (b.put y).1 (xs ++ [x])).2) = _
    rw [run_snoc x xs (b.put y).1]
    rfl
structure Bd (b : Bn) (c : Nat) : Prop where
  s : b.shut.length ≤ c
  l : b.lying.length ≤ c
  g0 : 0 ≤ b.great
  g1 : b.great < 2 ^ 62
theorem Bd.put {b : Bn} {c : Nat} {x : Int} (h : Bd b c) (h0 : 1 ≤ x) (h1 : x < 2 ^ 62) : Bd (b.put x).1 (c + 1) := by
  obtain ⟨a1, a2, a3, a4⟩ := h
  unfold Bn.put
  split
  · exact ⟨by simp only; omega, by simp; omega, by simp only; omega, by simp only; omega⟩
  · exact ⟨by simp; omega, by simp, by simp only; omega, by simp only; omega⟩
theorem Bd.run {c : Nat} : ∀ {xs : List Int} {b : Bn}, Bd b c → (∀ x ∈ xs, 1 ≤ x ∧ x < 2 ^ 62) → Bd (run b xs).1 (c + xs.length)
  | [], b, h, _ => h
  | x :: xs, b, h, hx => by
    have h1 := h.put (hx x List.mem_cons_self).1 (hx x List.mem_cons_self).2
    have := Bd.run h1 fun y hy => hx y (List.mem_cons_of_mem _ hy)
    show Bd (Kw.run (b.put x).1 xs).1 _
    have e : c + (x :: xs).length = c + 1 + xs.length := by simp; omega
    rw [e]
    exact this
theorem put_shut (b : Bn) (x : Int) : b.shut <+: (b.put x).1.shut := by
  unfold Bn.put
  split
  · exact List.prefix_refl _
  · exact List.prefix_append _ _
theorem lkp {f n m : Int} {s l : D} {k : Str} (h1 : (k == "full_at") = false) (h2 : (k == "shut") = false) (h3 : (k == "lying") = false) (h4 : (k == "greatest_came") = false) : (fs n s l m).lookup k = none := by
  simp only [fs, List.lookup_cons, h1, h2, h3, h4, List.lookup_nil]
theorem m1 {n m : Int} {s l : D} : (fs n s l m).lookup ("put" : Str) = none := lkp (f := 0) (by decide +kernel) (by decide +kernel) (by decide +kernel) (by decide +kernel)
theorem m2 {n m : Int} {s l : D} : (fs n s l m).lookup ("shut_lots" : Str) = none := lkp (f := 0) (by decide +kernel) (by decide +kernel) (by decide +kernel) (by decide +kernel)
theorem m3 {n m : Int} {s l : D} : (fs n s l m).lookup ("open_lot" : Str) = none := lkp (f := 0) (by decide +kernel) (by decide +kernel) (by decide +kernel) (by decide +kernel)
theorem m4 {n m : Int} {s l : D} : (fs n s l m).lookup ("part_of" : Str) = none := lkp (f := 0) (by decide +kernel) (by decide +kernel) (by decide +kernel) (by decide +kernel)
theorem m5 {n m : Int} {s l : D} : (fs n s l m).lookup ("bound_so" : Str) = none := lkp (f := 0) (by decide +kernel) (by decide +kernel) (by decide +kernel) (by decide +kernel)
theorem insAt_of {g : G} {i s l : Nat} {b : Bn} {m : Str} (h : At g i s l b) (hm : (fs b.need (.ref s) (.ref l) b.great).lookup m = none) : insAt g 0 m (.ref i) := by
  have ho : g[i]? = some (.ins 0 (fs b.need (.ref s) (.ref l) b.great)) := h.oc
  simp only [insAt, ho, hm]
  exact ⟨trivial, trivial⟩
def Fr (g g' : G) : Prop := g.length ≤ g'.length ∧ ∀ j, j < g.length → g'[j]? = g[j]?
theorem fin1_fr {Q : D → G → Prop} {g g' : G} {d : D} (h : Fr g g') (hc : closed g.length d) (q : Q d g) : fin 1 g Q d g' := by
  refine ⟨hc, fun k hk => ⟨g[k], by rw [h.2 k hk]; exact List.getElem?_eq_getElem hk, .inl (List.getElem?_eq_getElem hk)⟩, ?_⟩
  have : g'.take g.length = g := by
    apply List.ext_getElem?
    intro j
    by_cases hj : j < g.length
    · rw [List.getElem?_take, if_pos hj, h.2 j hj]
    · rw [List.getElem?_eq_none (by simp; omega), List.getElem?_eq_none (by omega)]
  rw [this]
  exact q
theorem closedL_int {n : Nat} : ∀ ns : List Int, closedL n (ns.map D.int)
  | [] => trivial
  | _ :: ns => ⟨trivial, closedL_int ns⟩
theorem closedL_bl {n : Nat} : ∀ ns : List Bool, closedL n (ns.map D.bl)
  | [] => trivial
  | _ :: ns => ⟨trivial, closedL_bl ns⟩
theorem closed_lots {n : Nat} : ∀ L : List (List Int), closedL n (lotsD L)
  | [] => trivial
  | l :: L => ⟨closedL_int l, closed_lots L⟩
def resD (r : Bn × List Bool) : D := .tup [.tl (r.2.map .bl), .tl (lotsD r.1.shut), .tup ((srt r.1.lying).map .int), .int r.1.part, .int r.1.bound]
theorem closed_res {n : Nat} (r : Bn × List Bool) : closed n (resD r) := ⟨closedL_bl _, closed_lots _, closedL_int _, trivial, trivial, trivial⟩
theorem p_alone {k : Nat} {g : G} {need : Int} {sz : D} {xs : List Int} {Q : D → G → Prop} {ex : Ex} (hs : ∀ g', Fr g g' → seqOf g' sz = some (xs.map .int)) (hl : xs.length ≤ 63) (hx : ∀ x ∈ xs, 1 ≤ x ∧ x < 2 ^ 62) (hq : Q (resD (run ⟨need, [], [], 0⟩ xs)) g) : phi GL T (k + 3) 4 [.int need, sz] g Q ex := by
  show runD GL (phi GL T (k + 2)) d_law_alone _ _ Q ex
  refine ⟨rfl, ?_⟩
  have le := lineE
  simp only [d_law_alone, c_law_alone, startD, List.map_cons, List.map_nil, List.length_cons, List.length_nil, List.replicate, List.cons_append, List.nil_append, Nat.reduceSub, Nat.reduceAdd]
  rw [wpSs_cons]
  simp only [wpS, wpE, wpEs, wpT, wpTs, wpAnd, wpOr, wpTst, pr, litD, isBl, prII, prI1, List.length_cons, List.length_nil, List.getElem?_cons_zero, List.getElem?_cons_succ, List.set_cons_zero, List.set_cons_succ, Nat.reduceAdd]
  refine p_init ⟨rfl, ?_⟩
  generalize hg1 : g ++ [insD ⟨need, [], [], 0⟩ (g.length + 1) (g.length + 2), C.lst [], C.lst []] = g1
  have fr1 : Fr g g1 := by
    rw [← hg1]
    exact ⟨by simp, fun j hj => get_app hj⟩
  have n1 : g1.length = g.length + 3 := by rw [← hg1]; simp
  have at1 : At g1 g.length (g.length + 1) (g.length + 2) ⟨need, [], [], 0⟩ := by
    rw [← hg1]
    refine ⟨?_, ?_, ?_, by omega, by simp, by simp⟩
    · rw [List.getElem?_append_right (Nat.le_refl _)]; simp
    · rw [List.getElem?_append_right (by omega)]; simp [lotsD]
    · rw [List.getElem?_append_right (by omega)]; simp
  rw [wpSs_cons]
  simp only [wpS]
  rw [wpE_comp]
  simp only [wpEs, wpE, List.getElem?_cons_zero, List.getElem?_cons_succ, items, hs g1 fr1]
  refine ⟨trivial, ?_⟩
  have bd0 : Bd ⟨need, [], [], 0⟩ 0 := ⟨by simp, by simp, by simp, show (0 : Int) < 2 ^ 62 by decide⟩
  refine compL_go (fun t acc g' => t ≤ xs.length ∧ ∃ l', At g' g.length (g.length + 1) l' (run ⟨need, [], [], 0⟩ (xs.take t)).1 ∧ acc = (run ⟨need, [], [], 0⟩ (xs.take t)).2.map .bl ∧ Fr g g' ∧ g.length + 2 ≤ l' ∧ g.length + 3 ≤ g'.length ∧ acc.length = t)
    ⟨Nat.zero_le _, g.length + 2, by simpa [run] using at1, by simp [run], fr1, by omega, by omega, rfl⟩ ?_ ?_ ?_
  · rintro t x acc g' F hxt ⟨ht, l', hat, hacc, fr, hl', hn', hlen⟩ hF _
    rw [List.getElem?_map] at hxt
    cases hy : xs[t]? with
    | none => rw [hy] at hxt; cases hxt
    | some y =>
      rw [hy] at hxt
      cases hxt
      have ht2 : t < xs.length := (List.getElem?_eq_some_iff.mp hy).1
      have hyb := hx y (List.mem_of_getElem? hy)
      have bd := Bd.run (xs := xs.take t) bd0 fun z hz => hx z (List.mem_of_mem_take hz)
      have ltk : (xs.take t).length = t := by simp; omega
      rw [ltk] at bd
      have bs := bd.s
      have bl := bd.l
      refine ⟨by show seqOf g' sz = seqOf g1 sz; rw [hs g' fr, hs g1 fr1], ?_⟩
      simp only [stpC, Br.wipe, List.map_cons, List.map_nil, wpS, wpE, wpEs, wpT, wpTs, wpAnd, wpOr, wpTst, pr, litD, isBl, prII, prI1, List.length_cons, List.length_nil, List.getElem?_cons_zero, List.getElem?_cons_succ, List.set_cons_zero, List.set_cons_succ, Nat.reduceAdd, if_true]
      refine ⟨insAt_of hat m1, ?_⟩
      refine p_put hat (by omega) (by omega) fun g2 l2 at2 hl2 hn2 fr2 => ?_
      have e := run_snoc y (xs.take t) ⟨need, [], [], 0⟩
      have e0 : xs.take (t + 1) = xs.take t ++ [y] := by
        rw [List.take_add_one, hy]
        rfl
      rw [← e0] at e
      refine hF _ _ (by omega) ⟨ht2, l2, by rw [e]; exact at2, by rw [e, hacc]; simp, ⟨by omega, fun j hj => ?_⟩, by omega, by omega, by simp [hlen]⟩
      rw [fr2 j (by omega) (by omega) (by omega) (by omega)]
      exact fr.2 j hj
  · rintro t acc g' ⟨_, _, _, _, _, _, _, hlen⟩ h
    omega
  · rintro acc g' ⟨ht, l', hat, hacc, fr, hl', hn', hlen⟩
    refine ⟨by show seqOf g' sz = seqOf g1 sz; rw [hs g' fr, hs g1 fr1], ?_⟩
    have el : (xs.map D.int).length = xs.length := by simp
    rw [el, List.take_length] at hat hacc
    subst hacc
    have bd := Bd.run (xs := xs) bd0 hx
    simp only [wpT, List.set_cons_zero, List.set_cons_succ]
    rw [wpSs_cons]
    simp only [wpS, wpE, wpEs, wpT, wpTs, wpAnd, wpOr, wpTst, pr, litD, isBl, prII, prI1, List.length_cons, List.length_nil, List.getElem?_cons_zero, List.getElem?_cons_succ, List.set_cons_zero, List.set_cons_succ, Nat.reduceAdd]
    refine ⟨insAt_of hat m2, p_shut hat ?_⟩
    refine ⟨insAt_of hat m3, p_open hat ?_⟩
    refine ⟨insAt_of hat m4, p_part hat bd.g0 bd.g1 ?_⟩
    refine ⟨insAt_of hat m5, p_bound hat bd.g0 bd.g1 ?_⟩
    exact ⟨by decide, fin1_fr fr (closed_res _) hq⟩
theorem p_greater {k : Nat} {g : G} {L : List (List Int)} {m : Int} {Q : D → G → Prop} {ex : Ex} (hm : m.natAbs < 2 ^ 64) (h1 : L.length ≤ 1000) (h2 : ∀ l ∈ L, l.length ≤ 1000) (hq : Q (.tl (lotsD (L.map fun l => l.map (m * ·)))) g) : phi GL T (k + 1) 5 [.tl (lotsD L), .int m] g Q ex := by
  show runD GL (phi GL T k) d_law_greater _ _ Q ex
  refine ⟨rfl, ?_⟩
  have le := lineE
  simp only [d_law_greater, c_law_greater, startD, List.map_cons, List.map_nil, List.length_cons, List.length_nil, List.replicate, List.cons_append, List.nil_append, Nat.reduceSub, Nat.reduceAdd]
  rw [wpSs_cons]
  simp only [wpS]
  rw [wpE_comp]
  simp only [wpEs, wpE, List.getElem?_cons_zero, List.getElem?_cons_succ, items, seqOf, lstOf]
  refine ⟨trivial, ?_⟩
  refine compL_map (fun x => match x with
    | .tup ds => .tup (((intsOf ds).getD []).map fun v => .int (m * v))
    | d => d) rfl (by simp [lotsD]; omega) ?_ ?_
  · intro x hx F hF
    obtain ⟨l, hl, rfl⟩ := List.mem_map.mp hx
    simp only [intsOf_map, Option.getD_some] at hF
    simp only [stpC, Br.wipe, List.map_cons, List.map_nil, wpT, wpTst, if_true, List.set_cons_zero, List.set_cons_succ]
    rw [wpE_prim, wpEs_cons, wpE_comp]
    simp only [wpEs, wpE, List.getElem?_cons_zero, List.getElem?_cons_succ, items, seqOf]
    refine ⟨trivial, ?_⟩
    refine compL_map (fun x => match x with
      | .int v => .int (m * v)
      | d => d) rfl (by have := h2 l hl; simp; omega) ?_ ?_
    · intro y hy F2 hF2
      obtain ⟨v, hv, rfl⟩ := List.mem_map.mp hy
      simp only [stpC, Br.wipe, List.map_cons, List.map_nil, wpS, wpE, wpEs, wpT, wpTs, wpAnd, wpOr, wpTst, pr, litD, isBl, prII, prI1, List.length_cons, List.length_nil, List.getElem?_cons_zero, List.getElem?_cons_succ, List.set_cons_zero, List.set_cons_succ, Nat.reduceAdd, if_true, prMul]
      exact ⟨mulL hm, hF2⟩
    · simp only [pr, prTuple, seqOf, List.map_map, Function.comp_def]
      exact hF
  · have e : (lotsD L).map (fun x => match x with
      | .tup ds => .tup (((intsOf ds).getD []).map fun v => .int (m * v))
      | d => d) = lotsD (L.map fun l => l.map (m * ·)) := by
      unfold lotsD
      simp only [List.map_map, Function.comp_def, intsOf_map, Option.getD_some]
    rw [e]
    exact hq
end Kw

namespace Kw
open PySem Br
def b0n (n : Int) : Bn := ⟨n, [], [], 0⟩
def nd (N w M : Int) : Nat → Int
  | 0 => N
  | 1 => w
  | _ => M * N
def kpD (kp : List (Nat × List (List Int))) : List D := kp.map fun p => .tup [.int (p.1 : Int), .tl (lotsD p.2), .tl (lotsD p.2)]
theorem At.fr {g g' : G} {i s l : Nat} {b : Bn} (h : At g i s l b) (h1 : g'[i]? = g[i]?) (h2 : g'[s]? = g[s]?) (h3 : g'[l]? = g[l]?) : At g' i s l b :=
  ⟨h1.trans h.oc, h2.trans h.sc, h3.trans h.lc, h.ne, h.z1, h.z2⟩
structure Wd (g : G) (N w M : Int) (t : Nat) (cs : Nat → List Int) (ls : Nat → Nat) (kp : List (Nat × List (List Int))) : Prop where
  at_ : ∀ j, j < 3 → At g (1 + 3 * j) (2 + 3 * j) (ls j) (run (b0n (nd N w M j)) (cs j)).1
  lr : ∀ j, j < 3 → ls j = 3 + 3 * j ∨ 17 ≤ ls j
  ld : ∀ j k, j < 3 → k < 3 → j ≠ k → ls j ≠ ls k
  cm : ∀ j, j < 3 → g[10 + j]? = some (.lst ((cs j).map .int))
  td : ∀ j, j < 3 → g[13 + j]? = some (.lst ((run (b0n (nd N w M j)) (cs j)).2.map .bl))
  kc : g[16]? = some (.lst (kpD kp))
  kf : ∀ p ∈ kp, p.1 < 3 ∧ p.2 <+: (run (b0n (nd N w M p.1)) (cs p.1)).1.shut
  bd : ∀ j, j < 3 → ∀ x ∈ cs j, 1 ≤ x ∧ x < 2 ^ 62
  sc : ∀ x ∈ cs 2, ∃ y, x = M * y ∧ 1 ≤ y
  ct : ∀ j, j < 3 → (cs j).length ≤ t
  kt : kp.length ≤ t
  tl : t ≤ 63
section
variable {g : G} {N w M : Int} {t : Nat} {cs : Nat → List Int} {ls : Nat → Nat} {kp : List (Nat × List (List Int))}
theorem Wd.lt (h : Wd g N w M t cs ls kp) {j : Nat} (hj : j < 3) : ls j < g.length := (List.getElem?_eq_some_iff.mp (h.at_ j hj).lc).1
theorem Wd.len (h : Wd g N w M t cs ls kp) : 17 ≤ g.length := (List.getElem?_eq_some_iff.mp h.kc).1
theorem Wd.bound (h : Wd g N w M t cs ls kp) {j : Nat} (hj : j < 3) : Bd (run (b0n (nd N w M j)) (cs j)).1 t := by
  have b0 : Bd (b0n (nd N w M j)) 0 := ⟨by simp [b0n], by simp [b0n], by simp [b0n], show (0 : Int) < 2 ^ 62 by decide⟩
  have := Bd.run b0 (h.bd j hj)
  have c := h.ct j hj
  exact ⟨by have := this.s; omega, by have := this.l; omega, this.g0, this.g1⟩
theorem run_len : ∀ (xs : List Int) (b : Bn), (run b xs).2.length = xs.length
  | [], _ => rfl
  | x :: xs, b => by
    show ((b.put x).2 :: (run (b.put x).1 xs).2).length = _
    rw [List.length_cons, run_len xs]
    rfl
/-- something new beside -/
theorem Wd.app (h : Wd g N w M t cs ls kp) (E : G) : Wd (g ++ E) N w M t cs ls kp := by
  have hl := h.len
  refine ⟨fun j hj => (h.at_ j hj).fr (get_app (by omega)) (get_app (by omega)) (get_app (h.lt hj)), h.lr, h.ld, fun j hj => ?_, fun j hj => ?_, ?_, h.kf, h.bd, h.sc, h.ct, h.kt, h.tl⟩
  · rw [get_app (by omega)]; exact h.cm j hj
  · rw [get_app (by omega)]; exact h.td j hj
  · rw [get_app (by omega)]; exact h.kc
def up {α : Type} (f : Nat → α) (j : Nat) (v : α) : Nat → α := fun k => if k = j then v else f k
theorem up_same {α : Type} {f : Nat → α} {j : Nat} {v : α} : up f j v j = v := if_pos rfl
theorem up_ne {α : Type} {f : Nat → α} {j k : Nat} {v : α} (h : k ≠ j) : up f j v k = f k := if_neg h
/-- one thing to one bench -/
theorem Wd.step (h : Wd g N w M t cs ls kp) (ht : t < 63) {j : Nat} (hj : j < 3) {x : Int} (x1 : 1 ≤ x) (x2 : x < 2 ^ 62) (xm : j = 2 → ∃ y, x = M * y ∧ 1 ≤ y) {g2 : G} {l' : Nat}
    (a2 : At g2 (1 + 3 * j) (2 + 3 * j) l' ((run (b0n (nd N w M j)) (cs j)).1.put x).1) (hl' : l' = ls j ∨ l' = g.length) (hn : g.length ≤ g2.length)
    (fr : ∀ k, k < g.length → k ≠ 1 + 3 * j → k ≠ 2 + 3 * j → k ≠ ls j → g2[k]? = (g.set (10 + j) (.lst ((cs j ++ [x]).map .int)))[k]?) :
    Wd ((g2.set (13 + j) (.lst (((run (b0n (nd N w M j)) (cs j)).2 ++ [((run (b0n (nd N w M j)) (cs j)).1.put x).2]).map .bl))).set 16 (.lst (kpD (kp ++ [(j, ((run (b0n (nd N w M j)) (cs j)).1.put x).1.shut)])))) N w M (t + 1) (up cs j (cs j ++ [x])) (up ls j l') (kp ++ [(j, ((run (b0n (nd N w M j)) (cs j)).1.put x).1.shut)]) := by
  have hl := h.len
  have hlj := h.lt hj
  have lrj := h.lr j hj
  have es := run_snoc x (cs j) (b0n (nd N w M j))
  have hl17 : l' = 3 + 3 * j ∨ 17 ≤ l' := by rcases hl' with e | e <;> omega
  refine ⟨fun k hk => ?_, fun k hk => ?_, fun a b ha hb hab => ?_, fun k hk => ?_, fun k hk => ?_, ?_, fun p hp => ?_, fun k hk => ?_, ?_, fun k hk => ?_, ?_, by omega⟩
  · by_cases e : k = j
    · subst e
      rw [up_same, up_same, es]
      refine a2.fr ?_ ?_ ?_ <;> rw [List.getElem?_set_ne (by omega), List.getElem?_set_ne (by omega)]
    · rw [up_ne e, up_ne e]
      have hk2 := h.at_ k hk
      have hlk := h.lt hk
      have lrk := h.lr k hk
      have d1 := h.ld k j hk hj e
      refine hk2.fr ?_ ?_ ?_
      · rw [List.getElem?_set_ne (by omega), List.getElem?_set_ne (by omega), fr _ (by omega) (by omega) (by omega) (by omega), List.getElem?_set_ne (by omega)]
      · rw [List.getElem?_set_ne (by omega), List.getElem?_set_ne (by omega), fr _ (by omega) (by omega) (by omega) (by omega), List.getElem?_set_ne (by omega)]
      · rw [List.getElem?_set_ne (by omega), List.getElem?_set_ne (by omega), fr _ (by omega) (by omega) (by omega) d1, List.getElem?_set_ne (by omega)]
  · by_cases e : k = j
    · subst e
      rw [up_same]
      exact hl17
    · rw [up_ne e]
      exact h.lr k hk
  · by_cases e1 : a = j
    · subst e1
      rw [up_same, up_ne (Ne.symm hab)]
      have := h.ld a b ha hb hab
      have := h.lt hb
      omega
    · rw [up_ne e1]
      by_cases e2 : b = j
      · subst e2
        rw [up_same]
        have := h.ld a b ha hb hab
        have := h.lt ha
        omega
      · rw [up_ne e2]
        exact h.ld a b ha hb hab
  · rw [List.getElem?_set_ne (by omega), List.getElem?_set_ne (by omega), fr _ (by omega) (by omega) (by omega) (by omega)]
    by_cases e : k = j
    · subst e
      rw [up_same, List.getElem?_set_self (by omega)]
    · rw [up_ne e, List.getElem?_set_ne (by omega)]
      exact h.cm k hk
  · rw [List.getElem?_set_ne (by omega)]
    by_cases e : k = j
    · subst e
      rw [up_same, List.getElem?_set_self (by omega), es]
    · rw [up_ne e, List.getElem?_set_ne (by omega), fr _ (by omega) (by omega) (by omega) (by omega), List.getElem?_set_ne (by omega)]
      exact h.td k hk
  · rw [List.getElem?_set_self (by simp; omega)]
  · rcases List.mem_append.mp hp with hp | hp
    · obtain ⟨h1, h2⟩ := h.kf p hp
      refine ⟨h1, ?_⟩
      by_cases e : p.1 = j
      · rw [e, up_same, es]
        rw [e] at h2
        exact h2.trans (put_shut _ _)
      · rw [up_ne e]
        exact h2
    · simp at hp
      subst hp
      refine ⟨hj, ?_⟩
      simp only [up_same, es]
      exact List.prefix_refl _
  · by_cases e : k = j
    · subst e
      rw [up_same]
      intro y hy
      rcases List.mem_append.mp hy with hy | hy
      · exact h.bd k hk y hy
      · simp at hy
        subst hy
        exact ⟨x1, x2⟩
    · rw [up_ne e]
      exact h.bd k hk
  · by_cases e : 2 = j
    · subst e
      rw [up_same]
      intro y hy
      rcases List.mem_append.mp hy with hy | hy
      · exact h.sc y hy
      · simp at hy
        subst hy
        exact xm rfl
    · rw [up_ne e]
      exact h.sc
  · by_cases e : k = j
    · subst e
      rw [up_same]
      have := h.ct k hk
      simp
      omega
    · rw [up_ne e]
      have := h.ct k hk
      omega
  · have := h.kt
    simp
    omega
end
end Kw

namespace Kw
open PySem Br
/-- the heap ahead of the loop -/
def start0 (i a b c : Int) : G := [.lst [.int i], insD (b0n a) 2 3, .lst [], .lst [], insD (b0n b) 5 6, .lst [], .lst [], insD (b0n c) 8 9, .lst [], .lst [], .lst [], .lst [], .lst [], .lst [], .lst [], .lst [], .lst []]
def refs3 (n : Nat) : D := .tl [.ref n, .ref (n + 1), .ref (n + 2)]
def benD : D := .tl [.ref 1, .ref 4, .ref 7]
theorem lt3 {j : Nat} (h : j < 3) : j = 0 ∨ j = 1 ∨ j = 2 := by omega
theorem start_wd {i N w M : Int} : Wd (start0 i N w (M * N)) N w M 0 (fun _ => []) (fun j => 3 + 3 * j) [] := by
  refine ⟨fun j hj => ?_, fun j _ => .inl rfl, fun j k _ _ hne => by simp; omega, fun j hj => ?_, fun j hj => ?_, rfl, (fun p hp => nomatch hp), (fun j _ x hx => nomatch hx), (fun x hx => nomatch hx), fun j _ => Nat.le_refl _, Nat.le_refl _, by omega⟩
  · rcases lt3 hj with rfl | rfl | rfl <;> exact ⟨rfl, rfl, rfl, by decide, by simp [run, b0n], by simp [run, b0n]⟩
  · rcases lt3 hj with rfl | rfl | rfl <;> rfl
  · rcases lt3 hj with rfl | rfl | rfl <;> rfl
section
variable {g : G} {Q : D → G → Prop} {j : Nat}
theorem pr_refs {n : Nat} (hj : j < 3) (hq : Q (.ref (n + j)) g) : prItem g Q (refs3 n) (.int j) := by
  have hp : place 3 (j : Int) = some j := place_of hj
  simp only [refs3, prItem, List.length_cons, List.length_nil, Nat.reduceAdd, hp]
  rcases lt3 hj with rfl | rfl | rfl <;> exact hq
theorem pr_ben (hj : j < 3) (hq : Q (.ref (1 + 3 * j)) g) : prItem g Q benD (.int j) := by
  have hp : place 3 (j : Int) = some j := place_of hj
  simp only [benD, prItem, List.length_cons, List.length_nil, Nat.reduceAdd, hp]
  rcases lt3 hj with rfl | rfl | rfl <;> exact hq
end
def lbody : List CS := match c_law.getD 9 .brk with
  | .for _ _ _ b => b
  | _ => []
abbrev sg (sc : D) (M N w : Int) (ms : List Int) (a b c d e : Option D) (x y z : Option D) : S := [some sc, some (.ref 0), some (.int M), some (.int N), some (.tl (ms.map .int)), none, some (.tl [.int N, .int w, .int (M * N)]), some benD, none, some (refs3 10), some (refs3 13), some (.ref 16), a, b, c, d, e, x, y, z]
theorem wpE_meth {Φ : Phi} {p c cs σ g Q ex} : wpE GL Φ (.meth p c cs) σ g Q ex = wpE GL Φ c σ g (fun d g1 => recvOk g1 p d ∧ wpEs GL Φ cs σ g1 (fun ds g2 => pr g2 Q p (d :: ds)) ex) ex := by
  conv => lhs; unfold wpE
theorem turn_ok {k : Nat} {sc : D} {M N w : Int} {ms : List Int} {a b c d e x y z : Option D} {cell : Int} {g : G} {t : Nat} {cs : Nat → List Int} {ls : Nat → Nat} {kp : List (Nat × List (List Int))} {E : En} (hM : 2 ≤ M) (hM2 : M ≤ 11) (l1 : 1 ≤ ms.length) (hms : ∀ m ∈ ms, 1 ≤ m ∧ m ≤ 100000000000) (W : Wd g N w M t cs ls kp) (ht : t < 63)
    (hE : ∀ g cs ls kp a b c d e, Wd g N w M (t + 1) cs ls kp → E.nx (sg sc M N w ms a b c d e x y z) g) : wpSs GL (phi GL T (k + 2)) lbody E (sg sc M N w ms (some (.int cell)) b c d e x y z) g := by
  have le := lineE
  show wpSs GL _ (_ :: lbody.drop 1) _ _ _
  rw [wpSs_cons]
  simp only [wpS, wpE, wpEs, wpT, wpTs, wpAnd, wpOr, wpTst, pr, litD, isBl, prII, prI1, List.length_cons, List.length_nil, List.getElem?_cons_zero, List.getElem?_cons_succ, List.set_cons_zero, List.set_cons_succ, Nat.reduceAdd]
  refine p_deal (by decide) (by decide) fun v => ?_
  have hv : (g ++ [C.lst [D.int v]])[g.length]? = some (.lst [.int v]) := by simp
  simp only [prItem, hv, place0, List.length_cons, List.length_nil, List.getElem?_cons_zero]
  have W := W.app [C.lst [D.int v]]
  generalize g ++ [C.lst [D.int v]] = g at W hv
  show wpSs GL _ (_ :: lbody.drop 2) _ _ _
  rw [wpSs_cons]
  simp only [wpS, wpE, wpEs, wpT, wpTs, wpAnd, wpOr, wpTst, pr, litD, isBl, prII, prI1, List.length_cons, List.length_nil, List.getElem?_cons_zero, List.getElem?_cons_succ, List.set_cons_zero, List.set_cons_succ, Nat.reduceAdd, divOk]
  refine ⟨⟨by decide, by decide⟩, by decide, ?_⟩
  obtain ⟨j, hj, ej⟩ : ∃ j : Nat, j < 3 ∧ v / 7 % 3 = (j : Int) := ⟨(v / 7 % 3).toNat, by have := Int.emod_lt_of_pos (v / 7) (b := 3) (by decide); omega, by have := Int.emod_nonneg (v / 7) (b := 3) (by decide); omega⟩
  rw [ej]
  show wpSs GL _ (_ :: lbody.drop 3) _ _ _
  rw [wpSs_cons]
  simp only [wpS, wpE, wpEs, wpT, wpTs, wpAnd, wpOr, wpTst, pr, litD, isBl, prII, prI1, List.length_cons, List.length_nil, List.getElem?_cons_zero, List.getElem?_cons_succ, List.set_cons_zero, List.set_cons_succ, Nat.reduceAdd, divOk, prLen, List.length_map]
  refine ⟨⟨by decide, by decide⟩, by omega, ?_⟩
  have r1 := Int.emod_nonneg (v / 21) (b := (ms.length : Int)) (by omega)
  have r2 := Int.emod_lt_of_pos (v / 21) (b := (ms.length : Int)) (by omega)
  have hr : (v / 21 % (ms.length : Int)).toNat < ms.length := by omega
  have hS : ms[(v / 21 % (ms.length : Int)).toNat]? = some ms[(v / 21 % (ms.length : Int)).toNat] := List.getElem?_eq_getElem hr
  have hm := hms _ (List.getElem_mem hr)
  simp only [prItem, List.length_map, place_ofI r1 r2, mint hS]
  generalize ms[(v / 21 % (ms.length : Int)).toNat] = m at hm
  refine ⟨by decide, ?_⟩
  have hp3 : place 3 (j : Int) = some j := place_of hj
  obtain ⟨f, hf, hf2⟩ : ∃ f : Int, ([D.int 1, .int 1, .int M])[j]? = some (.int f) ∧ (1 ≤ f ∧ f ≤ 11 ∧ (j = 2 → f = M)) := by
    rcases lt3 hj with rfl | rfl | rfl
    · exact ⟨1, rfl, by omega, by omega, by omega⟩
    · exact ⟨1, rfl, by omega, by omega, by omega⟩
    · exact ⟨M, rfl, by omega, by omega, fun _ => rfl⟩
  simp only [List.length_cons, List.length_nil, Nat.reduceAdd, hp3, hf, prMul]
  refine ⟨mulL (by omega), ?_⟩
  have x1 : 1 ≤ m * f := by
    have := Int.mul_le_mul hm.1 hf2.1 (by decide) (by omega)
    simpa using this
  have x2 : m * f < 2 ^ 62 := by
    have := Int.mul_le_mul hm.2 hf2.2.1 (by omega) (by decide)
    omega
  have xm : j = 2 → ∃ y, m * f = M * y ∧ 1 ≤ y := fun e => ⟨m, by rw [hf2.2.2 e, Int.mul_comm], hm.1⟩
  generalize m * f = x0 at x1 x2 xm
  have hl := W.len
  have hlj := W.lt hj
  have lrj := W.lr j hj
  have hct := W.ct j hj
  have bdj := W.bound hj
  show wpSs GL _ (_ :: lbody.drop 4) _ _ _
  rw [wpSs_cons]
  simp only [wpS, wpE, wpEs, wpT, wpTs, wpAnd, wpOr, wpTst, pr, litD, isBl, prII, prI1, List.length_cons, List.length_nil, List.getElem?_cons_zero, List.getElem?_cons_succ, List.set_cons_zero, List.set_cons_succ, Nat.reduceAdd]
  refine pr_refs hj ?_
  simp only [recvOk, lstOf, W.cm j hj, Option.isSome_some, prAppend]
  refine ⟨trivial, by simp; omega, ?_⟩
  have ea : (cs j).map D.int ++ [.int x0] = (cs j ++ [x0]).map D.int := by simp
  rw [ea]
  show wpSs GL _ (_ :: lbody.drop 5) _ _ _
  rw [wpSs_cons]
  simp only [wpS, wpE, wpEs, wpT, wpTs, wpAnd, wpOr, wpTst, pr, litD, isBl, prII, prI1, List.length_cons, List.length_nil, List.getElem?_cons_zero, List.getElem?_cons_succ, List.set_cons_zero, List.set_cons_succ, Nat.reduceAdd]
  refine pr_refs hj ?_
  have td1 : (g.set (10 + j) (.lst ((cs j ++ [x0]).map .int)))[13 + j]? = some (.lst ((run (b0n (nd N w M j)) (cs j)).2.map .bl)) := by
    rw [List.getElem?_set_ne (by omega)]
    exact W.td j hj
  simp only [recvOk, lstOf, td1, Option.isSome_some]
  refine ⟨trivial, ?_⟩
  refine pr_ben hj ?_
  have at1 : At (g.set (10 + j) (.lst ((cs j ++ [x0]).map .int))) (1 + 3 * j) (2 + 3 * j) (ls j) (run (b0n (nd N w M j)) (cs j)).1 :=
    (W.at_ j hj).fr (List.getElem?_set_ne (by omega)) (List.getElem?_set_ne (by omega)) (List.getElem?_set_ne (by omega))
  have bs := bdj.s
  have bl := bdj.l
  refine ⟨insAt_of at1 m1, ?_⟩
  refine p_put at1 (by omega) (by omega) fun g2 l' a2 hl' hn2 fr2 => ?_
  rw [List.length_set] at hl' hn2
  have fr3 : ∀ q, q < g.length → q ≠ 1 + 3 * j → q ≠ 2 + 3 * j → q ≠ ls j → g2[q]? = (g.set (10 + j) (.lst ((cs j ++ [x0]).map .int)))[q]? := fun q h0 h1 h2 h3 => fr2 q (by rw [List.length_set]; exact h0) h1 h2 h3
  have td2 : g2[13 + j]? = some (.lst ((run (b0n (nd N w M j)) (cs j)).2.map .bl)) := by
    rw [fr3 _ (by omega) (by omega) (by omega) (by omega)]
    exact td1
  have step := W.step ht hj x1 x2 xm a2 hl' hn2 fr3
  have rl := run_len (cs j) (b0n (nd N w M j))
  simp only [prAppend, td2]
  refine ⟨by simp; omega, ?_⟩
  have eb : (run (b0n (nd N w M j)) (cs j)).2.map D.bl ++ [.bl ((run (b0n (nd N w M j)) (cs j)).1.put x0).2] = ((run (b0n (nd N w M j)) (cs j)).2 ++ [((run (b0n (nd N w M j)) (cs j)).1.put x0).2]).map .bl := by simp
  rw [eb]
  have at3 : At (g2.set (13 + j) (.lst (((run (b0n (nd N w M j)) (cs j)).2 ++ [((run (b0n (nd N w M j)) (cs j)).1.put x0).2]).map .bl))) (1 + 3 * j) (2 + 3 * j) l' ((run (b0n (nd N w M j)) (cs j)).1.put x0).1 :=
    a2.fr (List.getElem?_set_ne (by omega)) (List.getElem?_set_ne (by omega)) (List.getElem?_set_ne (by omega))
  have k3 : (g2.set (13 + j) (.lst (((run (b0n (nd N w M j)) (cs j)).2 ++ [((run (b0n (nd N w M j)) (cs j)).1.put x0).2]).map .bl)))[16]? = some (.lst (kpD kp)) := by
    rw [List.getElem?_set_ne (by omega), fr3 _ (by omega) (by omega) (by omega) (by omega), List.getElem?_set_ne (by omega)]
    exact W.kc
  show wpSs GL _ (_ :: lbody.drop 6) _ _ _
  rw [wpSs_cons]
  simp only [wpS, wpE, wpEs, wpT, wpTs, wpAnd, wpOr, wpTst, pr, litD, isBl, prII, prI1, List.length_cons, List.length_nil, List.getElem?_cons_zero, List.getElem?_cons_succ, List.set_cons_zero, List.set_cons_succ, Nat.reduceAdd]
  refine pr_ben hj ?_
  refine ⟨insAt_of at3 m2, p_shut at3 ?_⟩
  show wpSs GL _ (_ :: []) _ _ _
  rw [wpSs_cons]
  simp only [wpS, wpE, wpEs, wpT, wpTs, wpAnd, wpOr, wpTst, pr, litD, isBl, prII, prI1, List.length_cons, List.length_nil, List.getElem?_cons_zero, List.getElem?_cons_succ, List.set_cons_zero, List.set_cons_succ, Nat.reduceAdd, recvOk, lstOf, k3, Option.isSome_some, prList, seqOf, prAppend]
  have hkt := W.kt
  refine ⟨trivial, by decide, by simp [kpD]; omega, ?_⟩
  rw [wpSs_nil]
  have ek : kpD kp ++ [.tup [.int (j : Int), .tl (lotsD ((run (b0n (nd N w M j)) (cs j)).1.put x0).1.shut), .tl (lotsD ((run (b0n (nd N w M j)) (cs j)).1.put x0).1.shut)]] = kpD (kp ++ [(j, ((run (b0n (nd N w M j)) (cs j)).1.put x0).1.shut)]) := by simp [kpD]
  rw [ek]
  exact hE _ _ _ _ _ _ _ _ _ step
end Kw

namespace Kw
open PySem Br
/-! ### equal data -/
def Dt (n : Nat) (d : D) : Prop := ∃ p, dat d = some p ∧ p.canLay0 = true ∧ p.depth ≤ n
theorem Dt.tup {n : Nat} {ds : List D} (h : ∀ d ∈ ds, Dt n d) : Dt (n + 1) (.tup ds) := by
  obtain ⟨ps, h1, h2, h3⟩ := datL_of (n := n) h
  exact ⟨.tuple ps, by unfold dat; rw [h1]; rfl, h2, Nat.succ_le_succ h3⟩
theorem Dt.tl {n : Nat} {ds : List D} (h : ∀ d ∈ ds, Dt n d) : Dt (n + 1) (.tl ds) := by
  obtain ⟨ps, h1, h2, h3⟩ := datL_of (n := n) h
  exact ⟨.list ps, by unfold dat; rw [h1]; rfl, h2, Nat.succ_le_succ h3⟩
theorem Dt.int {n : Nat} {i : Int} : Dt n (.int i) := ⟨.int i, rfl, rfl, Nat.zero_le _⟩
theorem Dt.bl {n : Nat} {i : Bool} : Dt n (.bl i) := ⟨.bool i, rfl, rfl, Nat.zero_le _⟩
theorem Dt.ints {n : Nat} {l : List Int} : ∀ d ∈ l.map D.int, Dt n d := fun d hd => by
  obtain ⟨i, _, rfl⟩ := List.mem_map.mp hd
  exact .int
theorem Dt.lots {L : List (List Int)} : Dt 2 (.tl (lotsD L)) := .tl fun d hd => by
  obtain ⟨l, _, rfl⟩ := List.mem_map.mp hd
  exact .tup .ints
theorem Dt.res (r : Bn × List Bool) : Dt 3 (resD r) := .tup fun d hd => by
  simp only [List.mem_cons, List.mem_nil_iff, or_false] at hd
  rcases hd with rfl | rfl | rfl | rfl | rfl
  · exact .tl fun d hd => by
      obtain ⟨i, _, rfl⟩ := List.mem_map.mp hd
      exact .bl
  · exact .lots
  · exact .tup .ints
  · exact .int
  · exact .int
theorem prEq_same {g : G} {Q : D → G → Prop} {neg : Bool} {x y a : D} {n : Nat} (hx : res g x = a) (hy : res g y = a) (ha : Dt n a) (hn : n ≤ 64) (hq : Q (.bl (!neg)) g) : prEq g Q neg x y := by
  obtain ⟨p, h1, h2, h3⟩ := ha
  unfold prEq
  rw [hx, hy, h1]
  have hs : SeqAt.shaped p = true := Bool.and_eq_true_iff.mpr ⟨h2, decide_eq_true (by omega)⟩
  refine ⟨hs, hs, ?_⟩
  have e : PyData.eqv p p = true := by
    exact PySem.SeqAt.eqv_refl p h2
  rw [e]
  cases neg <;> exact hq
theorem res_ints {g : G} (l : List Int) : resL g (l.map .int) = l.map .int := resL_id fun d hd => by
  obtain ⟨i, _, rfl⟩ := List.mem_map.mp hd
  rfl
theorem res_lots {g : G} (L : List (List Int)) : res g (.tl (lotsD L)) = .tl (lotsD L) := by
  unfold res
  rw [resL_id fun d hd => by
    obtain ⟨l, _, rfl⟩ := List.mem_map.mp hd
    unfold res
    rw [res_ints]]
theorem res_bls {g : G} (l : List Bool) : res g (.tl (l.map .bl)) = .tl (l.map .bl) := by
  unfold res
  rw [resL_id fun d hd => by
    obtain ⟨i, _, rfl⟩ := List.mem_map.mp hd
    rfl]
theorem res_tupI {g : G} (l : List Int) : res g (.tup (l.map .int)) = .tup (l.map .int) := by
  unfold res
  rw [res_ints]
theorem res_resD {g : G} (r : Bn × List Bool) : res g (resD r) = resD r := by
  unfold resD
  unfold res
  simp only [resL, res_bls, res_lots, res_tupI]
  simp only [res]
/-! ### all things so many times as great -/
def scB (M : Int) (b : Bn) : Bn := ⟨M * b.need, b.shut.map fun l => l.map (M * ·), b.lying.map (M * ·), M * b.great⟩
theorem sum_sc (M : Int) : ∀ l : List Int, (l.map (M * ·)).sum = M * l.sum
  | [] => by simp
  | x :: l => by
    rw [List.map_cons, List.sum_cons, sum_sc M l, List.sum_cons, Int.mul_add]
theorem srt_sc {M : Int} (hM : 0 < M) (l : List Int) : srt (l.map (M * ·)) = (srt l).map (M * ·) := by
  have s : ∀ l : List Int, (srt l).Pairwise (· ≤ ·) := fun l => by
    have := List.pairwise_mergeSort (le := fun (a b : Int) => decide (a ≤ b)) (fun a b c h1 h2 => by simp at *; omega) (fun a b => by simp; omega) l
    exact this.imp fun h => by simpa using h
  have p1 : (srt (l.map (M * ·))).Perm (l.map (M * ·)) := List.mergeSort_perm _ _
  have p2 : ((srt l).map (M * ·)).Perm (l.map (M * ·)) := (List.mergeSort_perm l _).map _
  refine List.Perm.eq_of_pairwise (fun a b _ _ h1 h2 => Int.le_antisymm h1 h2) (s _) ?_ (p1.trans p2.symm)
  rw [List.pairwise_map]
  exact (s l).imp fun h => Int.mul_le_mul_of_nonneg_left h (by omega)
theorem max_sc {M : Int} (hM : 0 < M) (a b : Int) : max (M * a) (M * b) = M * max a b := by
  by_cases h : a ≤ b
  · rw [Int.max_eq_right h, Int.max_eq_right (Int.mul_le_mul_of_nonneg_left h (by omega))]
  · have h1 := Int.mul_le_mul_of_nonneg_left (show b ≤ a by omega) (show 0 ≤ M by omega)
    rw [Int.max_eq_left (show b ≤ a by omega)]
    exact Int.max_eq_left h1
theorem put_sc {M : Int} (hM : 0 < M) (b : Bn) (x : Int) : (scB M b).put (M * x) = (scB M (b.put x).1, (b.put x).2) := by
  have e1 : (scB M b).lying ++ [M * x] = (b.lying ++ [x]).map (M * ·) := by simp [scB]
  unfold Bn.put
  rw [e1, sum_sc]
  have e2 : (M * (b.lying ++ [x]).sum < (scB M b).need) ↔ ((b.lying ++ [x]).sum < b.need) := by
    show M * _ < M * b.need ↔ _
    exact Int.mul_lt_mul_left hM
  by_cases h : (b.lying ++ [x]).sum < b.need
  · rw [if_pos (e2.mpr h), if_pos h]
    simp only [scB, max_sc hM]
  · rw [if_neg (fun z => h (e2.mp z)), if_neg h]
    simp only [scB, max_sc hM, srt_sc hM]
    simp
theorem run_sc {M : Int} (hM : 0 < M) : ∀ (xs : List Int) (b : Bn), (run (scB M b) (xs.map (M * ·))).1 = scB M (run b xs).1
  | [], b => rfl
  | x :: xs, b => by
    show (run ((scB M b).put (M * x)).1 (xs.map (M * ·))).1 = _
    rw [put_sc hM]
    exact run_sc hM xs (b.put x).1
theorem part_sc {M : Int} (hM : 0 < M) (b : Bn) : (scB M b).part = b.part := by
  unfold Bn.part
  show (if M * b.great = 0 then (60 : Int) else max 1 (min 60 (M * b.need / (M * b.great)))) = _
  by_cases h : b.great = 0
  · rw [if_pos (by rw [h]; simp), if_pos h]
  · rw [if_neg (fun z => by
      rcases Int.mul_eq_zero.mp z with z | z
      · omega
      · exact h z), if_neg h, Int.mul_ediv_mul_of_pos _ _ hM]
end Kw

namespace Kw
open PySem Br
theorem Wd.anyT {g : G} {N w M : Int} {t : Nat} {cs : Nat → List Int} {ls : Nat → Nat} {kp : List (Nat × List (List Int))} (h : Wd g N w M t cs ls kp) : Wd g N w M 63 cs ls kp :=
  ⟨h.at_, h.lr, h.ld, h.cm, h.td, h.kc, h.kf, h.bd, h.sc, fun j hj => Nat.le_trans (h.ct j hj) h.tl, Nat.le_trans h.kt h.tl, Nat.le_refl _⟩
theorem wpOr_two {Φ : Phi} {c c2 σ g Q ex} : wpOr GL Φ [c, c2] σ g Q ex = wpE GL Φ c σ g (fun d g1 => isBl d fun b => if b = true then Q (.bl true) g1 else wpOr GL Φ [c2] σ g1 Q ex) ex := by
  conv => lhs; unfold wpOr
theorem wpOr_one {Φ : Phi} {c σ g Q ex} : wpOr GL Φ [c] σ g Q ex = wpE GL Φ c σ g (fun d g1 => isBl d fun b => Q (.bl b) g1) ex := by
  conv => lhs; unfold wpOr
theorem wpE_or {Φ : Phi} {cs σ g Q ex} : wpE GL Φ (.or cs) σ g Q ex = wpOr GL Φ cs σ g Q ex := by
  conv => lhs; unfold wpE
theorem wpAnd_two {Φ : Phi} {c c2 σ g Q ex} : wpAnd GL Φ [c, c2] σ g Q ex = wpE GL Φ c σ g (fun d g1 => isBl d fun b => if b = true then wpAnd GL Φ [c2] σ g1 Q ex else Q (.bl false) g1) ex := by
  conv => lhs; unfold wpAnd
theorem wpAnd_one {Φ : Phi} {c σ g Q ex} : wpAnd GL Φ [c] σ g Q ex = wpE GL Φ c σ g (fun d g1 => isBl d fun b => Q (.bl b) g1) ex := by
  conv => lhs; unfold wpAnd
theorem wpE_and {Φ : Phi} {cs σ g Q ex} : wpE GL Φ (.and cs) σ g Q ex = wpAnd GL Φ cs σ g Q ex := by
  conv => lhs; unfold wpE
theorem fr_seq {g : G} {m : Nat} {xs : List Int} (h : g[m]? = some (.lst (xs.map .int))) : ∀ g', Fr g g' → seqOf g' (.ref m) = some (xs.map .int) := by
  intro g' fr
  have : g'[m]? = some (.lst (xs.map .int)) := (fr.2 m (List.getElem?_eq_some_iff.mp h).1).trans h
  simp only [seqOf, lstOf, this]
theorem unsc {M : Int} (hM : 0 < M) : ∀ {xs : List Int}, (∀ x ∈ xs, ∃ y, x = M * y ∧ 1 ≤ y) → (xs.map (· / M)).map (M * ·) = xs ∧ ∀ y ∈ xs.map (· / M), 1 ≤ y
  | [], _ => ⟨rfl, fun y hy => nomatch hy⟩
  | x :: xs, h => by
    obtain ⟨y, rfl, hy⟩ := h x List.mem_cons_self
    obtain ⟨h1, h2⟩ := unsc hM fun z hz => h z (List.mem_cons_of_mem _ hz)
    have e : M * y / M = y := Int.mul_ediv_cancel_left _ (by omega)
    refine ⟨?_, fun z hz => ?_⟩
    · rw [List.map_cons, List.map_cons, h1, e]
    · rw [List.map_cons, e] at hz
      rcases List.mem_cons.mp hz with rfl | hz
      · exact hy
      · exact h2 z hz
theorem wpE_call {Φ : Phi} {f cs σ g Q ex} : wpE GL Φ (.call f cs) σ g Q ex = wpEs GL Φ cs σ g (fun ds g1 => Φ f ds g1 Q ex) ex := by
  conv => lhs; unfold wpE
theorem put_len {b : Bn} {x : Int} {c : Nat} (h1 : ∀ l ∈ b.shut, l.length ≤ c) (h2 : b.lying.length ≤ c) : ∀ l ∈ (b.put x).1.shut, l.length ≤ c + 1 := by
  intro l hl
  unfold Bn.put at hl
  split at hl
  · have := h1 l hl
    omega
  · rcases List.mem_append.mp hl with hl | hl
    · have := h1 l hl
      omega
    · simp at hl
      subst hl
      simp [srt]
      omega
theorem run_lens : ∀ (xs : List Int) (b : Bn) (c : Nat), (∀ l ∈ b.shut, l.length ≤ c) → b.lying.length ≤ c → ∀ l ∈ (run b xs).1.shut, l.length ≤ c + xs.length
  | [], _, _, h, _, l, hl => h l hl
  | x :: xs, b, c, h1, h2, l, hl => by
    have h3 := put_len (x := x) h1 h2
    have h4 : (b.put x).1.lying.length ≤ c + 1 := by
      unfold Bn.put
      split
      · simp; omega
      · simp
    have := run_lens xs (b.put x).1 (c + 1) h3 h4 l hl
    simp only [List.length_cons]
    omega
theorem lots_len {N : Int} {ys : List Int} (h : ys.length ≤ 63) : ∀ l ∈ (run (b0n N) ys).1.shut, l.length ≤ 1000 := fun l hl => by
  have := run_lens ys (b0n N) 0 (fun l hl => nomatch hl) (by simp [b0n]) l hl
  omega
theorem pr_needs {g : G} {Q : D → G → Prop} {j : Nat} {N w M : Int} (hj : j < 3) (hq : Q (.int (nd N w M j)) g) : prItem g Q (.tl [.int N, .int w, .int (M * N)]) (.int j) := by
  have hp : place 3 (j : Int) = some j := place_of hj
  simp only [prItem, List.length_cons, List.length_nil, Nat.reduceAdd, hp]
  rcases lt3 hj with rfl | rfl | rfl <;> exact hq
theorem after_ok {sc : D} {M N w : Int} {ms : List Int} {a b c d e x y z : Option D} {g : G} {cs : Nat → List Int} {ls : Nat → Nat} {kp : List (Nat × List (List Int))} {E : En} (hM : 2 ≤ M) (hM2 : M ≤ 11) (W : Wd g N w M 63 cs ls kp)
    (hE : ∀ g', E.rt (.bl true) g') : wpSs GL (phi GL T 19) (c_law.drop 10) E (sg sc M N w ms a b c d e x y z) g := by
  have le := lineE
  -- the first: every bench tells as one alone
  show wpSs GL _ (_ :: c_law.drop 11) _ _ _
  rw [wpSs_cons, wpS_for]
  simp only [wpS, wpE, wpEs, wpT, wpTs, wpAnd, wpOr, wpTst, pr, litD, isBl, prII, prI1, List.length_cons, List.length_nil, List.getElem?_cons_zero, List.getElem?_cons_succ, List.set_cons_zero, List.set_cons_succ, Nat.reduceAdd, items]
  refine ⟨⟨by decide, by decide⟩, ?_⟩
  refine forL_go (fun _ σ g' => g' = g ∧ ∃ a b c d e x y z, σ = sg sc M N w ms a b c d e x y z) ⟨rfl, a, b, c, d, e, x, y, z, rfl⟩ ?_ ?_
  · rintro j v σ g' F hx ⟨rfl, a, b, c, d, e, x, y, z, rfl⟩ hF
    have hj : j < 3 := by
      have := (List.getElem?_eq_some_iff.mp hx).1
      simpa using this
    rw [List.getElem?_map, List.getElem?_range (by simpa using hj)] at hx
    cases hx
    refine ⟨trivial, ?_⟩
    simp only [wpT, List.set_cons_zero, List.set_cons_succ]
    rw [wpSs_cons]
    simp only [wpS, wpE, wpEs, wpT, wpTs, wpAnd, wpOr, wpTst, pr, litD, isBl, prII, prI1, List.length_cons, List.length_nil, List.getElem?_cons_zero, List.getElem?_cons_succ, List.set_cons_zero, List.set_cons_succ, Nat.reduceAdd]
    refine pr_ben hj ?_
    have bdj := W.bound hj
    have hat := W.at_ j hj
    rw [wpSs_cons]
    simp only [wpS, wpE, wpEs, wpT, wpTs, wpAnd, wpOr, wpTst, pr, litD, isBl, prII, prI1, List.length_cons, List.length_nil, List.getElem?_cons_zero, List.getElem?_cons_succ, List.set_cons_zero, List.set_cons_succ, Nat.reduceAdd]
    refine pr_refs hj ?_
    refine ⟨insAt_of hat m2, p_shut hat ?_⟩
    refine ⟨insAt_of hat m3, p_open hat ?_⟩
    refine ⟨insAt_of hat m4, p_part hat bdj.g0 bdj.g1 ?_⟩
    refine ⟨insAt_of hat m5, p_bound hat bdj.g0 bdj.g1 ?_⟩
    refine ⟨by decide, ?_⟩
    refine pr_needs hj ?_
    refine pr_refs hj ?_
    refine p_alone (k := 16) (fr_seq (W.cm j hj)) (W.ct j hj) (W.bd j hj) ?_
    refine prEq_same (n := 3) (a := resD (run (b0n (nd N w M j)) (cs j))) ?_ (res_resD _) (.res _) (by decide) ?_
    · have h13 : res g' (.ref (13 + j)) = .tl ((run (b0n (nd N w M j)) (cs j)).2.map .bl) := by
        unfold res
        rw [W.td j hj]
      unfold res
      simp only [resL, h13, res_lots, res_tupI]
      rfl
    · simp only [Bool.not_true, Bool.false_eq_true, if_false]
      rw [wpSs_nil]
      dsimp only
      rw [wpSs_nil]
      exact hF _ _ ⟨rfl, _, _, _, _, _, _, _, _, rfl⟩
  · rintro σ g' ⟨rfl, a, b, c, d, e, x, y, z, rfl⟩
    refine ⟨trivial, ?_⟩
    dsimp only
    -- the second: what was kept stands
    show wpSs GL _ (_ :: c_law.drop 12) _ _ _
    rw [wpSs_cons, wpS_for]
    simp only [wpS, wpE, wpEs, wpT, wpTs, wpAnd, wpOr, wpTst, pr, litD, isBl, prII, prI1, List.length_cons, List.length_nil, List.getElem?_cons_zero, List.getElem?_cons_succ, List.set_cons_zero, List.set_cons_succ, Nat.reduceAdd, items, seqOf, lstOf, W.kc]
    refine ⟨trivial, ?_⟩
    refine forL_go (fun _ σ g2 => g2 = g' ∧ ∃ a b c d e x y z, σ = sg sc M N w ms a b c d e x y z) ⟨rfl, a, b, c, d, e, x, y, z, rfl⟩ ?_ ?_
    · rintro t v σ g2 F hx ⟨rfl, a, b, c, d, e, x, y, z, rfl⟩ hF
      obtain ⟨p, hp, rfl⟩ := List.mem_map.mp (List.mem_of_getElem? hx)
      obtain ⟨hj, hpre⟩ := W.kf p hp
      have hat := W.at_ p.1 hj
      have bdj := W.bound hj
      have bs := bdj.s
      have hle : p.2.length ≤ 63 := Nat.le_trans hpre.length_le bs
      refine ⟨rfl, ?_⟩
      simp only [wpT, wpTs, List.length_cons, List.length_nil, List.set_cons_zero, List.set_cons_succ]
      refine ⟨trivial, trivial, ?_⟩
      rw [wpSs_cons]
      simp only [wpS]
      rw [wpE_or, wpOr_two]
      simp only [wpE, wpEs, pr, isBl, List.getElem?_cons_zero, List.getElem?_cons_succ]
      refine prEq_same (n := 2) (res_lots _) (res_lots _) .lots (by decide) ?_
      simp only [Bool.not_true, Bool.false_eq_true, if_false]
      rw [wpOr_one]
      simp only [wpE, wpEs, pr, isBl, List.getElem?_cons_zero, List.getElem?_cons_succ]
      refine pr_ben hj ?_
      refine ⟨insAt_of hat m2, p_shut hat ?_⟩
      simp only [prLen, prI1, prCut]
      have el : (lotsD p.2).length = p.2.length := by simp [lotsD]
      have ec : cutL (lotsD (run (b0n (nd N w M p.1)) (cs p.1)).1.shut) none (some ((lotsD p.2).length : Int)) = lotsD p.2 := by
        unfold cutL clampI
        rw [el]
        simp only [Option.map_none, Option.getD_none, Option.map_some, Option.getD_some, List.drop_zero]
        rw [if_neg (by omega)]
        have e1 : min (Int.toNat (p.2.length : Int)) (lotsD (run (b0n (nd N w M p.1)) (cs p.1)).1.shut).length = p.2.length := by
          have := hpre.length_le
          simp [lotsD]
          omega
        rw [e1]
        unfold lotsD
        rw [← List.map_take, ← List.prefix_iff_eq_take.mp hpre]
      refine ⟨by simp, by rw [el]; simp [bound63]; omega, ?_⟩
      rw [ec]
      refine prEq_same (n := 2) (res_lots _) (res_lots _) .lots (by decide) ?_
      simp only [Bool.not_true, Bool.false_eq_true, if_false]
      rw [wpSs_nil]
      dsimp only
      rw [wpSs_nil]
      exact hF _ _ ⟨rfl, _, _, _, _, _, _, _, _, rfl⟩
    · rintro σ g2 ⟨rfl, a, b, c, d, e, x, y, z, rfl⟩
      refine ⟨rfl, ?_⟩
      dsimp only
      have c2 : g2[10 + 2]? = some (.lst ((cs 2).map .int)) := W.cm 2 (by decide)
      have hat : At g2 (1 + 3 * 2) (2 + 3 * 2) (ls 2) (run (b0n (M * N)) (cs 2)).1 := W.at_ 2 (by decide)
      have bdj := W.bound (j := 2) (by decide)
      have bdj : Bd (run (b0n (M * N)) (cs 2)).1 63 := bdj
      obtain ⟨u1, u2⟩ := unsc (M := M) (by omega) W.sc
      have hlen := W.ct 2 (by decide)
      show wpSs GL _ (_ :: c_law.drop 13) _ _ _
      rw [wpSs_cons]
      simp only [wpS]
      rw [wpE_call, wpEs_cons]
      simp only [wpE, List.getElem?_cons_zero, List.getElem?_cons_succ]
      rw [wpEs_cons, wpE_comp]
      simp only [wpEs, wpE, pr, litD, List.getElem?_cons_zero, List.getElem?_cons_succ]
      refine pr_refs (j := 2) (by decide) ?_
      simp only [items, seqOf, lstOf, c2]
      refine ⟨trivial, ?_⟩
      refine compL_map (fun x => match x with
        | .int v => .int (v / M)
        | d => d) rfl (by simp; omega) ?_ ?_
      · intro x hx F hF
        obtain ⟨v, hv, rfl⟩ := List.mem_map.mp hx
        simp only [stpC, Br.wipe, List.map_cons, List.map_nil, wpS, wpE, wpEs, wpT, wpTs, wpAnd, wpOr, wpTst, pr, litD, isBl, prII, prI1, List.length_cons, List.length_nil, List.getElem?_cons_zero, List.getElem?_cons_succ, List.set_cons_zero, List.set_cons_succ, Nat.reduceAdd, if_true, divOk]
        have : M.natAbs.log2 < 62 := (Nat.log2_lt (by omega)).mpr (by omega)
        exact ⟨⟨by omega, by omega⟩, hF⟩
      · have ey : ((cs 2).map D.int).map (fun x => match x with
          | .int v => .int (v / M)
          | d => d) = ((cs 2).map (· / M)).map D.int := by
          simp only [List.map_map, Function.comp_def]
        rw [ey]
        generalize (cs 2).map (· / M) = ys at u1 u2
        have hyl : ys.length ≤ 63 := by
          have := congrArg List.length u1
          simp at this
          omega
        refine p_alone (k := 16) (xs := ys) (fun _ _ => rfl) hyl (fun y hy => ⟨u2 y hy, ?_⟩) ?_
        · have h1 := W.bd 2 (by decide) (M * y) (by rw [← u1]; exact List.mem_map.mpr ⟨y, hy, rfl⟩)
          have h2 := u2 y hy
          have h3 : 1 * y ≤ M * y := Int.mul_le_mul_of_nonneg_right (by omega) (by omega)
          omega
        · have esc : (run (b0n (M * N)) (cs 2)).1 = scB M (run (b0n N) ys).1 := by
            rw [← u1]
            have : b0n (M * N) = scB M (b0n N) := by simp [scB, b0n]
            rw [this]
            exact run_sc (by omega) ys (b0n N)
          have bN : Bd (run (b0n N) ys).1 63 := by
            have b0 : Bd (b0n N) 0 := ⟨by simp [b0n], by simp [b0n], by simp [b0n], show (0 : Int) < 2 ^ 62 by decide⟩
            have := Bd.run b0 (xs := ys) fun y hy => ⟨u2 y hy, by
              have h1 := W.bd 2 (by decide) (M * y) (by rw [← u1]; exact List.mem_map.mpr ⟨y, hy, rfl⟩)
              have h2 := u2 y hy
              have h3 : 1 * y ≤ M * y := Int.mul_le_mul_of_nonneg_right (by omega) (by omega)
              omega⟩
            exact ⟨by have := this.s; omega, by have := this.l; omega, this.g0, this.g1⟩
          simp only [wpT, List.set_cons_zero, List.set_cons_succ]
          show wpSs GL _ (_ :: []) _ _ _
          rw [wpSs_cons]
          simp only [wpS]
          rw [wpE_and, wpAnd_two]
          simp only [wpE, wpEs, pr, litD, isBl, List.getElem?_cons_zero, List.getElem?_cons_succ]
          refine pr_ben (j := 2) (by decide) ?_
          refine ⟨insAt_of hat m2, p_shut hat ?_⟩
          have p51 : place 5 1 = some 1 := by decide
          have p53 : place 5 3 = some 3 := by decide
          show prItem g2 _ (resD (run (b0n N) ys)) (.int 1)
          simp only [resD, prItem, List.length_cons, List.length_nil, Nat.reduceAdd, p51, List.getElem?_cons_zero, List.getElem?_cons_succ]
          refine p_greater (by omega) (by have := bN.s; omega) (lots_len hyl) ?_
          have es : (run (b0n (M * N)) (cs 2)).1.shut = (run (b0n N) ys).1.shut.map fun l => l.map (M * ·) := by rw [esc]; rfl
          rw [es]
          refine prEq_same (n := 2) (res_lots _) (res_lots _) .lots (by decide) ?_
          simp only [Bool.not_false, if_true]
          rw [wpAnd_one]
          simp only [wpE, wpEs, pr, litD, isBl, List.getElem?_cons_zero, List.getElem?_cons_succ]
          refine pr_ben (j := 2) (by decide) ?_
          refine ⟨insAt_of hat m4, p_part hat bdj.g0 bdj.g1 ?_⟩
          simp only [prItem, List.length_cons, List.length_nil, Nat.reduceAdd, p53, List.getElem?_cons_zero, List.getElem?_cons_succ]
          rw [esc, part_sc (by omega)]
          exact prEq_same (n := 0) (a := .int (run (b0n N) ys).1.part) rfl rfl .int (by decide) (hE _)
end Kw

namespace Kw
open PySem Br
abbrev fuel : Nat := 20
theorem cutL_map (ns : List Int) (l u : Option Int) : cutL (ns.map D.int) l u = (cutL ns l u).map D.int := by
  unfold cutL
  simp [List.map_take, List.map_drop]
theorem cutL_len {α : Type} (xs : List α) (l u : Option Int) : (cutL xs l u).length ≤ xs.length := by
  unfold cutL
  simp
  omega
theorem main (ns : List Int) (h : ns.length ≤ 63) (hb : ∀ z ∈ ns, Builtin.Int.intBits z ≤ 1048576) : phi GL T fuel 6 [.tl (ns.map .int)] [] (fun d _ => d = .bl true) (fun _ _ => False) := by
  show runD GL (phi GL T 19) d_law _ _ _ _
  refine ⟨rfl, ?_⟩
  have le := lineE
  show wpSs GL _ (_ :: c_law.drop 1) _ [some (.tl (ns.map .int)), none, none, none, none, none, none, none, none, none, none, none, none, none, none, none, none, none, none, none] _
  -- behind the opening
  have rest : ∀ (i N w M : Int) (ms : List Int), 1 ≤ N → N ≤ 100000000000 → 1 ≤ w → w ≤ 100 → 2 ≤ M → M ≤ 11 → 1 ≤ ms.length → ms.length ≤ 4 → (∀ m ∈ ms, 1 ≤ m ∧ m ≤ 100000000000) →
      wpSs GL (phi GL T 19) (c_law.drop 9) { nx := fun x g' => fin 0 [] (fun d x => d = D.bl true) D.non g', rt := fun d g' => fin 0 [] (fun d x => d = D.bl true) d g', bk := fun x x_1 => False, ex := fun c x g' => fin 0 [] (fun x g'' => False) D.non g' }
        [some (.tl (ns.map .int)), some (.ref 0), some (.int M), some (.int N), some (.tl (ms.map .int)), none, some (.tl [.int N, .int w, .int (M * N)]), some benD, none, some (refs3 10), some (refs3 13), some (.ref 16), none, none, none, none, none, none, none, none] (start0 i N w (M * N)) := by
    intro i N w M ms N1 N2 w1 w2 M1 M2 l1 l2 hms
    show wpSs GL _ (_ :: c_law.drop 10) _ _ _
    rw [wpSs_cons, wpS_for]
    simp only [wpS, wpE, wpEs, wpT, wpTs, wpAnd, wpOr, wpTst, pr, litD, isBl, prII, prI1, List.length_cons, List.length_nil, List.getElem?_cons_zero, List.getElem?_cons_succ, List.set_cons_zero, List.set_cons_succ, Nat.reduceAdd, prCut, items, seqOf, lstOf, cutL_map]
    have hcl := cutL_len ns none (some 63)
    refine ⟨by simp, by simp [bound63], trivial, ?_⟩
    refine forL_go (fun t σ g' => t ≤ ns.length ∧ ∃ cs ls kp a b c d e, Wd g' N w M t cs ls kp ∧ σ = sg (.tl (ns.map .int)) M N w ms a b c d e none none none)
      ⟨Nat.zero_le _, _, _, _, none, none, none, none, none, start_wd, rfl⟩ ?_ ?_
    · rintro t x σ g' F hx ⟨ht, cs, ls, kp, a, b, c, d, e, W, rfl⟩ hF
      have ht2 : t < ns.length := by
        have := (List.getElem?_eq_some_iff.mp hx).1
        simp at this
        omega
      obtain ⟨cell, _, rfl⟩ := List.mem_map.mp (List.mem_of_getElem? hx)
      refine ⟨rfl, ?_⟩
      simp only [wpT, List.set_cons_zero, List.set_cons_succ]
      exact turn_ok (a := none) (k := 17) M1 M2 l1 hms W (by omega) fun g cs ls kp a b c d e W2 => hF _ _ ⟨ht2, cs, ls, kp, a, b, c, d, e, W2, rfl⟩
    · rintro σ g' ⟨ht, cs, ls, kp, a, b, c, d, e, W, rfl⟩
      refine ⟨rfl, ?_⟩
      exact after_ok M1 M2 W.anyT fun _ => rfl
  rw [wpSs_cons]
  simp only [wpS, wpE, wpEs, wpT, wpTs, wpAnd, wpOr, wpTst, pr, litD, isBl, prII, prI1, List.length_cons, List.length_nil, List.getElem?_cons_zero, List.getElem?_cons_succ, List.set_cons_zero, List.set_cons_succ, Nat.reduceAdd, prAdd, lstOf]
  obtain ⟨c0, hc0⟩ : ∃ c0, (ns.map D.int ++ [D.int 0])[0]? = some (.int c0) := by
    cases ns with
    | nil => exact ⟨0, rfl⟩
    | cons z zs => exact ⟨z, rfl⟩
  have hp0 : place (ns.map D.int ++ [D.int 0]).length 0 = some 0 := by
    rw [List.length_append]
    exact place0
  refine ⟨by decide, by simp; omega, ?_⟩
  simp only [prItem, hp0, hc0]
  refine p_deal (by decide) (by decide) fun v => ?_
  rw [stt_self]
  have hn : ([] : G).length < (([] : G) ++ [C.lst [D.int v]]).length := by simp
  show wpSs GL _ (_ :: c_law.drop 2) _ _ _
  rw [wpSs_cons]
  simp only [wpS, wpE, wpEs, wpT, wpTs, wpAnd, wpOr, wpTst, pr, litD, isBl, prII, prI1, List.length_cons, List.length_nil, List.getElem?_cons_zero, List.getElem?_cons_succ, List.set_cons_zero, List.set_cons_succ, Nat.reduceAdd]
  refine p_take hn (by decide) (by decide) fun m i1 m1 m2 => ?_
  simp only [prAdd]
  show wpSs GL _ (_ :: c_law.drop 3) _ _ _
  rw [wpSs_cons]
  simp only [wpS, wpE, wpEs, wpT, wpTs, wpAnd, wpOr, wpTst, pr, litD, isBl, prII, prI1, List.length_cons, List.length_nil, List.getElem?_cons_zero, List.getElem?_cons_succ, List.set_cons_zero, List.set_cons_succ, Nat.reduceAdd, pw11]
  refine p_need hn fun n i2 n1 n2 => ?_
  refine ⟨⟨by decide, by decide, by decide⟩, ?_⟩
  show wpSs GL _ (_ :: c_law.drop 4) _ _ _
  rw [wpSs_cons]
  simp only [wpS]
  rw [wpE_comp]
  simp only [wpS, wpE, wpEs, wpT, wpTs, wpAnd, wpOr, wpTst, pr, litD, isBl, prII, prI1, List.length_cons, List.length_nil, List.getElem?_cons_zero, List.getElem?_cons_succ, List.set_cons_zero, List.set_cons_succ, Nat.reduceAdd]
  refine p_take hn (by decide) (by decide) fun q i3 q1 q2 => ?_
  simp only [prAdd, items]
  refine ⟨⟨by omega, by omega⟩, ?_⟩
  have eN : 1 ≤ min n 100000000000 ∧ min n 100000000000 ≤ 100000000000 := by omega
  generalize min n 100000000000 = N at eN ⊢
  refine compL_go (fun t acc g' => ∃ i ms, g' = stt ([] ++ [C.lst [D.int v]]) 0 i [] ∧ acc = ms.map .int ∧ ms.length = t ∧ t ≤ (1 + q).toNat ∧ ∀ m ∈ ms, 1 ≤ m ∧ m ≤ 100000000000) ⟨i3, [], rfl, rfl, rfl, Nat.zero_le _, fun m hm => by cases hm⟩ ?_ ?_ ?_
  · rintro t x acc g' F hx ⟨i, ms, rfl, rfl, hl, ht, hms⟩ hF _
    have ht2 : t < (1 + q).toNat := by
      have := (List.getElem?_eq_some_iff.mp hx).1
      simpa using this
    refine ⟨trivial, ?_⟩
    simp only [stpC, Br.wipe, List.map_cons, List.map_nil, wpS, wpE, wpEs, wpT, wpTs, wpAnd, wpOr, wpTst, pr, litD, isBl, prII, prI1, List.length_cons, List.length_nil, List.getElem?_cons_zero, List.getElem?_cons_succ, List.set_cons_zero, List.set_cons_succ, Nat.reduceAdd, if_true, pw11]
    refine ⟨⟨by decide, by decide, by decide⟩, ?_⟩
    refine p_take hn (by decide) (by decide) fun kd i4 k1 k2 => ?_
    refine p_size hn eN.1 (by omega) fun z i5 => ?_
    refine hF _ _ (by simp; omega) ⟨i5, ms ++ [max 1 (min 100000000000 z)], rfl, by simp, by simp [hl], by omega, fun y hy => ?_⟩
    rcases List.mem_append.mp hy with hy | hy
    · exact hms y hy
    · simp at hy
      subst hy
      omega
  · rintro t acc g' ⟨i, ms, _, rfl, hl, _, _⟩ hx
    simp
    omega
  · rintro acc g' ⟨i, ms, rfl, rfl, hl, _, hms⟩
    simp only [List.length_map, List.length_range] at hl
    refine ⟨trivial, ?_⟩
    show wpSs GL _ (_ :: c_law.drop 5) _ _ _
    rw [wpSs_cons]
    simp only [wpS, wpE, wpEs, wpT, wpTs, wpAnd, wpOr, wpTst, pr, litD, isBl, prII, prI1, List.length_cons, List.length_nil, List.getElem?_cons_zero, List.getElem?_cons_succ, List.set_cons_zero, List.set_cons_succ, Nat.reduceAdd]
    refine p_take hn (by decide) (by decide) fun w i6 w1 w2 => ?_
    simp only [prAdd, prMul]
    refine ⟨mulL (by omega), by decide, ?_⟩
    show wpSs GL _ (_ :: c_law.drop 6) _ _ ([C.lst [D.int i6]])
    rw [wpSs_cons]
    simp only [wpS]
    rw [wpE_comp]
    simp only [wpEs, wpE, List.getElem?_cons_zero, List.getElem?_cons_succ, items, seqOf, lstOf]
    refine ⟨trivial, ?_⟩
    simp only [compL]
    refine ⟨rfl, ?_⟩
    simp only [stpC, Br.wipe, List.map_cons, List.map_nil, wpS, wpE, wpEs, wpT, wpTs, wpAnd, wpOr, wpTst, pr, litD, isBl, prII, prI1, List.length_cons, List.length_nil, List.getElem?_cons_zero, List.getElem?_cons_succ, List.set_cons_zero, List.set_cons_succ, Nat.reduceAdd, if_true]
    refine p_init (g := [C.lst [D.int i6]]) ⟨rfl, show (0 : Nat) < LINE by decide, rfl, ?_⟩
    refine p_init (g := [C.lst [D.int i6], insD (b0n N) 2 3, .lst [], .lst []]) ⟨rfl, show (1 : Nat) < LINE by decide, rfl, ?_⟩
    refine p_init (g := [C.lst [D.int i6], insD (b0n N) 2 3, .lst [], .lst [], insD (b0n (1 + w)) 5 6, .lst [], .lst []]) ⟨rfl, show (2 : Nat) < LINE by decide, rfl, ?_⟩
    show wpSs GL _ (_ :: c_law.drop 7) _ _ [C.lst [D.int i6], insD (b0n N) 2 3, .lst [], .lst [], insD (b0n (1 + w)) 5 6, .lst [], .lst [], insD (b0n ((2 + m) * N)) 8 9, .lst [], .lst []]
    rw [wpSs_cons]
    simp only [wpS, wpE, wpEs, wpT, wpTs, wpAnd, wpOr, wpTst, pr, litD, isBl, prII, prI1, List.length_cons, List.length_nil, List.getElem?_cons_zero, List.getElem?_cons_succ, List.set_cons_zero, List.set_cons_succ, Nat.reduceAdd]
    refine ⟨by decide, by decide, by decide, by decide, ?_⟩
    show wpSs GL _ (_ :: c_law.drop 8) _ _ [C.lst [D.int i6], insD (b0n N) 2 3, .lst [], .lst [], insD (b0n (1 + w)) 5 6, .lst [], .lst [], insD (b0n ((2 + m) * N)) 8 9, .lst [], .lst [], .lst [], .lst [], .lst []]
    rw [wpSs_cons]
    simp only [wpS, wpE, wpEs, wpT, wpTs, wpAnd, wpOr, wpTst, pr, litD, isBl, prII, prI1, List.length_cons, List.length_nil, List.getElem?_cons_zero, List.getElem?_cons_succ, List.set_cons_zero, List.set_cons_succ, Nat.reduceAdd]
    refine ⟨by decide, by decide, by decide, by decide, ?_⟩
    show wpSs GL _ (_ :: c_law.drop 9) _ _ [C.lst [D.int i6], insD (b0n N) 2 3, .lst [], .lst [], insD (b0n (1 + w)) 5 6, .lst [], .lst [], insD (b0n ((2 + m) * N)) 8 9, .lst [], .lst [], .lst [], .lst [], .lst [], .lst [], .lst [], .lst []]
    rw [wpSs_cons]
    simp only [wpS, wpE, wpEs, wpT, wpTs, wpAnd, wpOr, wpTst, pr, litD, isBl, prII, prI1, List.length_cons, List.length_nil, List.getElem?_cons_zero, List.getElem?_cons_succ, List.set_cons_zero, List.set_cons_succ, Nat.reduceAdd]
    refine ⟨by decide, ?_⟩
    exact rest i6 N (1 + w) (2 + m) ms eN.1 eN.2 (by omega) (by omega) (by omega) (by omega) (by omega) (by omega) hms
end Kw

namespace Kw
open PySem PySem.Spec PyProof.Rows L2 Br
def top (i : Nat) : Stmt := PySem.Challenge.pw_brimyard_k55_whole_benches_apart.main.body.getD i (.Pass ⟨0, 0, 0, 0⟩)
def inC (s : Stmt) (j : Nat) : Stmt := match s with
  | .ClassDef (body := b) .. => b.getD j (.Pass ⟨0, 0, 0, 0⟩)
  | _ => .Pass ⟨0, 0, 0, 0⟩
theorem k_law_deal : (["cell", "many"] : List Str).length = d_law_deal.ar ∧ n_law_deal.length = d_law_deal.slots ∧ C8.scC n_law_deal ["cell", "many"] (defScope (top 4)) = true ∧ chkSs GL T CL n_law_deal (defScope (top 4)) d_law_deal.body (defBody (top 4)) = true := by decide +kernel
theorem k_law_take : (["pot", "many"] : List Str).length = d_law_take.ar ∧ n_law_take.length = d_law_take.slots ∧ C8.scC n_law_take ["pot", "many"] (defScope (top 5)) = true ∧ chkSs GL T CL n_law_take (defScope (top 5)) d_law_take.body (defBody (top 5)) = true := by decide +kernel
theorem k_law_need : (["pot"] : List Str).length = d_law_need.ar ∧ n_law_need.length = d_law_need.slots ∧ C8.scC n_law_need ["pot"] (defScope (top 6)) = true ∧ chkSs GL T CL n_law_need (defScope (top 6)) d_law_need.body (defBody (top 6)) = true := by decide +kernel
theorem k_law_size : (["pot", "need", "kind"] : List Str).length = d_law_size.ar ∧ n_law_size.length = d_law_size.slots ∧ C8.scC n_law_size ["pot", "need", "kind"] (defScope (top 7)) = true ∧ chkSs GL T CL n_law_size (defScope (top 7)) d_law_size.body (defBody (top 7)) = true := by decide +kernel
theorem k_law_alone : (["need", "sizes"] : List Str).length = d_law_alone.ar ∧ n_law_alone.length = d_law_alone.slots ∧ C8.scC n_law_alone ["need", "sizes"] (defScope (top 8)) = true ∧ chkSs GL T CL n_law_alone (defScope (top 8)) d_law_alone.body (defBody (top 8)) = true := by decide +kernel
theorem k_law_greater : (["lots", "many"] : List Str).length = d_law_greater.ar ∧ n_law_greater.length = d_law_greater.slots ∧ C8.scC n_law_greater ["lots", "many"] (defScope (top 9)) = true ∧ chkSs GL T CL n_law_greater (defScope (top 9)) d_law_greater.body (defBody (top 9)) = true := by decide +kernel
theorem k_law : (["script"] : List Str).length = d_law.ar ∧ n_law.length = d_law.slots ∧ C8.scC n_law ["script"] (defScope (top 10)) = true ∧ chkSs GL T CL n_law (defScope (top 10)) d_law.body (defBody (top 10)) = true := by decide +kernel
theorem k_Bench_init : (["self", "need"] : List Str).length = d_Bench_init.ar ∧ n_Bench_init.length = d_Bench_init.slots ∧ C8.scC n_Bench_init ["self", "need"] (defScope (inC (top 2) 0)) = true ∧ chkSs GL T CL n_Bench_init (defScope (inC (top 2) 0)) d_Bench_init.body (defBody (inC (top 2) 0)) = true := by decide +kernel
theorem k_Bench_put : (["self", "size"] : List Str).length = d_Bench_put.ar ∧ n_Bench_put.length = d_Bench_put.slots ∧ C8.scC n_Bench_put ["self", "size"] (defScope (inC (top 2) 1)) = true ∧ chkSs GL T CL n_Bench_put (defScope (inC (top 2) 1)) d_Bench_put.body (defBody (inC (top 2) 1)) = true := by decide +kernel
theorem k_Bench_shut_lots : (["self"] : List Str).length = d_Bench_shut_lots.ar ∧ n_Bench_shut_lots.length = d_Bench_shut_lots.slots ∧ C8.scC n_Bench_shut_lots ["self"] (defScope (inC (top 2) 2)) = true ∧ chkSs GL T CL n_Bench_shut_lots (defScope (inC (top 2) 2)) d_Bench_shut_lots.body (defBody (inC (top 2) 2)) = true := by decide +kernel
theorem k_Bench_open_lot : (["self"] : List Str).length = d_Bench_open_lot.ar ∧ n_Bench_open_lot.length = d_Bench_open_lot.slots ∧ C8.scC n_Bench_open_lot ["self"] (defScope (inC (top 2) 3)) = true ∧ chkSs GL T CL n_Bench_open_lot (defScope (inC (top 2) 3)) d_Bench_open_lot.body (defBody (inC (top 2) 3)) = true := by decide +kernel
theorem k_Bench_part_of : (["self"] : List Str).length = d_Bench_part_of.ar ∧ n_Bench_part_of.length = d_Bench_part_of.slots ∧ C8.scC n_Bench_part_of ["self"] (defScope (inC (top 2) 4)) = true ∧ chkSs GL T CL n_Bench_part_of (defScope (inC (top 2) 4)) d_Bench_part_of.body (defBody (inC (top 2) 4)) = true := by decide +kernel
theorem k_Bench_bound_so : (["self"] : List Str).length = d_Bench_bound_so.ar ∧ n_Bench_bound_so.length = d_Bench_bound_so.slots ∧ C8.scC n_Bench_bound_so ["self"] (defScope (inC (top 2) 5)) = true ∧ chkSs GL T CL n_Bench_bound_so (defScope (inC (top 2) 5)) d_Bench_bound_so.body (defBody (inC (top 2) 5)) = true := by decide +kernel
theorem f_law_deal {K : PySem.W.Frag} {h : Heap} {mg : Str → Option Value} {f : Addr} {oc kV dc pm cd ct : Value} {od an : Option Addr} {sl : Array (Option Value)} (X : K.In h) (G : h.Ns mainGlobals mg) (a : PySem.W.nsIn K mainGlobals "_law_deal" = some (some (.ref f))) (l : K.lookup f = some ⟨oc, od, .func (PySem.W.fnOf "_law_deal" "_law_deal" (defArgs (top 4)) (defBody (top 4)) (defScope (top 4)) .none kV dc pm an cd ct), sl⟩) (c : PySem.W.codeIn K cd "_law_deal" = true) (k : PySem.W.keepIn K (.ref f) = true) : DefOk K mg GL T CL d_law_deal f (PySem.W.fnOf "_law_deal" "_law_deal" (defArgs (top 4)) (defBody (top 4)) (defScope (top 4)) .none kV dc pm an cd ct) ["cell", "many"] n_law_deal "_law_deal" (top 4) :=
  def_mk (d := d_law_deal) X G k_law_deal (fun _ _ _ _ _ _ us hl => match us, hl with | [_, _], _ => rfl) a l c k
theorem f_law_take {K : PySem.W.Frag} {h : Heap} {mg : Str → Option Value} {f : Addr} {oc kV dc pm cd ct : Value} {od an : Option Addr} {sl : Array (Option Value)} (X : K.In h) (G : h.Ns mainGlobals mg) (a : PySem.W.nsIn K mainGlobals "_law_take" = some (some (.ref f))) (l : K.lookup f = some ⟨oc, od, .func (PySem.W.fnOf "_law_take" "_law_take" (defArgs (top 5)) (defBody (top 5)) (defScope (top 5)) .none kV dc pm an cd ct), sl⟩) (c : PySem.W.codeIn K cd "_law_take" = true) (k : PySem.W.keepIn K (.ref f) = true) : DefOk K mg GL T CL d_law_take f (PySem.W.fnOf "_law_take" "_law_take" (defArgs (top 5)) (defBody (top 5)) (defScope (top 5)) .none kV dc pm an cd ct) ["pot", "many"] n_law_take "_law_take" (top 5) :=
  def_mk (d := d_law_take) X G k_law_take (fun _ _ _ _ _ _ us hl => match us, hl with | [_, _], _ => rfl) a l c k
theorem f_law_need {K : PySem.W.Frag} {h : Heap} {mg : Str → Option Value} {f : Addr} {oc kV dc pm cd ct : Value} {od an : Option Addr} {sl : Array (Option Value)} (X : K.In h) (G : h.Ns mainGlobals mg) (a : PySem.W.nsIn K mainGlobals "_law_need" = some (some (.ref f))) (l : K.lookup f = some ⟨oc, od, .func (PySem.W.fnOf "_law_need" "_law_need" (defArgs (top 6)) (defBody (top 6)) (defScope (top 6)) .none kV dc pm an cd ct), sl⟩) (c : PySem.W.codeIn K cd "_law_need" = true) (k : PySem.W.keepIn K (.ref f) = true) : DefOk K mg GL T CL d_law_need f (PySem.W.fnOf "_law_need" "_law_need" (defArgs (top 6)) (defBody (top 6)) (defScope (top 6)) .none kV dc pm an cd ct) ["pot"] n_law_need "_law_need" (top 6) :=
  def_mk (d := d_law_need) X G k_law_need (fun _ _ _ _ _ _ us hl => match us, hl with | [_], _ => rfl) a l c k
theorem f_law_size {K : PySem.W.Frag} {h : Heap} {mg : Str → Option Value} {f : Addr} {oc kV dc pm cd ct : Value} {od an : Option Addr} {sl : Array (Option Value)} (X : K.In h) (G : h.Ns mainGlobals mg) (a : PySem.W.nsIn K mainGlobals "_law_size" = some (some (.ref f))) (l : K.lookup f = some ⟨oc, od, .func (PySem.W.fnOf "_law_size" "_law_size" (defArgs (top 7)) (defBody (top 7)) (defScope (top 7)) .none kV dc pm an cd ct), sl⟩) (c : PySem.W.codeIn K cd "_law_size" = true) (k : PySem.W.keepIn K (.ref f) = true) : DefOk K mg GL T CL d_law_size f (PySem.W.fnOf "_law_size" "_law_size" (defArgs (top 7)) (defBody (top 7)) (defScope (top 7)) .none kV dc pm an cd ct) ["pot", "need", "kind"] n_law_size "_law_size" (top 7) :=
  def_mk (d := d_law_size) X G k_law_size (fun _ _ _ _ _ _ us hl => match us, hl with | [_, _, _], _ => rfl) a l c k
theorem f_law_alone {K : PySem.W.Frag} {h : Heap} {mg : Str → Option Value} {f : Addr} {oc kV dc pm cd ct : Value} {od an : Option Addr} {sl : Array (Option Value)} (X : K.In h) (G : h.Ns mainGlobals mg) (a : PySem.W.nsIn K mainGlobals "_law_alone" = some (some (.ref f))) (l : K.lookup f = some ⟨oc, od, .func (PySem.W.fnOf "_law_alone" "_law_alone" (defArgs (top 8)) (defBody (top 8)) (defScope (top 8)) .none kV dc pm an cd ct), sl⟩) (c : PySem.W.codeIn K cd "_law_alone" = true) (k : PySem.W.keepIn K (.ref f) = true) : DefOk K mg GL T CL d_law_alone f (PySem.W.fnOf "_law_alone" "_law_alone" (defArgs (top 8)) (defBody (top 8)) (defScope (top 8)) .none kV dc pm an cd ct) ["need", "sizes"] n_law_alone "_law_alone" (top 8) :=
  def_mk (d := d_law_alone) X G k_law_alone (fun _ _ _ _ _ _ us hl => match us, hl with | [_, _], _ => rfl) a l c k
theorem f_law_greater {K : PySem.W.Frag} {h : Heap} {mg : Str → Option Value} {f : Addr} {oc kV dc pm cd ct : Value} {od an : Option Addr} {sl : Array (Option Value)} (X : K.In h) (G : h.Ns mainGlobals mg) (a : PySem.W.nsIn K mainGlobals "_law_greater" = some (some (.ref f))) (l : K.lookup f = some ⟨oc, od, .func (PySem.W.fnOf "_law_greater" "_law_greater" (defArgs (top 9)) (defBody (top 9)) (defScope (top 9)) .none kV dc pm an cd ct), sl⟩) (c : PySem.W.codeIn K cd "_law_greater" = true) (k : PySem.W.keepIn K (.ref f) = true) : DefOk K mg GL T CL d_law_greater f (PySem.W.fnOf "_law_greater" "_law_greater" (defArgs (top 9)) (defBody (top 9)) (defScope (top 9)) .none kV dc pm an cd ct) ["lots", "many"] n_law_greater "_law_greater" (top 9) :=
  def_mk (d := d_law_greater) X G k_law_greater (fun _ _ _ _ _ _ us hl => match us, hl with | [_, _], _ => rfl) a l c k
theorem f_law {K : PySem.W.Frag} {h : Heap} {mg : Str → Option Value} {f : Addr} {oc kV dc pm cd ct : Value} {od an : Option Addr} {sl : Array (Option Value)} (X : K.In h) (G : h.Ns mainGlobals mg) (a : PySem.W.nsIn K mainGlobals "law" = some (some (.ref f))) (l : K.lookup f = some ⟨oc, od, .func (PySem.W.fnOf "law" "law" (defArgs (top 10)) (defBody (top 10)) (defScope (top 10)) .none kV dc pm an cd ct), sl⟩) (c : PySem.W.codeIn K cd "law" = true) (k : PySem.W.keepIn K (.ref f) = true) : DefOk K mg GL T CL d_law f (PySem.W.fnOf "law" "law" (defArgs (top 10)) (defBody (top 10)) (defScope (top 10)) .none kV dc pm an cd ct) ["script"] n_law "law" (top 10) :=
  def_mk (d := d_law) X G k_law (fun _ _ _ _ _ _ us hl => match us, hl with | [_], _ => rfl) a l c k
theorem f_Bench_init {K : PySem.W.Frag} {mg : Str → Option Value} {f : Addr} {oc kV dc pm cd ct : Value} {od an : Option Addr} {sl : Array (Option Value)} (l : K.lookup f = some ⟨oc, od, .func (PySem.W.fnOf "__init__" "Bench.__init__" (defArgs (inC (top 2) 0)) (defBody (inC (top 2) 0)) (defScope (inC (top 2) 0)) .none kV dc pm an cd ct), sl⟩) (c : PySem.W.codeIn K cd "Bench.__init__" = true) (k : PySem.W.keepIn K (.ref f) = true) : DefOk K mg GL T CL d_Bench_init f (PySem.W.fnOf "__init__" "Bench.__init__" (defArgs (inC (top 2) 0)) (defBody (inC (top 2) 0)) (defScope (inC (top 2) 0)) .none kV dc pm an cd ct) ["self", "need"] n_Bench_init "Bench.__init__" (inC (top 2) 0) :=
  meth_mk (d := d_Bench_init) rfl k_Bench_init (fun _ _ _ _ _ _ us hl => match us, hl with | [_, _], _ => rfl) l c k
theorem f_Bench_put {K : PySem.W.Frag} {mg : Str → Option Value} {f : Addr} {oc kV dc pm cd ct : Value} {od an : Option Addr} {sl : Array (Option Value)} (l : K.lookup f = some ⟨oc, od, .func (PySem.W.fnOf "put" "Bench.put" (defArgs (inC (top 2) 1)) (defBody (inC (top 2) 1)) (defScope (inC (top 2) 1)) .none kV dc pm an cd ct), sl⟩) (c : PySem.W.codeIn K cd "Bench.put" = true) (k : PySem.W.keepIn K (.ref f) = true) : DefOk K mg GL T CL d_Bench_put f (PySem.W.fnOf "put" "Bench.put" (defArgs (inC (top 2) 1)) (defBody (inC (top 2) 1)) (defScope (inC (top 2) 1)) .none kV dc pm an cd ct) ["self", "size"] n_Bench_put "Bench.put" (inC (top 2) 1) :=
  meth_mk (d := d_Bench_put) rfl k_Bench_put (fun _ _ _ _ _ _ us hl => match us, hl with | [_, _], _ => rfl) l c k
theorem f_Bench_shut_lots {K : PySem.W.Frag} {mg : Str → Option Value} {f : Addr} {oc kV dc pm cd ct : Value} {od an : Option Addr} {sl : Array (Option Value)} (l : K.lookup f = some ⟨oc, od, .func (PySem.W.fnOf "shut_lots" "Bench.shut_lots" (defArgs (inC (top 2) 2)) (defBody (inC (top 2) 2)) (defScope (inC (top 2) 2)) .none kV dc pm an cd ct), sl⟩) (c : PySem.W.codeIn K cd "Bench.shut_lots" = true) (k : PySem.W.keepIn K (.ref f) = true) : DefOk K mg GL T CL d_Bench_shut_lots f (PySem.W.fnOf "shut_lots" "Bench.shut_lots" (defArgs (inC (top 2) 2)) (defBody (inC (top 2) 2)) (defScope (inC (top 2) 2)) .none kV dc pm an cd ct) ["self"] n_Bench_shut_lots "Bench.shut_lots" (inC (top 2) 2) :=
  meth_mk (d := d_Bench_shut_lots) rfl k_Bench_shut_lots (fun _ _ _ _ _ _ us hl => match us, hl with | [_], _ => rfl) l c k
theorem f_Bench_open_lot {K : PySem.W.Frag} {mg : Str → Option Value} {f : Addr} {oc kV dc pm cd ct : Value} {od an : Option Addr} {sl : Array (Option Value)} (l : K.lookup f = some ⟨oc, od, .func (PySem.W.fnOf "open_lot" "Bench.open_lot" (defArgs (inC (top 2) 3)) (defBody (inC (top 2) 3)) (defScope (inC (top 2) 3)) .none kV dc pm an cd ct), sl⟩) (c : PySem.W.codeIn K cd "Bench.open_lot" = true) (k : PySem.W.keepIn K (.ref f) = true) : DefOk K mg GL T CL d_Bench_open_lot f (PySem.W.fnOf "open_lot" "Bench.open_lot" (defArgs (inC (top 2) 3)) (defBody (inC (top 2) 3)) (defScope (inC (top 2) 3)) .none kV dc pm an cd ct) ["self"] n_Bench_open_lot "Bench.open_lot" (inC (top 2) 3) :=
  meth_mk (d := d_Bench_open_lot) rfl k_Bench_open_lot (fun _ _ _ _ _ _ us hl => match us, hl with | [_], _ => rfl) l c k
theorem f_Bench_part_of {K : PySem.W.Frag} {mg : Str → Option Value} {f : Addr} {oc kV dc pm cd ct : Value} {od an : Option Addr} {sl : Array (Option Value)} (l : K.lookup f = some ⟨oc, od, .func (PySem.W.fnOf "part_of" "Bench.part_of" (defArgs (inC (top 2) 4)) (defBody (inC (top 2) 4)) (defScope (inC (top 2) 4)) .none kV dc pm an cd ct), sl⟩) (c : PySem.W.codeIn K cd "Bench.part_of" = true) (k : PySem.W.keepIn K (.ref f) = true) : DefOk K mg GL T CL d_Bench_part_of f (PySem.W.fnOf "part_of" "Bench.part_of" (defArgs (inC (top 2) 4)) (defBody (inC (top 2) 4)) (defScope (inC (top 2) 4)) .none kV dc pm an cd ct) ["self"] n_Bench_part_of "Bench.part_of" (inC (top 2) 4) :=
  meth_mk (d := d_Bench_part_of) rfl k_Bench_part_of (fun _ _ _ _ _ _ us hl => match us, hl with | [_], _ => rfl) l c k
theorem f_Bench_bound_so {K : PySem.W.Frag} {mg : Str → Option Value} {f : Addr} {oc kV dc pm cd ct : Value} {od an : Option Addr} {sl : Array (Option Value)} (l : K.lookup f = some ⟨oc, od, .func (PySem.W.fnOf "bound_so" "Bench.bound_so" (defArgs (inC (top 2) 5)) (defBody (inC (top 2) 5)) (defScope (inC (top 2) 5)) .none kV dc pm an cd ct), sl⟩) (c : PySem.W.codeIn K cd "Bench.bound_so" = true) (k : PySem.W.keepIn K (.ref f) = true) : DefOk K mg GL T CL d_Bench_bound_so f (PySem.W.fnOf "bound_so" "Bench.bound_so" (defArgs (inC (top 2) 5)) (defBody (inC (top 2) 5)) (defScope (inC (top 2) 5)) .none kV dc pm an cd ct) ["self"] n_Bench_bound_so "Bench.bound_so" (inC (top 2) 5) :=
  meth_mk (d := d_Bench_bound_so) rfl k_Bench_bound_so (fun _ _ _ _ _ _ us hl => match us, hl with | [_], _ => rfl) l c k
theorem all_mk {K : PySem.W.Frag} {h : Heap} {mg : Str → Option Value} {fa : Addr} (X : K.In h) (G : h.Ns mainGlobals mg) (hfa : mg "law" = some (.ref fa))
    {f4 : Addr} {oc4 kV4 dc4 pm4 cd4 ct4 : Value} {od4 an4 : Option Addr} {sl4 : Array (Option Value)}
    {f5 : Addr} {oc5 kV5 dc5 pm5 cd5 ct5 : Value} {od5 an5 : Option Addr} {sl5 : Array (Option Value)}
    {f6 : Addr} {oc6 kV6 dc6 pm6 cd6 ct6 : Value} {od6 an6 : Option Addr} {sl6 : Array (Option Value)}
    {f7 : Addr} {oc7 kV7 dc7 pm7 cd7 ct7 : Value} {od7 an7 : Option Addr} {sl7 : Array (Option Value)}
    {f8 : Addr} {oc8 kV8 dc8 pm8 cd8 ct8 : Value} {od8 an8 : Option Addr} {sl8 : Array (Option Value)}
    {f9 : Addr} {oc9 kV9 dc9 pm9 cd9 ct9 : Value} {od9 an9 : Option Addr} {sl9 : Array (Option Value)}
    {f10 : Addr} {oc10 kV10 dc10 pm10 cd10 ct10 : Value} {od10 an10 : Option Addr} {sl10 : Array (Option Value)}
    {fm2_0 : Addr} {ocm2_0 kVm2_0 dcm2_0 pmm2_0 cdm2_0 ctm2_0 : Value} {odm2_0 anm2_0 : Option Addr} {slm2_0 : Array (Option Value)}
    {fm2_1 : Addr} {ocm2_1 kVm2_1 dcm2_1 pmm2_1 cdm2_1 ctm2_1 : Value} {odm2_1 anm2_1 : Option Addr} {slm2_1 : Array (Option Value)}
    {fm2_2 : Addr} {ocm2_2 kVm2_2 dcm2_2 pmm2_2 cdm2_2 ctm2_2 : Value} {odm2_2 anm2_2 : Option Addr} {slm2_2 : Array (Option Value)}
    {fm2_3 : Addr} {ocm2_3 kVm2_3 dcm2_3 pmm2_3 cdm2_3 ctm2_3 : Value} {odm2_3 anm2_3 : Option Addr} {slm2_3 : Array (Option Value)}
    {fm2_4 : Addr} {ocm2_4 kVm2_4 dcm2_4 pmm2_4 cdm2_4 ctm2_4 : Value} {odm2_4 anm2_4 : Option Addr} {slm2_4 : Array (Option Value)}
    {fm2_5 : Addr} {ocm2_5 kVm2_5 dcm2_5 pmm2_5 cdm2_5 ctm2_5 : Value} {odm2_5 anm2_5 : Option Addr} {slm2_5 : Array (Option Value)}
    {C0 : Addr}
    {t0 : Tok}
    (a4 : PySem.W.nsIn K mainGlobals "_law_deal" = some (some (.ref f4)))
    (l4 : K.lookup f4 = some ⟨oc4, od4, .func (PySem.W.fnOf "_law_deal" "_law_deal" (defArgs (top 4)) (defBody (top 4)) (defScope (top 4)) .none kV4 dc4 pm4 an4 cd4 ct4), sl4⟩) (c4 : PySem.W.codeIn K cd4 "_law_deal" = true) (k4 : PySem.W.keepIn K (.ref f4) = true)
    (a5 : PySem.W.nsIn K mainGlobals "_law_take" = some (some (.ref f5)))
    (l5 : K.lookup f5 = some ⟨oc5, od5, .func (PySem.W.fnOf "_law_take" "_law_take" (defArgs (top 5)) (defBody (top 5)) (defScope (top 5)) .none kV5 dc5 pm5 an5 cd5 ct5), sl5⟩) (c5 : PySem.W.codeIn K cd5 "_law_take" = true) (k5 : PySem.W.keepIn K (.ref f5) = true)
    (a6 : PySem.W.nsIn K mainGlobals "_law_need" = some (some (.ref f6)))
    (l6 : K.lookup f6 = some ⟨oc6, od6, .func (PySem.W.fnOf "_law_need" "_law_need" (defArgs (top 6)) (defBody (top 6)) (defScope (top 6)) .none kV6 dc6 pm6 an6 cd6 ct6), sl6⟩) (c6 : PySem.W.codeIn K cd6 "_law_need" = true) (k6 : PySem.W.keepIn K (.ref f6) = true)
    (a7 : PySem.W.nsIn K mainGlobals "_law_size" = some (some (.ref f7)))
    (l7 : K.lookup f7 = some ⟨oc7, od7, .func (PySem.W.fnOf "_law_size" "_law_size" (defArgs (top 7)) (defBody (top 7)) (defScope (top 7)) .none kV7 dc7 pm7 an7 cd7 ct7), sl7⟩) (c7 : PySem.W.codeIn K cd7 "_law_size" = true) (k7 : PySem.W.keepIn K (.ref f7) = true)
    (a8 : PySem.W.nsIn K mainGlobals "_law_alone" = some (some (.ref f8)))
    (l8 : K.lookup f8 = some ⟨oc8, od8, .func (PySem.W.fnOf "_law_alone" "_law_alone" (defArgs (top 8)) (defBody (top 8)) (defScope (top 8)) .none kV8 dc8 pm8 an8 cd8 ct8), sl8⟩) (c8 : PySem.W.codeIn K cd8 "_law_alone" = true) (k8 : PySem.W.keepIn K (.ref f8) = true)
    (a9 : PySem.W.nsIn K mainGlobals "_law_greater" = some (some (.ref f9)))
    (l9 : K.lookup f9 = some ⟨oc9, od9, .func (PySem.W.fnOf "_law_greater" "_law_greater" (defArgs (top 9)) (defBody (top 9)) (defScope (top 9)) .none kV9 dc9 pm9 an9 cd9 ct9), sl9⟩) (c9 : PySem.W.codeIn K cd9 "_law_greater" = true) (k9 : PySem.W.keepIn K (.ref f9) = true)
    (a10 : PySem.W.nsIn K mainGlobals "law" = some (some (.ref f10)))
    (l10 : K.lookup f10 = some ⟨oc10, od10, .func (PySem.W.fnOf "law" "law" (defArgs (top 10)) (defBody (top 10)) (defScope (top 10)) .none kV10 dc10 pm10 an10 cd10 ct10), sl10⟩) (c10 : PySem.W.codeIn K cd10 "law" = true) (k10 : PySem.W.keepIn K (.ref f10) = true)
    (lm2_0 : K.lookup fm2_0 = some ⟨ocm2_0, odm2_0, .func (PySem.W.fnOf "__init__" "Bench.__init__" (defArgs (inC (top 2) 0)) (defBody (inC (top 2) 0)) (defScope (inC (top 2) 0)) .none kVm2_0 dcm2_0 pmm2_0 anm2_0 cdm2_0 ctm2_0), slm2_0⟩) (cm2_0 : PySem.W.codeIn K cdm2_0 "Bench.__init__" = true) (km2_0 : PySem.W.keepIn K (.ref fm2_0) = true)
    (lm2_1 : K.lookup fm2_1 = some ⟨ocm2_1, odm2_1, .func (PySem.W.fnOf "put" "Bench.put" (defArgs (inC (top 2) 1)) (defBody (inC (top 2) 1)) (defScope (inC (top 2) 1)) .none kVm2_1 dcm2_1 pmm2_1 anm2_1 cdm2_1 ctm2_1), slm2_1⟩) (cm2_1 : PySem.W.codeIn K cdm2_1 "Bench.put" = true) (km2_1 : PySem.W.keepIn K (.ref fm2_1) = true)
    (lm2_2 : K.lookup fm2_2 = some ⟨ocm2_2, odm2_2, .func (PySem.W.fnOf "shut_lots" "Bench.shut_lots" (defArgs (inC (top 2) 2)) (defBody (inC (top 2) 2)) (defScope (inC (top 2) 2)) .none kVm2_2 dcm2_2 pmm2_2 anm2_2 cdm2_2 ctm2_2), slm2_2⟩) (cm2_2 : PySem.W.codeIn K cdm2_2 "Bench.shut_lots" = true) (km2_2 : PySem.W.keepIn K (.ref fm2_2) = true)
    (lm2_3 : K.lookup fm2_3 = some ⟨ocm2_3, odm2_3, .func (PySem.W.fnOf "open_lot" "Bench.open_lot" (defArgs (inC (top 2) 3)) (defBody (inC (top 2) 3)) (defScope (inC (top 2) 3)) .none kVm2_3 dcm2_3 pmm2_3 anm2_3 cdm2_3 ctm2_3), slm2_3⟩) (cm2_3 : PySem.W.codeIn K cdm2_3 "Bench.open_lot" = true) (km2_3 : PySem.W.keepIn K (.ref fm2_3) = true)
    (lm2_4 : K.lookup fm2_4 = some ⟨ocm2_4, odm2_4, .func (PySem.W.fnOf "part_of" "Bench.part_of" (defArgs (inC (top 2) 4)) (defBody (inC (top 2) 4)) (defScope (inC (top 2) 4)) .none kVm2_4 dcm2_4 pmm2_4 anm2_4 cdm2_4 ctm2_4), slm2_4⟩) (cm2_4 : PySem.W.codeIn K cdm2_4 "Bench.part_of" = true) (km2_4 : PySem.W.keepIn K (.ref fm2_4) = true)
    (lm2_5 : K.lookup fm2_5 = some ⟨ocm2_5, odm2_5, .func (PySem.W.fnOf "bound_so" "Bench.bound_so" (defArgs (inC (top 2) 5)) (defBody (inC (top 2) 5)) (defScope (inC (top 2) 5)) .none kVm2_5 dcm2_5 pmm2_5 anm2_5 cdm2_5 ctm2_5), slm2_5⟩) (cm2_5 : PySem.W.codeIn K cdm2_5 "Bench.bound_so" = true) (km2_5 : PySem.W.keepIn K (.ref fm2_5) = true)
    (ac0 : PySem.W.nsIn K mainGlobals "Bench" = some (some (.ref C0)))
    (pg0 : PySem.W.plainGet K C0 Str.empty = true) (hd0 : PySem.W.hasDictIn K C0 = true) (po0 : PySem.W.plainOver K C0 = true) (sa0 : PySem.W.findIn K (.ref C0) "__setattr__" = some (some (.builtin "object.__setattr__"))) (mk0 : PySem.W.makesIn K C0 = true) (kc0 : PySem.W.keepIn K (.ref C0) = true)
    (n0_0 : PySem.W.findIn K (.ref C0) "full_at" = some none)
    (n0_1 : PySem.W.findIn K (.ref C0) "shut" = some none)
    (n0_2 : PySem.W.findIn K (.ref C0) "lying" = some none)
    (n0_3 : PySem.W.findIn K (.ref C0) "greatest_came" = some none)
    (i0_0 : PySem.W.findIn K (.ref C0) "__init__" = some (some (.ref fm2_0))) (w0_0 : PySem.W.isFn K (.ref fm2_0) = true)
    (i0_1 : PySem.W.findIn K (.ref C0) "put" = some (some (.ref fm2_1))) (w0_1 : PySem.W.isFn K (.ref fm2_1) = true)
    (i0_2 : PySem.W.findIn K (.ref C0) "shut_lots" = some (some (.ref fm2_2))) (w0_2 : PySem.W.isFn K (.ref fm2_2) = true)
    (i0_3 : PySem.W.findIn K (.ref C0) "open_lot" = some (some (.ref fm2_3))) (w0_3 : PySem.W.isFn K (.ref fm2_3) = true)
    (i0_4 : PySem.W.findIn K (.ref C0) "part_of" = some (some (.ref fm2_4))) (w0_4 : PySem.W.isFn K (.ref fm2_4) = true)
    (i0_5 : PySem.W.findIn K (.ref C0) "bound_so" = some (some (.ref fm2_5))) (w0_5 : PySem.W.isFn K (.ref fm2_5) = true)
    (b0 : PySem.W.nsIn K mainGlobals "len" = some none)
    (b1 : PySem.W.nsIn K mainGlobals "sum" = some none)
    (b2 : PySem.W.nsIn K mainGlobals "min" = some none)
    (b3 : PySem.W.nsIn K mainGlobals "max" = some none)
    (b4 : PySem.W.nsIn K mainGlobals "sorted" = some none)
    (b5 : PySem.W.nsIn K mainGlobals "all" = some none)
    (b6 : PySem.W.nsIn K mainGlobals "any" = some none)
    (b7 : PySem.W.nsIn K mainGlobals "divmod" = some none)
    (b8 : PySem.W.nsIn K mainGlobals "tuple" = some none)
    (b9 : PySem.W.nsIn K mainGlobals "list" = some none)
    (b10 : PySem.W.nsIn K mainGlobals "int" = some none)
    (b11 : PySem.W.nsIn K mainGlobals "isinstance" = some none)
    (b12 : PySem.W.nsIn K mainGlobals "range" = some none)
    (b13 : PySem.W.nsIn K mainGlobals "reversed" = some none)
    (b14 : PySem.W.nsIn K mainGlobals "zip" = some none)
    (b15 : PySem.W.nsIn K mainGlobals "enumerate" = some none)
    (b16 : PySem.W.nsIn K mainGlobals "dict" = some none)
    (b17 : PySem.W.nsIn K mainGlobals "str" = some none)
    (b18 : PySem.W.nsIn K mainGlobals "abs" = some none)
    (b19 : PySem.W.nsIn K mainGlobals "bool" = some none)
    (b20 : PySem.W.nsIn K mainGlobals "set" = some none)
    (g0 : PySem.W.nsIn K mainGlobals "MOST_PART" = some (some (.int 60 t0))) :
    ∃ fd N qual st, DefOk K mg GL T CL d_law fa fd ["script"] N qual st ∧ (∀ (s : Shared) (u : Value), BindsTo s fd ⟨[u], []⟩ [("script", u)]) ∧
        (∀ (j : Nat) d, T[j]? = some d → ∃ f fd ps N qual st, DefOk K mg GL T CL d f fd ps N qual st) ∧ (∀ (j : Nat) x d, GL[j]? = some (x, d) → ∃ u v, mg x = some u ∧ L2.RelV v u ∧ ∀ ρ B H, SimV K ρ B H d v) ∧ (∀ x ∈ BL, mg x = none) ∧
        ∀ (k : Nat) cd, CL[k]? = some cd → ClOk K mg (klOf K CL) GL T CL k cd := by
  have e := hfa.symm.trans (PySem.W.mg_of X G a10)
  cases e
  refine ⟨_, _, _, _, f_law X G a10 l10 c10 k10, fun s u => .of_eq rfl, fun j d hj => ?_, fun j x d hj => ?_, fun x hx => ?_, fun k cd hk => ?_⟩
  · match j, hj with
    | 0, hj => cases hj; exact ⟨_, _, _, _, _, _, f_law_deal X G a4 l4 c4 k4⟩
    | 1, hj => cases hj; exact ⟨_, _, _, _, _, _, f_law_take X G a5 l5 c5 k5⟩
    | 2, hj => cases hj; exact ⟨_, _, _, _, _, _, f_law_need X G a6 l6 c6 k6⟩
    | 3, hj => cases hj; exact ⟨_, _, _, _, _, _, f_law_size X G a7 l7 c7 k7⟩
    | 4, hj => cases hj; exact ⟨_, _, _, _, _, _, f_law_alone X G a8 l8 c8 k8⟩
    | 5, hj => cases hj; exact ⟨_, _, _, _, _, _, f_law_greater X G a9 l9 c9 k9⟩
    | 6, hj => cases hj; exact ⟨_, _, _, _, _, _, f_law X G a10 l10 c10 k10⟩
    | 7, hj => cases hj; exact ⟨_, _, _, _, _, _, f_Bench_init (mg := mg) lm2_0 cm2_0 km2_0⟩
    | 8, hj => cases hj; exact ⟨_, _, _, _, _, _, f_Bench_put (mg := mg) lm2_1 cm2_1 km2_1⟩
    | 9, hj => cases hj; exact ⟨_, _, _, _, _, _, f_Bench_shut_lots (mg := mg) lm2_2 cm2_2 km2_2⟩
    | 10, hj => cases hj; exact ⟨_, _, _, _, _, _, f_Bench_open_lot (mg := mg) lm2_3 cm2_3 km2_3⟩
    | 11, hj => cases hj; exact ⟨_, _, _, _, _, _, f_Bench_part_of (mg := mg) lm2_4 cm2_4 km2_4⟩
    | 12, hj => cases hj; exact ⟨_, _, _, _, _, _, f_Bench_bound_so (mg := mg) lm2_5 cm2_5 km2_5⟩
    | n + 13, hj => simp [T] at hj
  · match j, hj with
    | 0, hj => cases hj; exact ⟨_, .int 60, PySem.W.mg_of X G g0, ⟨_, rfl⟩, fun _ _ _ => simV_int.mpr rfl⟩
    | n + 1, hj => simp [GL] at hj
  · simp only [BL, List.mem_cons, List.mem_nil_iff, or_false] at hx
    rcases hx with rfl | rfl | rfl | rfl | rfl | rfl | rfl | rfl | rfl | rfl | rfl | rfl | rfl | rfl | rfl | rfl | rfl | rfl | rfl | rfl | rfl
    · exact PySem.W.mg_none_of X G b0
    · exact PySem.W.mg_none_of X G b1
    · exact PySem.W.mg_none_of X G b2
    · exact PySem.W.mg_none_of X G b3
    · exact PySem.W.mg_none_of X G b4
    · exact PySem.W.mg_none_of X G b5
    · exact PySem.W.mg_none_of X G b6
    · exact PySem.W.mg_none_of X G b7
    · exact PySem.W.mg_none_of X G b8
    · exact PySem.W.mg_none_of X G b9
    · exact PySem.W.mg_none_of X G b10
    · exact PySem.W.mg_none_of X G b11
    · exact PySem.W.mg_none_of X G b12
    · exact PySem.W.mg_none_of X G b13
    · exact PySem.W.mg_none_of X G b14
    · exact PySem.W.mg_none_of X G b15
    · exact PySem.W.mg_none_of X G b16
    · exact PySem.W.mg_none_of X G b17
    · exact PySem.W.mg_none_of X G b18
    · exact PySem.W.mg_none_of X G b19
    · exact PySem.W.mg_none_of X G b20
  · match k, hk with
    | 0, hk =>
      cases hk
      have ek : klOf K CL 0 = C0 := by
        unfold klOf
        simp only [CL, List.getElem?_cons_zero, List.getElem?_cons_succ, ac0]
      refine ⟨by rw [ek]; exact PySem.W.mg_of X G ac0, by rw [ek]; exact ⟨pg0, hd0, po0, sa0⟩, fun f hf => ?_, ?_, fun p hp => ?_⟩
      · rw [ek]
        simp only [List.mem_cons, List.mem_nil_iff, or_false] at hf
        rcases hf with rfl | rfl | rfl | rfl
        · exact n0_0
        · exact n0_1
        · exact n0_2
        · exact n0_3
      · rw [ek]
        exact ⟨_, _, _, _, _, _, _, ⟨mk0, i0_0, w0_0, kc0⟩, rfl, f_Bench_init (mg := mg) lm2_0 cm2_0 km2_0⟩
      · rw [ek]
        simp only [List.mem_cons, List.mem_nil_iff, or_false] at hp
        rcases hp with rfl | rfl | rfl | rfl | rfl
        · exact ⟨_, _, _, _, _, _, _, ⟨i0_1, w0_1, km2_1⟩, rfl, f_Bench_put (mg := mg) lm2_1 cm2_1 km2_1⟩
        · exact ⟨_, _, _, _, _, _, _, ⟨i0_2, w0_2, km2_2⟩, rfl, f_Bench_shut_lots (mg := mg) lm2_2 cm2_2 km2_2⟩
        · exact ⟨_, _, _, _, _, _, _, ⟨i0_3, w0_3, km2_3⟩, rfl, f_Bench_open_lot (mg := mg) lm2_3 cm2_3 km2_3⟩
        · exact ⟨_, _, _, _, _, _, _, ⟨i0_4, w0_4, km2_4⟩, rfl, f_Bench_part_of (mg := mg) lm2_4 cm2_4 km2_4⟩
        · exact ⟨_, _, _, _, _, _, _, ⟨i0_5, w0_5, km2_5⟩, rfl, f_Bench_bound_so (mg := mg) lm2_5 cm2_5 km2_5⟩
    | n + 1, hk => simp [CL] at hk
end Kw

set_option pp.maxSteps 100
open PySem PySem.W PyProof.Rows
set_option maxRecDepth 100000 in
set_option maxHeartbeats 0 in
theorem PySem.Challenge.cw_brimyard_k55_whole_benches_apart_holds : PySem.Challenge.rw_brimyard_k55_whole_benches_apart.Holds := by
  w_on; o_law; k_head; (case hw => w_witness2)
  k_fill
  refine Br.walk_br (l := PySem.Challenge.rw_brimyard_k55_whole_benches_apart) (GL := Kw.GL) (T := Kw.T) (CL := Kw.CL) (jl := 6) (k := Kw.fuel) (dl := Kw.d_law) (x := "script") rfl rfl ⟨rfl, by decide, by decide⟩ (fun w h Y => PySem.W.kIn_of Y) rfl rfl ?F Kw.main
  case F =>
    intro w mg fa h KX G hmg
    refine' Kw.all_mk KX G hmg ?z_a4 ?z_l4 ?z_c4 ?z_k4 ?z_a5 ?z_l5 ?z_c5 ?z_k5 ?z_a6 ?z_l6 ?z_c6 ?z_k6 ?z_a7 ?z_l7 ?z_c7 ?z_k7 ?z_a8 ?z_l8 ?z_c8 ?z_k8 ?z_a9 ?z_l9 ?z_c9 ?z_k9 ?z_a10 ?z_l10 ?z_c10 ?z_k10 ?z_lm2_0 ?z_cm2_0 ?z_km2_0 ?z_lm2_1 ?z_cm2_1 ?z_km2_1 ?z_lm2_2 ?z_cm2_2 ?z_km2_2 ?z_lm2_3 ?z_cm2_3 ?z_km2_3 ?z_lm2_4 ?z_cm2_4 ?z_km2_4 ?z_lm2_5 ?z_cm2_5 ?z_km2_5 ?z_ac0 ?z_pg0 ?z_hd0 ?z_po0 ?z_sa0 ?z_mk0 ?z_kc0 ?z_n0_0 ?z_n0_1 ?z_n0_2 ?z_n0_3 ?z_i0_0 ?z_w0_0 ?z_i0_1 ?z_w0_1 ?z_i0_2 ?z_w0_2 ?z_i0_3 ?z_w0_3 ?z_i0_4 ?z_w0_4 ?z_i0_5 ?z_w0_5 ?z_b0 ?z_b1 ?z_b2 ?z_b3 ?z_b4 ?z_b5 ?z_b6 ?z_b7 ?z_b8 ?z_b9 ?z_b10 ?z_b11 ?z_b12 ?z_b13 ?z_b14 ?z_b15 ?z_b16 ?z_b17 ?z_b18 ?z_b19 ?z_b20 ?z_g0
    (case z_a4 => k_is)
    (case z_l4 => k_is)
    (case z_c4 => k_is)
    (case z_k4 => k_is)
    (case z_a5 => k_is)
    (case z_l5 => k_is)
    (case z_c5 => k_is)
    (case z_k5 => k_is)
    (case z_a6 => k_is)
    (case z_l6 => k_is)
    (case z_c6 => k_is)
    (case z_k6 => k_is)
    (case z_a7 => k_is)
    (case z_l7 => k_is)
    (case z_c7 => k_is)
    (case z_k7 => k_is)
    (case z_a8 => k_is)
    (case z_l8 => k_is)
    (case z_c8 => k_is)
    (case z_k8 => k_is)
    (case z_a9 => k_is)
    (case z_l9 => k_is)
    (case z_c9 => k_is)
    (case z_k9 => k_is)
    (case z_a10 => k_is)
    (case z_l10 => k_is)
    (case z_c10 => k_is)
    (case z_k10 => k_is)
    (case z_ac0 => k_is)
    (case z_i0_0 => k_is)
    (case z_i0_1 => k_is)
    (case z_i0_2 => k_is)
    (case z_i0_3 => k_is)
    (case z_i0_4 => k_is)
    (case z_i0_5 => k_is)
    (case z_lm2_0 => k_is)
    (case z_cm2_0 => k_is)
    (case z_km2_0 => k_is)
    (case z_lm2_1 => k_is)
    (case z_cm2_1 => k_is)
    (case z_km2_1 => k_is)
    (case z_lm2_2 => k_is)
    (case z_cm2_2 => k_is)
    (case z_km2_2 => k_is)
    (case z_lm2_3 => k_is)
    (case z_cm2_3 => k_is)
    (case z_km2_3 => k_is)
    (case z_lm2_4 => k_is)
    (case z_cm2_4 => k_is)
    (case z_km2_4 => k_is)
    (case z_lm2_5 => k_is)
    (case z_cm2_5 => k_is)
    (case z_km2_5 => k_is)
    (case z_pg0 => k_is)
    (case z_hd0 => k_is)
    (case z_po0 => k_is)
    (case z_sa0 => k_is)
    (case z_mk0 => k_is)
    (case z_kc0 => k_is)
    (case z_n0_0 => k_is)
    (case z_n0_1 => k_is)
    (case z_n0_2 => k_is)
    (case z_n0_3 => k_is)
    (case z_w0_0 => k_is)
    (case z_w0_1 => k_is)
    (case z_w0_2 => k_is)
    (case z_w0_3 => k_is)
    (case z_w0_4 => k_is)
    (case z_w0_5 => k_is)
    (case z_b0 => k_is)
    (case z_b1 => k_is)
    (case z_b2 => k_is)
    (case z_b3 => k_is)
    (case z_b4 => k_is)
    (case z_b5 => k_is)
    (case z_b6 => k_is)
    (case z_b7 => k_is)
    (case z_b8 => k_is)
    (case z_b9 => k_is)
    (case z_b10 => k_is)
    (case z_b11 => k_is)
    (case z_b12 => k_is)
    (case z_b13 => k_is)
    (case z_b14 => k_is)
    (case z_b15 => k_is)
    (case z_b16 => k_is)
    (case z_b17 => k_is)
    (case z_b18 => k_is)
    (case z_b19 => k_is)
    (case z_b20 => k_is)
    (case z_g0 => k_is)

