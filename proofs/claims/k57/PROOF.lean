import PyProof.Rows.All
import Wide.All
import OpenK.AllK
import Wide.FinOn
import KE.KStateDown
import HandS.Words
import HandS.Defaults
import HandS.Head0
import HandS.Head1
import HandS.Head2
import HandS.HeadEnd
import HandS.HeadHook1
import HandS.HeadHook2
import HandS.ForMost
import HandS.ForExc
import KE.SortCalls
import HandS.Wide
import HandS.TupAny
import HandS.TupMul
import HandS.TupLe
import HandS.Style
import HandS.Deep
import HandS.Conv
import HandS.SortInts
import PyProof.Rows.Digits
import PyProof.ReprRoads
import HandS.SetFor
import HandS.Zip
import HandS.NoneIn
import KE.SortData
import KE.BitLaws
import PySem.Challenge.RW_ordersums_k57_whole_main_unbroken
set_option Elab.async false
set_option linter.all false
set_option maxRecDepth 100000
set_option maxHeartbeats 0
section
set_option Elab.async false
set_option linter.all false
/-! A small language of expressions and statements, read as plain functions over plain data: the IR that `gen.py` prints of each def. -/
namespace Ev
open PySem L2

/-- a value that may hold lists and dicts of its own -/
inductive M where
  | d (x : PyData)
  | ls (xs : List M)
  | sq (xs : List PyData)
  | dk (kvs : List (Key × M))
  | dt (kvs : List (List Key × M))
  deriving Inhabited

/-- what a slot holds, what an expression gives: nothing known; plain data; a thing owned; a thing that nobody changes any more; a thing that another slot owns -/
inductive R where
  | no
  | d (x : PyData)
  | ow (m : M)
  | fr (m : M)
  | bo (m : M)
  deriving Inhabited

abbrev Env := List R

abbrev R.int (i : Int) : R := .d (.int i)
abbrev R.bl (b : Bool) : R := .d (.bool b)
abbrev R.str (x : Str) : R := .d (.str x)
abbrev R.tup (xs : List PyData) : R := .d (.tuple xs)
abbrev R.lst (xs : List PyData) : R := .ow (.ls (xs.map .d))

mutual
def M.data : M → Option PyData
  | .d x => some x
  | .ls xs => (M.datas xs).map .list
  | .sq _ => none
  | .dk _ => none
  | .dt _ => none
def M.datas : List M → Option (List PyData)
  | [] => some []
  | m :: ms => (M.data m).bind fun x => (M.datas ms).map fun xs => x :: xs
end
/-- plain items alone -/
def dsOf : List M → Option (List PyData)
  | [] => some []
  | .d x :: r => (dsOf r).map fun xs => x :: xs
  | _ :: _ => none
def R.data : R → Option PyData
  | .no => none
  | .d x => some x
  | .ow m | .fr m | .bo m => m.data
def R.toM : R → M
  | .no => .d .none
  | .d x => .d x
  | .ow m | .fr m | .bo m => m
def R.isBo : R → Bool
  | .bo _ => true
  | _ => false
/-- may stand in a slot of its own, may be handed on -/
def R.isOk : R → Bool
  | .bo _ => false
  | .no => false
  | _ => true
/-- owned or plain -/
def R.isOw : R → Bool
  | .d _ => true
  | .ow _ => true
  | _ => false
/-- plain -/
def R.isD : R → Bool
  | .d _ => true
  | _ => false
/-- a list of its own -/
def R.isLs : R → Bool
  | .ow (.ls _) => true
  | _ => false
/-- a list (true) or a tuple (false) of plain data -/
def R.leafs (r : R) : Option (Bool × List PyData) :=
  match r with
  | .d (.list ds) => some (true, ds)
  | .d (.tuple ds) => some (false, ds)
  | .ow (.ls ms) => (dsOf ms).map fun ds => (true, ds)
  | .fr (.ls ms) => (dsOf ms).map fun ds => (true, ds)
  | .bo (.ls ms) => (dsOf ms).map fun ds => (true, ds)
  | _ => none

/-- .. also of what may be read alone (the script) -/
def R.reads (r : R) : Option (Bool × List PyData) :=
  match r with
  | .fr (.sq ds) => some (true, ds)
  | r => r.leafs

inductive Bi where
  | len | list | tuple | sorted | sum | any | all | max1 | min1 | max2 | min2 | abs | int | repr
  deriving DecidableEq
def Bi.name : Bi → Str
  | .len => "len" | .list => "list" | .tuple => "tuple" | .sorted => "sorted" | .sum => "sum" | .any => "any" | .all => "all"
  | .max1 => "max" | .min1 => "min" | .max2 => "max" | .min2 => "min" | .abs => "abs" | .int => "int" | .repr => "repr"

/-- a target: a name, or names in brackets -/
inductive Tg where
  | nm (i : Nat)
  | tup (ts : List Nat)

mutual
inductive E where
  | nm (i : Nat)
  | gl (x : Str) (i : Int)
  | int (i : Int)
  | str (x : Str)
  | bl (b : Bool)
  | non
  | tup (es : List E)
  | lst (es : List E)
  | bin (o : Operator) (a b : E)
  | neg (a : E)
  | cmp (o : CmpOp) (a b : E)
  | chn (o p : CmpOp) (a b c : E)
  | and (es : List E)
  | or (es : List E)
  | not (a : E)
  | ite (t a b : E)
  | sub (a b : E)
  | slc (a : E) (lo hi : Option E)
  | rev (a : E)
  | lset (a : E)
  | bi (f : Bi) (es : List E)
  | lrg (es : List E)
  | trg (es : List E)
  | call (f : Nat) (es : List E)
  | callK (f : Nat) (j : Nat) (es : List E)
  | callM (f : Nat) (i : Nat) (es : List E)
  | pop (i : Nat)
  | popAt (i : Nat) (a : E)
  | popX (i : Nat) (a : E)
  | comp (own : List (Str × Nat)) (g : Tg) (it : It) (t : Option E) (e : E)
inductive It where
  | e (a : E)
  | rg (es : List E)
  | enum (a : E)
  | zip (a b : E)
end

inductive S where
  | set (i : Nat) (e : E)
  | mov (i j : Nat)
  | par (is : List Nat) (es : List E)
  | unp (g : Tg) (e : E)
  | ex (e : E)
  | app (i : Nat) (e : E)
  | appX (i : Nat) (a e : E)
  | ext (i : Nat) (e : E)
  | setS (i : Nat) (a e : E)
  | setSS (i : Nat) (a b e : E)
  | parS (i : Nat) (a b x y : E)
  | ret (e : E)
  | retO (i : Nat)
  | ite (t : E) (a b : List S)
  | for_ (g : Tg) (it : It) (b : List S)
  | whl (t : E) (b : List S)
  | pass
  | fz (i : Nat)
end Ev
end
section
set_option Elab.async false
set_option linter.all false
/-! What the IR means: plain functions. -/
namespace Ev
open PySem L2

/-! ### operators -/
def addL (a b : R) : Option R :=
  match a.leafs, b.leafs with
  | some (true, xs), some (true, ys) => if xs.length + ys.length ≤ sizeLine then some (.lst (xs ++ ys)) else none
  | some (false, xs), some (false, ys) => if xs.length + ys.length ≤ sizeLine then some (.tup (xs ++ ys)) else none
  | _, _ => none
def addF : R → R → Option R
  | .d (.int i), .d (.int j) => some (.int (i + j))
  | .d (.str x), .d (.str y) => if x.length + y.length ≤ sizeLine then some (.str (x ++ y)) else none
  | a, b => addL a b
def subF : R → R → Option R
  | .d (.int i), .d (.int j) => some (.int (i - j))
  | _, _ => none
def repL (a : R) (k : Int) : Option R :=
  match a.leafs with
  | some (true, xs) => if -(2 ^ 63) ≤ k ∧ k < 2 ^ 63 ∧ xs.length * k.toNat ≤ sizeLine then some (.lst (List.replicate k.toNat xs).flatten) else none
  | some (false, xs) => if 2 ≤ k ∧ k ≤ 1000 ∧ xs.length ≤ 1000 ∧ xs.isEmpty = false then some (.tup (List.replicate k.toNat xs).flatten) else none
  | _ => none
def mulF : R → R → Option R
  | .d (.int i), .d (.int j) => if i.natAbs.log2 + j.natAbs.log2 < 1000000 then some (.int (i * j)) else none
  | a, .d (.int k) => repL a k
  | _, _ => none
def divF : R → R → Option R
  | .d (.int i), .d (.int j) => if 0 < j ∧ j.natAbs.log2 < 9000 then some (.int (i / j)) else none
  | _, _ => none
def modF : R → R → Option R
  | .d (.int i), .d (.int j) => if 0 < j then some (.int (i % j)) else none
  | _, _ => none
def powF : R → R → Option R
  | .d (.int i), .d (.int j) => if 0 ≤ j ∧ j ≤ 1000000 ∧ i.natAbs < 2 ^ 64 then some (.int (i ^ j.toNat)) else none
  | _, _ => none
def shlF : R → R → Option R
  | .d (.int i), .d (.int j) => if 0 ≤ j ∧ j ≤ 1000000 ∧ i.natAbs < 2 ^ 64 then some (.int (i * 2 ^ j.toNat)) else none
  | _, _ => none
def shrF : R → R → Option R
  | .d (.int i), .d (.int j) => if 0 ≤ j then some (.int (i / 2 ^ j.toNat)) else none
  | _, _ => none
def andF : R → R → Option R
  | .d (.int i), .d (.int j) => some (.int (Builtin.bitAnd i j))
  | _, _ => none
def orF : R → R → Option R
  | .d (.int i), .d (.int j) => some (.int (Builtin.bitOr i j))
  | _, _ => none
def binF : Operator → R → R → Option R
  | .Add => addF
  | .Sub => subF
  | .Mult => mulF
  | .FloorDiv => divF
  | .Mod => modF
  | .Pow => powF
  | .LShift => shlF
  | .RShift => shrF
  | .BitAnd => andF
  | .BitOr => orF
  | _ => fun _ _ => none
def negF : R → Option R
  | .d (.int i) => some (.int (-i))
  | _ => none

/-! ### comparisons -/
def eqF (a b : R) : Option Bool :=
  match a.data, b.data with
  | some x, some y => if SeqAt.shaped x = true ∧ SeqAt.shaped y = true then some (PyData.eqv x y) else none
  | _, _ => none
def inF (a b : R) : Option Bool :=
  match a.data, b.leafs with
  | some x, some (_, ys) => if SeqAt.shaped x = true ∧ SeqAt.shaped (.list ys) = true then some (ys.any fun z => PyData.eqv z x) else none
  | _, _ => none
def ltF : R → R → Option Bool
  | .d (.int i), .d (.int j) => some (decide (i < j))
  | _, _ => none
def leF : R → R → Option Bool
  | .d (.int i), .d (.int j) => some (decide (i ≤ j))
  | _, _ => none
def isF : R → R → Option Bool
  | .d (.bool a), .d (.bool b) => some (a == b)
  | .d .none, .d .none => some true
  | .d (.int _), .d .none => some false
  | .d (.str _), .d .none => some false
  | .d (.bool _), .d .none => some false
  | .d (.tuple _), .d .none => some false
  | _, _ => none
def cmpF : CmpOp → R → R → Option Bool
  | .Eq => eqF
  | .NotEq => fun a b => (eqF a b).map (!·)
  | .Lt => ltF
  | .LtE => leF
  | .Gt => fun a b => ltF b a
  | .GtE => fun a b => leF b a
  | .In => inF
  | .NotIn => fun a b => (inF a b).map (!·)
  | .Is => isF
  | .IsNot => fun a b => (isF a b).map (!·)

/-- truth of a value -/
def truF (r : R) : Option Bool :=
  match r with
  | .d .none => some false
  | .d (.bool b) => some b
  | .d (.int i) => some (i != 0)
  | _ => (r.reads).map fun p => !p.2.isEmpty

/-! ### items, cuts -/
def ixF (a b : R) : Option R :=
  match b with
  | .d (.int i) =>
    match a with
    | .d (.list ds) => (atI ds i).map .d
    | .d (.tuple ds) => (atI ds i).map .d
    | .fr (.ls ms) => (atI ms i).map fun m => match m with | .d x => .d x | m => .fr m
    | .ow (.ls ms) => (atI ms i).map fun m => match m with | .d x => .d x | m => .bo m
    | .bo (.ls ms) => (atI ms i).map fun m => match m with | .d x => .d x | m => .bo m
    | .fr (.sq ds) => (atI ds i).map .d
    | _ => none
  | _ => none
def cutL {α : Type} (xs : List α) (lo hi : Option Int) : List α := (xs.drop (HT.sIx xs.length 0 lo)).take (HT.sIx xs.length xs.length hi - HT.sIx xs.length 0 lo)
def slcF (a : R) (lo hi : Option Int) : Option R :=
  match a.reads with
  | some (true, xs) => some (.lst (cutL xs lo hi))
  | some (false, xs) => some (.tup (cutL xs lo hi))
  | none => none
def revF (a : R) : Option R :=
  match a.leafs with
  | some (true, xs) => some (.lst xs.reverse)
  | some (false, xs) => some (.tup xs.reverse)
  | none => none

/-- how many different ints -/
def dedI (is : List Int) : List Int := is.foldl (fun acc x => if x ∈ acc then acc else acc ++ [x]) []
def dcnt (is : List Int) : Nat := (dedI is).length
/-! ### built-ins -/
def PyData.int? : PyData → Option Int
  | .int i => some i
  | _ => none
def PyData.bool? : PyData → Option Bool
  | .bool i => some i
  | _ => none
def ints? : List PyData → Option (List Int)
  | [] => some []
  | .int i :: r => (ints? r).map fun is => i :: is
  | _ :: _ => none
def bools? : List PyData → Option (List Bool)
  | [] => some []
  | .bool i :: r => (bools? r).map fun is => i :: is
  | _ :: _ => none
/-- how long a text of it may be, at most -/
def cost : PyData → Nat
  | .none => 4
  | .bool _ => 5
  | .int i => i.natAbs.log2 + 2
  | .str x => 10 * x.length + 2
  | .list xs => costs xs + 3
  | .tuple xs => costs xs + 3
  | .dict _ => sizeLine + 1
where costs : List PyData → Nat
  | [] => 0
  | x :: xs => cost x + 2 + costs xs
/-- may be sorted: alike, none of them None -/
def sortable (xs : List PyData) : Bool := xs.all fun x => x.canLay0 && decide (x.depth ≤ 60) && (match x with | .none => false | _ => true) && xs.all fun y => PySem.W.alike x y
def leD (x y : PyData) : Bool := !PySem.W.dataLt y x
def sortD (xs : List PyData) : List PyData := xs.mergeSort leD
def sortF (xs : List PyData) : Option (List PyData) := if sortable xs = true then some (sortD xs) else none
def lenF (r : R) : Option R :=
  match r with
  | .d (.str x) => if x.length ≤ sizeLine then some (.int x.length) else none
  | .fr (.ls ms) | .ow (.ls ms) | .bo (.ls ms) => some (.int ms.length)
  | .d (.list xs) => some (.int xs.length)
  | .d (.tuple xs) => some (.int xs.length)
  | .fr (.sq xs) => some (.int xs.length)
  | _ => none
def un1 (g : R → Option R) : List R → Option R
  | [r] => g r
  | _ => none
def max2F : List R → Option R
  | [.d (.int i), .d (.int j)] => some (.int (if j > i then j else i))
  | _ => none
def min2F : List R → Option R
  | [.d (.int i), .d (.int j)] => some (.int (if j < i then j else i))
  | _ => none
def absF : R → Option R
  | .d (.int i) => some (.int (if i < 0 then -i else i))
  | _ => none
def intF : R → Option R
  | .d (.int i) => some (.int i)
  | .d (.bool b) => some (.int (if b then 1 else 0))
  | _ => none
def isSeq : PyData → Bool
  | .list _ => true
  | .tuple _ => true
  | _ => false
/-- repr gives its text: ints of a few thousand digits, no dict -/
def showB : PyData → Bool
  | .int i => decide (i.natAbs.log2 < 12000)
  | .list xs => showBs xs
  | .tuple xs => showBs xs
  | .dict _ => false
  | _ => true
where showBs : List PyData → Bool
  | [] => true
  | x :: xs => showB x && showBs xs
def reprF (r : R) : Option R := r.data.bind fun x => if isSeq x = true ∧ showB x = true ∧ x.canLay0 = true ∧ x.depth ≤ 64 ∧ cost x ≤ sizeLine then some (.str x.shown) else none
def biF : Bi → List R → Option R
  | .len => un1 lenF
  | .list => un1 fun r => r.reads.map fun p => .lst p.2
  | .tuple => un1 fun r => r.reads.map fun p => .tup p.2
  | .sorted => un1 fun r => r.reads.bind fun p => if p.1 then (sortF p.2).map fun ys => .lst ys else none
  | .sum => un1 fun r => r.reads.bind fun p => if p.1 then (ints? p.2).map fun is => .int is.sum else none
  | .any => un1 fun r => r.reads.bind fun p => if p.1 then (bools? p.2).map fun is => .bl (is.any id) else none
  | .all => un1 fun r => r.reads.bind fun p => if p.1 then (bools? p.2).map fun is => .bl (is.all id) else none
  | .max1 => un1 fun r => r.reads.bind fun p => if p.1 then (ints? p.2).bind fun is => is.max?.map .int else none
  | .min1 => un1 fun r => r.reads.bind fun p => if p.1 then (ints? p.2).bind fun is => is.min?.map .int else none
  | .max2 => max2F
  | .min2 => min2F
  | .abs => un1 absF
  | .int => un1 intF
  | .repr => un1 reprF

/-- len(set(..)) of a tuple of ints -/
def lsetF (a : R) : Option R :=
  match a.leafs with
  | some (false, xs) => (ints? xs).bind fun is => if is.length ≤ 1000 then some (.int (dcnt is)) else none
  | _ => none
/-- range(..) of one or two ints -/
def rgF : List R → Option (Int × Int)
  | [.d (.int n)] => if -(2 ^ 62) ≤ n ∧ n < 2 ^ 62 then some (0, n) else none
  | [.d (.int a), .d (.int b)] => if -(2 ^ 62) ≤ a ∧ a < 2 ^ 62 ∧ -(2 ^ 62) ≤ b ∧ b < 2 ^ 62 then some (a, b) else none
  | _ => none
def rgL (a b : Int) : List PyData := (List.range (b - a).toNat).map fun i => .int (a + (i : Nat))
def rgD (p : Int × Int) : Option (List PyData) := if (p.2 - p.1).toNat ≤ sizeLine then some (rgL p.1 p.2) else none

/-! ### slots -/
def Env.at_ (ρ : Env) (i : Nat) : R := ρ.getD i .no
def wipeE (ρ : Env) : List Nat → Env
  | [] => ρ
  | v :: vs => (wipeE ρ vs).set v .no
/-- the slots vs as they were in ρ -/
def backE (ρ' ρ : Env) : List Nat → Env
  | [] => ρ'
  | v :: vs => backE (ρ'.set v (ρ.at_ v)) ρ vs
def setTs : List Nat → List PyData → Env → Option Env
  | [], [], ρ => some ρ
  | i :: is, x :: xs, ρ => setTs is xs (ρ.set i (.d x))
  | _, _, _ => none
def tgF (g : Tg) (r : R) (ρ : Env) : Option Env :=
  match g with
  | .nm i => some (ρ.set i r)
  | .tup is =>
    match r with
    | .d (.tuple xs) => setTs is xs ρ
    | .d (.list xs) => setTs is xs ρ
    | .ow (.ls ms) => (dsOf ms).bind fun xs => setTs is xs ρ
    | _ => none

/-! ### tables -/
structure Fd where
  name : Str
  ps : List Str
  io : Bool
  kws : List (List Str)
  g : List R → Option (R × R)
abbrev Tbl := List Fd

/-- the arguments of a call by names, in the order of the parameters: us by place, ws by name -/
def kwIx (ps ks : List Str) : List Nat := (ps.drop (ps.length - ks.length)).map fun p => ks.findIdx (fun k => decide (k = p))
def kwG {α : Type} (ix : List Nat) (us ws : List α) : List α := us ++ ix.filterMap (fun i => ws[i]?)
/-- handed on: nobody changes it any more -/
def frzF : R → R
  | .ow m => match m.data with | some x => .d x | none => .fr m
  | r => r

/-! ### nothing is changed by it -/
mutual
def E.quiet : E → Bool
  | .nm _ | .gl _ _ | .int _ | .str _ | .bl _ | .non => true
  | .tup es | .lst es | .bi _ es | .lrg es | .trg es | .call _ es | .callK _ _ es | .and es | .or es => quiets es
  | .bin _ a b | .cmp _ a b | .sub a b => a.quiet && b.quiet
  | .chn _ _ a b c | .ite a b c => a.quiet && b.quiet && c.quiet
  | .neg a | .not a | .rev a | .lset a => a.quiet
  | .slc a lo hi => a.quiet && quietO lo && quietO hi
  | .callM _ _ _ | .pop _ | .popAt _ _ | .popX _ _ => false
  | .comp _ _ it t e => it.quiet && quietO t && e.quiet
def quiets : List E → Bool
  | [] => true
  | e :: es => e.quiet && quiets es
def quietO : Option E → Bool
  | none => true
  | some e => e.quiet
def It.quiet : It → Bool
  | .e a | .enum a => a.quiet
  | .rg es => quiets es
  | .zip a b => a.quiet && b.quiet
end

/-! ### comprehensions, loops -/
/-- the turns of a comprehension: body gives the new item, if the test says so -/
def compGo (g : Tg) (vs : List Nat) (body : Env → Option (Option M × Env)) : List R → List M → Env → Option (List M × Env)
  | [], acc, ρ => some (acc, ρ)
  | r :: rs, acc, ρ =>
    (tgF g r ρ).bind fun ρ1 => (body ρ1).bind fun q =>
      match q.1 with
      | none => compGo g vs body rs acc (wipeE q.2 vs)
      | some m => if acc.length < sizeLine then compGo g vs body rs (acc ++ [m]) (wipeE q.2 vs) else none
inductive Out where
  | nx
  | rt (r : R)
def forGo (g : Tg) (body : Env → Option (Out × Env)) : List R → Env → Option (Out × Env)
  | [], ρ => some (.nx, ρ)
  | r :: rs, ρ =>
    (tgF g r ρ).bind fun ρ1 => (body ρ1).bind fun q =>
      match q.1 with
      | .nx => forGo g body rs q.2
      | .rt r => some (.rt r, q.2)
def whlGo (test : Env → Option (Bool × Env)) (body : Env → Option (Out × Env)) : Nat → Env → Option (Out × Env)
  | 0, _ => none
  | n + 1, ρ =>
    (test ρ).bind fun q =>
      if q.1 = true then (body q.2).bind fun p =>
        match p.1 with
        | .nx => whlGo test body n p.2
        | .rt r => some (.rt r, p.2)
      else some (.nx, q.2)
/-- what a for walks: its items, and whether the list may be changed meanwhile -/
structure Its where
  rs : List R
  held : Bool
def itemsF (r : R) : Option Its :=
  match r with
  | .fr (.ls ms) => some ⟨ms.map fun m => match m with | .d x => .d x | m => .fr m, false⟩
  | _ => r.reads.map fun p => ⟨p.2.map .d, r.isBo⟩
def enumL (k : Nat) : List PyData → List R
  | [] => []
  | x :: xs => .tup [.int k, x] :: enumL (k + 1) xs
def enumF (r : R) : Option Its := r.leafs.bind fun p => if p.1 then some ⟨enumL 0 p.2, r.isBo⟩ else none
def zipL : List PyData → List PyData → List R
  | x :: xs, y :: ys => .tup [x, y] :: zipL xs ys
  | _, _ => []
def zipF (a b : R) : Option Its := a.leafs.bind fun p => b.leafs.bind fun q => if p.1 = q.1 then some ⟨zipL p.2 q.2, a.isBo || b.isBo⟩ else none

/-- two expressions, one behind another; the first one may be another slot's only if the second changes nothing -/
def seq2 (f g : Env → Option (R × Env)) (qg : Bool) (ρ : Env) : Option (R × R × Env) :=
  (f ρ).bind fun q => if q.1.isBo && !qg then none else (g q.2).map fun z => (q.1, z.1, z.2)
/-- as a test -/
def asT (f : Env → Option (R × Env)) (ρ : Env) : Option (Bool × Env) := (f ρ).bind fun q => (truF q.1).map fun k => (k, q.2)
/-- a truth value -/
def asB (f : Env → Option (R × Env)) (ρ : Env) : Option (Bool × Env) := (f ρ).bind fun q => match q.1 with | .d (.bool b) => some (b, q.2) | _ => none
def asI (f : Env → Option (R × Env)) (ρ : Env) : Option (Option Int × Env) := (f ρ).bind fun q => match q.1 with | .d (.int i) => some (some i, q.2) | _ => none
def unR (mk : M → R) : M → R
  | .d x => .d x
  | m => mk m
section
variable (T : Tbl)
mutual
def ev : E → Env → Option (R × Env)
  | .nm i, ρ =>
    match ρ.at_ i with
    | .no => none
    | .ow m => some (.bo m, ρ)
    | r => some (r, ρ)
  | .gl _ i, ρ => some (.int i, ρ)
  | .int i, ρ => some (.int i, ρ)
  | .str x, ρ => some (.str x, ρ)
  | .bl b, ρ => some (.bl b, ρ)
  | .non, ρ => some (.d .none, ρ)
  | .tup es, ρ => (evs es ρ).bind fun q => (if q.1.all R.isOk && decide (q.1.length ≤ sizeLine) then (q.1.mapM R.data).map fun ds => (.tup ds, q.2) else none)
  | .lst es, ρ => (evs es ρ).bind fun q => (if q.1.length ≤ sizeLine then some ((if q.1.all R.isOw then R.ow (.ls (q.1.map R.toM)) else R.bo (.ls (q.1.map R.toM))), q.2) else none)
  | .bin o a b, ρ => (seq2 (ev a) (ev b) b.quiet ρ).bind fun q => (binF o q.1 q.2.1).map fun r => (r, q.2.2)
  | .neg a, ρ => (ev a ρ).bind fun q => (negF q.1).map fun r => (r, q.2)
  | .cmp o a b, ρ => (seq2 (ev a) (ev b) b.quiet ρ).bind fun q => (cmpF o q.1 q.2.1).map fun r => (.bl r, q.2.2)
  | .chn o p a b c, ρ => (seq2 (ev a) (ev b) b.quiet ρ).bind fun q => if q.2.1.isD = true then (cmpF o q.1 q.2.1).bind fun k => if k = true then (ev c q.2.2).bind fun z => (cmpF p q.2.1 z.1).map fun r => (.bl r, z.2) else some (.bl false, q.2.2) else none
  | .and es, ρ => (evAnd es ρ).map fun q => (.bl q.1, q.2)
  | .or es, ρ => (evOr es ρ).map fun q => (.bl q.1, q.2)
  | .not a, ρ => (asB (ev a) ρ).map fun q => (.bl (!q.1), q.2)
  | .ite t a b, ρ => (asT (ev t) ρ).bind fun q => if q.1 = true then ev a q.2 else ev b q.2
  | .sub a b, ρ => (seq2 (ev a) (ev b) b.quiet ρ).bind fun q => (ixF q.1 q.2.1).map fun r => (r, q.2.2)
  | .slc a lo hi, ρ => (ev a ρ).bind fun q => if q.1.isBo && !(quietO lo && quietO hi) then none else (evO lo q.2).bind fun l => (evO hi l.2).bind fun h => (slcF q.1 l.1 h.1).map fun r => (r, h.2)
  | .rev a, ρ => (ev a ρ).bind fun q => (revF q.1).map fun r => (r, q.2)
  | .lset a, ρ => (ev a ρ).bind fun q => (lsetF q.1).map fun r => (r, q.2)
  | .bi f es, ρ => (evs es ρ).bind fun q => (biF f q.1).map fun r => (r, q.2)
  | .lrg es, ρ => (evs es ρ).bind fun q => (rgF q.1).bind fun p => (rgD p).map fun xs => (.lst xs, q.2)
  | .trg es, ρ => (evs es ρ).bind fun q => (rgF q.1).bind fun p => (rgD p).map fun xs => (.tup xs, q.2)
  | .call f es, ρ => (evs es ρ).bind fun q => T[f]?.bind fun d => if q.1.all R.isOk then (d.g q.1).map fun r => (r.1, q.2) else none
  | .callK f j es, ρ => (evs es ρ).bind fun q => T[f]?.bind fun d => d.kws[j]?.bind fun ks => if q.1.all R.isOk = true then (d.g (kwG (kwIx d.ps ks) ((q.1.map frzF).take (d.ps.length - ks.length)) ((q.1.map frzF).drop (d.ps.length - ks.length)))).map fun r => (r.1, q.2) else none
  | .callM f i es, ρ => if (ρ.at_ i).isOw = true then (evs es ρ).bind fun q => T[f]?.bind fun d => if d.io && q.1.all R.isOk then
      match q.2.at_ i with
      | .ow m => (d.g (.ow m :: q.1)).bind fun r => match r.2 with | .ow m' => some (r.1, q.2.set i (.ow m')) | _ => none
      | _ => none
      else none
      else none
  | .pop i, ρ =>
    match ρ.at_ i with
    | .ow (.ls ms) => ms.getLast?.map fun m => (unR .ow m, ρ.set i (.ow (.ls ms.dropLast)))
    | _ => none
  | .popAt i a, ρ => if (ρ.at_ i).isLs = true then (ev a ρ).bind fun q =>
    match q.1, q.2.at_ i with
    | .d (.int k), .ow (.ls ms) => if -(2 ^ 63) ≤ k ∧ k < 2 ^ 63 then (ixN ms.length k).bind fun j => ms[j]?.map fun m => (unR .ow m, q.2.set i (.ow (.ls (ms.eraseIdx j)))) else none
    | _, _ => none
    else none
  | .popX i a, ρ => if (ρ.at_ i).isLs = true then (ev a ρ).bind fun q =>
    match q.1, q.2.at_ i with
    | .d (.int k), .ow (.ls ms) => (ixN ms.length k).bind fun j =>
        match ms[j]? with
        | some (.ls us) => us.getLast?.map fun m => (unR .ow m, q.2.set i (.ow (.ls (ms.set j (.ls us.dropLast)))))
        | _ => none
    | _, _ => none
    else none
  | .comp own g it t e, ρ => (evIt it ρ).bind fun q =>
      if (q.1.held && !(quietO t && e.quiet)) || (own.map (·.2)).any (fun v => match q.2.at_ v with | .ow _ => true | _ => false) then none
      else (compGo g (own.map (·.2)) (fun ρ1 => (evTO t ρ1).bind fun z => if z.1 = true then (ev e z.2).bind fun y => if y.1.isOw then some (some y.1.toM, y.2) else none else some (none, z.2)) q.1.rs [] (wipeE q.2 (own.map (·.2)))).map
        fun z => (.ow (.ls z.1), backE z.2 q.2 (own.map (·.2)))
def evs : List E → Env → Option (List R × Env)
  | [], ρ => some ([], ρ)
  | e :: es, ρ => (ev e ρ).bind fun q => if q.1.isBo && !quiets es then none else (evs es q.2).map fun z => (q.1 :: z.1, z.2)
def evO : Option E → Env → Option (Option Int × Env)
  | none, ρ => some (none, ρ)
  | some e, ρ => asI (ev e) ρ
/-- a clause's test -/
def evTO : Option E → Env → Option (Bool × Env)
  | none, ρ => some (true, ρ)
  | some e, ρ => asT (ev e) ρ
def evAnd : List E → Env → Option (Bool × Env)
  | [], ρ => some (true, ρ)
  | e :: es, ρ => (asB (ev e) ρ).bind fun q => if q.1 = true then evAnd es q.2 else some (false, q.2)
def evOr : List E → Env → Option (Bool × Env)
  | [], ρ => some (false, ρ)
  | e :: es, ρ => (asB (ev e) ρ).bind fun q => if q.1 = true then some (true, q.2) else evOr es q.2
def evIt : It → Env → Option (Its × Env)
  | .e a, ρ => (ev a ρ).bind fun q => (itemsF q.1).map fun z => (z, q.2)
  | .rg es, ρ => (evs es ρ).bind fun q => (rgF q.1).map fun p => (⟨(rgL p.1 p.2).map .d, false⟩, q.2)
  | .enum a, ρ => (ev a ρ).bind fun q => (enumF q.1).map fun z => (z, q.2)
  | .zip a b, ρ => (seq2 (ev a) (ev b) b.quiet ρ).bind fun q => (zipF q.1 q.2.1).map fun z => (z, q.2.2)
end
end

/-! ### statements -/
/-- turns that a while may take -/
def FU : Nat := 1000000000
def setR (i : Nat) (r : R) (ρ : Env) : Option Env := if r.isOk then some (ρ.set i r) else none
def setRs : List Nat → List R → Env → Option Env
  | [], [], ρ => some ρ
  | i :: is, r :: rs, ρ => (setR i r ρ).bind fun ρ1 => setRs is rs ρ1
  | _, _, _ => none
/-- x[k] = r -/
def putL (i : Nat) (k r : R) (ρ : Env) : Option Env :=
  match k, ρ.at_ i with
  | .d (.int k), .ow (.ls ms) => if r.isOw then (ixN ms.length k).map fun j => ρ.set i (.ow (.ls (ms.set j r.toM))) else none
  | _, _ => none
/-- x[k][l] = r -/
def putLL (i : Nat) (k l r : R) (ρ : Env) : Option Env :=
  match k, ρ.at_ i with
  | .d (.int k), .ow (.ls ms) => (ixN ms.length k).bind fun j =>
    match ms[j]?, l with
    | some (.ls us), .d (.int l) => if r.isOw then (ixN us.length l).map fun h => ρ.set i (.ow (.ls (ms.set j (.ls (us.set h r.toM))))) else none
    | _, _ => none
  | _, _ => none
def appL (i : Nat) (r : R) (ρ : Env) : Option Env :=
  match ρ.at_ i with
  | .ow (.ls ms) => if r.isOw && decide (ms.length < sizeLine) then some (ρ.set i (.ow (.ls (ms ++ [r.toM])))) else none
  | _ => none
def appLL (i : Nat) (k r : R) (ρ : Env) : Option Env :=
  match k, ρ.at_ i with
  | .d (.int k), .ow (.ls ms) => (ixN ms.length k).bind fun j =>
    match ms[j]? with
    | some (.ls us) => if r.isOw && decide (us.length < sizeLine) then some (ρ.set i (.ow (.ls (ms.set j (.ls (us ++ [r.toM])))))) else none
    | _ => none
  | _, _ => none
def extL (i : Nat) (r : R) (ρ : Env) : Option Env :=
  match ρ.at_ i, r.leafs with
  | .ow (.ls ms), some (true, xs) => if ms.length + xs.length ≤ sizeLine then some (ρ.set i (.ow (.ls (ms ++ xs.map .d)))) else none
  | _, _ => none
section
variable (T : Tbl)
mutual
def exec : S → Env → Option (Out × Env)
  | .set i e, ρ => (ev T e ρ).bind fun q => (setR i q.1 q.2).map fun ρ1 => (.nx, ρ1)
  | .mov i j, ρ =>
    match ρ.at_ j with
    | .no => none
    | .ow m => some (.nx, (ρ.set j .no).set i (.ow m))
    | r => (setR i r ρ).map fun ρ1 => (.nx, ρ1)
  | .par is es, ρ => (evs T es ρ).bind fun q => (setRs is q.1 q.2).map fun ρ1 => (.nx, ρ1)
  | .unp g e, ρ => (ev T e ρ).bind fun q => (tgF g q.1 q.2).map fun ρ1 => (.nx, ρ1)
  | .ex e, ρ => (ev T e ρ).map fun q => (.nx, q.2)
  | .app i e, ρ => if (ρ.at_ i).isLs = true then (ev T e ρ).bind fun q => (appL i q.1 q.2).map fun ρ1 => (.nx, ρ1) else none
  | .appX i a e, ρ => if (ρ.at_ i).isLs = true then (ev T a ρ).bind fun p => if p.1.isD && (appLL i p.1 (.d .none) p.2).isSome && e.quiet then (ev T e p.2).bind fun q => (appLL i p.1 q.1 q.2).map fun ρ1 => (.nx, ρ1) else none else none
  | .ext i e, ρ => if (ρ.at_ i).isLs = true then (ev T e ρ).bind fun q => (extL i q.1 q.2).map fun ρ1 => (.nx, ρ1) else none
  | .setS i a e, ρ => (ev T e ρ).bind fun q => if q.1.isOw && (q.2.at_ i).isLs then (ev T a q.2).bind fun p => (putL i p.1 q.1 p.2).map fun ρ1 => (.nx, ρ1) else none
  | .setSS i a b e, ρ => (ev T e ρ).bind fun q => if q.1.isOw && (q.2.at_ i).isLs then (ev T a q.2).bind fun p => if p.1.isD && (appLL i p.1 (.d .none) p.2).isSome && b.quiet then (ev T b p.2).bind fun z => (putLL i p.1 z.1 q.1 z.2).map fun ρ1 => (.nx, ρ1) else none else none
  | .parS i a b x y, ρ => (ev T x ρ).bind fun p => (ev T y p.2).bind fun q => if p.1.isD && q.1.isD && (q.2.at_ i).isLs then
      (ev T a q.2).bind fun u => (putL i u.1 p.1 u.2).bind fun ρ1 => (ev T b ρ1).bind fun w => (putL i w.1 q.1 w.2).map fun ρ2 => (.nx, ρ2) else none
  | .ret e, ρ => (ev T e ρ).bind fun q => if q.1.isOk then some (.rt q.1, q.2) else none
  | .retO i, ρ =>
    match ρ.at_ i with
    | .no => none
    | .ow m => some (.rt (.ow m), ρ.set i .no)
    | r => if r.isOk then some (.rt r, ρ) else none
  | .ite t a b, ρ => (asT (ev T t) ρ).bind fun q => if q.1 = true then execs a q.2 else execs b q.2
  | .for_ g it b, ρ => (evIt T it ρ).bind fun q => if q.1.held then none else forGo g (execs b) q.1.rs q.2
  | .whl t b, ρ => whlGo (asT (ev T t)) (execs b) FU ρ
  | .pass, ρ => some (.nx, ρ)
  | .fz i, ρ => some (.nx, ρ.set i (frzF (ρ.at_ i)))
def execs : List S → Env → Option (Out × Env)
  | [], ρ => some (.nx, ρ)
  | s :: ss, ρ => (exec s ρ).bind fun q => match q.1 with | .nx => execs ss q.2 | .rt r => some (.rt r, q.2)
end
end
/-- a def: n slots, its body, the arguments; its value, and its first parameter behind it -/
def evDef (T : Tbl) (n : Nat) (b : List S) (rs : List R) : Option (R × R) :=
  (execs T b (rs ++ List.replicate (n - rs.length) .no)).map fun q => (match q.1 with | .rt r => r | .nx => .d .none, q.2.at_ 0)
/-! ### slot 0 is never stored -/
def Tg.no0 : Tg → Bool
  | .nm i => i != 0
  | .tup is => is.all (· != 0)
mutual
def S.no0 : S → Bool
  | .set i _ => i != 0
  | .mov i j => i != 0 && j != 0
  | .par is _ => is.all (· != 0)
  | .unp g _ => g.no0
  | .retO i => i != 0
  | .ite _ a b => no0s a && no0s b
  | .for_ g _ b => g.no0 && no0s b
  | .whl _ b => no0s b
  | .fz i => i != 0
  | _ => true
def no0s : List S → Bool
  | [] => true
  | s :: ss => s.no0 && no0s ss
end
end Ev
end
section
set_option Elab.async false
set_option linter.all false
set_option maxHeartbeats 1000000
/-! How plain values stand in the heap: F holds what nobody changes any more, fp lists what a slot owns. -/
namespace Ev
open PySem PySem.Spec PyProof.Rows L2

mutual
/-- plain data, as it stands in F: lists and tuples that are tracked there -/
inductive Dq (F : Hp) : V → PyData → Prop
  | non : Dq F .non .none
  | bl (b : Bool) : Dq F (.bl b) (.bool b)
  | int (i : Int) : Dq F (.int i) (.int i)
  | str (x : Str) : Dq F (.str x) (.str x)
  | lst {a : Addr} {xs : List V} {ds : List PyData} : F a = some (.lst xs) → DqAll F xs ds → Dq F (.ref a) (.list ds)
  | tup {a : Addr} {xs : List V} {ds : List PyData} : F a = some (.tup xs) → DqAll F xs ds → Dq F (.ref a) (.tuple ds)
inductive DqAll (F : Hp) : List V → List PyData → Prop
  | nil : DqAll F [] []
  | cons {v : V} {vs : List V} {d : PyData} {ds : List PyData} : Dq F v d → DqAll F vs ds → DqAll F (v :: vs) (d :: ds)
end
mutual
theorem Dq.dp {K : PySem.W.Frag} {F : Hp} : ∀ {v : V} {x : PyData}, Dq F v x → Dp K F v x
  | _, _, .non => .non
  | _, _, .bl b => .bl b
  | _, _, .int i => .int i
  | _, _, .str x => .str x
  | _, _, .lst h t => .lst (SqL.of h) (DqAll.dp t)
  | _, _, .tup h t => .tup (SqT.of h) (DqAll.dp t)
theorem DqAll.dp {K : PySem.W.Frag} {F : Hp} : ∀ {vs : List V} {xs : List PyData}, DqAll F vs xs → DpAll K F vs xs
  | _, _, .nil => .nil
  | _, _, .cons h t => .cons (Dq.dp h) (DqAll.dp t)
end
section
variable {K : PySem.W.Frag}
mutual
theorem Dq.mono {F F' : Hp} (s : Same F F') : ∀ {v : V} {x : PyData}, Dq F v x → Dq F' v x
  | _, _, .non => .non
  | _, _, .bl b => .bl b
  | _, _, .int i => .int i
  | _, _, .str x => .str x
  | _, _, .lst h t => .lst (s _ _ h) (DqAll.mono s t)
  | _, _, .tup h t => .tup (s _ _ h) (DqAll.mono s t)
theorem DqAll.mono {F F' : Hp} (s : Same F F') : ∀ {vs : List V} {xs : List PyData}, DqAll F vs xs → DqAll F' vs xs
  | _, _, .nil => .nil
  | _, _, .cons h t => .cons (Dq.mono s h) (DqAll.mono s t)
end
theorem DqAll.length {F : Hp} : ∀ {vs : List V} {xs : List PyData}, DqAll F vs xs → vs.length = xs.length
  | _, _, .nil => rfl
  | _, _, .cons _ t => congrArg (· + 1) (DqAll.length t)
theorem DqAll.get {F : Hp} : ∀ {vs : List V} {xs : List PyData} {i : Nat} {x : PyData}, DqAll F vs xs → xs[i]? = some x → ∃ v, vs[i]? = some v ∧ Dq F v x
  | _, _, i, x, .nil, e => by simp at e
  | _, _, 0, x, .cons h _, e => by
    have e' := Option.some.inj e
    subst e'
    exact ⟨_, rfl, h⟩
  | _, _, i + 1, x, .cons _ t, e => DqAll.get (i := i) t e
theorem DqAll.app {F : Hp} : ∀ {vs ws : List V} {xs ys : List PyData}, DqAll F vs xs → DqAll F ws ys → DqAll F (vs ++ ws) (xs ++ ys)
  | _, _, _, _, .nil, b => b
  | _, _, _, _, .cons h t, b => .cons h (DqAll.app t b)
theorem DqAll.drop {F : Hp} : ∀ {vs : List V} {xs : List PyData} (n : Nat), DqAll F vs xs → DqAll F (vs.drop n) (xs.drop n)
  | _, _, 0, h => h
  | _, _, n + 1, .nil => .nil
  | _, _, n + 1, .cons _ t => DqAll.drop n t
theorem DqAll.take {F : Hp} : ∀ {vs : List V} {xs : List PyData} (n : Nat), DqAll F vs xs → DqAll F (vs.take n) (xs.take n)
  | _, _, 0, h => .nil
  | _, _, n + 1, .nil => .nil
  | _, _, n + 1, .cons h t => .cons h (DqAll.take n t)
theorem DqAll.rev {F : Hp} : ∀ {vs : List V} {xs : List PyData}, DqAll F vs xs → DqAll F vs.reverse xs.reverse
  | _, _, .nil => .nil
  | _, _, .cons h t => by
    rw [List.reverse_cons, List.reverse_cons]
    exact DqAll.app (DqAll.rev t) (.cons h .nil)
theorem DqAll.rep {F : Hp} {vs : List V} {xs : List PyData} (h : DqAll F vs xs) : ∀ k : Nat, DqAll F (List.replicate k vs).flatten (List.replicate k xs).flatten
  | 0 => .nil
  | k + 1 => by
    rw [List.replicate_succ, List.replicate_succ, List.flatten_cons, List.flatten_cons]
    exact DqAll.app h (DqAll.rep h k)
theorem DqAll.ints {F : Hp} : ∀ {xs : List PyData} {is : List Int} {vs : List V}, DqAll F vs xs → ints? xs = some is → vs = is.map V.int
  | [], is, _, .nil, e => by
    have e' : [] = is := Option.some.inj e
    rw [← e']; rfl
  | .int i :: xs, is, _, .cons h t, e => by
    cases h
    cases q : ints? xs with
    | none => simp [ints?, q] at e
    | some js =>
      simp [ints?, q] at e
      subst e
      rw [DqAll.ints t q]; rfl
  | .none :: xs, _, _, _, e => by simp [ints?] at e
  | .bool _ :: xs, _, _, _, e => by simp [ints?] at e
  | .str _ :: xs, _, _, _, e => by simp [ints?] at e
  | .list _ :: xs, _, _, _, e => by simp [ints?] at e
  | .tuple _ :: xs, _, _, _, e => by simp [ints?] at e
  | .dict _ :: xs, _, _, _, e => by simp [ints?] at e
theorem DqAll.bools {F : Hp} : ∀ {xs : List PyData} {is : List Bool} {vs : List V}, DqAll F vs xs → bools? xs = some is → vs = is.map V.bl
  | [], is, _, .nil, e => by
    have e' : [] = is := Option.some.inj e
    rw [← e']; rfl
  | .bool i :: xs, is, _, .cons h t, e => by
    cases h
    cases q : bools? xs with
    | none => simp [bools?, q] at e
    | some js =>
      simp [bools?, q] at e
      subst e
      rw [DqAll.bools t q]; rfl
  | .none :: xs, _, _, _, e => by simp [bools?] at e
  | .int _ :: xs, _, _, _, e => by simp [bools?] at e
  | .str _ :: xs, _, _, _, e => by simp [bools?] at e
  | .list _ :: xs, _, _, _, e => by simp [bools?] at e
  | .tuple _ :: xs, _, _, _, e => by simp [bools?] at e
  | .dict _ :: xs, _, _, _, e => by simp [bools?] at e

/-! ### trees -/
variable (K)
mutual
inductive RpM (F G : Hp) : V → M → List Addr → Prop
  | d {v : V} {x : PyData} : Dq F v x → RpM F G v (.d x) []
  | ls {a : Addr} {vs : List V} {ms : List M} {fp : List Addr} : G a = some (.lst vs) → RpMs F G vs ms fp → RpM F G (.ref a) (.ls ms) (a :: fp)
  | sq {a : Addr} {vs : List V} {ds : List PyData} : SqL K F a vs → DqAll F vs ds → RpM F G (.ref a) (.sq ds) []
inductive RpMs (F G : Hp) : List V → List M → List Addr → Prop
  | nil : RpMs F G [] [] []
  | cons {v : V} {vs : List V} {m : M} {ms : List M} {p q : List Addr} : RpM F G v m p → RpMs F G vs ms q → RpMs F G (v :: vs) (m :: ms) (p ++ q)
end
variable {K}
mutual
theorem RpM.mono {F F' G G' : Hp} (s : Same F F') : ∀ {v : V} {m : M} {fp : List Addr}, RpM K F G v m fp → (∀ a ∈ fp, ∀ o, G a = some o → G' a = some o) → RpM K F' G' v m fp
  | _, _, _, .d h, _ => .d (Dq.mono s h)
  | _, _, _, .sq h t, _ => .sq (s.seq h) (DqAll.mono s t)
  | _, _, _, .ls h t, k => .ls (k _ List.mem_cons_self _ h) (RpMs.mono s t fun a ha => k a (List.mem_cons_of_mem _ ha))
theorem RpMs.mono {F F' G G' : Hp} (s : Same F F') : ∀ {vs : List V} {ms : List M} {fp : List Addr}, RpMs K F G vs ms fp → (∀ a ∈ fp, ∀ o, G a = some o → G' a = some o) → RpMs K F' G' vs ms fp
  | _, _, _, .nil, _ => .nil
  | _, _, _, .cons h t, k => .cons (RpM.mono s h fun a ha => k a (List.mem_append_left _ ha)) (RpMs.mono s t fun a ha => k a (List.mem_append_right _ ha))
end
mutual
theorem RpM.trk {F G : Hp} : ∀ {v : V} {m : M} {fp : List Addr}, RpM K F G v m fp → ∀ a ∈ fp, ∃ o, G a = some o
  | _, _, _, .d _, a, ha => absurd ha (by simp)
  | _, _, _, .sq _ _, a, ha => absurd ha (by simp)
  | _, _, _, .ls h t, a, ha => by
    rcases List.mem_cons.mp ha with e | ha
    · subst e; exact ⟨_, h⟩
    · exact RpMs.trk t a ha
theorem RpMs.trk {F G : Hp} : ∀ {vs : List V} {ms : List M} {fp : List Addr}, RpMs K F G vs ms fp → ∀ a ∈ fp, ∃ o, G a = some o
  | _, _, _, .nil, a, ha => absurd ha (by simp)
  | _, _, _, .cons h t, a, ha => by
    rcases List.mem_append.mp ha with ha | ha
    · exact RpM.trk h a ha
    · exact RpMs.trk t a ha
end
theorem Same.ext {F G : Hp} (s : Same F G) {fp : List Addr} : ∀ a ∈ fp, ∀ o, F a = some o → G a = some o := fun a _ o e => s a o e
mutual
/-- a tree of plain data is plain data of the heap -/
theorem RpM.dp {F G : Hp} (s : Same F G) : ∀ {m : M} {v : V} {fp : List Addr} {x : PyData}, RpM K F G v m fp → m.data = some x → Dq G v x
  | .d y, _, _, x, .d h, e => by
    have e' : y = x := Option.some.inj e
    subst e'
    exact Dq.mono s h
  | .ls ms, _, _, x, .ls h t, e => by
    cases q : M.datas ms with
    | none => simp [M.data, q] at e
    | some ds =>
      simp [M.data, q] at e
      subst e
      exact .lst h (RpMs.dp s t q)
theorem RpMs.dp {F G : Hp} (s : Same F G) : ∀ {ms : List M} {vs : List V} {fp : List Addr} {xs : List PyData}, RpMs K F G vs ms fp → M.datas ms = some xs → DqAll G vs xs
  | [], _, _, xs, .nil, e => by
    have e' : [] = xs := Option.some.inj e
    subst e'
    exact .nil
  | m :: ms, _, _, xs, .cons h t, e => by
    cases q : M.data m with
    | none => simp [M.datas, q] at e
    | some y =>
      cases q2 : M.datas ms with
      | none => simp [M.datas, q, q2] at e
      | some ys =>
        simp [M.datas, q, q2] at e
        subst e
        exact .cons (RpM.dp s h q) (RpMs.dp s t q2)
end
theorem RpMs.length {F G : Hp} : ∀ {vs : List V} {ms : List M} {fp : List Addr}, RpMs K F G vs ms fp → vs.length = ms.length
  | _, _, _, .nil => rfl
  | _, _, _, .cons _ t => congrArg (· + 1) (RpMs.length t)
theorem RpMs.app {F G : Hp} : ∀ {vs ws : List V} {ms ns : List M} {p q : List Addr}, RpMs K F G vs ms p → RpMs K F G ws ns q → RpMs K F G (vs ++ ws) (ms ++ ns) (p ++ q)
  | _, _, _, _, _, _, .nil, b => b
  | _, _, _, _, _, _, .cons h t, b => by
    rw [List.append_assoc]
    exact .cons h (RpMs.app t b)
theorem RpMs.of_data {F G : Hp} : ∀ {vs : List V} {ds : List PyData}, DqAll F vs ds → RpMs K F G vs (ds.map .d) []
  | _, _, .nil => .nil
  | _, _, .cons h t => RpMs.cons (p := []) (.d h) (RpMs.of_data t)
/-- one item, the others on both sides; another one in its place -/
theorem RpMs.split {F G : Hp} : ∀ {ms : List M} {vs : List V} {fp : List Addr} {j : Nat} {m : M}, RpMs K F G vs ms fp → ms[j]? = some m →
    ∃ v p l1 l2, vs[j]? = some v ∧ RpM K F G v m p ∧ fp = l1 ++ (p ++ l2) ∧
      ∀ (F' G' : Hp) (v' : V) (m' : M) (p' : List Addr), Same F F' → (∀ a ∈ l1 ++ l2, ∀ o, G a = some o → G' a = some o) → RpM K F' G' v' m' p' → RpMs K F' G' (vs.set j v') (ms.set j m') (l1 ++ (p' ++ l2))
  | [], _, _, _, _, _, e => by simp at e
  | m0 :: ms, _, _, 0, m, .cons (p := p) (q := q) h t, e => by
    have e' : m0 = m := Option.some.inj e
    subst e'
    exact ⟨_, p, [], q, rfl, h, rfl, fun F' G' v' m' p' s k h' => RpMs.cons (p := p') h' (t.mono s k)⟩
  | m0 :: ms, _, _, j + 1, m, .cons (p := p) (q := q) h t, e => by
    obtain ⟨v, p2, l1, l2, e1, e2, e3, e4⟩ := RpMs.split (j := j) t e
    refine ⟨v, p2, p ++ l1, l2, e1, e2, by rw [e3, List.append_assoc], fun F' G' v' m' p' s k h' => ?_⟩
    rw [List.append_assoc]
    exact .cons (h.mono s fun a ha => k a (by simp [ha])) (e4 F' G' v' m' p' s (fun a ha => k a (by rw [List.append_assoc]; exact List.mem_append_right _ ha)) h')
theorem RpMs.drop1 {F G : Hp} : ∀ {ms : List M} {vs : List V} {fp : List Addr} {j : Nat} {m : M}, RpMs K F G vs ms fp → ms[j]? = some m →
    ∃ v p l1 l2, vs[j]? = some v ∧ RpM K F G v m p ∧ fp = l1 ++ (p ++ l2) ∧ RpMs K F G (vs.eraseIdx j) (ms.eraseIdx j) (l1 ++ l2)
  | [], _, _, _, _, _, e => by simp at e
  | m0 :: ms, _, _, 0, m, .cons (p := p) (q := q) h t, e => by
    have e' : m0 = m := Option.some.inj e
    subst e'
    exact ⟨_, p, [], q, rfl, h, rfl, t⟩
  | m0 :: ms, _, _, j + 1, m, .cons (p := p) (q := q) h t, e => by
    obtain ⟨v, p2, l1, l2, e1, e2, e3, e4⟩ := RpMs.drop1 (j := j) t e
    refine ⟨v, p2, p ++ l1, l2, e1, e2, by rw [e3, List.append_assoc], ?_⟩
    rw [List.append_assoc]
    exact .cons h e4

/-! ### values -/
variable (K)
/-- p: what the value owns -/
def RpR (F H : Hp) (v : V) : R → List Addr → Prop
  | .no, _ => False
  | .d x, p => Dq F v x ∧ p = []
  | .ow m, p => RpM K F H v m p
  | .fr m, p => (∃ q, RpM K F F v m q) ∧ p = []
  | .bo m, p => (∃ q, RpM K F H v m q) ∧ p = []
inductive RpE (F H : Hp) : L2.St → Env → List Addr → Prop
  | nil : RpE F H [] [] []
  | no {o : Option V} {σ : L2.St} {ρ : Env} {q : List Addr} : RpE F H σ ρ q → RpE F H (o :: σ) (.no :: ρ) q
  | sm {v : V} {r : R} {σ : L2.St} {ρ : Env} {p q : List Addr} : RpR K F H v r p → r.isOk = true → RpE F H σ ρ q → RpE F H (some v :: σ) (r :: ρ) (p ++ q)
inductive RpRs (F H : Hp) : List V → List R → List Addr → Prop
  | nil : RpRs F H [] [] []
  | cons {v : V} {vs : List V} {r : R} {rs : List R} {p q : List Addr} : RpR K F H v r p → RpRs F H vs rs q → RpRs F H (v :: vs) (r :: rs) (p ++ q)
variable {K}
theorem RpR.mono {F F' H H' : Hp} {v : V} {r : R} {p : List Addr} (s : Same F F') (h : RpR K F H v r p) (k : ∀ a ∈ p, ∀ o, H a = some o → H' a = some o) (b : r.isBo = true → Same H H') : RpR K F' H' v r p := by
  cases r with
  | no => exact h
  | d x => exact ⟨Dq.mono s h.1, h.2⟩
  | ow m => exact RpM.mono s h k
  | fr m =>
    obtain ⟨⟨q, z⟩, e⟩ := h
    exact ⟨⟨q, z.mono s (Same.ext s)⟩, e⟩
  | bo m =>
    obtain ⟨⟨q, z⟩, e⟩ := h
    exact ⟨⟨q, z.mono s (Same.ext (b rfl))⟩, e⟩
theorem RpR.trk {F H : Hp} {v : V} {r : R} {p : List Addr} (h : RpR K F H v r p) : ∀ a ∈ p, ∃ o, H a = some o := by
  cases r with
  | no => exact h.elim
  | d x => rw [h.2]; intro a ha; exact absurd ha (by simp)
  | ow m => exact RpM.trk h
  | fr m => rw [h.2]; intro a ha; exact absurd ha (by simp)
  | bo m => rw [h.2]; intro a ha; exact absurd ha (by simp)
/-- in any case: a tree at H -/
theorem RpR.tree {F H : Hp} {v : V} {r : R} {p : List Addr} (s : Same F H) (h : RpR K F H v r p) : ∃ q, RpM K F H v r.toM q := by
  cases r with
  | no => exact h.elim
  | d x => exact ⟨[], .d h.1⟩
  | ow m => exact ⟨p, h⟩
  | fr m =>
    obtain ⟨⟨q, z⟩, _⟩ := h
    exact ⟨q, z.mono (Same.refl F) (Same.ext s)⟩
  | bo m => exact h.1
theorem RpR.ownt {F H : Hp} {v : V} {r : R} {p : List Addr} (h : RpR K F H v r p) (o : r.isOw = true) : RpM K F H v r.toM p := by
  cases r with
  | no => exact h.elim
  | d x =>
    rw [h.2]
    exact .d h.1
  | ow m => exact h
  | fr m => cases o
  | bo m => cases o
theorem RpR.dp {F H : Hp} {v : V} {r : R} {p : List Addr} {x : PyData} (s : Same F H) (h : RpR K F H v r p) (e : r.data = some x) : Dq H v x := by
  cases r with
  | no => exact h.elim
  | d y =>
    have e' : y = x := Option.some.inj e
    subst e'
    exact Dq.mono s h.1
  | ow m => exact RpM.dp s h e
  | fr m =>
    obtain ⟨⟨q, z⟩, _⟩ := h
    exact Dq.mono s (z.dp (Same.refl F) e)
  | bo m =>
    obtain ⟨⟨q, z⟩, _⟩ := h
    exact z.dp s e
theorem dsOf_dp {F G : Hp} : ∀ {ms : List M} {ds : List PyData}, dsOf ms = some ds → ∀ {vs : List V} {q : List Addr}, RpMs K F G vs ms q → DqAll F vs ds
  | [], ds, e, _, _, .nil => by
    have e' : [] = ds := Option.some.inj e
    subst e'
    exact .nil
  | .d x :: ms, ds, e, _, _, .cons h t => by
    cases q2 : dsOf ms with
    | none => simp [dsOf, q2] at e
    | some ys =>
      simp [dsOf, q2] at e
      subst e
      cases h with
      | d h => exact .cons h (dsOf_dp q2 t)
  | .ls _ :: _, _, e, _, _, _ => by simp [dsOf] at e
  | .sq _ :: _, _, e, _, _, _ => by simp [dsOf] at e
  | .dk _ :: _, _, e, _, _, _ => by simp [dsOf] at e
  | .dt _ :: _, _, e, _, _, _ => by simp [dsOf] at e
/-- a list or a tuple of plain items, as it stands -/
theorem RpR.leafs {F H : Hp} {v : V} {r : R} {p : List Addr} {b : Bool} {ds : List PyData} (s : Same F H) (h : RpR K F H v r p) (e : r.leafs = some (b, ds)) :
    ∃ a vs, v = .ref a ∧ DqAll F vs ds ∧ ((b = true ∧ H a = some (.lst vs)) ∨ (b = false ∧ H a = some (.tup vs))) := by
  have go : ∀ {m : M} {q : List Addr}, RpM K F H v m q → (∃ ms, m = .ls ms ∧ (dsOf ms).map (fun ds => (true, ds)) = some (b, ds)) → ∃ a vs, v = .ref a ∧ DqAll F vs ds ∧ ((b = true ∧ H a = some (.lst vs)) ∨ (b = false ∧ H a = some (.tup vs))) := by
    rintro m q z ⟨ms, rfl, e⟩
    cases z with
    | ls ha ht =>
      cases q2 : dsOf ms with
      | none => simp [q2] at e
      | some ys =>
        simp [q2] at e
        obtain ⟨rfl, rfl⟩ := e
        exact ⟨_, _, rfl, dsOf_dp q2 ht, .inl ⟨rfl, ha⟩⟩
  cases r with
  | no => exact h.elim
  | d x =>
    obtain ⟨h, _⟩ := h
    cases x with
    | list xs =>
      simp [R.leafs] at e
      obtain ⟨rfl, rfl⟩ := e
      cases h with
      | lst h1 h2 => exact ⟨_, _, rfl, h2, .inl ⟨rfl, s _ _ h1⟩⟩
    | tuple xs =>
      simp [R.leafs] at e
      obtain ⟨rfl, rfl⟩ := e
      cases h with
      | tup h1 h2 => exact ⟨_, _, rfl, h2, .inr ⟨rfl, s _ _ h1⟩⟩
    | _ => simp [R.leafs] at e
  | ow m =>
    cases m with
    | ls ms => exact go (show RpM K F H v (.ls ms) p from h) ⟨ms, rfl, e⟩
    | _ => simp [R.leafs] at e
  | fr m =>
    obtain ⟨⟨q, z⟩, _⟩ := h
    cases m with
    | ls ms => exact go (z.mono (Same.refl F) (Same.ext s)) ⟨ms, rfl, e⟩
    | _ => simp [R.leafs] at e
  | bo m =>
    obtain ⟨⟨q, z⟩, _⟩ := h
    cases m with
    | ls ms => exact go z ⟨ms, rfl, e⟩
    | _ => simp [R.leafs] at e
/-- .. to be read -/
theorem RpR.reads {F H : Hp} {v : V} {r : R} {p : List Addr} {b : Bool} {ds : List PyData} (s : Same F H) (h : RpR K F H v r p) (e : r.reads = some (b, ds)) :
    ∃ a vs, v = .ref a ∧ DqAll F vs ds ∧ ((b = true ∧ SqL K H a vs) ∨ (b = false ∧ SqT K H a vs)) := by
  have base : r.leafs = some (b, ds) → ∃ a vs, v = .ref a ∧ DqAll F vs ds ∧ ((b = true ∧ SqL K H a vs) ∨ (b = false ∧ SqT K H a vs)) := fun e => by
    obtain ⟨a, vs, e1, e2, e3⟩ := h.leafs s e
    exact ⟨a, vs, e1, e2, e3.imp (fun z => ⟨z.1, SqL.of z.2⟩) fun z => ⟨z.1, SqT.of z.2⟩⟩
  cases r with
  | fr m =>
    cases m with
    | sq xs =>
      obtain ⟨⟨q, z⟩, _⟩ := h
      simp [R.reads] at e
      obtain ⟨rfl, rfl⟩ := e
      cases z with
      | sq h1 h2 => exact ⟨_, _, rfl, h2, .inl ⟨rfl, s.seq h1⟩⟩
    | _ => exact base e
  | _ => exact base e
end
end Ev
end
section
set_option Elab.async false
set_option linter.all false
set_option maxHeartbeats 1000000
/-! The state that the plain functions speak of, and what one step leaves. -/
namespace Ev
open PySem PySem.Spec PyProof.Rows L2
section
variable {K : PySem.W.Frag}
theorem RpE.length {F H : Hp} : ∀ {σ : L2.St} {ρ : Env} {fp : List Addr}, RpE K F H σ ρ fp → σ.length = ρ.length
  | _, _, _, .nil => rfl
  | _, _, _, .no t => congrArg (· + 1) t.length
  | _, _, _, .sm _ _ t => congrArg (· + 1) t.length
theorem RpE.trk {F H : Hp} : ∀ {σ : L2.St} {ρ : Env} {fp : List Addr}, RpE K F H σ ρ fp → ∀ a ∈ fp, ∃ o, H a = some o
  | _, _, _, .nil, a, ha => absurd ha (by simp)
  | _, _, _, .no t, a, ha => t.trk a ha
  | _, _, _, .sm h _ t, a, ha => by
    rcases List.mem_append.mp ha with ha | ha
    · exact h.trk a ha
    · exact t.trk a ha
theorem RpR.monoS {F F' H H' : Hp} {v : V} {r : R} {p : List Addr} (s : Same F F') (h : RpR K F H v r p) (ok : r.isOk = true) (k : ∀ a ∈ p, ∀ o, H a = some o → H' a = some o) : RpR K F' H' v r p :=
  h.mono s k fun b => by cases r <;> first | (cases b; done) | (cases ok; done)
theorem RpE.mono {F F' H H' : Hp} (s : Same F F') : ∀ {σ : L2.St} {ρ : Env} {fp : List Addr}, RpE K F H σ ρ fp → (∀ a ∈ fp, ∀ o, H a = some o → H' a = some o) → RpE K F' H' σ ρ fp
  | _, _, _, .nil, _ => .nil
  | _, _, _, .no t, k => .no (t.mono s k)
  | _, _, _, .sm h ok t, k => .sm (h.monoS s ok fun a ha => k a (List.mem_append_left _ ha)) ok (t.mono s fun a ha => k a (List.mem_append_right _ ha))
theorem at_cons0 (r : R) (ρ : Env) : Env.at_ (r :: ρ) 0 = r := rfl
theorem at_cons1 (r : R) (ρ : Env) (i : Nat) : Env.at_ (r :: ρ) (i + 1) = Env.at_ ρ i := rfl
/-- what a slot holds, the others on both sides -/
theorem RpE.split {F H : Hp} : ∀ {ρ : Env} {σ : L2.St} {fp : List Addr} (i : Nat), RpE K F H σ ρ fp → ρ.at_ i ≠ .no →
    ∃ v p l1 l2, σ[i]? = some (some v) ∧ RpR K F H v (ρ.at_ i) p ∧ (ρ.at_ i).isOk = true ∧ fp = l1 ++ (p ++ l2) ∧
      (∀ (F' H' : Hp) (r' : R) (p' : List Addr), Same F F' → (∀ a ∈ l1 ++ l2, ∀ o, H a = some o → H' a = some o) → RpR K F' H' v r' p' → r'.isOk = true → RpE K F' H' σ (ρ.set i r') (l1 ++ (p' ++ l2))) ∧
      RpE K F H σ (ρ.set i .no) (l1 ++ l2)
  | [], _, _, i, _, n => (n (by simp [Env.at_])).elim
  | _ :: ρ, _, _, 0, .no t, n => absurd rfl n
  | r :: ρ, _, _, 0, .sm (v := v) (p := p) (q := q) h ok t, n =>
    ⟨v, p, [], q, rfl, h, ok, rfl, fun F' H' r' p' s k h' ok' => RpE.sm (p := p') h' ok' (t.mono s k), .no t⟩
  | _ :: ρ, _, _, i + 1, .no (o := o) t, n => by
    obtain ⟨v, p, l1, l2, e1, e2, e3, e4, e5, e6⟩ := RpE.split i t n
    exact ⟨v, p, l1, l2, e1, e2, e3, e4, fun F' H' r' p' s k h' ok' => .no (e5 F' H' r' p' s k h' ok'), .no e6⟩
  | r :: ρ, _, _, i + 1, .sm (v := v0) (p := p0) (q := q) h ok t, n => by
    obtain ⟨v, p, l1, l2, e1, e2, e3, e4, e5, e6⟩ := RpE.split i t n
    refine ⟨v, p, p0 ++ l1, l2, e1, e2, e3, by rw [e4, List.append_assoc], fun F' H' r' p' s k h' ok' => ?_, ?_⟩
    · rw [List.append_assoc]
      exact .sm (h.monoS s ok fun a ha => k a (by simp [ha])) ok (e5 F' H' r' p' s (fun a ha => k a (by rw [List.append_assoc]; exact List.mem_append_right _ ha)) h' ok')
    · rw [List.append_assoc]
      exact .sm h ok e6
/-- a slot is stored -/
theorem RpE.put {F H : Hp} : ∀ {ρ : Env} {σ : L2.St} {fp : List Addr} (i : Nat) {v : V} {r : R} {p : List Addr}, RpE K F H σ ρ fp → RpR K F H v r p → r.isOk = true → i < ρ.length →
    ∃ l1 p0 l2, fp = l1 ++ (p0 ++ l2) ∧ RpE K F H (σ.set i (some v)) (ρ.set i r) (l1 ++ (p ++ l2))
  | [], _, _, i, _, _, _, _, _, _, n => absurd n (by simp)
  | _ :: ρ, _, _, 0, v, r', p, .no (q := q) t, h, ok, _ => ⟨[], [], q, rfl, RpE.sm (p := p) h ok t⟩
  | r :: ρ, _, _, 0, v, r', p, .sm (p := p0) (q := q) _ _ t, h, ok, _ => ⟨[], p0, q, rfl, RpE.sm (p := p) h ok t⟩
  | _ :: ρ, _, _, i + 1, v, r', p, .no t, h, ok, n => by
    obtain ⟨l1, p0, l2, e, z⟩ := RpE.put i t h ok (Nat.lt_of_succ_lt_succ n)
    exact ⟨l1, p0, l2, e, .no z⟩
  | r :: ρ, _, _, i + 1, v, r', p, .sm (p := p1) (q := q) h1 ok1 t, h, ok, n => by
    obtain ⟨l1, p0, l2, e, z⟩ := RpE.put i t h ok (Nat.lt_of_succ_lt_succ n)
    refine ⟨p1 ++ l1, p0, l2, by rw [e, List.append_assoc], ?_⟩
    rw [List.append_assoc]
    exact .sm h1 ok1 z
/-- a slot is forgotten, whatever it holds -/
theorem RpE.drop {F H : Hp} : ∀ {ρ : Env} {σ : L2.St} {fp : List Addr} (i : Nat) (o : Option V), RpE K F H σ ρ fp → ∃ l1 p0 l2, fp = l1 ++ (p0 ++ l2) ∧ RpE K F H (σ.set i o) (ρ.set i .no) (l1 ++ l2)
  | _, _, _, i, o, .nil => ⟨[], [], [], rfl, by simpa using RpE.nil⟩
  | _, _, _, 0, o, .no (q := q) t => ⟨[], [], q, rfl, .no t⟩
  | _, _, _, 0, o, .sm (p := p) (q := q) _ _ t => ⟨[], p, q, rfl, .no t⟩
  | _, _, _, i + 1, o, .no t => by
    obtain ⟨l1, p0, l2, e, z⟩ := RpE.drop i o t
    exact ⟨l1, p0, l2, e, .no z⟩
  | _, _, _, i + 1, o, .sm (p := p1) h1 ok1 t => by
    obtain ⟨l1, p0, l2, e, z⟩ := RpE.drop i o t
    refine ⟨p1 ++ l1, p0, l2, by rw [e, List.append_assoc], ?_⟩
    rw [List.append_assoc]
    exact .sm h1 ok1 z
theorem RpRs.length {F H : Hp} : ∀ {vs : List V} {rs : List R} {p : List Addr}, RpRs K F H vs rs p → vs.length = rs.length
  | _, _, _, .nil => rfl
  | _, _, _, .cons _ t => congrArg (· + 1) t.length
theorem RpRs.trk {F H : Hp} : ∀ {vs : List V} {rs : List R} {p : List Addr}, RpRs K F H vs rs p → ∀ a ∈ p, ∃ o, H a = some o
  | _, _, _, .nil, a, ha => absurd ha (by simp)
  | _, _, _, .cons h t, a, ha => by
    rcases List.mem_append.mp ha with ha | ha
    · exact h.trk a ha
    · exact t.trk a ha

/-! ### states, steps -/
variable (K)
structure Rel (F H : Hp) (σ : L2.St) (ρ : Env) (fp : List Addr) : Prop where
  sub : Same F H
  env : RpE K F H σ ρ fp
  nd : fp.Nodup
  dis : ∀ a ∈ fp, F a = none
variable {K}
structure Stp (F H : Hp) (fp : List Addr) (F' H' : Hp) (fp' : List Addr) : Prop where
  keep : ∀ a o, H a = some o → a ∉ fp → H' a = some o
  sub : Same F F'
  new : ∀ a o, F' a = some o → F a = none → a ∈ fp ∨ H a = none
  fpn : ∀ a ∈ fp', a ∈ fp ∨ H a = none
theorem Stp.refl (F H : Hp) (fp : List Addr) : Stp F H fp F H fp := ⟨fun _ _ h _ => h, Same.refl F, fun a o h n => (by rw [n] at h; cases h), fun _ h => .inl h⟩
theorem Stp.trans {F H F1 H1 F2 H2 : Hp} {fp fp1 fp2 : List Addr} (a : Stp F H fp F1 H1 fp1) (b : Stp F1 H1 fp1 F2 H2 fp2) : Stp F H fp F2 H2 fp2 := by
  have back : ∀ x, x ∈ fp1 ∨ H1 x = none → x ∈ fp ∨ H x = none := fun x h => by
    rcases h with h | h
    · exact a.fpn x h
    · by_cases m : x ∈ fp
      · exact .inl m
      · cases q : H x with
        | none => exact .inr rfl
        | some o => rw [a.keep x o q m] at h; cases h
  refine ⟨fun x o h n => ?_, a.sub.trans b.sub, fun x o h n => ?_, fun x h => back x (b.fpn x h)⟩
  · have h1 := a.keep x o h n
    by_cases m : x ∈ fp1
    · rcases a.fpn x m with z | z
      · exact absurd z n
      · rw [h] at z; cases z
    · exact b.keep x o h1 m
  · cases q : F1 x with
    | some u => exact a.new x u q n
    | none => exact back x (b.new x o h q)
theorem Stp.less {F H F1 H1 : Hp} {fp fp1 fp2 : List Addr} (a : Stp F H fp F1 H1 fp1) (h : ∀ x ∈ fp2, x ∈ fp1) : Stp F H fp F1 H1 fp2 := ⟨a.keep, a.sub, a.new, fun x m => a.fpn x (h x m)⟩
/-- a wider foot at the start, that is tracked -/
theorem Stp.more {F H F1 H1 : Hp} {fp fp1 g : List Addr} (a : Stp F H fp F1 H1 fp1) (h : ∀ x ∈ fp, x ∈ g) : Stp F H g F1 H1 fp1 :=
  ⟨fun x o e n => a.keep x o e fun m => n (h x m), a.sub, fun x o e n => (a.new x o e n).imp (h x) id, fun x m => (a.fpn x m).imp (h x) id⟩
variable (K)
/-- behind an expression -/
structure Aft (F H : Hp) (fp : List Addr) (σ : L2.St) (q : Bool) (r : R) (ρ' : Env) (v : V) (F' H' : Hp) (p fp' : List Addr) : Prop where
  rel : Rel K F' H' σ ρ' fp'
  rep : RpR K F' H' v r p
  nd : (p ++ fp').Nodup
  dis : ∀ a ∈ p, F' a = none
  stp : Stp F H fp F' H' (p ++ fp')
  qt : q = true → Same H H' ∧ ∀ a ∈ p, H a = none
/-- behind several -/
structure Afs (F H : Hp) (fp : List Addr) (σ : L2.St) (q : Bool) (rs : List R) (ρ' : Env) (vs : List V) (F' H' : Hp) (p fp' : List Addr) : Prop where
  rel : Rel K F' H' σ ρ' fp'
  rep : RpRs K F' H' vs rs p
  nd : (p ++ fp').Nodup
  dis : ∀ a ∈ p, F' a = none
  stp : Stp F H fp F' H' (p ++ fp')
  qt : q = true → Same H H' ∧ ∀ a ∈ p, H a = none
variable {K}
theorem Afs.nil {F H : Hp} {fp : List Addr} {σ : L2.St} {ρ : Env} (h : Rel K F H σ ρ fp) (q : Bool) : Afs K F H fp σ q [] ρ [] F H [] fp :=
  ⟨h, .nil, h.nd, fun a m => absurd m (by simp), Stp.refl F H fp, fun _ => ⟨Same.refl H, fun a m => absurd m (by simp)⟩⟩
theorem Aft.cons {F H F1 H1 F2 H2 : Hp} {fp fp1 fp2 p1 p2 : List Addr} {σ : L2.St} {q1 q2 : Bool} {r : R} {rs : List R} {ρ1 ρ2 : Env} {v : V} {vs : List V} (a : Aft K F H fp σ q1 r ρ1 v F1 H1 p1 fp1)
    (b : Afs K F1 H1 fp1 σ q2 rs ρ2 vs F2 H2 p2 fp2) (hq : (r.isBo && !q2) = false) : Afs K F H fp σ (q1 && q2) (r :: rs) ρ2 (v :: vs) F2 H2 (p1 ++ p2) fp2 := by
  have nd1 := List.nodup_append.mp a.nd
  have trk := a.rep.trk
  -- nothing of p1 is met
  have far : ∀ x ∈ p1, ∀ y ∈ p2 ++ fp2, x ≠ y := fun x hx y hy e => by
    subst e
    rcases b.stp.fpn x hy with z | z
    · exact nd1.2.2 x hx x z rfl
    · obtain ⟨o, ho⟩ := trk x hx
      rw [ho] at z; cases z
  have kept : ∀ x ∈ p1, ∀ o, H1 x = some o → H2 x = some o := fun x hx o ho => b.stp.keep x o ho fun m => nd1.2.2 x hx x m rfl
  refine ⟨b.rel, .cons (a.rep.mono b.stp.sub kept fun hb => ?_) b.rep, ?_, fun x hx => ?_, ?_, fun hh => ?_⟩
  · rw [hb] at hq
    exact (b.qt (by simpa using hq)).1
  · rw [List.append_assoc]
    exact List.nodup_append.mpr ⟨nd1.1, b.nd, far⟩
  · rcases List.mem_append.mp hx with hx | hx
    · cases q : F2 x with
      | none => rfl
      | some o =>
        rcases b.stp.new x o q (a.dis x hx) with z | z
        · exact absurd rfl (nd1.2.2 x hx x z)
        · obtain ⟨u, hu⟩ := trk x hx
          rw [hu] at z; cases z
    · exact b.dis x hx
  · refine ⟨fun x o h n => ?_, a.stp.sub.trans b.stp.sub, fun x o h n => ?_, fun x hx => ?_⟩
    · exact ((a.stp.less fun x m => List.mem_append_right _ m).trans b.stp).keep x o h n
    · exact ((a.stp.less fun x m => List.mem_append_right _ m).trans b.stp).new x o h n
    · rw [List.append_assoc] at hx
      rcases List.mem_append.mp hx with hx | hx
      · exact a.stp.fpn x (List.mem_append_left _ hx)
      · exact ((a.stp.less fun x m => List.mem_append_right _ m).trans b.stp).fpn x hx
  · rw [Bool.and_eq_true] at hh
    obtain ⟨s1, n1⟩ := a.qt hh.1
    obtain ⟨s2, n2⟩ := b.qt hh.2
    refine ⟨s1.trans s2, fun x hx => ?_⟩
    rcases List.mem_append.mp hx with hx | hx
    · exact n1 x hx
    · exact s1.free (n2 x hx)
theorem Aft.one {F H F1 H1 : Hp} {fp fp1 p1 : List Addr} {σ : L2.St} {q1 : Bool} {r : R} {ρ1 : Env} {v : V} (a : Aft K F H fp σ q1 r ρ1 v F1 H1 p1 fp1) : Afs K F H fp σ q1 [r] ρ1 [v] F1 H1 p1 fp1 := by
  have z := a.cons (Afs.nil a.rel true) (by simp)
  simpa using z
/-- a value made of values: nothing that stood is changed, what is frozen newly was theirs or is new -/
structure Mkd (K : PySem.W.Frag) (F H : Hp) (p : List Addr) (r : R) (v : V) (F' H' : Hp) (p' : List Addr) : Prop where
  same : Same H H'
  sub : Same F F'
  in_ : Same F' H'
  new : ∀ a o, F' a = some o → F a = none → a ∈ p ∨ H a = none
  fpn : ∀ a ∈ p', (a ∈ p ∨ H a = none) ∧ F' a = none
  nd : p'.Nodup
  rep : RpR K F' H' v r p'
theorem Afs.made {F H F1 H1 F2 H2 : Hp} {fp fp1 p1 p2 : List Addr} {σ : L2.St} {q : Bool} {rs : List R} {ρ1 : Env} {vs : List V} {r : R} {v : V} (a : Afs K F H fp σ q rs ρ1 vs F1 H1 p1 fp1)
    (m : Mkd K F1 H1 p1 r v F2 H2 p2) : Aft K F H fp σ q r ρ1 v F2 H2 p2 fp1 := by
  have nd1 := List.nodup_append.mp a.nd
  have trk := a.rel.env.trk
  have far : ∀ x ∈ p2, ∀ y ∈ fp1, x ≠ y := fun x hx y hy e => by
    subst e
    rcases (m.fpn x hx).1 with z | z
    · exact nd1.2.2 x z x hy rfl
    · obtain ⟨o, ho⟩ := trk x hy
      rw [ho] at z; cases z
  have back : ∀ x, x ∈ p1 ∨ H1 x = none → x ∈ fp ∨ H x = none := fun x h => by
    rcases h with h | h
    · exact a.stp.fpn x (List.mem_append_left _ h)
    · by_cases k : x ∈ fp
      · exact .inl k
      · cases e : H x with
        | none => exact .inr rfl
        | some o => rw [a.stp.keep x o e k] at h; cases h
  refine ⟨⟨m.in_, a.rel.env.mono m.sub fun x _ o ho => m.same x o ho, a.rel.nd, fun x hx => ?_⟩, m.rep, List.nodup_append.mpr ⟨m.nd, a.rel.nd, far⟩, fun x hx => (m.fpn x hx).2, ⟨fun x o h n => m.same x o (a.stp.keep x o h n), a.stp.sub.trans m.sub, fun x o h n => ?_, fun x hx => ?_⟩, fun hh => ?_⟩
  · cases e : F2 x with
    | none => rfl
    | some o =>
      rcases m.new x o e (a.rel.dis x hx) with z | z
      · exact absurd rfl (nd1.2.2 x z x hx)
      · obtain ⟨u, hu⟩ := trk x hx
        rw [hu] at z; cases z
  · cases e : F1 x with
    | some u => exact a.stp.new x u e n
    | none => exact back x (m.new x o h e)
  · rcases List.mem_append.mp hx with hx | hx
    · exact back x (m.fpn x hx).1
    · exact a.stp.fpn x (List.mem_append_right _ hx)
  · obtain ⟨s1, n1⟩ := a.qt hh
    refine ⟨s1.trans m.same, fun x hx => ?_⟩
    rcases (m.fpn x hx).1 with z | z
    · exact n1 x z
    · exact s1.free z
theorem Mkd.plain {F H : Hp} {p : List Addr} {x : PyData} {v : V} (s : Same F H) (h : Dq F v x) : Mkd K F H p (.d x) v F H [] :=
  ⟨Same.refl H, Same.refl F, s, fun a o h n => (by rw [n] at h; cases h), fun a m => absurd m (by simp), List.nodup_nil, ⟨h, rfl⟩⟩
theorem Mkd.bo {F H : Hp} {p q : List Addr} {m : M} {v : V} (s : Same F H) (h : RpM K F H v m q) : Mkd K F H p (.bo m) v F H [] :=
  ⟨Same.refl H, Same.refl F, s, fun a o h n => (by rw [n] at h; cases h), fun a m => absurd m (by simp), List.nodup_nil, ⟨⟨q, h⟩, rfl⟩⟩
theorem Mkd.fr {F H : Hp} {p q : List Addr} {m : M} {v : V} (s : Same F H) (h : RpM K F F v m q) : Mkd K F H p (.fr m) v F H [] :=
  ⟨Same.refl H, Same.refl F, s, fun a o h n => (by rw [n] at h; cases h), fun a m => absurd m (by simp), List.nodup_nil, ⟨⟨q, h⟩, rfl⟩⟩
theorem same_upd {H : Hp} {p : Addr} {o : HO} (h : H p = none) : Same H (upd H p o) := fun b x e => by
  rw [upd_ne (ne_of_none e h)]
  exact e
theorem Same.upd2 {F H : Hp} {p : Addr} {o : HO} (s : Same F H) (h : H p = none) : Same (upd F p o) (upd H p o) := fun b x e => by
  by_cases z : b = p
  · subst z; rw [upd_same] at e ⊢; exact e
  · rw [upd_ne z] at e ⊢; exact s b x e
/-- a new tuple of plain items -/
theorem Mkd.tup {F H : Hp} {p : List Addr} {xs : List PyData} {vs : List V} {a : Addr} (s : Same F H) (h : DqAll F vs xs) (n : H a = none) : Mkd K F H p (.tup xs) (.ref a) (upd F a (.tup vs)) (upd H a (.tup vs)) [] := by
  have nF : F a = none := s.free n
  refine ⟨same_upd n, same_upd nF, Same.upd2 s n, fun b o e m => ?_, fun a m => absurd m (by simp), List.nodup_nil, ⟨.tup upd_same (DqAll.mono (same_upd nF) h), rfl⟩⟩
  by_cases z : b = a
  · subst z; exact .inr n
  · rw [upd_ne z, m] at e; cases e
/-- a new list of plain items -/
theorem Mkd.lst {F H : Hp} {p : List Addr} {xs : List PyData} {vs : List V} {a : Addr} (s : Same F H) (h : DqAll F vs xs) (n : H a = none) : Mkd K F H p (.lst xs) (.ref a) F (upd H a (.lst vs)) [a] := by
  refine ⟨same_upd n, Same.refl F, s.trans (same_upd n), fun b o e m => (by rw [m] at e; cases e), fun b m => ?_, (by simp), ?_⟩
  · rw [List.mem_singleton] at m
    subst m
    exact ⟨.inr n, s.free n⟩
  · exact RpM.ls (fp := []) upd_same (RpMs.of_data h)
end
end Ev
end
section
set_option Elab.async false
set_option linter.all false
set_option maxHeartbeats 1000000
/-! The operators of the machine do what the plain functions say. -/
namespace Ev
open PySem PySem.Spec PyProof.Rows L2
section
variable {X : Cx}
/-- by plain functions: of two values, of one -/
def rB (K : PySem.W.Frag) (f : R → R → Option R) : R2 := fun x y H Q => ∃ F a b r p, Same F H ∧ RpRs K F H [x, y] [a, b] p ∧ f a b = some r ∧ ∀ v F' H' p', Mkd K F H p r v F' H' p' → Q v H'
def rU1 (K : PySem.W.Frag) (f : R → Option R) : V → Hp → VK → Prop := fun x H Q => ∃ F a r p, Same F H ∧ RpR K F H x a p ∧ f a = some r ∧ ∀ v F' H' p', Mkd K F H p r v F' H' p' → Q v H'
def rN (K : PySem.W.Frag) (f : List R → Option R) : List V → Hp → VK → Prop := fun xs H Q => ∃ F as r p, Same F H ∧ RpRs K F H xs as p ∧ f as = some r ∧ ∀ v F' H' p', Mkd K F H p r v F' H' p' → Q v H'
theorem OpR.imp {f : Value → Value → Sem Value} {r r' : R2} (h : OpR X f r) (i : ∀ x y H Q, r' x y H Q → r x y H Q) : OpR X f r' := fun pins s σ H x y v u Q I rx ry q => h pins s σ H x y v u Q I rx ry (i x y H Q q)
theorem UnR.imp {f : Value → Sem Value} {r r' : V → Hp → VK → Prop} (h : UnR X f r) (i : ∀ x H Q, r' x H Q → r x H Q) : UnR X f r' := fun pins s σ H x v Q I rx q => h pins s σ H x v Q I rx (i x H Q q)
theorem CallR.imp {f : Value} {r r' : List V → Hp → VK → Prop} (h : CallR X f r) (i : ∀ x H Q, r' x H Q → r x H Q) : CallR X f r' := fun pins s σ H x v Q I rx q => h pins s σ H x v Q I rx (i x H Q q)
variable {K : PySem.W.Frag}
theorem RpRs.two {F H : Hp} {x y : V} {a b : R} {p : List Addr} (h : RpRs K F H [x, y] [a, b] p) : ∃ p1 p2, RpR K F H x a p1 ∧ RpR K F H y b p2 ∧ p = p1 ++ p2 := by
  cases h with
  | cons h1 t =>
    cases t with
    | cons h2 t =>
      cases t
      exact ⟨_, _, h1, h2, by simp⟩
theorem RpRs.one {F H : Hp} {x : V} {a : R} {p : List Addr} (h : RpRs K F H [x] [a] p) : RpR K F H x a p := by
  cases h with
  | cons h1 t =>
    cases t
    simpa using h1
theorem RpR.int {F H : Hp} {x : V} {i : Int} {p : List Addr} (h : RpR K F H x (.d (.int i)) p) : x = .int i := by
  obtain ⟨h, _⟩ := h
  cases h; rfl
theorem RpR.bool {F H : Hp} {x : V} {i : Bool} {p : List Addr} (h : RpR K F H x (.d (.bool i)) p) : x = .bl i := by
  obtain ⟨h, _⟩ := h
  cases h; rfl
theorem RpR.strv {F H : Hp} {x : V} {i : Str} {p : List Addr} (h : RpR K F H x (.d (.str i)) p) : x = .str i := by
  obtain ⟨h, _⟩ := h
  cases h; rfl
theorem RpR.nonv {F H : Hp} {x : V} {p : List Addr} (h : RpR K F H x (.d .none) p) : x = .non := by
  obtain ⟨h, _⟩ := h
  cases h; rfl
theorem mkInt {F H : Hp} {p : List Addr} (s : Same F H) (i : Int) : Mkd K F H p (.int i) (.int i) F H [] := Mkd.plain s (.int i)
theorem mkBl {F H : Hp} {p : List Addr} (s : Same F H) (i : Bool) : Mkd K F H p (.bl i) (.bl i) F H [] := Mkd.plain s (.bl i)
theorem mkStr {F H : Hp} {p : List Addr} (s : Same F H) (i : Str) : Mkd K F H p (.str i) (.str i) F H [] := Mkd.plain s (.str i)
/-- two ints alone -/
theorem rB_int {f : R → R → Option R} {C : Int → Int → Prop} {g : Int → Int → Int} (hf : ∀ a b r, f a b = some r → ∃ i j, a = .d (.int i) ∧ b = .d (.int j) ∧ C i j ∧ r = .int (g i j)) {x y : V} {H : Hp} {Q : VK} (h : rB K f x y H Q) : rI C (fun i j => .int (g i j)) x y H Q := by
  obtain ⟨F, a, b, r, p, s, hr, e, q⟩ := h
  obtain ⟨i, j, rfl, rfl, c, rfl⟩ := hf a b r e
  obtain ⟨p1, p2, h1, h2, _⟩ := hr.two
  exact ⟨i, j, h1.int, h2.int, c, q _ _ _ _ (mkInt s _)⟩
theorem op_sub' : OpR X (binaryOp .Sub) (rB K subF) := OpR.imp op_sub fun x y H Q h => by
  obtain ⟨i, j, e1, e2, _, q⟩ := rB_int (C := fun _ _ => True) (g := fun i j => i - j) (fun a b r e => by
    unfold subF at e
    split at e
    · cases e
      exact ⟨_, _, rfl, rfl, trivial, rfl⟩
    · cases e) h
  exact ⟨i, j, e1, e2, q⟩
theorem if_some {α : Type} {c : Prop} [Decidable c] {a b : α} (e : (if c then some a else none) = some b) : c ∧ a = b := by
  by_cases h : c
  · rw [if_pos h] at e
    exact ⟨h, Option.some.inj e⟩
  · rw [if_neg h] at e
    cases e
theorem op_div' : OpR X (binaryOp .FloorDiv) (rB K divF) := OpR.imp op_fdivW fun x y H Q h => rB_int (fun a b r e => by
    unfold divF at e
    split at e
    · obtain ⟨c, rfl⟩ := if_some e
      exact ⟨_, _, rfl, rfl, c, rfl⟩
    · cases e) h
theorem op_mod' : OpR X (binaryOp .Mod) (rB K modF) := OpR.imp op_mod fun x y H Q h => rB_int (fun a b r e => by
    unfold modF at e
    split at e
    · obtain ⟨c, rfl⟩ := if_some e
      exact ⟨_, _, rfl, rfl, c, rfl⟩
    · cases e) h
theorem op_pow' : OpR X (binaryOp .Pow) (rB K powF) := OpR.imp op_pow fun x y H Q h => rB_int (fun a b r e => by
    unfold powF at e
    split at e
    · obtain ⟨c, rfl⟩ := if_some e
      exact ⟨_, _, rfl, rfl, c, rfl⟩
    · cases e) h
theorem op_shl' : OpR X (binaryOp .LShift) (rB K shlF) := OpR.imp op_shl fun x y H Q h => rB_int (fun a b r e => by
    unfold shlF at e
    split at e
    · obtain ⟨c, rfl⟩ := if_some e
      exact ⟨_, _, rfl, rfl, c, rfl⟩
    · cases e) h
theorem op_shr' : OpR X (binaryOp .RShift) (rB K shrF) := OpR.imp op_shr fun x y H Q h => rB_int (fun a b r e => by
    unfold shrF at e
    split at e
    · obtain ⟨c, rfl⟩ := if_some e
      exact ⟨_, _, rfl, rfl, c, rfl⟩
    · cases e) h
theorem op_and' : OpR X (binaryOp .BitAnd) (rB K andF) := OpR.imp op_and fun x y H Q h => by
  obtain ⟨i, j, e1, e2, _, q⟩ := rB_int (C := fun _ _ => True) (g := fun i j => Builtin.bitAnd i j) (fun a b r e => by
    unfold andF at e
    split at e
    · cases e
      exact ⟨_, _, rfl, rfl, trivial, rfl⟩
    · cases e) h
  exact ⟨i, j, e1, e2, q⟩
theorem op_or' : OpR X (binaryOp .BitOr) (rB K orF) := OpR.imp op_or fun x y H Q h => by
  obtain ⟨i, j, e1, e2, _, q⟩ := rB_int (C := fun _ _ => True) (g := fun i j => Builtin.bitOr i j) (fun a b r e => by
    unfold orF at e
    split at e
    · cases e
      exact ⟨_, _, rfl, rfl, trivial, rfl⟩
    · cases e) h
  exact ⟨i, j, e1, e2, q⟩
theorem addL_ok {a b r : R} {x y : V} {F H : Hp} {p p1 p2 : List Addr} {Q : VK} (s : Same F H) (h1 : RpR K F H x a p1) (h2 : RpR K F H y b p2) (e : addL a b = some r) (q : ∀ v F' H' p', Mkd K F H p r v F' H' p' → Q v H') :
    rCat x y H Q ∨ rCatA K x y H Q := by
  unfold addL at e
  split at e
  · rename_i xs ys e1 e2
    obtain ⟨c, rfl⟩ := if_some e
    obtain ⟨l, vs, rfl, d1, k1⟩ := h1.leafs s e1
    obtain ⟨m, ws, rfl, d2, k2⟩ := h2.leafs s e2
    rcases k1 with ⟨_, k1⟩ | ⟨z, _⟩
    · rcases k2 with ⟨_, k2⟩ | ⟨z, _⟩
      · exact .inl ⟨l, m, vs, ws, rfl, rfl, k1, k2, by rw [d1.length, d2.length]; exact c, fun p0 n => q _ _ _ _ (Mkd.lst s (d1.app d2) n)⟩
      · cases z
    · cases z
  · rename_i xs ys e1 e2
    obtain ⟨c, rfl⟩ := if_some e
    obtain ⟨l, vs, rfl, d1, k1⟩ := h1.leafs s e1
    obtain ⟨m, ws, rfl, d2, k2⟩ := h2.leafs s e2
    -- a tuple is plain data of F
    have tp : ∀ {a : R} {l : Addr} {xs : List PyData} {p : List Addr}, RpR K F H (.ref l) a p → a.leafs = some (false, xs) → a = .d (.tuple xs) := fun {a l xs p} _ e => by
      cases a with
      | no => simp [R.leafs] at e
      | d z => cases z <;> simp [R.leafs] at e <;> (rw [e])
      | ow m => cases m <;> simp [R.leafs] at e
      | fr m => cases m <;> simp [R.leafs] at e
      | bo m => cases m <;> simp [R.leafs] at e
    have ea := tp h1 e1
    have eb := tp h2 e2
    subst ea eb
    rcases k1 with ⟨z, _⟩ | ⟨_, k1⟩
    · cases z
    · rcases k2 with ⟨z, _⟩ | ⟨_, k2⟩
      · cases z
      · refine .inr ⟨l, m, vs, ws, rfl, rfl, SqT.of k1, SqT.of k2, by rw [d1.length, d2.length]; exact c, fun z => ?_, fun _ z => ?_, fun _ _ p0 n => q _ _ _ _ (Mkd.tup s (d1.app d2) n)⟩
        · subst z
          cases d1
          exact q _ _ _ _ (Mkd.plain s h2.1)
        · subst z
          cases d2
          exact q _ _ _ _ (Mkd.plain s (by rw [List.append_nil]; exact h1.1))
  · cases e
theorem op_add' : OpR X (binaryOp .Add) (rB X.K addF) := OpR.imp (OpR.or (OpR.or op_add op_add_str) (OpR.or op_cat op_catA)) fun x y H Q h => by
  obtain ⟨F, a, b, r, p, s, hr, e, q⟩ := h
  obtain ⟨p1, p2, h1, h2, _⟩ := hr.two
  unfold addF at e
  split at e
  · cases e
    exact .inl (.inl ⟨_, _, h1.int, h2.int, q _ _ _ _ (mkInt s _)⟩)
  · obtain ⟨c, rfl⟩ := if_some e
    exact .inl (.inr ⟨_, _, h1.strv, h2.strv, c, q _ _ _ _ (mkStr s _)⟩)
  · exact .inr (addL_ok s h1 h2 e q)
theorem op_mul' : OpR X (binaryOp .Mult) (rB X.K mulF) := OpR.imp (OpR.or op_mulW (OpR.or op_rep op_repT)) fun x y H Q h => by
  obtain ⟨F, a, b, r, p, s, hr, e, q⟩ := h
  obtain ⟨p1, p2, h1, h2, _⟩ := hr.two
  unfold mulF at e
  split at e
  · obtain ⟨c, rfl⟩ := if_some e
    exact .inl ⟨_, _, h1.int, h2.int, c, q _ _ _ _ (mkInt s _)⟩
  · refine .inr ?_
    unfold repL at e
    split at e
    · rename_i k xs e1
      obtain ⟨c, rfl⟩ := if_some e
      obtain ⟨l, vs, rfl, d1, k1⟩ := h1.leafs s e1
      rcases k1 with ⟨_, k1⟩ | ⟨z, _⟩
      · exact .inl ⟨l, _, vs, rfl, h2.int, k1, c.1, c.2.1, by rw [d1.length]; exact c.2.2, fun p0 n => q _ _ _ _ (Mkd.lst s (d1.rep _) n)⟩
      · cases z
    · rename_i k xs e1
      obtain ⟨c, rfl⟩ := if_some e
      obtain ⟨l, vs, rfl, d1, k1⟩ := h1.leafs s e1
      rcases k1 with ⟨z, _⟩ | ⟨_, k1⟩
      · cases z
      · refine .inr ⟨l, _, vs, rfl, h2.int, SqT.of k1, fun z => ?_, c.1, c.2.1, by rw [d1.length]; exact c.2.2.1, fun p0 n => q _ _ _ _ (Mkd.tup s (d1.rep _) n)⟩
        subst z
        cases d1
        exact absurd c.2.2.2 (by simp)
    · cases e
  · cases e
theorem op_bin' (o : Operator) : OpR X (binaryOp o) (rB X.K (binF o)) := by
  cases o
  case Add => exact op_add'
  case Sub => exact op_sub'
  case Mult => exact op_mul'
  case FloorDiv => exact op_div'
  case Mod => exact op_mod'
  case Pow => exact op_pow'
  case LShift => exact op_shl'
  case RShift => exact op_shr'
  case BitAnd => exact op_and'
  case BitOr => exact op_or'
  all_goals
    intro pins s σ H x y v u Q I rx ry h
    obtain ⟨F, a, b, r, p, s, hr, e, q⟩ := h
    cases e
theorem un_neg' : UnR X (unaryOp .USub) (rU1 K negF) := UnR.imp un_neg fun x H Q h => by
  obtain ⟨F, a, r, p, s, hr, e, q⟩ := h
  unfold negF at e
  split at e
  · cases e
    exact ⟨_, hr.int, q _ _ _ _ (mkInt s _)⟩
  · cases e
end
end Ev
end
section
set_option Elab.async false
set_option linter.all false
set_option maxHeartbeats 1000000
/-! Comparisons, built-ins by values. -/
namespace Ev
open PySem PySem.Spec PyProof.Rows L2
section
variable {X : Cx}
abbrev bB (K : PySem.W.Frag) (f : R → R → Option Bool) : R2 := rB K fun a b => (f a b).map R.bl
theorem map_some' {α β : Type} {o : Option α} {f : α → β} {b : β} (e : o.map f = some b) : ∃ a, o = some a ∧ f a = b := Option.map_eq_some_iff.mp e
theorem op_eq' (hu : X.A.units + 64 < cLine) : OpR X (compareOp .Eq) (bB X.K eqF) := OpR.imp (op_eqD hu) fun x y H Q h => by
  obtain ⟨F, a, b, r, p, s, hr, e, q⟩ := h
  obtain ⟨p1, p2, h1, h2, _⟩ := hr.two
  obtain ⟨k, e0, er⟩ := map_some' e
  subst er
  clear e
  have e := e0
  unfold eqF at e
  split at e
  · rename_i d1 d2 e1 e2
    obtain ⟨c, rfl⟩ := if_some e
    exact ⟨_, _, (h1.dp s e1).dp, (h2.dp s e2).dp, c.1, c.2, q _ _ _ _ (mkBl s _)⟩
  · cases e
theorem op_ne' (hu : X.A.units + 64 < cLine) : OpR X (compareOp .NotEq) (bB X.K fun a b => (eqF a b).map (!·)) := OpR.imp (op_neD hu) fun x y H Q h => by
  obtain ⟨F, a, b, r, p, s, hr, e, q⟩ := h
  obtain ⟨p1, p2, h1, h2, _⟩ := hr.two
  obtain ⟨k, e1, er⟩ := map_some' e
  subst er
  clear e
  have e := e1
  clear e1
  obtain ⟨k0, e0, er⟩ := map_some' e
  subst er
  clear e
  have e := e0
  unfold eqF at e
  split at e
  · rename_i d1 d2 e1 e2
    obtain ⟨c, rfl⟩ := if_some e
    exact ⟨_, _, (h1.dp s e1).dp, (h2.dp s e2).dp, c.1, c.2, q _ _ _ _ (mkBl s _)⟩
  · cases e
theorem cmp_int {f : R → R → Option Bool} {g : Int → Int → Bool} {K : PySem.W.Frag} (hf : ∀ a b r, f a b = some r → ∃ i j, a = .d (.int i) ∧ b = .d (.int j) ∧ r = g i j) {x y : V} {H : Hp} {Q : VK} (h : bB K f x y H Q) : rI0 (fun i j => .bl (g i j)) x y H Q := by
  obtain ⟨F, a, b, r, p, s, hr, e, q⟩ := h
  obtain ⟨k, e0, er⟩ := map_some' e
  subst er
  clear e
  have e := e0
  obtain ⟨i, j, rfl, rfl, rfl⟩ := hf a b k e
  obtain ⟨p1, p2, h1, h2, _⟩ := hr.two
  exact ⟨i, j, h1.int, h2.int, q _ _ _ _ (mkBl s _)⟩
theorem ltF_some {a b : R} {r : Bool} (e : ltF a b = some r) : ∃ i j, a = .d (.int i) ∧ b = .d (.int j) ∧ r = decide (i < j) := by
  unfold ltF at e
  split at e
  · cases e
    exact ⟨_, _, rfl, rfl, rfl⟩
  · cases e
theorem leF_some {a b : R} {r : Bool} (e : leF a b = some r) : ∃ i j, a = .d (.int i) ∧ b = .d (.int j) ∧ r = decide (i ≤ j) := by
  unfold leF at e
  split at e
  · cases e
    exact ⟨_, _, rfl, rfl, rfl⟩
  · cases e
def isNo : PyData → Bool
  | .none => true
  | _ => false
theorem isF_some {a b : R} {r : Bool} (e : isF a b = some r) : (∃ i j, a = .d (.bool i) ∧ b = .d (.bool j) ∧ r = (i == j)) ∨ (∃ x, a = .d x ∧ b = .d .none ∧ r = isNo x) := by
  unfold isF at e
  split at e <;> first
    | (cases e; exact .inl ⟨_, _, rfl, rfl, rfl⟩)
    | (cases e; exact .inr ⟨_, rfl, rfl, rfl⟩)
    | cases e
theorem isN_val {K : PySem.W.Frag} {F H : Hp} {v : V} {x : PyData} {p : List Addr} (h : RpR K F H v (.d x) p) : decide (v = .non) = isNo x := by
  obtain ⟨h, _⟩ := h
  cases h <;> rfl
theorem op_is' : OpR X (compareOp .Is) (bB X.K isF) := OpR.imp (OpR.or op_isBl op_isN) fun x y H Q h => by
  obtain ⟨F, a, b, r, p, s, hr, e, q⟩ := h
  obtain ⟨k, e0, er⟩ := map_some' e
  subst er
  clear e
  have e := e0
  obtain ⟨p1, p2, h1, h2, _⟩ := hr.two
  rcases isF_some e with ⟨i, j, rfl, rfl, rfl⟩ | ⟨z, rfl, rfl, rfl⟩
  · refine .inl ⟨i, j, h1.bool, h2.bool, ?_⟩
    rw [← Bool.beq_eq_decide_eq]
    exact q _ _ _ _ (mkBl s _)
  · refine .inr ⟨h2.nonv, ?_⟩
    rw [isN_val h1]
    exact q _ _ _ _ (mkBl s _)
theorem op_isnot' : OpR X (compareOp .IsNot) (bB X.K fun a b => (isF a b).map (!·)) := OpR.imp (OpR.or op_notBl op_notN) fun x y H Q h => by
  obtain ⟨F, a, b, r, p, s, hr, e, q⟩ := h
  obtain ⟨k, e1, er⟩ := map_some' e
  subst er
  clear e
  have e := e1
  clear e1
  obtain ⟨k0, e0, er⟩ := map_some' e
  subst er
  clear e
  have e := e0
  obtain ⟨p1, p2, h1, h2, _⟩ := hr.two
  rcases isF_some e with ⟨i, j, rfl, rfl, rfl⟩ | ⟨z, rfl, rfl, rfl⟩
  · refine .inl ⟨i, j, h1.bool, h2.bool, ?_⟩
    rw [← Bool.beq_eq_decide_eq]
    exact q _ _ _ _ (mkBl s _)
  · refine .inr ⟨h2.nonv, ?_⟩
    rw [isN_val h1]
    exact q _ _ _ _ (mkBl s _)
/-- x in a tuple of data -/
def rInT (K : PySem.W.Frag) (n : Bool) : R2 := fun x y H Q => ∃ d ds, Dp K H x d ∧ Dp K H y (.tuple ds) ∧ SeqAt.shaped d = true ∧ SeqAt.shaped (.list ds) = true ∧ Q (.bl (if n then !(ds.any fun z => PyData.eqv z d) else ds.any fun z => PyData.eqv z d)) H
theorem op_inT (hu : X.A.units + 65 < cLine) : OpR X (compareOp .In) (rInT X.K false) := by
  intro pins s σ H x y v u Q I rx ry h
  obtain ⟨d, ds, hd, he, sd, se, q⟩ := h
  obtain ⟨as, r1⟩ := Dp.reads I d x v hd rx
  obtain ⟨bs, r2⟩ := Dp.reads I (.tuple ds) y u he ry
  exact SeqAt.in_tuple_reads r2 r1 (SeqAt.canLay_of_shaped se) (SeqAt.canLay_of_shaped sd) (room_in_shaped sd hu) ⟨.bl _, H, I, rfl, q⟩
theorem op_notInT (hu : X.A.units + 65 < cLine) : OpR X (compareOp .NotIn) (rInT X.K true) := by
  intro pins s σ H x y v u Q I rx ry h
  obtain ⟨d, ds, hd, he, sd, se, q⟩ := h
  obtain ⟨as, r1⟩ := Dp.reads I d x v hd rx
  obtain ⟨bs, r2⟩ := Dp.reads I (.tuple ds) y u he ry
  exact SeqAt.notIn_tuple_reads r2 r1 (SeqAt.canLay_of_shaped se) (SeqAt.canLay_of_shaped sd) (room_in_shaped sd hu) ⟨.bl _, H, I, rfl, q⟩
theorem leafs_dp {K : PySem.W.Frag} {F H : Hp} {v : V} {r : R} {p : List Addr} {b : Bool} {ds : List PyData} (s : Same F H) (h : RpR K F H v r p) (e : r.leafs = some (b, ds)) : Dp K H v (if b then .list ds else .tuple ds) := by
  obtain ⟨a, vs, rfl, d1, k⟩ := h.leafs s e
  rcases k with ⟨rfl, k⟩ | ⟨rfl, k⟩
  · exact .lst (SqL.of k) (d1.mono s).dp
  · exact .tup (SqT.of k) (d1.mono s).dp
theorem inF_some {K : PySem.W.Frag} {F H : Hp} {x y : V} {a b : R} {p1 p2 : List Addr} {k : Bool} (s : Same F H) (h1 : RpR K F H x a p1) (h2 : RpR K F H y b p2) (e : inF a b = some k) :
    ∃ d ds, Dp K H x d ∧ SeqAt.shaped d = true ∧ SeqAt.shaped (.list ds) = true ∧ k = (ds.any fun z => PyData.eqv z d) ∧ (Dp K H y (.list ds) ∨ Dp K H y (.tuple ds)) := by
  unfold inF at e
  split at e
  · rename_i d c ds e1 e2
    obtain ⟨c1, rfl⟩ := if_some e
    have z := leafs_dp s h2 e2
    refine ⟨d, ds, (h1.dp s e1).dp, c1.1, c1.2, rfl, ?_⟩
    cases c
    · exact .inr z
    · exact .inl z
  · cases e
theorem op_in' (hu : X.A.units + 65 < cLine) : OpR X (compareOp .In) (bB X.K inF) := OpR.imp (OpR.or (op_inD hu) (op_inT hu)) fun x y H Q h => by
  obtain ⟨F, a, b, r, p, s, hr, e, q⟩ := h
  obtain ⟨k, e0, er⟩ := map_some' e
  subst er
  clear e
  have e := e0
  obtain ⟨p1, p2, h1, h2, _⟩ := hr.two
  obtain ⟨d, ds, e1, e2, e3, rfl, e4⟩ := inF_some s h1 h2 e
  rcases e4 with e4 | e4
  · exact .inl ⟨d, ds, e1, e4, e2, e3, q _ _ _ _ (mkBl s _)⟩
  · exact .inr ⟨d, ds, e1, e4, e2, e3, q _ _ _ _ (mkBl s _)⟩
theorem op_notin' (hu : X.A.units + 65 < cLine) : OpR X (compareOp .NotIn) (bB X.K fun a b => (inF a b).map (!·)) := OpR.imp (OpR.or (op_notInD hu) (op_notInT hu)) fun x y H Q h => by
  obtain ⟨F, a, b, r, p, s, hr, e, q⟩ := h
  obtain ⟨k, e1, er⟩ := map_some' e
  subst er
  clear e
  have e := e1
  clear e1
  obtain ⟨k0, e0, er⟩ := map_some' e
  subst er
  clear e
  have e := e0
  obtain ⟨p1, p2, h1, h2, _⟩ := hr.two
  obtain ⟨d, ds, e1, e2, e3, rfl, e4⟩ := inF_some s h1 h2 e
  rcases e4 with e4 | e4
  · exact .inl ⟨d, ds, e1, e4, e2, e3, q _ _ _ _ (mkBl s _)⟩
  · exact .inr ⟨d, ds, e1, e4, e2, e3, q _ _ _ _ (mkBl s _)⟩
theorem op_cmp' (hu : X.A.units + 65 < cLine) (o : CmpOp) : OpR X (compareOp o) (bB X.K (cmpF o)) := by
  cases o
  case Eq => exact op_eq' (by omega)
  case NotEq => exact op_ne' (by omega)
  case Lt => exact OpR.imp op_lt fun x y H Q h => cmp_int (fun a b r e => ltF_some e) h
  case LtE => exact OpR.imp op_le fun x y H Q h => cmp_int (fun a b r e => leF_some e) h
  case Gt => exact OpR.imp op_gt fun x y H Q h => cmp_int (g := fun i j => decide (j < i)) (fun a b r e => by
    obtain ⟨i, j, e1, e2, e3⟩ := ltF_some (show ltF b a = some r from e)
    exact ⟨j, i, e2, e1, e3⟩) h
  case GtE => exact OpR.imp op_ge fun x y H Q h => cmp_int (g := fun i j => decide (j ≤ i)) (fun a b r e => by
    obtain ⟨i, j, e1, e2, e3⟩ := leF_some (show leF b a = some r from e)
    exact ⟨j, i, e2, e1, e3⟩) h
  case Is => exact op_is'
  case IsNot => exact op_isnot'
  case In => exact op_in' hu
  case NotIn => exact op_notin' hu
end
end Ev
end
section
set_option Elab.async false
set_option linter.all false
set_option maxHeartbeats 1000000
/-! Built-ins by values. -/
namespace Ev
open PySem PySem.Spec PyProof.Rows L2
section
variable {X : Cx}
theorem CallR.no {f : Value} {g : List R → Option R} (h : ∀ rs, g rs = none) : CallR X f (rN X.K g) := fun pins s σ H xs us Q I rx q => by
  obtain ⟨F, as, r, p, s', hr, e, _⟩ := q
  rw [h] at e; cases e
/-- exactly one argument -/
theorem one_of {α : Type} {g : R → Option α} {f : List R → Option α} {as : List R} {r : α} (hf : ∀ a, f [a] = g a) (h0 : f [] = none) (h2 : ∀ a b t, f (a :: b :: t) = none) (e : f as = some r) : ∃ a, as = [a] ∧ g a = some r := by
  match as, e with
  | [], e => rw [h0] at e; cases e
  | [a], e => exact ⟨a, rfl, (hf a).symm.trans e⟩
  | a :: b :: t, e => rw [h2] at e; cases e
theorem RpRs.one' {K : PySem.W.Frag} {F H : Hp} {xs : List V} {a : R} {p : List Addr} (h : RpRs K F H xs [a] p) : ∃ x, xs = [x] ∧ RpR K F H x a p := by
  cases h with
  | cons h1 t =>
    cases t
    exact ⟨_, rfl, by simpa using h1⟩
theorem RpRs.two' {K : PySem.W.Frag} {F H : Hp} {xs : List V} {a b : R} {p : List Addr} (h : RpRs K F H xs [a, b] p) : ∃ x y p1 p2, xs = [x, y] ∧ RpR K F H x a p1 ∧ RpR K F H y b p2 := by
  cases h with
  | cons h1 t =>
    cases t with
    | cons h2 t =>
      cases t
      exact ⟨_, _, _, _, rfl, h1, h2⟩
theorem lenF_ok {K : PySem.W.Frag} {F H : Hp} {x : V} {a : R} {p : List Addr} {r : R} (s : Same F H) (h : RpR K F H x a p) (e : lenF a = some r) : ∃ n : Nat, r = .int n ∧ LenV K x H n := by
  have tree : ∀ {ms : List M} {q : List Addr} {G : Hp}, Same G H → RpM K F G x (.ls ms) q → LenV K x H ms.length := fun {ms q G} sg z => by
    cases z with
    | ls h1 h2 => exact .inl ⟨_, SqL.of (sg _ _ h1), h2.length.symm⟩
  cases a with
  | no => exact h.elim
  | d z =>
    obtain ⟨h, _⟩ := h
    cases z <;> simp only [lenF] at e
    case str z =>
      cases h
      obtain ⟨c, rfl⟩ := if_some e
      exact ⟨_, rfl, c, rfl⟩
    case list ds =>
      cases h with
      | lst h1 h2 =>
        cases e
        exact ⟨_, rfl, .inl ⟨_, SqL.of (s _ _ h1), h2.length.symm⟩⟩
    case tuple ds =>
      cases h with
      | tup h1 h2 =>
        cases e
        exact ⟨_, rfl, .inr ⟨_, SqT.of (s _ _ h1), h2.length.symm⟩⟩
    all_goals cases e
  | ow m =>
    cases m <;> simp only [lenF] at e
    case ls ms =>
      cases e
      exact ⟨_, rfl, tree (Same.refl H) h⟩
    all_goals cases e
  | fr m =>
    obtain ⟨⟨q, z⟩, _⟩ := h
    cases m <;> simp only [lenF] at e
    case ls ms =>
      cases e
      exact ⟨_, rfl, tree s z⟩
    case sq ds =>
      cases e
      cases z with
      | sq h1 h2 => exact ⟨_, rfl, .inl ⟨_, s.seq h1, h2.length.symm⟩⟩
    all_goals cases e
  | bo m =>
    obtain ⟨⟨q, z⟩, _⟩ := h
    cases m <;> simp only [lenF] at e
    case ls ms =>
      cases e
      exact ⟨_, rfl, tree (Same.refl H) z⟩
    all_goals cases e
theorem bi_len : CallR X (.builtin "len") (rN X.K (biF .len)) := CallR.imp call_len fun xs H Q h => by
  obtain ⟨F, as, r, p, s, hr, e, q⟩ := h
  obtain ⟨a, rfl, e⟩ := one_of (g := lenF) (fun _ => rfl) rfl (fun _ _ _ => rfl) e
  obtain ⟨x, rfl, h1⟩ := hr.one'
  obtain ⟨n, rfl, hl⟩ := lenF_ok s h1 e
  exact ⟨x, n, rfl, hl, q _ _ _ _ (mkInt s _)⟩
theorem bind_some' {α β : Type} {o : Option α} {f : α → Option β} {b : β} (e : o.bind f = some b) : ∃ a, o = some a ∧ f a = some b := Option.bind_eq_some_iff.mp e
theorem seq_of {K : PySem.W.Frag} {F H : Hp} {v : V} {r : R} {p : List Addr} {b : Bool × List PyData} (s : Same F H) (h : RpR K F H v r p) (e : r.reads = some b) :
    ∃ a vs, v = .ref a ∧ DqAll F vs b.2 ∧ ((b.1 = true ∧ SqL K H a vs) ∨ (b.1 = false ∧ SqT K H a vs)) := h.reads (b := b.1) (ds := b.2) s e
theorem bi_list : CallR X (.type "list") (rN X.K (biF .list)) := CallR.imp call_list_of fun xs H Q h => by
  obtain ⟨F, as, r, p, s, hr, e, q⟩ := h
  obtain ⟨a, rfl, e⟩ := one_of (g := fun r => r.reads.map fun p => R.lst p.2) (fun _ => rfl) rfl (fun _ _ _ => rfl) e
  obtain ⟨x, rfl, h1⟩ := hr.one'
  obtain ⟨b, e0, rfl⟩ := map_some' e
  obtain ⟨l, vs, rfl, d1, k⟩ := seq_of s h1 e0
  exact ⟨l, vs, rfl, k.imp (·.2) (·.2), fun m n => q _ _ _ _ (Mkd.lst s d1 n)⟩
theorem reads_tup {r : R} {ds : List PyData} (e : r.reads = some (false, ds)) : r = .d (.tuple ds) := by
  cases r with
  | no => simp [R.reads, R.leafs] at e
  | d z => cases z <;> simp [R.reads, R.leafs] at e <;> rw [e]
  | ow m => cases m <;> simp [R.reads, R.leafs] at e
  | fr m => cases m <;> simp [R.reads, R.leafs] at e
  | bo m => cases m <;> simp [R.reads, R.leafs] at e
theorem bi_tuple : CallR X (.type "tuple") (rN X.K (biF .tuple)) := CallR.imp call_tuple_of fun xs H Q h => by
  obtain ⟨F, as, r, p, s, hr, e, q⟩ := h
  obtain ⟨a, rfl, e⟩ := one_of (g := fun r => r.reads.map fun p => R.tup p.2) (fun _ => rfl) rfl (fun _ _ _ => rfl) e
  obtain ⟨x, rfl, h1⟩ := hr.one'
  obtain ⟨⟨b, ds⟩, e0, rfl⟩ := map_some' e
  obtain ⟨l, vs, rfl, d1, k⟩ := seq_of s h1 e0
  rcases k with ⟨_, k⟩ | ⟨z, k⟩
  · exact ⟨l, vs, rfl, .inl ⟨k, fun m n => q _ _ _ _ (Mkd.tup s d1 n)⟩⟩
  · have z' : b = false := z
    subst z'
    have ea := reads_tup e0
    subst ea
    exact ⟨l, vs, rfl, .inr ⟨k, q _ _ _ _ (Mkd.plain s h1.1)⟩⟩
theorem bi_sum (hc : X.calm = true) : CallR X (.builtin "sum") (rN X.K (biF .sum)) := CallR.imp (cr_sum hc) fun xs H Q h => by
  obtain ⟨F, as, r, p, s, hr, e, q⟩ := h
  obtain ⟨a, rfl, e⟩ := one_of (g := fun r => r.reads.bind fun p => if p.1 then (ints? p.2).map fun is => R.int is.sum else none) (fun _ => rfl) rfl (fun _ _ _ => rfl) e
  obtain ⟨x, rfl, h1⟩ := hr.one'
  obtain ⟨⟨b, ds⟩, e0, e1⟩ := bind_some' e
  obtain ⟨l, vs, rfl, d1, k⟩ := seq_of s h1 e0
  cases b with
  | false => cases e1
  | true =>
    obtain ⟨is, e2, rfl⟩ := map_some' (show (ints? ds).map (fun is => R.int is.sum) = some r from e1)
    have e3 := d1.ints e2
    subst e3
    rcases k with ⟨_, k⟩ | ⟨z, _⟩
    · exact ⟨l, is, rfl, k, q _ _ _ _ (mkInt s _)⟩
    · cases z
theorem bi_any (hc : X.calm = true) : CallR X (.builtin "any") (rN X.K (biF .any)) := CallR.imp (cr_any hc) fun xs H Q h => by
  obtain ⟨F, as, r, p, s, hr, e, q⟩ := h
  obtain ⟨a, rfl, e⟩ := one_of (g := fun r => r.reads.bind fun p => if p.1 then (bools? p.2).map fun is => R.bl (is.any id) else none) (fun _ => rfl) rfl (fun _ _ _ => rfl) e
  obtain ⟨x, rfl, h1⟩ := hr.one'
  obtain ⟨⟨b, ds⟩, e0, e1⟩ := bind_some' e
  obtain ⟨l, vs, rfl, d1, k⟩ := seq_of s h1 e0
  cases b with
  | false => cases e1
  | true =>
    obtain ⟨is, e2, rfl⟩ := map_some' (show (bools? ds).map (fun is => R.bl (is.any id)) = some r from e1)
    have e3 := d1.bools e2
    subst e3
    rcases k with ⟨_, k⟩ | ⟨z, _⟩
    · exact ⟨l, is, rfl, k, q _ _ _ _ (mkBl s _)⟩
    · cases z
theorem bi_all (hc : X.calm = true) : CallR X (.builtin "all") (rN X.K (biF .all)) := CallR.imp (cr_all hc) fun xs H Q h => by
  obtain ⟨F, as, r, p, s, hr, e, q⟩ := h
  obtain ⟨a, rfl, e⟩ := one_of (g := fun r => r.reads.bind fun p => if p.1 then (bools? p.2).map fun is => R.bl (is.all id) else none) (fun _ => rfl) rfl (fun _ _ _ => rfl) e
  obtain ⟨x, rfl, h1⟩ := hr.one'
  obtain ⟨⟨b, ds⟩, e0, e1⟩ := bind_some' e
  obtain ⟨l, vs, rfl, d1, k⟩ := seq_of s h1 e0
  cases b with
  | false => cases e1
  | true =>
    obtain ⟨is, e2, rfl⟩ := map_some' (show (bools? ds).map (fun is => R.bl (is.all id)) = some r from e1)
    have e3 := d1.bools e2
    subst e3
    rcases k with ⟨_, k⟩ | ⟨z, _⟩
    · exact ⟨l, is, rfl, k, q _ _ _ _ (mkBl s _)⟩
    · cases z
theorem max_is {is : List Int} {m k : Int} (e : is.max? = some k) (h1 : m ∈ is) (h2 : ∀ y, y ∈ is → y ≤ m) : m = k := by
  obtain ⟨a, b⟩ := List.max?_eq_some_iff.mp e
  exact Int.le_antisymm (b m h1) (h2 k a)
theorem min_is {is : List Int} {m k : Int} (e : is.min? = some k) (h1 : m ∈ is) (h2 : ∀ y, y ∈ is → m ≤ y) : m = k := by
  obtain ⟨a, b⟩ := List.min?_eq_some_iff.mp e
  exact Int.le_antisymm (h2 k a) (b m h1)
theorem bi_max1 (hc : X.calm = true) : CallR X (.builtin "max") (rN X.K (biF .max1)) := CallR.imp (cr_max hc) fun xs H Q h => by
  obtain ⟨F, as, r, p, s, hr, e, q⟩ := h
  obtain ⟨a, rfl, e⟩ := one_of (g := fun r => r.reads.bind fun p => if p.1 then (ints? p.2).bind fun is => is.max?.map R.int else none) (fun _ => rfl) rfl (fun _ _ _ => rfl) e
  obtain ⟨x, rfl, h1⟩ := hr.one'
  obtain ⟨⟨b, ds⟩, e0, e1⟩ := bind_some' e
  obtain ⟨l, vs, rfl, d1, k⟩ := seq_of s h1 e0
  cases b with
  | false => cases e1
  | true =>
    obtain ⟨is, e2, e4⟩ := bind_some' (show ((ints? ds).bind fun is => is.max?.map R.int) = some r from e1)
    obtain ⟨m, e5, rfl⟩ := map_some' e4
    have e3 := d1.ints e2
    subst e3
    rcases k with ⟨_, k⟩ | ⟨z, _⟩
    · refine ⟨l, is, rfl, k, ?_, fun z h1 h2 => ?_⟩
      · cases is with
        | nil => cases e5
        | cons _ _ => exact Nat.succ_pos _
      · rw [max_is e5 h1 h2]
        exact q _ _ _ _ (mkInt s _)
    · cases z
theorem bi_min1 (hc : X.calm = true) : CallR X (.builtin "min") (rN X.K (biF .min1)) := CallR.imp (cr_min hc) fun xs H Q h => by
  obtain ⟨F, as, r, p, s, hr, e, q⟩ := h
  obtain ⟨a, rfl, e⟩ := one_of (g := fun r => r.reads.bind fun p => if p.1 then (ints? p.2).bind fun is => is.min?.map R.int else none) (fun _ => rfl) rfl (fun _ _ _ => rfl) e
  obtain ⟨x, rfl, h1⟩ := hr.one'
  obtain ⟨⟨b, ds⟩, e0, e1⟩ := bind_some' e
  obtain ⟨l, vs, rfl, d1, k⟩ := seq_of s h1 e0
  cases b with
  | false => cases e1
  | true =>
    obtain ⟨is, e2, e4⟩ := bind_some' (show ((ints? ds).bind fun is => is.min?.map R.int) = some r from e1)
    obtain ⟨m, e5, rfl⟩ := map_some' e4
    have e3 := d1.ints e2
    subst e3
    rcases k with ⟨_, k⟩ | ⟨z, _⟩
    · refine ⟨l, is, rfl, k, ?_, fun z h1 h2 => ?_⟩
      · cases is with
        | nil => cases e5
        | cons _ _ => exact Nat.succ_pos _
      · rw [min_is e5 h1 h2]
        exact q _ _ _ _ (mkInt s _)
    · cases z
theorem bi_max2 (hc : X.calm = true) : CallR X (.builtin "max") (rN X.K (biF .max2)) := CallR.imp (call_max2 hc) fun xs H Q h => by
  obtain ⟨F, as, r, p, s, hr, e, q⟩ := h
  have e' : max2F as = some r := e
  unfold max2F at e'
  split at e'
  · cases e'
    obtain ⟨x, y, p1, p2, rfl, h1, h2⟩ := hr.two'
    exact ⟨_, _, by rw [h1.int, h2.int], q _ _ _ _ (mkInt s _)⟩
  · cases e'
theorem bi_min2 (hc : X.calm = true) : CallR X (.builtin "min") (rN X.K (biF .min2)) := CallR.imp (call_min2 hc) fun xs H Q h => by
  obtain ⟨F, as, r, p, s, hr, e, q⟩ := h
  have e' : min2F as = some r := e
  unfold min2F at e'
  split at e'
  · cases e'
    obtain ⟨x, y, p1, p2, rfl, h1, h2⟩ := hr.two'
    exact ⟨_, _, by rw [h1.int, h2.int], q _ _ _ _ (mkInt s _)⟩
  · cases e'
theorem bi_abs : CallR X (.builtin "abs") (rN X.K (biF .abs)) := CallR.imp call_abs fun xs H Q h => by
  obtain ⟨F, as, r, p, s, hr, e, q⟩ := h
  obtain ⟨a, ea, e2⟩ := one_of (g := absF) (fun _ => rfl) rfl (fun _ _ _ => rfl) e
  subst ea
  clear e
  obtain ⟨x, rfl, h1⟩ := hr.one'
  unfold absF at e2
  split at e2
  · cases e2
    exact ⟨_, by rw [h1.int], q _ _ _ _ (mkInt s _)⟩
  · cases e2
theorem bi_int : CallR X (.type "int") (rN X.K (biF .int)) := CallR.imp call_int1 fun xs H Q h => by
  obtain ⟨F, as, r, p, s, hr, e, q⟩ := h
  obtain ⟨a, ea, e2⟩ := one_of (g := intF) (fun _ => rfl) rfl (fun _ _ _ => rfl) e
  subst ea
  clear e
  obtain ⟨x, rfl, h1⟩ := hr.one'
  unfold intF at e2
  split at e2
  · cases e2
    exact .inl ⟨_, by rw [h1.int], q _ _ _ _ (mkInt s _)⟩
  · cases e2
    exact .inr ⟨_, by rw [h1.bool], q _ _ _ _ (mkInt s _)⟩
  · cases e2
end
end Ev
end
section
set_option Elab.async false
set_option linter.all false
set_option maxHeartbeats 1000000
/-! repr of data at any depth. -/
namespace Ev
open PySem PySem.Spec PyProof.Rows L2

/-! ### how long a text of data may be -/
theorem textFrom_up : ∀ (ts : List Str) (k : Nat) (acc : Str), (textFrom k acc ts).length ≤ acc.length + piled ts
  | [], k, acc => by
    show acc.length ≤ acc.length + 0
    omega
  | t :: r, k, acc => by
    have ih := textFrom_up r (k + 1) (acc ++ (if k > 0 then ", " else "" : String) ++ t)
    have e : (acc ++ (if k > 0 then ", " else "" : String) ++ t).length ≤ acc.length + 2 + t.length := by
      rw [strLen_append, strLen_append]
      split
      · exact Nat.le_refl _
      · show acc.length + 0 + t.length ≤ _
        omega
    show (textFrom (k + 1) (acc ++ (if k > 0 then ", " else "" : String) ++ t) r).length ≤ _
    rw [piled_cons]
    omega
theorem listText_up (ts : List Str) : (listText ts).length ≤ piled ts + 3 := by
  unfold listText
  rw [strLen_append]
  have h := textFrom_up ts 0 "["
  have e1 : ((("[" : String) : Str)).length = 1 := rfl
  have e2 : ((("]" : String) : Str)).length = 1 := rfl
  omega
theorem tupleText_up (ts : List Str) : (tupleText ts).length ≤ piled ts + 3 := by
  unfold tupleText
  rw [strLen_append, strLen_append]
  have e1 : ((("(" : String) : Str)).length = 1 := rfl
  have e3 : (((if ts.length == 1 then ",)" else ")" : String) : Str)).length ≤ 2 := by split <;> decide
  by_cases h : ts = []
  · subst h
    have e4 : (Str.join ", " ([] : List Str)).length = 0 := rfl
    have e5 : piled ([] : List Str) = 0 := rfl
    omega
  · have := join_length_add ts h
    omega
mutual
theorem shown_up : ∀ d : PyData, d.canLay0 = true → d.shown.length ≤ cost d
  | .none, _ => by simp only [PyData.shown, cost]; decide
  | .bool b, _ => by
    simp only [PyData.shown, cost]
    cases b <;> decide
  | .int i, _ => by
    simp only [PyData.shown, cost]
    have h := int_text_length_le (a := i) (k := i.natAbs.log2 + 1) (Nat.succ_pos _) (Nat.lt_succ_self _)
    show (Str.ofString (toString i)).length ≤ _
    rw [PySem.ofString_length]
    omega
  | .str x, h => by
    simp only [PyData.shown, cost]
    refine StrLaws.reprText_len x fun c hc => ?_
    have h' : PyData.strOk x = true := by simpa [PyData.canLay0] using h
    unfold PyData.strOk at h'
    have := Array.all_eq_true'.mp h' c (by simpa using hc)
    have h2 : c < 0x110000 := by simpa using this
    omega
  | .list xs, h => by
    simp only [PyData.shown, cost]
    have h' : PyData.canLayAll0 xs = true := by simpa [PyData.canLay0] using h
    have a := listText_up (PyData.shownAll xs)
    have b := shown_ups xs h'
    omega
  | .tuple xs, h => by
    simp only [PyData.shown, cost]
    have h' : PyData.canLayAll0 xs = true := by simpa [PyData.canLay0] using h
    have a := tupleText_up (PyData.shownAll xs)
    have b := shown_ups xs h'
    omega
  | .dict _, h => by simp [PyData.canLay0] at h
theorem shown_ups : ∀ xs : List PyData, PyData.canLayAll0 xs = true → piled (PyData.shownAll xs) ≤ cost.costs xs
  | [], _ => by simp [PyData.shownAll, piled, cost.costs]
  | x :: xs, h => by
    have h' : x.canLay0 = true ∧ PyData.canLayAll0 xs = true := by simpa [PyData.canLayAll0] using h
    have a := shown_up x h'.1
    have b := shown_ups xs h'.2
    simp only [PyData.shownAll, cost.costs, piled_cons]
    omega
end
set_option maxRecDepth 100000
set_option exponentiation.threshold 20000
/-! ### ints of thousands of digits: the limit is as it was at the start -/
section
variable {P : Program} {w : World} {B : Heap}
theorem log_few {n : Nat} (h : n.log2 < 12000) : n < 10 ^ 4300 := Nat.lt_of_lt_of_le (Nat.lt_of_lt_of_le (lt_of_log2 h) (Nat.pow_le_pow_right (by omega) (by omega))) pow_lo
theorem repr_int_big {A : Around} {E : Value → Shared → Prop} {s : Shared} {Q : Value → Shared → Prop} {i : Int} {t : Tok} (hn : s.heap.NoDigits) (hi : i.natAbs < 10 ^ 4300) (hu : A.units < cLine)
    (h : Q (.str (toString i) s.toks) { s with toks := s.toks + 1 }) : wpAny (model P w) A (pyReprObj (.int i t)) Q E s := by
  refine wpAny_pyReprObj_slot hu (typeIs_int s i t) F.slot_int_repr.toG (wpAny_call_entry F.slot_int_repr (typeIs_int s i t) F.entry_int_repr ?_ (F.args_int_repr_1 _))
  unfold Builtin.«int.__repr__»
  show wpAny _ _ (Builtin.overDigitLimit? i >>= fun r => _) _ _ s
  exact wpAny_bind (overDigitLimit_any hn (fun few => wpAny_bind (wpAny_mkStr (wpAny_pure ⟨_, rfl, _, _, rfl, h⟩) (int_text_fits10 few))) fun many => (Nat.lt_irrefl _ (Nat.lt_of_lt_of_le hi many)).elim)
theorem reprK_int {as : List Addr} {n : Nat} {i : Int} {t : Tok} (hn : B.NoDigits) (hi : i.natAbs < 10 ^ 4300) : ReprK P w as B n (.int i t) (toString i) := fun b hb A g E s Q hg hc hu hk hQ => by
  rw [pyReprUnder_leaf (v := .int i t) (by omega) (fun _ z => nomatch z)]
  unfold pyRepr
  exact wpAny_bind (repr_int_big (hn.keeps hk) hi (by omega) (wpAny_pure (hQ s.heap _ fun _ _ z => z)))
mutual
theorem reprK_big (hn : B.NoDigits) : ∀ {v : Value} {d : PyData} {as : List Addr}, Reads B v d as → showB d = true → d.shown.length ≤ sizeLine → ∃ l, ReadAtMost B d.depth l ∧ ReprK P w l B d.depth v d.shown
  | _, _, _, .none, _, _ => ⟨[], (fun _ z => nomatch z), by simp only [PyData.shown]; exact ReprK.of_is ReprIs.none _ _ _⟩
  | _, _, _, .bool k, _, _ => ⟨[], (fun _ z => nomatch z), by simp only [PyData.shown]; exact ReprK.of_is (ReprIs.bool k) _ _ _⟩
  | _, _, _, .int i t, c, _ => ⟨[], (fun _ z => nomatch z), by
    simp only [PyData.shown]
    exact reprK_int hn (log_few (by simpa [showB] using c))⟩
  | _, _, _, .str x t, _, z => ⟨[], (fun _ z => nomatch z), by
    simp only [PyData.shown] at z ⊢
    exact ReprK.of_is (ReprIs.str x t z) _ _ _⟩
  | _, _, _, .list (a := a) (vs := vs) (xs := xs) e1 e2 e3 e4, c, z => by
    have up : (listText (PyData.shownAll xs)).length ≤ sizeLine := by simpa only [PyData.shown] using z
    obtain ⟨l, m, k⟩ := reprAllK_big hn e4 (by simpa [showB] using c) fun t ht => Nat.le_trans (listText_mem_le ht) up
    have own : Reads B (.ref a) (.list xs) _ := .list e1 e2 e3 e4
    have out : a ∉ l := not_mem_of_deeper own (by simp only [PyData.depth]; omega) m
    refine ⟨a :: l, ReadAtMost.cons own (by simp only [PyData.depth]; omega) m, ?_⟩
    simp only [PyData.depth, PyData.shown]
    match vs, e3, e4, k with
    | ⟨[]⟩, e3, e4, k =>
      cases (show ReadsAll B [] xs _ from e4)
      simp only [PyData.shownAll, listText_nil]
      exact ReprK.listEmpty e1 e2 e3
    | ⟨x :: r⟩, e3, e4, k => exact ReprK.list e1 e2 e3 out (by simpa using k.length_eq) fun j y q => k.item j y (by simpa using q)
  | _, _, _, .tuple (a := a) (xs := xs) e1 e2 e3 e4, c, z => by
    have up : (tupleText (PyData.shownAll xs)).length ≤ sizeLine := by simpa only [PyData.shown] using z
    obtain ⟨l, m, k⟩ := reprAllK_big hn e4 (by simpa [showB] using c) fun t ht => Nat.le_trans (tupleText_mem_le ht) up
    have own : Reads B (.ref a) (.tuple xs) _ := .tuple e1 e2 e3 e4
    have out : a ∉ l := not_mem_of_deeper own (by simp only [PyData.depth]; omega) m
    refine ⟨a :: l, ReadAtMost.cons own (by simp only [PyData.depth]; omega) m, ?_⟩
    simp only [PyData.depth, PyData.shown]
    exact ReprK.tuple e1 e2 e3 out k
  | _, _, _, .dict _ _ _ _ _, c, _ => by simp [showB] at c
theorem reprAllK_big (hn : B.NoDigits) : ∀ {vs : List Value} {ds : List PyData} {as : List Addr}, ReadsAll B vs ds as → showB.showBs ds = true → (∀ t ∈ PyData.shownAll ds, t.length ≤ sizeLine) →
    ∃ l, ReadAtMost B (PyData.depthAll ds) l ∧ ReprAllK P w l B (PyData.depthAll ds) vs (PyData.shownAll ds)
  | _, _, _, .nil, _, _ => ⟨[], (fun _ z => nomatch z), by simp only [PyData.shownAll]; exact .nil⟩
  | _, _, _, .cons (d := d) (ds := ds) e r, c, z => by
    have c' : showB d = true ∧ showB.showBs ds = true := by simpa [showB.showBs] using c
    obtain ⟨l1, m1, k1⟩ := reprK_big hn e c'.1 (z _ (by simp only [PyData.shownAll]; exact List.mem_cons_self))
    obtain ⟨l2, m2, k2⟩ := reprAllK_big hn r c'.2 fun t ht => z t (by simp only [PyData.shownAll]; exact List.mem_cons_of_mem _ ht)
    have le1 : d.depth ≤ PyData.depthAll (d :: ds) := by simp only [PyData.depthAll]; omega
    have le2 : PyData.depthAll ds ≤ PyData.depthAll (d :: ds) := by simp only [PyData.depthAll]; omega
    refine ⟨l1 ++ l2, (m1.mono le1).append (m2.mono le2), ?_⟩
    simp only [PyData.shownAll]
    exact .cons ((k1.more fun b q => List.mem_append_left _ q).level_le le1) (k2.more_le (fun b q => List.mem_append_right _ q) le2)
end
theorem repr_big {A : Around} {E : Value → Shared → Prop} {s : Shared} {Q : Value → Shared → Prop} {a : Addr} {d : PyData} {as : List Addr} (hn : B.NoDigits) (r : Reads B (.ref a) d as) (c : showB d = true) (hg : A.guards = some []) (hu : A.units + (d.depth + 1) < cLine)
    (hk : ∀ b o, B.get? b = some o → s.heap.get? b = some o) (hQ : ∀ h' u tk, (∀ b o, s.heap.get? b = some o → h'.get? b = some o) → Q (.str d.shown u) { s with heap := h', toks := tk }) (z : d.shown.length ≤ sizeLine) :
    wpAny (model P w) A (call (.builtin "repr") [.ref a]) Q E s := by
  have own := r
  cases r with
  | list e1 e2 e3 e4 =>
    rename_i o vs n xs l0
    have up : (listText (PyData.shownAll xs)).length ≤ sizeLine := by simpa only [PyData.shown] using z
    obtain ⟨l, m, k⟩ := reprAllK_big (P := P) (w := w) hn e4 (by simpa [showB] using c) fun t ht => Nat.le_trans (listText_mem_le ht) up
    have out : a ∉ l := not_mem_of_deeper own (by simp only [PyData.depth]; omega) m
    simp only [PyData.depth] at hu
    simp only [PyData.shown] at hQ
    refine call_repr_slot (by omega) ⟨o, hk _ _ e1, e2⟩ F.slot_list_repr.toG ?_
    match vs, e3, e4, k with
    | ⟨[]⟩, e3, e4, k =>
      cases (show ReadsAll B [] xs _ from e4)
      simp only [PyData.shownAll, listText_nil] at hQ
      exact call_list_repr_empty ⟨o, hk _ _ e1, e2⟩ (hk _ _ e1) e3 ⟨_, _, rfl, hQ s.heap _ _ fun _ _ q => q⟩
    | ⟨x :: r⟩, e3, e4, k =>
      exact call_list_reprK e1 e2 e3 out (by simpa using k.length_eq) (fun j y q => k.item j y (by simpa using q)) (A := A.in1) hg (fun b _ => Clear.nil b) (by show A.units + 1 + _ < cLine; omega) hk (fun h' u tk q => ⟨_, _, rfl, hQ h' u tk q⟩) up
  | tuple e1 e2 e3 e4 =>
    rename_i o vs n xs
    have up : (tupleText (PyData.shownAll xs)).length ≤ sizeLine := by simpa only [PyData.shown] using z
    obtain ⟨l, m, k⟩ := reprAllK_big (P := P) (w := w) hn e4 (by simpa [showB] using c) fun t ht => Nat.le_trans (tupleText_mem_le ht) up
    have out : a ∉ l := not_mem_of_deeper own (by simp only [PyData.depth]; omega) m
    simp only [PyData.depth] at hu
    simp only [PyData.shown] at hQ
    refine call_repr_slot (by omega) ⟨o, hk _ _ e1, e2⟩ F.slot_tuple_repr ?_
    exact call_tuple_reprK e1 e2 e3 out k (A := A.in1) hg (fun b _ => Clear.nil b) (by show A.units + 1 + _ < cLine; omega) hk (fun h' u tk q => ⟨_, _, rfl, hQ h' u tk q⟩) up
  | dict _ _ _ _ _ => simp [showB] at c
end
section
variable {X : Cx}
/-- repr(x), x a list or a tuple -/
def rRepr (K : PySem.W.Frag) : List V → Hp → VK → Prop := fun vs H Q => ∃ a d, vs = [.ref a] ∧ Dp K H (.ref a) d ∧ showB d = true ∧ d.canLay0 = true ∧ d.depth ≤ 64 ∧ d.shown.length ≤ sizeLine ∧ Q (.str d.shown) H
theorem cr_repr (hn : X.base.NoDigits) (hg : X.A.guards = some []) (hu : X.A.units + 70 < cLine) : CallR X (.builtin "repr") (rRepr X.K) := by
  intro pins s σ H xs us Q I r h
  obtain ⟨a, d, rfl, hd, h1, h2, h3, h4, q⟩ := h
  rw [Vals.ref1 r]
  obtain ⟨as, rd⟩ := Dp.reads I d (.ref a) (.ref a) hd rfl
  refine repr_big (hn.keeps I.bk) rd h1 hg (by omega) (fun _ _ e => e) (fun h' u tk k => ?_) h4
  exact ⟨.str d.shown, H, I.kept k, ⟨u, rfl⟩, q⟩
theorem bi_repr (hn : X.base.NoDigits) (hg : X.A.guards = some []) (hu : X.A.units + 70 < cLine) : CallR X (.builtin "repr") (rN X.K (biF .repr)) := CallR.imp (cr_repr hn hg hu) fun xs H Q h => by
  obtain ⟨F, as, r, p, s, hr, e, q⟩ := h
  obtain ⟨a, ea, e2⟩ := one_of (g := reprF) (fun _ => rfl) rfl (fun _ _ _ => rfl) e
  subst ea
  clear e
  obtain ⟨x, rfl, h1⟩ := hr.one'
  obtain ⟨d, e3, e4⟩ := bind_some' e2
  obtain ⟨c, rfl⟩ := if_some e4
  obtain ⟨c0, c1, c2, c3, c4⟩ := c
  have hd := h1.dp s e3
  obtain ⟨l, rfl⟩ : ∃ l, x = .ref l := by
    cases hd <;> first | exact ⟨_, rfl⟩ | cases c0
  exact ⟨l, d, rfl, hd.dp, c1, c2, c3, Nat.le_trans (shown_up d c2) c4, q _ _ _ _ (mkStr s _)⟩
end
end Ev
end
section
set_option Elab.async false
set_option linter.all false
set_option maxHeartbeats 1000000
/-! sorted of data that are alike, empty tuples among them. -/
namespace Ev
open PySem PySem.Spec PySem.W PySem.SeqAt PyProof.Rows L2
section
variable {prog : Program} {w : World} {A : Around} {E : Value → Shared → Prop} {s : Shared}
theorem call_tuple_lt' {Q : Value → Shared → Prop} {l b : Addr} {items items2 : Array Value} {e r : Nat → Bool} (hl : s.heap.IsTuple l items) (hb : s.heap.IsTuple b items2)
    (he : ∀ j (h1 : j < items.size) (h2 : j < items2.size), SeqAt.EqAt A.in1 s items[j] items2[j] (e j)) (hr : ∀ j (h1 : j < items.size) (h2 : j < items2.size), e j = false → RcLt A.in1 s items[j] items2[j] (r j))
    (h : Q (.bool (firstLt e r (decide (items.size < items2.size)) (List.range (min items.size items2.size)))) s) : wpAny (model prog w) A (call (.builtin "tuple.__lt__") [.ref l, .ref b]) Q E s := by
  obtain ⟨⟨c1, d1, t1, s1⟩, o1, k1, n1, q1⟩ := id hl
  obtain ⟨⟨c2, d2, t2, s2⟩, o2, k2, n2, q2⟩ := id hb
  simp only at k1 q1 k2 q2
  subst k1 q1 k2 q2
  exact call_meets F.slot_tuple_lt ⟨_, o1, rfl⟩ F.entry_tuple_lt (F.args_tuple_lt_2 _ _) (SeqAt.tuple_ltAt l b items items2 n1 n2 d1 d2 s1 s2 e r) ⟨o1, o2, he, hr, h⟩
/-- one tuple against another, as keys of one type -/
theorem oneLt_tup {f : Bool} {xs ys : List PyData} {a b : Value} {as bs : List Addr} {Q : Bool → Shared → Prop} (ra : Reads s.heap a (.tuple xs) as) (rb : Reads s.heap b (.tuple ys) bs) (hal : alikeAll xs ys = true)
    (hu : A.units + min (PyData.tuple xs).depth (PyData.tuple ys).depth < cLine) (hq : Q (dataLt (.tuple xs) (.tuple ys)) s) : wpAny (model prog w) A (oneLt' f a b) Q E s := by
  cases f with
  | false =>
    rw [oneLt'_eq]
    simp only [Bool.false_eq_true, if_false]
    exact wpAny_bind (rcLt_alike (.tuple xs) (.tuple ys) A s a b as bs ra rb (by simpa [alike] using hal) (by simp) hu prog w E _ (wpAny_truthy_bool hq))
  | true =>
    cases ra with
    | @tuple l o vs n _ as1 h1 h2 h3 h4 =>
      cases rb with
      | @tuple l2 o2 ws n2 _ bs1 k1 k2 k3 k4 =>
        have e1 : vs.size = xs.length := by simpa using SeqAt.ReadsAll.length _ _ _ h4
        have e2 : ws.size = ys.length := by simpa using SeqAt.ReadsAll.length _ _ _ k4
        rw [dataLt_tuple, ← firstLt_toks xs ys hal, ← e1, ← e2] at hq
        rw [oneLt'_eq]
        simp only [if_true]
        refine wpAny_bind (wpAny_cRoomFor (SeqAt.room_here hu) ?_)
        refine wpAny_bind (wpAny_callSpecialIfBound?_slot (T := "tuple") ⟨_, h1, h2⟩ F.slot_tuple_lt (call_tuple_lt' (e := pairEq xs ys) (r := fun j => dataLt (xs.getD j .none) (ys.getD j .none)) ⟨_, h1, h2, _, h3⟩ ⟨_, k1, k2, _, k3⟩ (fun j j1 j2 => ?_) (fun j j1 j2 hj => ?_) ?_))
        · have z := eqAt_alikeAll xs ys A.in1 s vs.toList ws.toList _ _ h4 k4 hal (SeqAt.room_in hu) j (by simpa using j1) (by simpa using j2)
          simpa using z
        · have z := rcLt_alikeAll xs ys A.in1 s vs.toList ws.toList _ _ h4 k4 hal (SeqAt.room_in hu) j (by simpa using j1) (by simpa using j2) hj
          simpa using z
        · exact wpAny_truthy_bool hq
theorem general_lt (x y : Value) : keyLt' general' x y = oneLt' false x y := rfl
/-- what firstOfTuple finds: some just of tuples that hold something -/
def hasOne : PyData → Bool
  | .tuple (_ :: _) => true
  | _ => false
theorem firsts_run : ∀ (vs : List Value) (ds : List PyData) {Q : List (Option Value) → Shared → Prop}, EachIs (fun v d => ∃ as, Reads s.heap v d as) vs ds → (∀ d ∈ ds, ∃ xs, d = .tuple xs) →
    (∀ fs, EachIs (fun (f : Option Value) d => f.isSome = hasOne d) fs ds → Q fs s) → wpAny (model prog w) A (vs.mapM firstOfTuple') Q E s
  | [], [], Q, _, _, h => by
    rw [List.mapM_nil]
    exact wpAny_pure (h [] .nil)
  | v :: vs, d :: ds, Q, .cons ⟨as, r⟩ t, ht, h => by
    rw [List.mapM_cons]
    obtain ⟨xs, rfl⟩ := ht d List.mem_cons_self
    cases r with
    | @tuple a o us n _ _ h1 h2 h3 h4 =>
      have rr : Reads s.heap (.ref a) (.tuple xs) as := .tuple h1 h2 h3 h4
      refine wpAny_bind ?_
      rw [kas_first_eq]
      refine wpAny_bind ((looks_reads (M := model prog w) rr).here ?_)
      rw [if_neg (by first | decide | simp [dataType])]
      refine wpAny_bind (listItems_at h1 h3 (wpAny_pure ?_))
      refine wpAny_bind (firsts_run vs ds t (fun d hd => ht d (List.mem_cons_of_mem _ hd)) fun fs hfs => wpAny_pure (h _ (.cons ?_ hfs)))
      have e1 : us.size = xs.length := by simpa using SeqAt.ReadsAll.length _ _ _ h4
      cases xs with
      | nil =>
        have : us[0]? = none := Array.getElem?_eq_none (by rw [e1]; exact Nat.le_refl _)
        rw [this]; rfl
      | cons x r =>
        have hz : 0 < us.size := by rw [e1]; exact Nat.succ_pos _
        rw [Array.getElem?_eq_getElem hz]; rfl
/-- keys that are tuples, an empty one among them -/
theorem kind_tup0 {vs : List Value} {ds : List PyData} (e : EachIs (fun v d => ∃ as, Reads s.heap v d as) vs ds) (ht : ∀ d ∈ ds, ∃ xs, d = .tuple xs) (h0 : ∃ d ∈ ds, hasOne d = false) (h2 : 2 ≤ vs.length) {Q : SortKind → Shared → Prop}
    (hg : Q general' s) (ho : Q oneType' s) : wpAny (model prog w) A (keyKind' vs.toArray) Q E s := by
  rw [keyKind'_eq, List.mapM_toArray, map_eq_pure_bind]
  refine wpAny_bind (wpAny_bind (firsts_run vs ds e ht fun fs hfs => wpAny_pure ?_))
  have hno : ¬ (fs.toArray.all fun x => x.isSome) = true := by
    intro z
    rw [List.all_toArray, List.all_eq_true] at z
    obtain ⟨d, hd, hf⟩ := h0
    have back : ∀ {fs : List (Option Value)} {ds : List PyData}, EachIs (fun (f : Option Value) d => f.isSome = hasOne d) fs ds → ∀ d ∈ ds, ∃ f ∈ fs, f.isSome = hasOne d := by
      intro fs ds h
      induction h with
      | nil => intro d hd; exact absurd hd (by simp)
      | cons h t ih =>
        intro d hd
        rcases List.mem_cons.mp hd with rfl | hd
        · exact ⟨_, List.mem_cons_self, h⟩
        · obtain ⟨f, m, q⟩ := ih d hd
          exact ⟨f, List.mem_cons_of_mem _ m, q⟩
    obtain ⟨f, m, q⟩ := back hfs d hd
    rw [z f m, hf] at q
    cases q
  rw [if_neg hno]
  split
  · exact wpAny_pure hg
  · rw [oneTypeOnly'_eq, List.mapM_toArray, map_eq_pure_bind]
    refine wpAny_bind (wpAny_bind (wpAny_bind (kas_mapM (r := Value.type "tuple") _ (fun v hv Q' hq => ?_) (wpAny_pure ?_))))
    · obtain ⟨d, hd, as, r⟩ := e.left v hv
      obtain ⟨xs, rfl⟩ := ht d hd
      exact (looks_reads (M := model prog w) r).here hq
    · obtain ⟨v, rest, rfl⟩ : ∃ v rest, vs = v :: rest := by
        cases vs with
        | nil => simp at h2
        | cons v r => exact ⟨v, r, rfl⟩
      have h1 : (List.map (fun _ => Value.type "tuple") (v :: rest)).toArray[0]? = some (Value.type "tuple") := by simp
      have hall : ((List.map (fun _ => Value.type "tuple") (v :: rest)).toArray.all fun x => x == Value.type "tuple") = true := by
        simp only [List.all_toArray, List.all_map, List.all_eq_true]
        intro _ _
        rfl
      rw [h1]
      simp only [hall, if_true]
      exact wpAny_pure (wpAny_pure ho)
theorem sorts_tup0 {vs : List Value} {ds : List PyData} (e : EachIs (fun v d => ∃ as, Reads s.heap v d as) vs ds) (hal : AllAlike ds) (ht : ∀ d ∈ ds, ∃ xs, d = .tuple xs) (h0 : ∃ d ∈ ds, hasOne d = false)
    (hu : ∀ d, d ∈ ds → A.units + d.depth < cLine) : SortsAt prog w A s (dataKind s.heap ds) vs := by
  have room : ∀ {d d' : PyData}, d ∈ ds → A.units + min d.depth d'.depth < cLine := fun {d d'} hd => Nat.lt_of_le_of_lt (Nat.add_le_add_left (Nat.min_le_left _ _) _) (hu d hd)
  have lt : ∀ (f : Bool) (E : Value → Shared → Prop) (x y : Value) (a b : (dataKind s.heap ds).α) {Q : Bool → Shared → Prop}, (dataKind s.heap ds).keyOf x = some a → (dataKind s.heap ds).keyOf y = some b → Q ((dataKind s.heap ds).blt a b) s → wpAny (model prog w) A (oneLt' f x y) Q E s := by
    intro f E x y a b Q ha hb hq
    obtain ⟨d, as, hd, ra, rfl⟩ := dataKind_inv ha
    obtain ⟨d2, bs, hd2, rb, rfl⟩ := dataKind_inv hb
    obtain ⟨xs, rfl⟩ := ht d hd
    obtain ⟨ys, rfl⟩ := ht d2 hd2
    exact oneLt_tup ra rb (by simpa [alike] using hal _ hd _ hd2) (room hd) hq
  have keys : ∀ v, v ∈ vs → ∃ a, (dataKind s.heap ds).keyOf v = some a := fun v hv => by
    obtain ⟨d, hd, as, r⟩ := e.left v hv
    exact ⟨_, dataKind_some hal hd r⟩
  -- which kind it is, is told by the first key
  have pick : (∀ (E : Value → Shared → Prop) {Q : SortKind → Shared → Prop}, 2 ≤ vs.length → Q general' s → wpAny (model prog w) A (keyKind' vs.toArray) Q E s) ∨ (∀ (E : Value → Shared → Prop) {Q : SortKind → Shared → Prop}, 2 ≤ vs.length → Q oneType' s → wpAny (model prog w) A (keyKind' vs.toArray) Q E s) := by
    by_cases h2 : 2 ≤ vs.length
    · have both : ∀ {Q : SortKind → Shared → Prop} (E : Value → Shared → Prop), Q general' s → Q oneType' s → wpAny (model prog w) A (keyKind' vs.toArray) Q E s := fun {Q} E a b => kind_tup0 e ht h0 h2 a b
      cases ds with
      | nil =>
        obtain ⟨d, hd, _⟩ := h0
        exact absurd hd (by simp)
      | cons d0 dr =>
        cases hf : hasOne d0 with
        | true =>
          refine .inl fun E Q _ hq => ?_
          rw [keyKind'_eq, List.mapM_toArray, map_eq_pure_bind]
          refine wpAny_bind (wpAny_bind (firsts_run vs (d0 :: dr) e ht fun fs hfs => wpAny_pure ?_))
          have hno : ¬ (fs.toArray.all fun x => x.isSome) = true := by
            intro z
            rw [List.all_toArray, List.all_eq_true] at z
            obtain ⟨d, hd, hf⟩ := h0
            have back : ∀ {fs : List (Option Value)} {ds : List PyData}, EachIs (fun (f : Option Value) d => f.isSome = hasOne d) fs ds → ∀ d ∈ ds, ∃ f ∈ fs, f.isSome = hasOne d := by
              intro fs ds h
              induction h with
              | nil => intro d hd; exact absurd hd (by simp)
              | cons h t ih =>
                intro d hd
                rcases List.mem_cons.mp hd with rfl | hd
                · exact ⟨_, List.mem_cons_self, h⟩
                · obtain ⟨f, m, q⟩ := ih d hd
                  exact ⟨f, List.mem_cons_of_mem _ m, q⟩
            obtain ⟨f, m, q⟩ := back hfs d hd
            rw [z f m, hf] at q
            cases q
          rw [if_neg hno]
          cases hfs with
          | @cons f _ fr _ h t =>
            have : ((f :: fr).toArray[0]?.bind id).isSome = true := by
              rw [hf] at h
              simpa using h
            rw [if_pos this]
            exact wpAny_pure hq
        | false =>
          refine .inr fun E Q _ hq => ?_
          rw [keyKind'_eq, List.mapM_toArray, map_eq_pure_bind]
          refine wpAny_bind (wpAny_bind (firsts_run vs (d0 :: dr) e ht fun fs hfs => wpAny_pure ?_))
          cases hfs with
          | @cons f _ fr _ h t =>
            rw [hf] at h
            have hn : f = none := by
              cases f with
              | none => rfl
              | some z => cases h
            subst hn
            have hno : ¬ ((none :: fr).toArray.all fun x : Option Value => x.isSome) = true := by simp
            rw [if_neg hno]
            have hno2 : ¬ (((none :: fr).toArray : Array (Option Value))[0]?.bind id).isSome = true := by simp
            rw [if_neg hno2]
            rw [oneTypeOnly'_eq, List.mapM_toArray, map_eq_pure_bind]
            refine wpAny_bind (wpAny_bind (wpAny_bind (kas_mapM (r := Value.type "tuple") _ (fun v hv Q' hq => ?_) (wpAny_pure ?_))))
            · obtain ⟨d, hd, as, r⟩ := e.left v hv
              obtain ⟨xs, rfl⟩ := ht d hd
              exact (looks_reads (M := model prog w) r).here hq
            · obtain ⟨v, rest, rfl⟩ : ∃ v rest, vs = v :: rest := by
                cases vs with
                | nil => simp at h2
                | cons v r => exact ⟨v, r, rfl⟩
              have h1 : (List.map (fun _ => Value.type "tuple") (v :: rest)).toArray[0]? = some (Value.type "tuple") := by simp
              have hall : ((List.map (fun _ => Value.type "tuple") (v :: rest)).toArray.all fun x => x == Value.type "tuple") = true := by
                simp only [List.all_toArray, List.all_map, List.all_eq_true]
                intro _ _
                rfl
              rw [h1]
              simp only [hall, if_true]
              exact wpAny_pure (wpAny_pure hq)
    · exact .inl fun E Q h => absurd h h2
  refine ⟨keys, ?_⟩
  rcases pick with pk | pk
  · exact ⟨general', fun E x y a b Q ha hb hq => by rw [general_lt]; exact lt false E x y a b ha hb hq, fun h2 E Q hq => pk E h2 hq⟩
  · exact ⟨oneType', fun E x y a b Q ha hb hq => by rw [keyLt'_oneType]; exact lt true E x y a b ha hb hq, fun h2 E Q hq => pk E h2 hq⟩
theorem sorts_data {vs : List Value} {ds : List PyData} (e : EachIs (fun v d => ∃ as, Reads s.heap v d as) vs ds) (hs : sortable ds = true) (hu : A.units + 60 < cLine) : SortsAt prog w A s (dataKind s.heap ds) vs := by
  have h : ∀ d ∈ ds, (d.canLay0 = true ∧ d.depth ≤ 60) ∧ d ≠ .none ∧ ∀ y ∈ ds, alike d y = true := fun d hd => by
    have z := List.all_eq_true.mp hs d hd
    simp only [Bool.and_eq_true, List.all_eq_true, decide_eq_true_eq] at z
    refine ⟨z.1.1, fun q => ?_, z.2⟩
    subst q
    exact absurd z.1.2 (by simp)
  have hal : AllAlike ds := fun d hd y hy => (h d hd).2.2 y hy
  have hr : ∀ d, d ∈ ds → A.units + d.depth < cLine := fun d hd => by have := (h d hd).1.2; omega
  by_cases ht : ∀ d ∈ ds, ∃ xs, d = .tuple xs
  · by_cases h0 : ∃ d ∈ ds, hasOne d = false
    · exact sorts_tup0 e hal ht h0 hr
    · refine SortsAt.data e hal (.inl fun d hd => ?_) hr
      obtain ⟨xs, rfl⟩ := ht d hd
      cases xs with
      | nil => exact absurd ⟨_, hd, rfl⟩ h0
      | cons x r => exact ⟨x, r, rfl⟩
  · refine SortsAt.data e hal (.inr fun d hd => ⟨(h d hd).2.1, fun xs q => ?_⟩) hr
    subst q
    refine ht fun d2 hd2 => ?_
    have z := (h _ hd).2.2 d2 hd2
    cases d2 with
    | tuple ys => exact ⟨ys, rfl⟩
    | _ => simp [alike] at z
end
section
variable {X : Cx}
/-- sorted(xs): the items, and their data, in one order -/
def rSortD (K : PySem.W.Frag) : List V → Hp → VK → Prop := fun vs H Q => ∃ a xs ds, vs = [.ref a] ∧ SqL K H a xs ∧ DpAll K H xs ds ∧ sortable ds = true ∧
  ∀ p (zs : List (V × PyData)), H p = none → (∀ z ∈ zs, z ∈ xs.zip ds) → zs.map Prod.snd = sortD ds → Q (.ref p) (upd H p (.lst (zs.map Prod.fst)))
theorem eachIs_reads {pins : List (Addr × Obj)} {σ : L2.St} {H : Hp} {s : Shared} (I : Inv X pins σ H s) : ∀ {xs : List V} {ds : List PyData} {us : List Value}, DpAll X.K H xs ds → Vals xs us → EachIs (fun v d => ∃ as, Reads s.heap v d as) us ds
  | _, _, _, .nil, .nil => .nil
  | _, _, _, .cons h t, .cons r rt => .cons (Dp.reads I _ _ _ h r) (eachIs_reads I t rt)
/-- values, their short forms, their data: sorted together -/
theorem vals_zip3 : ∀ {xs : List V} {ds : List PyData} {us : List Value}, Vals xs us → xs.length = ds.length → EachIs (fun (u : Value) (z : V × PyData) => RelV z.1 u) us (xs.zip ds)
  | _, [], _, .nil, _ => .nil
  | _, d :: ds, _, .cons r t, h => .cons r (vals_zip3 t (Nat.succ.inj h))
theorem each_vals : ∀ {us : List Value} {zs : List (V × PyData)}, EachIs (fun (u : Value) (z : V × PyData) => RelV z.1 u) us zs → Vals (zs.map Prod.fst) us
  | _, _, .nil => .nil
  | _, _, .cons h t => .cons h (each_vals t)
theorem DpAll.len {K : PySem.W.Frag} {H : Hp} : ∀ {xs : List V} {ds : List PyData}, DpAll K H xs ds → xs.length = ds.length
  | _, _, .nil => rfl
  | _, _, .cons _ t => congrArg (· + 1) (DpAll.len t)
theorem each_pair {α β γ : Type} {R : α → β → Prop} {T : α → γ → Prop} : ∀ {as : List α} {bs : List β} {cs : List γ}, EachIs R as bs → EachIs T as cs → EachIs (fun a (z : β × γ) => R a z.1 ∧ T a z.2) as (bs.zip cs)
  | _, _, _, .nil, .nil => .nil
  | _, _, _, .cons h t, .cons k u => .cons ⟨h, k⟩ (each_pair t u)
theorem cr_sortD (hu : X.A.units + 70 < cLine) : CallR X (.builtin "sorted") (rSortD X.K) := by
  intro pins s σ H vs us Q I r h
  obtain ⟨a, xs, ds, rfl, hs, hd, hb, q⟩ := h
  obtain ⟨its, rv, hl, hz⟩ := I.list hs
  rw [Vals.ref1 r]
  have hlen := rv.length
  have e0 := eachIs_reads I hd rv
  have e1 : EachIs (fun v d => ∃ as, Reads (sortingHeap (copyHeap s.heap its) (s.heap.objs.size + 1) its) v d as) its ds := e0.mono fun v d ⟨as, rd⟩ => ⟨as, PyProof.Rows.Reads.keeps (fun b o e => sorting_copy_old e) rd⟩
  have S := sorts_data (prog := X.prog) (w := X.w) (A := X.A.in1.in1) (s := { s with heap := sortingHeap (copyHeap s.heap its) (s.heap.objs.size + 1) its }) e1 hb (by show X.A.units + 1 + 1 + 60 < cLine; omega)
  refine sorted_vals hl.isList S (by rw [← hlen]; exact hz) ?_
  have hal : AllAlike ds := fun d hd' y hy => by
    have z := List.all_eq_true.mp hb d hd'
    simp only [Bool.and_eq_true, List.all_eq_true] at z
    exact z.2 y hy
  -- the items with their short forms and data
  have e3 := each_pair (vals_zip3 rv (DpAll.len hd)) e1
  have hz2 : (xs.zip ds).zip ds = (xs.zip ds).map fun z => (z, z.2) := by
    have : ∀ (xs : List V) (ds : List PyData), (xs.zip ds).zip ds = (xs.zip ds).map fun z => (z, z.2) := by
      intro xs
      induction xs with
      | nil => intro ds; simp
      | cons x xs ih =>
        intro ds
        cases ds with
        | nil => simp
        | cons d ds => simp [ih]
    exact this xs ds
  have e4 : EachIs (fun (u : Value) (z : V × PyData) => RelV z.1 u ∧ ∃ as, Reads (sortingHeap (copyHeap s.heap its) (s.heap.objs.size + 1) its) u z.2 as) its (xs.zip ds) := by
    rw [hz2] at e3
    have back : ∀ {us : List Value} {zs : List (V × PyData)}, EachIs (fun (u : Value) (y : (V × PyData) × PyData) => RelV y.1.1 u ∧ ∃ as, Reads (sortingHeap (copyHeap s.heap its) (s.heap.objs.size + 1) its) u y.2 as) us (zs.map fun z => (z, z.2)) →
        EachIs (fun (u : Value) (z : V × PyData) => RelV z.1 u ∧ ∃ as, Reads (sortingHeap (copyHeap s.heap its) (s.heap.objs.size + 1) its) u z.2 as) us zs := by
      intro us
      induction us with
      | nil => intro zs h; cases zs with
        | nil => exact .nil
        | cons z zs => cases h
      | cons u us ih => intro zs h; cases zs with
        | nil => cases h
        | cons z zs => cases h with
          | cons h t => exact .cons h (ih t)
    exact back e3
  have hmem : ∀ z ∈ xs.zip ds, z.2 ∈ ds := fun z hz => (List.of_mem_zip hz).2
  have e5 := sortVals_each (κ := dataKind (sortingHeap (copyHeap s.heap its) (s.heap.objs.size + 1) its) ds) (rev := false) (fun z : V × PyData => keyToks z.2) (each_mem e4)
    ((each_mem e4).mono fun u z h => dataKind_some hal (hmem z h.2) h.1.2.choose_spec)
  have ed : ((xs.zip ds).mergeSort (sortLe (listOrd itemOrd) false fun z : V × PyData => keyToks z.2)).map Prod.snd = sortD ds := by
    unfold sortD
    have es : (sortLe (listOrd itemOrd) false fun z : V × PyData => keyToks z.2) = fun a b => leD a.2 b.2 := rfl
    rw [es, List.map_mergeSort (s := leD) (f := Prod.snd) (fun a _ b _ => rfl), List.map_snd_zip (by rw [DpAll.len hd]; exact Nat.le_refl _)]
  obtain ⟨ep, he⟩ := PyProof.Rows.sortedAll_at s.heap its (sortVals (dataKind (sortingHeap (copyHeap s.heap its) (s.heap.objs.size + 1) its) ds) false its its).toArray
  have e6 : Vals (((xs.zip ds).mergeSort (sortLe (listOrd itemOrd) false fun z : V × PyData => keyToks z.2)).map Prod.fst) (sortVals (dataKind (sortingHeap (copyHeap s.heap its) (s.heap.objs.size + 1) its) ds) false its its) := each_vals (e5.mono fun u z h => h.1.1)
  have e7 := e6.length
  have e8 : (sortVals (dataKind (sortingHeap (copyHeap s.heap its) (s.heap.objs.size + 1) its) ds) false its its).length = its.length := sortVals_length false rfl
  have hno : H (s.heap.objs.size + 1) = none := I.hok.fresh (Nat.le_succ _)
  have hq := q (s.heap.objs.size + 1) _ hno (fun z hz => (List.mergeSort_perm _ _).mem_iff.mp hz) ed
  exact ⟨.ref _, _, I.laid (t' := s.toks) (o := .lst _) (fun _ _ => PyProof.Rows.sortedAll_old) (Nat.le_succ _) ⟨by omega, _, ep, e6, he⟩, rfl, hq⟩
theorem bi_sorted (hu : X.A.units + 70 < cLine) : CallR X (.builtin "sorted") (rN X.K (biF .sorted)) := CallR.imp (cr_sortD hu) fun xs H Q h => by
  obtain ⟨F, as, r, p, s, hr, e, q⟩ := h
  obtain ⟨a, ea, e2⟩ := one_of (g := fun r => r.reads.bind fun p => if p.1 then (sortF p.2).map fun ys => R.lst ys else none) (fun _ => rfl) rfl (fun _ _ _ => rfl) e
  subst ea
  clear e
  obtain ⟨x, rfl, h1⟩ := hr.one'
  obtain ⟨⟨b, ds⟩, e3, e4⟩ := bind_some' e2
  obtain ⟨l, vs, rfl, d1, k⟩ := seq_of s h1 e3
  cases b with
  | false => cases e4
  | true =>
    obtain ⟨ys, e5, rfl⟩ := map_some' (show (sortF ds).map (fun ys => R.lst ys) = some r from e4)
    obtain ⟨c, rfl⟩ := if_some e5
    rcases k with ⟨_, k⟩ | ⟨z, _⟩
    · refine ⟨l, vs, ds, rfl, k, (d1.mono s).dp, c, fun p2 zs n hz ez => ?_⟩
      have hd : DqAll F (zs.map Prod.fst) (zs.map Prod.snd) := by
        have one : ∀ {vs : List V} {ds : List PyData}, DqAll F vs ds → ∀ z ∈ vs.zip ds, Dq F z.1 z.2 := by
          intro vs
          induction vs with
          | nil => intro ds h z hz; simp at hz
          | cons v vs ih => intro ds h z hz; cases h with
            | cons h t =>
              rcases List.mem_cons.mp hz with rfl | hz
              · exact h
              · exact ih t z hz
        have all : ∀ {zs : List (V × PyData)}, (∀ z ∈ zs, Dq F z.1 z.2) → DqAll F (zs.map Prod.fst) (zs.map Prod.snd) := by
          intro zs
          induction zs with
          | nil => intro _; exact .nil
          | cons z zs ih => intro h; exact .cons (h z List.mem_cons_self) (ih fun y hy => h y (List.mem_cons_of_mem _ hy))
        exact all fun z hz' => one d1 z (hz z hz')
      rw [ez] at hd
      exact q _ _ _ _ (Mkd.lst s hd n)
    · cases z
end
end Ev
end
section
set_option Elab.async false
set_option linter.all false
set_option maxHeartbeats 1000000
/-! Expressions: the readings of the machine follow from the plain functions. -/
namespace Ev
open PySem PySem.Spec PyProof.Rows L2
section
variable (K : PySem.W.Frag)
def tE (f : Env → Option (R × Env)) (q : Bool) : TE := fun σ H Q => ∃ F ρ fp r ρ', Rel K F H σ ρ fp ∧ f ρ = some (r, ρ') ∧ ∀ v F' H' p fp', Aft K F H fp σ q r ρ' v F' H' p fp' → Q v H'
def tAs (f : Env → Option (List R × Env)) (q : Bool) : TA := fun σ H Q => ∃ F ρ fp rs ρ', Rel K F H σ ρ fp ∧ f ρ = some (rs, ρ') ∧ ∀ vs F' H' p fp', Afs K F H fp σ q rs ρ' vs F' H' p fp' → Q vs H'
/-- behind a test -/
structure AfT (F H : Hp) (fp : List Addr) (σ : L2.St) (q : Bool) (ρ' : Env) (F' H' : Hp) (fp' : List Addr) : Prop where
  rel : Rel K F' H' σ ρ' fp'
  stp : Stp F H fp F' H' fp'
  qt : q = true → Same H H'
def tTs (f : Env → Option (Bool × Env)) (q : Bool) : TT := fun σ H Q => ∃ F ρ fp b ρ', Rel K F H σ ρ fp ∧ f ρ = some (b, ρ') ∧ ∀ F' H' fp', AfT K F H fp σ q ρ' F' H' fp' → Q b H'
end
section
variable {X : Cx}
theorem PE.imp {e : Expr} {t t' : TE} (h : PE X e t) (i : ∀ σ H Q, t' σ H Q → t σ H Q) : PE X e t' := ⟨fun pins s σ H Q I q => h.run pins s σ H Q I (i σ H Q q)⟩
theorem PT.imp {e : Expr} {t t' : TT} (h : PT X e t) (i : ∀ σ H Q, t' σ H Q → t σ H Q) : PT X e t' := ⟨fun pins s σ H Q I q => h.run pins s σ H Q I (i σ H Q q)⟩
theorem PA.imp {e : List Expr} {t t' : TA} (h : PA X e t) (i : ∀ σ H Q, t' σ H Q → t σ H Q) : PA X e t' := ⟨fun pos pins s σ H Q I q => h.run pos pins s σ H Q I (i σ H Q q)⟩
theorem PS.imp {e : Stmt} {t t' : TS} (h : PS X e t) (i : ∀ D σ H, t' D σ H → t D σ H) : PS X e t' := ⟨fun pins s σ H D I q => h.run pins s σ H D I (i D σ H q)⟩
theorem PSs.imp {e : List Stmt} {t t' : TS} (h : PSs X e t) (i : ∀ D σ H, t' D σ H → t D σ H) : PSs X e t' := ⟨fun pins s σ H D I q => h.run pins s σ H D I (i D σ H q)⟩
end
section
variable {K : PySem.W.Frag} {F H : Hp} {fp : List Addr} {σ : L2.St} {ρ : Env}
theorem Aft.leaf {r : R} {v : V} (h : Rel K F H σ ρ fp) (q : Bool) (z : RpR K F H v r []) : Aft K F H fp σ q r ρ v F H [] fp :=
  ⟨h, z, h.nd, fun a m => absurd m (by simp), Stp.refl F H fp, fun _ => ⟨Same.refl H, fun a m => absurd m (by simp)⟩⟩
theorem AfT.of {q : Bool} {r : R} {ρ' : Env} {v : V} {F' H' : Hp} {p fp' : List Addr} (a : Aft K F H fp σ q r ρ' v F' H' p fp') : AfT K F H fp σ q ρ' F' H' fp' :=
  ⟨a.rel, a.stp.less fun x m => List.mem_append_right _ m, fun h => (a.qt h).1⟩
theorem AfT.refl (h : Rel K F H σ ρ fp) (q : Bool) : AfT K F H fp σ q ρ F H fp := ⟨h, Stp.refl F H fp, fun _ => Same.refl H⟩
theorem AfT.trans {q1 q2 : Bool} {ρ1 ρ2 : Env} {F1 H1 F2 H2 : Hp} {fp1 fp2 : List Addr} (a : AfT K F H fp σ q1 ρ1 F1 H1 fp1) (b : AfT K F1 H1 fp1 σ q2 ρ2 F2 H2 fp2) : AfT K F H fp σ (q1 && q2) ρ2 F2 H2 fp2 :=
  ⟨b.rel, a.stp.trans b.stp, fun h => by
    rw [Bool.and_eq_true] at h
    exact (a.qt h.1).trans (b.qt h.2)⟩
/-- a step ahead of a value -/
theorem AfT.then {q1 q2 : Bool} {r : R} {ρ1 ρ2 : Env} {v : V} {F1 H1 F2 H2 : Hp} {p fp1 fp2 : List Addr} (a : AfT K F H fp σ q1 ρ1 F1 H1 fp1) (b : Aft K F1 H1 fp1 σ q2 r ρ2 v F2 H2 p fp2) : Aft K F H fp σ (q1 && q2) r ρ2 v F2 H2 p fp2 :=
  ⟨b.rel, b.rep, b.nd, b.dis, a.stp.trans b.stp, fun h => by
    rw [Bool.and_eq_true] at h
    have s1 := a.qt h.1
    obtain ⟨s2, n2⟩ := b.qt h.2
    exact ⟨s1.trans s2, fun x m => s1.free (n2 x m)⟩⟩
theorem Aft.less {q q2 : Bool} {r : R} {ρ' : Env} {v : V} {F' H' : Hp} {p fp' : List Addr} (a : Aft K F H fp σ q r ρ' v F' H' p fp') (h : q2 = true → q = true) : Aft K F H fp σ q2 r ρ' v F' H' p fp' :=
  ⟨a.rel, a.rep, a.nd, a.dis, a.stp, fun z => a.qt (h z)⟩
theorem AfT.less {q q2 : Bool} {ρ' : Env} {F' H' : Hp} {fp' : List Addr} (a : AfT K F H fp σ q ρ' F' H' fp') (h : q2 = true → q = true) : AfT K F H fp σ q2 ρ' F' H' fp' := ⟨a.rel, a.stp, fun z => a.qt (h z)⟩
theorem Afs.less {q q2 : Bool} {rs : List R} {ρ' : Env} {vs : List V} {F' H' : Hp} {p fp' : List Addr} (a : Afs K F H fp σ q rs ρ' vs F' H' p fp') (h : q2 = true → q = true) : Afs K F H fp σ q2 rs ρ' vs F' H' p fp' :=
  ⟨a.rel, a.rep, a.nd, a.dis, a.stp, fun z => a.qt (h z)⟩
theorem seq2_some {f g : Env → Option (R × Env)} {qg : Bool} {ra rb : R} {ρ2 : Env} (e : seq2 f g qg ρ = some (ra, rb, ρ2)) : ∃ ρ1, f ρ = some (ra, ρ1) ∧ (ra.isBo && !qg) = false ∧ g ρ1 = some (rb, ρ2) := by
  unfold seq2 at e
  obtain ⟨⟨a, ρ1⟩, e1, e2⟩ := bind_some' e
  by_cases h : (a.isBo && !qg) = true
  · simp [h] at e2
  · have h' : (a.isBo && !qg) = false := by simpa using h
    simp only [h'] at e2
    obtain ⟨⟨b, ρ3⟩, e3, e4⟩ := map_some' (show (g ρ1).map (fun z => (a, z.1, z.2)) = some (ra, rb, ρ2) from e2)
    cases e4
    exact ⟨ρ1, e1, h', e3⟩
/-- two expressions, one behind another -/
theorem two {f g : Env → Option (R × Env)} {qf qg : Bool} {ra rb : R} {ρ2 : Env} {Q : V → V → Hp → Prop} (h : Rel K F H σ ρ fp) (e : seq2 f g qg ρ = some (ra, rb, ρ2))
    (k : ∀ v1 v2 F2 H2 p fp2, Afs K F H fp σ (qf && qg) [ra, rb] ρ2 [v1, v2] F2 H2 p fp2 → Q v1 v2 H2) : tE K f qf σ H fun x H1 => tE K g qg σ H1 fun y H2 => Q x y H2 := by
  obtain ⟨ρ1, e1, hb, e2⟩ := seq2_some e
  refine ⟨F, ρ, fp, ra, ρ1, h, e1, fun v1 F1 H1 p1 fp1 a1 => ⟨F1, ρ1, fp1, rb, ρ2, a1.rel, e2, fun v2 F2 H2 p2 fp2 a2 => k _ _ _ _ _ _ (a1.cons a2.one hb)⟩⟩
theorem one {f : Env → Option (R × Env)} {q : Bool} {r : R} {ρ' : Env} {Q : V → Hp → Prop} (h : Rel K F H σ ρ fp) (e : f ρ = some (r, ρ')) (k : ∀ v F' H' p fp', Aft K F H fp σ q r ρ' v F' H' p fp' → Q v H') : tE K f q σ H Q := ⟨F, ρ, fp, r, ρ', h, e, k⟩
/-- a slot read -/
theorem read_ok {i : Nat} {r : R} {ρ' : Env} (h : Rel K F H σ ρ fp) (e : (match ρ.at_ i with | .no => none | .ow m => some (.bo m, ρ) | r => some (r, ρ)) = some (r, ρ')) : ρ' = ρ ∧ ∃ v, σ[i]? = some (some v) ∧ RpR K F H v r [] := by
  by_cases hn : ρ.at_ i = .no
  · rw [hn] at e; cases e
  · obtain ⟨v, p, l1, l2, e1, e2, e3, _, _, _⟩ := h.env.split i hn
    cases q : ρ.at_ i with
    | no => exact absurd q hn
    | d x =>
      rw [q] at e e2; cases e
      obtain ⟨z, rfl⟩ := id e2
      exact ⟨rfl, v, e1, e2⟩
    | ow m =>
      rw [q] at e e2; cases e
      exact ⟨rfl, v, e1, ⟨p, e2⟩, rfl⟩
    | fr m =>
      rw [q] at e e2; cases e
      obtain ⟨z, rfl⟩ := id e2
      exact ⟨rfl, v, e1, e2⟩
    | bo m => rw [q] at e3; cases e3
/-! ### freezing -/
def frzH (F H : Hp) (p : List Addr) : Hp := fun b => if b ∈ p then H b else F b
theorem frzH_same (h : ∀ a ∈ p, F a = none) : Same F (frzH F H p) := fun b o e => by
  unfold frzH
  by_cases m : b ∈ p
  · rw [h b m] at e; cases e
  · rw [if_neg m]; exact e
theorem frzH_in {p : List Addr} (s : Same F H) : Same (frzH F H p) H := fun b o e => by
  unfold frzH at e
  by_cases m : b ∈ p
  · rw [if_pos m] at e; exact e
  · rw [if_neg m] at e; exact s b o e
theorem frzH_new {p : List Addr} {a : Addr} {o : HO} (e : frzH F H p a = some o) (n : F a = none) : a ∈ p := by
  unfold frzH at e
  by_cases m : a ∈ p
  · exact m
  · rw [if_neg m, n] at e; cases e
mutual
theorem RpM.frz {p0 : List Addr} (s : Same F (frzH F H p0)) : ∀ {m : M} {v : V} {p : List Addr}, RpM K F H v m p → (∀ a ∈ p, a ∈ p0) → RpM K (frzH F H p0) (frzH F H p0) v m p
  | .d x, _, _, .d h, _ => .d (h.mono s)
  | .ls ms, _, _, .ls h t, k => .ls (by unfold frzH; rw [if_pos (k _ List.mem_cons_self)]; exact h) (RpMs.frz s t fun a m => k a (List.mem_cons_of_mem _ m))
  | .sq ds, _, _, .sq h t, _ => .sq (s.seq h) (t.mono s)
theorem RpMs.frz {p0 : List Addr} (s : Same F (frzH F H p0)) : ∀ {ms : List M} {vs : List V} {p : List Addr}, RpMs K F H vs ms p → (∀ a ∈ p, a ∈ p0) → RpMs K (frzH F H p0) (frzH F H p0) vs ms p
  | [], _, _, .nil, _ => .nil
  | m :: ms, _, _, .cons h t, k => .cons (RpM.frz s h fun a m => k a (List.mem_append_left _ m)) (RpMs.frz s t fun a m => k a (List.mem_append_right _ m))
end
/-- what may stand in a slot is plain data of the frozen heap -/
theorem RpR.frzD {v : V} {r : R} {p p0 : List Addr} {x : PyData} (s : Same F (frzH F H p0)) (h : RpR K F H v r p) (k : ∀ a ∈ p, a ∈ p0) (ok : r.isOk = true) (e : r.data = some x) : Dq (frzH F H p0) v x := by
  cases r with
  | no => exact h.elim
  | d y =>
    have e' : y = x := Option.some.inj e
    subst e'
    exact h.1.mono s
  | ow m => exact (RpM.frz s h k).dp (Same.refl _) e
  | fr m =>
    obtain ⟨⟨q, z⟩, _⟩ := h
    exact (z.dp (Same.refl F) e).mono s
  | bo m => cases ok
theorem RpRs.frzD {p0 : List Addr} (s : Same F (frzH F H p0)) : ∀ {rs : List R} {vs : List V} {p : List Addr} {xs : List PyData}, RpRs K F H vs rs p → (∀ a ∈ p, a ∈ p0) → rs.all R.isOk = true → rs.mapM R.data = some xs → DqAll (frzH F H p0) vs xs
  | [], _, _, xs, .nil, _, _, e => by
    have e' : [] = xs := by simpa using e
    subst e'
    exact .nil
  | r :: rs, _, _, xs, .cons h t, k, ok, e => by
    rw [List.all_cons, Bool.and_eq_true] at ok
    rw [List.mapM_cons] at e
    obtain ⟨y, e1, e2⟩ := bind_some' e
    obtain ⟨ys, e3, e4⟩ := bind_some' e2
    cases e4
    exact .cons (h.frzD s (fun a m => k a (List.mem_append_left _ m)) ok.1 e1) (RpRs.frzD s t (fun a m => k a (List.mem_append_right _ m)) ok.2 e3)
/-- a new tuple of such values: all within is frozen -/
theorem Afs.tup {q : Bool} {rs : List R} {ρ' : Env} {vs : List V} {F' H' : Hp} {p fp' : List Addr} {xs : List PyData} {a : Addr} (z : Afs K F H fp σ q rs ρ' vs F' H' p fp') (ok : rs.all R.isOk = true) (e : rs.mapM R.data = some xs) (n : H' a = none) :
    Aft K F H fp σ q (.tup xs) ρ' (.ref a) (upd (frzH F' H' p) a (.tup vs)) (upd H' a (.tup vs)) [] fp' := by
  have s1 : Same F' (frzH F' H' p) := frzH_same z.dis
  have s2 : Same (frzH F' H' p) H' := frzH_in z.rel.sub
  have nF : frzH F' H' p a = none := s2.free n
  have hd := z.rep.frzD s1 (fun a m => m) ok e
  refine z.made ⟨same_upd n, s1.trans (same_upd nF), Same.upd2 s2 n, fun b o e m => ?_, fun a m => absurd m (by simp), List.nodup_nil, ⟨.tup upd_same (hd.mono (same_upd nF)), rfl⟩⟩
  by_cases h : b = a
  · subst h; exact .inr n
  · rw [upd_ne h] at e
    exact .inl (frzH_new e m)
theorem RpRs.own : ∀ {rs : List R} {vs : List V} {p : List Addr}, RpRs K F H vs rs p → rs.all R.isOw = true → RpMs K F H vs (rs.map R.toM) p
  | [], _, _, .nil, _ => .nil
  | r :: rs, _, _, .cons h t, ok => by
    rw [List.all_cons, Bool.and_eq_true] at ok
    exact .cons (h.ownt ok.1) (RpRs.own t ok.2)
theorem RpRs.tree (s : Same F H) : ∀ {rs : List R} {vs : List V} {p : List Addr}, RpRs K F H vs rs p → ∃ q, RpMs K F H vs (rs.map R.toM) q
  | [], _, _, .nil => ⟨[], .nil⟩
  | r :: rs, _, _, .cons h t => by
    obtain ⟨q1, h1⟩ := h.tree s
    obtain ⟨q2, h2⟩ := RpRs.tree s t
    exact ⟨_, .cons h1 h2⟩
/-- a new list -/
theorem Afs.list {q : Bool} {rs : List R} {ρ' : Env} {vs : List V} {F' H' : Hp} {p fp' : List Addr} {a : Addr} (z : Afs K F H fp σ q rs ρ' vs F' H' p fp') (n : H' a = none) :
    ∃ p', Aft K F H fp σ q (if rs.all R.isOw then R.ow (.ls (rs.map R.toM)) else R.bo (.ls (rs.map R.toM))) ρ' (.ref a) F' (upd H' a (.lst vs)) p' fp' := by
  have hs : Same H' (upd H' a (.lst vs)) := same_upd n
  by_cases ow : rs.all R.isOw = true
  · rw [if_pos ow]
    refine ⟨a :: p, z.made ⟨hs, Same.refl F', z.rel.sub.trans hs, fun b o e m => (by rw [m] at e; cases e), fun b m => ?_, ?_, ?_⟩⟩
    · rcases List.mem_cons.mp m with rfl | m
      · exact ⟨.inr n, z.rel.sub.free n⟩
      · exact ⟨.inl m, z.dis b m⟩
    · refine List.nodup_cons.mpr ⟨fun m => ?_, (List.nodup_append.mp z.nd).1⟩
      obtain ⟨o, ho⟩ := z.rep.trk a m
      rw [n] at ho; cases ho
    · exact RpM.ls upd_same ((z.rep.own ow).mono (Same.refl F') fun b _ o e => hs b o e)
  · rw [if_neg ow]
    obtain ⟨q0, ht⟩ := z.rep.tree z.rel.sub
    refine ⟨[], z.made ⟨hs, Same.refl F', z.rel.sub.trans hs, fun b o e m => (by rw [m] at e; cases e), fun b m => absurd m (by simp), List.nodup_nil, ⟨⟨a :: q0, RpM.ls upd_same (ht.mono (Same.refl F') fun b _ o e => hs b o e)⟩, rfl⟩⟩⟩
end
end Ev
end
section
set_option Elab.async false
set_option linter.all false
set_option maxHeartbeats 1000000
/-! Defs that keep what a plain function says; their calls. -/
namespace Ev
open PySem PySem.Spec PyProof.Rows L2
/-- as FnOk, where no repr is under way -/
structure FnG (P : Program) (w : World) (K : PySem.W.Frag) (mg : Str → Option Value) (base : Heap) (k : Nat) (f : Addr) (fd : FuncData) (ps : List Str) (sp : Sp) : Prop where
  len : ∀ vs H Q E, sp vs H Q E → vs.length = ps.length
  go : ∀ (A : Around) (outer : List PySem.Env) (s : Shared) (H : Hp) (args : Args) (us : List Value) (vs : List V) (Q : VK) (E : XK), Room k A ∧ A.guards = some [] → Env0 P w K mg base A outer s H → BindsTo s fd args (ps.zip us) → Vals vs us → sp vs H Q E →
    codeAny (model P w) A (.call (.ref f) args) (CR (L2.CX P w) outer P w H s Q E) s
theorem FnG.mono {P : Program} {w : World} {K : PySem.W.Frag} {mg : Str → Option Value} {base : Heap} {j k : Nat} {f : Addr} {fd : FuncData} {ps : List Str} {sp : Sp} (F : FnG P w K mg base j f fd ps sp) (h : j ≤ k) : FnG P w K mg base k f fd ps sp :=
  ⟨F.len, fun A outer s H args us vs Q E hr => F.go A outer s H args us vs Q E ⟨hr.1.mono h, hr.2⟩⟩
section
variable (K : PySem.W.Frag)
/-- behind a def: p what its value owns, p0 what its first parameter does (where that is in and out) -/
structure Dft (F H : Hp) (fp : List Addr) (io : Bool) (vs : List V) (r r0 : R) (v : V) (F' H' : Hp) (p p0 : List Addr) : Prop where
  sub : Same F' H'
  rep : RpR K F' H' v r p
  ok : r.isOk = true
  rep0 : io = true → r0.isOk = true → ∃ v0, vs.head? = some v0 ∧ RpR K F' H' v0 r0 p0
  nd : (p ++ p0).Nodup
  dis : ∀ a ∈ p ++ p0, F' a = none
  stp : Stp F H fp F' H' (p ++ p0)
/-- the promise: what g says -/
def spG (n : Nat) (io : Bool) (g : List R → Option (R × R)) : Sp := fun vs H Q _ => vs.length = n ∧ ∃ F rs fp r r0, Same F H ∧ RpE K F H (vs.map some) rs fp ∧ fp.Nodup ∧ (∀ a ∈ fp, F a = none) ∧ g rs = some (r, r0) ∧
  ∀ v F' H' p p0, Dft K F H fp io vs r r0 v F' H' p p0 → Q v H'
end
section
variable {X : Cx} {k : Nat} {f : Addr} {fd : FuncData} {ps : List Str} {sp : Sp} {x : Str} {p pos : Pos} {e : Expr} {es : List Expr} {t : TA}
theorem run_G {pins : List (Addr × Obj)} {σ : L2.St} {H : Hp} {s : Shared} {Q : VK} {E : XK} {args : Args} {us : List Value} {vs : List V} (F : FnG X.prog X.w X.K X.mg X.base k f fd ps sp) (hr : Room k X.A) (hg : X.A.guards = some []) (hx : Passes (L2.CX X.prog X.w) X E)
    (I : Inv X pins σ H s) (hb : BindsTo s fd args (ps.zip us)) (r : Vals vs us) (h : sp vs H Q E) : codeAny (model X.prog X.w) X.A (.call (.ref f) args) (fun r s' => match r with | .ok (.ret u) => EP X pins σ Q u s' | .ok _ => False | .error e => X.xe e s') s := by
  refine codeAny_mono (F.go X.A X.stack s H args us vs Q E ⟨hr, hg⟩ I.env0 hb r h) fun z s2 hz => ?_
  match z, hz with
  | .error e, hz => exact hx pins σ H s e s2 I hz
  | .ok (.ret u), hz => exact I.after hz
  | .ok .next, hz => exact hz
  | .ok .brk, hz => exact hz
  | .ok .cont, hz => exact hz
theorem call_G {pins : List (Addr × Obj)} {σ : L2.St} {H : Hp} {s : Shared} {Q : VK} {E : XK} {us : List Value} {kw : List (Str × Value)} {ws : List Value} {vs : List V} (F : FnG X.prog X.w X.K X.mg X.base k f fd ps sp) (hr : Room k X.A) (hg : X.A.guards = some []) (hx : Passes (L2.CX X.prog X.w) X E)
    (I : Inv X pins σ H s) (hb : BindsTo s fd ⟨us, kw⟩ (ps.zip ws)) (r : Vals vs ws) (h : sp vs H Q E) : wpAny (model X.prog X.w) X.A (call (.ref f) us kw) (EP X pins σ Q) X.xe s := by
  refine wpAny_call (codeAny_mono (run_G F hr hg hx I hb r h) fun z s2 hz => ?_)
  match z, hz with
  | .error e, hz => exact hz
  | .ok (.ret u), hz => exact hz
  | .ok .next, hz => exact hz.elim
  | .ok .brk, hz => exact hz.elim
  | .ok .cont, hz => exact hz.elim
/-- f(e, ..) -/
theorem pe_callG {E : XK} (F : FnG X.prog X.w X.K X.mg X.base k f fd ps sp) (hr : Room k X.A) (hgd : X.A.guards = some []) (hg : Gl X x) (hm : X.mg x = some (.ref f)) (hk : PySem.W.keepIn X.K (.ref f) = true) (hb : Binds X.K fd ps []) (hx : Passes (L2.CX X.prog X.w) X E)
    (ha : PA X (e :: es) t) (hdb : (x == ("__debug__" : Str)) = false) (he : starEach (e :: es) X.env = (false, eval e X.env) :: starEach es X.env) (hpl : (backTo pos (starEach es X.env)).any (·.1) = false) :
    PE X (.Call (.Name x p) (e :: es) [] pos) (fun σ H Q => t σ H fun vs H1 => sp vs H1 Q E) := by
  refine ⟨fun pins s σ H Q I h => wpAny_Call_Name_kw (ld_glob I hg hm (PySem.W.callWith_K (h₀ := X.base) I.ok.mod.kin hk (thn (ha.run pos pins s σ H _ I h) fun us s1 ⟨vs, H1, I1, r, q⟩ => ⟨I1.kIn, ?_⟩) he hpl) hdb)⟩
  have hl : (us ++ []).length = ps.length := by
    rw [List.append_nil, ← r.length]
    exact F.len _ _ _ _ q
  have hbb := hb s1 us I1.kIn hl
  rw [List.append_nil] at hbb
  exact call_G F hr hgd hx I1 hbb r q
/-- f() -/
theorem pe_callG0 {E : XK} (F : FnG X.prog X.w X.K X.mg X.base k f fd ps sp) (hr : Room k X.A) (hgd : X.A.guards = some []) (hg : Gl X x) (hm : X.mg x = some (.ref f)) (hk : PySem.W.keepIn X.K (.ref f) = true) (hb : Binds X.K fd ps []) (hx : Passes (L2.CX X.prog X.w) X E)
    (hdb : (x == ("__debug__" : Str)) = false) : PE X (.Call (.Name x p) [] [] pos) (fun σ H Q => sp [] H Q E) := by
  refine ⟨fun pins s σ H Q I h => wpAny_Call_Name_kw (ld_glob I hg hm (PySem.W.callWith_K0 I.kIn hk ?_) hdb)⟩
  have hl : (([] : List Value) ++ []).length = ps.length := F.len _ _ _ _ h
  exact call_G (us := []) (kw := []) F hr hgd hx I (hb s [] I.kIn hl) .nil h
/-- f(e, .., k = v, ..): gp puts the positional values and the keywords' in the order of the parameters -/
theorem pe_callGK {E : XK} {kws : List Keyword} {ks : List Str} {tk : TA} (F : FnG X.prog X.w X.K X.mg X.base k f fd ps sp) (hr : Room k X.A) (hgd : X.A.guards = some []) (hg : Gl X x) (hm : X.mg x = some (.ref f)) (hk : PySem.W.keepIn X.K (.ref f) = true)
    {gp : ∀ {α : Type}, List α → List α → List α} (hgp : ∀ {vs : List V} {us : List Value} {zs : List V} {ws : List Value}, Vals vs us → Vals zs ws → Vals (gp vs zs) (gp us ws))
    (hb : ∀ (s : Shared) (us ws : List Value), X.K.In s.heap → ws.length = ks.length → us.length + ws.length = ps.length → BindsTo s fd ⟨us, ks.zip ws⟩ (ps.zip (gp us ws))) (hx : Passes (L2.CX X.prog X.w) X E)
    (ha : PA X (e :: es) t) (hkw : PK X kws tk) (hall : (backToKw pos (keywordEach kws X.env)).all (·.1.isSome) = true) (hks : (backToKw pos (keywordEach kws X.env)).filterMap (·.1) = ks)
    (hdb : (x == ("__debug__" : Str)) = false) (he : starEach (e :: es) X.env = (false, eval e X.env) :: starEach es X.env)
    (hpl : ((backTo pos (starEach (e :: es) X.env)).any (·.1) || (backToKw pos (keywordEach kws X.env)).any (·.1.isNone)) = false) :
    PE X (.Call (.Name x p) (e :: es) kws pos) (fun σ H Q => t σ H fun vs H1 => tk σ H1 fun zs H2 => (zs.length = ks.length ∧ vs.length + zs.length = ps.length) ∧ sp (gp vs zs) H2 Q E) := by
  refine ⟨fun pins s σ H Q I h => wpAny_Call_Name_kw (ld_glob I hg hm ?_ hdb)⟩
  refine PySem.W.callWith_KW (h₀ := X.base) I.ok.mod.kin hk hall (thn (ha.run pos pins s σ H _ I h) fun us s1 ⟨vs, H1, I1, r1, q⟩ => ?_) hpl he
  refine thn (hkw.run pos pins s1 σ H1 _ I1 q) fun ws s2 ⟨zs, H2, I2, rz, q2⟩ => ⟨I2.kIn, ?_⟩
  rw [hks]
  exact call_G F hr hgd hx I2 (hb s2 us ws I2.kIn (by rw [← rz.length]; exact q2.1.1) (by rw [← rz.length, ← r1.length]; exact q2.1.2)) (hgp r1 rz) q2.2
/-- f(k = v, ..) -/
theorem pe_callGK0 {E : XK} {kws : List Keyword} {ks : List Str} {tk : TA} (F : FnG X.prog X.w X.K X.mg X.base k f fd ps sp) (hr : Room k X.A) (hgd : X.A.guards = some []) (hg : Gl X x) (hm : X.mg x = some (.ref f)) (hk : PySem.W.keepIn X.K (.ref f) = true)
    {gp : ∀ {α : Type}, List α → List α → List α} (hgp : ∀ {vs : List V} {us : List Value} {zs : List V} {ws : List Value}, Vals vs us → Vals zs ws → Vals (gp vs zs) (gp us ws))
    (hb : ∀ (s : Shared) (us ws : List Value), X.K.In s.heap → ws.length = ks.length → us.length + ws.length = ps.length → BindsTo s fd ⟨us, ks.zip ws⟩ (ps.zip (gp us ws))) (hx : Passes (L2.CX X.prog X.w) X E)
    (hkw : PK X kws tk) (hall : (backToKw pos (keywordEach kws X.env)).all (·.1.isSome) = true) (hks : (backToKw pos (keywordEach kws X.env)).filterMap (·.1) = ks)
    (hdb : (x == ("__debug__" : Str)) = false) (hpl : ((backTo pos (starEach [] X.env)).any (·.1) || (backToKw pos (keywordEach kws X.env)).any (·.1.isNone)) = false) :
    PE X (.Call (.Name x p) [] kws pos) (fun σ H Q => tk σ H fun zs H2 => (zs.length = ks.length ∧ zs.length = ps.length) ∧ sp (gp [] zs) H2 Q E) := by
  refine ⟨fun pins s σ H Q I h => wpAny_Call_Name_kw (ld_glob I hg hm ?_ hdb)⟩
  refine PySem.W.callWith_KW0 (h₀ := X.base) I.ok.mod.kin hk hall (thn (hkw.run pos pins s σ H _ I h) fun ws s2 ⟨zs, H2, I2, rz, q2⟩ => ⟨I2.kIn, ?_⟩) hpl
  rw [hks]
  exact call_G F hr hgd hx I2 (hb s2 [] ws I2.kIn (by rw [← rz.length]; exact q2.1.1) (by rw [← rz.length]; simpa using q2.1.2)) (hgp .nil rz) q2.2
/-! ### what a call leaves -/
variable {K : PySem.W.Frag} {F H : Hp} {fp : List Addr} {σ : L2.St} {ρ : Env}
theorem RpRs.toE {F H : Hp} : ∀ {rs : List R} {vs : List V} {p : List Addr}, RpRs K F H vs rs p → rs.all R.isOk = true → RpE K F H (vs.map some) rs p
  | [], _, _, .nil, _ => .nil
  | r :: rs, _, _, .cons h t, ok => by
    rw [List.all_cons, Bool.and_eq_true] at ok
    exact .sm h ok.1 (RpRs.toE t ok.2)
/-- the arguments, then the call: io off -/
theorem Afs.call {q : Bool} {rs : List R} {ρ1 : Env} {vs : List V} {F1 H1 F2 H2 : Hp} {p fp1 p2 p0 : List Addr} {r r0 : R} {v : V} {io : Bool} (a : Afs K F H fp σ q rs ρ1 vs F1 H1 p fp1) (d : Dft K F1 H1 p io vs r r0 v F2 H2 p2 p0) :
    Aft K F H fp σ q r ρ1 v F2 H2 p2 fp1 := by
  have nd1 := List.nodup_append.mp a.nd
  have trk := a.rel.env.trk
  have kept : ∀ x ∈ fp1, ∀ o, H1 x = some o → H2 x = some o := fun x hx o ho => d.stp.keep x o ho fun m => nd1.2.2 x m x hx rfl
  have far : ∀ x ∈ p2, ∀ y ∈ fp1, x ≠ y := fun x hx y hy e => by
    subst e
    rcases d.stp.fpn x (List.mem_append_left _ hx) with z | z
    · exact nd1.2.2 x z x hy rfl
    · obtain ⟨o, ho⟩ := trk x hy
      rw [ho] at z; cases z
  have back : ∀ x, x ∈ p ∨ H1 x = none → x ∈ fp ∨ H x = none := fun x h => by
    rcases h with h | h
    · exact a.stp.fpn x (List.mem_append_left _ h)
    · by_cases k : x ∈ fp
      · exact .inl k
      · cases e : H x with
        | none => exact .inr rfl
        | some o => rw [a.stp.keep x o e k] at h; cases h
  refine ⟨⟨d.sub, a.rel.env.mono d.stp.sub kept, a.rel.nd, fun x hx => ?_⟩, d.rep, List.nodup_append.mpr ⟨(List.nodup_append.mp d.nd).1, a.rel.nd, far⟩, fun x hx => d.dis x (List.mem_append_left _ hx), ⟨fun x o h n => ?_, a.stp.sub.trans d.stp.sub, fun x o h n => ?_, fun x hx => ?_⟩, fun hh => ?_⟩
  · cases e : F2 x with
    | none => rfl
    | some o =>
      rcases d.stp.new x o e (a.rel.dis x hx) with z | z
      · exact absurd rfl (nd1.2.2 x z x hx)
      · obtain ⟨u, hu⟩ := trk x hx
        rw [hu] at z; cases z
  · refine d.stp.keep x o (a.stp.keep x o h n) fun m => ?_
    rcases a.stp.fpn x (List.mem_append_left _ m) with z | z
    · exact n z
    · rw [h] at z; cases z
  · cases e : F1 x with
    | some u => exact a.stp.new x u e n
    | none => exact back x (d.stp.new x o h e)
  · rcases List.mem_append.mp hx with hx | hx
    · exact back x (d.stp.fpn x (List.mem_append_left _ hx))
    · exact a.stp.fpn x (List.mem_append_right _ hx)
  · obtain ⟨s1, n1⟩ := a.qt hh
    refine ⟨fun x o h => d.stp.keep x o (s1 x o h) fun m => ?_, fun x hx => ?_⟩
    · rw [n1 x m] at h; cases h
    · rcases d.stp.fpn x (List.mem_append_left _ hx) with z | z
      · exact n1 x z
      · exact s1.free z
/-- .. the first parameter a slot's own thing, in and out -/
theorem Afs.callM {q : Bool} {rs : List R} {ρ1 : Env} {vs : List V} {F1 H1 F2 H2 : Hp} {p fp1 p2 p0 l1 pi l2 : List Addr} {r : R} {m m' : M} {v vi : V} {i : Nat} (a : Afs K F H fp σ q rs ρ1 vs F1 H1 p fp1)
    (e4 : fp1 = l1 ++ (pi ++ l2)) (d : Dft K F1 H1 (pi ++ p) true (vi :: vs) r (.ow m') v F2 H2 p2 p0)
    (e5 : ∀ (F' H' : Hp) (r' : R) (p' : List Addr), Same F1 F' → (∀ a ∈ l1 ++ l2, ∀ o, H1 a = some o → H' a = some o) → RpR K F' H' vi r' p' → r'.isOk = true → RpE K F' H' σ (ρ1.set i r') (l1 ++ (p' ++ l2))) :
    Aft K F H fp σ false r (ρ1.set i (.ow m')) v F2 H2 p2 (l1 ++ (p0 ++ l2)) := by
  have nd1 := List.nodup_append.mp a.nd
  subst e4
  have nd2 := List.nodup_append.mp nd1.2.1
  have nd3 := List.nodup_append.mp nd2.2.1
  have trk := a.rel.env.trk
  have inl : ∀ x, x ∈ l1 ++ l2 → x ∈ l1 ++ (pi ++ l2) := fun x h => by
    rcases List.mem_append.mp h with h | h
    · exact List.mem_append_left _ h
    · exact List.mem_append_right _ (List.mem_append_right _ h)
  -- the others are not met
  have out : ∀ x ∈ l1 ++ l2, x ∉ pi ++ p := fun x hx hm => by
    rcases List.mem_append.mp hm with hm | hm
    · rcases List.mem_append.mp hx with hx | hx
      · exact nd2.2.2 x hx x (List.mem_append_left _ hm) rfl
      · exact nd3.2.2 x hm x hx rfl
    · exact nd1.2.2 x hm x (inl x hx) rfl
  have kept : ∀ x ∈ l1 ++ l2, ∀ o, H1 x = some o → H2 x = some o := fun x hx o ho => d.stp.keep x o ho (out x hx)
  have far : ∀ x ∈ p2 ++ p0, ∀ y ∈ l1 ++ l2, x ≠ y := fun x hx y hy e => by
    subst e
    rcases d.stp.fpn x hx with z | z
    · exact out x hy z
    · obtain ⟨o, ho⟩ := trk x (inl x hy)
      rw [ho] at z; cases z
  have ndd := List.nodup_append.mp d.nd
  obtain ⟨v0, hv0, h0⟩ := d.rep0 rfl rfl
  have ev : vi = v0 := Option.some.inj hv0
  subst ev
  have back : ∀ x, x ∈ pi ++ p ∨ H1 x = none → x ∈ fp ∨ H x = none := fun x h => by
    rcases h with h | h
    · rcases List.mem_append.mp h with h | h
      · exact a.stp.fpn x (List.mem_append_right _ (List.mem_append_right _ (List.mem_append_left _ h)))
      · exact a.stp.fpn x (List.mem_append_left _ h)
    · by_cases k : x ∈ fp
      · exact .inl k
      · cases e : H x with
        | none => exact .inr rfl
        | some o => rw [a.stp.keep x o e k] at h; cases h
  have ndf : (l1 ++ (p0 ++ l2)).Nodup := by
    refine List.nodup_append.mpr ⟨nd2.1, List.nodup_append.mpr ⟨ndd.2.1, nd3.2.1, fun x hx y hy => far x (List.mem_append_right _ hx) y (List.mem_append_right _ hy)⟩, fun x hx y hy e => ?_⟩
    rcases List.mem_append.mp hy with hy | hy
    · exact far y (List.mem_append_right _ hy) x (List.mem_append_left _ hx) e.symm
    · exact nd2.2.2 x hx y (List.mem_append_right _ hy) e
  refine ⟨⟨d.sub, e5 F2 H2 (.ow m') p0 d.stp.sub kept h0 rfl, ndf, fun x hx => ?_⟩, d.rep, List.nodup_append.mpr ⟨ndd.1, ndf, fun x hx y hy e => ?_⟩, fun x hx => d.dis x (List.mem_append_left _ hx), ⟨fun x o h n => ?_, a.stp.sub.trans d.stp.sub, fun x o h n => ?_, fun x hx => ?_⟩, fun hh => nomatch hh⟩
  · have other : x ∈ l1 ++ l2 → F2 x = none := fun hx => by
      cases e : F2 x with
      | none => rfl
      | some o =>
        rcases d.stp.new x o e (a.rel.dis x (inl x hx)) with z | z
        · exact absurd z (out x hx)
        · obtain ⟨u, hu⟩ := trk x (inl x hx)
          rw [hu] at z; cases z
    rcases List.mem_append.mp hx with hx | hx
    · exact other (List.mem_append_left _ hx)
    · rcases List.mem_append.mp hx with hx | hx
      · exact d.dis x (List.mem_append_right _ hx)
      · exact other (List.mem_append_right _ hx)
  · rcases List.mem_append.mp hy with hy | hy
    · exact far x (List.mem_append_left _ hx) y (List.mem_append_left _ hy) e
    · rcases List.mem_append.mp hy with hy | hy
      · exact ndd.2.2 x hx y hy e
      · exact far x (List.mem_append_left _ hx) y (List.mem_append_right _ hy) e
  · refine d.stp.keep x o (a.stp.keep x o h n) fun m => ?_
    rcases back x (.inl m) with z | z
    · exact n z
    · rw [h] at z; cases z
  · cases e : F1 x with
    | some u => exact a.stp.new x u e n
    | none => exact back x (d.stp.new x o h e)
  · rcases List.mem_append.mp hx with hx | hx
    · exact back x (d.stp.fpn x (List.mem_append_left _ hx))
    · rcases List.mem_append.mp hx with hx | hx
      · exact a.stp.fpn x (List.mem_append_right _ (List.mem_append_left _ hx))
      · rcases List.mem_append.mp hx with hx | hx
        · exact back x (d.stp.fpn x (List.mem_append_right _ hx))
        · exact a.stp.fpn x (List.mem_append_right _ (List.mem_append_right _ (List.mem_append_right _ hx)))
end
end Ev
end
section
set_option Elab.async false
set_option linter.all false
set_option maxHeartbeats 1000000
/-! A list within the state, changed in its place. -/
namespace Ev
open PySem PySem.Spec PyProof.Rows L2
section
variable (K : PySem.W.Frag)
/-- the list at a: its items ms within the state; mk: the state with others there -/
structure Hole (F H : Hp) (σ : L2.St) (fp : List Addr) (a : Addr) (vs : List V) (ms : List M) (mk : List M → Env) (pm l1 l2 : List Addr) : Prop where
  at_ : H a = some (.lst vs)
  items : RpMs K F H vs ms pm
  foot : fp = l1 ++ ((a :: pm) ++ l2)
  back : ∀ (F' H' : Hp) vs' ms' pm', Same F F' → H' a = some (.lst vs') → (∀ x ∈ l1 ++ l2, ∀ o, H x = some o → H' x = some o) → RpMs K F' H' vs' ms' pm' → RpE K F' H' σ (mk ms') (l1 ++ ((a :: pm') ++ l2))
end
section
variable {K : PySem.W.Frag} {F H : Hp} {fp : List Addr} {σ : L2.St} {ρ : Env}
theorem mem_three {a : Addr} {pm l1 l2 : List Addr} {x : Addr} : x ∈ l1 ++ ((a :: pm) ++ l2) ↔ x ∈ l1 ∨ x = a ∨ x ∈ pm ∨ x ∈ l2 := by
  simp
theorem nd_three {a : Addr} {pm l1 l2 : List Addr} (h : (l1 ++ ((a :: pm) ++ l2)).Nodup) : l1.Nodup ∧ pm.Nodup ∧ l2.Nodup ∧ a ∉ pm ∧ a ∉ l1 ∧ a ∉ l2 ∧ (∀ x ∈ l1, ∀ y ∈ pm, x ≠ y) ∧ (∀ x ∈ l1, ∀ y ∈ l2, x ≠ y) ∧ (∀ x ∈ pm, ∀ y ∈ l2, x ≠ y) := by
  have h1 := List.nodup_append.mp h
  have h2 := List.nodup_append.mp h1.2.1
  have h3 := List.nodup_cons.mp h2.1
  refine ⟨h1.1, h3.2, h2.2.1, h3.1, fun m => ?_, fun m => ?_, fun x hx y hy => ?_, fun x hx y hy => ?_, fun x hx y hy => ?_⟩
  · exact h1.2.2 a m a (List.mem_append_left _ List.mem_cons_self) rfl
  · exact h2.2.2 a List.mem_cons_self a m rfl
  · exact h1.2.2 x hx y (List.mem_append_left _ (List.mem_cons_of_mem _ hy))
  · exact h1.2.2 x hx y (List.mem_append_right _ hy)
  · exact h2.2.2 x (List.mem_cons_of_mem _ hx) y hy
theorem nd_three' {a : Addr} {pm l1 l2 : List Addr} (h1 : l1.Nodup) (h2 : pm.Nodup) (h3 : l2.Nodup) (h4 : a ∉ pm) (h5 : a ∉ l1) (h6 : a ∉ l2) (h7 : ∀ x ∈ l1, ∀ y ∈ pm, x ≠ y) (h8 : ∀ x ∈ l1, ∀ y ∈ l2, x ≠ y) (h9 : ∀ x ∈ pm, ∀ y ∈ l2, x ≠ y) : (l1 ++ ((a :: pm) ++ l2)).Nodup := by
  refine List.nodup_append.mpr ⟨h1, List.nodup_append.mpr ⟨List.nodup_cons.mpr ⟨h4, h2⟩, h3, fun x hx y hy e => ?_⟩, fun x hx y hy e => ?_⟩
  · rcases List.mem_cons.mp hx with z | hx
    · rw [z] at e; rw [e] at h6; exact h6 hy
    · exact h9 x hx y hy e
  · rcases List.mem_append.mp hy with hy | hy
    · rcases List.mem_cons.mp hy with z | hy
      · rw [← e] at z; rw [z] at hx; exact h5 hx
      · exact h7 x hx y hy e
    · exact h8 x hx y hy e
theorem upd_far {H : Hp} {a b : Addr} {o : HO} (h : b ≠ a) : ∀ u, H b = some u → upd H a o b = some u := fun u e => by rw [upd_ne h]; exact e
/-- a slot that holds a list of its own -/
theorem Rel.hole {i : Nat} {ms : List M} (h : Rel K F H σ ρ fp) (e : ρ.at_ i = .ow (.ls ms)) : ∃ a vs pm l1 l2, σ[i]? = some (some (.ref a)) ∧ Hole K F H σ fp a vs ms (fun ms' => ρ.set i (.ow (.ls ms'))) pm l1 l2 := by
  have nd := h.nd
  obtain ⟨v, p, l1, l2, e1, e2, e3, e4, e5, _⟩ := h.env.split i (by rw [e]; intro z; cases z)
  rw [e] at e2
  have e2' : RpM K F H v (.ls ms) p := e2
  cases e2' with
  | @ls a vs _ pm ha ht =>
    exact ⟨a, vs, pm, l1, l2, e1, ha, ht, e4, fun F' H' vs' ms' pm' s h' k t => e5 F' H' (.ow (.ls ms')) (a :: pm') s k (RpM.ls h' t) rfl⟩
/-- a list within that list -/
theorem Hole.inner {a : Addr} {vs : List V} {ms us : List M} {mk : List M → Env} {pm l1 l2 : List Addr} {j : Nat} (nd : fp.Nodup) (h : Hole K F H σ fp a vs ms mk pm l1 l2) (e : ms[j]? = some (.ls us)) :
    ∃ b ws pu k1 k2, vs[j]? = some (.ref b) ∧ Hole K F H σ fp b ws us (fun us' => mk (ms.set j (.ls us'))) pu k1 k2 := by
  obtain ⟨v, p, m1, m2, e1, e2, e3, e4⟩ := h.items.split e
  cases e2 with
  | @ls b ws _ pu hb ht =>
    have hf := h.foot
    rw [hf, e3] at nd
    have nd0 := nd_three nd
    have hba : b ≠ a := fun z => by
      subst z
      exact nd0.2.2.2.1 (List.mem_append_right _ (List.mem_append_left _ List.mem_cons_self))
    refine ⟨b, ws, pu, l1 ++ (a :: m1), m2 ++ l2, e1, hb, ht, by rw [hf, e3]; simp, fun F' H' ws' us' pu' s hb' k t => ?_⟩
    have q := e4 F' H' (.ref b) (.ls us') (b :: pu') s (fun x hx o ho => k x (by
      rcases List.mem_append.mp hx with hx | hx
      · exact List.mem_append_left _ (List.mem_append_right _ (List.mem_cons_of_mem _ hx))
      · exact List.mem_append_right _ (List.mem_append_left _ hx)) o ho) (RpM.ls hb' t)
    have ev : vs.set j (.ref b) = vs := by
      apply List.ext_getElem?
      intro i
      by_cases hi : j = i
      · subst hi
        have hl : j < vs.length := (List.getElem?_eq_some_iff.mp e1).1
        rw [List.getElem?_set_self hl, e1]
      · rw [List.getElem?_set_ne hi]
    rw [ev] at q
    have z := h.back F' H' vs (ms.set j (.ls us')) (m1 ++ ((b :: pu') ++ m2)) s (k a (List.mem_append_left _ (List.mem_append_right _ List.mem_cons_self)) _ h.at_) (fun x hx o ho => k x (by
      rcases List.mem_append.mp hx with hx | hx
      · exact List.mem_append_left _ (List.mem_append_left _ hx)
      · exact List.mem_append_right _ (List.mem_append_right _ hx)) o ho) q
    simpa using z
end
end Ev
end
section
set_option Elab.async false
set_option linter.all false
set_option maxHeartbeats 1000000
/-! What changes a list: its readings. -/
namespace Ev
open PySem PySem.Spec PyProof.Rows L2
section
variable {K : PySem.W.Frag} {F H : Hp} {fp : List Addr} {σ : L2.St} {ρ : Env}
theorem Hole.aft {q : Bool} {rs : List R} {ρ1 : Env} {vs0 : List V} {F1 H1 : Hp} {pin fp1 : List Addr} {a : Addr} {vs vs' : List V} {ms ms' : List M} {mk : List M → Env} {pm pm' pout l1 l2 : List Addr} {r : R} {v : V}
    (z : Afs K F H fp σ q rs ρ1 vs0 F1 H1 pin fp1) (h : Hole K F1 H1 σ fp1 a vs ms mk pm l1 l2) (t : RpMs K F1 H1 vs' ms' pm') (hr : RpR K F1 H1 v r pout) (hb : r.isBo = false) (nd : (pm' ++ pout).Nodup)
    (sub : ∀ x ∈ pm' ++ pout, x ∈ pm ∨ x ∈ pin) : Aft K F H fp σ false r (mk ms') v F1 (upd H1 a (.lst vs')) pout (l1 ++ ((a :: pm') ++ l2)) := by
  have hf := h.foot
  have rel := z.rel
  have ha : a ∈ fp1 := by rw [hf]; simp
  have nd1 := List.nodup_append.mp z.nd
  have ndf := rel.nd
  rw [hf] at ndf
  obtain ⟨n1, n2, n3, n4, n5, n6, n7, n8, n9⟩ := nd_three ndf
  have hFa : F1 a = none := rel.dis a ha
  have nin : ∀ x ∈ pm' ++ pout, x ≠ a := fun x hx e => by
    subst e
    rcases sub x hx with m | m
    · exact n4 m
    · exact nd1.2.2 x m x ha rfl
  have far : ∀ x ∈ pm' ++ pout, ∀ y, y ∈ l1 ∨ y ∈ l2 → x ≠ y := fun x hx y hy e => by
    subst e
    rcases sub x hx with m | m
    · rcases hy with hy | hy
      · exact n7 x hy x m rfl
      · exact n9 x m x hy rfl
    · refine nd1.2.2 x m x ?_ rfl
      rw [hf]
      rcases hy with hy | hy
      · exact List.mem_append_left _ hy
      · exact List.mem_append_right _ (List.mem_append_right _ hy)
  have keep : ∀ x, x ≠ a → ∀ o, H1 x = some o → upd H1 a (.lst vs') x = some o := fun x hx o ho => by rw [upd_ne hx]; exact ho
  have sF : Same F1 (upd H1 a (.lst vs')) := fun x o e => keep x (fun y => by subst y; rw [hFa] at e; cases e) o (rel.sub x o e)
  have ndp := List.nodup_append.mp nd
  have ndn : (l1 ++ ((a :: pm') ++ l2)).Nodup := nd_three' n1 ndp.1 n3 (fun m => nin a (List.mem_append_left _ m) rfl) n5 n6 (fun x hx y hy e => far y (List.mem_append_left _ hy) x (.inl hx) e.symm) n8
    (fun x hx y hy => far x (List.mem_append_left _ hx) y (.inr hy))
  have ina : ∀ x, x ∈ pm' ++ pout → x ∈ pin ++ fp1 := fun x hx => by
    rcases sub x hx with m | m
    · refine List.mem_append_right _ ?_
      rw [hf]
      exact List.mem_append_right _ (List.mem_append_left _ (List.mem_cons_of_mem _ m))
    · exact List.mem_append_left _ m
  have all : ∀ x ∈ pout ++ (l1 ++ ((a :: pm') ++ l2)), x ∈ pin ++ fp1 := fun x hx => by
    rcases List.mem_append.mp hx with hx | hx
    · exact ina x (List.mem_append_right _ hx)
    · rcases mem_three.mp hx with hx | hx | hx | hx
      · exact List.mem_append_right _ (by rw [hf]; exact mem_three.mpr (.inl hx))
      · exact List.mem_append_right _ (by rw [hx]; exact ha)
      · exact ina x (List.mem_append_left _ hx)
      · exact List.mem_append_right _ (by rw [hf]; exact mem_three.mpr (.inr (.inr (.inr hx))))
  have disA : ∀ x ∈ pin ++ fp1, F1 x = none := fun x hx => by
    rcases List.mem_append.mp hx with hx | hx
    · exact z.dis x hx
    · exact rel.dis x hx
  refine ⟨⟨sF, ?_, ndn, fun x hx => disA x (all x (List.mem_append_right _ hx))⟩, hr.mono (Same.refl F1) (fun x hx o ho => keep x (nin x (List.mem_append_right _ hx)) o ho) (fun e => by rw [hb] at e; cases e), ?_, fun x hx => disA x (ina x (List.mem_append_right _ hx)), ⟨fun x o ho hn => ?_, z.stp.sub, z.stp.new, fun x hx => z.stp.fpn x (all x hx)⟩, fun e => nomatch e⟩
  · refine h.back F1 _ vs' ms' pm' (Same.refl F1) upd_same (fun x hx o ho => keep x (fun e => ?_) o ho) (t.mono (Same.refl F1) fun x hx o ho => keep x (nin x (List.mem_append_left _ hx)) o ho)
    subst e
    rcases List.mem_append.mp hx with hx | hx
    · exact n5 hx
    · exact n6 hx
  · refine List.nodup_append.mpr ⟨ndp.2.1, ndn, fun x hx y hy e => ?_⟩
    subst e
    rcases mem_three.mp hy with hy | hy | hy | hy
    · exact far x (List.mem_append_right _ hx) x (.inl hy) rfl
    · exact nin x (List.mem_append_right _ hx) hy
    · exact ndp.2.2 x hy x hx rfl
    · exact far x (List.mem_append_right _ hx) x (.inr hy) rfl
  · refine keep x (fun e => ?_) o (z.stp.keep x o ho hn)
    subst e
    rcases z.stp.fpn x (List.mem_append_right _ ha) with m | m
    · exact hn m
    · rw [ho] at m; cases m
/-- an item goes out -/
theorem RpM.un {G : Hp} {v : V} {m : M} {p : List Addr} (h : RpM K F G v m p) : RpR K F G v (unR .ow m) p := by
  cases m with
  | d x =>
    cases h with
    | d h => exact ⟨h, rfl⟩
  | _ => exact h
theorem unR_bo (m : M) : (unR .ow m).isBo = false := by cases m <;> rfl
theorem Hole.out {q : Bool} {rs : List R} {ρ1 : Env} {vs0 : List V} {F1 H1 : Hp} {pin fp1 : List Addr} {a : Addr} {vs : List V} {ms : List M} {mk : List M → Env} {pm l1 l2 : List Addr} {j : Nat} {m : M}
    (z : Afs K F H fp σ q rs ρ1 vs0 F1 H1 pin fp1) (h : Hole K F1 H1 σ fp1 a vs ms mk pm l1 l2) (e : ms[j]? = some m) :
    ∃ v p fp', vs[j]? = some v ∧ Aft K F H fp σ false (unR .ow m) (mk (ms.eraseIdx j)) v F1 (upd H1 a (.lst (vs.eraseIdx j))) p fp' := by
  obtain ⟨v, p, k1, k2, e1, e2, e3, e4⟩ := h.items.drop1 e
  have ndf := z.rel.nd
  rw [h.foot] at ndf
  have nb := (nd_three ndf).2.1
  rw [e3] at nb
  refine ⟨v, p, _, e1, h.aft z e4 e2.un (unR_bo m) ?_ fun x hx => .inl ?_⟩
  · have a1 := List.nodup_append.mp nb
    have a2 := List.nodup_append.mp a1.2.1
    refine List.nodup_append.mpr ⟨List.nodup_append.mpr ⟨a1.1, a2.2.1, fun x hx y hy => a1.2.2 x hx y (List.mem_append_right _ hy)⟩, a2.1, fun x hx y hy e => ?_⟩
    rcases List.mem_append.mp hx with hx | hx
    · exact a1.2.2 x hx y (List.mem_append_left _ hy) e
    · exact a2.2.2 y hy x hx e.symm
  · rw [e3]
    rcases List.mem_append.mp hx with hx | hx
    · rcases List.mem_append.mp hx with hx | hx
      · exact List.mem_append_left _ hx
      · exact List.mem_append_right _ (List.mem_append_right _ hx)
    · exact List.mem_append_right _ (List.mem_append_left _ hx)
/-- an item of the arguments comes in, in place of another one -/
theorem Hole.set {q : Bool} {r : R} {ρ1 : Env} {v : V} {F1 H1 : Hp} {pin fp1 : List Addr} {a : Addr} {vs : List V} {ms : List M} {mk : List M → Env} {pm l1 l2 : List Addr} {j : Nat} {rs : List R} {vs0 : List V}
    (z : Afs K F H fp σ q rs ρ1 vs0 F1 H1 pin fp1) (hv : RpM K F1 H1 v r.toM pin) (h : Hole K F1 H1 σ fp1 a vs ms mk pm l1 l2) (hj : j < ms.length) :
    ∃ fp', Aft K F H fp σ false (.d .none) (mk (ms.set j r.toM)) .non F1 (upd H1 a (.lst (vs.set j v))) [] fp' := by
  have e : ms[j]? = some ms[j] := List.getElem?_eq_getElem hj
  obtain ⟨v0, p, k1, k2, e1, e2, e3, e4⟩ := h.items.split e
  have nd1 := List.nodup_append.mp z.nd
  have hf := h.foot
  have ndf := z.rel.nd
  rw [hf] at ndf
  have nb := (nd_three ndf).2.1
  rw [e3] at nb
  have a1 := List.nodup_append.mp nb
  have a2 := List.nodup_append.mp a1.2.1
  have inF : ∀ x, x ∈ k1 ∨ x ∈ k2 → x ∈ fp1 := fun x hx => by
    rw [hf, e3]
    rcases hx with hx | hx <;> simp [hx]
  refine ⟨_, h.aft z (e4 F1 H1 v r.toM pin (Same.refl F1) (fun _ _ _ o => o) hv) ⟨.non, rfl⟩ rfl ?_ fun x hx => ?_⟩
  · rw [List.append_nil]
    refine List.nodup_append.mpr ⟨a1.1, List.nodup_append.mpr ⟨nd1.1, a2.2.1, fun x hx y hy => nd1.2.2 x hx y (inF y (.inr hy))⟩, fun x hx y hy e => ?_⟩
    rcases List.mem_append.mp hy with hy | hy
    · exact nd1.2.2 y hy x (inF x (.inl hx)) e.symm
    · exact a1.2.2 x hx y (List.mem_append_right _ hy) e
  · rw [List.append_nil] at hx
    rw [e3]
    rcases List.mem_append.mp hx with hx | hx
    · exact .inl (List.mem_append_left _ hx)
    · rcases List.mem_append.mp hx with hx | hx
      · exact .inr hx
      · exact .inl (List.mem_append_right _ (List.mem_append_right _ hx))
/-- .. at the end -/
theorem Hole.app {q : Bool} {r : R} {ρ1 : Env} {v : V} {F1 H1 : Hp} {pin fp1 : List Addr} {a : Addr} {vs : List V} {ms : List M} {mk : List M → Env} {pm l1 l2 : List Addr} {rs : List R} {vs0 : List V}
    (z : Afs K F H fp σ q rs ρ1 vs0 F1 H1 pin fp1) (hv : RpM K F1 H1 v r.toM pin) (h : Hole K F1 H1 σ fp1 a vs ms mk pm l1 l2) :
    ∃ fp', Aft K F H fp σ false (.d .none) (mk (ms ++ [r.toM])) .non F1 (upd H1 a (.lst (vs ++ [v]))) [] fp' := by
  have nd1 := List.nodup_append.mp z.nd
  have hf := h.foot
  have ndf := z.rel.nd
  rw [hf] at ndf
  have nb := (nd_three ndf).2.1
  have inF : ∀ x, x ∈ pm → x ∈ fp1 := fun x hx => by
    rw [hf]
    simp [hx]
  have t : RpMs K F1 H1 (vs ++ [v]) (ms ++ [r.toM]) (pm ++ pin) := by
    have := h.items.app (RpMs.cons hv .nil)
    rwa [List.append_nil] at this
  refine ⟨_, h.aft z t ⟨.non, rfl⟩ rfl ?_ fun x hx => ?_⟩
  · rw [List.append_nil]
    exact List.nodup_append.mpr ⟨nb, nd1.1, fun x hx y hy e => nd1.2.2 y hy x (inF x hx) e.symm⟩
  · rw [List.append_nil] at hx
    exact List.mem_append.mp hx
/-- .. several, that own nothing -/
theorem Hole.ext {q : Bool} {ds : List PyData} {ρ1 : Env} {ws : List V} {F1 H1 : Hp} {pin fp1 : List Addr} {a : Addr} {vs : List V} {ms : List M} {mk : List M → Env} {pm l1 l2 : List Addr} {rs : List R} {vs0 : List V}
    (z : Afs K F H fp σ q rs ρ1 vs0 F1 H1 pin fp1) (hv : DqAll F1 ws ds) (h : Hole K F1 H1 σ fp1 a vs ms mk pm l1 l2) :
    ∃ fp', Aft K F H fp σ false (.d .none) (mk (ms ++ ds.map .d)) .non F1 (upd H1 a (.lst (vs ++ ws))) [] fp' := by
  have ndf := z.rel.nd
  rw [h.foot] at ndf
  have nb := (nd_three ndf).2.1
  have t : RpMs K F1 H1 (vs ++ ws) (ms ++ ds.map .d) (pm ++ []) := h.items.app (RpMs.of_data hv)
  rw [List.append_nil] at t
  exact ⟨_, h.aft z t ⟨.non, rfl⟩ rfl (by rw [List.append_nil]; exact nb) fun x hx => by rw [List.append_nil] at hx; exact .inl hx⟩
end
end Ev
end
section
set_option Elab.async false
set_option linter.all false
set_option maxHeartbeats 1000000
/-! Each form of an expression: its reading follows from the plain function. -/
namespace Ev
open PySem PySem.Spec PyProof.Rows L2
section
variable {K : PySem.W.Frag} {T : Tbl} {σ : L2.St} {H : Hp} {Q : VK}
theorem i_nm {i : Nat} (h : tE K (ev T (.nm i)) true σ H Q) : tVar i σ H Q := by
  obtain ⟨F, ρ, fp, r, ρ', rel, e, k⟩ := h
  rw [ev] at e
  obtain ⟨rfl, v, e1, e2⟩ := read_ok rel e
  exact ⟨v, e1, k _ _ _ _ _ (Aft.leaf rel true e2)⟩
theorem i_c {f : Env → Option (R × Env)} {x : PyData} {v : V} (hf : ∀ ρ, f ρ = some (.d x, ρ)) (hv : ∀ F, Dq F v x) (h : tE K f true σ H Q) : tC v σ H Q := by
  obtain ⟨F, ρ, fp, r, ρ', rel, e, k⟩ := h
  rw [hf] at e
  cases e
  exact k _ _ _ _ _ (Aft.leaf rel true ⟨hv F, rfl⟩)
theorem i_as0 {Q : List V → Hp → Prop} (h : tAs K (evs T []) true σ H Q) : tNil σ H Q := by
  obtain ⟨F, ρ, fp, rs, ρ', rel, e, k⟩ := h
  rw [evs] at e
  cases e
  exact k _ _ _ _ _ (Afs.nil rel true)
theorem i_as1 {a : E} {es : List E} {Q : List V → Hp → Prop} (h : tAs K (evs T (a :: es)) (quiets (a :: es)) σ H Q) : tCons (tE K (ev T a) a.quiet) (tAs K (evs T es) (quiets es)) σ H Q := by
  obtain ⟨F, ρ, fp, rs, ρ', rel, e, k⟩ := h
  rw [evs] at e
  obtain ⟨⟨r, ρ1⟩, e1, e2⟩ := bind_some' e
  by_cases hb : (r.isBo && !quiets es) = true
  · simp [hb] at e2
  · have hb' : (r.isBo && !quiets es) = false := by simpa using hb
    simp only [hb'] at e2
    obtain ⟨⟨rs2, ρ2⟩, e3, e4⟩ := map_some' (show (evs T es ρ1).map (fun z => (r :: z.1, z.2)) = some (rs, ρ') from e2)
    cases e4
    refine ⟨F, ρ, fp, r, ρ1, rel, e1, fun v1 F1 H1 p1 fp1 a1 => ⟨F1, ρ1, fp1, rs2, ρ2, a1.rel, e3, fun vs F2 H2 p2 fp2 a2 => ?_⟩⟩
    have z := a1.cons a2 hb'
    rw [quiets] at k
    exact k _ _ _ _ _ z
theorem i_tup {es : List E} (h : tE K (ev T (.tup es)) (quiets es) σ H Q) : tTup (tAs K (evs T es) (quiets es)) σ H Q := by
  obtain ⟨F, ρ, fp, r, ρ', rel, e, k⟩ := h
  rw [ev] at e
  obtain ⟨⟨rs, ρ1⟩, e1, e2⟩ := bind_some' e
  obtain ⟨hc, e3⟩ := (show (rs.all R.isOk && decide (rs.length ≤ sizeLine)) = true ∧ (rs.mapM R.data).map (fun ds => (R.tup ds, ρ1)) = some (r, ρ') from by
    by_cases c : (rs.all R.isOk && decide (rs.length ≤ sizeLine)) = true
    · simp only [c, if_true] at e2; exact ⟨c, e2⟩
    · simp [c] at e2)
  rw [Bool.and_eq_true, decide_eq_true_eq] at hc
  obtain ⟨ds, e4, e5⟩ := map_some' e3
  cases e5
  refine ⟨F, ρ, fp, rs, ρ', rel, e1, fun vs F1 H1 p fp1 a => ⟨by rw [a.rep.length]; exact hc.2, fun l hl => k _ _ _ _ _ (a.tup hc.1 e4 hl)⟩⟩
theorem i_lst {es : List E} (h : tE K (ev T (.lst es)) (quiets es) σ H Q) : tLst (tAs K (evs T es) (quiets es)) σ H Q := by
  obtain ⟨F, ρ, fp, r, ρ', rel, e, k⟩ := h
  rw [ev] at e
  obtain ⟨⟨rs, ρ1⟩, e1, e2⟩ := bind_some' e
  obtain ⟨hc, e3⟩ := if_some e2
  cases e3
  refine ⟨F, ρ, fp, rs, ρ1, rel, e1, fun vs F1 H1 p fp1 a => ⟨by rw [a.rep.length]; exact hc, fun l hl => ?_⟩⟩
  obtain ⟨p', z⟩ := a.list hl
  exact k _ _ _ _ _ z
/-- two operands -/
theorem i_two {f g : Env → Option (R × Env)} {c : R → R → Option R} {qf qg : Bool} {fn : Env → Option (R × Env)} (hf : ∀ ρ, fn ρ = (seq2 f g qg ρ).bind fun q => (c q.1 q.2.1).map fun r => (r, q.2.2)) (h : tE K fn (qf && qg) σ H Q) : tOp (rB K c) (tE K f qf) (tE K g qg) σ H Q := by
  obtain ⟨F, ρ, fp, r, ρ', rel, e, k⟩ := h
  rw [hf] at e
  obtain ⟨⟨ra, rb, ρ2⟩, e1, e2⟩ := bind_some' e
  obtain ⟨r', e3, e4⟩ := map_some' e2
  cases e4
  exact two rel e1 fun v1 v2 F2 H2 p fp2 a => ⟨F2, ra, rb, r, p, a.rel.sub, a.rep, e3, fun v F' H' p' m => k _ _ _ _ _ (a.made m)⟩
theorem i_bin {o : Operator} {a b : E} (h : tE K (ev T (.bin o a b)) (a.quiet && b.quiet) σ H Q) : tOp (rB K (binF o)) (tE K (ev T a) a.quiet) (tE K (ev T b) b.quiet) σ H Q := i_two (fun ρ => by rw [ev]) h
theorem i_cmp {o : CmpOp} {a b : E} (h : tE K (ev T (.cmp o a b)) (a.quiet && b.quiet) σ H Q) : tOp (bB K (cmpF o)) (tE K (ev T a) a.quiet) (tE K (ev T b) b.quiet) σ H Q := i_two (fun ρ => by
  rw [ev]
  cases seq2 (ev T a) (ev T b) b.quiet ρ with
  | none => rfl
  | some q => simp only [Option.bind_some, Option.map_map]; rfl) h
theorem i_sub {a b : E} (h : tE K (ev T (.sub a b)) (a.quiet && b.quiet) σ H Q) : tOp (rB K ixF) (tE K (ev T a) a.quiet) (tE K (ev T b) b.quiet) σ H Q := i_two (fun ρ => by rw [ev]) h
theorem i_one {f : Env → Option (R × Env)} {c : R → Option R} {qf : Bool} {fn : Env → Option (R × Env)} (hf : ∀ ρ, fn ρ = (f ρ).bind fun q => (c q.1).map fun r => (r, q.2)) (h : tE K fn qf σ H Q) : tUn (rU1 K c) (tE K f qf) σ H Q := by
  obtain ⟨F, ρ, fp, r, ρ', rel, e, k⟩ := h
  rw [hf] at e
  obtain ⟨⟨ra, ρ1⟩, e1, e2⟩ := bind_some' e
  obtain ⟨r', e3, e4⟩ := map_some' e2
  cases e4
  exact ⟨F, ρ, fp, ra, ρ1, rel, e1, fun v1 F1 H1 p1 fp1 a => ⟨F1, ra, r, p1, a.rel.sub, a.rep, e3, fun v F' H' p' m => k _ _ _ _ _ (a.one.made m)⟩⟩
theorem i_neg {a : E} (h : tE K (ev T (.neg a)) a.quiet σ H Q) : tUn (rU1 K negF) (tE K (ev T a) a.quiet) σ H Q := i_one (fun ρ => by rw [ev]) h
/-- a built-in's call -/
theorem i_bi {f : Bi} {es : List E} (h : tE K (ev T (.bi f es)) (quiets es) σ H Q) : tCB (rN K (biF f)) (tAs K (evs T es) (quiets es)) σ H Q := by
  obtain ⟨F, ρ, fp, r, ρ', rel, e, k⟩ := h
  rw [ev] at e
  obtain ⟨⟨rs, ρ1⟩, e1, e2⟩ := bind_some' e
  obtain ⟨r', e3, e4⟩ := map_some' e2
  cases e4
  exact ⟨F, ρ, fp, rs, ρ1, rel, e1, fun vs F1 H1 p fp1 a => ⟨F1, rs, r, p, a.rel.sub, a.rep, e3, fun v F' H' p' m => k _ _ _ _ _ (a.made m)⟩⟩
theorem truF_ok {F H : Hp} {v : V} {r : R} {p : List Addr} {b : Bool} (s : Same F H) (h : RpR K F H v r p) (e : truF r = some b) : TruV K v H b := by
  have go : ∀ {z : Bool × List PyData}, r.reads = some z → b = !z.2.isEmpty → TruV K v H b := fun {z} e1 e2 => by
    obtain ⟨a, vs, rfl, d, hk⟩ := h.reads s (b := z.1) (ds := z.2) e1
    have hl : (!z.2.isEmpty) = !vs.isEmpty := by
      have := d.length
      cases vs <;> cases hz : z.2 <;> simp_all
    rw [hl] at e2
    rcases hk with ⟨_, q⟩ | ⟨_, q⟩
    · exact .inl ⟨vs, q, e2⟩
    · exact .inr (.inl ⟨vs, q, e2⟩)
  have other : (r.reads).map (fun p => !p.2.isEmpty) = some b → TruV K v H b := fun e => by
    obtain ⟨z, e1, e2⟩ := map_some' e
    exact go e1 e2.symm
  cases r with
  | d x =>
    cases x with
    | none =>
      cases h.nonv
      exact (Option.some.inj e).symm
    | bool k =>
      cases h.bool
      exact (Option.some.inj e).symm
    | int i =>
      cases h.int
      exact (Option.some.inj e).symm
    | _ => exact other e
  | _ => exact other e
/-- a value's truth, as a test -/
theorem i_tru {f : Env → Option (R × Env)} {q : Bool} {Q : Bool → Hp → Prop} (h : tTs K (asT f) q σ H Q) : tE K f q σ H fun x H' => ∃ k, TruV K x H' k ∧ Q k H' := by
  obtain ⟨F, ρ, fp, b, ρ', rel, e, k⟩ := h
  obtain ⟨⟨r, ρ1⟩, e1, e2⟩ := bind_some' e
  obtain ⟨b', e3, e4⟩ := map_some' e2
  cases e4
  exact ⟨F, ρ, fp, r, _, rel, e1, fun v F' H' p fp' a => ⟨b, truF_ok a.rel.sub a.rep e3, k _ _ _ (AfT.of a)⟩⟩
/-- bools, from left to right -/
theorem i_asB {f : Env → Option (R × Env)} {q : Bool} {Q : Bool → Hp → Prop} (h : tTs K (asB f) q σ H Q) : tE K f q σ H fun x H' => ∃ c, x = .bl c ∧ Q c H' := by
  obtain ⟨F, ρ, fp, b, ρ', rel, e, k⟩ := h
  obtain ⟨⟨r, ρ1⟩, e1, e2⟩ := bind_some' e
  cases r with
  | d x =>
    cases x with
    | bool c =>
      cases e2
      exact ⟨F, ρ, fp, _, _, rel, e1, fun v F' H' p fp' a => ⟨_, a.rep.bool, k _ _ _ (AfT.of a)⟩⟩
    | _ => cases e2
  | _ => cases e2
theorem asT_B {f : Env → Option (R × Env)} {ρ ρ' : Env} {b : Bool} (e : asB f ρ = some (b, ρ')) : asT f ρ = some (b, ρ') := by
  obtain ⟨⟨r, ρ1⟩, e1, e2⟩ := bind_some' e
  unfold asT
  rw [e1]
  cases r with
  | d x =>
    cases x with
    | bool c => cases e2; rfl
    | _ => cases e2
  | _ => cases e2
theorem asB_bl {g : Env → Option (Bool × Env)} {f : Env → Option (R × Env)} (hf : ∀ ρ, f ρ = (g ρ).map fun q => (.bl q.1, q.2)) : asB f = g := by
  funext ρ
  unfold asB
  rw [hf]
  cases g ρ <;> rfl
theorem asT_bl {g : Env → Option (Bool × Env)} {f : Env → Option (R × Env)} (hf : ∀ ρ, f ρ = (g ρ).map fun q => (.bl q.1, q.2)) : asT f = g := by
  funext ρ
  unfold asT
  rw [hf]
  cases g ρ <;> rfl
/-- .. as a value -/
theorem Aft.bl {F H F' H' : Hp} {fp fp' : List Addr} {q : Bool} {ρ' : Env} (a : AfT K F H fp σ q ρ' F' H' fp') (b : Bool) : Aft K F H fp σ q (.bl b) ρ' (.bl b) F' H' [] fp' :=
  ⟨a.rel, ⟨.bl b, rfl⟩, a.rel.nd, fun x m => absurd m (by simp), a.stp, fun z => ⟨a.qt z, fun x m => absurd m (by simp)⟩⟩
theorem i_blV {g : Env → Option (Bool × Env)} {f : Env → Option (R × Env)} {q : Bool} (hf : ∀ ρ, f ρ = (g ρ).map fun q => (.bl q.1, q.2)) (h : tE K f q σ H Q) : tTs K g q σ H fun b H' => Q (.bl b) H' := by
  obtain ⟨F, ρ, fp, r, ρ', rel, e, k⟩ := h
  rw [hf] at e
  obtain ⟨⟨b, ρ1⟩, e1, e2⟩ := map_some' e
  cases e2
  exact ⟨F, ρ, fp, b, _, rel, e1, fun F' H' fp' a => k _ F' H' [] fp' (Aft.bl a b)⟩
/-! ### and, or, not -/
def vAnd (T : Tbl) (es : List E) : Env → Option (R × Env) := fun ρ => (evAnd T es ρ).map fun q => (.bl q.1, q.2)
def vOr (T : Tbl) (es : List E) : Env → Option (R × Env) := fun ρ => (evOr T es ρ).map fun q => (.bl q.1, q.2)
theorem and_one {a : E} {ρ : Env} : evAnd T [a] ρ = asB (ev T a) ρ := by
  rw [evAnd]
  cases asB (ev T a) ρ with
  | none => rfl
  | some q =>
    obtain ⟨b, ρ1⟩ := q
    cases b <;> simp [evAnd]
theorem or_one {a : E} {ρ : Env} : evOr T [a] ρ = asB (ev T a) ρ := by
  rw [evOr]
  cases asB (ev T a) ρ with
  | none => rfl
  | some q =>
    obtain ⟨b, ρ1⟩ := q
    cases b <;> simp [evOr]
theorem asB_ev {f : Env → Option (R × Env)} {ρ ρ' : Env} {b : Bool} (e : asB f ρ = some (b, ρ')) : f ρ = some (.bl b, ρ') := by
  obtain ⟨⟨r, ρ1⟩, e1, e2⟩ := bind_some' e
  rw [e1]
  cases r with
  | d x =>
    cases x with
    | bool c => cases e2; rfl
    | _ => cases e2
  | _ => cases e2
theorem i_and1V {a : E} (h : tE K (vAnd T [a]) (quiets [a]) σ H Q) : tE K (ev T a) a.quiet σ H Q := by
  obtain ⟨F, ρ, fp, r, ρ', rel, e, k⟩ := h
  obtain ⟨⟨b, ρ1⟩, e1, e2⟩ := map_some' (show (evAnd T [a] ρ).map (fun q => (R.bl q.1, q.2)) = some (r, ρ') from e)
  cases e2
  rw [and_one] at e1
  exact ⟨F, ρ, fp, _, _, rel, asB_ev e1, fun v F' H' p fp' a => k _ _ _ _ _ (a.less fun z => by simpa [quiets] using z)⟩
theorem i_or1V {a : E} (h : tE K (vOr T [a]) (quiets [a]) σ H Q) : tE K (ev T a) a.quiet σ H Q := by
  obtain ⟨F, ρ, fp, r, ρ', rel, e, k⟩ := h
  obtain ⟨⟨b, ρ1⟩, e1, e2⟩ := map_some' (show (evOr T [a] ρ).map (fun q => (R.bl q.1, q.2)) = some (r, ρ') from e)
  cases e2
  rw [or_one] at e1
  exact ⟨F, ρ, fp, _, _, rel, asB_ev e1, fun v F' H' p fp' a => k _ _ _ _ _ (a.less fun z => by simpa [quiets] using z)⟩
theorem i_andV {a : E} {es : List E} (h : tE K (vAnd T (a :: es)) (quiets (a :: es)) σ H Q) : tAndV (tE K (ev T a) a.quiet) (tE K (vAnd T es) (quiets es)) σ H Q := by
  obtain ⟨F, ρ, fp, r, ρ', rel, e, k⟩ := h
  obtain ⟨⟨b, ρ1⟩, e1, e2⟩ := map_some' (show (evAnd T (a :: es) ρ).map (fun q => (R.bl q.1, q.2)) = some (r, ρ') from e)
  cases e2
  rw [evAnd] at e1
  obtain ⟨⟨c, ρ2⟩, e3, e4⟩ := bind_some' e1
  rw [quiets] at k
  refine ⟨F, ρ, fp, _, _, rel, asB_ev e3, fun v F' H' p fp' a1 => ⟨c, a1.rep.bool, ?_⟩⟩
  cases c with
  | true =>
    refine ⟨F', ρ2, fp', .bl b, ρ1, a1.rel, ?_, fun v2 F2 H2 p2 fp2 a2 => k _ _ _ _ _ ((AfT.of a1).then a2)⟩
    show (evAnd T es ρ2).map _ = _
    rw [show evAnd T es ρ2 = some (b, ρ1) from e4]
    rfl
  | false =>
    cases e4
    have hv : v = .bl false := a1.rep.bool
    have hp : p = [] := a1.rep.2
    subst hv hp
    exact k _ _ _ _ _ (a1.less fun z => by rw [Bool.and_eq_true] at z; exact z.1)
theorem i_orV {a : E} {es : List E} (h : tE K (vOr T (a :: es)) (quiets (a :: es)) σ H Q) : tOrV (tE K (ev T a) a.quiet) (tE K (vOr T es) (quiets es)) σ H Q := by
  obtain ⟨F, ρ, fp, r, ρ', rel, e, k⟩ := h
  obtain ⟨⟨b, ρ1⟩, e1, e2⟩ := map_some' (show (evOr T (a :: es) ρ).map (fun q => (R.bl q.1, q.2)) = some (r, ρ') from e)
  cases e2
  rw [evOr] at e1
  obtain ⟨⟨c, ρ2⟩, e3, e4⟩ := bind_some' e1
  rw [quiets] at k
  refine ⟨F, ρ, fp, _, _, rel, asB_ev e3, fun v F' H' p fp' a1 => ⟨c, a1.rep.bool, ?_⟩⟩
  cases c with
  | false =>
    refine ⟨F', ρ2, fp', .bl b, ρ1, a1.rel, ?_, fun v2 F2 H2 p2 fp2 a2 => k _ _ _ _ _ ((AfT.of a1).then a2)⟩
    show (evOr T es ρ2).map _ = _
    rw [show evOr T es ρ2 = some (b, ρ1) from e4]
    rfl
  | true =>
    cases e4
    have hv : v = .bl true := a1.rep.bool
    have hp : p = [] := a1.rep.2
    subst hv hp
    exact k _ _ _ _ _ (a1.less fun z => by rw [Bool.and_eq_true] at z; exact z.1)
theorem i_and1T {a : E} {Q : Bool → Hp → Prop} (h : tTs K (evAnd T [a]) (quiets [a]) σ H Q) : tTs K (asT (ev T a)) a.quiet σ H Q := by
  obtain ⟨F, ρ, fp, b, ρ', rel, e, k⟩ := h
  rw [and_one] at e
  exact ⟨F, ρ, fp, b, ρ', rel, asT_B e, fun F' H' fp' a => k _ _ _ (a.less fun z => by simpa [quiets] using z)⟩
theorem i_or1T {a : E} {Q : Bool → Hp → Prop} (h : tTs K (evOr T [a]) (quiets [a]) σ H Q) : tTs K (asT (ev T a)) a.quiet σ H Q := by
  obtain ⟨F, ρ, fp, b, ρ', rel, e, k⟩ := h
  rw [or_one] at e
  exact ⟨F, ρ, fp, b, ρ', rel, asT_B e, fun F' H' fp' a => k _ _ _ (a.less fun z => by simpa [quiets] using z)⟩
theorem i_andT {a : E} {es : List E} {Q : Bool → Hp → Prop} (h : tTs K (evAnd T (a :: es)) (quiets (a :: es)) σ H Q) : tAnd (tTs K (asT (ev T a)) a.quiet) (tTs K (evAnd T es) (quiets es)) σ H Q := by
  obtain ⟨F, ρ, fp, b, ρ', rel, e, k⟩ := h
  rw [evAnd] at e
  obtain ⟨⟨c, ρ2⟩, e3, e4⟩ := bind_some' e
  rw [quiets] at k
  refine ⟨F, ρ, fp, c, ρ2, rel, asT_B e3, fun F' H' fp' a1 => ?_⟩
  cases c with
  | true => exact ⟨F', ρ2, fp', b, ρ', a1.rel, e4, fun F2 H2 fp2 a2 => k _ _ _ (a1.trans a2)⟩
  | false =>
    cases e4
    exact k _ _ _ (a1.less fun z => by rw [Bool.and_eq_true] at z; exact z.1)
theorem i_orT {a : E} {es : List E} {Q : Bool → Hp → Prop} (h : tTs K (evOr T (a :: es)) (quiets (a :: es)) σ H Q) : tOr (tTs K (asT (ev T a)) a.quiet) (tTs K (evOr T es) (quiets es)) σ H Q := by
  obtain ⟨F, ρ, fp, b, ρ', rel, e, k⟩ := h
  rw [evOr] at e
  obtain ⟨⟨c, ρ2⟩, e3, e4⟩ := bind_some' e
  rw [quiets] at k
  refine ⟨F, ρ, fp, c, ρ2, rel, asT_B e3, fun F' H' fp' a1 => ?_⟩
  cases c with
  | false => exact ⟨F', ρ2, fp', b, ρ', a1.rel, e4, fun F2 H2 fp2 a2 => k _ _ _ (a1.trans a2)⟩
  | true =>
    cases e4
    exact k _ _ _ (a1.less fun z => by rw [Bool.and_eq_true] at z; exact z.1)
theorem ev_and {es : List E} : ev T (.and es) = vAnd T es := by funext ρ; rw [ev]; rfl
theorem ev_or {es : List E} : ev T (.or es) = vOr T es := by funext ρ; rw [ev]; rfl
theorem asT_and {es : List E} : asT (ev T (.and es)) = evAnd T es := asT_bl fun ρ => by rw [ev]
theorem asT_or {es : List E} : asT (ev T (.or es)) = evOr T es := asT_bl fun ρ => by rw [ev]
theorem i_notV {a : E} (h : tE K (ev T (.not a)) a.quiet σ H Q) : tNotV (tE K (ev T a) a.quiet) σ H Q := by
  obtain ⟨F, ρ, fp, r, ρ', rel, e, k⟩ := h
  rw [ev] at e
  obtain ⟨⟨b, ρ1⟩, e1, e2⟩ := map_some' e
  cases e2
  exact ⟨F, ρ, fp, _, _, rel, asB_ev e1, fun v F' H' p fp' a1 => ⟨b, a1.rep.bool, k _ _ _ _ _ (Aft.bl (AfT.of a1) _)⟩⟩
theorem i_notT {a : E} {Q : Bool → Hp → Prop} (h : tTs K (asT (ev T (.not a))) a.quiet σ H Q) : tNot (tTs K (asT (ev T a)) a.quiet) σ H Q := by
  obtain ⟨F, ρ, fp, b, ρ', rel, e, k⟩ := h
  rw [asT_bl (g := fun ρ => (asB (ev T a) ρ).map fun q => (!q.1, q.2)) (fun ρ => by rw [ev]; cases asB (ev T a) ρ <;> rfl)] at e
  obtain ⟨⟨c, ρ1⟩, e1, e2⟩ := map_some' e
  cases e2
  exact ⟨F, ρ, fp, c, _, rel, asT_B e1, fun F' H' fp' a1 => k _ _ _ a1⟩
/-! ### a if t else b -/
theorem i_ite {t a b : E} (h : tE K (ev T (.ite t a b)) (t.quiet && a.quiet && b.quiet) σ H Q) : tIf (tTs K (asT (ev T t)) t.quiet) (tE K (ev T a) a.quiet) (tE K (ev T b) b.quiet) σ H Q := by
  obtain ⟨F, ρ, fp, r, ρ', rel, e, k⟩ := h
  rw [ev] at e
  obtain ⟨⟨c, ρ1⟩, e1, e2⟩ := bind_some' e
  refine ⟨F, ρ, fp, c, ρ1, rel, e1, fun F' H' fp' a1 => ?_⟩
  cases c with
  | true => exact ⟨F', ρ1, fp', r, ρ', a1.rel, e2, fun v F2 H2 p fp2 a2 => k _ _ _ _ _ ((a1.then a2).less fun z => by simp only [Bool.and_eq_true] at z ⊢; exact z.1)⟩
  | false => exact ⟨F', ρ1, fp', r, ρ', a1.rel, e2, fun v F2 H2 p fp2 a2 => k _ _ _ _ _ ((a1.then a2).less fun z => by simp only [Bool.and_eq_true] at z ⊢; exact ⟨z.1.1, z.2⟩)⟩
/-! ### a op b op c -/
theorem i_chn {o o' : CmpOp} {a b c : E} (h : tE K (ev T (.chn o o' a b c)) (a.quiet && b.quiet && c.quiet) σ H Q) :
    tChain (bB K (cmpF o)) (bB K (cmpF o')) (tE K (ev T a) a.quiet) (tE K (ev T b) b.quiet) (tE K (ev T c) c.quiet) σ H Q := by
  obtain ⟨F, ρ, fp, r, ρ', rel, e, k⟩ := h
  rw [ev] at e
  obtain ⟨⟨ra, rb, ρ2⟩, e1, e2⟩ := bind_some' e
  cases rb with
  | d x =>
    simp only [R.isD, if_true] at e2
    obtain ⟨b1, e3, e4⟩ := bind_some' e2
    refine two rel e1 fun v1 v2 F2 H2 p fp2 a0 => ⟨F2, ra, .d x, .bl b1, p, a0.rel.sub, a0.rep, by show (cmpF o ra (.d x)).map R.bl = _; rw [e3]; rfl, fun v F' H' p' m => ⟨b1, m.rep.bool, ?_⟩⟩
    have A1 := a0.made m
    cases b1 with
    | false =>
      cases e4
      rw [if_neg Bool.false_ne_true]
      exact k _ _ _ _ _ ((Aft.bl (AfT.of A1) _).less fun z => by simp only [Bool.and_eq_true] at z ⊢; exact z.1)
    | true =>
      simp only [if_true] at e4 ⊢
      obtain ⟨⟨rc, ρ3⟩, e5, e6⟩ := bind_some' e4
      obtain ⟨b2, e7, e8⟩ := map_some' e6
      cases e8
      refine ⟨F', ρ2, fp2, rc, _, A1.rel, e5, fun v3 F3 H3 p3 fp3 a3 => ?_⟩
      obtain ⟨q1, q2, hy, hb, _⟩ := a0.rep.two
      have hy' : Dq F' v2 x := hb.1.mono m.sub
      have L : Aft K F' H' fp2 σ true (.d x) ρ2 v2 F' H' [] fp2 := Aft.leaf A1.rel true ⟨hy', rfl⟩
      have B := L.cons a3.one rfl
      refine ⟨F3, .d x, rc, .bl b2, _, B.rel.sub, B.rep, by show (cmpF o' (.d x) rc).map R.bl = _; rw [e7]; rfl, fun v4 F4 H4 p4 m4 => ?_⟩
      exact k _ _ _ _ _ (((AfT.of A1).then (B.made m4)).less fun z => by simpa using z)
  | _ => simp [R.isD] at e2
end
end Ev
end
section
set_option Elab.async false
set_option linter.all false
set_option maxHeartbeats 1000000
/-! Cuts, ranges, calls, what changes a list: the readings. -/
namespace Ev
open PySem PySem.Spec PyProof.Rows L2
section
variable {K : PySem.W.Frag} {T : Tbl} {σ : L2.St} {H : Hp} {Q : VK}
theorem AfT.nil {F H F' H' : Hp} {fp fp' : List Addr} {q : Bool} {ρ' : Env} (a : AfT K F H fp σ q ρ' F' H' fp') : Afs K F H fp σ q [] ρ' [] F' H' [] fp' :=
  ⟨a.rel, .nil, a.rel.nd, fun x m => absurd m (by simp), a.stp, fun z => ⟨a.qt z, fun x m => absurd m (by simp)⟩⟩
/-! ### a[lo:hi] -/
def rSF (K : PySem.W.Frag) : V → Option Int → Option Int → Hp → VK → Prop := fun x lo hi H Q => ∃ F a r p, Same F H ∧ RpR K F H x a p ∧ slcF a lo hi = some r ∧ ∀ v F' H' p', Mkd K F H p r v F' H' p' → Q v H'
def tO (K : PySem.W.Frag) (f : Env → Option (Option Int × Env)) (q : Bool) : TO := fun σ H Q => ∃ F ρ fp o ρ', Rel K F H σ ρ fp ∧ f ρ = some (o, ρ') ∧ ∀ F' H' fp', AfT K F H fp σ q ρ' F' H' fp' → Q o H'
theorem i_o0 {Q : Option Int → Hp → Prop} (h : tO K (evO T none) true σ H Q) : tNoPart σ H Q := by
  obtain ⟨F, ρ, fp, o, ρ', rel, e, k⟩ := h
  rw [evO] at e
  cases e
  exact k _ _ _ (AfT.refl rel true)
theorem i_o1 {a : E} {Q : Option Int → Hp → Prop} (h : tO K (evO T (some a)) a.quiet σ H Q) : tPart (tE K (ev T a) a.quiet) σ H Q := by
  obtain ⟨F, ρ, fp, o, ρ', rel, e, k⟩ := h
  rw [evO] at e
  obtain ⟨⟨r, ρ1⟩, e1, e2⟩ := bind_some' (show ((ev T a) ρ).bind _ = _ from e)
  cases r with
  | d x =>
    cases x with
    | int i =>
      cases e2
      exact ⟨F, ρ, fp, _, _, rel, e1, fun v F' H' p fp' a1 => ⟨i, a1.rep.int, k _ _ _ (AfT.of a1)⟩⟩
    | _ => cases e2
  | _ => cases e2
theorem i_slc {a : E} {lo hi : Option E} (h : tE K (ev T (.slc a lo hi)) (a.quiet && quietO lo && quietO hi) σ H Q) : tSl (rSF K) (tE K (ev T a) a.quiet) (tO K (evO T lo) (quietO lo)) (tO K (evO T hi) (quietO hi)) σ H Q := by
  obtain ⟨F, ρ, fp, r, ρ', rel, e, k⟩ := h
  rw [ev] at e
  obtain ⟨⟨ra, ρ1⟩, e1, e2⟩ := bind_some' e
  by_cases hb : (ra.isBo && !(quietO lo && quietO hi)) = true
  · rw [if_pos hb] at e2; cases e2
  · have hb' : (ra.isBo && !(quietO lo && quietO hi)) = false := by simpa using hb
    rw [if_neg hb] at e2
    obtain ⟨⟨l, ρ2⟩, e3, e4⟩ := bind_some' (show (evO T lo ρ1).bind _ = _ from e2)
    obtain ⟨⟨u, ρ3⟩, e5, e6⟩ := bind_some' e4
    obtain ⟨r', e7, e8⟩ := map_some' e6
    cases e8
    refine ⟨F, ρ, fp, ra, ρ1, rel, e1, fun v F1 H1 p1 fp1 a1 => ⟨F1, ρ1, fp1, l, ρ2, a1.rel, e3, fun F2 H2 fp2 a2 => ⟨F2, ρ2, fp2, u, _, a2.rel, e5, fun F3 H3 fp3 a3 => ?_⟩⟩⟩
    have B := a1.cons (a2.trans a3).nil hb'
    refine ⟨F3, ra, r, p1 ++ [], B.rel.sub, B.rep.one, e7, fun v F' H' p' m => k _ _ _ _ _ ((B.made m).less fun z => ?_)⟩
    simp only [Bool.and_eq_true] at z ⊢
    exact ⟨z.1.1, z.1.2, z.2⟩
section
variable {X : Cx}
theorem SlR.imp {r r' : V → Option Int → Option Int → Hp → VK → Prop} (h : SlR X r) (i : ∀ x lo hi H Q, r' x lo hi H Q → r x lo hi H Q) : SlR X r' := fun pins s σ H x v vl vu lo hi sl Q I rx hs pl pu q => h pins s σ H x v vl vu lo hi sl Q I rx hs pl pu (i x lo hi H Q q)
theorem cutL_map {α β : Type} (f : α → β) (xs : List α) (lo hi : Option Int) : cutL (xs.map f) lo hi = (cutL xs lo hi).map f := by
  unfold cutL
  rw [List.length_map, ← List.map_drop, ← List.map_take]
theorem DqAll.cut {F : Hp} {vs : List V} {xs : List PyData} (lo hi : Option Int) (h : DqAll F vs xs) : DqAll F (cutV vs lo hi) (cutL xs lo hi) := by
  unfold cutV cutL
  rw [h.length]
  exact (h.drop _).take _
theorem cutL_whole {α : Type} {xs : List α} {lo hi : Option Int} (h : HT.sIx xs.length 0 lo = 0 ∧ HT.sIx xs.length xs.length hi = xs.length) : cutL xs lo hi = xs := by
  unfold cutL
  rw [h.1, h.2]
  simp
theorem sl_all : SlR X (rSF X.K) := SlR.imp (SlR.or sl_list sl_tupA) fun x lo hi H Q h => by
  obtain ⟨F, a, r, p, s, ha, e, q⟩ := h
  unfold slcF at e
  cases e1 : a.reads with
  | none => rw [e1] at e; cases e
  | some z =>
    obtain ⟨b, ds⟩ := z
    rw [e1] at e
    obtain ⟨ad, vs, rfl, d, hk⟩ := ha.reads s e1
    rcases hk with ⟨rfl, hk⟩ | ⟨rfl, hk⟩
    · cases e
      exact .inl ⟨ad, vs, rfl, hk, fun l hl => q _ _ _ _ (Mkd.lst s (d.cut lo hi) hl)⟩
    · cases e
      refine .inr ⟨ad, vs, rfl, hk, fun hw => ?_, fun _ l hl => q _ _ _ _ (Mkd.tup s (d.cut lo hi) hl)⟩
      have ra := reads_tup e1
      subst ra
      rw [d.length] at hw
      have hz : R.tup (cutL ds lo hi) = .d (.tuple ds) := by rw [cutL_whole hw]
      rw [hz] at q
      exact q _ _ _ _ (Mkd.plain s ha.1)
/-! ### a[::-1] -/
section
variable {prog : Program} {w : World} {A : Around} {E : Value → Shared → Prop} {s : Shared}
theorem applied_rev {sl : Addr} {t : Tok} {n : Nat} {Q : Int × Int × Nat → Shared → Prop} (hs : s.heap.IsSliceOf sl .none .none (.int (-1) t)) (h : Q ((n : Int) - 1, -1, n) s) : wpAny (model prog w) A (Builtin.Slice.sliceApplied (.ref sl) (pure (n : Int))) Q E s := by
  obtain ⟨os, hos, hcs, hds⟩ := id hs
  unfold Builtin.Slice.sliceApplied Builtin.Slice.sliceFields
  refine wpAny_bind (wpAny_bind (wpAny_field hos hds (x := .none) rfl (wpAny_bind (wpAny_field hos hds (x := .none) rfl (wpAny_bind (wpAny_field hos hds (x := .int (-1) t) rfl (wpAny_pure ?_)))))))
  refine wpAny_bind (slicePart_int ?_)
  show wpAny _ _ (if ((-1 : Int) == 0) = true then _ else _) _ _ s
  rw [if_neg (by decide)]
  refine wpAny_bind (slicePart_none (wpAny_bind (slicePart_none (wpAny_bind (wpAny_pure ?_)))))
  have ea : Builtin.Slice.sliceAdjust none none (-1) (n : Int) = ((n : Int) - 1, -1) := by
    unfold Builtin.Slice.sliceAdjust
    simp
  have ep : Builtin.Slice.slicePlaces ((n : Int) - 1) (-1) (-1) = n := by
    unfold Builtin.Slice.slicePlaces
    simp
    omega
  show wpAny _ _ (match Builtin.Slice.sliceAdjust none none (-1) (n : Int) with | (lo, hi) => pure (lo, (-1 : Int), Builtin.Slice.slicePlaces lo hi (-1))) _ _ s
  rw [ea]
  show wpAny _ _ (pure ((n : Int) - 1, (-1 : Int), Builtin.Slice.slicePlaces ((n : Int) - 1) (-1) (-1))) _ _ s
  rw [ep]
  exact wpAny_pure h
theorem fm_congr {α β : Type} {f g : α → Option β} : ∀ {l : List α}, (∀ x ∈ l, f x = g x) → l.filterMap f = l.filterMap g
  | [], _ => rfl
  | x :: l, h => by
    rw [List.filterMap_cons, List.filterMap_cons, h x List.mem_cons_self, fm_congr fun y m => h y (List.mem_cons_of_mem _ m)]
theorem pick_rev (xs : List Value) : (List.range xs.length).filterMap (fun (k : Nat) => xs.toArray[(((xs.length : Int) - 1) + (k : Int) * (-1)).toNat]?) = xs.reverse := by
  have e : ∀ k ∈ List.range xs.length, xs.toArray[(((xs.length : Int) - 1) + (k : Int) * (-1)).toNat]? = xs.reverse[k]? := fun k hk => by
    have hk := List.mem_range.mp hk
    rw [List.getElem?_reverse hk, List.getElem?_toArray]
    congr 1
    omega
  rw [fm_congr e]
  have h2 : xs.length = xs.reverse.length := by rw [List.length_reverse]
  rw [h2]
  generalize xs.reverse = ys
  induction ys with
  | nil => rfl
  | cons y ys ih =>
    rw [List.length_cons, List.range_succ_eq_map, List.filterMap_cons, List.filterMap_map]
    simp only [List.getElem?_cons_zero]
    congr 1
theorem getItem_tup_rev {t sl : Addr} {its : List Value} {tk : Tok} {Q : Value → Shared → Prop} (ht : IsTup s.heap t its.toArray) (hs : s.heap.IsSliceOf sl .none .none (.int (-1) tk))
    (h : Q (.ref s.heap.objs.size) { s with heap := s.heap.push { cls := .type "tuple", data := .seq its.reverse.toArray } }) (hsz : its.length ≤ sizeLine) : wpAny (model prog w) A (getItem (.ref t) (.ref sl)) Q E s := by
  obtain ⟨os, hos, hcs, hds⟩ := id hs
  have hTs : s.TypeIs (.ref sl) "slice" := ⟨os, hos, hcs⟩
  have hok : sizeOk (.seq its.reverse.toArray) := by
    show its.reverse.toArray.size ≤ sizeLine
    rw [List.size_toArray, List.length_reverse]
    exact hsz
  unfold getItem
  try with_reducible refine wpAny_holding ?_
  first | refine wpAny_bind (wpAny_pure ?_) | skip
  refine wpAny_bind (wpAny_sequenceKey ht.typeIs (by decide) ?_)
  refine wpAny_bind (wpAny_callSpecial?_slot (name := Str.ofString "__getitem__") ht.typeIs PyProof.Rows.slot_tuple_getitem
    (wpAny_call_entry PyProof.Rows.slot_tuple_getitem ht.typeIs entry_tuple_getitem ?_ (args_tuple_getitem _ _)))
  show wpAny _ _ (Builtin.Tuple.tupleItemsOf (.ref t) >>= _) _ _ s
  refine wpAny_bind (tupleItemsOf_ ht ?_)
  refine wpAny_bind (wpAny_typeOf hTs ?_)
  rw [if_pos (by decide)]
  refine wpAny_bind (applied_rev (n := its.toArray.size) hs ?_)
  show wpAny _ _ (if (((its.toArray.size : Int) - 1) == 0 && (-1 : Int) == 1 && its.toArray.size == its.toArray.size) = true then _ else _) _ _ s
  rw [if_neg (by simp)]
  have ep : ((List.range its.toArray.size).filterMap fun (k : Nat) => its.toArray[(((its.toArray.size : Int) - 1) + (k : Int) * (-1)).toNat]?) = its.reverse := pick_rev its
  rw [ep]
  first
    | exact wpAny_bind (m := Builtin.Tuple.tupleExact _) (wpAny_newObj_type (wpAny_pure ⟨_, rfl, wpAny_pure h⟩) hok)
    | exact wpAny_bind (m := Builtin.Tuple.tupleExact _) (wpAny_newObj_type (wpAny_bind (wpAny_pure (wpAny_pure ⟨_, rfl, wpAny_pure h⟩))) hok)
    | exact wpAny_bind (wpAny_bind (m := Builtin.Tuple.tupleExact _) (wpAny_newObj_type (wpAny_pure (wpAny_pure ⟨_, rfl, wpAny_pure h⟩)) hok))
    | exact wpAny_bind (wpAny_bind (m := Builtin.Tuple.tupleExact _) (wpAny_newObj_type (wpAny_pure ⟨_, rfl, wpAny_pure h⟩) hok))
end
/-- xs[::-1] of a list or a tuple -/
def rRevA (K : PySem.W.Frag) : V → Hp → VK → Prop := fun x H Q => ∃ a xs, x = .ref a ∧ ((SqL K H a xs ∧ ∀ p, H p = none → Q (.ref p) (upd H p (.lst xs.reverse))) ∨ (SqT K H a xs ∧ ∀ p, H p = none → Q (.ref p) (upd H p (.tup xs.reverse))))
theorem pe_revA {X : Cx} {e : Expr} {te : TE} {k : Nat} {p1 p2 p3 pos : Pos} (he : PE X e te) : PE X (.Subscript e (.Slice none none (some (.UnaryOp .USub (.Constant (.int 1) k p1) p2)) p3) pos) (fun σ H Q => te σ H fun x H1 => rRevA X.K x H1 Q) := by
  refine ⟨fun pins s σ H Q I h => Subscript_ (thn (he.run pins s σ H _ I h) fun v s1 ⟨x, H1, I1, r1, q1⟩ => ?_)⟩
  obtain ⟨a, xs, rfl, q1⟩ := q1
  cases r1
  have minus : PO X (some (.UnaryOp .USub (.Constant (.int 1) k p1) p2)) (tPart (tUn (rU fun i => .int (-i)) (tC (.int 1)))) := po_some (pe_un un_neg pe_int)
  refine wpAny_Slice (thn (po_none.run pins s1 σ H1 (fun o H2 => o = none ∧ H2 = H1) I1 ⟨rfl, rfl⟩) fun vl s2 ⟨l, H2, I2, pl, el, e2⟩ => ?_)
  subst el e2
  refine thn (po_none.run pins s2 σ H2 (fun o H3 => o = none ∧ H3 = H2) I2 ⟨rfl, rfl⟩) fun vu s3 ⟨u, H3, I3, pu, eu, e3⟩ => ?_
  subst eu e3
  refine thn (minus.run pins s3 σ H3 (fun o H4 => o = some (-1) ∧ H4 = H3) I3 ⟨1, rfl, -1, rfl, rfl, rfl⟩) fun vs s4 ⟨o, H4, I4, ps, eo, e4⟩ => ?_
  subst eo e4
  have I5 : Inv X pins σ H4 { s4 with heap := s4.heap.push { cls := .type "slice", data := .fields #[vl, vu, vs] } } := I4.kept (t' := s4.toks) fun b ob q => Heap.get?_push_of_some _ q
  show wpAny (model X.prog X.w) X.A (subscriptTail e (.Slice none none (some (.UnaryOp .USub (.Constant (.int 1) k p1) p2)) p3) (.ref a) (.ref s4.heap.objs.size)) (EP X pins σ Q) X.xe { s4 with heap := s4.heap.push { cls := .type "slice", data := .fields #[vl, vu, vs] } }
  rcases q1 with ⟨hx, q⟩ | ⟨hx, q⟩
  · obtain ⟨its, r, ht, hz⟩ := I5.list hx
    have hlen := r.length
    refine tail_any (ops := [.ref a, .ref s4.heap.objs.size]) ht.isList.typeIs (PySem.slot_list_getitem.lookup) ?_ (by with_unfolding_all rfl)
    refine wpAny_getItem_list_slice ht.isList (Heap.IsSliceOf.new _ vl vu vs) pl pu ps (by decide) ?_ (by rw [List.size_toArray]; omega)
    rw [PySem.W.krv_pick]
    exact ⟨.ref _, _, I5.laid (t' := s4.toks) (o := .lst xs.reverse) (fun b ob q => Heap.get?_push_of_some _ q) (Nat.le_refl _) ⟨by rw [List.length_reverse]; exact hz, _, 0, r.reverse, Heap.get?_push_size _ rfl⟩, rfl, q _ (I5.hok.fresh (Nat.le_refl _))⟩
  · obtain ⟨its, r, ht, hz⟩ := I5.tuple hx
    have hlen := r.length
    refine tail_any (ops := [.ref a, .ref s4.heap.objs.size]) ht.typeIs PyProof.Rows.slot_tuple_getitem.lookup ?_ (by with_unfolding_all rfl)
    cases pl
    cases pu
    cases ps with
    | int _ t =>
      refine getItem_tup_rev ht (Heap.IsSliceOf.new _ _ _ _) ?_ (by omega)
      exact ⟨.ref _, _, I5.laid (t' := s4.toks) (o := .tup xs.reverse) (fun b ob q => Heap.get?_push_of_some _ q) (Nat.le_refl _) ⟨by rw [List.length_reverse]; exact hz, _, r.reverse, IsTup.new _ _⟩, rfl, q _ (I5.hok.fresh (Nat.le_refl _))⟩
end
theorem i_rev {a : E} (h : tE K (ev T (.rev a)) a.quiet σ H Q) : tE K (ev T a) a.quiet σ H fun x H1 => rRevA K x H1 Q := by
  obtain ⟨F, ρ, fp, r, ρ', rel, e, k⟩ := h
  rw [ev] at e
  obtain ⟨⟨ra, ρ1⟩, e1, e2⟩ := bind_some' e
  obtain ⟨r', e3, e4⟩ := map_some' e2
  cases e4
  refine ⟨F, ρ, fp, ra, _, rel, e1, fun v F1 H1 p fp1 a1 => ?_⟩
  have B := a1.one
  unfold revF at e3
  cases e5 : ra.leafs with
  | none => rw [show (ra, ρ1).1 = ra from rfl, e5] at e3; cases e3
  | some z =>
    obtain ⟨b, ds⟩ := z
    rw [show (ra, ρ1).1 = ra from rfl, e5] at e3
    obtain ⟨ad, vs, rfl, d, hk⟩ := a1.rep.leafs a1.rel.sub e5
    rcases hk with ⟨rfl, hk⟩ | ⟨rfl, hk⟩
    · cases e3
      exact ⟨ad, vs, rfl, .inl ⟨SqL.of hk, fun l hl => k _ _ _ _ _ (B.made (Mkd.lst a1.rel.sub d.rev hl))⟩⟩
    · cases e3
      exact ⟨ad, vs, rfl, .inr ⟨SqT.of hk, fun l hl => k _ _ _ _ _ (B.made (Mkd.tup a1.rel.sub d.rev hl))⟩⟩
/-! ### len(set(..)) -/
theorem ded_mem : ∀ (is acc : List Int), acc.Nodup → (is.foldl (fun acc x => if x ∈ acc then acc else acc ++ [x]) acc).Nodup ∧ ∀ k, k ∈ is.foldl (fun acc x => if x ∈ acc then acc else acc ++ [x]) acc ↔ k ∈ acc ∨ k ∈ is
  | [], acc, h => ⟨h, fun k => by simp⟩
  | i :: is, acc, h => by
    rw [List.foldl_cons]
    by_cases c : i ∈ acc
    · rw [if_pos c]
      obtain ⟨h1, h2⟩ := ded_mem is acc h
      refine ⟨h1, fun k => ?_⟩
      rw [h2, List.mem_cons]
      constructor
      · rintro (q | q)
        · exact .inl q
        · exact .inr (.inr q)
      · rintro (q | q | q)
        · exact .inl q
        · exact .inl (by rw [q]; exact c)
        · exact .inr q
    · rw [if_neg c]
      have hn : (acc ++ [i]).Nodup := List.nodup_append.mpr ⟨h, by simp, fun a ha b hb e => c (by rw [List.mem_singleton.mp hb] at e; rw [← e]; exact ha)⟩
      obtain ⟨h1, h2⟩ := ded_mem is (acc ++ [i]) hn
      refine ⟨h1, fun k => ?_⟩
      rw [h2, List.mem_append, List.mem_singleton, List.mem_cons, or_assoc]
theorem dcnt_eq {L ns : List Int} (h : L.Nodup) (m : ∀ k, k ∈ L ↔ k ∈ ns) : L.length = dcnt ns := by
  obtain ⟨h1, h2⟩ := ded_mem ns [] (by simp)
  refine List.Perm.length_eq ((List.perm_ext_iff_of_nodup h h1).mpr fun k => ?_)
  rw [m, h2]
  simp
def rLset (K : PySem.W.Frag) : V → Hp → VK → Prop := fun x H Q => ∃ (l : Addr) (ns : List Int), x = V.ref l ∧ SqT K H l (ns.map V.int) ∧ ns.length ≤ 1000 ∧ Q (.int (dcnt ns)) H
theorem pe_lset {X : Cx} {a : Expr} {ta : TE} {p p2 q pos : Pos} (hg : Gl X "len") (hm : X.mg "len" = none) (hg2 : Gl X "set") (hm2 : X.mg "set" = none) (ha : PE X a ta) (hc : X.calm = true)
    (na : starEach [a] X.env = (false, eval a X.env) :: starEach [] X.env) : PE X (.Call (.Name "len" p) [.Call (.Name "set" p2) [a] [] q] [] pos) (fun σ H Q => ta σ H fun x H1 => rLset X.K x H1 Q) := by
  refine ⟨fun pins s σ H Q I h => ?_⟩
  refine Call_ (ld_blt I hg hm boot_len ?_)
  refine PyProof.Rows.callWith_builtin1 (PyProof.Rows.args_cons ?_ rfl) rfl rfl
  refine Call_ (ld_blt I hg2 hm2 boot_set ?_)
  refine PyProof.Rows.callWith_type1 (PyProof.Rows.args_cons (thn (ha.run pins s σ H _ I h) fun v s1 ⟨x, H1, I1, r1, q1⟩ => PyProof.Rows.args_nil ?_) na) na rfl
  obtain ⟨l, ns, rfl, hq, hl, q1⟩ := q1
  cases r1
  obtain ⟨its, r, pl, hz⟩ := I1.tuple hq
  refine call_set_tupI ns (I1.ok.hd hc) pl (by simpa using ints_of_vals r) (by unfold scanBound; omega) fun h' tk c hS _ hk => ?_
  refine PyProof.Rows.args_nil ?_
  obtain ⟨o, es, ep, t, ho, hex, hd, _, hnd, hmem, _, hf, hn, _⟩ := hS
  have I2 : Inv X pins σ H1 { s1 with heap := h', toks := tk } := I1.kept fun b o e => hk b o e
  have e : es.size = dcnt ns := by
    rw [← dcnt_eq hnd fun k => (hmem k).symm.trans decide_eq_true_iff, List.length_map, Array.length_toList]
  have b : dcnt ns ≤ 1000 := by
    rw [← e, hn]
    omega
  exact call_len_set ho hex hd hf (by rw [e]; omega) ⟨.int (dcnt ns), H1, I2.tok _, ⟨_, by rw [e]⟩, q1⟩
theorem i_lset {a : E} (h : tE K (ev T (.lset a)) a.quiet σ H Q) : tE K (ev T a) a.quiet σ H fun x H1 => rLset K x H1 Q := by
  obtain ⟨F, ρ, fp, r, ρ', rel, e, k⟩ := h
  rw [ev] at e
  obtain ⟨⟨ra, ρ1⟩, e1, e2⟩ := bind_some' e
  obtain ⟨r', e3, e4⟩ := map_some' e2
  cases e4
  refine ⟨F, ρ, fp, ra, _, rel, e1, fun v F1 H1 p fp1 a1 => ?_⟩
  have B := a1.one
  unfold lsetF at e3
  cases e5 : ra.leafs with
  | none => rw [show (ra, ρ1).1 = ra from rfl, e5] at e3; cases e3
  | some z =>
    obtain ⟨b, ds⟩ := z
    rw [show (ra, ρ1).1 = ra from rfl, e5] at e3
    obtain ⟨ad, vs, rfl, d, hk⟩ := a1.rep.leafs a1.rel.sub e5
    rcases hk with ⟨rfl, hk⟩ | ⟨rfl, hk⟩
    · cases e3
    · obtain ⟨is, e6, e7⟩ := bind_some' e3
      obtain ⟨c, rfl⟩ := if_some e7
      have ev := d.ints e6
      subst ev
      exact ⟨ad, is, rfl, SqT.of hk, c, k _ _ _ _ _ (B.made (Mkd.plain a1.rel.sub (.int _)))⟩
/-! ### list(range(..)), tuple(range(..)) -/
theorem rgD_some {p : Int × Int} {xs : List PyData} (e : rgD p = some xs) : (p.2 - p.1).toNat ≤ sizeLine ∧ xs = rgL p.1 p.2 := by
  unfold rgD at e
  obtain ⟨h, rfl⟩ := if_some e
  exact ⟨h, rfl⟩
theorem rg_dq (F : Hp) (a b : Int) : DqAll F (rgV a b) (rgL a b) := by
  unfold rgV rgL
  induction List.range (b - a).toNat with
  | nil => exact .nil
  | cons i r ih => exact .cons (.int _) ih
theorem rgF_some {rs : List R} {p : Int × Int} (e : rgF rs = some p) : (∃ n, rs = [.int n] ∧ p = (0, n) ∧ -(2 ^ 62) ≤ n ∧ n < 2 ^ 62) ∨ (∃ a b, rs = [.int a, .int b] ∧ p = (a, b) ∧ -(2 ^ 62) ≤ a ∧ a < 2 ^ 62 ∧ -(2 ^ 62) ≤ b ∧ b < 2 ^ 62) := by
  unfold rgF at e
  split at e
  · obtain ⟨h, rfl⟩ := if_some e
    exact .inl ⟨_, rfl, rfl, h⟩
  · obtain ⟨h, rfl⟩ := if_some e
    exact .inr ⟨_, _, rfl, rfl, h⟩
  · cases e
theorem evs_len : ∀ {es : List E} {ρ ρ' : Env} {rs : List R}, evs T es ρ = some (rs, ρ') → rs.length = es.length
  | [], ρ, ρ', rs, e => by
    rw [evs] at e
    cases e
    rfl
  | a :: es, ρ, ρ', rs, e => by
    rw [evs] at e
    obtain ⟨⟨r, ρ1⟩, e1, e2⟩ := bind_some' e
    by_cases hb : (r.isBo && !quiets es) = true
    · rw [if_pos hb] at e2; cases e2
    · rw [if_neg hb] at e2
      obtain ⟨⟨rs2, ρ2⟩, e3, e4⟩ := map_some' e2
      cases e4
      show (r :: rs2).length = _
      rw [List.length_cons, List.length_cons, evs_len e3]
/-- the ints of range(..), as they come: one or two -/
def tRg (K : PySem.W.Frag) (T : Tbl) (es : List E) : L2.St → Hp → (Int → Int → Hp → Prop) → Prop := fun σ H Q => ∃ F ρ fp rs ρ' p, Rel K F H σ ρ fp ∧ evs T es ρ = some (rs, ρ') ∧ rgF rs = some p ∧
  ∀ vs F' H' q fp', Afs K F H fp σ (quiets es) rs ρ' vs F' H' q fp' → Q p.1 p.2 H'
theorem i_rg1 {a : E} {Q : Int → Int → Hp → Prop} (h : tRg K T [a] σ H Q) : tRg1 (tE K (ev T a) a.quiet) σ H Q := by
  obtain ⟨F, ρ, fp, rs, ρ', p, rel, e, e2, k⟩ := h
  have z : tAs K (evs T [a]) (quiets [a]) σ H fun vs H' => ∃ n, vs = [.int n] ∧ Q 0 n H' := by
    refine ⟨F, ρ, fp, rs, ρ', rel, e, fun vs F' H' q fp' b => ?_⟩
    rcases rgF_some e2 with ⟨n, rfl, rfl, _⟩ | ⟨a, b', rfl, rfl, _⟩
    · obtain ⟨x, rfl, hx⟩ := b.rep.one'
      cases hx.int
      exact ⟨n, rfl, k _ F' H' q fp' b⟩
    · have hl := evs_len e
      simp at hl
  obtain ⟨F, ρ, fp, r, ρ', rel, e, k⟩ := i_as1 z
  refine ⟨F, ρ, fp, r, ρ', rel, e, fun v F' H' p fp' b => ?_⟩
  obtain ⟨n, e3, q⟩ := i_as0 (k v F' H' p fp' b)
  cases e3
  exact ⟨n, rfl, q⟩
theorem i_rg2 {a b : E} {Q : Int → Int → Hp → Prop} (h : tRg K T [a, b] σ H Q) : tRg2 (tE K (ev T a) a.quiet) (tE K (ev T b) b.quiet) σ H Q := by
  obtain ⟨F, ρ, fp, rs, ρ', p, rel, e, e2, k⟩ := h
  have z : tAs K (evs T [a, b]) (quiets [a, b]) σ H fun vs H' => ∃ i j, vs = [.int i, .int j] ∧ Q i j H' := by
    refine ⟨F, ρ, fp, rs, ρ', rel, e, fun vs F' H' q fp' c => ?_⟩
    rcases rgF_some e2 with ⟨n, rfl, rfl, _⟩ | ⟨i, j, rfl, rfl, _⟩
    · have hl := evs_len e
      simp at hl
    · obtain ⟨x, y, p1, p2, rfl, hx, hy⟩ := c.rep.two'
      cases hx.int
      cases hy.int
      exact ⟨i, j, rfl, k _ F' H' q fp' c⟩
  obtain ⟨F, ρ, fp, r, ρ', rel, e, k⟩ := i_as1 z
  refine ⟨F, ρ, fp, r, ρ', rel, e, fun v F' H' p fp' c => ?_⟩
  obtain ⟨F1, ρ1, fp1, r1, ρ1', rel1, e1, k1⟩ := i_as1 (k v F' H' p fp' c)
  refine ⟨F1, ρ1, fp1, r1, ρ1', rel1, e1, fun v2 F2 H2 p2 fp2 c2 => ?_⟩
  obtain ⟨i, j, e3, q⟩ := i_as0 (k1 v2 F2 H2 p2 fp2 c2)
  cases e3
  exact ⟨i, j, rfl, rfl, q⟩
theorem rgok {rs : List R} {p : Int × Int} {xs : List PyData} (e : rgF rs = some p) (e2 : rgD p = some xs) : RgOk p.1 p.2 := by
  have hs := (rgD_some e2).1
  rw [sizeLine_eq] at hs
  rcases rgF_some e with ⟨n, rfl, rfl, h1, h2⟩ | ⟨i, j, rfl, rfl, h1, h2, h3, h4⟩
  · exact ⟨by show -(2 ^ 62) ≤ (0 : Int); decide, by show (0 : Int) < 2 ^ 62; decide, h1, h2, hs⟩
  · exact ⟨h1, h2, h3, h4, hs⟩
theorem i_lrg {es : List E} (h : tE K (ev T (.lrg es)) (quiets es) σ H Q) : tRg K T es σ H fun a b H1 => RgOk a b ∧ ∀ q, H1 q = none → Q (.ref q) (upd H1 q (.lst (rgV a b))) := by
  obtain ⟨F, ρ, fp, r, ρ', rel, e, k⟩ := h
  rw [ev] at e
  obtain ⟨⟨rs, ρ1⟩, e1, e2⟩ := bind_some' e
  obtain ⟨p, e3, e4⟩ := bind_some' e2
  obtain ⟨xs, e5, e6⟩ := map_some' e4
  cases e6
  have hx := (rgD_some e5).2
  exact ⟨F, ρ, fp, rs, _, p, rel, e1, e3, fun vs F' H' q fp' b => ⟨rgok e3 e5, fun l hl => k _ _ _ _ _ (b.made (Mkd.lst b.rel.sub (hx ▸ rg_dq F' p.1 p.2) hl))⟩⟩
theorem i_trg {es : List E} (h : tE K (ev T (.trg es)) (quiets es) σ H Q) : tRg K T es σ H fun a b H1 => RgOk a b ∧ ∀ q, H1 q = none → Q (.ref q) (upd H1 q (.tup (rgV a b))) := by
  obtain ⟨F, ρ, fp, r, ρ', rel, e, k⟩ := h
  rw [ev] at e
  obtain ⟨⟨rs, ρ1⟩, e1, e2⟩ := bind_some' e
  obtain ⟨p, e3, e4⟩ := bind_some' e2
  obtain ⟨xs, e5, e6⟩ := map_some' e4
  cases e6
  have hx := (rgD_some e5).2
  exact ⟨F, ρ, fp, rs, _, p, rel, e1, e3, fun vs F' H' q fp' b => ⟨rgok e3 e5, fun l hl => k _ _ _ _ _ (b.made (Mkd.tup b.rel.sub (hx ▸ rg_dq F' p.1 p.2) hl))⟩⟩
/-! ### calls -/
theorem Rel.slot {F H : Hp} {fp : List Addr} {ρ : Env} {i : Nat} (h : Rel K F H σ ρ fp) (n : ρ.at_ i ≠ .no) : ∃ v, σ[i]? = some (some v) := by
  obtain ⟨v, _, _, _, e, _⟩ := h.env.split i n
  exact ⟨v, e⟩
theorem i_call {f : Nat} {es : List E} {d : Fd} (hd : T[f]? = some d) {N : XK} (hn : d.ps.length = es.length) (h : tE K (ev T (.call f es)) (quiets es) σ H Q) : tAs K (evs T es) (quiets es) σ H fun vs H1 => spG K d.ps.length d.io d.g vs H1 Q N := by
  obtain ⟨F, ρ, fp, r, ρ', rel, e, k⟩ := h
  rw [ev] at e
  obtain ⟨⟨rs, ρ1⟩, e1, e2⟩ := bind_some' e
  rw [hd] at e2
  have e2' : (if rs.all R.isOk = true then (d.g rs).map fun r => (r.1, ρ1) else none) = some (r, ρ') := e2
  by_cases ok : rs.all R.isOk = true
  · rw [if_pos ok] at e2'
    obtain ⟨⟨r1, r0⟩, e3, e4⟩ := map_some' e2'
    cases e4
    refine ⟨F, ρ, fp, rs, _, rel, e1, fun vs F' H' p fp' b => ⟨?_, F', rs, p, r1, r0, b.rel.sub, b.rep.toE ok, (List.nodup_append.mp b.nd).1, b.dis, e3, fun v F2 H2 p2 p0 dd => k _ _ _ _ _ (b.call dd)⟩⟩
    rw [b.rep.length, evs_len e1, hn]
  · rw [if_neg ok] at e2'; cases e2'
theorem i_callM {f i : Nat} {es : List E} {d : Fd} (hd : T[f]? = some d) {N : XK} (hn : d.ps.length = es.length + 1) (h : tE K (ev T (.callM f i es)) false σ H Q) :
    tVar i σ H fun v H0 => tAs K (evs T es) (quiets es) σ H0 fun vs H1 => spG K d.ps.length d.io d.g (v :: vs) H1 Q N := by
  obtain ⟨F, ρ, fp, r, ρ', rel, e, k⟩ := h
  rw [ev] at e
  by_cases h0 : (ρ.at_ i).isOw = true
  case neg => rw [if_neg h0] at e; cases e
  rw [if_pos h0] at e
  obtain ⟨⟨rs, ρ1⟩, e1, e2⟩ := bind_some' e
  rw [hd] at e2
  have e2' : (if (d.io && rs.all R.isOk) = true then (match ρ1.at_ i with | .ow m => (d.g (.ow m :: rs)).bind fun r => (match r.2 with | .ow m' => some (r.1, ρ1.set i (.ow m')) | _ => none) | _ => none) else none) = some (r, ρ') := e2
  by_cases ok : (d.io && rs.all R.isOk) = true
  · rw [if_pos ok] at e2'
    rw [Bool.and_eq_true] at ok
    cases hm : ρ1.at_ i with
    | ow m =>
      rw [hm] at e2'
      obtain ⟨⟨r1, r0⟩, e3, e4⟩ := bind_some' (show (d.g (.ow m :: rs)).bind _ = _ from e2')
      cases r0 with
      | ow m' =>
        cases e4
        obtain ⟨v, s1⟩ := rel.slot (i := i) (fun z => by rw [z] at h0; cases h0)
        refine ⟨v, s1, F, ρ, fp, rs, _, rel, e1, fun vs F' H' p fp' b => ?_⟩
        obtain ⟨v', pi, l1, l2, z1, z2, z3, z4, z5, _⟩ := b.rel.env.split i (by rw [hm]; intro z; cases z)
        have ev' : v' = v := by rw [s1] at z1; exact (Option.some.inj (Option.some.inj z1)).symm
        subst ev'
        rw [hm] at z2
        have nd1 := List.nodup_append.mp b.nd
        have hin : ∀ x ∈ pi, x ∈ fp' := fun x hx => by rw [z4]; simp [hx]
        have ndp : pi.Nodup := by
          have := nd1.2.1
          rw [z4] at this
          exact (List.nodup_append.mp (List.nodup_append.mp this).2.1).1
        refine ⟨?_, F', .ow m :: rs, pi ++ p, r1, .ow m', b.rel.sub, .sm z2 rfl (b.rep.toE ok.2), List.nodup_append.mpr ⟨ndp, nd1.1, fun x hx y hy e => nd1.2.2 y hy x (hin x hx) e.symm⟩, fun x hx => ?_, e3, fun v2 F2 H2 p2 p0 dd => ?_⟩
        · rw [List.length_cons, b.rep.length, evs_len e1, hn]
        · rcases List.mem_append.mp hx with hx | hx
          · exact b.rel.dis x (hin x hx)
          · exact b.dis x hx
        · rw [ok.1] at dd
          exact k _ _ _ _ _ (b.callM (m := m) z4 dd z5)
      | _ => cases e4
    | _ => rw [hm] at e2'; cases e2'
  · rw [if_neg ok] at e2'; cases e2'
end
end Ev
end
section
set_option Elab.async false
set_option linter.all false
set_option maxHeartbeats 1000000
/-! Lists that are changed: the readings. What a statement leaves. -/
namespace Ev
open PySem PySem.Spec PyProof.Rows L2
section
variable (K : PySem.W.Frag)
/-- behind a statement -/
structure AfS (F H : Hp) (fp : List Addr) (σ : L2.St) (z : Bool) (ρ' : Env) (σ' : L2.St) (F' H' : Hp) (fp' : List Addr) : Prop where
  rel : Rel K F' H' σ' ρ' fp'
  stp : Stp F H fp F' H' fp'
  z0 : z = true → σ'[0]? = σ[0]?
/-- .. that returned -/
structure AfR (F H : Hp) (fp : List Addr) (σ : L2.St) (z : Bool) (r : R) (ρ' : Env) (v : V) (σ' : L2.St) (F' H' : Hp) (p fp' : List Addr) : Prop where
  rel : Rel K F' H' σ' ρ' fp'
  rep : RpR K F' H' v r p
  ok : r.isOk = true
  nd : (p ++ fp').Nodup
  dis : ∀ a ∈ p, F' a = none
  stp : Stp F H fp F' H' (p ++ fp')
  z0 : z = true → σ'[0]? = σ[0]?
def tS (f : Env → Option (Out × Env)) (z : Bool) : TS := fun D σ H => ∃ F ρ fp o ρ', Rel K F H σ ρ fp ∧ f ρ = some (o, ρ') ∧
  (match o with
   | .nx => ∀ σ' F' H' fp', AfS K F H fp σ z ρ' σ' F' H' fp' → D.nx σ' H'
   | .rt r => ∀ v σ' F' H' p fp', AfR K F H fp σ z r ρ' v σ' F' H' p fp' → D.rt v H')
end
section
variable {K : PySem.W.Frag} {T : Tbl} {σ : L2.St} {H : Hp} {Q : VK} {F : Hp} {ρ : Env} {fp : List Addr}
theorem AfS.of {q z : Bool} {ρ' : Env} {F' H' : Hp} {fp' : List Addr} (a : AfT K F H fp σ q ρ' F' H' fp') : AfS K F H fp σ z ρ' σ F' H' fp' := ⟨a.rel, a.stp, fun _ => rfl⟩
theorem AfS.refl (h : Rel K F H σ ρ fp) (z : Bool) : AfS K F H fp σ z ρ σ F H fp := ⟨h, Stp.refl F H fp, fun _ => rfl⟩
theorem AfS.trans {z1 z2 : Bool} {ρ1 ρ2 : Env} {σ1 σ2 : L2.St} {F1 H1 F2 H2 : Hp} {fp1 fp2 : List Addr} (a : AfS K F H fp σ z1 ρ1 σ1 F1 H1 fp1) (b : AfS K F1 H1 fp1 σ1 z2 ρ2 σ2 F2 H2 fp2) : AfS K F H fp σ (z1 && z2) ρ2 σ2 F2 H2 fp2 :=
  ⟨b.rel, a.stp.trans b.stp, fun h => by
    rw [Bool.and_eq_true] at h
    rw [b.z0 h.2, a.z0 h.1]⟩
theorem AfS.thenR {z1 z2 : Bool} {r : R} {ρ1 ρ2 : Env} {v : V} {σ1 σ2 : L2.St} {F1 H1 F2 H2 : Hp} {fp1 p fp2 : List Addr} (a : AfS K F H fp σ z1 ρ1 σ1 F1 H1 fp1) (b : AfR K F1 H1 fp1 σ1 z2 r ρ2 v σ2 F2 H2 p fp2) : AfR K F H fp σ (z1 && z2) r ρ2 v σ2 F2 H2 p fp2 :=
  ⟨b.rel, b.rep, b.ok, b.nd, b.dis, a.stp.trans b.stp, fun h => by
    rw [Bool.and_eq_true] at h
    rw [b.z0 h.2, a.z0 h.1]⟩
theorem AfS.less {z z2 : Bool} {ρ1 : Env} {σ1 : L2.St} {F1 H1 : Hp} {fp1 : List Addr} (a : AfS K F H fp σ z ρ1 σ1 F1 H1 fp1) (h : z2 = true → z = true) : AfS K F H fp σ z2 ρ1 σ1 F1 H1 fp1 := ⟨a.rel, a.stp, fun e => a.z0 (h e)⟩
theorem AfR.less {z z2 : Bool} {r : R} {ρ1 : Env} {v : V} {σ1 : L2.St} {F1 H1 : Hp} {p fp1 : List Addr} (a : AfR K F H fp σ z r ρ1 v σ1 F1 H1 p fp1) (h : z2 = true → z = true) : AfR K F H fp σ z2 r ρ1 v σ1 F1 H1 p fp1 := ⟨a.rel, a.rep, a.ok, a.nd, a.dis, a.stp, fun e => a.z0 (h e)⟩
theorem isLs_some {r : R} (h : r.isLs = true) : ∃ ms, r = .ow (.ls ms) := by
  cases r with
  | ow m => cases m <;> first | exact ⟨_, rfl⟩ | cases h
  | _ => cases h
theorem tyL {a : Addr} {vs : List V} (h : H a = some (.lst vs)) : tyV K "list" (.ref a) H := .inl ⟨rfl, vs, SqL.of h⟩
theorem drop_erase {α : Type} : ∀ (l : List α), l.dropLast = l.eraseIdx (l.length - 1)
  | [] => rfl
  | [a] => rfl
  | a :: b :: l => by
    have ih := drop_erase (b :: l)
    show a :: (b :: l).dropLast = _
    rw [ih]
    show _ = a :: (b :: l).eraseIdx _
    congr 1
theorem last_get {α : Type} {l : List α} {m : α} (e : l.getLast? = some m) : l[l.length - 1]? = some m := by
  rw [← e, List.getLast?_eq_getElem?]
/-- x.pop() -/
theorem i_pop {i : Nat} (h : tE K (ev T (.pop i)) false σ H Q) : tBM0 K "list" rPop (tVar i) σ H Q := by
  obtain ⟨F, ρ, fp, r, ρ', rel, e, k⟩ := h
  rw [ev] at e
  cases hm : ρ.at_ i with
  | ow m =>
    cases m with
    | ls ms =>
      rw [hm] at e
      obtain ⟨m, e1, e2⟩ := map_some' e
      cases e2
      obtain ⟨a, vs, pm, l1, l2, s1, ho⟩ := rel.hole hm
      obtain ⟨v, p, fp', z1, z2⟩ := Hole.out (Afs.nil rel false) ho (last_get e1)
      have hl := ho.items.length
      refine ⟨_, s1, tyL ho.at_, a, vs, v, rfl, rfl, ho.at_, by rw [hl]; exact z1, ?_⟩
      rw [drop_erase vs, hl]
      rw [drop_erase ms] at k
      exact k _ _ _ _ _ z2
    | _ => rw [hm] at e; cases e
  | _ => rw [hm] at e; cases e
/-- x.pop(e) -/
theorem i_popAt {i : Nat} {a : E} (h : tE K (ev T (.popAt i a)) false σ H Q) : tBM K "list" rPopAt (tVar i) (tCons (tE K (ev T a) a.quiet) tNil) σ H Q := by
  obtain ⟨F, ρ, fp, r, ρ', rel, e, k⟩ := h
  rw [ev] at e
  by_cases h0 : (ρ.at_ i).isLs = true
  case neg => rw [if_neg h0] at e; cases e
  rw [if_pos h0] at e
  obtain ⟨ms0, hm0⟩ := isLs_some h0
  obtain ⟨⟨ra, ρ1⟩, e1, e2⟩ := bind_some' e
  obtain ⟨ad, vs0, pm0, k1, k2, s1, ho0⟩ := rel.hole hm0
  refine ⟨_, s1, tyL ho0.at_, F, ρ, fp, ra, ρ1, rel, e1, fun v F1 H1 p fp1 a1 => ?_⟩
  cases ra with
  | d x =>
    cases x with
    | int n =>
      cases hm : ρ1.at_ i with
      | ow m =>
        cases m with
        | ls ms =>
          have e3 : (if -(2 ^ 63) ≤ n ∧ n < 2 ^ 63 then (ixN ms.length n).bind fun j => ms[j]?.map fun m => (unR .ow m, ρ1.set i (.ow (.ls (ms.eraseIdx j)))) else none) = some (r, ρ') := by
            have : (match (R.d (.int n)), ρ1.at_ i with
              | .d (.int k), .ow (.ls ms) => if -(2 ^ 63) ≤ k ∧ k < 2 ^ 63 then (ixN ms.length k).bind fun j => ms[j]?.map fun m => (unR .ow m, ρ1.set i (.ow (.ls (ms.eraseIdx j)))) else none
              | _, _ => none) = some (r, ρ') := e2
            rw [hm] at this
            exact this
          by_cases hb : -(2 ^ 63) ≤ n ∧ n < 2 ^ 63
          case neg => rw [if_neg hb] at e3; cases e3
          rw [if_pos hb] at e3
          obtain ⟨j, e4, e5⟩ := bind_some' e3
          obtain ⟨m, e6, e7⟩ := map_some' e5
          cases e7
          obtain ⟨a', vs, pm, l1, l2, s2, ho⟩ := a1.rel.hole hm
          have ea : V.ref a' = V.ref ad := by rw [s1] at s2; exact (Option.some.inj (Option.some.inj s2)).symm
          cases ea
          obtain ⟨w, p', fp', z1, z2⟩ := Hole.out a1.one ho e6
          have hl := ho.items.length
          have hv := a1.rep.int
          subst hv
          refine ⟨ad, vs, n, j, w, rfl, rfl, ho.at_, hb.1, hb.2, by rw [hl]; exact (ixN_seq e4).1, z1, k _ _ _ _ _ z2⟩
        | _ => rw [show (R.d (.int n), ρ1).2 = ρ1 from rfl, hm] at e2; cases e2
      | _ => rw [show (R.d (.int n), ρ1).2 = ρ1 from rfl, hm] at e2; cases e2
    | _ => cases e2
  | _ => cases e2
theorem atI_of {n : Int} {j : Nat} {α : Type} {xs : List α} {x : α} (e : ixN xs.length n = some j) (h : xs[j]? = some x) : atI xs n = some x := by
  unfold atI
  rw [e]
  exact h
/-- x[e].pop() -/
theorem i_popX {i : Nat} {a : E} (h : tE K (ev T (.popX i a)) false σ H Q) : tBM0 K "list" rPop (tOp (rIx K) (tVar i) (tE K (ev T a) a.quiet)) σ H Q := by
  obtain ⟨F, ρ, fp, r, ρ', rel, e, k⟩ := h
  rw [ev] at e
  by_cases h0 : (ρ.at_ i).isLs = true
  case neg => rw [if_neg h0] at e; cases e
  rw [if_pos h0] at e
  obtain ⟨ms0, hm0⟩ := isLs_some h0
  obtain ⟨⟨ra, ρ1⟩, e1, e2⟩ := bind_some' e
  obtain ⟨ad, vs0, pm0, k1, k2, s1, ho0⟩ := rel.hole hm0
  refine ⟨_, s1, F, ρ, fp, ra, ρ1, rel, e1, fun v F1 H1 p fp1 a1 => ?_⟩
  cases ra with
  | d x =>
    cases x with
    | int n =>
      cases hm : ρ1.at_ i with
      | ow m =>
        cases m with
        | ls ms =>
          have e3 : ((ixN ms.length n).bind fun j => match ms[j]? with
              | some (.ls us) => us.getLast?.map fun m => (unR .ow m, ρ1.set i (.ow (.ls (ms.set j (.ls us.dropLast)))))
              | _ => none) = some (r, ρ') := by
            have : (match (R.d (.int n)), ρ1.at_ i with
              | .d (.int k), .ow (.ls ms) => (ixN ms.length k).bind fun j => match ms[j]? with
                  | some (.ls us) => us.getLast?.map fun m => (unR .ow m, ρ1.set i (.ow (.ls (ms.set j (.ls us.dropLast)))))
                  | _ => none
              | _, _ => none) = some (r, ρ') := e2
            rw [hm] at this
            exact this
          obtain ⟨j, e4, e5⟩ := bind_some' e3
          cases hj : ms[j]? with
          | none => rw [hj] at e5; cases e5
          | some mj =>
            cases mj with
            | ls us =>
              rw [hj] at e5
              obtain ⟨m, e6, e7⟩ := map_some' e5
              cases e7
              obtain ⟨a', vs, pm, l1, l2, s2, ho⟩ := a1.rel.hole hm
              have ea : V.ref a' = V.ref ad := by rw [s1] at s2; exact (Option.some.inj (Option.some.inj s2)).symm
              cases ea
              obtain ⟨b, ws, pu, g1, g2, y1, hi⟩ := ho.inner a1.rel.nd hj
              obtain ⟨w, p', fp', z1, z2⟩ := Hole.out a1.one hi (last_get e6)
              have hl := ho.items.length
              have hl2 := hi.items.length
              have hv := a1.rep.int
              subst hv
              refine .inl ⟨ad, vs, n, .ref b, rfl, rfl, SqL.of ho.at_, atI_of (by rw [hl]; exact e4) y1, tyL hi.at_, b, ws, w, rfl, rfl, hi.at_, by rw [hl2]; exact z1, ?_⟩
              rw [drop_erase ws, hl2]
              rw [drop_erase us] at k
              exact k _ _ _ _ _ z2
            | _ => rw [hj] at e5; cases e5
        | _ => rw [show (R.d (.int n), ρ1).2 = ρ1 from rfl, hm] at e2; cases e2
      | _ => rw [show (R.d (.int n), ρ1).2 = ρ1 from rfl, hm] at e2; cases e2
    | _ => cases e2
  | _ => cases e2
/-! ### statements that change a list -/
theorem putL_ok {q : Bool} {rs : List R} {ρ1 ρ2 : Env} {vs0 : List V} {F1 H1 : Hp} {pin fp1 : List Addr} {r : R} {v : V} {i : Nat} {k : Int} (z : Afs K F H fp σ q rs ρ1 vs0 F1 H1 pin fp1) (hv : RpR K F1 H1 v r pin) (e : putL i (.d (.int k)) r ρ1 = some ρ2) :
    ∃ a vs j fp2, σ[i]? = some (some (.ref a)) ∧ H1 a = some (.lst vs) ∧ ixN vs.length k = some j ∧ Aft K F H fp σ false (.d .none) ρ2 .non F1 (upd H1 a (.lst (vs.set j v))) [] fp2 := by
  cases hm : ρ1.at_ i with
  | ow m =>
    cases m with
    | ls ms =>
      have e3 : (if r.isOw = true then (ixN ms.length k).map fun j => ρ1.set i (.ow (.ls (ms.set j r.toM))) else none) = some ρ2 := by
        unfold putL at e
        rw [hm] at e
        exact e
      by_cases ow : r.isOw = true
      case neg => rw [if_neg ow] at e3; cases e3
      rw [if_pos ow] at e3
      obtain ⟨j, e4, rfl⟩ := map_some' e3
      obtain ⟨a, vs, pm, l1, l2, s1, ho⟩ := z.rel.hole hm
      have hl := ho.items.length
      obtain ⟨fp2, z2⟩ := Hole.set z (hv.ownt ow) ho (ixN_seq e4).2.1
      exact ⟨a, vs, j, fp2, s1, ho.at_, by rw [hl]; exact e4, z2⟩
    | _ => unfold putL at e; rw [hm] at e; cases e
  | _ => unfold putL at e; rw [hm] at e; cases e
theorem putL_int {i : Nat} {k r : R} {ρ1 ρ2 : Env} (e : putL i k r ρ1 = some ρ2) : ∃ n, k = .d (.int n) := by
  unfold putL at e
  split at e
  · exact ⟨_, rfl⟩
  · cases e
theorem isBo_of {r : R} (h : r.isOw = true) (q : Bool) : (r.isBo && !q) = false := by
  cases r <;> first | rfl | cases h
theorem isBo_ofD {r : R} (h : r.isD = true) (q : Bool) : (r.isBo && !q) = false := by
  cases r <;> first | rfl | cases h
theorem aS {q z : Bool} {r : R} {ρ' : Env} {v : V} {F' H' : Hp} {p fp' : List Addr} (a : Aft K F H fp σ q r ρ' v F' H' p fp') : AfS K F H fp σ z ρ' σ F' H' fp' := AfS.of (AfT.of a)
/-- x[a] = e -/
theorem i_setS {i : Nat} {a b : E} {z : Bool} {D : Ends} (h : tS K (exec T (.setS i a b)) z D σ H) : tAsg (tE K (ev T b) b.quiet) (gSub (tVar i) (tE K (ev T a) a.quiet) rSetL) D σ H := by
  obtain ⟨F, ρ, fp, o, ρ', rel, e, k⟩ := h
  rw [exec] at e
  obtain ⟨⟨r, ρ1⟩, e1, e2⟩ := bind_some' e
  by_cases c : (r.isOw && (ρ1.at_ i).isLs) = true
  case neg => rw [if_neg c] at e2; cases e2
  rw [if_pos c] at e2
  rw [Bool.and_eq_true] at c
  obtain ⟨⟨rk, ρ2⟩, e3, e4⟩ := bind_some' e2
  obtain ⟨ρ3, e5, e6⟩ := map_some' e4
  cases e6
  refine ⟨F, ρ, fp, r, ρ1, rel, e1, fun v F1 H1 p1 fp1 a1 => ?_⟩
  obtain ⟨ms0, hm0⟩ := isLs_some c.2
  obtain ⟨x, s1⟩ := a1.rel.slot (i := i) (fun y => by rw [hm0] at y; cases y)
  refine ⟨x, s1, F1, ρ1, fp1, rk, ρ2, a1.rel, e3, fun kv F2 H2 p2 fp2 a2 => ?_⟩
  obtain ⟨n, en⟩ := putL_int e5
  have en' : rk = .d (.int n) := en
  subst en'
  have hk := a2.rep.int
  have hp : p2 = [] := a2.rep.2
  subst hk hp
  have B := a1.cons a2.one (isBo_of c.1 _)
  rw [List.append_nil] at B
  have hv := a1.rep.mono a2.stp.sub (fun x hx o ho => a2.stp.keep x o ho fun m => (List.nodup_append.mp a1.nd).2.2 x hx x m rfl) (fun y => by have := isBo_of c.1 false; rw [y] at this; cases this)
  obtain ⟨ad, vs, j, fp3, y1, y2, y3, y4⟩ := putL_ok B hv e5
  have ex : V.ref ad = x := by rw [s1] at y1; exact (Option.some.inj (Option.some.inj y1)).symm
  subst ex
  exact ⟨ad, vs, n, j, rfl, rfl, y2, y3, k _ _ _ _ (aS y4)⟩
/-- x[a], x[b] = y, z -/
theorem i_parS {i : Nat} {a b x y : E} {z : Bool} {D : Ends} (h : tS K (exec T (.parS i a b x y)) z D σ H) :
    tAsg (tTup (tAs K (evs T [x, y]) (quiets [x, y]))) (gTup K 2 (gCons (gSub (tVar i) (tE K (ev T a) a.quiet) rSetL) (gCons (gSub (tVar i) (tE K (ev T b) b.quiet) rSetL) gNil))) D σ H := by
  obtain ⟨F, ρ, fp, o, ρ', rel, e, k⟩ := h
  rw [exec] at e
  obtain ⟨⟨rx, ρ1⟩, e1, e2⟩ := bind_some' e
  obtain ⟨⟨ry, ρ2⟩, e3, e4⟩ := bind_some' e2
  have e4' : (if (rx.isD && ry.isD && (ρ2.at_ i).isLs) = true then (ev T a ρ2).bind fun u => (putL i u.1 rx u.2).bind fun ρ1 => (ev T b ρ1).bind fun w => (putL i w.1 ry w.2).map fun ρ2 => (Out.nx, ρ2) else none) = some (o, ρ') := e4
  by_cases c : (rx.isD && ry.isD && (ρ2.at_ i).isLs) = true
  case neg => rw [if_neg c] at e4'; cases e4'
  rw [if_pos c] at e4'
  simp only [Bool.and_eq_true] at c
  obtain ⟨⟨ra, ρ3⟩, e5, e6⟩ := bind_some' e4'
  obtain ⟨ρ4, e7, e8⟩ := bind_some' e6
  obtain ⟨⟨rb, ρ5⟩, e9, e10⟩ := bind_some' e8
  obtain ⟨ρ6, e11, e12⟩ := map_some' e10
  cases e12
  have es : evs T [x, y] ρ = some ([rx, ry], ρ2) := by
    have h1 := isBo_ofD c.1.1 (quiets [y])
    have h2 := isBo_ofD c.1.2 (quiets [])
    rw [evs, e1]
    simp only [Option.bind_some, h1, Bool.false_eq_true, if_false]
    rw [evs, e3]
    simp only [Option.bind_some, h2, Bool.false_eq_true, if_false]
    rw [evs]
    rfl
  refine ⟨F, ρ, fp, [rx, ry], ρ2, rel, es, fun vs F1 H1 p fp1 a1 => ?_⟩
  obtain ⟨dx, hdx⟩ : ∃ dx, rx = .d dx := by cases rx <;> first | exact ⟨_, rfl⟩ | cases c.1.1
  obtain ⟨dy, hdy⟩ : ∃ dy, ry = .d dy := by cases ry <;> first | exact ⟨_, rfl⟩ | cases c.1.2
  subst hdx hdy
  obtain ⟨v, w, p1, p2, rfl, hx, hy⟩ := a1.rep.two'
  refine ⟨by show 2 ≤ sizeLine; decide, fun t ht => ⟨t, [v, w], rfl, SqT.of upd_same, rfl, v, [w], rfl, ?_⟩⟩
  -- the pair stands in the heap, untold of
  have A1 : AfT K F H fp σ false ρ2 F1 (upd H1 t (.tup [v, w])) fp1 := by
    have m := a1.made (r := .d .none) (v := .non) (F2 := F1) (H2 := upd H1 t (.tup [v, w])) (p2 := []) ⟨same_upd ht, Same.refl F1, a1.rel.sub.trans (same_upd ht), fun b o e m => (by rw [m] at e; cases e), fun b m => absurd m (by simp), List.nodup_nil, ⟨.non, rfl⟩⟩
    exact (AfT.of m).less fun y => nomatch y
  obtain ⟨ms0, hm0⟩ := isLs_some c.2
  obtain ⟨o1, s1⟩ := A1.rel.slot (i := i) (fun y => by rw [hm0] at y; cases y)
  refine ⟨o1, s1, F1, ρ2, fp1, ra, ρ3, A1.rel, e5, fun ka F2 H2 q2 fp2 a2 => ?_⟩
  obtain ⟨n, en⟩ := putL_int e7
  have en' : ra = .d (.int n) := en
  subst en'
  have hk := a2.rep.int
  subst hk
  have hx2 : RpR K F2 H2 v (.d dx) [] := ⟨hx.1.mono a2.stp.sub, rfl⟩
  obtain ⟨ad, us, j, fp3, y1, y2, y3, y4⟩ := putL_ok (AfT.nil (AfT.of a2)) hx2 e7
  have ex : V.ref ad = o1 := by rw [s1] at y1; exact (Option.some.inj (Option.some.inj y1)).symm
  subst ex
  refine ⟨ad, us, n, j, rfl, rfl, y2, y3, w, [], rfl, .ref ad, s1, F2, ρ4, fp3, rb, ρ5, y4.rel, e9, fun kb F3 H3 q3 fp4 a3 => ?_⟩
  obtain ⟨n2, en2⟩ := putL_int e11
  have en2' : rb = .d (.int n2) := en2
  subst en2'
  have hk2 := a3.rep.int
  subst hk2
  have hy3 : RpR K F3 H3 w (.d dy) [] := ⟨(hy.1.mono a2.stp.sub).mono a3.stp.sub, rfl⟩
  obtain ⟨ad2, us2, j2, fp5, x1, x2, x3, x4⟩ := putL_ok (AfT.nil (AfT.of a3)) hy3 e11
  have ex2 : V.ref ad2 = V.ref ad := by rw [s1] at x1; exact (Option.some.inj (Option.some.inj x1)).symm
  cases ex2
  exact ⟨ad, us2, n2, j2, rfl, rfl, x2, x3, rfl, k _ _ _ _ (AfS.of ((A1.trans (AfT.of y4)).trans (AfT.of x4)))⟩
/-- x.append(e), x.extend(e): as expressions whose value is dropped -/
theorem i_app {i : Nat} {a : E} {z : Bool} {D : Ends} (h : tS K (exec T (.app i a)) z D σ H) : tDrop (tBM K "list" rAppend (tVar i) (tCons (tE K (ev T a) a.quiet) tNil)) D σ H := by
  obtain ⟨F, ρ, fp, o, ρ', rel, e, k⟩ := h
  rw [exec] at e
  by_cases h0 : (ρ.at_ i).isLs = true
  case neg => rw [if_neg h0] at e; cases e
  rw [if_pos h0] at e
  obtain ⟨ms0, hm0⟩ := isLs_some h0
  obtain ⟨⟨r, ρ1⟩, e1, e2⟩ := bind_some' e
  obtain ⟨ρ2, e3, e4⟩ := map_some' e2
  have eo : o = .nx := (congrArg Prod.fst e4).symm
  have eρ : ρ2 = ρ' := congrArg Prod.snd e4
  subst eo eρ
  obtain ⟨ad, vs0, pm0, k1, k2, s1, ho0⟩ := rel.hole hm0
  refine ⟨_, s1, tyL ho0.at_, F, ρ, fp, r, ρ1, rel, e1, fun v F1 H1 p fp1 a1 => ?_⟩
  have e3' : appL i r ρ1 = some ρ2 := e3
  unfold appL at e3'
  cases hm : ρ1.at_ i with
  | ow m =>
    cases m with
    | ls ms =>
      rw [hm] at e3'
      have e5 : (if (r.isOw && decide (ms.length < sizeLine)) = true then some (ρ1.set i (.ow (.ls (ms ++ [r.toM])))) else none) = some ρ2 := e3'
      obtain ⟨c, rfl⟩ := if_some e5
      rw [Bool.and_eq_true, decide_eq_true_eq] at c
      obtain ⟨a', vs, pm, l1, l2, s2, ho⟩ := a1.rel.hole hm
      have ea : V.ref a' = V.ref ad := by rw [s1] at s2; exact (Option.some.inj (Option.some.inj s2)).symm
      cases ea
      obtain ⟨fp2, z2⟩ := Hole.app a1.one (a1.rep.ownt c.1) ho
      exact ⟨ad, vs, v, rfl, rfl, ho.at_, by rw [ho.items.length]; exact c.2, k _ _ _ _ (aS z2)⟩
    | _ => rw [hm] at e3'; cases e3'
  | _ => rw [hm] at e3'; cases e3'
theorem i_ext {i : Nat} {a : E} {z : Bool} {D : Ends} (h : tS K (exec T (.ext i a)) z D σ H) : tDrop (tBM K "list" rExtend (tVar i) (tCons (tE K (ev T a) a.quiet) tNil)) D σ H := by
  obtain ⟨F, ρ, fp, o, ρ', rel, e, k⟩ := h
  rw [exec] at e
  by_cases h0 : (ρ.at_ i).isLs = true
  case neg => rw [if_neg h0] at e; cases e
  rw [if_pos h0] at e
  obtain ⟨ms0, hm0⟩ := isLs_some h0
  obtain ⟨⟨r, ρ1⟩, e1, e2⟩ := bind_some' e
  obtain ⟨ρ2, e3, e4⟩ := map_some' e2
  have eo : o = .nx := (congrArg Prod.fst e4).symm
  have eρ : ρ2 = ρ' := congrArg Prod.snd e4
  subst eo eρ
  obtain ⟨ad, vs0, pm0, k1, k2, s1, ho0⟩ := rel.hole hm0
  refine ⟨_, s1, tyL ho0.at_, F, ρ, fp, r, ρ1, rel, e1, fun v F1 H1 p fp1 a1 => ?_⟩
  have e3' : extL i r ρ1 = some ρ2 := e3
  unfold extL at e3'
  cases hm : ρ1.at_ i with
  | ow m =>
    cases m with
    | ls ms =>
      rw [hm] at e3'
      cases hr : r.leafs with
      | none => rw [hr] at e3'; cases e3'
      | some y =>
        obtain ⟨b, xs⟩ := y
        rw [hr] at e3'
        cases b with
        | false => cases e3'
        | true =>
          have e5 : (if ms.length + xs.length ≤ sizeLine then some (ρ1.set i (.ow (.ls (ms ++ xs.map .d)))) else none) = some ρ2 := e3'
          obtain ⟨c, rfl⟩ := if_some e5
          obtain ⟨a', vs, pm, l1, l2, s2, ho⟩ := a1.rel.hole hm
          have ea : V.ref a' = V.ref ad := by rw [s1] at s2; exact (Option.some.inj (Option.some.inj s2)).symm
          cases ea
          obtain ⟨b, ws, rfl, dq, hk⟩ := a1.rep.leafs a1.rel.sub hr
          have hb : H1 b = some (.lst ws) := hk.elim (fun y => y.2) fun y => nomatch y.1
          obtain ⟨fp2, z2⟩ := Hole.ext a1.one dq ho
          exact ⟨ad, b, vs, ws, rfl, rfl, ho.at_, hb, by rw [ho.items.length, dq.length]; exact c, k _ _ _ _ (aS z2)⟩
    | _ => rw [hm] at e3'; cases e3'
  | _ => rw [hm] at e3'; cases e3'
/-- x[a].append(e), x[a][b] = e -/
theorem inner_at {ρ1 : Env} {F1 H1 : Hp} {fp1 : List Addr} {i j : Nat} {ms us : List M} {ad : Addr} (rel : Rel K F1 H1 σ ρ1 fp1) (s1 : σ[i]? = some (some (.ref ad))) (hm : ρ1.at_ i = .ow (.ls ms)) (hj : ms[j]? = some (.ls us)) :
    ∃ vs b ws pu g1 g2, H1 ad = some (.lst vs) ∧ vs.length = ms.length ∧ vs[j]? = some (.ref b) ∧ Hole K F1 H1 σ fp1 b ws us (fun us' => ρ1.set i (.ow (.ls (ms.set j (.ls us'))))) pu g1 g2 := by
  obtain ⟨a', vs, pm, l1, l2, s2, ho⟩ := rel.hole hm
  have ea : V.ref a' = V.ref ad := by rw [s1] at s2; exact (Option.some.inj (Option.some.inj s2)).symm
  cases ea
  obtain ⟨b, ws, pu, g1, g2, y1, hi⟩ := ho.inner rel.nd hj
  exact ⟨vs, b, ws, pu, g1, g2, ho.at_, ho.items.length, y1, hi⟩
theorem appLL_some {i : Nat} {k r : R} {ρ1 ρ2 : Env} (e : appLL i k r ρ1 = some ρ2) : ∃ n ms j us, k = .d (.int n) ∧ ρ1.at_ i = .ow (.ls ms) ∧ ixN ms.length n = some j ∧ ms[j]? = some (.ls us) ∧ r.isOw = true ∧ us.length < sizeLine ∧ ρ2 = ρ1.set i (.ow (.ls (ms.set j (.ls (us ++ [r.toM]))))) := by
  unfold appLL at e
  split at e
  · rename_i n ms hm
    obtain ⟨j, e1, e2⟩ := bind_some' e
    split at e2
    · rename_i us hj
      obtain ⟨c, e3⟩ := if_some e2
      rw [Bool.and_eq_true, decide_eq_true_eq] at c
      exact ⟨n, ms, j, us, rfl, hm, e1, hj, c.1, c.2, e3.symm⟩
    · cases e2
  · cases e
theorem i_appX {i : Nat} {a b : E} {z : Bool} {D : Ends} (h : tS K (exec T (.appX i a b)) z D σ H) : tDrop (tBM K "list" rAppend (tOp (rIx K) (tVar i) (tE K (ev T a) a.quiet)) (tCons (tE K (ev T b) b.quiet) tNil)) D σ H := by
  obtain ⟨F, ρ, fp, o, ρ', rel, e, k⟩ := h
  rw [exec] at e
  by_cases h0 : (ρ.at_ i).isLs = true
  case neg => rw [if_neg h0] at e; cases e
  rw [if_pos h0] at e
  obtain ⟨ms0, hm0⟩ := isLs_some h0
  obtain ⟨⟨ra, ρ1⟩, e1, e2⟩ := bind_some' e
  have e2' : (if (ra.isD && (appLL i ra (.d .none) ρ1).isSome && b.quiet) = true then (ev T b ρ1).bind fun q => (appLL i ra q.1 q.2).map fun ρ1 => (Out.nx, ρ1) else none) = some (o, ρ') := e2
  by_cases c : (ra.isD && (appLL i ra (.d .none) ρ1).isSome && b.quiet) = true
  case neg => rw [if_neg c] at e2'; cases e2'
  rw [if_pos c] at e2'
  simp only [Bool.and_eq_true] at c
  obtain ⟨⟨rb, ρ2⟩, e3, e4⟩ := bind_some' e2'
  obtain ⟨ρ3, e5, e6⟩ := map_some' e4
  cases e6
  obtain ⟨n, ms2, j2, us2, rfl, hm2, q1, q2, q3, q4, rfl⟩ := appLL_some e5
  obtain ⟨ρz, ez⟩ := Option.isSome_iff_exists.mp c.1.2
  obtain ⟨n', ms1, j1, us1, en, hm1, w1, w2, _, _, _⟩ := appLL_some ez
  cases en
  obtain ⟨ad, vs0, pm0, k1, k2, s1, ho0⟩ := rel.hole hm0
  refine ⟨_, s1, F, ρ, fp, _, ρ1, rel, e1, fun v F1 H1 p fp1 a1 => ?_⟩
  have hv := a1.rep.int
  subst hv
  obtain ⟨vs1, b1, ws1, pu1, g1, g2, x1, x2, x3, x4⟩ := inner_at a1.rel s1 hm1 w2
  refine .inl ⟨ad, vs1, n, .ref b1, rfl, rfl, SqL.of x1, atI_of (by rw [x2]; exact w1) x3, tyL x4.at_, F1, ρ1, fp1, rb, ρ2, a1.rel, e3, fun v2 F2 H2 p2 fp2 a2 => ?_⟩
  obtain ⟨vs2, b2, ws2, pu2, h1, h2, y1, y2, y3, y4⟩ := inner_at a2.rel s1 hm2 q2
  have ev : vs1 = vs2 := by
    have z := (a2.qt c.2).1 _ _ x1
    rw [y1] at z
    cases z
    rfl
  subst ev
  have ej : j1 = j2 := by
    rw [← x2] at w1
    rw [← y2, w1] at q1
    exact Option.some.inj q1
  subst ej
  have eb : b1 = b2 := by
    rw [x3] at y3
    cases y3
    rfl
  subst eb
  obtain ⟨fp3, z2⟩ := Hole.app a2.one (a2.rep.ownt q3) y4
  exact ⟨b1, ws2, v2, rfl, rfl, y4.at_, by rw [y4.items.length]; exact q4, k _ _ _ _ (AfS.of ((AfT.of a1).trans (AfT.of z2)))⟩
theorem putLL_some {i : Nat} {k l r : R} {ρ1 ρ2 : Env} (e : putLL i k l r ρ1 = some ρ2) : ∃ n ms j us m t, k = .d (.int n) ∧ l = .d (.int m) ∧ ρ1.at_ i = .ow (.ls ms) ∧ ixN ms.length n = some j ∧ ms[j]? = some (.ls us) ∧ ixN us.length m = some t ∧ r.isOw = true ∧ ρ2 = ρ1.set i (.ow (.ls (ms.set j (.ls (us.set t r.toM))))) := by
  unfold putLL at e
  split at e
  · rename_i n ms hm
    obtain ⟨j, e1, e2⟩ := bind_some' e
    split at e2
    · rename_i us m hj
      by_cases c : r.isOw = true
      · rw [if_pos c] at e2
        obtain ⟨t, e3, e4⟩ := map_some' e2
        exact ⟨n, ms, j, us, m, t, rfl, rfl, hm, e1, hj, e3, c, e4.symm⟩
      · rw [if_neg c] at e2; cases e2
    · cases e2
  · cases e
theorem i_setSS {i : Nat} {a b c : E} {z : Bool} {D : Ends} (h : tS K (exec T (.setSS i a b c)) z D σ H) : tAsg (tE K (ev T c) c.quiet) (gSub (tOp (rIx K) (tVar i) (tE K (ev T a) a.quiet)) (tE K (ev T b) b.quiet) rSetL) D σ H := by
  obtain ⟨F, ρ, fp, o, ρ', rel, e, k⟩ := h
  rw [exec] at e
  obtain ⟨⟨r, ρ1⟩, e1, e2⟩ := bind_some' e
  by_cases ok : (r.isOw && (ρ1.at_ i).isLs) = true
  case neg => rw [if_neg ok] at e2; cases e2
  rw [if_pos ok] at e2
  rw [Bool.and_eq_true] at ok
  obtain ⟨⟨ra, ρ2⟩, e3, e4⟩ := bind_some' e2
  have e4' : (if (ra.isD && (appLL i ra (.d .none) ρ2).isSome && b.quiet) = true then (ev T b ρ2).bind fun z => (putLL i ra z.1 r z.2).map fun ρ1 => (Out.nx, ρ1) else none) = some (o, ρ') := e4
  by_cases ok2 : (ra.isD && (appLL i ra (.d .none) ρ2).isSome && b.quiet) = true
  case neg => rw [if_neg ok2] at e4'; cases e4'
  rw [if_pos ok2] at e4'
  simp only [Bool.and_eq_true] at ok2
  obtain ⟨⟨rb, ρ3⟩, e5, e6⟩ := bind_some' e4'
  obtain ⟨ρ4, e7, e8⟩ := map_some' e6
  have eo : o = .nx := (congrArg Prod.fst e8).symm
  have eρ : ρ4 = ρ' := congrArg Prod.snd e8
  subst eo eρ
  obtain ⟨n, ms, j, us, m, t, rfl, en, hm, q1, q2, q3, q4, q5⟩ := putLL_some e7
  have en' : rb = .d (.int m) := en
  subst en'
  obtain ⟨ρz, ez⟩ := Option.isSome_iff_exists.mp ok2.1.2
  obtain ⟨n', ms1, j1, us1, en, hm1, w1, w2, _, _, _⟩ := appLL_some ez
  cases en
  refine ⟨F, ρ, fp, r, ρ1, rel, e1, fun v F1 H1 p1 fp1 a1 => ?_⟩
  obtain ⟨ms0, hm0⟩ := isLs_some ok.2
  obtain ⟨ad, vs0, pm0, k1, k2, s1, ho0⟩ := a1.rel.hole hm0
  refine ⟨_, s1, F1, ρ1, fp1, _, ρ2, a1.rel, e3, fun kv F2 H2 p2 fp2 a2 => ?_⟩
  have hk := a2.rep.int
  have hp : p2 = [] := a2.rep.2
  subst hk hp
  obtain ⟨vs1, b1, ws1, pu1, g1, g2, x1, x2, x3, x4⟩ := inner_at a2.rel s1 hm1 w2
  refine .inl ⟨ad, vs1, n, .ref b1, rfl, rfl, SqL.of x1, atI_of (by rw [x2]; exact w1) x3, F2, ρ2, fp2, _, ρ3, a2.rel, e5, fun v3 F3 H3 p3 fp3 a3 => ?_⟩
  obtain ⟨vs2, b2, ws2, pu2, h1, h2, y1, y2, y3, y4⟩ := inner_at a3.rel s1 hm q2
  have ev : vs1 = vs2 := by
    have z := (a3.qt ok2.2).1 _ _ x1
    rw [y1] at z
    cases z
    rfl
  subst ev
  have ej : j1 = j := by
    rw [← x2] at w1
    rw [← y2, w1] at q1
    exact Option.some.inj q1
  subst ej
  have eb : b1 = b2 := by
    rw [x3] at y3
    cases y3
    rfl
  subst eb
  have hk3 := a3.rep.int
  have hp3 : p3 = [] := a3.rep.2
  subst hk3 hp3
  have B := a1.cons (a2.cons a3.one rfl) (isBo_of ok.1 _)
  rw [List.nil_append, List.append_nil] at B
  have st : AfT K F1 H1 fp1 σ (a.quiet && b.quiet) ρ3 F3 H3 fp3 := (AfT.of a2).trans (AfT.of a3)
  have hv := a1.rep.mono st.stp.sub (fun x hx o ho => st.stp.keep x o ho fun m => (List.nodup_append.mp a1.nd).2.2 x hx x m rfl) (fun y => by have := isBo_of ok.1 false; rw [y] at this; cases this)
  obtain ⟨fp4, z4⟩ := Hole.set B (hv.ownt q4) y4 (ixN_seq q3).2.1
  subst q5
  exact ⟨b1, ws2, m, t, rfl, rfl, y4.at_, by rw [y4.items.length]; exact q3, k _ _ _ _ (aS z4)⟩
end
end Ev
end
section
set_option Elab.async false
set_option linter.all false
set_option maxHeartbeats 1000000
/-! Targets, what is walked, loops. -/
namespace Ev
open PySem PySem.Spec PyProof.Rows L2
section
variable {K : PySem.W.Frag} {T : Tbl} {σ : L2.St} {H : Hp} {F : Hp} {ρ : Env} {fp : List Addr}
/-! ### slots stored -/
theorem Rel.put {v : V} {r : R} {p : List Addr} (h : Rel K F H σ ρ fp) (i : Nat) (hv : RpR K F H v r p) (ok : r.isOk = true) (nd : (p ++ fp).Nodup) (dis : ∀ a ∈ p, F a = none) :
    ∃ fp', Rel K F H (σ.set i (some v)) (ρ.set i r) fp' ∧ ∀ x ∈ fp', x ∈ p ++ fp := by
  by_cases hi : i < ρ.length
  · obtain ⟨l1, p0, l2, e, z⟩ := RpE.put i h.env hv ok hi
    have nd1 := List.nodup_append.mp nd
    have nd2 := nd1.2.1
    rw [e] at nd2
    have a1 := List.nodup_append.mp nd2
    have a2 := List.nodup_append.mp a1.2.1
    have inl : ∀ x, x ∈ l1 ∨ x ∈ l2 → x ∈ fp := fun x hx => by
      rw [e]
      rcases hx with hx | hx <;> simp [hx]
    refine ⟨l1 ++ (p ++ l2), ⟨h.sub, z, List.nodup_append.mpr ⟨a1.1, List.nodup_append.mpr ⟨nd1.1, a2.2.1, fun x hx y hy => nd1.2.2 x hx y (inl y (.inr hy))⟩, fun x hx y hy e2 => ?_⟩, fun x hx => ?_⟩, fun x hx => ?_⟩
    · rcases List.mem_append.mp hy with hy | hy
      · exact nd1.2.2 y hy x (inl x (.inl hx)) e2.symm
      · exact a1.2.2 x hx y (List.mem_append_right _ hy) e2
    · rcases List.mem_append.mp hx with hx | hx
      · exact h.dis x (inl x (.inl hx))
      · rcases List.mem_append.mp hx with hx | hx
        · exact dis x hx
        · exact h.dis x (inl x (.inr hx))
    · rcases List.mem_append.mp hx with hx | hx
      · exact List.mem_append_right _ (inl x (.inl hx))
      · rcases List.mem_append.mp hx with hx | hx
        · exact List.mem_append_left _ hx
        · exact List.mem_append_right _ (inl x (.inr hx))
  · have hl := h.env.length
    rw [List.set_eq_of_length_le (by omega), List.set_eq_of_length_le (by omega)]
    exact ⟨fp, h, fun x hx => List.mem_append_right _ hx⟩
theorem set0 {i : Nat} {o : Option V} (h : (i != 0) = true) : (σ.set i o)[0]? = σ[0]? := by
  have : i ≠ 0 := by simpa using h
  rw [List.getElem?_set_ne this]
/-- several, of plain data -/
theorem Rel.puts : ∀ {is : List Nat} {xs : List PyData} {vs : List V} {σ : L2.St} {ρ ρ' : Env} {fp : List Addr}, Rel K F H σ ρ fp → DqAll F vs xs → setTs is xs ρ = some ρ' → vs.length = is.length ∧
    ∃ fp' σ', Rel K F H σ' ρ' fp' ∧ (∀ x ∈ fp', x ∈ fp) ∧ (is.all (· != 0) = true → σ'[0]? = σ[0]?) ∧ σ' = (is.zip vs).foldl (fun s p => s.set p.1 (some p.2)) σ
  | [], [], _, σ, ρ, ρ', fp, h, .nil, e => by
    cases e
    exact ⟨rfl, fp, σ, h, fun _ m => m, fun _ => rfl, rfl⟩
  | i :: is, x :: xs, _, σ, ρ, ρ', fp, h, .cons (v := v) hd t, e => by
    obtain ⟨fp1, h1, s1⟩ := h.put i (v := v) (r := .d x) (p := []) ⟨hd, rfl⟩ rfl h.nd (fun a m => absurd m (by simp))
    obtain ⟨e1, fp2, σ2, h2, s2, z2, e2⟩ := Rel.puts (is := is) h1 t e
    refine ⟨by simp [e1], fp2, σ2, h2, fun y m => s1 y (s2 y m), fun z => ?_, e2⟩
    rw [List.all_cons, Bool.and_eq_true] at z
    rw [z2 z.2, set0 z.1]
  | [], _ :: _, _, _, _, _, _, _, _, e => by cases e
  | _ :: _, [], _, _, _, _, _, _, _, e => by cases e
def gNs : List Nat → TGs
  | [] => gNil
  | i :: is => gCons (gName i) (gNs is)
def gOf (K : PySem.W.Frag) : Tg → TG
  | .nm i => gName i
  | .tup is => fun v σ H Q => gTup K is.length (gNs is) v σ H Q ∨ gUnl K is.length (gNs is) v σ H Q
theorem gNs_ok : ∀ {is : List Nat} {vs : List V} {σ : L2.St} {Q : L2.St → Hp → Prop}, vs.length = is.length → Q ((is.zip vs).foldl (fun s p => s.set p.1 (some p.2)) σ) H → gNs is vs σ H Q
  | [], [], σ, Q, _, q => ⟨rfl, q⟩
  | i :: is, v :: vs, σ, Q, hl, q => ⟨v, vs, rfl, gNs_ok (is := is) (by simpa using hl) q⟩
  | [], _ :: _, _, _, hl, _ => by simp at hl
  | _ :: _, [], _, _, hl, _ => by simp at hl
theorem wipe_no : ∀ {vs : List Nat} {σ τ : L2.St} {j : Nat}, j ∈ vs → σ.length = τ.length → (wipe σ vs)[j]? = (wipe τ vs)[j]?
  | v :: vs, σ, τ, j, m, hl => by
    show ((wipe σ vs).set v none)[j]? = ((wipe τ vs).set v none)[j]?
    by_cases e : v = j
    · subst e
      simp [List.getElem?_set, wipe_length, hl]
    · rw [List.getElem?_set_ne e, List.getElem?_set_ne e]
      exact wipe_no (by simpa [Ne.symm e] using m) hl
theorem wipe_eq {vs : List Nat} {σ τ : L2.St} (hl : σ.length = τ.length) (h : ∀ j, j ∉ vs → σ[j]? = τ[j]?) (j : Nat) : (wipe σ vs)[j]? = (wipe τ vs)[j]? := by
  by_cases m : j ∈ vs
  · exact wipe_no m hl
  · rw [wipe_out m, wipe_out m]
    exact h j m
theorem wipe_set {vs : List Nat} {i : Nat} {o : Option V} {σ : L2.St} (m : i ∈ vs) : wipe (σ.set i o) vs = wipe σ vs := by
  apply List.ext_getElem?
  refine wipe_eq (List.length_set ..) fun j hj => ?_
  by_cases e : i = j
  · subst e; exact absurd m hj
  · rw [List.getElem?_set_ne e]
theorem wipe_sets : ∀ {is vs : List Nat} {us : List V} {σ : L2.St}, (∀ i ∈ is, i ∈ vs) → wipe ((is.zip us).foldl (fun s p => s.set p.1 (some p.2)) σ) vs = wipe σ vs
  | [], _, _, _, _ => rfl
  | _ :: _, _, [], _, _ => rfl
  | i :: is, vs, u :: us, σ, m => by
    rw [List.zip_cons_cons, List.foldl_cons, wipe_sets fun j hj => m j (List.mem_cons_of_mem _ hj)]
    exact wipe_set (m i List.mem_cons_self)
/-- a value goes to a target -/
theorem tg_ok {g : Tg} {v : V} {r : R} {p : List Addr} {ρ' : Env} {Q : L2.St → Hp → Prop} (h : Rel K F H σ ρ fp) (hv : RpR K F H v r p) (ok : r.isOk = true) (nd : (p ++ fp).Nodup) (dis : ∀ a ∈ p, F a = none) (e : tgF g r ρ = some ρ')
    (q : ∀ σ' fp', Rel K F H σ' ρ' fp' → (∀ x ∈ fp', x ∈ p ++ fp) → (g.no0 = true → σ'[0]? = σ[0]?) → (∀ vs, (match g with | .nm i => i ∈ vs | .tup is => ∀ i ∈ is, i ∈ vs) → wipe σ' vs = wipe σ vs) → Q σ' H) : gOf K g v σ H Q := by
  cases g with
  | nm i =>
    have e' : some (ρ.set i r) = some ρ' := e
    cases e'
    obtain ⟨fp', h', s⟩ := h.put i hv ok nd dis
    refine q _ fp' h' s (fun z => set0 z) (fun vs m => ?_)
    exact wipe_set m
  | tup is =>
    cases r with
    | d x =>
      cases x with
      | tuple xs =>
        have e' : setTs is xs ρ = some ρ' := e
        obtain ⟨hd, _⟩ := hv
        cases hd with
        | @tup a vs _ ha hx =>
          obtain ⟨hl, fp', σ', h', s, z, es⟩ := Rel.puts h hx e'
          refine .inl ⟨a, vs, rfl, SqT.of (h.sub _ _ ha), hl, gNs_ok hl ?_⟩
          rw [← es]
          refine q σ' fp' h' (fun x m => List.mem_append_right _ (s x m)) z (fun ws m => ?_)
          rw [es]
          exact wipe_sets m
      | list xs =>
        have e' : setTs is xs ρ = some ρ' := e
        obtain ⟨hd, _⟩ := hv
        cases hd with
        | @lst a vs _ ha hx =>
          obtain ⟨hl, fp', σ', h', s, z, es⟩ := Rel.puts h hx e'
          refine .inr ⟨a, vs, rfl, SqL.of (h.sub _ _ ha), hl, gNs_ok hl ?_⟩
          rw [← es]
          refine q σ' fp' h' (fun x m => List.mem_append_right _ (s x m)) z (fun ws m => ?_)
          rw [es]
          exact wipe_sets m
      | _ => cases e
    | ow m =>
      cases m with
      | ls ms =>
        obtain ⟨xs, e1, e'⟩ := bind_some' (show (dsOf ms).bind (fun xs => setTs is xs ρ) = some ρ' from e)
        have hm : RpM K F H v (.ls ms) p := hv
        cases hm with
        | @ls a vs _ fp0 ha hms =>
          obtain ⟨hl, fp', σ', h', s, z, es⟩ := Rel.puts h (dsOf_dp e1 hms) e'
          refine .inr ⟨a, vs, rfl, SqL.of ha, hl, gNs_ok hl ?_⟩
          rw [← es]
          refine q σ' fp' h' (fun x m => List.mem_append_right _ (s x m)) z (fun ws m => ?_)
          rw [es]
          exact wipe_sets m
      | _ => cases e
    | _ => cases e
/-! ### what is kept aside -/
/-- P: what no slot owns, kept through a step -/
structure Kp (F H : Hp) (P fp : List Addr) : Prop where
  nd : (P ++ fp).Nodup
  dis : ∀ a ∈ P, F a = none
  trk : ∀ a ∈ P, ∃ o, H a = some o
theorem Kp.step {F1 H1 F2 H2 : Hp} {P fp1 fp2 : List Addr} (k : Kp F1 H1 P fp1) (st : Stp F1 H1 fp1 F2 H2 fp2) (nd2 : fp2.Nodup) : Kp F2 H2 P fp2 ∧ ∀ a ∈ P, ∀ o, H1 a = some o → H2 a = some o := by
  have nd1 := List.nodup_append.mp k.nd
  have kept : ∀ a ∈ P, ∀ o, H1 a = some o → H2 a = some o := fun a m o e => st.keep a o e fun m2 => nd1.2.2 a m a m2 rfl
  refine ⟨⟨List.nodup_append.mpr ⟨nd1.1, nd2, fun x hx y hy e => ?_⟩, fun a m => ?_, fun a m => ?_⟩, kept⟩
  · subst e
    rcases st.fpn x hy with z | z
    · exact nd1.2.2 x hx x z rfl
    · obtain ⟨o, ho⟩ := k.trk x hx
      rw [ho] at z; cases z
  · cases e : F2 a with
    | none => rfl
    | some o =>
      rcases st.new a o e (k.dis a m) with z | z
      · exact absurd rfl (nd1.2.2 a m a z)
      · obtain ⟨u, hu⟩ := k.trk a m
        rw [hu] at z; cases z
  · obtain ⟨o, ho⟩ := k.trk a m
    exact ⟨o, kept a m o ho⟩
theorem Stp.with_ {F0 H0 F1 H1 F2 H2 : Hp} {fp0 P fp1 fp2 : List Addr} (a : Stp F0 H0 fp0 F1 H1 (P ++ fp1)) (b : Stp F1 H1 fp1 F2 H2 fp2) : Stp F0 H0 fp0 F2 H2 (P ++ fp2) := by
  have c := (a.less fun x m => List.mem_append_right _ m).trans b
  exact ⟨c.keep, c.sub, c.new, fun x hx => by
    rcases List.mem_append.mp hx with hx | hx
    · exact a.fpn x (List.mem_append_left _ hx)
    · exact c.fpn x hx⟩
/-! ### what is walked -/
variable (K)
/-- what was walked over still stands -/
structure Stand (held : Bool) (F H : Hp) (p : List Addr) (F2 H2 : Hp) : Prop where
  sub : Same F F2
  own : ∀ a ∈ p, ∀ o, H a = some o → H2 a = some o
  all : held = true → Same H H2
/-- an iterator that comes by rs -/
def WkAt (J : L2.It) (rs : List R) (F2 H2 : Hp) : Prop := ∀ i, (∀ r, rs[i]? = some r → J.go i H2 ∧ r.isOk = true ∧ ∀ x H3, J.yld i H2 x H3 → ∃ F3, Mkd K F2 H2 [] r x F3 H3 []) ∧ (rs[i]? = none → J.stop i H2)
structure AftI (F H : Hp) (fp : List Addr) (σ : L2.St) (q : Bool) (its : Its) (ρ' : Env) (J : L2.It) (F' H' : Hp) (p fp' : List Addr) : Prop where
  rel : Rel K F' H' σ ρ' fp'
  kp : Kp F' H' p fp'
  stp : Stp F H fp F' H' (p ++ fp')
  qt : q = true → Same H H' ∧ ∀ a ∈ p, H a = none
  wk : ∀ F2 H2, Same F2 H2 → Stand its.held F' H' p F2 H2 → WkAt K J its.rs F2 H2
def tI (f : Env → Option (Its × Env)) (q : Bool) : TI := fun σ H R => ∃ F ρ fp its ρ', Rel K F H σ ρ fp ∧ f ρ = some (its, ρ') ∧ ∀ J F' H' p fp', AftI K F H fp σ q its ρ' J F' H' p fp' → R J H'
variable {K}
theorem AftI.of {q : Bool} {r : R} {its : Its} {ρ' : Env} {v : V} {J : L2.It} {F' H' : Hp} {p fp' : List Addr} (a : Aft K F H fp σ q r ρ' v F' H' p fp') (w : ∀ F2 H2, Same F2 H2 → Stand its.held F' H' p F2 H2 → WkAt K J its.rs F2 H2) : AftI K F H fp σ q its ρ' J F' H' p fp' :=
  ⟨a.rel, ⟨a.nd, a.dis, a.rep.trk⟩, a.stp, a.qt, w⟩
theorem AftI.ofs {q : Bool} {rs : List R} {its : Its} {ρ' : Env} {vs : List V} {J : L2.It} {F' H' : Hp} {p fp' : List Addr} (a : Afs K F H fp σ q rs ρ' vs F' H' p fp') (w : ∀ F2 H2, Same F2 H2 → Stand its.held F' H' p F2 H2 → WkAt K J its.rs F2 H2) : AftI K F H fp σ q its ρ' J F' H' p fp' :=
  ⟨a.rel, ⟨a.nd, a.dis, a.rep.trk⟩, a.stp, a.qt, w⟩
theorem wk_list {a : Addr} {vs : List V} {rs : List R} {F2 H2 : Hp} (s : Same F2 H2) (hs : SqL K H2 a vs) (hl : vs.length = rs.length) (hr : ∀ (i : Nat) v r, vs[i]? = some v → rs[i]? = some r → r.isOk = true ∧ RpR K F2 H2 v r []) : WkAt K (Itl K a) rs F2 H2 := fun i =>
  ⟨fun r e => by
    have hi : i < vs.length := by rw [hl]; exact (List.getElem?_eq_some_iff.mp e).1
    have hv : vs[i]? = some vs[i] := List.getElem?_eq_getElem hi
    refine ⟨⟨vs, _, hs, hv⟩, (hr i _ r hv e).1, fun x H3 y => ?_⟩
    obtain ⟨rfl, y⟩ := y
    have hx := y vs hs
    exact ⟨F2, Same.refl _, Same.refl F2, s, fun a o h n => (by rw [n] at h; cases h), fun a m => absurd m (by simp), List.nodup_nil, (hr i x r hx e).2⟩,
   fun e => ⟨vs, hs, by rw [hl]; exact List.getElem?_eq_none_iff.mp e⟩⟩
theorem wk_tup {a : Addr} {vs : List V} {rs : List R} {F2 H2 : Hp} (s : Same F2 H2) (hs : SqT K H2 a vs) (hl : vs.length = rs.length) (hr : ∀ (i : Nat) v r, vs[i]? = some v → rs[i]? = some r → r.isOk = true ∧ RpR K F2 H2 v r []) : WkAt K (Itt K a) rs F2 H2 := fun i =>
  ⟨fun r e => by
    have hi : i < vs.length := by rw [hl]; exact (List.getElem?_eq_some_iff.mp e).1
    have hv : vs[i]? = some vs[i] := List.getElem?_eq_getElem hi
    refine ⟨⟨vs, _, hs, hv⟩, (hr i _ r hv e).1, fun x H3 y => ?_⟩
    obtain ⟨rfl, y⟩ := y
    have hx := y vs hs
    exact ⟨F2, Same.refl _, Same.refl F2, s, fun a o h n => (by rw [n] at h; cases h), fun a m => absurd m (by simp), List.nodup_nil, (hr i x r hx e).2⟩,
   fun e => ⟨vs, hs, by rw [hl]; exact List.getElem?_eq_none_iff.mp e⟩⟩
theorem RpR.std {held : Bool} {F' H' F2 H2 : Hp} {v : V} {r : R} {p : List Addr} (h : RpR K F' H' v r p) (st : Stand held F' H' p F2 H2) (b : r.isBo = true → held = true) : RpR K F2 H2 v r p := h.mono st.sub st.own fun e => st.all (b e)
/-- over a list or a tuple of plain items -/
theorem wk_reads {F' H' : Hp} {v : V} {r : R} {p : List Addr} {b : Bool} {ds : List PyData} (s' : Same F' H') (h : RpR K F' H' v r p) (e : r.reads = some (b, ds)) : ∃ a, v = .ref a ∧ ((∃ vs, SqL K H' a vs ∧ ∀ F2 H2, Same F2 H2 → Stand r.isBo F' H' p F2 H2 → WkAt K (Itl K a) (ds.map .d) F2 H2) ∨
    (∃ vs, SqT K H' a vs ∧ ∀ F2 H2, Same F2 H2 → Stand r.isBo F' H' p F2 H2 → WkAt K (Itt K a) (ds.map .d) F2 H2)) := by
  obtain ⟨a, vs, rfl, d, hk⟩ := h.reads s' e
  have items : ∀ {F2 : Hp} {H2 : Hp} {us : List V}, DqAll F2 us ds → us.length = (ds.map R.d).length ∧ ∀ (i : Nat) v r, us[i]? = some v → (ds.map R.d)[i]? = some r → r.isOk = true ∧ RpR K F2 H2 v r [] := fun {F2 H2 us} d2 => by
    refine ⟨by rw [d2.length, List.length_map], fun i v r h1 h2 => ?_⟩
    rw [List.getElem?_map] at h2
    obtain ⟨x, hx, rfl⟩ := Option.map_eq_some_iff.mp h2
    obtain ⟨w, hw, dw⟩ := d2.get hx
    rw [h1] at hw
    cases hw
    exact ⟨rfl, dw, rfl⟩
  refine ⟨a, rfl, ?_⟩
  rcases hk with ⟨hb, hk⟩ | ⟨hb, hk⟩
  · refine .inl ⟨vs, hk, fun F2 H2 s2 st => ?_⟩
    obtain ⟨a2, us, ea, d2, hk2⟩ := (h.std st fun z => z).reads s2 e
    cases ea
    rcases hk2 with ⟨_, hk2⟩ | ⟨hb2, _⟩
    · exact wk_list s2 hk2 (items (H2 := H2) d2).1 (items d2).2
    · rw [hb] at hb2; cases hb2
  · refine .inr ⟨vs, hk, fun F2 H2 s2 st => ?_⟩
    obtain ⟨a2, us, ea, d2, hk2⟩ := (h.std st fun z => z).reads s2 e
    cases ea
    rcases hk2 with ⟨hb2, _⟩ | ⟨_, hk2⟩
    · rw [hb] at hb2; cases hb2
    · exact wk_tup s2 hk2 (items (H2 := H2) d2).1 (items d2).2
theorem RpMs.get {F G : Hp} {vs : List V} {ms : List M} {fp : List Addr} {j : Nat} {m : M} (h : RpMs K F G vs ms fp) (e : ms[j]? = some m) : ∃ v p, vs[j]? = some v ∧ RpM K F G v m p := by
  obtain ⟨v, p, _, _, h1, h2, _⟩ := h.split e
  exact ⟨v, p, h1, h2⟩
def frR : M → R := fun m => match m with | .d x => .d x | m => .fr m
theorem frR_ok {F2 H2 : Hp} {v : V} {m : M} {q : List Addr} (h : RpM K F2 F2 v m q) : (frR m).isOk = true ∧ RpR K F2 H2 v (frR m) [] := by
  cases m with
  | d x =>
    cases h with
    | d h => exact ⟨rfl, h, rfl⟩
  | _ => exact ⟨rfl, ⟨q, h⟩, rfl⟩
/-- what a for walks -/
theorem wk_items {F' H' : Hp} {v : V} {r : R} {p : List Addr} {its : Its} (s' : Same F' H') (h : RpR K F' H' v r p) (e : itemsF r = some its) : ∃ a, v = .ref a ∧ ((∃ vs, SqL K H' a vs ∧ ∀ F2 H2, Same F2 H2 → Stand its.held F' H' p F2 H2 → WkAt K (Itl K a) its.rs F2 H2) ∨
    (∃ vs, SqT K H' a vs ∧ ∀ F2 H2, Same F2 H2 → Stand its.held F' H' p F2 H2 → WkAt K (Itt K a) its.rs F2 H2)) := by
  have rd : r.reads.map (fun p => (⟨p.2.map .d, r.isBo⟩ : Its)) = some its → ∃ a, v = .ref a ∧ ((∃ vs, SqL K H' a vs ∧ ∀ F2 H2, Same F2 H2 → Stand its.held F' H' p F2 H2 → WkAt K (Itl K a) its.rs F2 H2) ∨ (∃ vs, SqT K H' a vs ∧ ∀ F2 H2, Same F2 H2 → Stand its.held F' H' p F2 H2 → WkAt K (Itt K a) its.rs F2 H2)) := fun e => by
    obtain ⟨⟨b, ds⟩, e1, e2⟩ := map_some' e
    subst e2
    exact wk_reads s' h e1
  cases r with
  | fr m =>
    cases m with
    | ls ms =>
      have e' : some (⟨ms.map frR, false⟩ : Its) = some its := e
      cases e'
      obtain ⟨⟨q, z⟩, hp⟩ := id h
      cases z with
      | @ls a vs _ pm ha ht =>
        refine ⟨a, rfl, .inl ⟨vs, SqL.of (s' _ _ ha), fun F2 H2 s2 st => ?_⟩⟩
        have t2 := ht.mono st.sub (Same.ext st.sub)
        refine wk_list s2 (SqL.of (s2 _ _ (st.sub _ _ ha))) (by show vs.length = (ms.map frR).length; rw [List.length_map, ht.length]) fun i v r h1 h2 => ?_
        have h2' : (ms.map frR)[i]? = some r := h2
        rw [List.getElem?_map] at h2'
        obtain ⟨m, hm, rfl⟩ := Option.map_eq_some_iff.mp h2'
        obtain ⟨w, p, hw, hr⟩ := t2.get hm
        rw [h1] at hw
        cases hw
        exact frR_ok hr
    | _ => exact rd e
  | _ => exact rd e
section
variable {X : Cx} {tg : Expr}
def iSeq (K : PySem.W.Frag) (tl : TE) : TI := fun σ H R => tl σ H fun x H1 => ∃ a, x = .ref a ∧ (((∃ xs, SqL K H1 a xs) ∧ R (Itl K a) H1) ∨ ((∃ xs, SqT K H1 a xs) ∧ R (Itt K a) H1))
theorem pi_seq {l : Expr} {tl : TE} (hl : PE X l tl) : PI X tg l (iSeq X.K tl) := by
  refine ⟨fun pins s σ H R I h => thn (hl.run pins s σ H _ I h) fun v s1 ⟨x, H1, I1, r1, a, e, q1⟩ => ?_⟩
  subst e
  cases r1
  have near : ∀ b ∈ [s1.heap.objs.size], FpOk X pins H1 b := fun b hb => by
    have e : b = s1.heap.objs.size := by simpa using hb
    subst e
    exact I1.fpOk (Nat.le_refl _) (I1.hok.fresh (Nat.le_refl _))
  rcases q1 with ⟨⟨xs, hq⟩, q⟩ | ⟨⟨xs, hq⟩, q⟩
  · obtain ⟨its, rv, pl, hz⟩ := I1.list hq
    exact wpAny_pyIter_list pl.isList ⟨s1.heap.objs.size, [s1.heap.objs.size], _, _, H1, rfl, I1.kept (t' := s1.toks) fun b o e => Heap.get?_push_of_some _ e, turn_list a _, ⟨_, Heap.get?_push_size _ rfl, rfl, rfl⟩, near, q⟩
  · obtain ⟨its, rv, pl, hz⟩ := I1.tuple hq
    exact wpAny_pyIter_tuple (show s1.heap.IsTuple a its.toArray from pl) ⟨s1.heap.objs.size, [s1.heap.objs.size], _, _, H1, rfl, I1.kept (t' := s1.toks) fun b o e => Heap.get?_push_of_some _ e, turn_tuple a _, ⟨_, Heap.get?_push_size _ rfl, rfl, rfl⟩, near, q⟩
end
variable {R' : L2.It → Hp → Prop}
theorem i_itE {a : E} (h : tI K (evIt T (.e a)) a.quiet σ H R') : iSeq K (tE K (ev T a) a.quiet) σ H R' := by
  obtain ⟨F, ρ, fp, its, ρ', rel, e, k⟩ := h
  rw [evIt] at e
  obtain ⟨⟨r, ρ1⟩, e1, e2⟩ := bind_some' e
  obtain ⟨z, e3, e4⟩ := map_some' e2
  cases e4
  refine ⟨F, ρ, fp, r, _, rel, e1, fun v F' H' p fp' a1 => ?_⟩
  obtain ⟨ad, hv, hk⟩ := wk_items a1.rel.sub a1.rep e3
  refine ⟨ad, hv, hk.imp (fun ⟨vs, h1, h2⟩ => ⟨⟨vs, h1⟩, k _ _ _ _ _ (AftI.of a1 h2)⟩) fun ⟨vs, h1, h2⟩ => ⟨⟨vs, h1⟩, k _ _ _ _ _ (AftI.of a1 h2)⟩⟩
theorem wk_rg {a b : Int} {F2 H2 : Hp} (s2 : Same F2 H2) : WkAt K (Itr a (b - a).toNat) ((rgL a b).map .d) F2 H2 := fun i => by
  have hl : ((rgL a b).map R.d).length = (b - a).toNat := by unfold rgL; simp
  refine ⟨fun r e => ?_, fun e => ?_⟩
  · have hi : i < (b - a).toNat := by rw [← hl]; exact (List.getElem?_eq_some_iff.mp e).1
    have er : r = .d (.int (a + (i : Nat))) := by
      unfold rgL at e
      rw [List.map_map, List.getElem?_map, List.getElem?_range hi] at e
      exact (Option.some.inj e).symm
    subst er
    refine ⟨hi, rfl, fun x H3 y => ?_⟩
    obtain ⟨rfl, rfl⟩ := y
    exact ⟨F2, Mkd.plain s2 (.int _)⟩
  · have := List.getElem?_eq_none_iff.mp e
    rw [hl] at this
    exact this
theorem i_rng {es : List E} {R' : L2.It → Hp → Prop} (h : tI K (evIt T (.rg es)) (quiets es) σ H R') : tAs K (evs T es) (quiets es) σ H fun vs H1 => (∃ j : Int, vs = [.int j] ∧ -(2 ^ 62) ≤ j ∧ j < 2 ^ 62 ∧ R' (Itr 0 j.toNat) H1) ∨
    (∃ i j : Int, vs = [.int i, .int j] ∧ (-(2 ^ 62) ≤ i ∧ i < 2 ^ 62 ∧ -(2 ^ 62) ≤ j ∧ j < 2 ^ 62) ∧ R' (Itr i (j - i).toNat) H1) := by
  obtain ⟨F, ρ, fp, its, ρ', rel, e, k⟩ := h
  rw [evIt] at e
  obtain ⟨⟨rs, ρ1⟩, e1, e2⟩ := bind_some' e
  obtain ⟨p, e3, e4⟩ := map_some' e2
  cases e4
  refine ⟨F, ρ, fp, rs, _, rel, e1, fun vs F' H' q fp' b => ?_⟩
  rcases rgF_some e3 with ⟨n, hr, rfl, h1, h2⟩ | ⟨i, j, hr, rfl, h1⟩
  · have hr' : rs = [.int n] := hr
    subst hr'
    obtain ⟨x, rfl, hx⟩ := b.rep.one'
    cases hx.int
    refine .inl ⟨n, rfl, h1, h2, ?_⟩
    have z := k (Itr 0 (n - 0).toNat) F' H' q fp' (AftI.ofs b fun F2 H2 s2 _ => wk_rg s2)
    simpa using z
  · have hr' : rs = [.int i, .int j] := hr
    subst hr'
    obtain ⟨x, y, p1, p2, rfl, hx, hy⟩ := b.rep.two'
    cases hx.int
    cases hy.int
    exact .inr ⟨i, j, rfl, h1, k _ F' H' q fp' (AftI.ofs b fun F2 H2 s2 _ => wk_rg s2)⟩
theorem enum_get : ∀ {ds : List PyData} {k i : Nat} {r : R}, (enumL k ds)[i]? = some r → ∃ x, ds[i]? = some x ∧ r = .tup [.int ((k + i : Nat) : Int), x]
  | [], k, i, r, e => by simp [enumL] at e
  | x :: ds, k, 0, r, e => by
    have e' : R.tup [.int k, x] = r := Option.some.inj e
    exact ⟨x, rfl, e'.symm⟩
  | x :: ds, k, i + 1, r, e => by
    obtain ⟨y, h1, h2⟩ := enum_get (k := k + 1) (i := i) (ds := ds) e
    refine ⟨y, h1, ?_⟩
    rw [h2, show k + 1 + i = k + (i + 1) by omega]
theorem enum_len : ∀ {ds : List PyData} {k : Nat}, (enumL k ds).length = ds.length
  | [], _ => rfl
  | _ :: ds, k => congrArg (· + 1) (enum_len (ds := ds) (k := k + 1))
theorem mk_pair {F2 H2 : Hp} {t : Addr} {v w : V} {x y : PyData} (s2 : Same F2 H2) (ht : H2 t = none) (h1 : Dq F2 v x) (h2 : Dq F2 w y) : Mkd K F2 H2 [] (.tup [x, y]) (.ref t) (upd F2 t (.tup [v, w])) (upd H2 t (.tup [v, w])) [] := Mkd.tup s2 (.cons h1 (.cons h2 .nil)) ht
theorem i_enum {a : E} (h : tI K (evIt T (.enum a)) a.quiet σ H R') : iEnum K (tCons (tE K (ev T a) a.quiet) tNil) σ H R' := by
  obtain ⟨F, ρ, fp, its, ρ', rel, e, k⟩ := h
  rw [evIt] at e
  obtain ⟨⟨r, ρ1⟩, e1, e2⟩ := bind_some' e
  obtain ⟨z, e3, e4⟩ := map_some' e2
  cases e4
  refine ⟨F, ρ, fp, r, _, rel, e1, fun v F' H' p fp' a1 => ?_⟩
  obtain ⟨⟨b, ds⟩, e5, e6⟩ := bind_some' (show r.leafs.bind _ = _ from e3)
  cases b with
  | false => cases e6
  | true =>
    have e6' : some (⟨enumL 0 ds, r.isBo⟩ : Its) = some its := e6
    cases e6'
    obtain ⟨ad, vs, rfl, d, hk⟩ := a1.rep.leafs a1.rel.sub e5
    have hk' : H' ad = some (.lst vs) := hk.elim (fun y => y.2) fun y => nomatch y.1
    refine ⟨ad, vs, rfl, SqL.of hk', k _ _ _ _ _ (AftI.of a1 fun F2 H2 s2 st i => ?_)⟩
    obtain ⟨a2, us, ea, d2, hk2⟩ := (a1.rep.std st fun y => y).leafs s2 e5
    cases ea
    have h2 : H2 ad = some (.lst us) := hk2.elim (fun y => y.2) fun y => nomatch y.1
    refine ⟨fun r' er => ?_, fun er => ⟨us, SqL.of h2, ?_⟩⟩
    · obtain ⟨x, hx, rfl⟩ := enum_get er
      obtain ⟨w, hw, dw⟩ := d2.get hx
      refine ⟨⟨us, w, SqL.of h2, hw⟩, rfl, fun v H3 y => ?_⟩
      obtain ⟨t, x', rfl, ht, rfl, hy⟩ := y
      have := hy us (SqL.of h2)
      rw [hw] at this
      cases this
      rw [Nat.zero_add]
      exact ⟨_, mk_pair s2 ht (.int _) dw⟩
    · have := List.getElem?_eq_none_iff.mp er
      rw [show (Its.rs ⟨enumL 0 ds, r.isBo⟩) = enumL 0 ds from rfl, enum_len] at this
      rw [d2.length]
      exact this
theorem zip_get : ∀ {xs ys : List PyData} {i : Nat} {r : R}, (zipL xs ys)[i]? = some r → ∃ x y, xs[i]? = some x ∧ ys[i]? = some y ∧ r = .tup [x, y]
  | [], _, _, _, e => by simp [zipL] at e
  | _ :: _, [], _, _, e => by simp [zipL] at e
  | x :: xs, y :: ys, 0, r, e => by
    have e' : R.tup [x, y] = r := Option.some.inj e
    exact ⟨x, y, rfl, rfl, e'.symm⟩
  | x :: xs, y :: ys, i + 1, r, e => zip_get (xs := xs) (ys := ys) (i := i) e
theorem zip_end : ∀ {xs ys : List PyData} {i : Nat}, (zipL xs ys)[i]? = none → xs.length ≤ i ∨ ys.length ≤ i
  | [], _, _, _ => .inl (Nat.zero_le _)
  | _ :: _, [], _, _ => .inr (Nat.zero_le _)
  | x :: xs, y :: ys, 0, e => by simp [zipL] at e
  | x :: xs, y :: ys, i + 1, e => (zip_end (xs := xs) (ys := ys) (i := i) e).imp Nat.succ_le_succ Nat.succ_le_succ
theorem i_zip {a b : E} (h : tI K (evIt T (.zip a b)) (a.quiet && b.quiet) σ H R') : RZ.iZipA K (tCons (tE K (ev T a) a.quiet) (tCons (tE K (ev T b) b.quiet) tNil)) σ H R' := by
  obtain ⟨F, ρ, fp, its, ρ', rel, e, k⟩ := h
  rw [evIt] at e
  obtain ⟨⟨ra, rb, ρ2⟩, e1, e2⟩ := bind_some' e
  obtain ⟨z, e3, e4⟩ := map_some' e2
  cases e4
  refine two rel e1 fun v1 v2 F' H' p fp' a1 => ?_
  obtain ⟨⟨b1, xs⟩, e5, e6⟩ := bind_some' (show ra.leafs.bind _ = _ from e3)
  obtain ⟨⟨b2, ys⟩, e7, e8⟩ := bind_some' e6
  obtain ⟨hb, e9⟩ := if_some e8
  have hb' : b1 = b2 := hb
  subst hb'
  have e9' : (⟨zipL xs ys, ra.isBo || rb.isBo⟩ : Its) = its := e9
  subst e9'
  -- both, at any later state
  have at_ : ∀ F2 H2, Same F2 H2 → Stand (ra.isBo || rb.isBo) F' H' p F2 H2 → ∃ c d us ws, v1 = .ref c ∧ v2 = .ref d ∧ DqAll F2 us xs ∧ DqAll F2 ws ys ∧ ((b1 = true ∧ H2 c = some (.lst us) ∧ H2 d = some (.lst ws)) ∨ (b1 = false ∧ H2 c = some (.tup us) ∧ H2 d = some (.tup ws))) := fun F2 H2 s2 st => by
    obtain ⟨p1, p2, h1, h2, ep⟩ := a1.rep.two
    have h1' : RpR K F2 H2 v1 ra p1 := h1.mono st.sub (fun x m => st.own x (by rw [ep]; exact List.mem_append_left _ m)) fun y => st.all (by simp [y])
    have h2' : RpR K F2 H2 v2 rb p2 := h2.mono st.sub (fun x m => st.own x (by rw [ep]; exact List.mem_append_right _ m)) fun y => st.all (by simp [y])
    obtain ⟨c, us, rfl, d1, k1⟩ := h1'.leafs s2 e5
    obtain ⟨d, ws, rfl, d2, k2⟩ := h2'.leafs s2 e7
    refine ⟨c, d, us, ws, rfl, rfl, d1, d2, ?_⟩
    rcases k1 with ⟨z1, k1⟩ | ⟨z1, k1⟩ <;> rcases k2 with ⟨z2, k2⟩ | ⟨z2, k2⟩
    · exact .inl ⟨z1, k1, k2⟩
    · rw [z1] at z2; cases z2
    · rw [z1] at z2; cases z2
    · exact .inr ⟨z1, k1, k2⟩
  obtain ⟨c, d, us, ws, rfl, rfl, d1, d2, hk⟩ := at_ F' H' a1.rel.sub ⟨Same.refl _, fun _ _ _ o => o, fun _ => Same.refl _⟩
  refine ⟨c, d, us, ws, rfl, ?_⟩
  have ends : ∀ {J : L2.It}, (∀ F2 H2, Same F2 H2 → Stand (ra.isBo || rb.isBo) F' H' p F2 H2 → WkAt K J (zipL xs ys) F2 H2) → R' J H' := fun {J} w => k J F' H' p fp' (AftI.ofs (a1.less fun y => y) w)
  rcases hk with ⟨hb, h1, h2⟩ | ⟨hb, h1, h2⟩
  · refine .inl ⟨SqL.of h1, SqL.of h2, ends fun F2 H2 s2 st i => ?_⟩
    obtain ⟨c', d', us', ws', ec, ed, g1, g2, hk2⟩ := at_ F2 H2 s2 st
    cases ec
    cases ed
    rcases hk2 with ⟨_, q1, q2⟩ | ⟨hb2, _⟩
    · refine ⟨fun r er => ?_, fun er => ⟨us', ws', SqL.of q1, SqL.of q2, by rw [g1.length, g2.length]; exact zip_end er⟩⟩
      obtain ⟨x, y, hx, hy, rfl⟩ := zip_get er
      obtain ⟨w1, hw1, dw1⟩ := g1.get hx
      obtain ⟨w2, hw2, dw2⟩ := g2.get hy
      refine ⟨⟨us', ws', w1, w2, SqL.of q1, SqL.of q2, hw1, hw2⟩, rfl, fun v H3 yy => ?_⟩
      obtain ⟨t, x', y', rfl, ht, rfl, hy1, hy2⟩ := yy
      have z1 := hy1 us' (SqL.of q1)
      have z2 := hy2 ws' (SqL.of q2)
      rw [hw1] at z1
      rw [hw2] at z2
      cases z1
      cases z2
      exact ⟨_, mk_pair s2 ht dw1 dw2⟩
    · rw [hb] at hb2; cases hb2
  · refine .inr ⟨SqT.of h1, SqT.of h2, ends fun F2 H2 s2 st i => ?_⟩
    obtain ⟨c', d', us', ws', ec, ed, g1, g2, hk2⟩ := at_ F2 H2 s2 st
    cases ec
    cases ed
    rcases hk2 with ⟨hb2, _⟩ | ⟨_, q1, q2⟩
    · rw [hb] at hb2; cases hb2
    · refine ⟨fun r er => ?_, fun er => ⟨us', ws', SqT.of q1, SqT.of q2, by rw [g1.length, g2.length]; exact zip_end er⟩⟩
      obtain ⟨x, y, hx, hy, rfl⟩ := zip_get er
      obtain ⟨w1, hw1, dw1⟩ := g1.get hx
      obtain ⟨w2, hw2, dw2⟩ := g2.get hy
      refine ⟨⟨us', ws', w1, w2, SqT.of q1, SqT.of q2, hw1, hw2⟩, rfl, fun v H3 yy => ?_⟩
      obtain ⟨t, x', y', rfl, ht, rfl, hy1, hy2⟩ := yy
      have z1 := hy1 us' (SqT.of q1)
      have z2 := hy2 ws' (SqT.of q2)
      rw [hw1] at z1
      rw [hw2] at z2
      cases z1
      cases z2
      exact ⟨_, mk_pair s2 ht dw1 dw2⟩
end
end Ev
end
section
set_option Elab.async false
set_option linter.all false
set_option maxHeartbeats 1000000
/-! Statements: the readings. -/
namespace Ev
open PySem PySem.Spec PyProof.Rows L2
section
variable {K : PySem.W.Frag} {T : Tbl} {σ : L2.St} {H : Hp} {F : Hp} {ρ : Env} {fp : List Addr} {D : Ends} {z : Bool}
theorem i_nilS (h : tS K (execs T []) true D σ H) : tNext D σ H := by
  obtain ⟨F, ρ, fp, o, ρ', rel, e, k⟩ := h
  rw [execs] at e
  cases e
  exact k _ _ _ _ (AfS.refl rel true)
theorem i_pass (h : tS K (exec T .pass) true D σ H) : tNext D σ H := by
  obtain ⟨F, ρ, fp, o, ρ', rel, e, k⟩ := h
  rw [exec] at e
  cases e
  exact k _ _ _ _ (AfS.refl rel true)
theorem i_seq {s : S} {ss : List S} (h : tS K (execs T (s :: ss)) (s.no0 && no0s ss) D σ H) : tSeq (tS K (exec T s) s.no0) (tS K (execs T ss) (no0s ss)) D σ H := by
  obtain ⟨F, ρ, fp, o, ρ', rel, e, k⟩ := h
  rw [execs] at e
  obtain ⟨⟨o1, ρ1⟩, e1, e2⟩ := bind_some' e
  refine ⟨F, ρ, fp, o1, ρ1, rel, e1, ?_⟩
  cases o1 with
  | nx =>
    intro σ' F' H' fp' a
    refine ⟨F', ρ1, fp', o, ρ', a.rel, e2, ?_⟩
    cases o with
    | nx => exact fun σ2 F2 H2 fp2 b => k _ _ _ _ (a.trans b)
    | rt r => exact fun v σ2 F2 H2 p fp2 b => k _ _ _ _ _ _ (a.thenR b)
  | rt r =>
    cases e2
    exact fun v σ' F' H' p fp' a => k _ _ _ _ _ _ (a.less fun y => by rw [Bool.and_eq_true] at y; exact y.1)
theorem Aft.putS {q : Bool} {r : R} {ρ1 ρ2 : Env} {v : V} {F1 H1 : Hp} {p fp1 : List Addr} {i : Nat} (a : Aft K F H fp σ q r ρ1 v F1 H1 p fp1) (e : setR i r ρ1 = some ρ2) : ∃ fp2, AfS K F H fp σ (i != 0) ρ2 (σ.set i (some v)) F1 H1 fp2 := by
  unfold setR at e
  obtain ⟨ok, rfl⟩ := if_some e
  obtain ⟨fp2, h, s⟩ := a.rel.put i a.rep ok a.nd a.dis
  exact ⟨fp2, h, a.stp.less s, fun y => set0 y⟩
theorem i_set {i : Nat} {a : E} (h : tS K (exec T (.set i a)) (i != 0) D σ H) : tAsg (tE K (ev T a) a.quiet) (gName i) D σ H := by
  obtain ⟨F, ρ, fp, o, ρ', rel, e, k⟩ := h
  rw [exec] at e
  obtain ⟨⟨r, ρ1⟩, e1, e2⟩ := bind_some' e
  obtain ⟨ρ2, e3, e4⟩ := map_some' e2
  have eo : o = .nx := (congrArg Prod.fst e4).symm
  have eρ : ρ2 = ρ' := congrArg Prod.snd e4
  subst eo eρ
  refine ⟨F, ρ, fp, r, ρ1, rel, e1, fun v F1 H1 p fp1 a1 => ?_⟩
  obtain ⟨fp2, z2⟩ := a1.putS e3
  exact k _ _ _ _ z2
theorem i_mov {i j : Nat} (h : tS K (exec T (.mov i j)) (i != 0 && j != 0) D σ H) : tAsg (tVar j) (gName i) D σ H := by
  obtain ⟨F, ρ, fp, o, ρ', rel, e, k⟩ := h
  rw [exec] at e
  by_cases hn : ρ.at_ j = .no
  · rw [hn] at e; cases e
  obtain ⟨v, p, l1, l2, s1, hr, ok, ef, e5, e6⟩ := rel.env.split j hn
  refine ⟨v, s1, ?_⟩
  have plain : ∀ r, ρ.at_ j = r → setR i r ρ = some ρ' → o = .nx → RpR K F H v r [] → D.nx (σ.set i (some v)) H := fun r er es eo hr' => by
    subst eo
    obtain ⟨fp2, z2⟩ := (Aft.leaf rel true hr').putS es
    exact k _ _ _ _ (z2.less fun y => by rw [Bool.and_eq_true] at y; exact y.1)
  cases hm : ρ.at_ j with
  | no => exact absurd hm hn
  | ow m =>
    rw [hm] at e hr
    have eo : some (Out.nx, (ρ.set j .no).set i (.ow m)) = some (o, ρ') := e
    cases eo
    have ndf := rel.nd
    rw [ef] at ndf
    have a1 := List.nodup_append.mp ndf
    have a2 := List.nodup_append.mp a1.2.1
    have inl : ∀ x, x ∈ l1 ++ l2 → x ∈ fp := fun x hx => by
      rw [ef]
      rcases List.mem_append.mp hx with hx | hx <;> simp [hx]
    have inp : ∀ x, x ∈ p → x ∈ fp := fun x hx => by rw [ef]; simp [hx]
    have rel2 : Rel K F H σ (ρ.set j .no) (l1 ++ l2) := ⟨rel.sub, e6, List.nodup_append.mpr ⟨a1.1, a2.2.1, fun x hx y hy => a1.2.2 x hx y (List.mem_append_right _ hy)⟩, fun x hx => rel.dis x (inl x hx)⟩
    obtain ⟨fp2, h2, s2⟩ := rel2.put i hr rfl (List.nodup_append.mpr ⟨a2.1, rel2.nd, fun x hx y hy e => by
      rcases List.mem_append.mp hy with hy | hy
      · exact a1.2.2 y hy x (List.mem_append_left _ hx) e.symm
      · exact a2.2.2 x hx y hy e⟩) fun x hx => rel.dis x (inp x hx)
    exact k _ _ _ _ ⟨h2, (Stp.refl F H fp).less fun x m => (List.mem_append.mp (s2 x m)).elim (inp x) (inl x), fun y => by rw [Bool.and_eq_true] at y; exact set0 y.1⟩
  | d x =>
    rw [hm] at e hr
    obtain ⟨ρ1, e1, e2⟩ := map_some' (show (setR i (.d x) ρ).map _ = _ from e)
    cases e2
    obtain ⟨hd, rfl⟩ := hr
    exact plain _ hm e1 rfl ⟨hd, rfl⟩
  | fr m =>
    rw [hm] at e hr
    obtain ⟨ρ1, e1, e2⟩ := map_some' (show (setR i (.fr m) ρ).map _ = _ from e)
    cases e2
    obtain ⟨hd, rfl⟩ := hr
    exact plain _ hm e1 rfl ⟨hd, rfl⟩
  | bo m => rw [hm] at ok; cases ok
/-! ### a, b = x, y -/
theorem Rel.putRs : ∀ {is : List Nat} {rs : List R} {vs : List V} {σ : L2.St} {ρ ρ' : Env} {P fp : List Addr}, Rel K F H σ ρ fp → RpRs K F H vs rs P → (P ++ fp).Nodup → (∀ a ∈ P, F a = none) → setRs is rs ρ = some ρ' → vs.length = is.length ∧
    ∃ fp' σ', Rel K F H σ' ρ' fp' ∧ (∀ x ∈ fp', x ∈ P ++ fp) ∧ (is.all (· != 0) = true → σ'[0]? = σ[0]?) ∧ σ' = (is.zip vs).foldl (fun s p => s.set p.1 (some p.2)) σ
  | [], [], _, σ, ρ, ρ', _, fp, h, .nil, _, _, e => by
    cases e
    exact ⟨rfl, fp, σ, h, fun _ m => m, fun _ => rfl, rfl⟩
  | i :: is, r :: rs, _, σ, ρ, ρ', _, fp, h, .cons (v := v) (p := p) (q := q) hv t, nd, dis, e => by
    obtain ⟨ρ1, e1, e2⟩ := bind_some' (show (setR i r ρ).bind (fun ρ1 => setRs is rs ρ1) = some ρ' from e)
    unfold setR at e1
    obtain ⟨ok, rfl⟩ := if_some e1
    rw [List.append_assoc] at nd
    have n1 := List.nodup_append.mp nd
    have n2 := List.nodup_append.mp n1.2.1
    obtain ⟨fp1, h1, s1⟩ := h.put i hv ok (List.nodup_append.mpr ⟨n1.1, n2.2.1, fun x hx y hy => n1.2.2 x hx y (List.mem_append_right _ hy)⟩) fun a m => dis a (List.mem_append_left _ m)
    have nd1 : (q ++ fp1).Nodup := List.nodup_append.mpr ⟨n2.1, h1.nd, fun x hx y hy e => by
      rcases List.mem_append.mp (s1 y hy) with m | m
      · exact n1.2.2 y m x (List.mem_append_left _ hx) e.symm
      · exact n2.2.2 x hx y m e⟩
    obtain ⟨l2, fp2, σ2, h2, s2, z2, q2⟩ := Rel.putRs (is := is) h1 t nd1 (fun a m => dis a (List.mem_append_right _ m)) e2
    refine ⟨by simp [l2], fp2, σ2, h2, fun y m => ?_, fun y => ?_, q2⟩
    · rcases List.mem_append.mp (s2 y m) with m | m
      · exact List.mem_append_left _ (List.mem_append_right _ m)
      · rcases List.mem_append.mp (s1 y m) with m | m
        · exact List.mem_append_left _ (List.mem_append_left _ m)
        · exact List.mem_append_right _ m
    · rw [List.all_cons, Bool.and_eq_true] at y
      rw [z2 y.2, set0 y.1]
  | [], _ :: _, _, _, _, _, _, _, _, _, _, _, e => by cases e
  | _ :: _, [], _, _, _, _, _, _, _, _, _, _, e => by cases e
theorem i_par {is : List Nat} {es : List E} (h : tS K (exec T (.par is es)) (is.all (· != 0)) D σ H) : tAs K (evs T es) (quiets es) σ H fun vs H1 => vs.length = is.length ∧ D.nx ((is.zip vs).foldl (fun s p => s.set p.1 (some p.2)) σ) H1 := by
  obtain ⟨F, ρ, fp, o, ρ', rel, e, k⟩ := h
  rw [exec] at e
  obtain ⟨⟨rs, ρ1⟩, e1, e2⟩ := bind_some' e
  obtain ⟨ρ2, e3, e4⟩ := map_some' e2
  have eo : o = .nx := (congrArg Prod.fst e4).symm
  have eρ : ρ2 = ρ' := congrArg Prod.snd e4
  subst eo eρ
  refine ⟨F, ρ, fp, rs, ρ1, rel, e1, fun vs F1 H1 p fp1 a => ?_⟩
  obtain ⟨hl, fp2, σ2, h2, s2, z2, q2⟩ := Rel.putRs a.rel a.rep a.nd a.dis e3
  refine ⟨hl, ?_⟩
  rw [← q2]
  exact k _ _ _ _ ⟨h2, a.stp.less s2, z2⟩
theorem i_parT {is : List Nat} {es : List E} (h : tS K (exec T (.par is es)) (is.all (· != 0)) D σ H) (hs : es.length ≤ sizeLine) : tAsg (tTup (tAs K (evs T es) (quiets es))) (gTup K is.length (gNs is)) D σ H := by
  obtain ⟨F, ρ, fp, o, ρ', rel, e, k⟩ := h
  rw [exec] at e
  obtain ⟨⟨rs, ρ1⟩, e1, e2⟩ := bind_some' e
  obtain ⟨ρ2, e3, e4⟩ := map_some' e2
  have eo : o = .nx := (congrArg Prod.fst e4).symm
  have eρ : ρ2 = ρ' := congrArg Prod.snd e4
  subst eo eρ
  refine ⟨F, ρ, fp, rs, ρ1, rel, e1, fun vs F1 H1 p fp1 a => ⟨by rw [a.rep.length, evs_len e1]; exact hs, fun t ht => ?_⟩⟩
  obtain ⟨hl, fp2, σ2, h2, s2, z2, q2⟩ := Rel.putRs a.rel a.rep a.nd a.dis e3
  refine ⟨t, vs, rfl, SqT.of upd_same, hl, gNs_ok hl ?_⟩
  rw [← q2]
  have su := same_upd (o := .tup vs) ht
  exact k _ _ _ _ ⟨⟨h2.sub.trans su, h2.env.mono (Same.refl F1) fun x _ o ho => su x o ho, h2.nd, h2.dis⟩, ⟨fun x o ho hn => su x o ((a.stp.less s2).keep x o ho hn), a.stp.sub, a.stp.new, (a.stp.less s2).fpn⟩, z2⟩
theorem tgF_ok {g : Tg} {r : R} {ρ1 ρ2 : Env} (e : tgF g r ρ1 = some ρ2) (hn : ∀ i, g ≠ .nm i) : r.isOk = true := by
  cases g with
  | nm i => exact absurd rfl (hn i)
  | tup is => cases r <;> first | rfl | cases e
theorem i_unp {is : List Nat} {a : E} (h : tS K (exec T (.unp (.tup is) a)) (Tg.no0 (.tup is)) D σ H) : tAsg (tE K (ev T a) a.quiet) (gOf K (.tup is)) D σ H := by
  obtain ⟨F, ρ, fp, o, ρ', rel, e, k⟩ := h
  rw [exec] at e
  obtain ⟨⟨r, ρ1⟩, e1, e2⟩ := bind_some' e
  obtain ⟨ρ2, e3, e4⟩ := map_some' e2
  have eo : o = .nx := (congrArg Prod.fst e4).symm
  have eρ : ρ2 = ρ' := congrArg Prod.snd e4
  subst eo eρ
  refine ⟨F, ρ, fp, r, ρ1, rel, e1, fun v F1 H1 p fp1 a1 => ?_⟩
  have ok : r.isOk = true := tgF_ok e3 (fun i z => nomatch z)
  exact tg_ok a1.rel a1.rep ok a1.nd a1.dis e3 fun σ' fp' h' s' z' _ => k _ _ _ _ ⟨h', a1.stp.less s', z'⟩
theorem i_ex {a : E} (h : tS K (exec T (.ex a)) true D σ H) : tDrop (tE K (ev T a) a.quiet) D σ H := by
  obtain ⟨F, ρ, fp, o, ρ', rel, e, k⟩ := h
  rw [exec] at e
  obtain ⟨⟨r, ρ1⟩, e1, e2⟩ := map_some' e
  have eo : o = .nx := (congrArg Prod.fst e2).symm
  have eρ : ρ1 = ρ' := congrArg Prod.snd e2
  subst eo eρ
  exact ⟨F, ρ, fp, r, _, rel, e1, fun v F1 H1 p fp1 a1 => k _ _ _ _ (aS a1)⟩
theorem i_ret {a : E} (h : tS K (exec T (.ret a)) true D σ H) : tRet (tE K (ev T a) a.quiet) D σ H := by
  obtain ⟨F, ρ, fp, o, ρ', rel, e, k⟩ := h
  rw [exec] at e
  obtain ⟨⟨r, ρ1⟩, e1, e2⟩ := bind_some' e
  obtain ⟨ok, e3⟩ := if_some e2
  have eo : o = .rt r := (congrArg Prod.fst e3).symm
  have eρ : ρ1 = ρ' := congrArg Prod.snd e3
  subst eo eρ
  exact ⟨F, ρ, fp, r, _, rel, e1, fun v F1 H1 p fp1 a1 => k _ _ _ _ _ _ ⟨a1.rel, a1.rep, ok, a1.nd, a1.dis, a1.stp, fun _ => rfl⟩⟩
theorem i_retO {i : Nat} (h : tS K (exec T (.retO i)) (i != 0) D σ H) : tRet (tVar i) D σ H := by
  obtain ⟨F, ρ, fp, o, ρ', rel, e, k⟩ := h
  rw [exec] at e
  by_cases hn : ρ.at_ i = .no
  · rw [hn] at e; cases e
  obtain ⟨v, p, l1, l2, s1, hr, ok, ef, e5, e6⟩ := rel.env.split i hn
  refine ⟨v, s1, ?_⟩
  have plain : ∀ r, some (Out.rt r, ρ) = some (o, ρ') → r.isOk = true → RpR K F H v r [] → D.rt v H := fun r eo okr hr' => by
    cases eo
    exact k _ _ _ _ _ _ ⟨rel, hr', okr, rel.nd, fun a m => absurd m (by simp), Stp.refl F H fp, fun _ => rfl⟩
  cases hm : ρ.at_ i with
  | no => exact absurd hm hn
  | ow m =>
    rw [hm] at e hr
    have eo : some (Out.rt (.ow m), ρ.set i .no) = some (o, ρ') := e
    cases eo
    have ndf := rel.nd
    rw [ef] at ndf
    have a1 := List.nodup_append.mp ndf
    have a2 := List.nodup_append.mp a1.2.1
    have inl : ∀ x, x ∈ l1 ++ l2 → x ∈ fp := fun x hx => by
      rw [ef]
      rcases List.mem_append.mp hx with hx | hx <;> simp [hx]
    have inp : ∀ x, x ∈ p → x ∈ fp := fun x hx => by rw [ef]; simp [hx]
    have rel2 : Rel K F H σ (ρ.set i .no) (l1 ++ l2) := ⟨rel.sub, e6, List.nodup_append.mpr ⟨a1.1, a2.2.1, fun x hx y hy => a1.2.2 x hx y (List.mem_append_right _ hy)⟩, fun x hx => rel.dis x (inl x hx)⟩
    refine k v σ F H p (l1 ++ l2) ⟨rel2, hr, rfl, List.nodup_append.mpr ⟨a2.1, rel2.nd, fun x hx y hy e => ?_⟩, fun x hx => rel.dis x (inp x hx), (Stp.refl F H fp).less fun x m => (List.mem_append.mp m).elim (inp x) (inl x), fun _ => rfl⟩
    rcases List.mem_append.mp hy with hy | hy
    · exact a1.2.2 y hy x (List.mem_append_left _ hx) e.symm
    · exact a2.2.2 x hx y hy e
  | d x =>
    rw [hm] at e hr
    obtain ⟨hd, rfl⟩ := hr
    exact plain _ e rfl ⟨hd, rfl⟩
  | fr m =>
    rw [hm] at e hr
    obtain ⟨hd, rfl⟩ := hr
    exact plain _ e rfl ⟨hd, rfl⟩
  | bo m => rw [hm] at ok; cases ok
theorem Rel.fz (rel : Rel K F H σ ρ fp) (i : Nat) : ∃ F' fp', AfS K F H fp σ true (ρ.set i (frzF (ρ.at_ i))) σ F' H fp' := by
  have same : ∀ r, ρ.at_ i = r → ρ.set i r = ρ := fun r e => by
    apply List.ext_getElem?
    intro j
    by_cases h : i = j
    · subst h
      by_cases hl : i < ρ.length
      · rw [List.getElem?_set_self hl, ← e]
        unfold Env.at_
        rw [List.getD_eq_getElem?_getD, List.getElem?_eq_getElem hl]
        rfl
      · rw [List.getElem?_eq_none (by rw [List.length_set]; omega), List.getElem?_eq_none (by omega)]
    · rw [List.getElem?_set_ne h]
  cases hm : ρ.at_ i with
  | ow m =>
    obtain ⟨v, p, l1, l2, s1, hr, ok, ef, e5, e6⟩ := rel.env.split i (by rw [hm]; intro y; cases y)
    rw [hm] at hr
    have hr' : RpM K F H v m p := hr
    have ndf := rel.nd
    rw [ef] at ndf
    have a1 := List.nodup_append.mp ndf
    have a2 := List.nodup_append.mp a1.2.1
    have inp : ∀ x, x ∈ p → x ∈ fp := fun x hx => by rw [ef]; simp [hx]
    have inl : ∀ x, x ∈ l1 ++ ([] ++ l2) → x ∈ fp := fun x hx => by
      rw [ef]
      rcases List.mem_append.mp hx with hx | hx
      · simp [hx]
      · have : x ∈ l2 := by simpa using hx
        simp [this]
    have sF : Same F (frzH F H p) := frzH_same fun a m => rel.dis a (inp a m)
    have q := hr'.frz sF fun a m => m
    have rr : RpR K (frzH F H p) H v (frzF (.ow m)) [] ∧ (frzF (.ow m)).isOk = true := by
      cases hd : m.data with
      | none =>
        rw [show frzF (.ow m) = .fr m by simp only [frzF, hd]]
        exact ⟨⟨⟨p, q⟩, rfl⟩, rfl⟩
      | some x =>
        rw [show frzF (.ow m) = .d x by simp only [frzF, hd]]
        exact ⟨⟨q.dp (Same.refl _) hd, rfl⟩, rfl⟩
    refine ⟨frzH F H p, l1 ++ ([] ++ l2), ⟨frzH_in rel.sub, e5 _ H _ [] sF (fun _ _ _ o => o) rr.1 rr.2, ?_, fun x hx => ?_⟩, ⟨fun _ _ h _ => h, sF, fun a o h n => .inl (inp a (frzH_new h n)), fun x hx => .inl (inl x hx)⟩, fun _ => rfl⟩
    · rw [List.nil_append]
      exact List.nodup_append.mpr ⟨a1.1, a2.2.1, fun x hx y hy => a1.2.2 x hx y (List.mem_append_right _ hy)⟩
    · have nx : x ∉ p := fun m => by
        rcases List.mem_append.mp hx with hx | hx
        · exact a1.2.2 x hx x (List.mem_append_left _ m) rfl
        · exact a2.2.2 x m x (by simpa using hx) rfl
      unfold frzH
      rw [if_neg nx]
      exact rel.dis x (inl x hx)
  | no => exact ⟨F, fp, by rw [show frzF R.no = R.no from rfl, same _ hm]; exact AfS.refl rel true⟩
  | d x => exact ⟨F, fp, by rw [show frzF (R.d x) = R.d x from rfl, same _ hm]; exact AfS.refl rel true⟩
  | fr m => exact ⟨F, fp, by rw [show frzF (R.fr m) = R.fr m from rfl, same _ hm]; exact AfS.refl rel true⟩
  | bo m => exact ⟨F, fp, by rw [show frzF (R.bo m) = R.bo m from rfl, same _ hm]; exact AfS.refl rel true⟩
theorem i_fz {i : Nat} {ss : List S} (h : tS K (execs T (.fz i :: ss)) ((S.fz i).no0 && no0s ss) D σ H) : tS K (execs T ss) (no0s ss) D σ H := by
  obtain ⟨F, ρ, fp, o, ρ', rel, e, k⟩ := h
  rw [execs] at e
  have e2 : execs T ss (ρ.set i (frzF (ρ.at_ i))) = some (o, ρ') := by
    rw [exec] at e
    exact e
  obtain ⟨F1, fp1, a⟩ := rel.fz i
  refine ⟨F1, _, fp1, o, ρ', a.rel, e2, ?_⟩
  cases o with
  | nx => exact fun σ2 F2 H2 fp2 b => k _ _ _ _ ((a.trans b).less fun y => by rw [Bool.and_eq_true] at y; exact y.2)
  | rt r => exact fun v σ2 F2 H2 p fp2 b => k _ _ _ _ _ _ ((a.thenR b).less fun y => by rw [Bool.and_eq_true] at y; exact y.2)
theorem i_if {t : E} {a b : List S} (h : tS K (exec T (.ite t a b)) (no0s a && no0s b) D σ H) : tIfS (tTs K (asT (ev T t)) t.quiet) (tS K (execs T a) (no0s a)) (tS K (execs T b) (no0s b)) D σ H := by
  obtain ⟨F, ρ, fp, o, ρ', rel, e, k⟩ := h
  rw [exec] at e
  obtain ⟨⟨c, ρ1⟩, e1, e2⟩ := bind_some' e
  refine ⟨F, ρ, fp, c, ρ1, rel, e1, fun F1 H1 fp1 a1 => ?_⟩
  have A : AfS K F H fp σ true ρ1 σ F1 H1 fp1 := AfS.of a1
  have l1 : (no0s a && no0s b) = true → no0s a = true := fun y => by rw [Bool.and_eq_true] at y; exact y.1
  have l2 : (no0s a && no0s b) = true → no0s b = true := fun y => by rw [Bool.and_eq_true] at y; exact y.2
  cases c with
  | true =>
    show tS K (execs T a) (no0s a) D σ H1
    refine ⟨F1, ρ1, fp1, o, ρ', a1.rel, e2, ?_⟩
    cases o with
    | nx => exact fun σ2 F2 H2 fp2 b1 => k _ _ _ _ ((A.trans b1).less fun y => l1 y)
    | rt r => exact fun v σ2 F2 H2 p fp2 b1 => k _ _ _ _ _ _ ((A.thenR b1).less fun y => l1 y)
  | false =>
    show tS K (execs T b) (no0s b) D σ H1
    refine ⟨F1, ρ1, fp1, o, ρ', a1.rel, e2, ?_⟩
    cases o with
    | nx => exact fun σ2 F2 H2 fp2 b1 => k _ _ _ _ ((A.trans b1).less fun y => l2 y)
    | rt r => exact fun v σ2 F2 H2 p fp2 b1 => k _ _ _ _ _ _ ((A.thenR b1).less fun y => l2 y)
/-! ### loops -/
theorem i_for {g : Tg} {it : It} {b : List S} (h : tS K (exec T (.for_ g it b)) (g.no0 && no0s b) D σ H) : tFor (tI K (evIt T it) it.quiet) (gOf K g) (tS K (execs T b) (no0s b)) D σ H := by
  obtain ⟨F, ρ, fp, o, ρ', rel, e, k⟩ := h
  rw [exec] at e
  obtain ⟨⟨its, ρ0⟩, e1, e2⟩ := bind_some' e
  have e2' : (if its.held = true then none else forGo g (execs T b) its.rs ρ0) = some (o, ρ') := e2
  by_cases hh : its.held = true
  · rw [if_pos hh] at e2'; cases e2'
  rw [if_neg hh] at e2'
  refine ⟨F, ρ, fp, its, ρ0, rel, e1, fun J F0 H0 p fp0 a0 => ?_⟩
  let Z : Nat → L2.St → Hp → Prop := fun i σ1 H1 => i ≤ its.rs.length ∧ ∃ F1 ρ1 fp1, Rel K F1 H1 σ1 ρ1 fp1 ∧ Stp F H fp F1 H1 (p ++ fp1) ∧ Kp F1 H1 p fp1 ∧ Stand false F0 H0 p F1 H1 ∧ ((g.no0 && no0s b) = true → σ1[0]? = σ[0]?) ∧ forGo g (execs T b) (its.rs.drop i) ρ1 = some (o, ρ')
  refine ⟨fun i m σ1 H1 => m = its.rs.length - i ∧ Z i σ1 H1, ⟨_, rfl, Nat.zero_le _, F0, ρ0, fp0, a0.rel, a0.stp, a0.kp, ⟨Same.refl _, fun _ _ _ o => o, fun y => nomatch y⟩, fun _ => rfl, e2'⟩, ?_⟩
  rintro i m σ1 H1 ⟨rfl, hi, F1, ρ1, fp1, rel1, st1, kp1, sd1, z1, eg⟩
  have sd1' : Stand its.held F0 H0 p F1 H1 := ⟨sd1.sub, sd1.own, fun y => absurd y hh⟩
  obtain ⟨wk1, wk2⟩ := a0.wk F1 H1 rel1.sub sd1' i
  by_cases hl : i < its.rs.length
  · have er : its.rs[i]? = some its.rs[i] := List.getElem?_eq_getElem hl
    obtain ⟨go, ok, yl⟩ := wk1 _ er
    refine .inr ⟨go, Z (i + 1), fun σ' H' z' => ⟨_, by omega, rfl, z'⟩, fun x H3 y => ?_⟩
    obtain ⟨F3, mk⟩ := yl x H3 y
    have A := (Afs.nil rel1 true).made mk
    rw [List.drop_eq_getElem_cons hl] at eg
    obtain ⟨ρ2, e3, e4⟩ := bind_some' (show (tgF g its.rs[i] ρ1).bind _ = _ from eg)
    obtain ⟨⟨o3, ρ3⟩, e5, e6⟩ := bind_some' e4
    have stp3 : Stp F1 H1 fp1 F3 H3 fp1 := by have := A.stp; rwa [List.nil_append] at this
    refine tg_ok A.rel A.rep ok A.nd A.dis e3 fun σ2 fp2 rel2 s2 z2 _ => ?_
    have s2' : ∀ x ∈ fp2, x ∈ fp1 := fun x m => by have := s2 x m; rwa [List.nil_append] at this
    refine ⟨F3, ρ2, fp2, o3, ρ3, rel2, e5, ?_⟩
    cases o3 with
    | nx =>
      intro σ4 F4 H4 fp4 b4
      have st4 : Stp F1 H1 fp1 F4 H4 fp4 := (stp3.less s2').trans b4.stp
      obtain ⟨kp4, own4⟩ := kp1.step st4 b4.rel.nd
      refine ⟨hl, F4, ρ3, fp4, b4.rel, st1.with_ st4, kp4, ⟨sd1.sub.trans st4.sub, fun a m o ho => own4 a m o (sd1.own a m o ho), fun y => nomatch y⟩, fun y => ?_, e6⟩
      have y' := y
      rw [Bool.and_eq_true] at y'
      rw [b4.z0 y'.2, z2 y'.1, z1 y]
    | rt r =>
      cases e6
      intro v σ4 F4 H4 q4 fp4 b4
      have st4 : Stp F1 H1 fp1 F4 H4 (q4 ++ fp4) := (stp3.less s2').trans b4.stp
      refine k _ _ _ _ _ _ ⟨b4.rel, b4.rep, b4.ok, b4.nd, b4.dis, (st1.less fun x m => List.mem_append_right _ m).trans st4, fun y => ?_⟩
      have y' := y
      rw [Bool.and_eq_true] at y'
      rw [b4.z0 y'.2, z2 y'.1, z1 y]
  · have hd : its.rs.drop i = [] := List.drop_eq_nil_iff.mpr (by omega)
    rw [hd] at eg
    have eg' : some (Out.nx, ρ1) = some (o, ρ') := eg
    cases eg'
    exact .inl ⟨wk2 (List.getElem?_eq_none (by omega)), k _ _ _ _ ⟨rel1, st1.less fun x m => List.mem_append_right _ m, z1⟩⟩
theorem i_whl {t : E} {b : List S} (h : tS K (exec T (.whl t b)) (no0s b) D σ H) : tWhile (tTs K (asT (ev T t)) t.quiet) (tS K (execs T b) (no0s b)) D σ H := by
  obtain ⟨F, ρ, fp, o, ρ', rel, e, k⟩ := h
  rw [exec] at e
  refine ⟨fun m σ1 H1 => ∃ F1 ρ1 fp1, AfS K F H fp σ (no0s b) ρ1 σ1 F1 H1 fp1 ∧ whlGo (asT (ev T t)) (execs T b) m ρ1 = some (o, ρ'), ⟨FU, F, ρ, fp, AfS.refl rel _, e⟩, ?_⟩
  rintro m σ1 H1 ⟨F1, ρ1, fp1, a1, e1⟩
  cases m with
  | zero => cases e1
  | succ m =>
    obtain ⟨⟨c, ρ2⟩, e2, e3⟩ := bind_some' (show (asT (ev T t) ρ1).bind _ = _ from e1)
    refine ⟨F1, ρ1, fp1, c, ρ2, a1.rel, e2, fun F2 H2 fp2 a2 => ?_⟩
    have A2 : AfS K F H fp σ (no0s b) ρ2 σ1 F2 H2 fp2 := (a1.trans (AfS.of (z := true) a2)).less fun y => by rw [y]; rfl
    cases c with
    | true =>
      have e3' : ((execs T b ρ2).bind fun p => match p.1 with | .nx => whlGo (asT (ev T t)) (execs T b) m p.2 | .rt r => some (.rt r, p.2)) = some (o, ρ') := e3
      obtain ⟨⟨o3, ρ3⟩, e4, e5⟩ := bind_some' e3'
      refine ⟨fun σ' H' => ∃ F1 ρ1 fp1, AfS K F H fp σ (no0s b) ρ1 σ' F1 H' fp1 ∧ whlGo (asT (ev T t)) (execs T b) m ρ1 = some (o, ρ'), fun σ' H' w => ⟨m, Nat.lt_succ_self m, w⟩, F2, ρ2, fp2, o3, ρ3, a2.rel, e4, ?_⟩
      cases o3 with
      | nx => exact fun σ3 F3 H3 fp3 a3 => ⟨F3, ρ3, fp3, (A2.trans a3).less fun y => by rw [y]; rfl, e5⟩
      | rt r =>
        cases e5
        exact fun v σ3 F3 H3 p fp3 a3 => k _ _ _ _ _ _ ((A2.thenR a3).less fun y => by rw [y]; rfl)
    | false =>
      have e3' : some (Out.nx, ρ2) = some (o, ρ') := e3
      cases e3'
      exact k _ _ _ _ A2
end
end Ev
end
section
set_option Elab.async false
set_option linter.all false
set_option maxHeartbeats 1000000
/-! List comprehensions. -/
namespace Ev
open PySem PySem.Spec PyProof.Rows L2
section
variable (K : PySem.W.Frag)
/-- within a comprehension's loop: D the new list, acc its items -/
structure Lp (F H : Hp) (fp : List Addr) (F0 H0 : Hp) (p : List Addr) (held q : Bool) (D : Addr) (τ : L2.St) (ms : List M) (ρ1 : Env) (F1 H1 : Hp) (fp1 : List Addr) (acc : List V) (pa : List Addr) : Prop where
  rel : Rel K F1 H1 τ ρ1 fp1
  stp : Stp F H fp F1 H1 ((p ++ D :: pa) ++ fp1)
  kp : Kp F1 H1 (p ++ D :: pa) fp1
  std : Stand held F0 H0 p F1 H1
  at_ : H1 D = some (.lst acc)
  its : RpMs K F1 H1 acc ms pa
  qt : q = true → Same H H1 ∧ ∀ a ∈ p ++ D :: pa, H a = none
end
section
variable {K : PySem.W.Frag} {T : Tbl} {σ τ τ2 : L2.St} {F H F0 H0 F1 H1 F2 H2 : Hp} {ρ1 ρ2 : Env} {fp fp1 fp2 p pa : List Addr} {held q : Bool} {D : Addr} {ms : List M} {acc : List V}
theorem Lp.step (l : Lp K F H fp F0 H0 p held q D τ ms ρ1 F1 H1 fp1 acc pa) (rel2 : Rel K F2 H2 τ2 ρ2 fp2) (st : Stp F1 H1 fp1 F2 H2 fp2) (hh : held = true → Same H1 H2) (hq : q = true → Same H1 H2) : Lp K F H fp F0 H0 p held q D τ2 ms ρ2 F2 H2 fp2 acc pa := by
  obtain ⟨kp2, own2⟩ := l.kp.step st rel2.nd
  have inP : ∀ x, x ∈ p → x ∈ p ++ D :: pa := fun x m => List.mem_append_left _ m
  refine ⟨rel2, l.stp.with_ st, kp2, ⟨l.std.sub.trans st.sub, fun a m o ho => own2 a (inP a m) o (l.std.own a m o ho), fun y => (l.std.all y).trans (hh y)⟩, own2 D (by simp) _ l.at_, l.its.mono st.sub fun a m o ho => own2 a (by simp [m]) o ho, fun y => ?_⟩
  obtain ⟨h1, h2⟩ := l.qt y
  exact ⟨h1.trans (hq y), h2⟩
theorem Lp.add {qe : Bool} {r : R} {y : V} {p2 : List Addr} (l : Lp K F H fp F0 H0 p held q D τ ms ρ1 F1 H1 fp1 acc pa) (a : Aft K F1 H1 fp1 τ qe r ρ2 y F2 H2 p2 fp2) (ow : r.isOw = true) (hh : held = true → qe = true) (hq : q = true → qe = true) (h0 : H0 D = none) (hD : q = true → H D = none) :
    H2 D = some (.lst acc) ∧ Lp K F H fp F0 H0 p held q D τ (ms ++ [r.toM]) ρ2 F2 (upd H2 D (.lst (acc ++ [y]))) fp2 (acc ++ [y]) (pa ++ p2) := by
  have nda := List.nodup_append.mp a.nd
  -- the element's own things are kept aside too
  have st0 : Stp F1 H1 fp1 F2 H2 (p2 ++ fp2) := a.stp
  obtain ⟨kp2, own2⟩ := l.kp.step st0 a.nd
  have hat := own2 D (by simp) _ l.at_
  refine ⟨hat, ?_⟩
  have its2 : RpMs K F2 H2 acc ms pa := l.its.mono st0.sub fun x m o ho => own2 x (by simp [m]) o ho
  have ndk := List.nodup_append.mp kp2.nd
  have ndP := List.nodup_append.mp ndk.1
  have ndD := List.nodup_cons.mp ndP.2.1
  have D1 : D ∉ p := fun m => ndP.2.2 D m D List.mem_cons_self rfl
  have D2 : D ∉ pa := ndD.1
  have D3 : D ∉ p2 ++ fp2 := fun m => ndk.2.2 D (by simp) D m rfl
  have D4 : D ∉ p2 := fun m => D3 (List.mem_append_left _ m)
  have D5 : D ∉ fp2 := fun m => D3 (List.mem_append_right _ m)
  have FD : F2 D = none := kp2.dis D (by simp)
  have keep : ∀ x, x ≠ D → ∀ o, H2 x = some o → upd H2 D (.lst (acc ++ [y])) x = some o := fun x n o ho => by rw [upd_ne n]; exact ho
  have keepS : ∀ {G : Hp}, Same G H2 → G D = none → Same G (upd H2 D (.lst (acc ++ [y]))) := fun {G} s n x o e => keep x (fun z => by subst z; rw [n] at e; cases e) o (s x o e)
  have nd2 : ((p ++ D :: (pa ++ p2)) ++ fp2).Nodup := by
    have z : ((p ++ D :: pa) ++ (p2 ++ fp2)).Nodup := kp2.nd
    simpa [List.append_assoc] using z
  have mem : ∀ x, x ∈ p ++ D :: (pa ++ p2) → x ∈ p ++ D :: pa ∨ x ∈ p2 := fun x m => by
    rcases List.mem_append.mp m with m | m
    · exact .inl (List.mem_append_left _ m)
    · rcases List.mem_cons.mp m with m | m
      · subst m; exact .inl (by simp)
      · rcases List.mem_append.mp m with m | m
        · exact .inl (by simp [m])
        · exact .inr m
  have sq := a.stp
  refine ⟨⟨keepS a.rel.sub FD, a.rel.env.mono (Same.refl F2) fun x m o ho => keep x (fun z => D5 (z ▸ m)) o ho, a.rel.nd, a.rel.dis⟩, ?_, ⟨nd2, fun x m => ?_, fun x m => ?_⟩, ⟨l.std.sub.trans st0.sub, fun x m o ho => keep x (fun z => D1 (z ▸ m)) o (own2 x (by simp [m]) o (l.std.own x m o ho)), fun z => ?_⟩, upd_same, ?_, fun z => ?_⟩
  · have c := l.stp.with_ st0
    refine ⟨fun x o ho hn => ?_, c.sub, c.new, fun x m => c.fpn x ?_⟩
    · by_cases hx : x = D
      · subst hx
        -- D was tracked ahead: then it is within fp
        rcases l.stp.fpn x (by simp) with z | z
        · exact absurd z hn
        · rw [ho] at z; cases z
      · exact keep x hx o (c.keep x o ho hn)
    · rcases List.mem_append.mp m with m | m
      · rcases mem x m with m | m
        · exact List.mem_append_left _ m
        · exact List.mem_append_right _ (List.mem_append_left _ m)
      · exact List.mem_append_right _ (List.mem_append_right _ m)
  · rcases mem x m with m | m
    · exact kp2.dis x m
    · exact a.dis x m
  · by_cases hx : x = D
    · subst hx; exact ⟨_, upd_same⟩
    · rw [upd_ne hx]
      rcases mem x m with m | m
      · exact kp2.trk x m
      · exact a.rep.trk x m
  · exact keepS ((l.std.all z).trans (a.qt (hh z)).1) h0
  · refine RpMs.mono (Same.refl F2) ?_ (fun x m o ho => keep x (fun z => ?_) o ho)
    · have := its2.app (RpMs.cons (a.rep.ownt ow) .nil)
      rwa [List.append_nil] at this
    · subst z
      rcases List.mem_append.mp m with m | m
      · exact D2 m
      · exact D4 m
  · obtain ⟨h1, h2⟩ := l.qt z
    obtain ⟨g1, g2⟩ := a.qt (hq z)
    refine ⟨keepS (h1.trans g1) (hD z), fun x m => ?_⟩
    rcases mem x m with m | m
    · exact h2 x m
    · exact h1.free (g2 x m)
/-! ### the own names forgotten, and back -/
theorem Rel.wipe {ρ : Env} : ∀ (vs : List Nat), Rel K F H σ ρ fp → ∃ fp', Rel K F H (L2.wipe σ vs) (wipeE ρ vs) fp' ∧ ∀ x ∈ fp', x ∈ fp
  | [], h => ⟨fp, h, fun _ m => m⟩
  | v :: vs, h => by
    obtain ⟨fp1, h1, s1⟩ := Rel.wipe vs h
    obtain ⟨l1, p0, l2, e, z⟩ := RpE.drop v none h1.env
    have inl : ∀ x, x ∈ l1 ++ l2 → x ∈ fp1 := fun x hx => by
      rw [e]
      rcases List.mem_append.mp hx with hx | hx <;> simp [hx]
    have nd := h1.nd
    rw [e] at nd
    have a1 := List.nodup_append.mp nd
    have a2 := List.nodup_append.mp a1.2.1
    exact ⟨l1 ++ l2, ⟨h1.sub, z, List.nodup_append.mpr ⟨a1.1, a2.2.1, fun x hx y hy => a1.2.2 x hx y (List.mem_append_right _ hy)⟩, fun x hx => h1.dis x (inl x hx)⟩, fun x hx => s1 x (inl x hx)⟩
theorem wipe_wipe (σ : L2.St) (vs : List Nat) : L2.wipe (L2.wipe σ vs) vs = L2.wipe σ vs := by
  apply List.ext_getElem?
  exact wipe_eq (wipe_length ..) fun j hj => wipe_out hj
theorem RpE.undo : ∀ {σ : L2.St} {ρ : Env} {fp : List Addr} (v : Nat) {r : R}, RpE K F H (σ.set v none) ρ fp → (r = .no ∨ ∃ x, σ[v]? = some (some x) ∧ RpR K F H x r [] ∧ r.isOk = true) → RpE K F H σ (ρ.set v r) fp
  | [], ρ, fp, v, r, h, _ => by
    have h' : RpE K F H [] ρ fp := h
    cases h'
    exact .nil
  | o :: σ, ρ, fp, 0, r, h, hr => by
    have h' : RpE K F H (none :: σ) ρ fp := h
    cases h' with
    | no t =>
      rcases hr with rfl | ⟨x, e, hx, ok⟩
      · exact .no t
      · have e' : o = some x := Option.some.inj e
        subst e'
        exact RpE.sm (p := []) hx ok t
  | o :: σ, ρ, fp, v + 1, r, h, hr => by
    have h' : RpE K F H (o :: σ.set v none) ρ fp := h
    cases h' with
    | no t => exact .no (RpE.undo v t hr)
    | sm hx ok t => exact .sm hx ok (RpE.undo v t hr)
theorem RpE.back {ρ0 : Env} : ∀ {vs : List Nat} {ρ : Env}, vs.Nodup → RpE K F H (L2.wipe σ vs) ρ fp → (∀ v ∈ vs, ρ0.at_ v = .no ∨ ∃ x, σ[v]? = some (some x) ∧ RpR K F H x (ρ0.at_ v) [] ∧ (ρ0.at_ v).isOk = true) → RpE K F H σ (backE ρ ρ0 vs) fp
  | [], _, _, h, _ => h
  | v :: vs, ρ, nd, h, k => by
    have nd' := List.nodup_cons.mp nd
    have h' : RpE K F H ((L2.wipe σ vs).set v none) ρ fp := h
    show RpE K F H σ (backE (ρ.set v (ρ0.at_ v)) ρ0 vs) fp
    refine RpE.back nd'.2 (RpE.undo v h' ?_) fun w m => k w (List.mem_cons_of_mem _ m)
    rcases k v List.mem_cons_self with z | ⟨x, e, z⟩
    · exact .inl z
    · exact .inr ⟨x, by rw [wipe_out nd'.1]; exact e, z⟩
/-! ### [e for g in it if t] -/
def cBody (T : Tbl) (t : Option E) (e : E) : Env → Option (Option M × Env) := fun ρ1 => (evTO T t ρ1).bind fun z => if z.1 = true then (ev T e z.2).bind fun y => if y.1.isOw then some (some y.1.toM, y.2) else none else some (none, z.2)
def Tg.ins (vs : List Nat) : Tg → Bool
  | .nm i => vs.contains i
  | .tup is => is.all vs.contains
theorem i_comp {Q : VK} {own : List (Str × Nat)} {g : Tg} {it : It} {t : Option E} {e : E} (nd : (own.map (·.2)).Nodup) (hg : g.ins (own.map (·.2)) = true) (h : tE K (ev T (.comp own g it t e)) (it.quiet && quietO t && e.quiet) σ H Q) :
    tLc (tI K (evIt T it) it.quiet) (gOf K g) (tTs K (evTO T t) (quietO t)) (tE K (ev T e) e.quiet) (own.map (·.2)) σ H Q := by
  obtain ⟨F, ρ, fp, r, ρ', rel, ee, k⟩ := h
  rw [ev] at ee
  obtain ⟨⟨its, ρ0⟩, e1, e2⟩ := bind_some' ee
  generalize hvs : own.map (·.2) = vs at nd hg e2 ⊢
  have e2' : (if ((its.held && !(quietO t && e.quiet)) || vs.any (fun v => match ρ0.at_ v with | .ow _ => true | _ => false)) = true then none else (compGo g vs (cBody T t e) its.rs [] (wipeE ρ0 vs)).map fun z => (R.ow (.ls z.1), backE z.2 ρ0 vs)) = some (r, ρ') := e2
  by_cases c : ((its.held && !(quietO t && e.quiet)) || vs.any (fun v => match ρ0.at_ v with | .ow _ => true | _ => false)) = true
  · rw [if_pos c] at e2'; cases e2'
  rw [if_neg c] at e2'
  obtain ⟨⟨zM, zρ⟩, e3, e4⟩ := map_some' e2'
  cases e4
  simp only [Bool.or_eq_true, not_or, Bool.not_eq_true] at c
  obtain ⟨c1, c2⟩ := c
  have hq1 : its.held = true → quietO t = true ∧ e.quiet = true := fun y => by
    rw [y] at c1
    simpa using c1
  have noOw : ∀ v ∈ vs, ∀ m, ρ0.at_ v ≠ .ow m := fun v m mm em => by
    have := List.any_eq_false.mp c2 v m
    rw [em] at this
    exact this rfl
  refine ⟨F, ρ, fp, its, ρ0, rel, e1, fun J F0 H0 p fp0 a0 D hD => ?_⟩
  let Z : Nat → Hp → Prop := fun i H1 => i ≤ its.rs.length ∧ ∃ ms ρ1 F1 fp1 acc pa, Lp K F H fp F0 H0 p its.held (it.quiet && quietO t && e.quiet) D (L2.wipe σ vs) ms ρ1 F1 H1 fp1 acc pa ∧ compGo g vs (cBody T t e) (its.rs.drop i) ms ρ1 = some (zM, zρ)
  have qI : (it.quiet && quietO t && e.quiet) = true → it.quiet = true ∧ quietO t = true ∧ e.quiet = true := fun y => by
    simp only [Bool.and_eq_true] at y
    exact ⟨y.1.1, y.1.2, y.2⟩
  obtain ⟨fpw, relw, sw⟩ := a0.rel.wipe vs
  have su := same_upd (o := .lst []) hD
  have FD : F0 D = none := a0.rel.sub.free hD
  have Df : D ∉ p ++ fp0 := fun m => by
    rcases List.mem_append.mp m with m | m
    · obtain ⟨o, ho⟩ := a0.kp.trk D m
      rw [hD] at ho; cases ho
    · obtain ⟨o, ho⟩ := a0.rel.env.trk D m
      rw [hD] at ho; cases ho
  have hDq : (it.quiet && quietO t && e.quiet) = true → H D = none := fun y => (a0.qt (qI y).1).1.free hD
  have start : Z 0 (upd H0 D (.lst [])) := by
    have ndk := List.nodup_append.mp a0.kp.nd
    refine ⟨Nat.zero_le _, [], wipeE ρ0 vs, F0, fpw, [], [], ⟨⟨relw.sub.trans su, relw.env.mono (Same.refl F0) fun x _ o ho => su x o ho, relw.nd, relw.dis⟩, ⟨fun x o ho hn => su x o (a0.stp.keep x o ho hn), a0.stp.sub, a0.stp.new, fun x m => ?_⟩, ⟨?_, fun x m => ?_, fun x m => ?_⟩, ⟨Same.refl _, fun x _ o ho => su x o ho, fun _ => su⟩, upd_same, .nil, fun y => ?_⟩, e3⟩
    · rcases List.mem_append.mp m with m | m
      · rcases List.mem_append.mp m with m | m
        · exact a0.stp.fpn x (List.mem_append_left _ m)
        · have hx : x = D := by simpa using m
          subst hx
          cases hH : H x with
          | none => exact .inr rfl
          | some o =>
            by_cases hm : x ∈ fp
            · exact .inl hm
            · rw [a0.stp.keep x o hH hm] at hD; cases hD
      · exact a0.stp.fpn x (List.mem_append_right _ (sw x m))
    · refine List.nodup_append.mpr ⟨List.nodup_append.mpr ⟨ndk.1, by simp, fun x hx y hy ez => ?_⟩, relw.nd, fun x hx y hy ez => ?_⟩
      · have hy' : y = D := by simpa using hy
        subst hy' ez
        exact Df (List.mem_append_left _ hx)
      · subst ez
        rcases List.mem_append.mp hx with hx | hx
        · exact ndk.2.2 x hx x (sw x hy) rfl
        · have hx' : x = D := by simpa using hx
          subst hx'
          exact Df (List.mem_append_right _ (sw x hy))
    · rcases List.mem_append.mp m with m | m
      · exact a0.kp.dis x m
      · have hx' : x = D := by simpa using m
        rw [hx']; exact FD
    · rcases List.mem_append.mp m with m | m
      · obtain ⟨o, ho⟩ := a0.kp.trk x m
        exact ⟨o, su x o ho⟩
      · have hx' : x = D := by simpa using m
        rw [hx']; exact ⟨_, upd_same⟩
    · obtain ⟨h1, h2⟩ := a0.qt (qI y).1
      refine ⟨h1.trans su, fun x m => ?_⟩
      rcases List.mem_append.mp m with m | m
      · exact h2 x m
      · have hx' : x = D := by simpa using m
        rw [hx']; exact hDq y
  refine ⟨fun i m H1 => m = its.rs.length - i ∧ Z i H1, ⟨_, rfl, start⟩, ?_⟩
  rintro i m H1 ⟨rfl, hi, ms, ρ1, F1, fp1, acc, pa, l, eg⟩
  obtain ⟨wk1, wk2⟩ := a0.wk F1 H1 l.rel.sub l.std i
  by_cases hl : i < its.rs.length
  · have er : its.rs[i]? = some its.rs[i] := List.getElem?_eq_getElem hl
    obtain ⟨go, ok, yl⟩ := wk1 _ er
    refine .inr ⟨go, Z (i + 1), fun H' z' => ⟨_, by omega, rfl, z'⟩, fun x H3 y => ?_⟩
    obtain ⟨F3, mk⟩ := yl x H3 y
    have A := (Afs.nil l.rel true).made mk
    rw [List.drop_eq_getElem_cons hl] at eg
    obtain ⟨ρ2, e5, e6⟩ := bind_some' (show (tgF g its.rs[i] ρ1).bind _ = _ from eg)
    obtain ⟨⟨om, ρ3⟩, e7, e8⟩ := bind_some' e6
    obtain ⟨⟨b, ρb⟩, e9, e10⟩ := bind_some' (show (evTO T t ρ2).bind _ = _ from e7)
    have stp3 : Stp F1 H1 fp1 F3 H3 fp1 := by have := A.stp; rwa [List.nil_append] at this
    refine tg_ok A.rel A.rep ok A.nd A.dis e5 fun σ2 fp2 rel2 s2 _ w2 => ?_
    have s2' : ∀ x ∈ fp2, x ∈ fp1 := fun x m => by have := s2 x m; rwa [List.nil_append] at this
    have wv : L2.wipe σ2 vs = L2.wipe σ vs := by
      rw [w2 vs ?_, wipe_wipe]
      cases g with
      | nm i => simpa [Tg.ins] using hg
      | tup is =>
        intro j hj
        have := List.all_eq_true.mp hg j hj
        simpa using this
    have l3 := l.step rel2 (stp3.less s2') (fun _ => mk.same) fun _ => mk.same
    refine ⟨wv, F3, ρ2, fp2, b, ρb, rel2, e9, fun F4 H4 fp4 a4 => ?_⟩
    have l4 := l3.step a4.rel a4.stp (fun y => a4.qt (hq1 y).1) fun y => a4.qt (qI y).2.1
    cases b with
    | true =>
      have e10' : ((ev T e ρb).bind fun y => if y.1.isOw = true then some (some y.1.toM, y.2) else none) = some (om, ρ3) := e10
      obtain ⟨⟨ry, ρy⟩, e11, e12⟩ := bind_some' e10'
      obtain ⟨ow, e13⟩ := if_some e12
      cases e13
      refine ⟨F4, ρb, fp4, ry, ρy, a4.rel, e11, fun yv F5 H5 p5 fp5 a5 => ?_⟩
      obtain ⟨hat, l5⟩ := l4.add a5 ow (fun y => (hq1 y).2) (fun y => (qI y).2.2) hD hDq
      have e8' : (if ms.length < sizeLine then compGo g vs (cBody T t e) (its.rs.drop (i + 1)) (ms ++ [ry.toM]) (wipeE ρy vs) else none) = some (zM, zρ) := e8
      have hlt : ms.length < sizeLine := by
        by_cases hz : ms.length < sizeLine
        · exact hz
        · rw [if_neg hz] at e8'; cases e8'
      rw [if_pos hlt] at e8'
      obtain ⟨fp6, rel6, s6⟩ := l5.rel.wipe vs
      rw [wv] at rel6
      have hacc : acc.length < sizeLine := by rw [l4.its.length]; exact hlt
      exact ⟨acc, hat, hacc, hl, _, _, F5, fp6, _, _, l5.step rel6 ((Stp.refl _ _ _).less s6) (fun _ => Same.refl _) (fun _ => Same.refl _), e8'⟩
    | false =>
      have e10' : some (none, ρb) = some (om, ρ3) := e10
      cases e10'
      obtain ⟨fp6, rel6, s6⟩ := l4.rel.wipe vs
      rw [wv] at rel6
      exact ⟨hl, ms, _, F4, fp6, acc, pa, l4.step rel6 ((Stp.refl _ _ _).less s6) (fun _ => Same.refl _) (fun _ => Same.refl _), e8⟩
  · have hd : its.rs.drop i = [] := List.drop_eq_nil_iff.mpr (by omega)
    rw [hd] at eg
    have eg' : some (ms, ρ1) = some (zM, zρ) := eg
    cases eg'
    refine .inl ⟨wk2 (List.getElem?_eq_none (by omega)), k (.ref D) F1 H1 (D :: pa) fp1 ?_⟩
    have ndk := List.nodup_append.mp l.kp.nd
    have ndP := List.nodup_append.mp ndk.1
    have env : RpE K F1 H1 σ (backE zρ ρ0 vs) fp1 := RpE.back nd l.rel.env fun v hv => by
      by_cases hn : ρ0.at_ v = .no
      · exact .inl hn
      · obtain ⟨x, px, _, _, s1, hr, ok, _⟩ := a0.rel.env.split v hn
        refine .inr ⟨x, s1, ?_, ok⟩
        cases hm : ρ0.at_ v with
        | no => exact absurd hm hn
        | ow m => exact absurd hm (noOw v hv m)
        | d y =>
          rw [hm] at hr
          exact ⟨hr.1.mono l.std.sub, rfl⟩
        | fr m =>
          rw [hm] at hr
          obtain ⟨⟨q, z⟩, _⟩ := hr
          exact ⟨⟨q, z.mono l.std.sub (Same.ext l.std.sub)⟩, rfl⟩
        | bo m => rw [hm] at ok; cases ok
    exact ⟨⟨l.rel.sub, env, l.rel.nd, l.rel.dis⟩, RpM.ls l.at_ l.its, List.nodup_append.mpr ⟨ndP.2.1, ndk.2.1, fun x hx y hy => ndk.2.2 x (List.mem_append_right _ hx) y hy⟩, fun x m => l.kp.dis x (List.mem_append_right _ m),
      l.stp.less fun x m => (List.mem_append.mp m).elim (fun m => List.mem_append_left _ (List.mem_append_right _ m)) fun m => List.mem_append_right _ m, fun y => ⟨(l.qt y).1, fun x m => (l.qt y).2 x (List.mem_append_right _ m)⟩⟩
end
end Ev
end
section
set_option Elab.async false
set_option linter.all false
set_option maxHeartbeats 1000000
/-! Calls by names; what a context has to offer. -/
namespace Ev
open PySem PySem.Spec PyProof.Rows L2
section
variable {K : PySem.W.Frag} {T : Tbl} {σ : L2.St} {F H : Hp} {fp : List Addr}
theorem tE.mono {f : Env → Option (R × Env)} {q : Bool} {Q Q' : VK} (h : tE K f q σ H Q) (i : ∀ v H', Q v H' → Q' v H') : tE K f q σ H Q' := by
  obtain ⟨F, ρ, fp, r, ρ', rel, e, k⟩ := h
  exact ⟨F, ρ, fp, r, ρ', rel, e, fun v F' H' p fp' a => i _ _ (k v F' H' p fp' a)⟩
/-- the arguments, one behind another -/
def rA (K : PySem.W.Frag) (T : Tbl) : List E → TA
  | [] => tNil
  | e :: es => tCons (tE K (ev T e) e.quiet) (rA K T es)
theorem as_rA : ∀ {es : List E} {σ : L2.St} {H : Hp} {Q : List V → Hp → Prop}, tAs K (evs T es) (quiets es) σ H Q → rA K T es σ H Q
  | [], _, _, _, h => i_as0 h
  | e :: es, σ, H, Q, h => (i_as1 h).mono fun v H1 q => as_rA q
theorem rA.app : ∀ {es fs : List E} {σ : L2.St} {H : Hp} {Q : List V → Hp → Prop}, rA K T (es ++ fs) σ H Q → rA K T es σ H fun vs H1 => rA K T fs σ H1 fun ws H2 => Q (vs ++ ws) H2
  | [], _, _, _, _, h => h
  | e :: es, fs, σ, H, Q, h => tE.mono h fun v H1 q => rA.app (es := es) q
theorem rA.len : ∀ {es : List E} {σ : L2.St} {H : Hp} {Q Q' : List V → Hp → Prop}, rA K T es σ H Q → (∀ vs H', vs.length = es.length → Q vs H' → Q' vs H') → rA K T es σ H Q'
  | [], _, _, _, _, h, i => i [] _ rfl h
  | e :: es, σ, H, Q, Q', h, i => tE.mono h fun v H1 q => rA.len (es := es) q fun vs H' hl q => i _ _ (by simp [hl]) q
/-- the values that are handed on are frozen -/
theorem Afs.frz {q : Bool} {rs : List R} {ρ1 : Env} {vs : List V} {F1 H1 : Hp} {p fp1 : List Addr} (a : Afs K F H fp σ q rs ρ1 vs F1 H1 p fp1) (ok : rs.all R.isOk = true) : Afs K F H fp σ q (rs.map frzF) ρ1 vs (frzH F1 H1 p) H1 [] fp1 := by
  have s1 : Same F1 (frzH F1 H1 p) := frzH_same a.dis
  have m : Aft K F H fp σ q (.d .none) ρ1 .non (frzH F1 H1 p) H1 [] fp1 := a.made ⟨Same.refl H1, s1, frzH_in a.rel.sub, fun b o e n => .inl (frzH_new e n), fun b m => absurd m (by simp), List.nodup_nil, ⟨.non, rfl⟩⟩
  have go : ∀ {rs : List R} {vs : List V} {p' : List Addr}, RpRs K F1 H1 vs rs p' → (∀ x ∈ p', x ∈ p) → rs.all R.isOk = true → RpRs K (frzH F1 H1 p) H1 vs (rs.map frzF) [] := by
    intro rs vs p' h
    induction h with
    | nil => intro _ _; exact .nil
    | @cons v vs r rs pa qa h t ih =>
      intro hs ok
      rw [List.all_cons, Bool.and_eq_true] at ok
      refine RpRs.cons (p := []) (q := []) ?_ (ih (fun x m => hs x (List.mem_append_right _ m)) ok.2)
      have hs1 : ∀ x ∈ pa, x ∈ p := fun x m => hs x (List.mem_append_left _ m)
      cases r with
      | no => exact h.elim
      | d x => exact ⟨h.1.mono s1, rfl⟩
      | ow m =>
        have q := RpM.frz s1 (show RpM K F1 H1 v m pa from h) hs1
        cases hd : m.data with
        | none =>
          rw [show frzF (.ow m) = .fr m by simp only [frzF, hd]]
          exact ⟨⟨pa, q⟩, rfl⟩
        | some x =>
          rw [show frzF (.ow m) = .d x by simp only [frzF, hd]]
          exact ⟨q.dp (Same.refl _) hd, rfl⟩
      | fr m =>
        obtain ⟨⟨qq, z⟩, _⟩ := h
        exact ⟨⟨qq, z.mono s1 (Same.ext s1)⟩, rfl⟩
      | bo m => cases ok.1
  exact ⟨m.rel, go a.rep (fun x m => m) ok, m.nd, m.dis, m.stp, m.qt⟩
theorem RpRs.pick {vs : List V} {rs : List R} (h : RpRs K F H vs rs []) : ∀ ix : List Nat, RpRs K F H (ix.filterMap fun i => vs[i]?) (ix.filterMap fun i => rs[i]?) []
  | [] => .nil
  | i :: ix => by
    have ih := RpRs.pick h ix
    have at_ : ∀ {vs : List V} {rs : List R} {p : List Addr} (i : Nat), RpRs K F H vs rs p → p = [] → (vs[i]? = none ∧ rs[i]? = none) ∨ ∃ v r, vs[i]? = some v ∧ rs[i]? = some r ∧ RpR K F H v r [] := by
      intro vs rs p i h
      induction h generalizing i with
      | nil => intro _; exact .inl ⟨by simp, by simp⟩
      | @cons v vs r rs pa qa h t ih =>
        intro e
        obtain ⟨rfl, rfl⟩ := List.append_eq_nil_iff.mp e
        cases i with
        | zero => exact .inr ⟨v, r, rfl, rfl, h⟩
        | succ i => exact ih i rfl
    rcases at_ i h rfl with ⟨h1, h2⟩ | ⟨v, r, h1, h2, hr⟩
    · simpa [List.filterMap_cons, h1, h2] using ih
    · have z := RpRs.cons hr ih
      simpa [List.filterMap_cons, h1, h2] using z
theorem RpRs.take' : ∀ {vs : List V} {rs : List R} {p : List Addr} (n : Nat), RpRs K F H vs rs p → p = [] → RpRs K F H (vs.take n) (rs.take n) [] ∧ RpRs K F H (vs.drop n) (rs.drop n) []
  | _, _, _, n, .nil, _ => by
    rw [List.take_nil, List.drop_nil, List.take_nil, List.drop_nil]
    exact ⟨.nil, .nil⟩
  | _, _, _, 0, h, e => by subst e; exact ⟨.nil, h⟩
  | _, _, _, n + 1, .cons h t, e => by
    obtain ⟨rfl, rfl⟩ := List.append_eq_nil_iff.mp e
    obtain ⟨a, b⟩ := RpRs.take' n t rfl
    exact ⟨RpRs.cons h a, b⟩
theorem RpRs.app : ∀ {vs ws : List V} {rs us : List R} {p q : List Addr}, RpRs K F H vs rs p → RpRs K F H ws us q → RpRs K F H (vs ++ ws) (rs ++ us) (p ++ q)
  | _, _, _, _, _, _, .nil, b => b
  | _, _, _, _, _, _, .cons h t, b => by
    rw [List.append_assoc]
    exact .cons h (RpRs.app t b)
theorem frz_ok {r : R} (h : r.isOk = true) : (frzF r).isOk = true := by
  cases r with
  | ow m =>
    cases hd : m.data with
    | none => rw [show frzF (.ow m) = .fr m by simp only [frzF, hd]]; rfl
    | some x => rw [show frzF (.ow m) = .d x by simp only [frzF, hd]]; rfl
  | _ => exact h
theorem kwG_len {α : Type} {ix : List Nat} {us ws : List α} (h : ix.all (fun i => decide (i < ws.length)) = true) : (kwG ix us ws).length = us.length + ix.length := by
  have go : ∀ ix : List Nat, ix.all (fun i => decide (i < ws.length)) = true → (ix.filterMap (fun i => ws[i]?)).length = ix.length := by
    intro ix
    induction ix with
    | nil => intro _; rfl
    | cons i ix ih =>
      intro h
      rw [List.all_cons, Bool.and_eq_true, decide_eq_true_eq] at h
      rw [List.filterMap_cons, List.getElem?_eq_getElem h.1]
      simp [ih h.2]
  unfold kwG
  rw [List.length_append, go ix h]
theorem kwG_all {ix : List Nat} {us ws : List R} (h1 : us.all R.isOk = true) (h2 : ws.all R.isOk = true) : (kwG ix us ws).all R.isOk = true := by
  unfold kwG
  rw [List.all_append, h1, Bool.true_and, List.all_eq_true]
  intro r m
  obtain ⟨i, _, e⟩ := List.mem_filterMap.mp m
  exact List.all_eq_true.mp h2 r (List.mem_of_getElem? e)
/-- the names of a call fit the parameters -/
def kwOk (ps ks : List Str) : Bool := decide (ks.length ≤ ps.length) && (kwIx ps ks).all (fun i => decide (i < ks.length))
theorem i_callK {f j : Nat} {es fs : List E} {d : Fd} {ks : List Str} {Q : VK} (hd : T[f]? = some d) (hk : d.kws[j]? = some ks) {N : XK} (hn : es.length + ks.length = d.ps.length) (hf : fs.length = ks.length) (ok2 : kwOk d.ps ks = true) (h : tE K (ev T (.callK f j (es ++ fs))) (quiets (es ++ fs)) σ H Q) :
    rA K T es σ H fun vs H1 => rA K T fs σ H1 fun zs H2 => (zs.length = ks.length ∧ vs.length + zs.length = d.ps.length) ∧ spG K d.ps.length d.io d.g (kwG (kwIx d.ps ks) vs zs) H2 Q N := by
  have z : tAs K (evs T (es ++ fs)) (quiets (es ++ fs)) σ H fun us H1 => spG K d.ps.length d.io d.g (kwG (kwIx d.ps ks) (us.take (d.ps.length - ks.length)) (us.drop (d.ps.length - ks.length))) H1 Q N := by
    obtain ⟨F, ρ, fp, r, ρ', rel, e, k⟩ := h
    rw [ev] at e
    obtain ⟨⟨rs, ρ1⟩, e1, e2⟩ := bind_some' e
    rw [hd] at e2
    have e2' : (d.kws[j]?.bind fun ks => if rs.all R.isOk = true then (d.g (kwG (kwIx d.ps ks) ((rs.map frzF).take (d.ps.length - ks.length)) ((rs.map frzF).drop (d.ps.length - ks.length)))).map fun r => (r.1, ρ1) else none) = some (r, ρ') := e2
    rw [hk] at e2'
    have e3 : (if rs.all R.isOk = true then (d.g (kwG (kwIx d.ps ks) ((rs.map frzF).take (d.ps.length - ks.length)) ((rs.map frzF).drop (d.ps.length - ks.length)))).map fun r => (r.1, ρ1) else none) = some (r, ρ') := e2'
    by_cases ok : rs.all R.isOk = true
    · rw [if_pos ok] at e3
      obtain ⟨⟨r1, r0⟩, e4, e5⟩ := map_some' e3
      cases e5
      refine ⟨F, ρ, fp, rs, _, rel, e1, fun vs F' H' p fp' b => ?_⟩
      have B := b.frz ok
      obtain ⟨t1, t2⟩ := RpRs.take' (d.ps.length - ks.length) B.rep rfl
      have t3 := t1.app (t2.pick (kwIx d.ps ks))
      have hl : rs.length = es.length + fs.length := by rw [evs_len e1, List.length_append]
      unfold kwOk at ok2
      rw [Bool.and_eq_true, decide_eq_true_eq] at ok2
      have hvl := b.rep.length
      refine ⟨?_, frzH F' H' p, _, [], r1, r0, B.rel.sub, t3.toE ?_, List.nodup_nil, fun x m => absurd m (by simp), e4, fun v F2 H2 p2 p0 dd => k _ _ _ _ _ (B.call (io := false) (vs := vs) (r0 := r0) (p0 := p0) ⟨dd.sub, dd.rep, dd.ok, (fun y => nomatch y), dd.nd, dd.dis, dd.stp⟩)⟩
      · rw [kwG_len]
        · unfold kwIx
          rw [List.length_map, List.length_drop, List.length_take]
          omega
        · have e6 : (vs.drop (d.ps.length - ks.length)).length = ks.length := by rw [List.length_drop]; omega
          rw [e6]
          exact ok2.2
      · refine kwG_all (List.all_eq_true.mpr fun r m => ?_) (List.all_eq_true.mpr fun r m => ?_)
        · obtain ⟨r', m', rfl⟩ := List.mem_map.mp (List.mem_of_mem_take m)
          exact frz_ok (List.all_eq_true.mp ok r' m')
        · obtain ⟨r', m', rfl⟩ := List.mem_map.mp (List.mem_of_mem_drop m)
          exact frz_ok (List.all_eq_true.mp ok r' m')
    · rw [if_neg ok] at e3; cases e3
  refine rA.len (rA.app (as_rA z)) fun vs H1 hl q => rA.len q fun zs H2 hl2 q => ?_
  refine ⟨⟨by rw [hl2, hf], by rw [hl, hl2, hf, hn]⟩, ?_⟩
  have e : d.ps.length - ks.length = vs.length := by omega
  rw [e, List.take_left, List.drop_left] at q
  exact q
end
/-! ### contexts -/
structure Cs where
  N : List Str
  sc : Scope
  fn : Option Scope
  gl : List (Str × Int)
def Cs.fnb (C : Cs) (x : Str) : Bool := match C.fn with
  | none => true
  | some s => s.names.lookup x == some .cell
def bltNames : List Str := ["len", "list", "tuple", "sorted", "sum", "any", "all", "max", "min", "abs", "int", "repr", "range", "enumerate", "zip", "set"]
/-- a def of the table is there -/
def Has (X : Cx) (k : Nat) (d : Fd) : Prop := ∃ f fd, X.mg d.name = some (.ref f) ∧ PySem.W.keepIn X.K (.ref f) = true ∧ FnG X.prog X.w X.K X.mg X.base k f fd d.ps (spG X.K d.ps.length d.io d.g) ∧ Binds X.K fd d.ps [] ∧
  ∀ ks ∈ d.kws, ∀ (s : Shared) (us ws : List Value), X.K.In s.heap → ws.length = ks.length → us.length + ws.length = d.ps.length → BindsTo s fd ⟨us, ks.zip ws⟩ (d.ps.zip (kwG (kwIx d.ps ks) us ws))
structure Good (T : Tbl) (k : Nat) (C : Cs) (X : Cx) : Prop where
  calm : X.calm = true
  N : X.N = C.N
  nd : C.N.Nodup
  sc : X.env.scope = C.sc
  fn : ∀ x, C.fnb x = true → X.fn x = true
  gd : X.A.guards = some []
  dg : X.base.NoDigits
  rm : Room k X.A
  bl : ∀ x ∈ bltNames, X.mg x = none
  gl : ∀ x i, C.gl.lookup x = some i → ∃ t, X.mg x = some (.int i t)
  tb : ∀ d ∈ T, Has X k d
def Cs.in_ (C : Cs) (s : Scope) : Cs := { C with sc := relS s C.sc, fn := some s }
theorem Good.blk {T : Tbl} {k : Nat} {C : Cs} {X : Cx} (G : Good T k C X) (s : Shared) (H : Hp) (scope : Scope) (A : Addr) (cl : List (Str × Addr)) (fp : List Addr) : Good T k (C.in_ scope) (X.blk s H scope (compEnvC scope cl A X.env) fp) := by
  refine ⟨G.calm, G.N, G.nd, ?_, fun x h => h, G.gd, G.dg, G.rm, G.bl, G.gl, fun d m => G.tb d m⟩
  show relS scope X.env.scope = relS scope C.sc
  rw [G.sc]
def E0' : XK := fun _ _ _ => False
theorem pass0' (X : Cx) : Passes (L2.CX X.prog X.w) X E0' := fun pins σ H s e s' I h => by
  obtain ⟨a, B, H', cls, d, _, _, _, _, _, _, _, z⟩ := h
  exact z.elim
end Ev
end
section
set_option Elab.async false
set_option linter.all false
set_option maxHeartbeats 1000000
/-! Does an IR say what a piece of the text says? -/
namespace Ev
open PySem PySem.Spec PyProof.Rows L2
/-- no set, no cut, no star -/
def plx : Expr → Bool
  | .Set _ _ _ | .Slice _ _ _ _ | .Starred _ _ => false
  | _ => true
theorem plx_star {a : Expr} {as : List Expr} {env : PySem.Env} (h : plx a = true) : starEach (a :: as) env = (false, eval a env) :: starEach as env := by
  cases a <;> first | rfl | cases h
theorem plx_beh {a : Expr} {o : CmpOp} (h : plx a = true) : behindInMarks o a = false := by
  cases a <;> first | rfl | cases h
theorem plx_ix {a : Expr} (h : plx a = true) : PlainIx a := by
  intro o i
  cases a <;> first | rfl | cases h
theorem plx_fold {a : Expr} {env : PySem.Env} (h : plx a = true) : ∀ x, foldedSetIterable a env x = pure x := by
  intro x
  cases a <;> first | rfl | cases h
theorem plx_asg {o i : Expr} {env : PySem.Env} {pos : Pos} (h : plx i = true) : ∀ v, assign (.Subscript o i pos) env v = (do
      let ov ← holding [v] (eval o env)
      let iv ← holding [v, ov] (eval i env)
      standAt pos
      holding [v, ov, iv] (setItem ov iv v)
      release [v, ov, iv] []) := by
  intro v
  cases i <;> first | rfl | cases h
def isNm : Option NameKind → Bool
  | some .local => true
  | some .cell => true
  | some .free => true
  | _ => false
/-- the name x stands at slot i, and may be read -/
def Cs.rd (C : Cs) (i : Nat) (x : Str) : Bool := decide (C.N[i]? = some x) && isNm (C.sc.names.lookup x) && !(x == "__debug__") && !(x == "__classdict__")
/-- .. may be stored -/
def Cs.wr (C : Cs) (i : Nat) (x : Str) : Bool := decide (C.N[i]? = some x) && (match C.sc.names.lookup x with | some .local => true | some .cell => C.fnb x | _ => false)
/-- a global name -/
def Cs.gn (C : Cs) (x : Str) : Bool := (match C.sc.names.lookup x with | some .globalImplicit => true | _ => false) && !(x == "__debug__")
def Cs.wrs (C : Cs) : List Nat → List Expr → Bool
  | [], [] => true
  | i :: is, .Name x _ :: as => C.wr i x && Cs.wrs C is as
  | _, _ => false
def chkTg (C : Cs) : Tg → Expr → Bool
  | .nm i, .Name x _ => C.wr i x
  | .tup is, .Tuple as _ _ => Cs.wrs C is as
  | _, _ => false
section
variable (T : Tbl)
mutual
def chkE : E → Cs → Expr → Bool
  | .nm i, C, x => match x with | .Name y _ => C.rd i y | _ => false
  | .gl n i, C, x => match x with | .Name y _ => decide (n = y) && C.gn y && decide (C.gl.lookup y = some i) | _ => false
  | .int i, C, x => match x with | .Constant (.int j) _ _ => decide (i = j) | _ => false
  | .str i, C, x => match x with | .Constant (.str j) _ _ => decide (i = j) | _ => false
  | .bl i, C, x => match x with | .Constant (.bool j) _ _ => decide (i = j) | _ => false
  | .non, C, x => match x with | .Constant .none _ _ => true | _ => false
  | .tup es, C, x => match x with | .Tuple as _ _ => chkEs es C as | _ => false
  | .lst es, C, x => match x with | .List as _ => chkEs es C as | _ => false
  | .bin o a b, C, x => match x with | .BinOp l o' r _ => decide (o = o') && chkE a C l && chkE b C r | _ => false
  | .neg a, C, x => match x with | .UnaryOp .USub y _ => chkE a C y | _ => false
  | .cmp o a b, C, x => match x with | .Compare l [o'] [r] _ => decide (o = o') && chkE a C l && chkE b C r && plx r | _ => false
  | .chn o p a b c, C, x => match x with | .Compare l [o', p'] [m, r] _ => decide (o = o') && decide (p = p') && chkE a C l && chkE b C m && chkE c C r && plx r | _ => false
  | .and es, C, x => match x with | .BoolOp .And as _ => !es.isEmpty && chkEs es C as | _ => false
  | .or es, C, x => match x with | .BoolOp .Or as _ => !es.isEmpty && chkEs es C as | _ => false
  | .not a, C, x => match x with | .UnaryOp .Not y _ => chkE a C y | _ => false
  | .ite t a b, C, x => match x with | .IfExp u v w _ => chkE t C u && chkE a C v && chkE b C w | _ => false
  | .sub a b, C, x => match x with | .Subscript u v _ => chkE a C u && chkE b C v && plx v | _ => false
  | .slc a lo hi, C, x => match x with | .Subscript u (.Slice l h none _) _ => chkE a C u && chkO lo C l && chkO hi C h | _ => false
  | .rev a, C, x => match x with | .Subscript u (.Slice none none (some (.UnaryOp .USub (.Constant (.int i) _ _) _)) _) _ => decide (i = 1) && chkE a C u | _ => false
  | .lset a, C, x => match x with | .Call (.Name y _) [.Call (.Name z _) [u] [] _] [] _ => decide (y = "len") && decide (z = "set") && C.gn y && C.gn z && chkE a C u && plx u | _ => false
  | .bi f es, C, x => match x with | .Call (.Name y _) as [] _ => decide (y = f.name) && C.gn y && !es.isEmpty && chkEs es C as | _ => false
  | .lrg es, C, x => match x with | .Call (.Name y _) [.Call (.Name z _) as [] _] [] _ => decide (y = "list") && decide (z = "range") && C.gn y && C.gn z && decide (es.length = 1 ∨ es.length = 2) && chkEs es C as | _ => false
  | .trg es, C, x => match x with | .Call (.Name y _) [.Call (.Name z _) as [] _] [] _ => decide (y = "tuple") && decide (z = "range") && C.gn y && C.gn z && decide (es.length = 1 ∨ es.length = 2) && chkEs es C as | _ => false
  | .call f es, C, x => match x with
    | .Call (.Name y _) as [] _ => (match T[f]? with | some d => decide (d.name = y) && decide (d.ps.length = es.length) | none => false) && C.gn y && chkEs es C as
    | _ => false
  | .callK f j es, C, x => match x with
    | .Call (.Name y _) as kws _ => (match T[f]? with
      | some d => (match d.kws[j]? with
        | some ks => decide (d.name = y) && decide (as.length + ks.length = d.ps.length) && kwOk d.ps ks && decide (kws.map (·.arg) = ks.map some)
        | none => false)
      | none => false) && C.gn y && chkEs es C (as ++ kws.map (·.value))
    | _ => false
  | .callM f i es, C, x => match x with
    | .Call (.Name y _) (.Name z _ :: as) [] _ => (match T[f]? with | some d => decide (d.name = y) && decide (d.ps.length = es.length + 1) | none => false) && C.gn y && C.rd i z && chkEs es C as
    | _ => false
  | .pop i, C, x => match x with | .Call (.Attribute (.Name y _) m ap) [] [] cp => decide (m = "pop") && C.rd i y && (ap.endLine == cp.line) | _ => false
  | .popAt i a, C, x => match x with | .Call (.Attribute (.Name y _) m ap) [u] [] cp => decide (m = "pop") && C.rd i y && (ap.endLine == cp.line) && chkE a C u && plx u | _ => false
  | .popX i a, C, x => match x with | .Call (.Attribute (.Subscript (.Name y _) u _) m ap) [] [] cp => decide (m = "pop") && C.rd i y && (ap.endLine == cp.line) && chkE a C u && plx u | _ => false
  | .comp own g it t e, C, x => match x with
    | .ListComp el [⟨tg, iter, ifs, n⟩] sc _ => decide (n = 0) && blkC C.N C.sc sc own && decide ((own.map (·.2)).Nodup) && g.ins (own.map (·.2)) && plx iter && chkIt it C tg iter && chkTg (C.in_ sc) g tg && chkTO t (C.in_ sc) ifs && chkE e (C.in_ sc) el
    | _ => false
def chkEs : List E → Cs → List Expr → Bool
  | [], C, xs => xs.isEmpty
  | e :: es, C, xs => match xs with | a :: as => chkE e C a && plx a && chkEs es C as | [] => false
def chkO : Option E → Cs → Option Expr → Bool
  | none, C, x => x.isNone
  | some e, C, x => match x with | some a => chkE e C a | none => false
def chkTO : Option E → Cs → List Expr → Bool
  | none, C, x => x.isEmpty
  | some e, C, x => match x with | [a] => chkE e C a | _ => false
def chkIt : It → Cs → Expr → Expr → Bool
  | .e a, C, tg, x => chkE a C x
  | .rg es, C, tg, x => match x with | .Call (.Name y _) as [] _ => decide (y = "range") && C.gn y && decide (es.length = 1 ∨ es.length = 2) && chkEs es C as | _ => false
  | .enum a, C, tg, x => match tg, x with | .Tuple _ _ _, .Call (.Name y _) [u] [] _ => decide (y = "enumerate") && C.gn y && chkE a C u && plx u | _, _ => false
  | .zip a b, C, tg, x => match tg, x with | .Tuple _ _ _, .Call (.Name y _) [u, v] [] _ => decide (y = "zip") && C.gn y && chkE a C u && plx u && chkE b C v && plx v | _, _ => false
end
end
end Ev
end
section
set_option Elab.async false
set_option linter.all false
set_option maxHeartbeats 4000000
/-! .. then the text's readings follow from the IR's: expressions. -/
namespace Ev
open PySem PySem.Spec PyProof.Rows L2
section
variable {T : Tbl} {k : Nat} {C : Cs} {X : Cx}
theorem Good.rd_ (G : Good T k C X) {i : Nat} {x : Str} (h : C.rd i x = true) : X.N[i]? = some x ∧ Vis X.env.scope x ∧ (x == ("__debug__" : Str)) = false ∧ (x == ("__classdict__" : Str)) = false := by
  unfold Cs.rd at h
  simp only [Bool.and_eq_true, decide_eq_true_eq, Bool.not_eq_true'] at h
  obtain ⟨⟨⟨h1, h2⟩, h3⟩, h4⟩ := h
  refine ⟨by rw [G.N]; exact h1, ?_, h3, h4⟩
  unfold Vis
  rw [G.sc]
  cases e : C.sc.names.lookup x with
  | none => rw [e] at h2; cases h2
  | some kd =>
    rw [e] at h2
    cases kd <;> first | exact .inl rfl | exact .inr (.inl rfl) | exact .inr (.inr rfl) | cases h2
theorem Good.wr_ (G : Good T k C X) {i : Nat} {x : Str} (h : C.wr i x = true) : X.N[i]? = some x ∧ L2.Loc X.env.scope x ∧ (X.fn x = true ∨ X.env.scope.names.lookup x = some .local) := by
  unfold Cs.wr at h
  rw [Bool.and_eq_true, decide_eq_true_eq] at h
  obtain ⟨h1, h2⟩ := h
  refine ⟨by rw [G.N]; exact h1, ?_⟩
  unfold L2.Loc
  rw [G.sc]
  cases e : C.sc.names.lookup x with
  | none => rw [e] at h2; cases h2
  | some kd =>
    rw [e] at h2
    cases kd <;> first | exact ⟨.inl rfl, .inr rfl⟩ | exact ⟨.inr rfl, .inl (G.fn x h2)⟩ | cases h2
theorem Good.gn_ (G : Good T k C X) {x : Str} (h : C.gn x = true) : Gl X x ∧ (x == ("__debug__" : Str)) = false := by
  unfold Cs.gn at h
  rw [Bool.and_eq_true, Bool.not_eq_true'] at h
  refine ⟨?_, h.2⟩
  show X.env.scope.names.lookup x = _
  rw [G.sc]
  cases e : C.sc.names.lookup x with
  | none => rw [e] at h; cases h.1
  | some kd =>
    rw [e] at h
    cases kd <;> first | rfl | cases h.1
theorem Good.ndX (G : Good T k C X) : X.N.Nodup := by rw [G.N]; exact G.nd
theorem Good.hu (G : Good T k C X) : X.A.units + 70 < cLine := by have := G.rm.un; omega
/-- both readings of an expression: as a value, as a test -/
def Snd (T : Tbl) (X : Cx) (e : E) (a : Expr) : Prop := PE X a (tE X.K (ev T e) e.quiet) ∧ PT X a (tTs X.K (asT (ev T e)) e.quiet)
theorem sndG {e : E} {a : Expr} (h : PE X a (tE X.K (ev T e) e.quiet)) (he : ∀ whole, isTrue a X.env whole = (do let v ← whole; standAt a.pos; holding [v] (truthy v))) : Snd T X e a := ⟨h, PT.imp (pt_truth h he) fun _ _ _ => i_tru⟩
def AllP (T : Tbl) (X : Cx) : List E → List Expr → Prop
  | [], [] => True
  | e :: es, a :: as => (plx a = true ∧ Snd T X e a) ∧ AllP T X es as
  | _, _ => False
theorem AllP.len : ∀ {es : List E} {as : List Expr}, AllP T X es as → es.length = as.length
  | [], [], _ => rfl
  | _ :: es, _ :: as, h => congrArg (· + 1) (AllP.len h.2)
  | [], _ :: _, h => h.elim
  | _ :: _, [], h => h.elim
theorem AllP.star {pos : Pos} : ∀ {es : List E} {as : List Expr}, AllP T X es as → (backTo pos (starEach as X.env)).any (·.1) = false
  | [], [], _ => rfl
  | _ :: es, a :: as, h => by
    rw [plx_star h.1.1]
    have := AllP.star (pos := pos) h.2
    unfold backTo at this ⊢
    rw [List.map_cons, List.any_cons, this]
    rfl
  | [], _ :: _, h => h.elim
  | _ :: _, [], h => h.elim
theorem AllP.pa : ∀ {es : List E} {as : List Expr}, AllP T X es as → PA X as (rA X.K T es)
  | [], [], _ => pa_nil
  | _ :: es, a :: as, h => pa_cons h.1.2.1 (AllP.pa h.2) (plx_star h.1.1)
  | [], _ :: _, h => h.elim
  | _ :: _, [], h => h.elim
theorem AllP.pas {es : List E} {as : List Expr} (h : AllP T X es as) : PA X as (tAs X.K (evs T es) (quiets es)) := PA.imp h.pa fun _ _ _ => as_rA
theorem AllP.pk : ∀ {es : List E} {kws : List Keyword}, AllP T X es (kws.map (·.value)) → PK X kws (rA X.K T es)
  | [], [], _ => pk_nil
  | _ :: es, ⟨_, _, _⟩ :: kws, h => pk_cons h.1.2.1 (AllP.pk h.2)
  | [], _ :: _, h => h.elim
  | _ :: _, [], h => h.elim
theorem AllP.take : ∀ {es : List E} {as bs : List Expr}, AllP T X es (as ++ bs) → AllP T X (es.take as.length) as ∧ AllP T X (es.drop as.length) bs
  | es, [], bs, h => ⟨trivial, h⟩
  | e :: es, a :: as, bs, h => by
    obtain ⟨h1, h2⟩ := AllP.take (es := es) (as := as) h.2
    exact ⟨⟨h.1, h1⟩, h2⟩
  | [], _ :: _, _, h => h.elim
theorem AllP.and {pos : Pos} : ∀ {es : List E} {as : List Expr}, es ≠ [] → AllP T X es as → PE X (.BoolOp .And as pos) (tE X.K (vAnd T es) (quiets es)) ∧ PW X (.BoolOp .And as pos) (tTs X.K (evAnd T es) (quiets es))
  | [e], [a], _, h => ⟨PE.imp (pe_one h.1.2.1) fun _ _ _ => i_and1V, ⟨fun wh pins s σ H Q I q => (pw_and1 h.1.2.2).run wh pins s σ H Q I (i_and1T q)⟩⟩
  | e :: e2 :: es, a :: a2 :: as, _, h => by
    obtain ⟨h1, h2⟩ := AllP.and (pos := pos) (es := e2 :: es) (as := a2 :: as) (by simp) h.2
    exact ⟨PE.imp (pe_and h.1.2.1 h1) fun _ _ _ => i_andV, ⟨fun wh pins s σ H Q I q => (pw_and h.1.2.2 h2).run wh pins s σ H Q I (i_andT q)⟩⟩
  | [], _, n, _ => absurd rfl n
  | [_], [], _, h => h.elim
  | [_], _ :: _ :: _, _, h => h.2.elim
  | _ :: _ :: _, [], _, h => h.elim
  | _ :: _ :: _, [_], _, h => h.2.elim
theorem AllP.or {pos : Pos} : ∀ {es : List E} {as : List Expr}, es ≠ [] → AllP T X es as → PE X (.BoolOp .Or as pos) (tE X.K (vOr T es) (quiets es)) ∧ PW X (.BoolOp .Or as pos) (tTs X.K (evOr T es) (quiets es))
  | [e], [a], _, h => ⟨PE.imp (pe_one h.1.2.1) fun _ _ _ => i_or1V, ⟨fun wh pins s σ H Q I q => (pw_or1 h.1.2.2).run wh pins s σ H Q I (i_or1T q)⟩⟩
  | e :: e2 :: es, a :: a2 :: as, _, h => by
    obtain ⟨h1, h2⟩ := AllP.or (pos := pos) (es := e2 :: es) (as := a2 :: as) (by simp) h.2
    exact ⟨PE.imp (pe_or h.1.2.1 h1) fun _ _ _ => i_orV, ⟨fun wh pins s σ H Q I q => (pw_or h.1.2.2 h2).run wh pins s σ H Q I (i_orT q)⟩⟩
  | [], _, n, _ => absurd rfl n
  | [_], [], _, h => h.elim
  | [_], _ :: _ :: _, _, h => h.2.elim
  | _ :: _ :: _, [], _, h => h.elim
  | _ :: _ :: _, [_], _, h => h.2.elim
/-! ### targets -/
theorem wrs_ok (G : Good T k C X) : ∀ {is : List Nat} {as : List Expr}, C.wrs is as = true → PGs X as (gNs is) ∧ (assignEach as X.env).length = is.length ∧ (assignEach as X.env).findIdx? (·.1) = none
  | [], [], _ => ⟨pgs_nil, rfl, rfl⟩
  | i :: is, .Name x p :: as, h => by
    have h' : (C.wr i x && C.wrs is as) = true := h
    rw [Bool.and_eq_true] at h'
    obtain ⟨h1, h2, h3⟩ := wrs_ok G h'.2
    obtain ⟨w1, w2, w3⟩ := G.wr_ h'.1
    refine ⟨pgs_cons (pg_name G.ndX w1 w2 w3) h1, ?_, ?_⟩
    · show ((false, _) :: assignEach as X.env).length = _
      rw [List.length_cons, h2, List.length_cons]
    · show List.findIdx? (·.1) ((false, _) :: assignEach as X.env) = none
      rw [List.findIdx?_cons, h3]
      rfl
  | [], _ :: _, h => by cases h
  | _ :: _, [], h => by cases h
theorem tg_pg (G : Good T k C X) {g : Tg} {a : Expr} (h : chkTg C g a = true) : PG X a (gOf X.K g) := by
  cases g with
  | nm i =>
    cases a <;> first | (cases h; done) | skip
    obtain ⟨w1, w2, w3⟩ := G.wr_ h
    exact pg_name G.ndX w1 w2 w3
  | tup is =>
    cases a <;> first | (cases h; done) | skip
    obtain ⟨h1, h2, h3⟩ := wrs_ok G h
    exact ⟨fun pins s σ H v u Q I r hw => hw.elim (fun q => (pg_tup G.calm h1 h2 h3).run pins s σ H v u Q I r q) fun q => (pg_unl G.calm h1 h2 h3).run pins s σ H v u Q I r q⟩
/-! ### built-ins -/
theorem bi_mem (f : Bi) : f.name ∈ bltNames := by cases f <;> decide +kernel
theorem bi_pe (G : Good T k C X) (f : Bi) {e : Expr} {es : List Expr} {t : TA} {p pos : Pos} (hg : Gl X f.name) (hd : (f.name == ("__debug__" : Str)) = false) (ha : PA X (e :: es) t) (he : starEach (e :: es) X.env = (false, eval e X.env) :: starEach es X.env)
    (hpl : (backTo pos (starEach es X.env)).any (·.1) = false) : PE X (.Call (.Name f.name p) (e :: es) [] pos) (tCB (rN X.K (biF f)) t) := by
  have hm := G.bl f.name (bi_mem f)
  have hu := G.hu
  cases f with
  | len => exact pe_callB bi_len hg hm boot_len ha (by decide) hd he hpl
  | list => exact pe_callTy bi_list hg hm (by decide +kernel) ha (by decide) hd he hpl
  | tuple => exact pe_callTy bi_tuple hg hm (by decide +kernel) ha (by decide) hd he hpl
  | sorted => exact pe_callB (bi_sorted hu) hg hm (by decide +kernel) ha (by decide) hd he hpl
  | sum => exact pe_callB (bi_sum G.calm) hg hm (by decide +kernel) ha (by decide) hd he hpl
  | any => exact pe_callB (bi_any G.calm) hg hm (by decide +kernel) ha (by decide) hd he hpl
  | all => exact pe_callB (bi_all G.calm) hg hm (by decide +kernel) ha (by decide) hd he hpl
  | max1 => exact pe_callB (bi_max1 G.calm) hg hm (by decide +kernel) ha (by decide) hd he hpl
  | min1 => exact pe_callB (bi_min1 G.calm) hg hm (by decide +kernel) ha (by decide) hd he hpl
  | max2 => exact pe_callB (bi_max2 G.calm) hg hm (by decide +kernel) ha (by decide) hd he hpl
  | min2 => exact pe_callB (bi_min2 G.calm) hg hm (by decide +kernel) ha (by decide) hd he hpl
  | abs => exact pe_callB bi_abs hg hm (by decide +kernel) ha (by decide) hd he hpl
  | int => exact pe_callTy bi_int hg hm (by decide +kernel) ha (by decide) hd he hpl
  | repr => exact pe_callB (bi_repr G.dg G.gd hu) hg hm (by decide +kernel) ha (by decide) hd he hpl
end
end Ev
end
section
set_option Elab.async false
set_option linter.all false
set_option maxHeartbeats 4000000
/-! The checker is right: expressions. -/
namespace Ev
open PySem PySem.Spec PyProof.Rows L2
section
variable {T : Tbl} {k : Nat} {C : Cs} {X : Cx}
theorem pt_ite {c a b : Expr} {pos : Pos} {tc ta tb : TT} (hc : PT X c tc) (ha : PT X a ta) (hb : PT X b tb) : PT X (.IfExp c a b pos) (fun σ H Q => tc σ H fun d H1 => if d = true then ta σ H1 Q else tb σ H1 Q) := by
  refine ⟨fun pins s σ H Q I h => ?_⟩
  show wpAny _ _ (do if ← isTrue c X.env (eval c X.env) then isTrue a X.env (eval a X.env) else isTrue b X.env (eval b X.env)) _ _ s
  refine wpAny_bind (thn (hc.run pins s σ H _ I h) fun d s1 ⟨H1, I1, q1⟩ => ?_)
  cases d with
  | true => exact ha.run pins s1 σ H1 Q I1 q1
  | false => exact hb.run pins s1 σ H1 Q I1 q1
theorem i_iteT {K : PySem.W.Frag} {σ : L2.St} {H : Hp} {Q : Bool → Hp → Prop} {t a b : E} (h : tTs K (asT (ev T (.ite t a b))) (t.quiet && a.quiet && b.quiet) σ H Q) :
    tTs K (asT (ev T t)) t.quiet σ H fun d H1 => if d = true then tTs K (asT (ev T a)) a.quiet σ H1 Q else tTs K (asT (ev T b)) b.quiet σ H1 Q := by
  obtain ⟨F, ρ, fp, d, ρ', rel, e, k⟩ := h
  have e' : (asT (ev T t) ρ).bind (fun q => if q.1 = true then asT (ev T a) q.2 else asT (ev T b) q.2) = some (d, ρ') := by
    rw [← e]
    show _ = (ev T (.ite t a b) ρ).bind fun q => (truF q.1).map fun k => (k, q.2)
    rw [ev]
    cases asT (ev T t) ρ with
    | none => rfl
    | some q =>
      obtain ⟨c, ρ1⟩ := q
      cases c <;> rfl
  obtain ⟨⟨c, ρ1⟩, e1, e2⟩ := bind_some' e'
  refine ⟨F, ρ, fp, c, ρ1, rel, e1, fun F' H' fp' a1 => ?_⟩
  cases c with
  | true =>
    show tTs K (asT (ev T a)) a.quiet σ H' Q
    exact ⟨F', ρ1, fp', d, ρ', a1.rel, e2, fun F2 H2 fp2 a2 => k _ _ _ ((a1.trans a2).less fun z => by simp only [Bool.and_eq_true] at z ⊢; exact z.1)⟩
  | false =>
    show tTs K (asT (ev T b)) b.quiet σ H' Q
    exact ⟨F', ρ1, fp', d, ρ', a1.rel, e2, fun F2 H2 fp2 a2 => k _ _ _ ((a1.trans a2).less fun z => by simp only [Bool.and_eq_true] at z ⊢; exact ⟨z.1.1, z.2⟩)⟩
theorem i_tst {K : PySem.W.Frag} {σ : L2.St} {H : Hp} {q : Bool} {f : Env → Option (R × Env)} {g : Env → Option (Bool × Env)} {Q : Bool → Hp → Prop} (hf : ∀ ρ, f ρ = (g ρ).map fun q => (.bl q.1, q.2)) (h : tTs K (asT f) q σ H Q) : tE K f q σ H fun x H' => ∃ c, x = .bl c ∧ Q c H' := by
  rw [asT_bl hf] at h
  obtain ⟨F, ρ, fp, b, ρ', rel, e, k⟩ := h
  exact ⟨F, ρ, fp, .bl b, ρ', rel, by rw [hf, e]; rfl, fun v F' H' p fp' a => ⟨b, a.rep.bool, k _ _ _ (AfT.of a)⟩⟩
theorem tOp.test {K : PySem.W.Frag} {r : R2} {ta tb : TE} {σ : L2.St} {H : Hp} {Q : Bool → Hp → Prop} (h : tOp r ta tb σ H fun x H' => ∃ c, x = .bl c ∧ Q c H') : tTest (tOp r ta tb) σ H Q := h
theorem cmp_bl {o : CmpOp} {a b : E} (ρ : Env) : ev T (.cmp o a b) ρ = ((seq2 (ev T a) (ev T b) b.quiet ρ).bind fun q => (cmpF o q.1 q.2.1).map fun r => (r, q.2.2)).map fun q => (.bl q.1, q.2) := by
  rw [ev]
  cases seq2 (ev T a) (ev T b) b.quiet ρ with
  | none => rfl
  | some q =>
    simp only [Option.bind_some]
    cases cmpF o q.1 q.2.1 <;> rfl
theorem chn_bl {o p : CmpOp} {a b c : E} (ρ : Env) : ev T (.chn o p a b c) ρ = ((seq2 (ev T a) (ev T b) b.quiet ρ).bind fun q => if q.2.1.isD = true then (cmpF o q.1 q.2.1).bind fun k => if k = true then (ev T c q.2.2).bind fun z => (cmpF p q.2.1 z.1).map fun r => (r, z.2) else some (false, q.2.2) else none).map fun q => (.bl q.1, q.2) := by
  rw [ev]
  cases seq2 (ev T a) (ev T b) b.quiet ρ with
  | none => rfl
  | some q =>
    simp only [Option.bind_some]
    by_cases h : q.2.1.isD = true
    · rw [if_pos h, if_pos h]
      cases cmpF o q.1 q.2.1 with
      | none => rfl
      | some d =>
        cases d with
        | false => rfl
        | true =>
          simp only [Option.bind_some, if_true]
          cases ev T c q.2.2 with
          | none => rfl
          | some z =>
            simp only [Option.bind_some]
            cases cmpF p q.2.1 z.1 <;> rfl
    · rw [if_neg h, if_neg h]
      rfl
theorem ne_of {es : List E} (h : es.isEmpty = false) : es ≠ [] := by
  intro e
  rw [e] at h
  cases h
theorem one_two {K : PySem.W.Frag} {σ : L2.St} {H : Hp} {R' : L2.It → Hp → Prop} {a : E} (h : tI K (evIt T (.rg [a])) (quiets [a]) σ H R') : iRng1 (rA K T [a]) σ H R' :=
  rA.len (as_rA (i_rng h)) fun vs H' hl q => q.elim id fun ⟨i, j, e, _⟩ => by rw [e] at hl; simp at hl
theorem two_two {K : PySem.W.Frag} {σ : L2.St} {H : Hp} {R' : L2.It → Hp → Prop} {a b : E} (h : tI K (evIt T (.rg [a, b])) (quiets [a, b]) σ H R') : iRng2 (rA K T [a, b]) σ H R' :=
  rA.len (as_rA (i_rng h)) fun vs H' hl q => q.elim (fun ⟨j, e, _⟩ => by rw [e] at hl; simp at hl) id
theorem rg_prg (G : Good T k C X) {es : List E} {as : List Expr} {p pos : Pos} (hg : Gl X "range") (h : AllP T X es as) (hl : es.length = 1 ∨ es.length = 2) : PRg X (.Call (.Name "range" p) as [] pos) (tRg X.K T es) := by
  have hm := G.bl "range" (by decide +kernel)
  match es, as, h, hl with
  | [a], [x], h, _ =>
    intro pins s σ H Q I q
    exact prg_1 hg hm h.1.2.1 (plx_star h.1.1) pins s σ H Q I (i_rg1 q)
  | [a, b], [x, y], h, _ =>
    intro pins s σ H Q I q
    refine prg_2 hg hm h.1.2.1 h.2.1.2.1 (plx_star h.1.1) (plx_star h.2.1.1) ?_ pins s σ H Q I (i_rg2 q)
    rw [plx_star h.2.1.1]
    rfl
  | [], _, _, hl => simp at hl
  | _ :: _ :: _ :: _, _, _, hl => simp at hl
  | [_], [], h, _ => exact h.elim
  | [_], _ :: _ :: _, h, _ => exact h.2.elim
  | [_, _], [], h, _ => exact h.elim
  | [_, _], [_], h, _ => exact h.2.elim
  | [_, _], _ :: _ :: _ :: _, h, _ => exact h.2.2.elim
theorem rg_pi (G : Good T k C X) {tg : Expr} {es : List E} {as : List Expr} {p pos : Pos} (hg : Gl X "range") (h : AllP T X es as) (hl : es.length = 1 ∨ es.length = 2) : PI X tg (.Call (.Name "range" p) as [] pos) (tI X.K (evIt T (.rg es)) (quiets es)) := by
  have hm := G.bl "range" (by decide +kernel)
  match es, as, h, hl with
  | [a], [x], h, _ =>
    refine ⟨fun pins s σ H Q I q => (pi_range1 hg hm h.pa ?_).run pins s σ H Q I (one_two q)⟩
    rw [plx_star h.1.1]
    rfl
  | [a, b], [x, y], h, _ =>
    refine ⟨fun pins s σ H Q I q => (pi_range2 hg hm h.pa ?_ ?_).run pins s σ H Q I (two_two q)⟩
    · rw [plx_star h.1.1, plx_star h.2.1.1]
      rfl
    · rw [plx_star h.2.1.1]
      rfl
  | [], _, _, hl => simp at hl
  | _ :: _ :: _ :: _, _, _, hl => simp at hl
  | [_], [], h, _ => exact h.elim
  | [_], _ :: _ :: _, h, _ => exact h.2.elim
  | [_, _], [], h, _ => exact h.elim
  | [_, _], [_], h, _ => exact h.2.elim
  | [_, _], _ :: _ :: _ :: _, h, _ => exact h.2.2.elim
theorem few {a : Expr} {env : PySem.Env} {pos : Pos} (h : plx a = true) : ((backTo pos (starEach [a] env)).all (fun x => !x.1) && (backToKw pos (keywordEach [] env)).all (fun x => x.1.isSome) && decide ([a].length + ([] : List Keyword).length + (if ([] : List Keyword).isEmpty then 0 else 1) < 30)) = true := by
  rw [plx_star h]
  rfl
theorem AllP.cons_ {e : E} {es : List E} {as : List Expr} (h : AllP T X (e :: es) as) : ∃ a r, as = a :: r ∧ (plx a = true ∧ Snd T X e a) ∧ AllP T X es r := by
  cases as with
  | nil => exact h.elim
  | cons a r => exact ⟨a, r, rfl, h.1, h.2⟩
theorem AllP.nil_ {as : List Expr} (h : AllP T X [] as) : as = [] := by
  cases as with
  | nil => rfl
  | cons a r => exact h.elim
/-! ### items -/
theorem DqAll.atI {F : Hp} {vs : List V} {xs : List PyData} {i : Int} {x : PyData} (h : DqAll F vs xs) (e : L2.atI xs i = some x) : ∃ v, L2.atI vs i = some v ∧ Dq F v x := by
  unfold L2.atI at e ⊢
  obtain ⟨j, e1, e2⟩ := bind_some' e
  obtain ⟨v, e3, d⟩ := h.get e2
  exact ⟨v, by rw [h.length, e1]; exact e3, d⟩
theorem RpMs.atI {K : PySem.W.Frag} {F G : Hp} {vs : List V} {ms : List M} {fp : List Addr} {i : Int} {m : M} (h : RpMs K F G vs ms fp) (e : L2.atI ms i = some m) : ∃ v q, L2.atI vs i = some v ∧ RpM K F G v m q := by
  unfold L2.atI at e ⊢
  obtain ⟨j, e1, e2⟩ := bind_some' e
  obtain ⟨v, q, e3, d⟩ := h.get e2
  exact ⟨v, q, by rw [h.length, e1]; exact e3, d⟩
def boR : M → R := fun m => match m with | .d x => .d x | m => .bo m
theorem mk_frR {K : PySem.W.Frag} {F H : Hp} {p q : List Addr} {v : V} {m : M} (s : Same F H) (h : RpM K F F v m q) : Mkd K F H p (frR m) v F H [] := by
  cases m with
  | d x =>
    cases h with
    | d h => exact Mkd.plain s h
  | _ => exact Mkd.fr s h
theorem mk_boR {K : PySem.W.Frag} {F H : Hp} {p q : List Addr} {v : V} {m : M} (s : Same F H) (h : RpM K F H v m q) : Mkd K F H p (boR m) v F H [] := by
  cases m with
  | d x =>
    cases h with
    | d h => exact Mkd.plain s h
  | _ => exact Mkd.bo s h
theorem IxR.imp {r r' : R2} (h : IxR X r) (i : ∀ x y H Q, r' x y H Q → r x y H Q) : IxR X r' := fun a b pins s σ H x y v u Q I rx ry q hs => h a b pins s σ H x y v u Q I rx ry (i x y H Q q) hs
theorem ix_all : IxR X (rB X.K ixF) := IxR.imp ix_seq fun x y H Q h => by
  obtain ⟨F, a, b, r, p, s, hab, e, q⟩ := h
  obtain ⟨p1, p2, h1, h2, _⟩ := hab.two
  unfold ixF at e
  split at e
  · rename_i n
    have hy := h2.int
    subst hy
    split at e
    · rename_i ds
      obtain ⟨z, e1, rfl⟩ := map_some' e
      obtain ⟨hd, _⟩ := h1
      cases hd with
      | lst ha hx =>
        obtain ⟨v, e2, d⟩ := hx.atI e1
        exact .inl ⟨_, _, n, v, rfl, rfl, SqL.of (s _ _ ha), e2, q _ _ _ _ (Mkd.plain s d)⟩
    · rename_i ds
      obtain ⟨z, e1, rfl⟩ := map_some' e
      obtain ⟨hd, _⟩ := h1
      cases hd with
      | tup ha hx =>
        obtain ⟨v, e2, d⟩ := hx.atI e1
        exact .inr (.inl ⟨_, _, n, v, rfl, rfl, SqT.of (s _ _ ha), e2, q _ _ _ _ (Mkd.plain s d)⟩)
    · rename_i ms
      obtain ⟨m, e1, e2⟩ := map_some' e
      have e2' : frR m = r := e2
      subst e2'
      obtain ⟨⟨qq, z⟩, _⟩ := h1
      cases z with
      | ls ha ht =>
        obtain ⟨v, q2, e3, hm⟩ := ht.atI e1
        exact .inl ⟨_, _, n, v, rfl, rfl, SqL.of (s _ _ ha), e3, q _ _ _ _ (mk_frR s hm)⟩
    · rename_i ms
      obtain ⟨m, e1, e2⟩ := map_some' e
      have e2' : boR m = r := e2
      subst e2'
      have z : RpM X.K F H x (.ls ms) p1 := h1
      cases z with
      | ls ha ht =>
        obtain ⟨v, q2, e3, hm⟩ := ht.atI e1
        exact .inl ⟨_, _, n, v, rfl, rfl, SqL.of ha, e3, q _ _ _ _ (mk_boR s hm)⟩
    · rename_i ms
      obtain ⟨m, e1, e2⟩ := map_some' e
      have e2' : boR m = r := e2
      subst e2'
      obtain ⟨⟨qq, z⟩, _⟩ := h1
      cases z with
      | ls ha ht =>
        obtain ⟨v, q2, e3, hm⟩ := ht.atI e1
        exact .inl ⟨_, _, n, v, rfl, rfl, SqL.of ha, e3, q _ _ _ _ (mk_boR s hm)⟩
    · rename_i ds
      obtain ⟨z, e1, rfl⟩ := map_some' e
      obtain ⟨⟨qq, z⟩, _⟩ := h1
      cases z with
      | sq ha hx =>
        obtain ⟨v, e2, d⟩ := hx.atI e1
        exact .inl ⟨_, _, n, v, rfl, rfl, s.seq ha, e2, q _ _ _ _ (Mkd.plain s d)⟩
    · cases e
  · cases e
/-! ### names in a call -/
theorem kw_all {env : PySem.Env} {pos : Pos} : ∀ {kws : List Keyword} {ks : List Str}, kws.map (·.arg) = ks.map some → (backToKw pos (keywordEach kws env)).all (·.1.isSome) = true ∧ (backToKw pos (keywordEach kws env)).filterMap (·.1) = ks ∧ (backToKw pos (keywordEach kws env)).any (·.1.isNone) = false
  | [], [], _ => ⟨rfl, rfl, rfl⟩
  | ⟨n, v, p⟩ :: kws, q :: ks, h => by
    rw [List.map_cons, List.map_cons] at h
    injection h with h1 h2
    have h1' : n = some q := h1
    subst h1'
    obtain ⟨a, b, c⟩ := kw_all (kws := kws) (ks := ks) h2
    unfold backToKw at a b c ⊢
    refine ⟨?_, ?_, ?_⟩
    · show ((some q).isSome && _) = true
      rw [Option.isSome_some, Bool.true_and]
      exact a
    · show q :: _ = q :: ks
      rw [← b]
    · show ((some q).isNone || _) = false
      rw [Option.isNone_some, Bool.false_or]
      exact c
  | [], _ :: _, h => by simp at h
  | _ :: _, [], h => by simp at h
theorem vals_pick {vs : List V} {us : List Value} (h : Vals vs us) : ∀ ix : List Nat, Vals (ix.filterMap fun i => vs[i]?) (ix.filterMap fun i => us[i]?)
  | [] => .nil
  | i :: ix => by
    have ih := vals_pick h ix
    cases e : vs[i]? with
    | none =>
      have e2 := Vals.none_of h e
      simpa [List.filterMap_cons, e, e2] using ih
    | some v =>
      obtain ⟨u, e2, r⟩ := h.get e
      have z := Paired.cons r ih
      simpa [List.filterMap_cons, e, e2] using z
theorem vals_kwG {ix : List Nat} {vs zs : List V} {us ws : List Value} (h1 : Vals vs us) (h2 : Vals zs ws) : Vals (kwG ix vs zs) (kwG ix us ws) := Vals.append h1 (vals_pick h2 ix)
end
end Ev
end
section
set_option Elab.async false
set_option linter.all false
set_option maxHeartbeats 4000000
/-! The checker is right: expressions, all forms. -/
namespace Ev
open PySem PySem.Spec PyProof.Rows L2
section
variable {T : Tbl} {k : Nat}
theorem PI.imp {X : Cx} {tg iter : Expr} {t t' : TI} (h : PI X tg iter t) (i : ∀ σ H R, t' σ H R → t σ H R) : PI X tg iter t' := ⟨fun pins s σ H R I q => h.run pins s σ H R I (i σ H R q)⟩
theorem PTs.imp {X : Cx} {ifs : List Expr} {t t' : TT} (h : PTs X ifs t) (i : ∀ σ H R, t' σ H R → t σ H R) : PTs X ifs t' := ⟨fun pins s σ H R I q => h.run pins s σ H R I (i σ H R q)⟩
theorem PO.imp {X : Cx} {e : Option Expr} {t t' : TO} (h : PO X e t) (i : ∀ σ H R, t' σ H R → t σ H R) : PO X e t' := ⟨fun pins s σ H R I q => h.run pins s σ H R I (i σ H R q)⟩
theorem i_yes {K : PySem.W.Frag} {σ : L2.St} {H : Hp} {Q : Bool → Hp → Prop} (h : tTs K (evTO T none) true σ H Q) : tYes σ H Q := by
  obtain ⟨F, ρ, fp, b, ρ', rel, e, k⟩ := h
  rw [evTO] at e
  cases e
  exact k _ _ _ (AfT.refl rel true)
theorem pe_tuple_eq {X : Cx} {e : E} {a : Expr} {q : Bool} (h : PE X a (tE X.K (ev T e) q)) (hq : e.quiet = q) : PE X a (tE X.K (ev T e) e.quiet) := by rw [hq]; exact h
mutual
theorem sndE : ∀ (e : E) {C : Cs} {X : Cx} (G : Good T k C X) {a : Expr}, chkE T e C a = true → Snd T X e a
  | .nm i, C, X, G, a, h => by
    unfold chkE at h
    split at h
    · obtain ⟨h1, h2, h3, h4⟩ := G.rd_ h
      exact sndG (PE.imp (pe_var h1 h2 h3 h4) fun _ _ _ => i_nm) fun _ => rfl
    · cases h
  | .gl x i, C, X, G, a, h => by
    unfold chkE at h
    split at h
    · simp only [Bool.and_eq_true, decide_eq_true_eq] at h
      obtain ⟨⟨rfl, h2⟩, h3⟩ := h
      obtain ⟨g1, g2⟩ := G.gn_ h2
      obtain ⟨t, ht⟩ := G.gl _ _ h3
      exact sndG (PE.imp (pe_glob (v := .int i) g1 ht ⟨t, rfl⟩ g2) fun _ _ _ => i_c (fun ρ => by rw [ev]) fun F => .int i) fun _ => rfl
    · cases h
  | .int i, C, X, G, a, h => by
    unfold chkE at h
    split at h
    · rw [decide_eq_true_eq] at h
      subst h
      exact sndG (PE.imp pe_int fun _ _ _ => i_c (fun ρ => by rw [ev]) fun F => .int i) fun _ => rfl
    · cases h
  | .str i, C, X, G, a, h => by
    unfold chkE at h
    split at h
    · rw [decide_eq_true_eq] at h
      subst h
      exact sndG (PE.imp pe_str fun _ _ _ => i_c (fun ρ => by rw [ev]) fun F => .str i) fun _ => rfl
    · cases h
  | .bl i, C, X, G, a, h => by
    unfold chkE at h
    split at h
    · rw [decide_eq_true_eq] at h
      subst h
      exact sndG (PE.imp pe_bl fun _ _ _ => i_c (fun ρ => by rw [ev]) fun F => .bl i) fun _ => rfl
    · cases h
  | .non, C, X, G, a, h => by
    unfold chkE at h
    split at h
    · exact sndG (PE.imp pe_non fun _ _ _ => i_c (fun ρ => by rw [ev]) fun F => .non) fun _ => rfl
    · cases h
  | .tup es, C, X, G, a, h => by
    unfold chkE at h
    split at h
    · exact sndG (PE.imp (pe_tup (sndEs es G h).pas) fun _ _ _ => i_tup) fun _ => rfl
    · cases h
  | .lst es, C, X, G, a, h => by
    unfold chkE at h
    split at h
    · exact sndG (PE.imp (pe_lst (sndEs es G h).pas) fun _ _ _ => i_lst) fun _ => rfl
    · cases h
  | .bin o a b, C, X, G, x, h => by
    unfold chkE at h
    split at h
    · simp only [Bool.and_eq_true, decide_eq_true_eq] at h
      obtain ⟨⟨rfl, h1⟩, h2⟩ := h
      exact sndG (PE.imp (pe_op (op_bin' o) (sndE a G h1).1 (sndE b G h2).1) fun _ _ _ => i_bin) fun _ => rfl
    · cases h
  | .neg a, C, X, G, x, h => by
    unfold chkE at h
    split at h
    · exact sndG (PE.imp (pe_un un_neg' (sndE a G h).1) fun _ _ _ => i_neg) fun _ => rfl
    · cases h
  | .cmp o a b, C, X, G, x, h => by
    unfold chkE at h
    split at h
    · simp only [Bool.and_eq_true, decide_eq_true_eq] at h
      obtain ⟨⟨⟨rfl, h1⟩, h2⟩, h3⟩ := h
      have hu : X.A.units + 65 < cLine := by have := G.hu; omega
      have a1 := (sndE a G h1).1
      have b1 := (sndE b G h2).1
      exact ⟨PE.imp (pe_cmpR (op_cmp' hu o) a1 b1 (plx_beh h3)) fun _ _ _ => i_cmp, PT.imp (pt_cmpR (op_cmp' hu o) a1 b1 (plx_beh h3)) fun _ _ _ q => i_cmp (i_tst cmp_bl q)⟩
    · cases h
  | .chn o p a b c, C, X, G, x, h => by
    unfold chkE at h
    split at h
    · simp only [Bool.and_eq_true, decide_eq_true_eq] at h
      obtain ⟨⟨⟨⟨⟨rfl, rfl⟩, h1⟩, h2⟩, h3⟩, h4⟩ := h
      have hu : X.A.units + 65 < cLine := by have := G.hu; omega
      have a1 := (sndE a G h1).1
      have b1 := (sndE b G h2).1
      have c1 := (sndE c G h3).1
      have hm : ∀ o u v, plx v = true → lastMarks [o, p] [u, v] = false := fun o u v hv => plx_beh hv
      exact ⟨PE.imp (pe_chain (op_cmp' hu o) (op_cmp' hu p) a1 b1 c1 (hm _ _ _ h4)) fun _ _ _ => i_chn, PT.imp (pt_chain (op_cmp' hu o) (op_cmp' hu p) a1 b1 c1 (hm _ _ _ h4)) fun _ _ _ q => i_chn (i_tst chn_bl q)⟩
    · cases h
  | .and es, C, X, G, x, h => by
    unfold chkE at h
    split at h
    · simp only [Bool.and_eq_true, Bool.not_eq_true'] at h
      obtain ⟨h1, h2⟩ := (sndEs es G h.2).and (ne_of h.1)
      unfold Snd
      rw [ev_and, E.quiet]
      refine ⟨h1, ?_⟩
      rw [← ev_and, asT_and]
      exact h2.pt
    · cases h
  | .or es, C, X, G, x, h => by
    unfold chkE at h
    split at h
    · simp only [Bool.and_eq_true, Bool.not_eq_true'] at h
      obtain ⟨h1, h2⟩ := (sndEs es G h.2).or (ne_of h.1)
      unfold Snd
      rw [ev_or, E.quiet]
      refine ⟨h1, ?_⟩
      rw [← ev_or, asT_or]
      exact h2.pt
    · cases h
  | .not a, C, X, G, x, h => by
    unfold chkE at h
    split at h
    · obtain ⟨h1, h2⟩ := sndE a G h
      exact ⟨PE.imp (pe_not h1) fun _ _ _ => i_notV, PT.imp (pt_not h2) fun _ _ _ => i_notT⟩
    · cases h
  | .ite t a b, C, X, G, x, h => by
    unfold chkE at h
    split at h
    · simp only [Bool.and_eq_true] at h
      have h1 := sndE t G h.1.1
      have h2 := sndE a G h.1.2
      have h3 := sndE b G h.2
      exact ⟨PE.imp (pe_ifExp h1.2 h2.1 h3.1) fun _ _ _ => i_ite, PT.imp (pt_ite h1.2 h2.2 h3.2) fun _ _ _ => i_iteT⟩
    · cases h
  | .sub a b, C, X, G, x, h => by
    unfold chkE at h
    split at h
    · simp only [Bool.and_eq_true] at h
      exact sndG (PE.imp (pe_ix ix_all (sndE a G h.1.1).1 (sndE b G h.1.2).1 (plx_ix h.2)) fun _ _ _ => i_sub) fun _ => rfl
    · cases h
  | .slc a lo hi, C, X, G, x, h => by
    unfold chkE at h
    split at h
    · simp only [Bool.and_eq_true] at h
      exact sndG (PE.imp (pe_slice sl_all (sndE a G h.1.1).1 (sndO lo G h.1.2) (sndO hi G h.2)) fun _ _ _ => i_slc) fun _ => rfl
    · cases h
  | .rev a, C, X, G, x, h => by
    unfold chkE at h
    split at h
    · simp only [Bool.and_eq_true, decide_eq_true_eq] at h
      obtain ⟨rfl, h1⟩ := h
      exact sndG (PE.imp (pe_revA (sndE a G h1).1) fun _ _ _ => i_rev) fun _ => rfl
    · cases h
  | .lset a, C, X, G, x, h => by
    unfold chkE at h
    split at h
    · simp only [Bool.and_eq_true, decide_eq_true_eq] at h
      obtain ⟨⟨⟨⟨⟨rfl, rfl⟩, h1⟩, h2⟩, h3⟩, h4⟩ := h
      exact sndG (PE.imp (pe_lset (G.gn_ h1).1 (G.bl _ (by decide +kernel)) (G.gn_ h2).1 (G.bl _ (by decide +kernel)) (sndE a G h3).1 G.calm (plx_star h4)) fun _ _ _ => i_lset) fun _ => rfl
    · cases h
  | .bi f es, C, X, G, x, h => by
    unfold chkE at h
    split at h
    · simp only [Bool.and_eq_true, decide_eq_true_eq, Bool.not_eq_true'] at h
      obtain ⟨⟨⟨rfl, h1⟩, h2⟩, h3⟩ := h
      obtain ⟨g1, g2⟩ := G.gn_ h1
      have A := sndEs es G h3
      match es, h2, A with
      | e :: es, _, A =>
        obtain ⟨a, r, rfl, A1, A2⟩ := A.cons_
        exact sndG (PE.imp (bi_pe G f g1 g2 A.pas (plx_star A1.1) A2.star) fun _ _ _ => i_bi) fun _ => rfl
    · cases h
  | .lrg es, C, X, G, x, h => by
    unfold chkE at h
    split at h
    · simp only [Bool.and_eq_true, decide_eq_true_eq] at h
      obtain ⟨⟨⟨⟨⟨rfl, rfl⟩, h1⟩, h2⟩, h3⟩, h4⟩ := h
      exact sndG (PE.imp (pe_listRg G.calm (G.gn_ h1).1 (G.bl "list" (by decide +kernel)) (rg_prg G (G.gn_ h2).1 (sndEs es G h4) h3) rfl) fun _ _ _ => i_lrg) fun _ => rfl
    · cases h
  | .trg es, C, X, G, x, h => by
    unfold chkE at h
    split at h
    · simp only [Bool.and_eq_true, decide_eq_true_eq] at h
      obtain ⟨⟨⟨⟨⟨rfl, rfl⟩, h1⟩, h2⟩, h3⟩, h4⟩ := h
      exact sndG (PE.imp (pe_tupRg G.calm (G.gn_ h1).1 (G.bl "tuple" (by decide +kernel)) (rg_prg G (G.gn_ h2).1 (sndEs es G h4) h3) rfl) fun _ _ _ => i_trg) fun _ => rfl
    · cases h
  | .call f es, C, X, G, x, h => by
    unfold chkE at h
    split at h
    · simp only [Bool.and_eq_true] at h
      obtain ⟨⟨h1, h2⟩, h3⟩ := h
      split at h1
      · rename_i d hd
        simp only [Bool.and_eq_true, decide_eq_true_eq] at h1
        obtain ⟨rfl, hl⟩ := h1
        obtain ⟨g1, g2⟩ := G.gn_ h2
        obtain ⟨ad, fd, m1, m2, m3, m4, _⟩ := G.tb d (List.mem_of_getElem? hd)
        have A := sndEs es G h3
        match es, A, hl with
        | [], A, hl =>
          have ez := A.nil_
          subst ez
          exact sndG (PE.imp (pe_callG0 (E := E0') m3 G.rm G.gd g1 m1 m2 m4 (pass0' X) g2) fun _ _ _ q => i_as0 (i_call (N := E0') hd hl q)) fun _ => rfl
        | e :: es, A, hl =>
          obtain ⟨a, r, rfl, A1, A2⟩ := A.cons_
          exact sndG (PE.imp (pe_callG (E := E0') m3 G.rm G.gd g1 m1 m2 m4 (pass0' X) A.pas g2 (plx_star A1.1) A2.star) fun _ _ _ q => i_call hd hl q) fun _ => rfl
      · cases h1
    · cases h
  | .callK f j es, C, X, G, x, h => by
    unfold chkE at h
    split at h
    · rename_i y p0 as kws pos
      simp only [Bool.and_eq_true] at h
      obtain ⟨⟨h1, h2⟩, h3⟩ := h
      split at h1
      · rename_i d hd
        split at h1
        · rename_i ks hk
          simp only [Bool.and_eq_true, decide_eq_true_eq] at h1
          obtain ⟨⟨⟨rfl, hl⟩, ok⟩, hkw⟩ := h1
          obtain ⟨g1, g2⟩ := G.gn_ h2
          obtain ⟨ad, fd, m1, m2, m3, m4, m5⟩ := G.tb d (List.mem_of_getElem? hd)
          have A := sndEs es G h3
          obtain ⟨A1, A2⟩ := A.take
          obtain ⟨k1, k2, k3⟩ := kw_all (env := X.env) (pos := pos) hkw
          have l1 := A1.len
          have l2 := A2.len
          have l3 : kws.length = ks.length := by have := congrArg List.length hkw; simpa using this
          rw [List.length_map] at l2
          have go : ∀ σ H Q, tE X.K (ev T (.callK f j es)) (E.callK f j es).quiet σ H Q → _ := fun σ H Q q => by
            have q' : tE X.K (ev T (.callK f j (es.take as.length ++ es.drop as.length))) (quiets (es.take as.length ++ es.drop as.length)) σ H Q := by
              rw [List.take_append_drop]
              exact q
            exact i_callK (N := E0') hd hk (by rw [l1]; exact hl) (by rw [l2, l3]) ok q'
          have hb := m5 ks (List.mem_of_getElem? hk)
          cases as with
          | nil =>
            refine sndG (PE.imp (pe_callGK0 (E := E0') (ks := ks) (gp := fun {α} us ws => kwG (kwIx d.ps ks) us ws) m3 G.rm G.gd g1 m1 m2 vals_kwG hb (pass0' X) A2.pk k1 k2 g2 ?_) fun σ H Q q => ?_) fun _ => rfl
            · rw [k3]
              rfl
            · exact rA.len (go σ H Q q) fun vs H' _ ⟨⟨z1, z2⟩, z3⟩ => ⟨⟨z1, by simpa using z2⟩, z3⟩
          | cons a as =>
            refine sndG (PE.imp (pe_callGK (E := E0') (ks := ks) (gp := fun {α} us ws => kwG (kwIx d.ps ks) us ws) m3 G.rm G.gd g1 m1 m2 vals_kwG hb (pass0' X) A1.pa A2.pk k1 k2 g2 ?_ ?_) fun σ H Q q => go σ H Q q) fun _ => rfl
            · cases es with
              | nil => exact A1.elim
              | cons e es => exact plx_star A1.1.1
            · rw [k3, A1.star]
              rfl
        · cases h1
      · cases h1
    · cases h
  | .callM f i es, C, X, G, x, h => by
    unfold chkE at h
    split at h
    · simp only [Bool.and_eq_true] at h
      obtain ⟨⟨⟨h1, h2⟩, h3⟩, h4⟩ := h
      split at h1
      · rename_i d hd
        simp only [Bool.and_eq_true, decide_eq_true_eq] at h1
        obtain ⟨rfl, hl⟩ := h1
        obtain ⟨g1, g2⟩ := G.gn_ h2
        obtain ⟨r1, r2, r3, r4⟩ := G.rd_ h3
        obtain ⟨ad, fd, m1, m2, m3, m4, _⟩ := G.tb d (List.mem_of_getElem? hd)
        have A := sndEs es G h4
        exact sndG (PE.imp (pe_callG (E := E0') m3 G.rm G.gd g1 m1 m2 m4 (pass0' X) (pa_cons (pe_var r1 r2 r3 r4) A.pas rfl) g2 rfl A.star) fun _ _ _ q => i_callM hd hl q) fun _ => rfl
      · cases h1
    · cases h
  | .pop i, C, X, G, x, h => by
    unfold chkE at h
    split at h
    · simp only [Bool.and_eq_true, decide_eq_true_eq] at h
      obtain ⟨⟨rfl, h2⟩, h3⟩ := h
      obtain ⟨r1, r2, r3, r4⟩ := G.rd_ h2
      exact sndG (PE.imp (pe_bm0 PySem.F.plainAttrs_list PySem.F.slot_list_pop PySem.F.type_list_pop mt_pop (pe_var r1 r2 r3 r4) rfl h3) fun _ _ _ => i_pop) fun _ => rfl
    · cases h
  | .popAt i a, C, X, G, x, h => by
    unfold chkE at h
    split at h
    · simp only [Bool.and_eq_true, decide_eq_true_eq] at h
      obtain ⟨⟨⟨⟨rfl, h2⟩, h3⟩, h4⟩, h5⟩ := h
      obtain ⟨r1, r2, r3, r4⟩ := G.rd_ h2
      exact sndG (PE.imp (pe_bm PySem.F.plainAttrs_list PySem.F.slot_list_pop PySem.F.type_list_pop mt_popAt (pe_var r1 r2 r3 r4) (pa_cons (sndE a G h4).1 pa_nil (plx_star h5)) rfl (few h5) h3 (plx_star h5) rfl) fun _ _ _ => i_popAt) fun _ => rfl
    · cases h
  | .popX i a, C, X, G, x, h => by
    unfold chkE at h
    split at h
    · simp only [Bool.and_eq_true, decide_eq_true_eq] at h
      obtain ⟨⟨⟨⟨rfl, h2⟩, h3⟩, h4⟩, h5⟩ := h
      obtain ⟨r1, r2, r3, r4⟩ := G.rd_ h2
      exact sndG (PE.imp (pe_bm0 PySem.F.plainAttrs_list PySem.F.slot_list_pop PySem.F.type_list_pop mt_pop (pe_ix ix_seq (pe_var r1 r2 r3 r4) (sndE a G h4).1 (plx_ix h5)) rfl h3) fun _ _ _ => i_popX) fun _ => rfl
    · cases h
  | .comp own g it t e, C, X, G, x, h => by
    unfold chkE at h
    split at h
    · rename_i el tg iter ifs n sc pos
      simp only [Bool.and_eq_true, decide_eq_true_eq] at h
      obtain ⟨⟨⟨⟨⟨⟨⟨⟨rfl, h1⟩, h2⟩, h3⟩, h4⟩, h5⟩, h6⟩, h7⟩, h8⟩ := h
      have ok : BlkOk X.N X.env.scope sc own := by rw [G.N, G.sc]; exact blkOk_by h1
      exact sndG (PE.imp (pe_lc G.calm G.ndX (sndIt it G h5) ok (fun s H A cl fp => tg_pg (G.blk s H sc A cl fp) h6) (fun s H A cl fp => sndTO t (G.blk s H sc A cl fp) h7) (fun s H A cl fp => (sndE e (G.blk s H sc A cl fp) h8).1) (plx_fold h4))
        fun _ _ _ => i_comp h2 h3) fun _ => rfl
    · cases h
theorem sndEs : ∀ (es : List E) {C : Cs} {X : Cx} (G : Good T k C X) {as : List Expr}, chkEs T es C as = true → AllP T X es as
  | [], C, X, G, as, h => by
    unfold chkEs at h
    cases as with
    | nil => trivial
    | cons a as => cases h
  | e :: es, C, X, G, as, h => by
    unfold chkEs at h
    cases as with
    | nil => cases h
    | cons a as =>
      have h' : (chkE T e C a && plx a && chkEs T es C as) = true := h
      simp only [Bool.and_eq_true] at h'
      exact ⟨⟨h'.1.2, sndE e G h'.1.1⟩, sndEs es G h'.2⟩
theorem sndO : ∀ (o : Option E) {C : Cs} {X : Cx} (G : Good T k C X) {a : Option Expr}, chkO T o C a = true → PO X a (tO X.K (evO T o) (quietO o))
  | none, C, X, G, a, h => by
    unfold chkO at h
    cases a with
    | none => exact PO.imp po_none fun _ _ _ => i_o0
    | some a => cases h
  | some e, C, X, G, a, h => by
    unfold chkO at h
    cases a with
    | none => cases h
    | some a => exact PO.imp (po_some (sndE e G h).1) fun _ _ _ => i_o1
theorem sndTO : ∀ (o : Option E) {C : Cs} {X : Cx} (G : Good T k C X) {as : List Expr}, chkTO T o C as = true → PTs X as (tTs X.K (evTO T o) (quietO o))
  | none, C, X, G, as, h => by
    unfold chkTO at h
    cases as with
    | nil => exact PTs.imp pts_nil fun _ _ _ => i_yes
    | cons a as => cases h
  | some e, C, X, G, as, h => by
    unfold chkTO at h
    split at h
    · exact PTs.imp (pts_one (sndE e G h).2) fun _ _ _ q => q
    · cases h
theorem sndIt : ∀ (it : It) {C : Cs} {X : Cx} (G : Good T k C X) {tg a : Expr}, chkIt T it C tg a = true → PI X tg a (tI X.K (evIt T it) it.quiet)
  | .e a, C, X, G, tg, x, h => by
    unfold chkIt at h
    exact PI.imp (pi_seq (sndE a G h).1) fun _ _ _ => i_itE
  | .rg es, C, X, G, tg, x, h => by
    unfold chkIt at h
    split at h
    · simp only [Bool.and_eq_true, decide_eq_true_eq] at h
      obtain ⟨⟨⟨rfl, h2⟩, h3⟩, h4⟩ := h
      exact rg_pi G (G.gn_ h2).1 (sndEs es G h4) h3
    · cases h
  | .enum a, C, X, G, tg, x, h => by
    unfold chkIt at h
    split at h
    · simp only [Bool.and_eq_true, decide_eq_true_eq] at h
      obtain ⟨⟨⟨rfl, h2⟩, h3⟩, h4⟩ := h
      exact PI.imp (pi_enum (G.gn_ h2).1 (G.bl "enumerate" (by decide +kernel)) (pa_cons (sndE a G h3).1 pa_nil (plx_star h4)) (by rw [plx_star h4]; rfl)) fun _ _ _ => i_enum
    · cases h
  | .zip a b, C, X, G, tg, x, h => by
    unfold chkIt at h
    split at h
    · simp only [Bool.and_eq_true, decide_eq_true_eq] at h
      obtain ⟨⟨⟨⟨⟨rfl, h2⟩, h3⟩, h4⟩, h5⟩, h6⟩ := h
      refine PI.imp (RZ.pi_zipA (G.gn_ h2).1 (G.bl "zip" (by decide +kernel)) (pa_cons (sndE a G h3).1 (pa_cons (sndE b G h5).1 pa_nil (plx_star h6)) (plx_star h4)) (plx_star h4) ?_) fun _ _ _ => i_zip
      rw [plx_star h6]
      rfl
    · cases h
end
end
end Ev
end
section
set_option Elab.async false
set_option linter.all false
set_option maxHeartbeats 4000000
/-! Statements: the checker, and that it is right. -/
namespace Ev
open PySem PySem.Spec PyProof.Rows L2
def noComp : Expr → Bool
  | .ListComp _ _ _ _ | .SetComp _ _ _ _ | .DictComp _ _ _ _ _ => false
  | _ => true
def noTup : Expr → Bool
  | .Tuple _ _ _ => false
  | _ => true
/-- a list comprehension whose list goes to the local y on its own row -/
def swL (sc : Scope) (y : Str) (p : Pos) : Expr → Bool
  | .ListComp _ _ s q => decide (sc.names.lookup y = some .local) && (p.line == q.line) && !(s.names.any fun z => z.1 == y && (z.2 == .local || z.2 == .cell))
  | _ => false
/-- two locals stored crosswise -/
def par2 (sc : Scope) (x y : Str) (px py : Pos) (vs : List Expr) : Bool :=
  decide (sc.names.lookup x = some .local) && decide (sc.names.lookup y = some .local) && (px.line == py.line) && !(x == y) && decide (vs.length = 2) && !(vs.all (foldedForSure 8)) && !(vs.all (constantsAlone 8)) && vs.all plx
def isNameOf (sc : Scope) (l : Nat) : Expr → Bool
  | .Name x p => decide (sc.names.lookup x = some .local) && (p.line == l)
  | _ => false
/-- not stored crosswise -/
def parN (sc : Scope) (ts vs : List Expr) : Bool := !(ts.length == 2 || ts.length == 3) || ts.any (fun t => !isNameOf sc ((ts.head?.map (·.pos.line)).getD 0) t) || vs.all (foldedForSure 8)
section
variable (T : Tbl)
mutual
def chkS : S → Cs → Stmt → Bool
  | .set i e, C, x => match x with | .Assign [.Name y p] v _ => C.wr i y && chkE T e C v && (noComp v || match e with | .comp _ _ _ _ _ => true | _ => false) | _ => false
  | .mov i j, C, x => match x with | .Assign [.Name y _] (.Name z _) _ => C.wr i y && C.rd j z | _ => false
  | .par is es, C, x => match x with
    | .Assign [.Tuple ts _ _] (.Tuple vs _ _) _ => chkEs T es C vs && chkTg C (.tup is) (.Tuple ts 0 ⟨0, 0, 0, 0⟩) && decide (es.length ≤ 100) &&
        (parN C.sc ts vs || match is, ts with
          | [i, j], [.Name a pa, .Name b pb] => decide (i ≠ j) && par2 C.sc a b pa pb vs
          | _, _ => false)
    | _ => false
  | .unp g e, C, x => match g, x with
    | .tup is, .Assign [.Tuple ts k p] v _ => chkTg C (.tup is) (.Tuple ts k p) && chkE T e C v && noTup v && noComp v
    | _, _ => false
  | .ex e, C, x => match x with | .Expr v _ => chkE T e C v && noComp v | _ => false
  | .app i e, C, x => match x with | .Expr (.Call (.Attribute (.Name y _) m ap) [u] [] cp) _ => decide (m = "append") && C.rd i y && (ap.endLine == cp.line) && chkE T e C u && plx u | _ => false
  | .appX i a e, C, x => match x with | .Expr (.Call (.Attribute (.Subscript (.Name y _) w _) m ap) [u] [] cp) _ => decide (m = "append") && C.rd i y && (ap.endLine == cp.line) && chkE T a C w && plx w && chkE T e C u && plx u | _ => false
  | .ext i e, C, x => match x with | .Expr (.Call (.Attribute (.Name y _) m ap) [u] [] cp) _ => decide (m = "extend") && C.rd i y && (ap.endLine == cp.line) && chkE T e C u && plx u | _ => false
  | .setS i a e, C, x => match x with | .Assign [.Subscript (.Name y _) u _] v _ => C.rd i y && chkE T a C u && plx u && chkE T e C v | _ => false
  | .setSS i a b e, C, x => match x with | .Assign [.Subscript (.Subscript (.Name y _) u _) w _] v _ => C.rd i y && chkE T a C u && plx u && chkE T b C w && plx w && chkE T e C v | _ => false
  | .parS i a b e f, C, x => match x with
    | .Assign [.Tuple [.Subscript (.Name y _) u _, .Subscript (.Name z _) w _] _ _] (.Tuple [v1, v2] _ _) _ => C.rd i y && C.rd i z && chkE T a C u && plx u && chkE T b C w && plx w && chkEs T [e, f] C [v1, v2]
    | _ => false
  | .ret e, C, x => match x with | .Return (some v) _ => chkE T e C v | _ => false
  | .retO i, C, x => match x with | .Return (some (.Name y _)) _ => C.rd i y | _ => false
  | .ite t a b, C, x => match x with | .If c u w _ => chkE T t C c && chkSs a C u && chkSs b C w | _ => false
  | .for_ g it b, C, x => match x with | .For tg iter body [] _ => chkIt T it C tg iter && plx iter && chkTg C g tg && chkSs b C body | _ => false
  | .whl t b, C, x => match x with | .While c body [] _ => chkE T t C c && chkSs b C body | _ => false
  | .pass, C, x => match x with | .Pass _ => true | _ => false
  | .fz i, C, x => false
def chkSs : List S → Cs → List Stmt → Bool
  | [], C, xs => xs.isEmpty
  | s :: ss, C, xs => match s with
    | .fz _ => chkSs ss C xs
    | s => match xs with | x :: r => chkS s C x && chkSs ss C r | [] => false
end
end
/-! ### the stores' order -/
theorem sw_no {v : Expr} {tg : Option Expr} {l : Nat} {env : PySem.Env} (h : noComp v = true) : swapsWith v tg l env = pure false := by
  cases v <;> first | rfl | cases h
theorem sw_tup {v : Expr} {ts : List Expr} {k l : Nat} {p : Pos} {env : PySem.Env} : swapsWith v (some (.Tuple ts k p)) l env = pure false := by
  cases v <;> rfl
theorem sw_sub {v a b : Expr} {l : Nat} {p : Pos} {env : PySem.Env} : swapsWith v (some (.Subscript a b p)) l env = pure false := by
  cases v <;> rfl
theorem ss_sub {v a b : Expr} {p : Pos} {env : PySem.Env} : swappedStores [.Subscript a b p] v env = pure none := by
  cases v <;> rfl
theorem ss_noTup {v : Expr} {ts : List Expr} {k : Nat} {p : Pos} {env : PySem.Env} (h : noTup v = true) : swappedStores [.Tuple ts k p] v env = pure none := by
  cases v <;> first | rfl | cases h
theorem fm_all {α β : Type} {f : α → Option β} : ∀ {l : List α}, (l.filterMap f).length = l.length → ∀ x ∈ l, (f x).isSome = true
  | [], _, x, m => absurd m (by simp)
  | a :: l, h, x, m => by
    have le := List.length_filterMap_le f l
    rw [List.filterMap_cons] at h
    cases e : f a with
    | none =>
      rw [e] at h
      simp only [List.length_cons] at h
      omega
    | some b =>
      rw [e] at h
      simp only [List.length_cons] at h
      rcases List.mem_cons.mp m with rfl | m
      · rw [e]; rfl
      · exact fm_all (by omega) x m
theorem ss_no {ts vs : List Expr} {k k2 : Nat} {p p2 : Pos} {env : PySem.Env} (h : parN env.scope ts vs = true) : swappedStores [.Tuple ts k p] (.Tuple vs k2 p2) env = pure none := by
  unfold swappedStores
  simp only []
  unfold parN at h
  split
  · rfl
  · rename_i c1
    split
    · rfl
    · split
      · rfl
      · rename_i c3
        split
        · rfl
        · rename_i c4
          exfalso
          simp only [Bool.or_eq_true, Bool.not_eq_true', not_or] at h c1 c3
          rcases h with (h | h) | h
          · exact c1.1.1 h
          · have hl := c3.1
            obtain ⟨t, m, ht⟩ := List.any_eq_true.mp h
            have z := fm_all (Classical.not_not.mp fun n => hl (bne_iff_ne.mpr n)) t m
            have : isNameOf env.scope ((Option.map (fun x => x.pos.line) ts.head?).getD 0) t = true := by
              cases t <;> first | (cases z; done) | skip
              rename_i x px
              unfold isNameOf
              dsimp only at z
              split at z
              · rename_i cc
                have hk : env.kindOf x = env.scope.names.lookup x := rfl
                rw [hk, Bool.and_eq_true] at cc
                rw [Bool.and_eq_true, decide_eq_true_eq]
                exact ⟨by simpa using cc.1, cc.2⟩
              · cases z
            rw [this] at ht
            cases ht
          · exact c4 h
theorem ss_two {a b : Str} {pa pb pt p2 : Pos} {vs : List Expr} {kt k2 : Nat} {env : PySem.Env} (hk : env.scope.kind = .function) (h : par2 env.scope a b pa pb vs = true) : swappedStores [.Tuple [.Name a pa, .Name b pb] kt pt] (.Tuple vs k2 p2) env = pure (some [a, b]) := by
  unfold par2 at h
  simp only [Bool.and_eq_true, Bool.not_eq_true', decide_eq_true_eq] at h
  obtain ⟨⟨⟨⟨⟨⟨⟨h1, h2⟩, h3⟩, h4⟩, h5⟩, h6⟩, h7⟩, h8⟩ := h
  have hb : env.blockKind = .function := by unfold Env.blockKind; rw [hk]; rfl
  have k1 : env.kindOf a = some .local := h1
  have k2' : env.kindOf b = some .local := h2
  have h3' : (pb.line == pa.line) = true := by rw [beq_iff_eq] at h3 ⊢; exact h3.symm
  have hab : a ≠ b := by simpa using h4
  unfold swappedStores
  simp only []
  have e2 : ([a, b] : List Str).eraseDups.length = 2 := by
    have : (b == a) = false := by simpa using Ne.symm hab
    simp [List.eraseDups_cons, this]
  have l0 : (Option.map (fun x : Expr => x.pos.line) ([Expr.Name a pa, Expr.Name b pb]).head?).getD 0 = pa.line := rfl
  rw [l0]
  simp only [List.filterMap_cons, List.filterMap_nil, k1, k2', h3', beq_self_eq_true, Bool.and_self, if_true, hb, h5, e2, h6, h7, List.length_cons, List.length_nil]
  rw [if_neg (by decide)]
  split
  · rename_i c
    obtain ⟨x, m, hx⟩ := List.any_eq_true.mp c
    have := List.all_eq_true.mp h8 x m
    cases x <;> first | (cases this; done) | (cases hx; done)
  · rfl
theorem sw_lc {el : Expr} {gs : List Comprehension} {s : Scope} {q p : Pos} {y : Str} {l : Nat} {env : PySem.Env} (h : swL env.scope y p (.ListComp el gs s q) = false) : swapsWith (.ListComp el gs s q) (some (.Name y p)) l env = pure false := by
  have e : swapsWith (.ListComp el gs s q) (some (.Name y p)) l env = pure ((env.blockKind == .function) && (env.kindOf y == some .local) && (p.line == q.line) && !(s.names.any fun z => z.1 == y && (z.2 == .local || z.2 == .cell))) := rfl
  rw [e]
  congr 1
  unfold swL at h
  have hk : env.kindOf y = env.scope.names.lookup y := rfl
  rw [hk]
  by_cases hl : env.scope.names.lookup y = some .local
  · rw [hl] at h ⊢
    cases h1 : (p.line == q.line) <;> cases h2 : (s.names.any fun z => z.1 == y && (z.2 == .local || z.2 == .cell)) <;> simp_all
  · have : (env.scope.names.lookup y == some .local) = false := by simpa using hl
    rw [this]
    simp
end Ev
end
section
set_option Elab.async false
set_option linter.all false
set_option maxHeartbeats 4000000
/-! The checker is right: statements. -/
namespace Ev
open PySem PySem.Spec PyProof.Rows L2
section
variable {T : Tbl} {k : Nat} {C : Cs} {X : Cx}
theorem ps_of (G : Good T k C X) {i : Nat} {a : E} {y : Str} {py pos : Pos} {v : Expr} (hy : C.wr i y = true) (h : PE X v (tE X.K (ev T a) a.quiet)) (hs : swapsWith v (some (.Name y py)) pos.line X.env = pure false) : PS X (.Assign [.Name y py] v pos) (tS X.K (exec T (.set i a)) (i != 0)) := by
  obtain ⟨w1, w2, w3⟩ := G.wr_ hy
  exact PS.imp (ps_set G.ndX w1 w2 h hs w3) fun _ _ _ => i_set
/-- y = [..] -/
theorem ps_comp (G : Good T k C X) (hk : C.sc.kind = .function) {i : Nat} {own : List (Str × Nat)} {g : Tg} {it : It} {t : Option E} {e : E} {y : Str} {py pos : Pos} {v : Expr} (hy : C.wr i y = true) (h : chkE T (.comp own g it t e) C v = true) :
    PS X (.Assign [.Name y py] v pos) (tS X.K (exec T (.set i (.comp own g it t e))) (i != 0)) := by
  have snd := (sndE (.comp own g it t e) G h).1
  unfold chkE at h
  split at h
  · rename_i el tg iter ifs n sc p2
    simp only [Bool.and_eq_true, decide_eq_true_eq] at h
    obtain ⟨⟨⟨⟨⟨⟨⟨⟨rfl, h1⟩, h2⟩, h3⟩, h4⟩, h5⟩, h6⟩, h7⟩, h8⟩ := h
    have ok : BlkOk X.N X.env.scope sc own := by rw [G.N, G.sc]; exact blkOk_by h1
    cases hsw : swL X.env.scope y py (.ListComp el [⟨tg, iter, ifs, 0⟩] sc p2) with
    | false => exact ps_of G hy snd (sw_lc hsw)
    | true =>
      obtain ⟨w1, w2, w3⟩ := G.wr_ hy
      unfold swL at hsw
      simp only [Bool.and_eq_true, decide_eq_true_eq, Bool.not_eq_true'] at hsw
      obtain ⟨⟨q1, q2⟩, q3⟩ := hsw
      have hkX : X.env.scope.kind = .function := by rw [G.sc]; exact hk
      refine PS.imp (ps_setLc G.calm G.ndX w1 q1 (sw_true hkX q1 q2 q3) (sndIt it G h5) ok (fun s H A cl fp => tg_pg (G.blk s H sc A cl fp) h6) (fun s H A cl fp => sndTO t (G.blk s H sc A cl fp) h7) (fun s H A cl fp => (sndE e (G.blk s H sc A cl fp) h8).1) (plx_fold h4))
        fun D σ H q => i_comp h2 h3 (i_set q)
  · cases h
theorem sws_tup {v : Expr} {ts : List Expr} {k l : Nat} {p : Pos} {env : PySem.Env} : swapsWithSole [.Tuple ts k p] v l env = pure false := by cases v <;> rfl
theorem sws_sub {v a b : Expr} {l : Nat} {p : Pos} {env : PySem.Env} : swapsWithSole [.Subscript a b p] v l env = pure false := by cases v <;> rfl
mutual
theorem sndS : ∀ (s : S) {C : Cs} {X : Cx} (G : Good T k C X) (hk : C.sc.kind = .function) (hp : PassesOwn (model X.prog X.w) X.A X.env X.xe) {x : Stmt}, chkS T s C x = true → PS X x (tS X.K (exec T s) s.no0)
  | .set i e, C, X, G, hk, hp, x, h => by
    unfold chkS at h
    split at h
    · simp only [Bool.and_eq_true, Bool.or_eq_true] at h
      obtain ⟨⟨h1, h2⟩, h3⟩ := h
      show PS X _ (tS X.K (exec T (.set i e)) (i != 0))
      rcases h3 with h3 | h3
      · exact ps_of G h1 (sndE e G h2).1 (sw_no h3)
      · cases e <;> first | (cases h3; done) | exact ps_comp G hk h1 h2
    · cases h
  | .mov i j, C, X, G, hk, hp, x, h => by
    unfold chkS at h
    split at h
    · simp only [Bool.and_eq_true] at h
      obtain ⟨w1, w2, w3⟩ := G.wr_ h.1
      obtain ⟨r1, r2, r3, r4⟩ := G.rd_ h.2
      exact PS.imp (ps_set G.ndX w1 w2 (pe_var r1 r2 r3 r4) rfl w3) fun _ _ _ => i_mov
    · cases h
  | .par is es, C, X, G, hk, hp, x, h => by
    unfold chkS at h
    split at h
    · rename_i ts kt pt vs k2 p2 pos
      simp only [Bool.and_eq_true, Bool.or_eq_true, decide_eq_true_eq] at h
      obtain ⟨⟨⟨h1, h2⟩, h3⟩, h4⟩ := h
      have A := sndEs es G h1
      have hs : es.length ≤ sizeLine := by rw [sizeLine_eq]; omega
      rcases h4 with h4 | h4
      · have pg : PG X (.Tuple ts kt pt) (gTup X.K is.length (gNs is)) := by
          obtain ⟨z1, z2, z3⟩ := wrs_ok G (is := is) (as := ts) h2
          exact pg_tup G.calm z1 z2 z3
        exact PS.imp (ps_asg (pe_tup A.pas) pg rfl (ss_no (by rw [G.sc]; exact h4)) rfl) fun _ _ _ q => i_parT q hs
      · split at h4
        · rename_i i j a pa b pb
          simp only [Bool.and_eq_true, decide_eq_true_eq] at h4
          obtain ⟨hij, h5⟩ := h4
          have hp2 := h5
          unfold par2 at h5
          simp only [Bool.and_eq_true, Bool.not_eq_true', decide_eq_true_eq] at h5
          obtain ⟨⟨⟨⟨⟨⟨⟨q1, q2⟩, q3⟩, q4⟩, q5⟩, q6⟩, q7⟩, q8⟩ := h5
          have hw : (C.wr i a && (C.wr j b && true)) = true := h2
          simp only [Bool.and_eq_true] at hw
          obtain ⟨w1, w2, w3⟩ := G.wr_ hw.1
          obtain ⟨u1, u2, u3⟩ := G.wr_ hw.2.1
          match vs, q5, A with
          | [va, vb], _, A =>
            refine PS.imp (ps_par G.calm G.ndX w1 u1 hij (by rw [G.sc]; exact q1) (by rw [G.sc]; exact q2) A.pas (ss_two (by rw [G.sc]; exact hk) (by rw [G.sc]; exact hp2)) rfl) fun D σ H q => ?_
            obtain ⟨F, ρ, fp, rs, ρ', rel, e, kk⟩ := i_par q
            refine ⟨F, ρ, fp, rs, ρ', rel, e, fun us F' H' p fp' a => ?_⟩
            obtain ⟨hl, z⟩ := kk us F' H' p fp' a
            match us, hl, z with
            | [v, w], _, z => exact ⟨v, w, rfl, z⟩
        · cases h4
    · cases h
  | .unp g e, C, X, G, hk, hp, x, h => by
    unfold chkS at h
    split at h
    · simp only [Bool.and_eq_true] at h
      obtain ⟨⟨⟨h1, h2⟩, h3⟩, h4⟩ := h
      exact PS.imp (ps_asg (sndE e G h2).1 (tg_pg G h1) sws_tup (ss_noTup h3) rfl) fun _ _ _ => i_unp
    · cases h
  | .ex e, C, X, G, hk, hp, x, h => by
    unfold chkS at h
    split at h
    · simp only [Bool.and_eq_true] at h
      exact PS.imp (ps_expr (sndE e G h.1).1 (sw_no h.2)) fun _ _ _ => i_ex
    · cases h
  | .app i e, C, X, G, hk, hp, x, h => by
    unfold chkS at h
    split at h
    · simp only [Bool.and_eq_true, decide_eq_true_eq] at h
      obtain ⟨⟨⟨⟨rfl, h2⟩, h3⟩, h4⟩, h5⟩ := h
      obtain ⟨r1, r2, r3, r4⟩ := G.rd_ h2
      exact PS.imp (ps_expr (pe_bm PySem.F.plainAttrs_list PySem.F.slot_list_append PySem.F.type_list_append mt_append (pe_var r1 r2 r3 r4) (pa_cons (sndE e G h4).1 pa_nil (plx_star h5)) rfl (few h5) h3 (plx_star h5) rfl) rfl) fun _ _ _ => i_app
    · cases h
  | .appX i a e, C, X, G, hk, hp, x, h => by
    unfold chkS at h
    split at h
    · simp only [Bool.and_eq_true, decide_eq_true_eq] at h
      obtain ⟨⟨⟨⟨⟨⟨rfl, h2⟩, h3⟩, h4⟩, h5⟩, h6⟩, h7⟩ := h
      obtain ⟨r1, r2, r3, r4⟩ := G.rd_ h2
      exact PS.imp (ps_expr (pe_bm PySem.F.plainAttrs_list PySem.F.slot_list_append PySem.F.type_list_append mt_append (pe_ix ix_seq (pe_var r1 r2 r3 r4) (sndE a G h4).1 (plx_ix h5)) (pa_cons (sndE e G h6).1 pa_nil (plx_star h7)) rfl (few h7) h3 (plx_star h7) rfl) rfl) fun _ _ _ => i_appX
    · cases h
  | .ext i e, C, X, G, hk, hp, x, h => by
    unfold chkS at h
    split at h
    · simp only [Bool.and_eq_true, decide_eq_true_eq] at h
      obtain ⟨⟨⟨⟨rfl, h2⟩, h3⟩, h4⟩, h5⟩ := h
      obtain ⟨r1, r2, r3, r4⟩ := G.rd_ h2
      exact PS.imp (ps_expr (pe_bm PySem.F.plainAttrs_list PySem.F.slot_list_extend PySem.F.type_list_extend mt_extend (pe_var r1 r2 r3 r4) (pa_cons (sndE e G h4).1 pa_nil (plx_star h5)) rfl (few h5) h3 (plx_star h5) rfl) rfl) fun _ _ _ => i_ext
    · cases h
  | .setS i a e, C, X, G, hk, hp, x, h => by
    unfold chkS at h
    split at h
    · simp only [Bool.and_eq_true] at h
      obtain ⟨⟨⟨h1, h2⟩, h3⟩, h4⟩ := h
      obtain ⟨r1, r2, r3, r4⟩ := G.rd_ h1
      exact PS.imp (ps_asg (sndE e G h4).1 (pg_sub (pe_var r1 r2 r3 r4) (sndE a G h2).1 set_list (plx_asg h3)) sws_sub ss_sub rfl) fun _ _ _ => i_setS
    · cases h
  | .setSS i a b e, C, X, G, hk, hp, x, h => by
    unfold chkS at h
    split at h
    · simp only [Bool.and_eq_true] at h
      obtain ⟨⟨⟨⟨⟨h1, h2⟩, h3⟩, h4⟩, h5⟩, h6⟩ := h
      obtain ⟨r1, r2, r3, r4⟩ := G.rd_ h1
      exact PS.imp (ps_asg (sndE e G h6).1 (pg_sub (pe_ix ix_seq (pe_var r1 r2 r3 r4) (sndE a G h2).1 (plx_ix h3)) (sndE b G h4).1 set_list (plx_asg h5)) sws_sub ss_sub rfl) fun _ _ _ => i_setSS
    · cases h
  | .parS i a b e f, C, X, G, hk, hp, x, h => by
    unfold chkS at h
    split at h
    · rename_i y p0 u p1 z p3 w p4 kt pt v1 v2 k2 p2 pos
      simp only [Bool.and_eq_true] at h
      obtain ⟨⟨⟨⟨⟨⟨h1, h1'⟩, h2⟩, h3⟩, h4⟩, h5⟩, h6⟩ := h
      obtain ⟨r1, r2, r3, r4⟩ := G.rd_ h1
      obtain ⟨t1, t2, t3, t4⟩ := G.rd_ h1'
      have A := sndEs [e, f] G h6
      have pg : PG X (.Tuple [.Subscript (.Name y p0) u p1, .Subscript (.Name z p3) w p4] kt pt) (gTup X.K 2 (gCons (gSub (tVar i) (tE X.K (ev T a) a.quiet) rSetL) (gCons (gSub (tVar i) (tE X.K (ev T b) b.quiet) rSetL) gNil))) :=
        pg_tup G.calm (pgs_cons (pg_sub (pe_var r1 r2 r3 r4) (sndE a G h2).1 set_list (plx_asg h3)) (pgs_cons (pg_sub (pe_var t1 t2 t3 t4) (sndE b G h4).1 set_list (plx_asg h5)) pgs_nil rfl) rfl) rfl rfl
      exact PS.imp (ps_asg (pe_tup A.pas) pg rfl (ss_no rfl) rfl) fun _ _ _ => i_parS
    · cases h
  | .ret e, C, X, G, hk, hp, x, h => by
    unfold chkS at h
    split at h
    · exact PS.imp (ps_ret (sndE e G h).1) fun _ _ _ => i_ret
    · cases h
  | .retO i, C, X, G, hk, hp, x, h => by
    unfold chkS at h
    split at h
    · obtain ⟨r1, r2, r3, r4⟩ := G.rd_ h
      exact PS.imp (ps_ret (pe_var r1 r2 r3 r4)) fun _ _ _ => i_retO
    · cases h
  | .ite t a b, C, X, G, hk, hp, x, h => by
    unfold chkS at h
    split at h
    · simp only [Bool.and_eq_true] at h
      exact PS.imp (ps_if (sndE t G h.1.1).2 (sndSs a G hk hp h.1.2) (sndSs b G hk hp h.2)) fun _ _ _ => i_if
    · cases h
  | .for_ g it b, C, X, G, hk, hp, x, h => by
    unfold chkS at h
    split at h
    · simp only [Bool.and_eq_true] at h
      obtain ⟨⟨⟨h1, h2⟩, h3⟩, h4⟩ := h
      exact PS.imp (ps_for hp G.calm (sndIt it G h1) (tg_pg G h3) (sndSs b G hk hp h4) (plx_fold h2)) fun _ _ _ => i_for
    · cases h
  | .whl t b, C, X, G, hk, hp, x, h => by
    unfold chkS at h
    split at h
    · simp only [Bool.and_eq_true] at h
      exact PS.imp (ps_while hp (sndE t G h.1).2 (sndSs b G hk hp h.2)) fun _ _ _ => i_whl
    · cases h
  | .pass, C, X, G, hk, hp, x, h => by
    unfold chkS at h
    split at h
    · exact PS.imp ps_pass fun _ _ _ => i_pass
    · cases h
  | .fz i, C, X, G, hk, hp, x, h => by
    unfold chkS at h
    cases h
theorem sndSs : ∀ (ss : List S) {C : Cs} {X : Cx} (G : Good T k C X) (hk : C.sc.kind = .function) (hp : PassesOwn (model X.prog X.w) X.A X.env X.xe) {xs : List Stmt}, chkSs T ss C xs = true → PSs X xs (tS X.K (execs T ss) (no0s ss))
  | [], C, X, G, hk, hp, xs, h => by
    unfold chkSs at h
    cases xs with
    | nil => exact PSs.imp pss_nil fun _ _ _ => i_nilS
    | cons a as => cases h
  | s :: ss, C, X, G, hk, hp, xs, h => by
    unfold chkSs at h
    split at h
    · exact PSs.imp (sndSs ss G hk hp h) fun _ _ _ => i_fz
    · cases xs with
      | nil => cases h
      | cons x r =>
        simp only [Bool.and_eq_true] at h
        exact PSs.imp (pss_cons (sndS s G hk hp h.1) (sndSs ss G hk hp h.2)) fun _ _ _ => i_seq
end
end
end Ev
end
section
set_option Elab.async false
set_option linter.all false
set_option maxHeartbeats 4000000
/-! A def keeps what its IR says; the end of a law. -/
namespace Ev
open PySem PySem.Spec PyProof.Rows L2
section
variable {P : Program} {w : World} {K : PySem.W.Frag} {mg : Str → Option Value} {base : Heap}
/-- a def of the text, by its body (no repr under way) -/
theorem fnG_of {k : Nat} {f : Addr} {x qual : Str} {params : Arguments} {body : List Stmt} {scope : Scope} {kws : List (Str × V)} {dvs : List V} {fd : FuncData} {N ps : List Str} {sp : Sp} (D : FunD K x qual params body scope dvs kws f fd) (S : FnScope N ps scope)
    (len : ∀ vs H Q E, sp vs H Q E → vs.length = ps.length)
    (hbody : ∀ (cdv : Value) (A : Around) (outer : List PySem.Env) (s : Shared) (H : Hp) (vs : List V) (Q : VK) (E : XK), Room k (A.deeper (envOfC qual scope s.heap.objs.size f cdv)) → A.guards = some [] → sp vs H Q E →
      ∃ t, PSs (cxOf (L2.CX P w) P w K mg base N qual scope f cdv A outer s H E) body t ∧ t { nx := fun _ H' => Q .non H', rt := Q } (L2.start N vs) H) : FnG P w K mg base (k + 1) f fd ps sp := by
  obtain ⟨oc, od, dV, kV, doc, pm, an, cdv, ct, osl, rfl, lk, hcd, _, _⟩ := D.ex
  refine ⟨len, fun A outer s H args us vs Q E hr e0 hb r hsp => ?_⟩
  have KX : K.In s.heap := e0.mod.kin.keeps fun b o e => (e0.bs b o e).1
  have lim : s.heap.NoLimit := e0.mod.nolimit.keeps fun b o e => (e0.bs b o e).1
  refine codeAny_call_function hr.1.depth (KX _ _ lk) rfl S.co S.gen rfl (PySem.W.codeRec_of KX hcd) (hb _ _ _ _ (wpAny_newFunctionEnv_cells S.kind (fun ⟨n, v⟩ hy => ?_) fun env he s1 z => ?_))
  · rcases S.par n (List.of_mem_zip hy).1 with q | q
    · exact .inl q
    · exact .inr ⟨q, PySem.W.cellsFrom_some _ _ _ (.inl q)⟩
  subst he
  obtain ⟨t, ht, hq⟩ := hbody cdv A outer s H vs Q E (hr.1.deeper _) hr.2 hsp
  have I : Inv (cxOf (L2.CX P w) P w K mg base N qual scope f cdv A outer s H E) [] (L2.start N vs) H s1 := inv_start S hr.1.hd e0 (len _ _ _ _ hsp) r z
  refine ⟨lim.keeps z.toInCall.keep, codeAny_func (wpAny_mono (ht.run [] s1 (L2.start N vs) H _ I hq) (fun fl s' hs => ?_) fun e s' hs => hs)⟩
  cases fl with
  | ret u =>
    obtain ⟨v, σ', H', J, rv, q⟩ := hs
    exact ⟨v, H', J.os, J.bare, J.base, J.hok, rv, q⟩
  | next =>
    obtain ⟨σ', H', J, q⟩ := hs
    exact ⟨V.non, H', J.os, J.bare, J.base, J.hok, rfl, q⟩
  | brk => exact hs.elim fun _ z => z.elim fun _ z => z.2.elim
  | cont => exact hs.elim fun _ z => z.elim fun _ z => z.2.elim
/-! ### the slots at the entry -/
theorem RpE.pad {F H : Hp} : ∀ {σ : L2.St} {ρ : Env} {fp : List Addr} (n : Nat), RpE K F H σ ρ fp → RpE K F H (σ ++ List.replicate n none) (ρ ++ List.replicate n .no) fp
  | _, _, _, 0, .nil => .nil
  | _, _, _, n + 1, .nil => .no (RpE.pad (σ := []) (ρ := []) n .nil)
  | _, _, _, n, .no t => .no (RpE.pad n t)
  | _, _, _, n, .sm h ok t => .sm h ok (RpE.pad n t)
/-- what the body says is what the def says -/
theorem body_ok {T : Tbl} {N : List Str} {b : List S} {io : Bool} {n : Nat} (hio : io = true → no0s b = true) {vs : List V} {H : Hp} {Q : VK} {E : XK} (h : spG K n io (evDef T N.length b) vs H Q E) :
    tS K (execs T b) (no0s b) { nx := fun _ H' => Q .non H', rt := Q } (L2.start N vs) H := by
  obtain ⟨hl, F, rs, fp, r, r0, s, env, nd, dis, e, k⟩ := h
  obtain ⟨⟨o, ρ'⟩, e1, e2⟩ := map_some' (show (execs T b (rs ++ List.replicate (N.length - rs.length) .no)).map _ = _ from e)
  have lr : vs.length = rs.length := by have := env.length; simpa using this
  have st : RpE K F H (L2.start N vs) (rs ++ List.replicate (N.length - rs.length) .no) fp := by
    unfold L2.start
    rw [lr]
    exact env.pad _
  have rel : Rel K F H (L2.start N vs) (rs ++ List.replicate (N.length - rs.length) .no) fp := ⟨s, st, nd, dis⟩
  -- slot 0 behind the body
  have first : ∀ {σ' : L2.St} {F' H' : Hp} {fp' : List Addr}, Rel K F' H' σ' ρ' fp' → (no0s b = true → σ'[0]? = (L2.start N vs)[0]?) → ∃ p0, (∀ x ∈ p0, x ∈ fp') ∧ p0.Nodup ∧ (io = true → (ρ'.at_ 0).isOk = true → ∃ v0, vs.head? = some v0 ∧ RpR K F' H' v0 (ρ'.at_ 0) p0) := fun {σ' F' H' fp'} rel' z0 => by
    by_cases c : io = true ∧ (ρ'.at_ 0).isOk = true
    · obtain ⟨v0, p0, l1, l2, s1, hr, _, ef, _⟩ := rel'.env.split 0 (fun z => by rw [z] at c; cases c.2)
      rw [z0 (hio c.1)] at s1
      have ndf := rel'.nd
      rw [ef] at ndf
      refine ⟨p0, fun x m => by rw [ef]; simp [m], (List.nodup_append.mp (List.nodup_append.mp ndf).2.1).1, fun _ _ => ⟨v0, ?_, hr⟩⟩
      cases vs with
      | nil =>
        unfold L2.start at s1
        have : (List.replicate (N.length - 0) (none : Option V))[0]? = some (some v0) := s1
        rw [List.getElem?_replicate] at this
        split at this <;> cases this
      | cons a r =>
        have : (some (some a) : Option (Option V)) = some (some v0) := s1
        cases this
        rfl
    · exact ⟨[], fun x m => absurd m (by simp), List.nodup_nil, fun h1 h2 => absurd ⟨h1, h2⟩ c⟩
  refine ⟨F, _, fp, o, ρ', rel, e1, ?_⟩
  cases o with
  | nx =>
    intro σ' F' H' fp' a
    obtain ⟨p0, i1, i2, i3⟩ := first a.rel a.z0
    have e2' : (R.d .none, ρ'.at_ 0) = (r, r0) := e2
    cases e2'
    exact k .non F' H' [] p0 ⟨a.rel.sub, ⟨.non, rfl⟩, rfl, i3, by simpa using i2, fun x m => a.rel.dis x (i1 x (by simpa using m)), a.stp.less fun x m => i1 x (by simpa using m)⟩
  | rt rr =>
    intro v σ' F' H' p fp' a
    obtain ⟨p0, i1, i2, i3⟩ := first a.rel a.z0
    have e2' : (rr, ρ'.at_ 0) = (r, r0) := e2
    cases e2'
    have nd' := List.nodup_append.mp a.nd
    refine k v F' H' p p0 ⟨a.rel.sub, a.rep, a.ok, i3, List.nodup_append.mpr ⟨nd'.1, i2, fun x hx y hy => nd'.2.2 x hx y (i1 y hy)⟩, fun x m => ?_, a.stp.less fun x m => ?_⟩
    · rcases List.mem_append.mp m with m | m
      · exact a.dis x m
      · exact a.rel.dis x (i1 x m)
    · rcases List.mem_append.mp m with m | m
      · exact List.mem_append_left _ m
      · exact List.mem_append_right _ (i1 x m)
/-- Has, without a context -/
def HasP (P : Program) (w : World) (K : PySem.W.Frag) (mg : Str → Option Value) (base : Heap) (k : Nat) (d : Fd) : Prop := ∃ f fd, mg d.name = some (.ref f) ∧ PySem.W.keepIn K (.ref f) = true ∧ FnG P w K mg base k f fd d.ps (spG K d.ps.length d.io d.g) ∧ L2.Binds K fd d.ps [] ∧
  ∀ ks ∈ d.kws, ∀ (s : Shared) (us ws : List Value), K.In s.heap → ws.length = ks.length → us.length + ws.length = d.ps.length → BindsTo s fd ⟨us, ks.zip ws⟩ (d.ps.zip (kwG (kwIx d.ps ks) us ws))
theorem HasP.mono {j k : Nat} {d : Fd} (h : HasP P w K mg base j d) (le : j ≤ k) : HasP P w K mg base k d := by
  obtain ⟨f, fd, h1, h2, h3, h4⟩ := h
  exact ⟨f, fd, h1, h2, h3.mono le, h4⟩
/-- THE RULE for a def: its IR is checked against its text -/
theorem def_ok {T : Tbl} {k : Nat} {f : Addr} {x qual : Str} {params : Arguments} {body : List Stmt} {scope : Scope} {kws : List (Str × V)} {dvs : List V} {fd : FuncData} {N ps : List Str} {b : List S} {io : Bool} {gl : List (Str × Int)}
    (D : FunD K x qual params body scope dvs kws f fd) (S : FnScope N ps scope) (hgl : ∀ x i, gl.lookup x = some i → ∃ t, mg x = some (.int i t)) (hbl : ∀ x ∈ bltNames, mg x = none) (hT : ∀ d ∈ T, HasP P w K mg base k d)
    (hnd : base.NoDigits) (hc : chkSs T b ⟨N, scope, none, gl⟩ body = true) (hio : io = true → no0s b = true) : FnG P w K mg base (k + 1) f fd ps (spG K ps.length io (evDef T N.length b)) := by
  refine fnG_of D S (fun vs H Q E h => h.1) fun cdv A outer s H vs Q E hr hg h => ⟨_, sndSs b (C := ⟨N, scope, none, gl⟩) (k := k) ?_ S.kind (passes_of rfl) hc, body_ok hio h⟩
  exact ⟨rfl, rfl, S.nd, rfl, fun _ _ => rfl, hg, hnd, hr, hbl, hgl, hT⟩
/-- how a call by names binds -/
theorem kw_binds {x qual : Str} {params : Arguments} {body : List Stmt} {scope : Scope} {kws : List (Str × V)} {f : Addr} {fd : FuncData} {ps ks : List Str} {ix : List Nat} (D : FunD K x qual params body scope [] kws f fd) (hx : kwIx ps ks = ix)
    (h : ∀ (kV doc pm : Value) (an : Option Addr) (cdv ct : Value) (us ws : List Value), us.length + ks.length = ps.length → ws.length = ks.length → bindArgs (PySem.W.fnOf x qual params body scope .none kV doc pm an cdv ct) ⟨us, ks.zip ws⟩ = pure (ps.zip (kwG ix us ws)))
    (s : Shared) (us ws : List Value) (_ : K.In s.heap) (hw : ws.length = ks.length) (hl : us.length + ws.length = ps.length) : BindsTo s fd ⟨us, ks.zip ws⟩ (ps.zip (kwG (kwIx ps ks) us ws)) := by
  obtain ⟨oc, od, dV, kV, doc, pm, an, cdv, ct, osl, rfl, lk, hcd, hD, hK⟩ := D.ex
  rcases hD with ⟨_, rfl⟩ | ⟨e, _⟩
  · rw [hx]
    exact .of_eq (h kV doc pm an cdv ct us ws (by omega) hw)
  · exact absurd rfl e
/-- a def of the table, from its facts -/
theorem has_ok {T : Tbl} {k : Nat} {f : Addr} {x qual : Str} {params : Arguments} {body : List Stmt} {scope : Scope} {fd : FuncData} {N ps : List Str} {b : List S} {io : Bool} {gl : List (Str × Int)} {kw : List (List Str)}
    (D : FunD K x qual params body scope [] [] f fd) (hm : mg x = some (.ref f)) (S : FnScope N ps scope) (hgl : ∀ x i, gl.lookup x = some i → ∃ t, mg x = some (.int i t)) (hbl : ∀ x ∈ bltNames, mg x = none) (hT : ∀ d ∈ T, HasP P w K mg base k d)
    (hnd : base.NoDigits) (hc : chkSs T b ⟨N, scope, none, gl⟩ body = true) (hio : io = true → no0s b = true)
    (hb : ∀ (kV doc pm : Value) (an : Option Addr) (cdv ct : Value) (us : List Value), us.length = ps.length → bindArgs (PySem.W.fnOf x qual params body scope .none kV doc pm an cdv ct) ⟨us, []⟩ = pure (ps.zip us))
    (hk : ∀ ks ∈ kw, ∀ (s : Shared) (us ws : List Value), K.In s.heap → ws.length = ks.length → us.length + ws.length = ps.length → BindsTo s fd ⟨us, ks.zip ws⟩ (ps.zip (kwG (kwIx ps ks) us ws))) :
    HasP P w K mg base (k + 1) ⟨x, ps, io, kw, evDef T N.length b⟩ := ⟨f, fd, hm, D.kp, def_ok D S hgl hbl hT hnd hc hio, D.bindsN hb, hk⟩
theorem tbl_snoc {T : Tbl} {d : Fd} {k : Nat} (h : ∀ d ∈ T, HasP P w K mg base k d) (h1 : HasP P w K mg base (k + 1) d) : ∀ e ∈ T ++ [d], HasP P w K mg base (k + 1) e := fun e m => by
  rcases List.mem_append.mp m with m | m
  · exact (h e m).mono (Nat.le_succ k)
  · rw [List.mem_singleton.mp m]
    exact h1
end
end Ev
end
section
set_option Elab.async false
set_option linter.all false
set_option maxHeartbeats 4000000
/-! The end of a law. -/
namespace Ev
open PySem PySem.Spec PyProof.Rows L2
/-- the script at a, and nothing else, is tracked: the def runs over the heap without it -/
theorem entry {P : Program} {w : World} {K : PySem.W.Frag} {mg mb : Str → Option Value} {a : Addr} {s1 : Shared} {vs : List Value} {H : Hp} (KX : K.In s1.heap) (hns : s1.heap.Ns mainGlobals mg) (hb : s1.heap.Ns builtinsNs mb) (hbb : ∀ x : Str, x ≠ "__name__" → mb x = bootBuiltins x)
    (hlim : s1.heap.NoLimit) (hdg : s1.heap.NoDigits) (hg : s1.gens = #[]) (ha : s1.heap.get? a = some { cls := .type "list", data := .seq vs.toArray }) (hok : HOk P w H s1.heap) (hA : ∀ b, H b ≠ none → b = a) (hK : H a ≠ none → K.lookup a = none) :
    K.In (hidT s1.heap H) ∧ (hidT s1.heap H).Ns mainGlobals mg ∧ (hidT s1.heap H).NoDigits ∧ Env0 P w K mg (hidT s1.heap H) callerA [] s1 H := by
  have only : ∀ {b : Addr} {u : HO}, H b = some u → b = a := fun {b u} e => hA b fun z => by rw [z] at e; cases e
  have free : ∀ {b : Addr} {o : Obj}, s1.heap.get? b = some o → (∀ n, o.data ≠ .seq vs.toArray n) → H b = none := fun {b o} e n => by
    cases q : H b with
    | none => rfl
    | some u =>
      rw [only q, ha] at e
      cases e
      exact absurd rfl (n _)
  have ns : ∀ {b : Addr} {m : Str → Option Value}, s1.heap.Ns b m → (hidT s1.heap H).Ns b m := fun {b m} z => by
    obtain ⟨o, es, ep, e, d, r⟩ := z
    exact ⟨o, es, ep, hidT_get e (free e fun n z => by rw [d] at z; cases z), d, r⟩
  have kin : K.In (hidT s1.heap H) := fun b o e => by
    refine hidT_get (KX b o e) ?_
    cases q : H b with
    | none => rfl
    | some u =>
      have eb := only q
      subst eb
      rw [hK (by rw [q]; simp)] at e
      cases e
  obtain ⟨mc, l1, l2⟩ := hlim
  obtain ⟨md, k1, k2⟩ := hdg
  exact ⟨kin, ns hns, ⟨md, ns k1, k2⟩, rfl, ⟨kin, ns hns, ⟨mb, ns hb, hbb⟩, ⟨mc, ns l1, l2⟩⟩, fun b o e => of_hidT e, Nat.le_of_eq (hidT_size _ _), trivial, fun b z => absurd (show b ∈ ([] : List Addr) from z) (by simp), hok, .of_eq hg⟩
/-- the promise of a law's def: true, whatever the script -/
abbrev QT : VK := fun v _ => v = .bl true
theorem law_callG {P : Program} {w : World} {K : PySem.W.Frag} {mg mb : Str → Option Value} {k : Nat} {fa a : Addr} {fd : FuncData} {x : Str} {sp : Sp} {s1 : Shared} {vs : List Value} {ns : List Int} (KX : K.In s1.heap) (hns : s1.heap.Ns mainGlobals mg) (hb : s1.heap.Ns builtinsNs mb)
    (hbb : ∀ x : Str, x ≠ "__name__" → mb x = bootBuiltins x) (hlim : s1.heap.NoLimit) (hdg : s1.heap.NoDigits) (hg : s1.gens = #[]) (ha : s1.heap.get? a = some { cls := .type "list", data := .seq vs.toArray }) (hi : IntsAre vs ns) (hl : ns.length ≤ sizeLine) (hr : Room k callerA)
    (F : ∀ base : Heap, K.In base → base.Ns mainGlobals mg → base.NoDigits → FnG P w K mg base k fa fd [x] sp) (hbind : ∀ (s : Shared) (u : Value), BindsTo s fd ⟨[u], []⟩ [(x, u)]) (hsp : ∀ H : Hp, Only H → SqL K H a (ns.map V.int) → sp [.ref a] H QT E0') :
    codeAny (model P w) callerA (.call (.ref fa) ⟨[.ref a], []⟩) (fun r s' => r = .ok (.ret (.bool true)) ∧ OldK s1.heap s'.heap ∧ s'.os = s1.os ∧ AllBare s'.gens) s1 := by
  have rv := vals_ints hi
  have lenV := hi.length
  have run : ∀ H : Hp, Only H → SqL K H a (ns.map V.int) → HOk P w H s1.heap → (∀ b, H b ≠ none → b = a) → (H a ≠ none → K.lookup a = none) →
      codeAny (model P w) callerA (.call (.ref fa) ⟨[.ref a], []⟩) (fun r s' => r = .ok (.ret (.bool true)) ∧ OldK s1.heap s'.heap ∧ s'.os = s1.os ∧ AllBare s'.gens) s1 := fun H hO hS hok hA hK => by
    obtain ⟨kin, nsg, ndg, e0⟩ := entry KX hns hb hbb hlim hdg hg ha hok hA hK
    refine codeAny_mono ((F _ kin nsg ndg).go callerA [] s1 H ⟨[.ref a], []⟩ [.ref a] [.ref a] _ _ ⟨hr, rfl⟩ e0 (hbind s1 (.ref a)) (.cons rfl .nil) (hsp H hO hS)) fun r s' h => ?_
    match r, h with
    | .error e, h =>
      obtain ⟨_, _, _, _, _, _, _, _, _, _, _, _, z⟩ := (show L2.CX P w [] H s1 E0' e s' from h)
      exact z.elim
    | .ok (.ret u), h =>
      obtain ⟨v, H', os, bare, un, hok', r', q⟩ := h
      have q' : v = .bl true := q
      subst q'
      obtain rfl : u = Value.bool true := r'
      refine ⟨rfl, OldK.of_keep fun b o e => ?_, os, bare⟩
      rcases hO b with z | ⟨ob, xs, z⟩
      · exact un.keep b o e z (by intro y; exact absurd (show b ∈ ([] : List Addr) from y) (by simp)) (by simp)
      · have e1 := (hok b _ z).1
        rw [e] at e1
        cases e1
        exact (hok' b _ (un.frzs b _ _ z)).1
    | .ok .next, h => exact h.elim
    | .ok .brk, h => exact h.elim
    | .ok .cont, h => exact h.elim
  cases hk : K.lookup a with
  | some o =>
    -- one of the module's own objects
    have e := KX a o hk
    rw [ha] at e
    cases e
    exact run (fun _ => none) (fun _ => .inl rfl) (.inr ⟨_, vs.toArray, _, hk, rfl, rfl, rfl, by rw [List.size_toArray, lenV]; exact hl, by simpa using rv⟩) (fun b u z => nomatch (show (none : Option HO) = some u from z)) (fun b z => absurd rfl z) fun z => absurd rfl z
  | none =>
    have at_ : ∀ b u, (if b = a then some (HO.frz { cls := .type "list", data := .seq vs.toArray } (.lst (ns.map V.int))) else none) = some u → b = a ∧ u = HO.frz { cls := .type "list", data := .seq vs.toArray } (.lst (ns.map V.int)) := fun b u z => by
      by_cases hb : b = a
      · rw [if_pos hb] at z
        exact ⟨hb, (Option.some.inj z).symm⟩
      · rw [if_neg hb] at z
        cases z
    refine run (fun b => if b = a then some (.frz { cls := .type "list", data := .seq vs.toArray } (.lst (ns.map V.int))) else none) (fun b => ?_) (.inl (.inr ⟨_, if_pos rfl⟩)) (fun b u z => ?_) (fun b z => ?_) fun _ => hk
    · by_cases hb : b = a
      · exact .inr ⟨_, _, if_pos hb⟩
      · exact .inl (if_neg hb)
    · obtain ⟨rfl, rfl⟩ := at_ b u z
      exact ⟨ha, by rw [List.length_map]; exact hl, vs, _, rv, ha⟩
    · cases q : (if b = a then some (HO.frz { cls := .type "list", data := .seq vs.toArray } (.lst (ns.map V.int))) else none) with
      | none => exact absurd q z
      | some u => exact (at_ b u q).1
theorem walk_G {l : PySem.W.OpenLaw} {n k : Nat} {q : Program} {loose : List Str} {XP : (Str → Option Value) → Heap → Prop} {YP : World → Heap → Prop} {d : DefRec} {x : Str} (hn : l.most = some n) (hn2 : n ≤ sizeLine) (hdf : d.params.defaults = []) (hr : Room k callerA)
    (F : ∀ (w : World) (mg : Str → Option Value) (fa : Addr) (h : Heap), YP w h → h.Ns mainGlobals mg → mg d.name = some (.ref fa) → ∃ (K : PySem.W.Frag) (fd : FuncData) (sp : Sp), K.In h ∧ (∀ (s : Shared) (u : Value), BindsTo s fd ⟨[u], []⟩ [(x, u)]) ∧
      (∀ (H : Hp) (a : Addr) (ns : List Int), ns.length ≤ n → SqL K H a (ns.map V.int) → sp [.ref a] H QT E0') ∧ ∀ base : Heap, K.In base → base.Ns mainGlobals mg → base.NoDigits → FnG l.prog w K mg base k fa fd [x] sp) :
    PySem.W.WalkO q loose XP YP l.row.toRowW d [] (fun f vs => PySem.call f vs) := by
  refine Att.attach_call hn hdf fun w s₀ s1 mg mb fa o pm cd doc a vs ns G Y ho hd hcd hmg hobj hints hlen hg => ?_
  obtain ⟨K, fd, sp, KX, hb, hsp, hF⟩ := F w mg fa _ Y G.T.g hmg
  exact law_callG KX G.T.g G.T.b G.T.builtins G.T.nolimit G.T.nodigits hg hobj hints (Nat.le_trans hlen hn2) hr hF hb fun H _ hS => hsp H a ns hlen hS
/-- the script's ints, read alone -/
theorem script_ok {K : PySem.W.Frag} {H : Hp} {a : Addr} {ns : List Int} {g : List R → Option (R × R)} {r0 : R} (hS : SqL K H a (ns.map V.int)) (e : g [.fr (.sq (ns.map .int))] = some (.bl true, r0)) : spG K 1 false g [.ref a] H QT E0' := by
  have all : ∀ (G : Hp) (ns : List Int), DqAll G (ns.map V.int) (ns.map PyData.int) := fun G ns => by
    induction ns with
    | nil => exact .nil
    | cons n ns ih => exact .cons (.int n) ih
  exact ⟨rfl, H, [.fr (.sq (ns.map .int))], [], .bl true, r0, Same.refl H, RpE.sm (p := []) (q := []) ⟨⟨[], .sq hS (all H ns)⟩, rfl⟩ rfl .nil, List.nodup_nil, fun x m => absurd m (by simp), e, fun v F' H' p p0 d => d.rep.bool⟩
end Ev
end
section
set_option Elab.async false
set_option linter.all false
/-! Plain facts for the plain theorems: what an evaluation ends with. -/
namespace Ev
open PySem L2

/-- it gives a value, and that value keeps P -/
def Post {α : Type} (x : Option α) (P : α → Prop) : Prop := ∃ a, x = some a ∧ P a
theorem post_some {α : Type} (a : α) (P : α → Prop) : Post (some a) P = P a := propext ⟨fun ⟨b, h, p⟩ => by cases h; exact p, fun h => ⟨a, rfl, h⟩⟩
theorem post_none {α : Type} (P : α → Prop) : Post none P = False := propext ⟨fun q => (by obtain ⟨b, h, p⟩ := q; cases h), False.elim⟩
theorem post_bind {α β : Type} (x : Option α) (f : α → Option β) (P : β → Prop) : Post (x.bind f) P = Post x (fun a => Post (f a) P) := by
  cases x with
  | none => rw [Option.bind_none, post_none, post_none]
  | some a => rw [Option.bind_some, post_some]
theorem post_map {α β : Type} (x : Option α) (f : α → β) (P : β → Prop) : Post (x.map f) P = Post x (fun a => P (f a)) := by
  cases x with
  | none => rw [Option.map_none, post_none, post_none]
  | some a => rw [Option.map_some, post_some, post_some]
theorem post_mono {α : Type} {x : Option α} {P Q : α → Prop} (h : Post x P) (hi : ∀ a, P a → Q a) : Post x Q := by
  obtain ⟨a, e, p⟩ := h
  exact ⟨a, e, hi a p⟩
theorem post_if {α : Type} (c : Prop) [Decidable c] (x y : Option α) (P : α → Prop) : Post (if c then x else y) P = ((c → Post x P) ∧ (¬ c → Post y P)) := by
  by_cases h : c
  · rw [if_pos h]; exact propext ⟨fun q => ⟨fun _ => q, fun k => absurd h k⟩, fun q => q.1 h⟩
  · rw [if_neg h]; exact propext ⟨fun q => ⟨fun k => absurd k h, fun _ => q⟩, fun q => q.2 h⟩
theorem post_ifs {α : Type} (c : Prop) [Decidable c] (a : α) (P : α → Prop) : Post (if c then some a else none) P = (c ∧ P a) := by
  by_cases h : c
  · rw [if_pos h, post_some]; exact propext ⟨fun q => ⟨h, q⟩, fun q => q.2⟩
  · rw [if_neg h, post_none]; exact propext ⟨False.elim, fun q => h q.1⟩
theorem post_ifn {α : Type} (c : Prop) [Decidable c] (x : Option α) (P : α → Prop) : Post (if c then x else none) P = (c ∧ Post x P) := by
  by_cases h : c
  · rw [if_pos h]; exact propext ⟨fun q => ⟨h, q⟩, fun q => q.2⟩
  · rw [if_neg h, post_none]; exact propext ⟨False.elim, fun q => h q.1⟩
theorem post_nif {α : Type} (c : Prop) [Decidable c] (x : Option α) (P : α → Prop) : Post (if c then none else x) P = (¬ c ∧ Post x P) := by
  by_cases h : c
  · rw [if_pos h, post_none]; exact propext ⟨False.elim, fun q => q.1 h⟩
  · rw [if_neg h]; exact propext ⟨fun q => ⟨h, q⟩, fun q => q.2⟩
theorem post_eq {α : Type} {x : Option α} {a : α} {P : α → Prop} (h : x = some a) (p : P a) : Post x P := ⟨a, h, p⟩
theorem post_get {α : Type} {x : Option α} {P : α → Prop} (h : Post x P) : ∃ a, x = some a ∧ P a := h

/-! ### slots -/
theorem at0 (r : R) (ρ : Env) : Env.at_ (r :: ρ) 0 = r := rfl
theorem at1 (r : R) (ρ : Env) (i : Nat) : Env.at_ (r :: ρ) (i + 1) = Env.at_ ρ i := rfl

/-! ### statements, one behind another -/
theorem run_nil (T : Tbl) (ρ : Env) : execs T [] ρ = some (.nx, ρ) := by rw [Ev.execs]
theorem run_cons (T : Tbl) (s : S) (ss : List S) (ρ : Env) (Q : Out × Env → Prop) (h : Post (exec T s ρ) fun q => q.1 = .nx ∧ Post (execs T ss q.2) Q) : Post (execs T (s :: ss) ρ) Q := by
  obtain ⟨⟨o, ρ1⟩, e, ho, p⟩ := h
  cases ho
  rw [Ev.execs, e]
  exact p
/-- a statement that may end the def -/
theorem run_cons' (T : Tbl) (s : S) (ss : List S) (ρ : Env) (Q : Out × Env → Prop) (h : Post (exec T s ρ) fun q => match q.1 with | .nx => Post (execs T ss q.2) Q | .rt r => Q (.rt r, q.2)) : Post (execs T (s :: ss) ρ) Q := by
  obtain ⟨⟨o, ρ1⟩, e, p⟩ := h
  rw [Ev.execs, e]
  cases o with
  | nx => exact p
  | rt r => exact ⟨_, rfl, p⟩
theorem run_ret (T : Tbl) (s : S) (ss : List S) (ρ : Env) (Q : Out × Env → Prop) (h : Post (exec T s ρ) fun q => ∃ r, q.1 = .rt r ∧ Q (.rt r, q.2)) : Post (execs T (s :: ss) ρ) Q := by
  obtain ⟨⟨o, ρ1⟩, e, r, ho, p⟩ := h
  cases ho
  rw [Ev.execs, e]
  exact ⟨_, rfl, p⟩
theorem def_run (T : Tbl) (n : Nat) (b : List S) (rs : List R) (P : R × R → Prop) (h : Post (execs T b (rs ++ List.replicate (n - rs.length) .no)) fun q => P (match q.1 with | .rt r => r | .nx => .d .none, q.2.at_ 0)) : Post (evDef T n b rs) P := by
  rw [evDef, post_map]
  exact h

/-! ### lists of plain things -/
theorem dsOf_map (xs : List PyData) : dsOf (xs.map M.d) = some xs := by
  induction xs with
  | nil => rfl
  | cons x xs ih => show (dsOf (xs.map M.d)).map _ = _; rw [ih]; rfl
theorem datas_map (xs : List PyData) : M.datas (xs.map M.d) = some xs := by
  induction xs with
  | nil => rw [List.map_nil, M.datas]
  | cons x xs ih => rw [List.map_cons, M.datas, ih, M.data]; rfl
theorem leafs_lst (xs : List PyData) : (R.ow (.ls (xs.map M.d))).leafs = some (true, xs) := by
  show (dsOf (xs.map M.d)).map _ = _
  rw [dsOf_map]; rfl
theorem leafs_bo (xs : List PyData) : (R.bo (.ls (xs.map M.d))).leafs = some (true, xs) := by
  show (dsOf (xs.map M.d)).map _ = _
  rw [dsOf_map]; rfl
theorem leafs_fr (xs : List PyData) : (R.fr (.ls (xs.map M.d))).leafs = some (true, xs) := by
  show (dsOf (xs.map M.d)).map _ = _
  rw [dsOf_map]; rfl
theorem leafs_dl (xs : List PyData) : (R.d (.list xs)).leafs = some (true, xs) := rfl
theorem leafs_dt (xs : List PyData) : (R.d (.tuple xs)).leafs = some (false, xs) := rfl
theorem reads_lst (xs : List PyData) : (R.ow (.ls (xs.map M.d))).reads = some (true, xs) := leafs_lst xs
theorem reads_bo (xs : List PyData) : (R.bo (.ls (xs.map M.d))).reads = some (true, xs) := leafs_bo xs
theorem reads_fr (xs : List PyData) : (R.fr (.ls (xs.map M.d))).reads = some (true, xs) := leafs_fr xs
theorem reads_dl (xs : List PyData) : (R.d (.list xs)).reads = some (true, xs) := rfl
theorem reads_dt (xs : List PyData) : (R.d (.tuple xs)).reads = some (false, xs) := rfl
theorem reads_sq (xs : List PyData) : (R.fr (.sq xs)).reads = some (true, xs) := rfl
theorem data_ow (xs : List PyData) : (R.ow (.ls (xs.map M.d))).data = some (.list xs) := by
  show M.data (.ls (xs.map M.d)) = _
  rw [M.data, datas_map]; rfl
theorem data_bo (xs : List PyData) : (R.bo (.ls (xs.map M.d))).data = some (.list xs) := data_ow xs
theorem data_fr (xs : List PyData) : (R.fr (.ls (xs.map M.d))).data = some (.list xs) := data_ow xs
theorem data_d (x : PyData) : (R.d x).data = some x := rfl
theorem frz_lst (xs : List PyData) : frzF (.ow (.ls (xs.map M.d))) = .d (.list xs) := by
  show (match M.data (.ls (xs.map M.d)) with | some x => R.d x | none => .fr (.ls (xs.map M.d))) = _
  rw [M.data, datas_map]; rfl
theorem frz_d (x : PyData) : frzF (.d x) = .d x := rfl
theorem frz_no : frzF .no = .no := rfl
theorem frz_fr (m : M) : frzF (.fr m) = .fr m := rfl

/-! ### operators -/
theorem add_int (i j : Int) : addF (.d (.int i)) (.d (.int j)) = some (.d (.int (i + j))) := rfl
theorem sub_int (i j : Int) : subF (.d (.int i)) (.d (.int j)) = some (.d (.int (i - j))) := rfl
theorem mul_int (i j : Int) : mulF (.d (.int i)) (.d (.int j)) = if i.natAbs.log2 + j.natAbs.log2 < 1000000 then some (.d (.int (i * j))) else none := rfl
theorem neg_int (i : Int) : negF (.d (.int i)) = some (.d (.int (-i))) := rfl
theorem div_int (i j : Int) : divF (.d (.int i)) (.d (.int j)) = if 0 < j ∧ j.natAbs.log2 < 9000 then some (.d (.int (i / j))) else none := rfl
theorem mod_int (i j : Int) : modF (.d (.int i)) (.d (.int j)) = if 0 < j then some (.d (.int (i % j))) else none := rfl
theorem pow_int (i j : Int) : powF (.d (.int i)) (.d (.int j)) = if 0 ≤ j ∧ j ≤ 1000000 ∧ i.natAbs < 2 ^ 64 then some (.d (.int (i ^ j.toNat))) else none := rfl
theorem mul_ok {i j : Int} {a b : Nat} (hi : i.natAbs < 2 ^ a) (hj : j.natAbs < 2 ^ b) (h : a + b < 1000000) : i.natAbs.log2 + j.natAbs.log2 < 1000000 := by
  have h1 : i.natAbs.log2 ≤ a := by
    by_cases h0 : i.natAbs = 0
    · rw [h0]; exact Nat.zero_le _
    · exact Nat.le_of_lt ((Nat.log2_lt h0).2 hi)
  have h2 : j.natAbs.log2 ≤ b := by
    by_cases h0 : j.natAbs = 0
    · rw [h0]; exact Nat.zero_le _
    · exact Nat.le_of_lt ((Nat.log2_lt h0).2 hj)
  omega
theorem log_le {n a : Nat} (h : n < 2 ^ a) : n.log2 ≤ a := by
  by_cases h0 : n = 0
  · rw [h0]; exact Nat.zero_le _
  · exact Nat.le_of_lt ((Nat.log2_lt h0).2 h)
theorem addl_ow {a b : R} {c : Bool} {xs ys : List PyData} (ha : a.leafs = some (c, xs)) (hb : b.leafs = some (c, ys)) (hl : xs.length + ys.length ≤ sizeLine) : addF a b = some (if c then R.lst (xs ++ ys) else .tup (xs ++ ys)) := by
  have h : addF a b = addL a b := by
    cases a with
    | d x => cases x <;> first | (cases ha; done) | rfl
    | _ => rfl
  rw [h, addL, ha, hb]
  cases c
  · show (if xs.length + ys.length ≤ sizeLine then _ else _) = _
    rw [if_pos hl]; rfl
  · show (if xs.length + ys.length ≤ sizeLine then _ else _) = _
    rw [if_pos hl]; rfl

/-! ### ends of loops -/
theorem forGo_map {α : Type} {g : Tg} {body : Env → Option (Out × Env)} (k : α → R) (I : List α → Env → Prop)
    (hs : ∀ p ps ρ, I (p :: ps) ρ → Post (tgF g (k p) ρ) fun ρ1 => Post (body ρ1) fun q => q.1 = .nx ∧ I ps q.2) :
    ∀ ps ρ, I ps ρ → Post (forGo g body (ps.map k) ρ) fun q => q.1 = .nx ∧ I [] q.2
  | [], ρ, h => ⟨_, rfl, rfl, h⟩
  | p :: ps, ρ, h => by
    obtain ⟨ρ1, e1, ⟨o, ρ2⟩, e2, ho, h2⟩ := hs p ps ρ h
    cases ho
    show Post (forGo g body (k p :: ps.map k) ρ) _
    rw [forGo, e1]
    show Post ((body ρ1).bind _) _
    rw [e2]
    exact forGo_map k I hs ps ρ2 h2
theorem compGo_map {α : Type} {g : Tg} {vs : List Nat} {body : Env → Option (Option M × Env)} (k : α → R) (h : α → Option M) (ρ0 : Env) :
    ∀ (ps : List α) (acc : List M), (∀ p ∈ ps, ∃ ρ1 ρ2, tgF g (k p) ρ0 = some ρ1 ∧ body ρ1 = some (h p, ρ2) ∧ wipeE ρ2 vs = ρ0) → acc.length + ps.length ≤ sizeLine → compGo g vs body (ps.map k) acc ρ0 = some (acc ++ ps.filterMap h, ρ0)
  | [], acc, _, _ => by rw [List.map_nil, compGo, List.filterMap_nil, List.append_nil]
  | p :: ps, acc, hs, hl => by
    obtain ⟨ρ1, ρ2, e1, e2, e3⟩ := hs p (List.mem_cons_self)
    rw [List.length_cons] at hl
    rw [List.map_cons, compGo, e1]
    show (body ρ1).bind _ = _
    rw [e2]
    cases hh : h p with
    | none =>
      show compGo g vs body (ps.map k) acc (wipeE ρ2 vs) = _
      rw [e3, List.filterMap_cons_none hh]
      exact compGo_map k h ρ0 ps acc (fun q hq => hs q (List.mem_cons_of_mem _ hq)) (by omega)
    | some m =>
      show (if acc.length < sizeLine then compGo g vs body (ps.map k) (acc ++ [m]) (wipeE ρ2 vs) else none) = _
      rw [if_pos (by omega), e3, List.filterMap_cons_some hh, compGo_map k h ρ0 ps (acc ++ [m]) (fun q hq => hs q (List.mem_cons_of_mem _ hq)) (by rw [List.length_append, List.length_singleton]; omega), List.append_assoc]
      rfl
/-- a comprehension whose body changes other slots, too -/
theorem compGo_inv {α : Type} {g : Tg} {vs : List Nat} {body : Env → Option (Option M × Env)} (k : α → R) (I : List α → List M → Env → Prop)
    (hs : ∀ p ps acc ρ, I (p :: ps) acc ρ → Post (tgF g (k p) ρ) fun ρ1 => Post (body ρ1) fun q => match q.1 with | none => I ps acc (wipeE q.2 vs) | some m => acc.length < sizeLine ∧ I ps (acc ++ [m]) (wipeE q.2 vs)) :
    ∀ ps acc ρ, I ps acc ρ → Post (compGo g vs body (ps.map k) acc ρ) fun q => I [] q.1 q.2
  | [], acc, ρ, h => ⟨_, rfl, h⟩
  | p :: ps, acc, ρ, h => by
    obtain ⟨ρ1, e1, ⟨o, ρ2⟩, e2, h2⟩ := hs p ps acc ρ h
    rw [List.map_cons, compGo, e1]
    show Post ((body ρ1).bind _) _
    rw [e2]
    cases o with
    | none => exact compGo_inv k I hs ps acc _ h2
    | some m =>
      show Post (if acc.length < sizeLine then compGo g vs body (ps.map k) (acc ++ [m]) (wipeE ρ2 vs) else none) _
      rw [if_pos h2.1]
      exact compGo_inv k I hs ps _ _ h2.2
theorem whl_inv {test : Env → Option (Bool × Env)} {body : Env → Option (Out × Env)} (I : Nat → Env → Prop) (Q : Env → Prop)
    (hs : ∀ k ρ, I k ρ → Post (test ρ) fun q => if q.1 = true then Post (body q.2) fun p => p.1 = .nx ∧ ∃ k', k' < k ∧ I k' p.2 else Q q.2) :
    ∀ n k ρ, k < n → I k ρ → Post (whlGo test body n ρ) fun q => q.1 = .nx ∧ Q q.2
  | 0, k, ρ, hn, h => absurd hn (Nat.not_lt_zero _)
  | n + 1, k, ρ, hn, h => by
    obtain ⟨⟨b, ρ1⟩, e1, h1⟩ := hs k ρ h
    rw [whlGo, e1]
    cases b with
    | false => exact ⟨_, rfl, rfl, h1⟩
    | true =>
      obtain ⟨⟨o, ρ2⟩, e2, ho, k', hk, h2⟩ := (h1 : Post (body ρ1) _)
      cases ho
      show Post ((body ρ1).bind _) _
      rw [e2]
      exact whl_inv I Q hs n k' ρ2 (by omega) h2
end Ev
end
section
set_option Elab.async false
set_option linter.all false
set_option maxRecDepth 100000
/-! The bag of the laws that draw by `_law_bag`, `_law_draw`, `_law_pick`. -/
namespace Ev
open PySem L2
def bagB : List S :=
 [.set 1 (.comp [("cell", 3)] (.nm 3) (.e (.slc (.nm 0) none (some (.int 63)))) none (.bi .abs [.nm 3])),
 .set 2 (.bin .Add (.int 19583) (.bi .len [.nm 1])),
 .fz 1,
 .for_ (.nm 3) (.e (.nm 1)) [.set 2 (.bin .Mod (.bi .int [.bin .Add (.bin .Add (.bin .Mult (.nm 2) (.int 48271)) (.bin .Mod (.bi .int [.nm 3]) (.int 2147483629))) (.int 5)]) (.int 2147483647))],
 .ret (.lst [.rev (.nm 1), .int 0, .nm 2])]
def drawB : List S :=
 [.whl (.and [.cmp .Eq (.sub (.nm 0) (.int 1)) (.int 0), .cmp .NotEq (.sub (.nm 0) (.int 0)) (.lst [])]) [.set 2 (.popX 0 (.int 0)),
 .setS 0 (.int 1) (.ite (.cmp .Gt (.nm 2) (.bin .Pow (.int 10) (.int 9))) (.nm 2) (.int 0))],
 .ite (.cmp .Gt (.sub (.nm 0) (.int 1)) (.int 0)) [.set 3 (.bin .Mod (.bi .int [.sub (.nm 0) (.int 1)]) (.nm 1)),
 .setS 0 (.int 1) (.bin .FloorDiv (.sub (.nm 0) (.int 1)) (.nm 1)),
 .ret (.nm 3)] [],
 .setS 0 (.int 2) (.bin .Mod (.bi .int [.bin .Add (.bin .Mult (.sub (.nm 0) (.int 2)) (.int 48271)) (.int 13)]) (.int 2147483647)),
 .ret (.bin .Mod (.bi .int [.bin .FloorDiv (.bin .Mod (.bi .int [.bin .Mult (.sub (.nm 0) (.int 2)) (.sub (.nm 0) (.int 2))]) (.int 2147483629)) (.int 7)]) (.nm 1))]
def pickB (f : Nat) : List S := [.fz 1, .ret (.sub (.nm 1) (.callM f 0 [.bi .len [.nm 1]]))]

/-- what a bag is: its cells, the half-used one, the stirred number -/
def bagM (cs : List Int) (h x : Int) : M := .ls [.ls (cs.map fun c => .d (.int c)), .d (.int h), .d (.int x)]
def BagOk (m : M) : Prop := ∃ (cs : List Int) (h x : Int), m = bagM cs h x ∧ cs.length ≤ 63 ∧ 0 ≤ h ∧ 0 ≤ x ∧ x < 2147483647

theorem ixN_in {n : Nat} {i : Int} (h0 : 0 ≤ i) (h1 : i < n) : L2.ixN n i = some i.toNat := by
  unfold L2.ixN
  rw [if_pos h0, if_pos h1]
theorem atI_in {α : Type} {xs : List α} {i : Int} (h0 : 0 ≤ i) (h1 : i < xs.length) : L2.atI xs i = some (xs[i.toNat]'(by omega)) := by
  unfold L2.atI
  rw [ixN_in h0 h1, Option.bind_some, List.getElem?_eq_getElem]
theorem atI_map {α β : Type} (f : α → β) (xs : List α) (i : Int) : L2.atI (xs.map f) i = (L2.atI xs i).map f := by
  unfold L2.atI
  rw [List.length_map]
  cases L2.ixN xs.length i with
  | none => rfl
  | some j => rw [Option.bind_some, Option.bind_some, List.getElem?_map]
theorem ix_dl (xs : List PyData) (i : Int) : ixF (.d (.list xs)) (.d (.int i)) = (L2.atI xs i).map .d := rfl
theorem ix_dt (xs : List PyData) (i : Int) : ixF (.d (.tuple xs)) (.d (.int i)) = (L2.atI xs i).map .d := rfl
theorem ix_bo (xs : List PyData) (i : Int) : ixF (.bo (.ls (xs.map .d))) (.d (.int i)) = (L2.atI xs i).map .d := by
  show (L2.atI (xs.map M.d) i).map _ = _
  rw [atI_map, Option.map_map]
  rfl
theorem ix_ow (xs : List PyData) (i : Int) : ixF (.ow (.ls (xs.map .d))) (.d (.int i)) = (L2.atI xs i).map .d := by
  show (L2.atI (xs.map M.d) i).map _ = _
  rw [atI_map, Option.map_map]
  rfl
theorem fm_map {α β : Type} (f : α → β) (xs : List α) : xs.filterMap (fun i => some (f i)) = xs.map f := by
  induction xs with
  | nil => rfl
  | cons x xs ih => rw [List.map_cons, ← ih]; rfl
theorem len_bo (ms : List M) : lenF (.bo (.ls ms)) = some (.d (.int ms.length)) := rfl
theorem len_dl (ms : List PyData) : lenF (.d (.list ms)) = some (.d (.int ms.length)) := rfl
theorem len_dt (ms : List PyData) : lenF (.d (.tuple ms)) = some (.d (.int ms.length)) := rfl
theorem rev_dl (xs : List PyData) : revF (.d (.list xs)) = some (.ow (.ls (xs.reverse.map .d))) := rfl
theorem rev_dt (xs : List PyData) : revF (.d (.tuple xs)) = some (.d (.tuple xs.reverse)) := rfl
theorem dmap (f : Int → Int) (is : List Int) : (is.map fun i => M.d (.int (f i))) = ((is.map f).map PyData.int).map M.d := by
  rw [List.map_map, List.map_map]; rfl
theorem ls_ls (ms : List M) : (R.ow (.ls ms)).isLs = true := rfl
theorem tru_bl (b : Bool) : truF (.d (.bool b)) = some b := rfl
theorem ix_bag0 (cs : List Int) (h x : Int) : ixF (.bo (bagM cs h x)) (.d (.int 0)) = some (.bo (.ls (cs.map fun c => .d (.int c)))) := rfl
theorem ix_bag1 (cs : List Int) (h x : Int) : ixF (.bo (bagM cs h x)) (.d (.int 1)) = some (.d (.int h)) := rfl
theorem ix_bag2 (cs : List Int) (h x : Int) : ixF (.bo (bagM cs h x)) (.d (.int 2)) = some (.d (.int x)) := rfl
theorem bag_ls (cs : List Int) (h x : Int) : (R.ow (bagM cs h x)).isLs = true := rfl
theorem put_bag1 (cs : List Int) (h x v : Int) (r : Env) : putL 0 (.d (.int 1)) (.d (.int v)) (.ow (bagM cs h x) :: r) = some (.ow (bagM cs v x) :: r) := rfl
theorem put_bag2 (cs : List Int) (h x v : Int) (r : Env) : putL 0 (.d (.int 2)) (.d (.int v)) (.ow (bagM cs h x) :: r) = some (.ow (bagM cs h v) :: r) := rfl
theorem eq_int (i j : Int) : eqF (.d (.int i)) (.d (.int j)) = some (decide (i = j)) := by
  show (if SeqAt.shaped (.int i) = true ∧ SeqAt.shaped (.int j) = true then some (PyData.eqv (.int i) (.int j)) else none) = _
  rw [if_pos ⟨rfl, rfl⟩, PyData.eqv]
  rfl
theorem lt_int (i j : Int) : ltF (.d (.int i)) (.d (.int j)) = some (decide (i < j)) := rfl
theorem le_int (i j : Int) : leF (.d (.int i)) (.d (.int j)) = some (decide (i ≤ j)) := rfl
theorem shaped_ints (is : List Int) : SeqAt.shaped (.list (is.map .int)) = true := by
  have h : PyData.canLayAll0 (is.map .int) = true ∧ PyData.depthAll (is.map .int) = 0 := by
    induction is with
    | nil => exact ⟨rfl, rfl⟩
    | cons i is ih => exact ⟨by simp [PyData.canLayAll0, PyData.canLay0, ih.1], by simp [PyData.depthAll, PyData.depth, ih.2]⟩
  simp [SeqAt.shaped, PyData.canLay0, PyData.depth, h.1, h.2]
theorem datas_ints (is : List Int) : M.datas (is.map fun c => .d (.int c)) = some (is.map .int) := by
  have := datas_map (is.map .int)
  rwa [List.map_map] at this
/-- a list of ints against [] -/
theorem ne_nil_bo (is : List Int) : eqF (.bo (.ls (is.map fun c => .d (.int c)))) (.ow (.ls [])) = some is.isEmpty := by
  unfold eqF
  have e1 : (R.bo (.ls (is.map fun c => .d (.int c)))).data = some (.list (is.map .int)) := by
    show M.data (.ls (is.map fun c => .d (.int c))) = _
    rw [M.data, datas_ints]; rfl
  have e2 : (R.ow (.ls [])).data = some (.list []) := by
    show M.data (.ls []) = _
    rw [M.data, M.datas]; rfl
  rw [e1, e2]
  show (if SeqAt.shaped (.list (is.map .int)) = true ∧ SeqAt.shaped (.list []) = true then some (PyData.eqv (.list (is.map .int)) (.list [])) else none) = _
  rw [if_pos ⟨shaped_ints is, rfl⟩]
  cases is with
  | nil => simp [PyData.eqv, PyData.eqvAll]
  | cons i is => simp [PyData.eqv, PyData.eqvAll]
theorem drop_getLast (cs : List Int) : (cs.map fun c => M.d (.int c)).dropLast = cs.dropLast.map fun c => M.d (.int c) := by
  rw [List.map_dropLast]
theorem getLast_map (cs : List Int) (h : cs ≠ []) : (cs.map fun c => M.d (.int c)).getLast? = some (.d (.int (cs.getLast h))) := by
  rw [List.getLast?_map, List.getLast?_eq_some_getLast h]; rfl
end Ev
end
section
set_option Elab.async false
set_option linter.all false
set_option maxRecDepth 100000
namespace Ev
open PySem L2
theorem pop_bag (cs : List Int) (h x : Int) (hc : cs ≠ []) (T : Tbl) (r : Env) : ev T (.popX 0 (.int 0)) (.ow (bagM cs h x) :: r) = some (.d (.int (cs.getLast hc)), .ow (bagM cs.dropLast h x) :: r) := by
  rw [ev, at0, bag_ls, if_pos rfl, ev, Option.bind_some]
  show ((cs.map fun c => M.d (.int c)).getLast?.map fun m => (unR .ow m, List.set (.ow (bagM cs h x) :: r) 0 (.ow (.ls (List.set [.ls (cs.map fun c => M.d (.int c)), .d (.int h), .d (.int x)] 0 (.ls (cs.map fun c => M.d (.int c)).dropLast)))))) = _
  rw [getLast_map cs hc, drop_getLast]
  rfl
theorem draw_ok (T : Tbl) {m : M} {k : Int} (hm : BagOk m) (hk : 0 < k) (hl : k.natAbs.log2 < 9000) :
    Post (evDef T 4 drawB [.ow m, .int k]) fun r => ∃ i m', r = (.int i, .ow m') ∧ 0 ≤ i ∧ i < k ∧ BagOk m' := by
  obtain ⟨cs, h, x, rfl, hc, hh, hx0, hx1⟩ := hm
  apply def_run
  show Post (execs T drawB [.ow (bagM cs h x), .int k, .no, .no]) _
  unfold drawB
  apply run_cons
  rw [Ev.exec]
  refine post_mono (whl_inv (fun n ρ => ∃ cs h x r2, ρ = [.ow (bagM cs h x), .int k, r2, .no] ∧ cs.length = n ∧ n ≤ 63 ∧ 0 ≤ h ∧ 0 ≤ x ∧ x < 2147483647) (fun ρ => ∃ cs h x r2, ρ = [.ow (bagM cs h x), .int k, r2, .no] ∧ cs.length ≤ 63 ∧ 0 ≤ h ∧ 0 ≤ x ∧ x < 2147483647) ?step FU cs.length _ ?lt ⟨cs, h, x, .no, rfl, rfl, hc, hh, hx0, hx1⟩) ?rest
  case lt => unfold FU; omega
  case step =>
    clear cs h x hc hh hx0 hx1
    rintro n ρ ⟨cs, h, x, r2, rfl, rfl, hc, hh, hx0, hx1⟩
    by_cases h0 : h = 0
    · by_cases c0 : cs = []
      · have e0 : cs.isEmpty = true := by rw [c0]; rfl
        simp only [Ev.exec, ev, evs, evO, evTO, evAnd, evOr, evIt, seq2, asT, asB, asI, binF, cmpF, at0, at1, post_bind, post_map, post_some, post_nif, post_ifn, post_ifs, R.isBo, R.isOk, R.isOw, R.isD, ls_ls, eq_self, E.quiet, quiets, quietO, It.quiet, Option.bind_some, Option.map_some, Option.bind_none, Option.map_none, Bool.false_and, Bool.and_false, Bool.true_and, Bool.and_true, Bool.not_true, Bool.not_false, Bool.false_eq_true, if_true, if_false, ite_true, ite_false, reduceIte, eq_int, lt_int, le_int, add_int, sub_int, mul_int, neg_int, div_int, mod_int, pow_int, List.take_zero, List.drop_zero, List.all_cons, List.all_nil, List.any_cons, List.any_nil, List.set_cons_zero, List.set_cons_succ, not_true_eq_false, not_false_eq_true, true_and, and_true, biF, un1, intF, absF, setR, setRs, frz_lst, frz_d, frz_no, frz_fr, Bool.or_false, Bool.false_or, R.toM, tru_bl, decide_eq_true_eq, Nat.zero_le, List.map_cons, List.map_nil, List.length_cons, List.length_nil, ix_bag1, ix_bag0, ne_nil_bo, h0, decide_true, e0, ne_eq]
        exact ⟨_, _, _, _, rfl, hc, Int.le_refl _, hx0, hx1⟩
      · have e0 : cs.isEmpty = false := by cases cs with | nil => exact absurd rfl c0 | cons _ _ => rfl
        have ld : cs.dropLast.length < cs.length := by
          rw [List.length_dropLast]
          have : cs.length ≠ 0 := fun z => c0 (List.length_eq_zero_iff.mp z)
          omega
        simp only [Ev.exec, ev, evs, evO, evTO, evAnd, evOr, evIt, seq2, asT, asB, asI, binF, cmpF, at0, at1, post_bind, post_map, post_some, post_nif, post_ifn, post_ifs, R.isBo, R.isOk, R.isOw, R.isD, ls_ls, eq_self, E.quiet, quiets, quietO, It.quiet, Option.bind_some, Option.map_some, Option.bind_none, Option.map_none, Bool.false_and, Bool.and_false, Bool.true_and, Bool.and_true, Bool.not_true, Bool.not_false, Bool.false_eq_true, if_true, if_false, ite_true, ite_false, reduceIte, eq_int, lt_int, le_int, add_int, sub_int, mul_int, neg_int, div_int, mod_int, pow_int, List.take_zero, List.drop_zero, List.all_cons, List.all_nil, List.any_cons, List.any_nil, List.set_cons_zero, List.set_cons_succ, not_true_eq_false, not_false_eq_true, true_and, and_true, biF, un1, intF, absF, setR, setRs, frz_lst, frz_d, frz_no, frz_fr, Bool.or_false, Bool.false_or, R.toM, tru_bl, decide_eq_true_eq, Nat.zero_le, List.map_cons, List.map_nil, List.length_cons, List.length_nil, ix_bag1, ix_bag0, ne_nil_bo, h0, decide_true, e0, ne_eq]
        apply run_cons
        simp only [↓pop_bag _ _ _ c0, Ev.exec, ev, evs, evO, evTO, evAnd, evOr, evIt, seq2, asT, asB, asI, binF, cmpF, at0, at1, post_bind, post_map, post_some, post_nif, post_ifn, post_ifs, R.isBo, R.isOk, R.isOw, R.isD, ls_ls, eq_self, E.quiet, quiets, quietO, It.quiet, Option.bind_some, Option.map_some, Option.bind_none, Option.map_none, Bool.false_and, Bool.and_false, Bool.true_and, Bool.and_true, Bool.not_true, Bool.not_false, Bool.false_eq_true, if_true, if_false, ite_true, ite_false, reduceIte, eq_int, lt_int, le_int, add_int, sub_int, mul_int, neg_int, div_int, mod_int, pow_int, List.take_zero, List.drop_zero, List.all_cons, List.all_nil, List.any_cons, List.any_nil, List.set_cons_zero, List.set_cons_succ, not_true_eq_false, not_false_eq_true, true_and, and_true, biF, un1, intF, absF, setR, setRs, frz_lst, frz_d, frz_no, frz_fr, Bool.or_false, Bool.false_or, R.toM, tru_bl, decide_eq_true_eq, Nat.zero_le, List.map_cons, List.map_nil, List.length_cons, List.length_nil]
        apply run_cons
        have p9 : (0 : Int) ≤ 9 ∧ (9 : Int) ≤ 1000000 ∧ (10 : Int).natAbs < 2 ^ 64 := by decide
        simp only [Ev.exec, ev, evs, evO, evTO, evAnd, evOr, evIt, seq2, asT, asB, asI, binF, cmpF, at0, at1, post_bind, post_map, post_some, post_nif, post_ifn, post_ifs, R.isBo, R.isOk, R.isOw, R.isD, ls_ls, eq_self, E.quiet, quiets, quietO, It.quiet, Option.bind_some, Option.map_some, Option.bind_none, Option.map_none, Bool.false_and, Bool.and_false, Bool.true_and, Bool.and_true, Bool.not_true, Bool.not_false, Bool.false_eq_true, if_true, if_false, ite_true, ite_false, reduceIte, eq_int, lt_int, le_int, add_int, sub_int, mul_int, neg_int, div_int, mod_int, pow_int, List.take_zero, List.drop_zero, List.all_cons, List.all_nil, List.any_cons, List.any_nil, List.set_cons_zero, List.set_cons_succ, not_true_eq_false, not_false_eq_true, true_and, and_true, biF, un1, intF, absF, setR, setRs, frz_lst, frz_d, frz_no, frz_fr, Bool.or_false, Bool.false_or, R.toM, tru_bl, decide_eq_true_eq, Nat.zero_le, List.map_cons, List.map_nil, List.length_cons, List.length_nil, bag_ls, p9]
        by_cases hg : (10 : Int) ^ (9 : Int).toNat < cs.getLast c0
        · simp only [Ev.exec, ev, evs, evO, evTO, evAnd, evOr, evIt, seq2, asT, asB, asI, binF, cmpF, at0, at1, post_bind, post_map, post_some, post_nif, post_ifn, post_ifs, R.isBo, R.isOk, R.isOw, R.isD, ls_ls, eq_self, E.quiet, quiets, quietO, It.quiet, Option.bind_some, Option.map_some, Option.bind_none, Option.map_none, Bool.false_and, Bool.and_false, Bool.true_and, Bool.and_true, Bool.not_true, Bool.not_false, Bool.false_eq_true, if_true, if_false, ite_true, ite_false, reduceIte, eq_int, lt_int, le_int, add_int, sub_int, mul_int, neg_int, div_int, mod_int, pow_int, List.take_zero, List.drop_zero, List.all_cons, List.all_nil, List.any_cons, List.any_nil, List.set_cons_zero, List.set_cons_succ, not_true_eq_false, not_false_eq_true, true_and, and_true, biF, un1, intF, absF, setR, setRs, frz_lst, frz_d, frz_no, frz_fr, Bool.or_false, Bool.false_or, R.toM, tru_bl, decide_eq_true_eq, Nat.zero_le, List.map_cons, List.map_nil, List.length_cons, List.length_nil, hg, put_bag1, decide_true, run_nil]
          refine ⟨rfl, _, ld, _, _, _, _, rfl, rfl, by omega, ?_, hx0, hx1⟩
          have : (0 : Int) < 10 ^ (9 : Int).toNat := by decide
          omega
        · simp only [Ev.exec, ev, evs, evO, evTO, evAnd, evOr, evIt, seq2, asT, asB, asI, binF, cmpF, at0, at1, post_bind, post_map, post_some, post_nif, post_ifn, post_ifs, R.isBo, R.isOk, R.isOw, R.isD, ls_ls, eq_self, E.quiet, quiets, quietO, It.quiet, Option.bind_some, Option.map_some, Option.bind_none, Option.map_none, Bool.false_and, Bool.and_false, Bool.true_and, Bool.and_true, Bool.not_true, Bool.not_false, Bool.false_eq_true, if_true, if_false, ite_true, ite_false, reduceIte, eq_int, lt_int, le_int, add_int, sub_int, mul_int, neg_int, div_int, mod_int, pow_int, List.take_zero, List.drop_zero, List.all_cons, List.all_nil, List.any_cons, List.any_nil, List.set_cons_zero, List.set_cons_succ, not_true_eq_false, not_false_eq_true, true_and, and_true, biF, un1, intF, absF, setR, setRs, frz_lst, frz_d, frz_no, frz_fr, Bool.or_false, Bool.false_or, R.toM, tru_bl, decide_eq_true_eq, Nat.zero_le, List.map_cons, List.map_nil, List.length_cons, List.length_nil, hg, put_bag1, decide_false, run_nil]
          exact ⟨rfl, _, ld, _, _, _, _, rfl, rfl, by omega, Int.le_refl _, hx0, hx1⟩
    · simp only [Ev.exec, ev, evs, evO, evTO, evAnd, evOr, evIt, seq2, asT, asB, asI, binF, cmpF, at0, at1, post_bind, post_map, post_some, post_nif, post_ifn, post_ifs, R.isBo, R.isOk, R.isOw, R.isD, ls_ls, eq_self, E.quiet, quiets, quietO, It.quiet, Option.bind_some, Option.map_some, Option.bind_none, Option.map_none, Bool.false_and, Bool.and_false, Bool.true_and, Bool.and_true, Bool.not_true, Bool.not_false, Bool.false_eq_true, if_true, if_false, ite_true, ite_false, reduceIte, eq_int, lt_int, le_int, add_int, sub_int, mul_int, neg_int, div_int, mod_int, pow_int, List.take_zero, List.drop_zero, List.all_cons, List.all_nil, List.any_cons, List.any_nil, List.set_cons_zero, List.set_cons_succ, not_true_eq_false, not_false_eq_true, true_and, and_true, biF, un1, intF, absF, setR, setRs, frz_lst, frz_d, frz_no, frz_fr, Bool.or_false, Bool.false_or, R.toM, tru_bl, decide_eq_true_eq, Nat.zero_le, List.map_cons, List.map_nil, List.length_cons, List.length_nil, ix_bag1, h0, decide_false]
      exact ⟨_, _, _, _, rfl, hc, hh, hx0, hx1⟩
  case rest => 
    clear cs h x hc hh hx0 hx1
    rintro ⟨o, ρ⟩ ⟨ho, cs, h, x, r2, he, hc, hh, hx0, hx1⟩
    cases ho; cases he
    refine ⟨rfl, ?_⟩
    by_cases hg : 0 < h
    · apply run_cons'
      simp only [Ev.exec, ev, evs, evO, evTO, evAnd, evOr, evIt, seq2, asT, asB, asI, binF, cmpF, at0, at1, post_bind, post_map, post_some, post_nif, post_ifn, post_ifs, R.isBo, R.isOk, R.isOw, R.isD, ls_ls, eq_self, E.quiet, quiets, quietO, It.quiet, Option.bind_some, Option.map_some, Option.bind_none, Option.map_none, Bool.false_and, Bool.and_false, Bool.true_and, Bool.and_true, Bool.not_true, Bool.not_false, Bool.false_eq_true, if_true, if_false, ite_true, ite_false, reduceIte, eq_int, lt_int, le_int, add_int, sub_int, mul_int, neg_int, div_int, mod_int, pow_int, List.take_zero, List.drop_zero, List.all_cons, List.all_nil, List.any_cons, List.any_nil, List.set_cons_zero, List.set_cons_succ, not_true_eq_false, not_false_eq_true, true_and, and_true, biF, un1, intF, absF, setR, setRs, frz_lst, frz_d, frz_no, frz_fr, Bool.or_false, Bool.false_or, R.toM, tru_bl, decide_eq_true_eq, Nat.zero_le, List.map_cons, List.map_nil, List.length_cons, List.length_nil, ix_bag1, hg, decide_true]
      apply run_cons
      simp only [Ev.exec, ev, evs, evO, evTO, evAnd, evOr, evIt, seq2, asT, asB, asI, binF, cmpF, at0, at1, post_bind, post_map, post_some, post_nif, post_ifn, post_ifs, R.isBo, R.isOk, R.isOw, R.isD, ls_ls, eq_self, E.quiet, quiets, quietO, It.quiet, Option.bind_some, Option.map_some, Option.bind_none, Option.map_none, Bool.false_and, Bool.and_false, Bool.true_and, Bool.and_true, Bool.not_true, Bool.not_false, Bool.false_eq_true, if_true, if_false, ite_true, ite_false, reduceIte, eq_int, lt_int, le_int, add_int, sub_int, mul_int, neg_int, div_int, mod_int, pow_int, List.take_zero, List.drop_zero, List.all_cons, List.all_nil, List.any_cons, List.any_nil, List.set_cons_zero, List.set_cons_succ, not_true_eq_false, not_false_eq_true, true_and, and_true, biF, un1, intF, absF, setR, setRs, frz_lst, frz_d, frz_no, frz_fr, Bool.or_false, Bool.false_or, R.toM, tru_bl, decide_eq_true_eq, Nat.zero_le, List.map_cons, List.map_nil, List.length_cons, List.length_nil, ix_bag1, hk]
      apply run_cons
      simp only [Ev.exec, ev, evs, evO, evTO, evAnd, evOr, evIt, seq2, asT, asB, asI, binF, cmpF, at0, at1, post_bind, post_map, post_some, post_nif, post_ifn, post_ifs, R.isBo, R.isOk, R.isOw, R.isD, ls_ls, eq_self, E.quiet, quiets, quietO, It.quiet, Option.bind_some, Option.map_some, Option.bind_none, Option.map_none, Bool.false_and, Bool.and_false, Bool.true_and, Bool.and_true, Bool.not_true, Bool.not_false, Bool.false_eq_true, if_true, if_false, ite_true, ite_false, reduceIte, eq_int, lt_int, le_int, add_int, sub_int, mul_int, neg_int, div_int, mod_int, pow_int, List.take_zero, List.drop_zero, List.all_cons, List.all_nil, List.any_cons, List.any_nil, List.set_cons_zero, List.set_cons_succ, not_true_eq_false, not_false_eq_true, true_and, and_true, biF, un1, intF, absF, setR, setRs, frz_lst, frz_d, frz_no, frz_fr, Bool.or_false, Bool.false_or, R.toM, tru_bl, decide_eq_true_eq, Nat.zero_le, List.map_cons, List.map_nil, List.length_cons, List.length_nil, ix_bag1, bag_ls, hk, hl, put_bag1]
      apply run_ret
      simp only [Ev.exec, ev, evs, evO, evTO, evAnd, evOr, evIt, seq2, asT, asB, asI, binF, cmpF, at0, at1, post_bind, post_map, post_some, post_nif, post_ifn, post_ifs, R.isBo, R.isOk, R.isOw, R.isD, ls_ls, eq_self, E.quiet, quiets, quietO, It.quiet, Option.bind_some, Option.map_some, Option.bind_none, Option.map_none, Bool.false_and, Bool.and_false, Bool.true_and, Bool.and_true, Bool.not_true, Bool.not_false, Bool.false_eq_true, if_true, if_false, ite_true, ite_false, reduceIte, eq_int, lt_int, le_int, add_int, sub_int, mul_int, neg_int, div_int, mod_int, pow_int, List.take_zero, List.drop_zero, List.all_cons, List.all_nil, List.any_cons, List.any_nil, List.set_cons_zero, List.set_cons_succ, not_true_eq_false, not_false_eq_true, true_and, and_true, biF, un1, intF, absF, setR, setRs, frz_lst, frz_d, frz_no, frz_fr, Bool.or_false, Bool.false_or, R.toM, tru_bl, decide_eq_true_eq, Nat.zero_le, List.map_cons, List.map_nil, List.length_cons, List.length_nil]
      exact ⟨_, rfl, _, _, rfl, Int.emod_nonneg _ (by omega), Int.emod_lt_of_pos _ hk, cs, _, x, rfl, hc, Int.ediv_nonneg hh (by omega), hx0, hx1⟩
    · apply run_cons'
      simp only [Ev.exec, ev, evs, evO, evTO, evAnd, evOr, evIt, seq2, asT, asB, asI, binF, cmpF, at0, at1, post_bind, post_map, post_some, post_nif, post_ifn, post_ifs, R.isBo, R.isOk, R.isOw, R.isD, ls_ls, eq_self, E.quiet, quiets, quietO, It.quiet, Option.bind_some, Option.map_some, Option.bind_none, Option.map_none, Bool.false_and, Bool.and_false, Bool.true_and, Bool.and_true, Bool.not_true, Bool.not_false, Bool.false_eq_true, if_true, if_false, ite_true, ite_false, reduceIte, eq_int, lt_int, le_int, add_int, sub_int, mul_int, neg_int, div_int, mod_int, pow_int, List.take_zero, List.drop_zero, List.all_cons, List.all_nil, List.any_cons, List.any_nil, List.set_cons_zero, List.set_cons_succ, not_true_eq_false, not_false_eq_true, true_and, and_true, biF, un1, intF, absF, setR, setRs, frz_lst, frz_d, frz_no, frz_fr, Bool.or_false, Bool.false_or, R.toM, tru_bl, decide_eq_true_eq, Nat.zero_le, List.map_cons, List.map_nil, List.length_cons, List.length_nil, ix_bag1, hg, decide_false, run_nil]
      have b1 : x.natAbs < 2 ^ 31 := by omega
      have l1 := mul_ok b1 (show (48271 : Int).natAbs < 2 ^ 16 by decide) (by decide)
      have p1 : (0 : Int) < 2147483647 := by decide
      have p2 : (0 : Int) < 2147483629 := by decide
      have p3 : (0 : Int) < 7 ∧ (7 : Int).natAbs.log2 < 9000 := by decide
      apply run_cons
      simp only [Ev.exec, ev, evs, evO, evTO, evAnd, evOr, evIt, seq2, asT, asB, asI, binF, cmpF, at0, at1, post_bind, post_map, post_some, post_nif, post_ifn, post_ifs, R.isBo, R.isOk, R.isOw, R.isD, ls_ls, eq_self, E.quiet, quiets, quietO, It.quiet, Option.bind_some, Option.map_some, Option.bind_none, Option.map_none, Bool.false_and, Bool.and_false, Bool.true_and, Bool.and_true, Bool.not_true, Bool.not_false, Bool.false_eq_true, if_true, if_false, ite_true, ite_false, reduceIte, eq_int, lt_int, le_int, add_int, sub_int, mul_int, neg_int, div_int, mod_int, pow_int, List.take_zero, List.drop_zero, List.all_cons, List.all_nil, List.any_cons, List.any_nil, List.set_cons_zero, List.set_cons_succ, not_true_eq_false, not_false_eq_true, true_and, and_true, biF, un1, intF, absF, setR, setRs, frz_lst, frz_d, frz_no, frz_fr, Bool.or_false, Bool.false_or, R.toM, tru_bl, decide_eq_true_eq, Nat.zero_le, List.map_cons, List.map_nil, List.length_cons, List.length_nil, ix_bag2, bag_ls, l1, put_bag2, p1]
      apply run_ret
      have y0 := Int.emod_nonneg (x * 48271 + 13) (show (2147483647 : Int) ≠ 0 by decide)
      have y1 := Int.emod_lt_of_pos (x * 48271 + 13) p1
      generalize (x * 48271 + 13) % 2147483647 = y at y0 y1
      have b2 : y.natAbs < 2 ^ 31 := by omega
      have l2 := mul_ok b2 b2 (by decide)
      simp only [Ev.exec, ev, evs, evO, evTO, evAnd, evOr, evIt, seq2, asT, asB, asI, binF, cmpF, at0, at1, post_bind, post_map, post_some, post_nif, post_ifn, post_ifs, R.isBo, R.isOk, R.isOw, R.isD, ls_ls, eq_self, E.quiet, quiets, quietO, It.quiet, Option.bind_some, Option.map_some, Option.bind_none, Option.map_none, Bool.false_and, Bool.and_false, Bool.true_and, Bool.and_true, Bool.not_true, Bool.not_false, Bool.false_eq_true, if_true, if_false, ite_true, ite_false, reduceIte, eq_int, lt_int, le_int, add_int, sub_int, mul_int, neg_int, div_int, mod_int, pow_int, List.take_zero, List.drop_zero, List.all_cons, List.all_nil, List.any_cons, List.any_nil, List.set_cons_zero, List.set_cons_succ, not_true_eq_false, not_false_eq_true, true_and, and_true, biF, un1, intF, absF, setR, setRs, frz_lst, frz_d, frz_no, frz_fr, Bool.or_false, Bool.false_or, R.toM, tru_bl, decide_eq_true_eq, Nat.zero_le, List.map_cons, List.map_nil, List.length_cons, List.length_nil, ix_bag2, l2, hk, p2, p3]
      exact ⟨_, rfl, _, _, rfl, Int.emod_nonneg _ (by omega), Int.emod_lt_of_pos _ hk, cs, _, _, rfl, hc, hh, y0, y1⟩
/-- a list of ints, one of it -/
theorem pick_ok {T T' : Tbl} {f : Nat} {d : Fd} (hf : T[f]? = some d) (hio : d.io = true) (hg : d.g = evDef T' 4 drawB) {m : M} {is : List Int} (hm : BagOk m) (h0 : is ≠ []) (hl : is.length < 2 ^ 64) :
    Post (evDef T 2 (pickB f) [.ow m, .lst (is.map .int)]) fun r => ∃ i m', r = (.int i, .ow m') ∧ i ∈ is ∧ BagOk m' := by
  apply def_run
  show Post (execs T (pickB f) [.ow m, .lst (is.map .int)]) _
  unfold pickB
  apply run_cons
  simp only [Ev.exec, ev, evs, evO, evTO, evAnd, evOr, evIt, seq2, asT, asB, asI, binF, cmpF, at0, at1, post_bind, post_map, post_some, post_nif, post_ifn, post_ifs, R.isBo, R.isOk, R.isOw, R.isD, ls_ls, eq_self, E.quiet, quiets, quietO, It.quiet, Option.bind_some, Option.map_some, Option.bind_none, Option.map_none, Bool.false_and, Bool.and_false, Bool.true_and, Bool.and_true, Bool.not_true, Bool.not_false, Bool.false_eq_true, if_true, if_false, ite_true, ite_false, reduceIte, eq_int, lt_int, le_int, add_int, sub_int, mul_int, neg_int, div_int, mod_int, pow_int, List.take_zero, List.drop_zero, List.all_cons, List.all_nil, List.any_cons, List.any_nil, List.set_cons_zero, List.set_cons_succ, not_true_eq_false, not_false_eq_true, true_and, and_true, biF, un1, intF, absF, setR, setRs, frz_lst, frz_d, frz_no, frz_fr, Bool.or_false, Bool.false_or, R.toM, tru_bl, decide_eq_true_eq, Nat.zero_le, List.map_cons, List.map_nil, List.length_cons, List.length_nil]
  apply run_ret
  have p : 0 < is.length := List.length_pos_iff.mpr h0
  simp only [Ev.exec, ev, evs, evO, evTO, evAnd, evOr, evIt, seq2, asT, asB, asI, binF, cmpF, at0, at1, post_bind, post_map, post_some, post_nif, post_ifn, post_ifs, R.isBo, R.isOk, R.isOw, R.isD, ls_ls, eq_self, E.quiet, quiets, quietO, It.quiet, Option.bind_some, Option.map_some, Option.bind_none, Option.map_none, Bool.false_and, Bool.and_false, Bool.true_and, Bool.and_true, Bool.not_true, Bool.not_false, Bool.false_eq_true, if_true, if_false, ite_true, ite_false, reduceIte, eq_int, lt_int, le_int, add_int, sub_int, mul_int, neg_int, div_int, mod_int, pow_int, List.take_zero, List.drop_zero, List.all_cons, List.all_nil, List.any_cons, List.any_nil, List.set_cons_zero, List.set_cons_succ, not_true_eq_false, not_false_eq_true, true_and, and_true, biF, un1, intF, absF, setR, setRs, frz_lst, frz_d, frz_no, frz_fr, Bool.or_false, Bool.false_or, R.toM, tru_bl, decide_eq_true_eq, Nat.zero_le, List.map_cons, List.map_nil, List.length_cons, List.length_nil, lenF, hf, hio, hg, List.length_map]
  refine post_mono (draw_ok T' hm (by omega) ?_) ?_
  · have := log_le (a := 64) (show (is.length : Int).natAbs < 2 ^ 64 by omega)
    omega
  · rintro r ⟨i, m', rfl, i0, i1, hm'⟩
    simp only [Ev.exec, ev, evs, evO, evTO, evAnd, evOr, evIt, seq2, asT, asB, asI, binF, cmpF, at0, at1, post_bind, post_map, post_some, post_nif, post_ifn, post_ifs, R.isBo, R.isOk, R.isOw, R.isD, ls_ls, eq_self, E.quiet, quiets, quietO, It.quiet, Option.bind_some, Option.map_some, Option.bind_none, Option.map_none, Bool.false_and, Bool.and_false, Bool.true_and, Bool.and_true, Bool.not_true, Bool.not_false, Bool.false_eq_true, if_true, if_false, ite_true, ite_false, reduceIte, eq_int, lt_int, le_int, add_int, sub_int, mul_int, neg_int, div_int, mod_int, pow_int, List.take_zero, List.drop_zero, List.all_cons, List.all_nil, List.any_cons, List.any_nil, List.set_cons_zero, List.set_cons_succ, not_true_eq_false, not_false_eq_true, true_and, and_true, biF, un1, intF, absF, setR, setRs, frz_lst, frz_d, frz_no, frz_fr, Bool.or_false, Bool.false_or, R.toM, tru_bl, decide_eq_true_eq, Nat.zero_le, List.map_cons, List.map_nil, List.length_cons, List.length_nil, ix_dl, atI_map, atI_in i0 i1]
    exact ⟨_, rfl, _, _, rfl, List.getElem_mem _, hm'⟩
theorem cut_map {α β : Type} (f : α → β) (xs : List α) (lo hi : Option Int) : cutL (xs.map f) lo hi = (cutL xs lo hi).map f := by
  unfold cutL
  rw [List.length_map, List.map_take, List.map_drop]
theorem bag_ok (T : Tbl) (ns : List Int) (hl : ns.length ≤ 63) : Post (evDef T 4 bagB [.fr (.sq (ns.map .int))]) fun r => ∃ m, r.1 = .ow m ∧ BagOk m := by
  apply def_run
  show Post (execs T bagB [.fr (.sq (ns.map .int)), .no, .no, .no]) _
  unfold bagB
  apply run_cons
  simp only [Ev.exec, ev, evs, evO, evTO, evAnd, evOr, evIt, seq2, asT, asB, asI, binF, cmpF, at0, at1, post_bind, post_map, post_some, post_nif, post_ifn, post_ifs, R.isBo, R.isOk, R.isOw, R.isD, ls_ls, eq_self, E.quiet, quiets, quietO, It.quiet, Option.bind_some, Option.map_some, Option.bind_none, Option.map_none, Bool.false_and, Bool.and_false, Bool.true_and, Bool.and_true, Bool.not_true, Bool.not_false, Bool.false_eq_true, if_true, if_false, ite_true, ite_false, reduceIte, eq_int, lt_int, le_int, add_int, sub_int, mul_int, neg_int, div_int, mod_int, pow_int, List.take_zero, List.drop_zero, List.all_cons, List.all_nil, List.any_cons, List.any_nil, List.set_cons_zero, List.set_cons_succ, not_true_eq_false, not_false_eq_true, true_and, and_true, biF, un1, intF, absF, setR, setRs, frz_lst, frz_d, frz_no, frz_fr, Bool.or_false, Bool.false_or, R.toM, tru_bl, decide_eq_true_eq, Nat.zero_le, List.map_cons, List.map_nil, List.length_cons, List.length_nil, wipeE, itemsF, slcF, reads_sq, cut_map, reads_lst]
  have hc : (cutL ns none (some 63)).length ≤ 63 := by
    unfold cutL
    rw [List.length_take, List.length_drop]
    omega
  generalize cutL ns none (some 63) = cs at hc
  rw [List.map_map]
  refine post_eq (compGo_map (R.d ∘ PyData.int) (fun i => some (.d (.int (if i < 0 then -i else i)))) _ cs [] (fun i _ => ⟨_, _, rfl, rfl, rfl⟩) (by rw [List.length_nil, sizeLine_eq]; omega)) ?_
  rw [fm_map, List.nil_append, dmap]
  have hd : ∀ i ∈ cs.map fun i => if i < 0 then -i else i, 0 ≤ i := fun i hi => by
    obtain ⟨j, _, rfl⟩ := List.mem_map.mp hi
    split <;> omega
  have he : (cs.map fun i => if i < 0 then -i else i).length ≤ 63 := by rw [List.length_map]; exact hc
  generalize (cs.map fun i => if i < 0 then -i else i) = ds at hd he
  apply run_cons
  simp only [Ev.exec, ev, evs, evO, evTO, evAnd, evOr, evIt, seq2, asT, asB, asI, binF, cmpF, at0, at1, post_bind, post_map, post_some, post_nif, post_ifn, post_ifs, R.isBo, R.isOk, R.isOw, R.isD, ls_ls, eq_self, E.quiet, quiets, quietO, It.quiet, Option.bind_some, Option.map_some, Option.bind_none, Option.map_none, Bool.false_and, Bool.and_false, Bool.true_and, Bool.and_true, Bool.not_true, Bool.not_false, Bool.false_eq_true, if_true, if_false, ite_true, ite_false, reduceIte, eq_int, lt_int, le_int, add_int, sub_int, mul_int, neg_int, div_int, mod_int, pow_int, List.take_zero, List.drop_zero, List.all_cons, List.all_nil, List.any_cons, List.any_nil, List.set_cons_zero, List.set_cons_succ, not_true_eq_false, not_false_eq_true, true_and, and_true, biF, un1, intF, absF, setR, setRs, frz_lst, frz_d, frz_no, frz_fr, Bool.or_false, Bool.false_or, R.toM, tru_bl, decide_eq_true_eq, Nat.zero_le, List.map_cons, List.map_nil, List.length_cons, List.length_nil, backE, len_bo, List.length_map]
  apply run_cons
  simp only [Ev.exec, ev, evs, evO, evTO, evAnd, evOr, evIt, seq2, asT, asB, asI, binF, cmpF, at0, at1, post_bind, post_map, post_some, post_nif, post_ifn, post_ifs, R.isBo, R.isOk, R.isOw, R.isD, ls_ls, eq_self, E.quiet, quiets, quietO, It.quiet, Option.bind_some, Option.map_some, Option.bind_none, Option.map_none, Bool.false_and, Bool.and_false, Bool.true_and, Bool.and_true, Bool.not_true, Bool.not_false, Bool.false_eq_true, if_true, if_false, ite_true, ite_false, reduceIte, eq_int, lt_int, le_int, add_int, sub_int, mul_int, neg_int, div_int, mod_int, pow_int, List.take_zero, List.drop_zero, List.all_cons, List.all_nil, List.any_cons, List.any_nil, List.set_cons_zero, List.set_cons_succ, not_true_eq_false, not_false_eq_true, true_and, and_true, biF, un1, intF, absF, setR, setRs, frz_lst, frz_d, frz_no, frz_fr, Bool.or_false, Bool.false_or, R.toM, tru_bl, decide_eq_true_eq, Nat.zero_le, List.map_cons, List.map_nil, List.length_cons, List.length_nil]
  apply run_cons
  simp only [Ev.exec, ev, evs, evO, evTO, evAnd, evOr, evIt, seq2, asT, asB, asI, binF, cmpF, at0, at1, post_bind, post_map, post_some, post_nif, post_ifn, post_ifs, R.isBo, R.isOk, R.isOw, R.isD, ls_ls, eq_self, E.quiet, quiets, quietO, It.quiet, Option.bind_some, Option.map_some, Option.bind_none, Option.map_none, Bool.false_and, Bool.and_false, Bool.true_and, Bool.and_true, Bool.not_true, Bool.not_false, Bool.false_eq_true, if_true, if_false, ite_true, ite_false, reduceIte, eq_int, lt_int, le_int, add_int, sub_int, mul_int, neg_int, div_int, mod_int, pow_int, List.take_zero, List.drop_zero, List.all_cons, List.all_nil, List.any_cons, List.any_nil, List.set_cons_zero, List.set_cons_succ, not_true_eq_false, not_false_eq_true, true_and, and_true, biF, un1, intF, absF, setR, setRs, frz_lst, frz_d, frz_no, frz_fr, Bool.or_false, Bool.false_or, R.toM, tru_bl, decide_eq_true_eq, Nat.zero_le, List.map_cons, List.map_nil, List.length_cons, List.length_nil, itemsF, reads_dl]
  rw [List.map_map]
  refine post_mono (forGo_map (R.d ∘ PyData.int) (fun _ ρ => ∃ x r3, ρ = [.fr (.sq (ns.map .int)), .d (.list (ds.map .int)), .int x, r3] ∧ 0 ≤ x ∧ x < 2147483647) ?_ ds _ ⟨_, _, rfl, by omega, by omega⟩) ?_
  · rintro i is ρ ⟨x, r3, rfl, x0, x1⟩
    have b1 : x.natAbs < 2 ^ 31 := by omega
    have l1 := mul_ok b1 (show (48271 : Int).natAbs < 2 ^ 16 by decide) (by decide)
    have p1 : (0 : Int) < 2147483647 := by decide
    have p2 : (0 : Int) < 2147483629 := by decide
    simp only [tgF, Function.comp_apply, post_some, List.set_cons_succ, List.set_cons_zero]
    apply run_cons
    simp only [Ev.exec, ev, evs, evO, evTO, evAnd, evOr, evIt, seq2, asT, asB, asI, binF, cmpF, at0, at1, post_bind, post_map, post_some, post_nif, post_ifn, post_ifs, R.isBo, R.isOk, R.isOw, R.isD, ls_ls, eq_self, E.quiet, quiets, quietO, It.quiet, Option.bind_some, Option.map_some, Option.bind_none, Option.map_none, Bool.false_and, Bool.and_false, Bool.true_and, Bool.and_true, Bool.not_true, Bool.not_false, Bool.false_eq_true, if_true, if_false, ite_true, ite_false, reduceIte, eq_int, lt_int, le_int, add_int, sub_int, mul_int, neg_int, div_int, mod_int, pow_int, List.take_zero, List.drop_zero, List.all_cons, List.all_nil, List.any_cons, List.any_nil, List.set_cons_zero, List.set_cons_succ, not_true_eq_false, not_false_eq_true, true_and, and_true, biF, un1, intF, absF, setR, setRs, frz_lst, frz_d, frz_no, frz_fr, Bool.or_false, Bool.false_or, R.toM, tru_bl, decide_eq_true_eq, Nat.zero_le, List.map_cons, List.map_nil, List.length_cons, List.length_nil, l1, p1, p2, run_nil]
    exact ⟨_, _, rfl, Int.emod_nonneg _ (by decide), Int.emod_lt_of_pos _ p1⟩
  · rintro ⟨o, ρ⟩ ⟨ho, x, r3, he2, x0, x1⟩
    cases ho; cases he2
    refine ⟨rfl, ?_⟩
    apply run_ret
    simp only [Ev.exec, ev, evs, evO, evTO, evAnd, evOr, evIt, seq2, asT, asB, asI, binF, cmpF, at0, at1, post_bind, post_map, post_some, post_nif, post_ifn, post_ifs, R.isBo, R.isOk, R.isOw, R.isD, ls_ls, eq_self, E.quiet, quiets, quietO, It.quiet, Option.bind_some, Option.map_some, Option.bind_none, Option.map_none, Bool.false_and, Bool.and_false, Bool.true_and, Bool.and_true, Bool.not_true, Bool.not_false, Bool.false_eq_true, if_true, if_false, ite_true, ite_false, reduceIte, eq_int, lt_int, le_int, add_int, sub_int, mul_int, neg_int, div_int, mod_int, pow_int, List.take_zero, List.drop_zero, List.all_cons, List.all_nil, List.any_cons, List.any_nil, List.set_cons_zero, List.set_cons_succ, not_true_eq_false, not_false_eq_true, true_and, and_true, biF, un1, intF, absF, setR, setRs, frz_lst, frz_d, frz_no, frz_fr, Bool.or_false, Bool.false_or, R.toM, tru_bl, decide_eq_true_eq, Nat.zero_le, List.map_cons, List.map_nil, List.length_cons, List.length_nil, rev_dl]
    refine ⟨by rw [sizeLine_eq]; decide, _, rfl, _, rfl, ds.reverse, 0, x, ?_, by rw [List.length_reverse]; exact he, Int.le_refl _, x0, x1⟩
    rw [← List.map_reverse, List.map_map]
    rfl
end Ev
end
section
set_option Elab.async false
set_option linter.all false
set_option maxRecDepth 100000
namespace Ev
open PySem L2
/-! ### repr -/
theorem ok_of (s : String) : PyData.strOk (Str.ofString s) = true := by
  rw [Str.ofString_eq_toList]
  unfold PyData.strOk
  rw [List.all_toArray, List.all_map, List.all_eq_true]
  intro c _
  have := c.valid
  simp only [Function.comp_apply, decide_eq_true_eq]
  have h : c.toNat < 0x110000 := by
    rcases this with h | h
    · exact Nat.lt_trans h (by decide)
    · exact h.2
  exact h
theorem ok_app (x y : Str) : PyData.strOk (x ++ y) = (PyData.strOk x && PyData.strOk y) := by
  show (x.cps ++ y.cps).all _ = _
  rw [Array.all_append]
  rfl
theorem ok_from : ∀ (ts : List Str) (k : Nat) (acc : Str), PyData.strOk acc = true → (∀ t ∈ ts, PyData.strOk t = true) → PyData.strOk (textFrom k acc ts) = true
  | [], _, acc, h, _ => h
  | t :: ts, k, acc, h, ht => by
    refine ok_from ts (k + 1) _ ?_ fun u hu => ht u (List.mem_cons_of_mem _ hu)
    rw [ok_app, ok_app, h, ht t List.mem_cons_self]
    have e : PyData.strOk ((if k > 0 then ", " else "" : String) : Str) = true := ok_of _
    rw [e]; rfl
theorem ok_list (ts : List Str) (h : ∀ t ∈ ts, PyData.strOk t = true) : PyData.strOk (listText ts) = true := by
  unfold listText
  rw [ok_app, ok_from ts 0 _ (ok_of _) h]
  exact ok_of _
theorem ok_join : ∀ (ts : List Str), (∀ t ∈ ts, PyData.strOk t = true) → PyData.strOk (Str.join ", " ts) = true
  | [], _ => by decide +kernel
  | [t], h => h t List.mem_cons_self
  | t :: u :: r, h => by
    show PyData.strOk (t ++ ", " ++ Str.join ", " (u :: r)) = true
    rw [ok_app, ok_app, h t List.mem_cons_self, ok_join (u :: r) fun x hx => h x (List.mem_cons_of_mem _ hx)]
    have e : PyData.strOk ((", " : String) : Str) = true := ok_of _
    rw [e]; rfl
theorem ok_tuple (ts : List Str) (h : ∀ t ∈ ts, PyData.strOk t = true) : PyData.strOk (tupleText ts) = true := by
  unfold tupleText
  rw [ok_app, ok_app, ok_join ts h]
  have e1 : PyData.strOk (("(" : String) : Str) = true := ok_of _
  have e2 : PyData.strOk ((if ts.length == 1 then ",)" else ")" : String) : Str) = true := ok_of _
  rw [e1, e2]; rfl
/-- no text, no dict within it -/
def noS : PyData → Bool
  | .str _ => false
  | .dict _ => false
  | .list xs => noSs xs
  | .tuple xs => noSs xs
  | _ => true
where noSs : List PyData → Bool
  | [] => true
  | x :: xs => noS x && noSs xs
mutual
theorem ok_shown : ∀ d : PyData, noS d = true → PyData.strOk d.shown = true
  | .none, _ => by simp only [PyData.shown]; exact ok_of _
  | .bool b, _ => by simp only [PyData.shown]; cases b <;> exact ok_of _
  | .int i, _ => by simp only [PyData.shown]; exact ok_of _
  | .str _, h => by simp [noS] at h
  | .dict _, h => by simp [noS] at h
  | .list xs, h => by simp only [PyData.shown]; exact ok_list _ (ok_showns xs (by simpa [noS] using h))
  | .tuple xs, h => by simp only [PyData.shown]; exact ok_tuple _ (ok_showns xs (by simpa [noS] using h))
theorem ok_showns : ∀ ds : List PyData, noS.noSs ds = true → ∀ t ∈ PyData.shownAll ds, PyData.strOk t = true
  | [], _ => by simp [PyData.shownAll]
  | d :: ds, h => by
    have h' : noS d = true ∧ noS.noSs ds = true := by simpa [noS.noSs] using h
    intro t ht
    simp only [PyData.shownAll, List.mem_cons] at ht
    rcases ht with rfl | ht
    · exact ok_shown d h'.1
    · exact ok_showns ds h'.2 t ht
end
mutual
theorem lay_noS : ∀ d : PyData, noS d = true → d.canLay0 = true
  | .none, _ => rfl
  | .bool b, _ => rfl
  | .int i, _ => rfl
  | .str _, h => by simp [noS] at h
  | .dict _, h => by simp [noS] at h
  | .list xs, h => by simp only [PyData.canLay0]; exact lay_noSs xs (by simpa [noS] using h)
  | .tuple xs, h => by simp only [PyData.canLay0]; exact lay_noSs xs (by simpa [noS] using h)
theorem lay_noSs : ∀ ds : List PyData, noS.noSs ds = true → PyData.canLayAll0 ds = true
  | [], _ => rfl
  | d :: ds, h => by
    have h' : noS d = true ∧ noS.noSs ds = true := by simpa [noS.noSs] using h
    simp only [PyData.canLayAll0, lay_noS d h'.1, lay_noSs ds h'.2, Bool.and_self]
end
/-- may be shown: no texts, no great ints, flat, short -/
structure OkR (k c : Nat) (x : PyData) : Prop where
  s : noS x = true
  b : showB x = true
  d : x.depth ≤ k
  c : cost x ≤ c
structure OkRs (k c : Nat) (xs : List PyData) : Prop where
  s : noS.noSs xs = true
  b : showB.showBs xs = true
  d : PyData.depthAll xs ≤ k
  c : cost.costs xs ≤ c
theorem OkRs.nil (k : Nat) : OkRs k 0 [] := ⟨rfl, rfl, Nat.zero_le _, Nat.le_refl _⟩
theorem OkRs.cons {k a c : Nat} {x : PyData} {xs : List PyData} (h : OkR k a x) (t : OkRs k c xs) : OkRs k (a + 2 + c) (x :: xs) :=
  ⟨by rw [noS.noSs, h.s, t.s]; rfl, by rw [showB.showBs, h.b, t.b]; rfl, by simp only [PyData.depthAll]; exact Nat.max_le.mpr ⟨h.d, t.d⟩, by
    have := h.c
    have := t.c
    rw [cost.costs]; omega⟩
theorem OkRs.list {k c : Nat} {xs : List PyData} (t : OkRs k c xs) : OkR (k + 1) (c + 3) (.list xs) :=
  ⟨by rw [noS, t.s], by rw [showB, t.b], by simp only [PyData.depth]; exact Nat.succ_le_succ t.d, by rw [cost]; exact Nat.add_le_add_right t.c 3⟩
theorem OkRs.tuple {k c : Nat} {xs : List PyData} (t : OkRs k c xs) : OkR (k + 1) (c + 3) (.tuple xs) :=
  ⟨by rw [noS, t.s], by rw [showB, t.b], by simp only [PyData.depth]; exact Nat.succ_le_succ t.d, by rw [cost]; exact Nat.add_le_add_right t.c 3⟩
theorem OkR.mono {k k' c c' : Nat} {x : PyData} (h : OkR k c x) (hk : k ≤ k') (hc : c ≤ c') : OkR k' c' x := ⟨h.s, h.b, Nat.le_trans h.d hk, Nat.le_trans h.c hc⟩
theorem OkR.int {i : Int} {b : Nat} (h : i.natAbs < 2 ^ b) (hb : b < 12000) : OkR 0 (b + 2) (.int i) :=
  ⟨rfl, by rw [showB]; exact decide_eq_true (Nat.lt_of_le_of_lt (log_le h) hb), Nat.le_refl _, by rw [cost]; exact Nat.add_le_add_right (log_le h) 2⟩
theorem OkRs.ints {b : Nat} (hb : b < 12000) : ∀ {is : List Int}, (∀ i ∈ is, i.natAbs < 2 ^ b) → OkRs 0 (is.length * (b + 4)) (is.map .int)
  | [], _ => by rw [List.length_nil, Nat.zero_mul]; exact OkRs.nil 0
  | i :: is, h => by
    have t := OkRs.ints hb (is := is) fun j hj => h j (List.mem_cons_of_mem _ hj)
    have := OkRs.cons (OkR.int (h i List.mem_cons_self) hb) t
    rw [List.length_cons, Nat.succ_mul, Nat.add_comm (is.length * (b + 4))]
    exact this
theorem repr_ok {r : R} {x : PyData} {k c : Nat} (hd : r.data = some x) (hs : isSeq x = true) (h : OkR k c x) (hk : k ≤ 64) (hc : c ≤ sizeLine) : reprF r = some (.str x.shown) := by
  unfold reprF
  rw [hd, Option.bind_some, if_pos ⟨hs, h.b, lay_noS x h.s, Nat.le_trans h.d hk, Nat.le_trans h.c hc⟩]
theorem eq_shown {x : PyData} (h : noS x = true) : eqF (.d (.str x.shown)) (.d (.str x.shown)) = some true := by
  have s : SeqAt.shaped (.str x.shown) = true := by
    have := ok_shown x h
    simp [SeqAt.shaped, PyData.canLay0, PyData.depth, this]
  show (if SeqAt.shaped (.str x.shown) = true ∧ SeqAt.shaped (.str x.shown) = true then some (PyData.eqv (.str x.shown) (.str x.shown)) else none) = _
  rw [if_pos ⟨s, s⟩, PyData.eqv, beq_self_eq_true]
/-- [x, x] -/
theorem repr_two {x : PyData} {k c : Nat} (h : OkR k c x) (hk : k ≤ 60) (hc : c ≤ 8000000) : reprF (.ow (.ls [.d x, .d x])) = some (.str (PyData.list [x, x]).shown) :=
  repr_ok (by show M.data (.ls [.d x, .d x]) = _; rw [M.data, M.datas, M.data, M.datas, M.data, M.datas]; rfl) rfl ((OkRs.cons h (OkRs.cons h (OkRs.nil k))).list) (by omega) (by rw [sizeLine_eq]; omega)
theorem eq_two {x : PyData} {k c : Nat} (h : OkR k c x) : eqF (.d (.str (PyData.list [x, x]).shown)) (.d (.str (PyData.list [x, x]).shown)) = some true :=
  eq_shown (OkRs.cons h (OkRs.cons h (OkRs.nil k))).list.s
/-! ### ranges -/
def rgI (a b : Int) : List Int := (List.range (b - a).toNat).map fun i : Nat => a + (i : Int)
theorem rgL_ints (a b : Int) : rgL a b = (rgI a b).map .int := by
  unfold rgL rgI
  rw [List.map_map]; rfl
theorem rgI_len (a b : Int) : (rgI a b).length = (b - a).toNat := by
  unfold rgI
  rw [List.length_map, List.length_range]
theorem mem_rgI {a b i : Int} : i ∈ rgI a b ↔ a ≤ i ∧ i < b := by
  unfold rgI
  rw [List.mem_map]
  constructor
  · rintro ⟨j, hj, rfl⟩
    have := List.mem_range.mp hj
    omega
  · rintro ⟨h1, h2⟩
    exact ⟨(i - a).toNat, List.mem_range.mpr (by omega), by omega⟩
theorem rgI_cons {a b : Int} (h : a < b) : rgI a b = a :: rgI (a + 1) b := by
  unfold rgI
  have e : (b - a).toNat = (b - (a + 1)).toNat + 1 := by omega
  rw [e, List.range_succ_eq_map, List.map_cons, List.map_map]
  congr 1
  · simp
  · apply List.map_congr_left
    intro j _
    simp only [Function.comp_apply]
    omega
theorem rgI_nil {a b : Int} (h : b ≤ a) : rgI a b = [] := by
  unfold rgI
  rw [show (b - a).toNat = 0 by omega]; rfl
theorem rg1 (n : Int) : rgF [.d (.int n)] = if -(2 ^ 62) ≤ n ∧ n < 2 ^ 62 then some (0, n) else none := rfl
theorem rg2 (a b : Int) : rgF [.d (.int a), .d (.int b)] = if -(2 ^ 62) ≤ a ∧ a < 2 ^ 62 ∧ -(2 ^ 62) ≤ b ∧ b < 2 ^ 62 then some (a, b) else none := rfl
theorem rgD_ints {a b : Int} (h : (b - a).toNat ≤ sizeLine) : rgD (a, b) = some ((rgI a b).map .int) := by
  unfold rgD
  rw [if_pos h, rgL_ints]
theorem zip_ints : ∀ xs ys : List Int, zipL (xs.map .int) (ys.map .int) = (xs.zip ys).map fun p => R.tup [.int p.1, .int p.2]
  | [], ys => by cases ys <;> rfl
  | _ :: _, [] => rfl
  | x :: xs, y :: ys => by
    show R.tup [.int x, .int y] :: zipL (xs.map .int) (ys.map .int) = _
    rw [zip_ints xs ys]; rfl
theorem zipF_ints (xs ys : List Int) : zipF (.ow (.ls ((xs.map PyData.int).map M.d))) (.ow (.ls ((ys.map PyData.int).map M.d))) = some ⟨(xs.zip ys).map fun p => R.tup [.int p.1, .int p.2], false⟩ := by
  unfold zipF
  rw [leafs_lst, leafs_lst, Option.bind_some, Option.bind_some]
  show some _ = _
  rw [zip_ints]; rfl
/-- a comprehension whose body changes nothing -/
theorem compGo_same {α : Type} {g : Tg} {vs : List Nat} {body : Env → Option (Option M × Env)} (k : α → R) (h : α → Option M) (ρ0 : Env) (ps : List α)
    (hs : ∀ p ∈ ps, ∃ ρ1, tgF g (k p) ρ0 = some ρ1 ∧ wipeE ρ1 vs = ρ0 ∧ body ρ1 = some (h p, ρ1)) (hl : ps.length ≤ sizeLine) : compGo g vs body (ps.map k) [] ρ0 = some (ps.filterMap h, ρ0) := by
  have := compGo_map (vs := vs) k h ρ0 ps [] (fun p m => let ⟨ρ1, e1, e2, e3⟩ := hs p m; ⟨ρ1, ρ1, e1, e3, e2⟩) (by rw [List.length_nil]; omega)
  rwa [List.nil_append] at this
/-- a comprehension whose test and item change nothing, as a whole -/
theorem ev_comp {T : Tbl} {own : List (Str × Nat)} {g : Tg} {it : It} {t : Option E} {e : E} {ρ ρ1 : Env} {α : Type} (k : α → R) (h : α → Option M) (ps : List α) (held : Bool)
    (hit : evIt T it ρ = some (⟨ps.map k, held⟩, ρ1)) (hq : (held && !(quietO t && e.quiet)) = false) (ho : ((own.map (·.2)).any fun v => match ρ1.at_ v with | .ow _ => true | _ => false) = false)
    (hs : ∀ p ∈ ps, ∃ ρ2, tgF g (k p) (wipeE ρ1 (own.map (·.2))) = some ρ2 ∧ wipeE ρ2 (own.map (·.2)) = wipeE ρ1 (own.map (·.2)) ∧
      ((evTO T t ρ2).bind fun z => if z.1 = true then (ev T e z.2).bind fun y => if y.1.isOw then some (some y.1.toM, y.2) else none else some (none, z.2)) = some (h p, ρ2)) (hl : ps.length ≤ sizeLine) :
    ev T (.comp own g it t e) ρ = some (.ow (.ls (ps.filterMap h)), backE (wipeE ρ1 (own.map (·.2))) ρ1 (own.map (·.2))) := by
  rw [ev, hit, Option.bind_some]
  dsimp only
  rw [hq]
  refine Eq.trans (if_neg ?c) ?r
  case c =>
    rw [Bool.false_or]
    intro z
    exact Bool.noConfusion (ho.symm.trans z)
  case r =>
    rw [compGo_same k h _ ps hs hl]
    rfl
theorem sz1 : (0 + 1 ≤ sizeLine) = True := by rw [sizeLine_eq]; decide
theorem sz2 : (0 + 1 + 1 ≤ sizeLine) = True := by rw [sizeLine_eq]; decide
theorem sz3 : (0 + 1 + 1 + 1 ≤ sizeLine) = True := by rw [sizeLine_eq]; decide
theorem sz4 : (0 + 1 + 1 + 1 + 1 ≤ sizeLine) = True := by rw [sizeLine_eq]; decide
theorem sz5 : (0 + 1 + 1 + 1 + 1 + 1 ≤ sizeLine) = True := by rw [sizeLine_eq]; decide
theorem sz6 : (0 + 1 + 1 + 1 + 1 + 1 + 1 ≤ sizeLine) = True := by rw [sizeLine_eq]; decide
theorem sz7 : (0 + 1 + 1 + 1 + 1 + 1 + 1 + 1 ≤ sizeLine) = True := by rw [sizeLine_eq]; decide
theorem sz8 : (0 + 1 + 1 + 1 + 1 + 1 + 1 + 1 + 1 ≤ sizeLine) = True := by rw [sizeLine_eq]; decide
theorem sz9 : (0 + 1 + 1 + 1 + 1 + 1 + 1 + 1 + 1 + 1 ≤ sizeLine) = True := by rw [sizeLine_eq]; decide
theorem sz10 : (0 + 1 + 1 + 1 + 1 + 1 + 1 + 1 + 1 + 1 + 1 ≤ sizeLine) = True := by rw [sizeLine_eq]; decide
theorem sz11 : (0 + 1 + 1 + 1 + 1 + 1 + 1 + 1 + 1 + 1 + 1 + 1 ≤ sizeLine) = True := by rw [sizeLine_eq]; decide
theorem sz12 : (0 + 1 + 1 + 1 + 1 + 1 + 1 + 1 + 1 + 1 + 1 + 1 + 1 ≤ sizeLine) = True := by rw [sizeLine_eq]; decide
theorem sz13 : (0 + 1 + 1 + 1 + 1 + 1 + 1 + 1 + 1 + 1 + 1 + 1 + 1 + 1 ≤ sizeLine) = True := by rw [sizeLine_eq]; decide
theorem sz14 : (0 + 1 + 1 + 1 + 1 + 1 + 1 + 1 + 1 + 1 + 1 + 1 + 1 + 1 + 1 ≤ sizeLine) = True := by rw [sizeLine_eq]; decide
theorem sz15 : (0 + 1 + 1 + 1 + 1 + 1 + 1 + 1 + 1 + 1 + 1 + 1 + 1 + 1 + 1 + 1 ≤ sizeLine) = True := by rw [sizeLine_eq]; decide
theorem sz16 : (0 + 1 + 1 + 1 + 1 + 1 + 1 + 1 + 1 + 1 + 1 + 1 + 1 + 1 + 1 + 1 + 1 ≤ sizeLine) = True := by rw [sizeLine_eq]; decide
end Ev
end
section
set_option Elab.async false
set_option linter.all false
set_option maxRecDepth 100000
/-! Tuples of numbers, sorted. -/
namespace Ev
open PySem L2
def I (x : Nat) : PyData := .int (x : Int)
def tupN (l : List Nat) : PyData := .tuple (l.map I)
/-- a tuple of numbers is less than another one -/
def ltN : List Nat → List Nat → Bool
  | [], [] => false
  | [], _ :: _ => true
  | _ :: _, [] => false
  | x :: xs, y :: ys => if x = y then ltN xs ys else decide (x < y)
theorem ltN_eq : ∀ xs ys : List Nat, PyProof.Rows.lexLt PyProof.Rows.itemOrd (PySem.W.keyToksAll (xs.map I)) (PySem.W.keyToksAll (ys.map I)) = ltN xs ys
  | [], [] => rfl
  | [], y :: ys => rfl
  | x :: xs, [] => rfl
  | x :: xs, y :: ys => by
    rw [List.map_cons, List.map_cons, PySem.W.dataLt_cons (by rfl), ltN_eq xs ys, ltN]
    unfold I
    rw [PyData.eqv, PySem.W.dataLt_int]
    by_cases h : x = y
    · subst h
      rw [if_pos rfl, if_pos (by simp)]
    · rw [if_neg h, if_neg (by simp; omega)]
      by_cases h2 : x < y
      · rw [decide_eq_true h2, decide_eq_true (by omega)]
      · rw [decide_eq_false h2, decide_eq_false (by omega)]
theorem lt_tupN (xs ys : List Nat) : PySem.W.dataLt (tupN xs) (tupN ys) = ltN xs ys := by
  unfold tupN
  rw [PySem.W.dataLt_tuple, ltN_eq]
def leN (xs ys : List Nat) : Bool := !ltN ys xs
theorem le_tupN (xs ys : List Nat) : leN xs ys = leD (tupN xs) (tupN ys) := by
  unfold leN leD
  rw [lt_tupN]
theorem leN_anti : ∀ xs ys : List Nat, leN xs ys = true → leN ys xs = true → xs = ys
  | [], [], _, _ => rfl
  | [], _ :: _, _, h => by cases h
  | _ :: _, [], h, _ => by cases h
  | x :: xs, y :: ys, h1, h2 => by
    unfold leN ltN at h1 h2
    by_cases e : x = y
    · subst e
      rw [if_pos rfl] at h1 h2
      rw [leN_anti xs ys h1 h2]
    · rw [if_neg (fun z => e z.symm)] at h1
      rw [if_neg e] at h2
      simp at h1 h2
      omega
theorem leN_total : ∀ xs ys : List Nat, (leN xs ys || leN ys xs) = true
  | [], [] => rfl
  | [], _ :: _ => rfl
  | _ :: _, [] => rfl
  | x :: xs, y :: ys => by
    unfold leN ltN
    by_cases e : x = y
    · subst e
      rw [if_pos rfl, if_pos rfl]
      exact leN_total xs ys
    · rw [if_neg (fun z => e z.symm), if_neg e]
      simp
      omega
theorem leN_trans : ∀ xs ys zs : List Nat, leN xs ys = true → leN ys zs = true → leN xs zs = true
  | [], _, [], _, _ => rfl
  | [], _, _ :: _, _, _ => rfl
  | _ :: _, [], _, h, _ => by cases h
  | _ :: _, _ :: _, [], _, h => by cases h
  | x :: xs, y :: ys, z :: zs, h1, h2 => by
    unfold leN ltN at h1 h2 ⊢
    by_cases e1 : y = x
    · subst e1
      rw [if_pos rfl] at h1
      by_cases e2 : z = y
      · subst e2
        rw [if_pos rfl] at h2 ⊢
        exact leN_trans xs ys zs h1 h2
      · rw [if_neg e2] at h2 ⊢
        exact h2
    · rw [if_neg e1] at h1
      by_cases e2 : z = y
      · subst e2
        rw [if_neg e1]
        exact h1
      · rw [if_neg e2] at h2
        simp at h1 h2
        rw [if_neg (by omega)]
        simp
        omega
def sortL (ls : List (List Nat)) : List (List Nat) := ls.mergeSort leN
theorem sortL_perm (ls : List (List Nat)) : (sortL ls).Perm ls := List.mergeSort_perm _ _
theorem sortL_pw (ls : List (List Nat)) : (sortL ls).Pairwise fun a b => leN a b = true := List.pairwise_mergeSort leN_trans leN_total _
theorem sortD_tups (ls : List (List Nat)) : sortD (ls.map tupN) = (sortL ls).map tupN :=
  (List.map_mergeSort fun a _ b _ => le_tupN a b).symm
/-- one sorted row alone -/
theorem sorted_one {a b : List (List Nat)} (ha : a.Pairwise fun a b => leN a b = true) (hb : b.Pairwise fun a b => leN a b = true) (p : a.Perm b) : a = b :=
  List.Perm.eq_of_pairwise (fun x y _ _ => leN_anti x y) ha hb p
theorem sortL_filter (c : List Nat → Bool) {a b : List (List Nat)} (p : a.Perm b) : sortL (a.filter c) = (sortL b).filter c :=
  sorted_one (sortL_pw _) ((sortL_pw b).filter _) ((sortL_perm _).trans ((p.filter c).trans ((sortL_perm b).filter c).symm))
end Ev
end
section
set_option Elab.async false
set_option linter.all false
/-! Webs, in plain words: connected things, rounds, lots unbroken. -/
namespace G57
abbrev Ed := Nat × Nat
inductive Conn (E : List Ed) : Nat → Nat → Prop
  | refl (x : Nat) : Conn E x x
  | step {x y z : Nat} : Conn E x y → ((y, z) ∈ E ∨ (z, y) ∈ E) → Conn E x z
theorem Conn.trans {E : List Ed} {x y z : Nat} (h : Conn E x y) (k : Conn E y z) : Conn E x z := by
  induction k with
  | refl => exact h
  | step _ e ih => exact .step ih e
theorem Conn.symm {E : List Ed} {x y : Nat} (h : Conn E x y) : Conn E y x := by
  induction h with
  | refl => exact .refl _
  | step _ e ih => exact Conn.trans (.step (.refl _) e.symm) ih
theorem Conn.mono {E F : List Ed} (s : ∀ e ∈ E, e ∈ F) {x y : Nat} (h : Conn E x y) : Conn F x y := by
  induction h with
  | refl => exact .refl _
  | step _ e ih => exact .step ih (e.imp (s _) (s _))
theorem Conn.one {E : List Ed} {e : Ed} (h : e ∈ E) : Conn E e.1 e.2 := .step (.refl _) (.inl h)
/-- with one tie more -/
theorem conn_cons {E : List Ed} {a b x y : Nat} : Conn ((a, b) :: E) x y ↔ Conn E x y ∨ (Conn E x a ∧ Conn E b y) ∨ (Conn E x b ∧ Conn E a y) := by
  constructor
  · intro h
    induction h with
    | refl => exact .inl (.refl _)
    | step _ e ih =>
      rename_i z w _
      rcases e with e | e <;> rcases List.mem_cons.mp e with q | q
      · injection q with q1 q2
        subst q1 q2
        rcases ih with h | ⟨h, k⟩ | ⟨h, k⟩
        · exact .inr (.inl ⟨h, .refl _⟩)
        · exact .inr (.inl ⟨h, .refl _⟩)
        · exact .inl h
      · rcases ih with h | ⟨h, k⟩ | ⟨h, k⟩
        · exact .inl (.step h (.inl q))
        · exact .inr (.inl ⟨h, .step k (.inl q)⟩)
        · exact .inr (.inr ⟨h, .step k (.inl q)⟩)
      · injection q with q1 q2
        subst q1 q2
        rcases ih with h | ⟨h, k⟩ | ⟨h, k⟩
        · exact .inr (.inr ⟨h, .refl _⟩)
        · exact .inl h
        · exact .inr (.inr ⟨h, .refl _⟩)
      · rcases ih with h | ⟨h, k⟩ | ⟨h, k⟩
        · exact .inl (.step h (.inr q))
        · exact .inr (.inl ⟨h, .step k (.inr q)⟩)
        · exact .inr (.inr ⟨h, .step k (.inr q)⟩)
  · have m : ∀ e ∈ E, e ∈ (a, b) :: E := fun e h => List.mem_cons_of_mem _ h
    have ab : Conn ((a, b) :: E) a b := Conn.one (e := (a, b)) List.mem_cons_self
    rintro (h | ⟨h, k⟩ | ⟨h, k⟩)
    · exact h.mono m
    · exact (h.mono m).trans (ab.trans (k.mono m))
    · exact (h.mono m).trans (ab.symm.trans (k.mono m))
/-! ### how many ties touch a thing -/
def deg (E : List Ed) (x : Nat) : Nat := match E with
  | [] => 0
  | e :: r => (if e.1 = x then 1 else 0) + (if e.2 = x then 1 else 0) + deg r x
structure Round (E : List Ed) : Prop where
  d : ∀ x, deg E x = 0 ∨ deg E x = 2
  c : ∀ x y, deg E x ≠ 0 → deg E y ≠ 0 → Conn E x y
/-- over the things below N that keep k -/
def sumK (k : Nat → Prop) [DecidablePred k] (f : Nat → Nat) : Nat → Nat
  | 0 => 0
  | n + 1 => sumK k f n + (if k n then f n else 0)
theorem sumK_add (k : Nat → Prop) [DecidablePred k] (f g : Nat → Nat) : ∀ n, sumK k (fun x => f x + g x) n = sumK k f n + sumK k g n
  | 0 => rfl
  | n + 1 => by
    rw [sumK, sumK, sumK, sumK_add k f g n]
    split <;> omega
theorem sumK_zero (k : Nat → Prop) [DecidablePred k] : ∀ n, sumK k (fun _ => 0) n = 0
  | 0 => rfl
  | n + 1 => by rw [sumK, sumK_zero k n]; split <;> rfl
theorem sumK_one (k : Nat → Prop) [DecidablePred k] (a : Nat) : ∀ n, a < n → sumK k (fun x => if a = x then 1 else 0) n = if k a then 1 else 0
  | 0, h => absurd h (Nat.not_lt_zero _)
  | n + 1, h => by
    rw [sumK]
    by_cases e : a = n
    · subst e
      have z : ∀ m, m ≤ a → sumK k (fun x => if a = x then 1 else 0) m = 0 := fun m => by
        induction m with
        | zero => intro _; rfl
        | succ m ih =>
          intro hm
          rw [sumK, ih (by omega), if_neg (show ¬ a = m by omega)]
          split <;> rfl
      rw [z a (Nat.le_refl _), if_pos rfl, Nat.zero_add]
    · rw [sumK_one k a n (by omega), if_neg e]
      split <;> split <;> rfl
theorem sumK_even (k : Nat → Prop) [DecidablePred k] (f : Nat → Nat) (h : ∀ x, f x % 2 = 0) : ∀ n, sumK k f n % 2 = 0
  | 0 => rfl
  | n + 1 => by
    have := sumK_even k f h n
    have := h n
    rw [sumK]
    split <;> omega
theorem sumK_deg (k : Nat → Prop) [DecidablePred k] (N : Nat) : ∀ E : List Ed, (∀ e ∈ E, e.1 < N ∧ e.2 < N) → sumK k (deg E) N = (E.map fun e => (if k e.1 then 1 else 0) + (if k e.2 then 1 else 0)).sum
  | [], _ => by
    show sumK k (fun _ => 0) N = 0
    exact sumK_zero k N
  | e :: r, h => by
    have h1 := h e List.mem_cons_self
    have ih := sumK_deg k N r fun f hf => h f (List.mem_cons_of_mem _ hf)
    show sumK k (fun x => (if e.1 = x then 1 else 0) + (if e.2 = x then 1 else 0) + deg r x) N = _
    rw [sumK_add k (fun x => (if e.1 = x then 1 else 0) + (if e.2 = x then 1 else 0)) (deg r), sumK_add k (fun x => if e.1 = x then 1 else 0), sumK_one k e.1 N h1.1, sumK_one k e.2 N h1.2]
    show _ + sumK k (deg r) N = _
    rw [ih, List.map_cons, List.sum_cons]
open Classical in
/-- A: a round without one of its ties still connects that tie's ends -/
theorem round_rest {e : Ed} {F : List Ed} {N : Nat} (h : Round (e :: F)) (hb : ∀ f ∈ e :: F, f.1 < N ∧ f.2 < N) : Conn F e.1 e.2 := by
  by_cases hc : Conn F e.1 e.2
  · exact hc
  · exfalso
    have hF : sumK (fun x => Conn F e.1 x) (deg F) N % 2 = 0 := by
      rw [sumK_deg _ N F fun f hf => hb f (List.mem_cons_of_mem _ hf)]
      have : ∀ G : List Ed, (∀ f ∈ G, f ∈ F) → (G.map fun f => (if Conn F e.1 f.1 then 1 else 0) + (if Conn F e.1 f.2 then 1 else 0)).sum % 2 = 0 := by
        intro G
        induction G with
        | nil => intro _; rfl
        | cons f G ih =>
          intro hG
          have := ih fun g hg => hG g (List.mem_cons_of_mem _ hg)
          have hf := hG f List.mem_cons_self
          have i : Conn F e.1 f.1 ↔ Conn F e.1 f.2 := ⟨fun q => q.trans (Conn.one hf), fun q => q.trans (Conn.one hf).symm⟩
          rw [List.map_cons, List.sum_cons]
          by_cases q : Conn F e.1 f.1
          · rw [if_pos q, if_pos (i.mp q)]; omega
          · rw [if_neg q, if_neg fun z => q (i.mpr z)]; omega
      exact this F fun f hf => hf
    have hE : sumK (fun x => Conn F e.1 x) (deg (e :: F)) N % 2 = 0 := sumK_even _ _ (fun x => by rcases h.d x with q | q <;> rw [q]) N
    have e1 := hb e List.mem_cons_self
    have hS : sumK (fun x => Conn F e.1 x) (deg (e :: F)) N = 1 + sumK (fun x => Conn F e.1 x) (deg F) N := by
      show sumK _ (fun x => (if e.1 = x then 1 else 0) + (if e.2 = x then 1 else 0) + deg F x) N = _
      rw [sumK_add _ (fun x => (if e.1 = x then 1 else 0) + (if e.2 = x then 1 else 0)) (deg F), sumK_add _ (fun x => if e.1 = x then 1 else 0), sumK_one _ e.1 N e1.1, sumK_one _ e.2 N e1.2, if_pos (Conn.refl _), if_neg hc]
    omega
/-! ### simple ways -/
/-- a way: its things from the last one back to the first, its ties -/
inductive Way : List Nat → List Ed → Prop
  | nil (x : Nat) : Way [x] []
  | cons {y z : Nat} {vs : List Nat} {P : List Ed} {e : Ed} : Way (y :: vs) P → (e = (y, z) ∨ e = (z, y)) → Way (z :: y :: vs) (e :: P)
theorem Way.ne {P : List Ed} (h : Way [] P) : False := by cases h
/-- cut at a thing of it -/
theorem Way.cut {z : Nat} : ∀ {vs : List Nat} {P : List Ed}, Way vs P → z ∈ vs → ∃ us Q, Way (z :: us) Q ∧ (∀ e ∈ Q, e ∈ P) ∧ (z :: us).getLast? = vs.getLast? ∧ (vs.Nodup → (z :: us).Nodup)
  | _, _, .nil x, h => ⟨[], [], by rw [List.mem_singleton.mp h]; exact .nil x, fun _ q => q, by rw [List.mem_singleton.mp h], fun n => by rw [List.mem_singleton.mp h]; exact n⟩
  | _, _, .cons (y := y) (z := w) (vs := vs) (P := P) (e := e) k q, h => by
    by_cases hw : z = w
    · subst hw
      exact ⟨_, _, .cons k q, fun _ m => m, rfl, fun n => n⟩
    · obtain ⟨us, Q, h1, h2, h3, h4⟩ := Way.cut k (List.mem_of_ne_of_mem hw h)
      refine ⟨us, Q, h1, fun e' m => List.mem_cons_of_mem _ (h2 e' m), ?_, fun n => h4 (List.nodup_cons.mp n).2⟩
      rw [h3, List.getLast?_cons_cons]
theorem way_of {E : List Ed} {x z : Nat} (h : Conn E x z) : ∃ us P, Way (z :: us) P ∧ (∀ e ∈ P, e ∈ E) ∧ (z :: us).getLast? = some x ∧ (z :: us).Nodup := by
  induction h with
  | refl => exact ⟨[], [], .nil _, fun _ q => absurd q (by simp), rfl, by simp⟩
  | step _ e ih =>
    rename_i y w _
    obtain ⟨us, P, h1, h2, h3, h4⟩ := ih
    by_cases hw : w ∈ y :: us
    · obtain ⟨us', Q, k1, k2, k3, k4⟩ := h1.cut hw
      exact ⟨us', Q, k1, fun f m => h2 f (k2 f m), k3.trans h3, k4 h4⟩
    · rcases e with e | e
      · refine ⟨y :: us, (y, w) :: P, .cons h1 (.inl rfl), fun f m => ?_, by rw [List.getLast?_cons_cons]; exact h3, List.nodup_cons.mpr ⟨hw, h4⟩⟩
        rcases List.mem_cons.mp m with q | q
        · rw [q]; exact e
        · exact h2 f q
      · refine ⟨y :: us, (w, y) :: P, .cons h1 (.inr rfl), fun f m => ?_, by rw [List.getLast?_cons_cons]; exact h3, List.nodup_cons.mpr ⟨hw, h4⟩⟩
        rcases List.mem_cons.mp m with q | q
        · rw [q]; exact e
        · exact h2 f q
theorem way_conn : ∀ {vs : List Nat} {P : List Ed}, Way vs P → ∀ a ∈ vs, ∀ b ∈ vs, Conn P a b
  | _, _, .nil x, a, ha, b, hb => by rw [List.mem_singleton.mp ha, List.mem_singleton.mp hb]; exact .refl _
  | _, _, .cons (y := y) (z := z) (vs := vs) (P := P) (e := e) k q, a, ha, b, hb => by
    have m : ∀ f ∈ P, f ∈ e :: P := fun f h => List.mem_cons_of_mem _ h
    have zy : Conn (e :: P) z y := by
      rcases q with q | q
      · exact .step (.refl _) (.inr (by rw [← q]; exact List.mem_cons_self))
      · exact .step (.refl _) (.inl (by rw [← q]; exact List.mem_cons_self))
    have up : ∀ c ∈ y :: vs, Conn (e :: P) y c := fun c hc => (way_conn k y List.mem_cons_self c hc).mono m
    have to : ∀ c ∈ z :: y :: vs, Conn (e :: P) z c := fun c hc => by
      rcases List.mem_cons.mp hc with h | h
      · rw [h]; exact .refl _
      · exact zy.trans (up c h)
    exact (to a ha).symm.trans (to b hb)
theorem way_deg : ∀ {z : Nat} {us : List Nat} {P : List Ed} {x : Nat}, Way (z :: us) P → (z :: us).Nodup → (z :: us).getLast? = some x → ∀ w, deg P w + (if z = w then 1 else 0) + (if x = w then 1 else 0) = if w ∈ z :: us then 2 else 0
  | _, _, _, x, .nil z, _, hl, w => by
    have e : z = x := by simpa using hl
    subst e
    show 0 + _ + _ = _
    by_cases h : z = w
    · rw [if_pos h, if_pos (by rw [h]; exact List.mem_cons_self)]
    · rw [if_neg h, if_neg (by simpa using fun q : w = z => h q.symm)]
  | _, _, _, x, .cons (y := y) (z := z) (vs := vs) (P := P) (e := e) k q, hn, hl, w => by
    obtain ⟨hz, hn'⟩ := List.nodup_cons.mp hn
    have ih := way_deg k hn' (by rw [List.getLast?_cons_cons] at hl; exact hl) w
    have hd : deg (e :: P) w = (if z = w then 1 else 0) + (if y = w then 1 else 0) + deg P w := by
      show (if e.1 = w then 1 else 0) + (if e.2 = w then 1 else 0) + deg P w = _
      rcases q with q | q <;> rw [q]
      dsimp only
      omega
    rw [hd]
    by_cases h : w ∈ y :: vs
    · have : z ≠ w := fun q => hz (by rw [q]; exact h)
      rw [if_pos h] at ih
      rw [if_neg this, if_pos (List.mem_cons_of_mem _ h)]
      omega
    · rw [if_neg h] at ih
      by_cases hw : z = w
      · subst hw
        rw [if_pos rfl, if_pos List.mem_cons_self]
        omega
      · rw [if_neg hw, if_neg (show ¬ w ∈ z :: y :: vs from fun m => (List.mem_cons.mp m).elim (fun q => hw q.symm) h)]
        omega
theorem way_in : ∀ {vs : List Nat} {P : List Ed}, Way vs P → ∀ e ∈ P, e.1 ∈ vs ∧ e.2 ∈ vs
  | _, _, .nil x, e, he => absurd he (by simp)
  | _, _, .cons (y := y) (z := z) (vs := vs) (P := P) (e := e') k q, e, he => by
    rcases List.mem_cons.mp he with h | h
    · subst h
      rcases q with q | q <;> rw [q] <;> exact ⟨by simp, by simp⟩
    · have := way_in k e h
      exact ⟨List.mem_cons_of_mem _ this.1, List.mem_cons_of_mem _ this.2⟩
theorem way_nodup : ∀ {vs : List Nat} {P : List Ed}, Way vs P → vs.Nodup → P.Nodup
  | _, _, .nil x, _ => by simp
  | _, _, .cons (y := y) (z := z) (vs := vs) (P := P) (e := e) k q, hn => by
    obtain ⟨hz, hn'⟩ := List.nodup_cons.mp hn
    refine List.nodup_cons.mpr ⟨fun m => ?_, way_nodup k hn'⟩
    have := way_in k e m
    rcases q with q | q
    · rw [q] at this; exact hz this.2
    · rw [q] at this; exact hz this.1
/-- B: ends that are connected make a round -/
theorem round_of {E : List Ed} {a b : Nat} (h : Conn E a b) (hab : a ≠ b) : ∃ P : List Ed, (∀ e ∈ P, e ∈ E) ∧ P.Nodup ∧ Round ((a, b) :: P) := by
  obtain ⟨us, P, h1, h2, h3, h4⟩ := way_of h
  refine ⟨P, h2, way_nodup h1 h4, ?_, ?_⟩
  · intro w
    have := way_deg h1 h4 h3 w
    show (if a = w then 1 else 0) + (if b = w then 1 else 0) + deg P w = 0 ∨ (if a = w then 1 else 0) + (if b = w then 1 else 0) + deg P w = 2
    by_cases q : w ∈ b :: us
    · rw [if_pos q] at this; omega
    · rw [if_neg q] at this; omega
  · have hin : ∀ w, deg ((a, b) :: P) w ≠ 0 → w ∈ b :: us := fun w hw => by
      have := way_deg h1 h4 h3 w
      by_cases q : w ∈ b :: us
      · exact q
      · rw [if_neg q] at this
        exact absurd (show (if a = w then 1 else 0) + (if b = w then 1 else 0) + deg P w = 0 by omega) hw
    intro x y hx hy
    exact (way_conn h1 x (hin x hx) y (hin y hy)).mono fun e m => List.mem_cons_of_mem _ m
theorem deg_perm {E F : List Ed} (h : E.Perm F) (x : Nat) : deg E x = deg F x := by
  induction h with
  | nil => rfl
  | cons e _ ih => show _ + deg _ x = _ + deg _ x; rw [ih]
  | swap a b l => show _ + (_ + deg l x) = _ + (_ + deg l x); omega
  | trans _ _ i j => exact i.trans j
theorem Round.perm {E F : List Ed} (h : Round E) (p : E.Perm F) : Round F :=
  ⟨fun x => by rw [← deg_perm p]; exact h.d x, fun x y hx hy => (h.c x y (by rw [deg_perm p]; exact hx) (by rw [deg_perm p]; exact hy)).mono fun e m => p.mem_iff.mp m⟩
/-! ### the row of least things -/
def draw (fl : List Nat) (a b : Nat) : List Nat :=
  fl.map fun x => if x = (if fl.getD b 0 > fl.getD a 0 then fl.getD b 0 else fl.getD a 0) then (if fl.getD b 0 < fl.getD a 0 then fl.getD b 0 else fl.getD a 0) else x
def flatOf (n : Nat) (E : List Ed) : List Nat := E.foldl (fun fl e => draw fl e.1 e.2) (List.range n)
structure FlatOk (n : Nat) (E : List Ed) (fl : List Nat) : Prop where
  len : fl.length = n
  le : ∀ x, x < n → fl.getD x 0 ≤ x
  to : ∀ x, x < n → Conn E x (fl.getD x 0)
  eq : ∀ x y, x < n → y < n → Conn E x y → fl.getD x 0 = fl.getD y 0
theorem getD_map {fl : List Nat} (f : Nat → Nat) {x : Nat} (h : x < fl.length) : (fl.map f).getD x 0 = f (fl.getD x 0) := by
  rw [List.getD_eq_getElem?_getD, List.getD_eq_getElem?_getD, List.getElem?_map, List.getElem?_eq_getElem h]
  rfl
theorem flat_nil (n : Nat) : FlatOk n [] (List.range n) := by
  have g : ∀ x, x < n → (List.range n).getD x 0 = x := fun x h => by
    rw [List.getD_eq_getElem?_getD, List.getElem?_range h]
    rfl
  refine ⟨List.length_range, fun x h => by rw [g x h]; exact Nat.le_refl _, fun x h => by rw [g x h]; exact .refl _, fun x y hx hy h => ?_⟩
  have : x = y := by
    induction h with
    | refl => rfl
    | step _ e _ => rcases e with e | e <;> exact absurd e (by simp)
  rw [this]
theorem draw_num (p q r : Nat) : (if p = (if r > q then r else q) then (if r < q then r else q) else p) ≤ p ∧ (p = q ∨ p = r → (if p = (if r > q then r else q) then (if r < q then r else q) else p) = if r < q then r else q) := by
  by_cases c1 : r > q
  · rw [if_pos c1, if_neg (show ¬ r < q by omega)]
    by_cases c2 : p = r
    · rw [if_pos c2]; exact ⟨by omega, fun _ => rfl⟩
    · rw [if_neg c2]; exact ⟨by omega, fun h => by omega⟩
  · rw [if_neg c1]
    by_cases c3 : r < q
    · rw [if_pos c3]
      by_cases c2 : p = q
      · rw [if_pos c2]; exact ⟨by omega, fun _ => rfl⟩
      · rw [if_neg c2]; exact ⟨by omega, fun h => by omega⟩
    · rw [if_neg c3]
      by_cases c2 : p = q
      · rw [if_pos c2]; exact ⟨by omega, fun _ => rfl⟩
      · rw [if_neg c2]; exact ⟨by omega, fun h => by omega⟩
theorem flat_draw {n : Nat} {E : List Ed} {fl : List Nat} (h : FlatOk n E fl) {a b : Nat} (ha : a < n) (hb : b < n) : FlatOk n ((a, b) :: E) (draw fl a b) := by
  have m : ∀ e ∈ E, e ∈ (a, b) :: E := fun e q => List.mem_cons_of_mem _ q
  have ab : Conn ((a, b) :: E) a b := Conn.one (e := (a, b)) List.mem_cons_self
  have g : ∀ x, x < n → (draw fl a b).getD x 0 = if fl.getD x 0 = (if fl.getD b 0 > fl.getD a 0 then fl.getD b 0 else fl.getD a 0) then (if fl.getD b 0 < fl.getD a 0 then fl.getD b 0 else fl.getD a 0) else fl.getD x 0 := fun x hx => getD_map _ (by rw [h.len]; exact hx)
  have toa := (h.to a ha).mono m
  have tob := (h.to b hb).mono m
  refine ⟨by unfold draw; rw [List.length_map]; exact h.len, fun x hx => ?_, fun x hx => ?_, fun x y hx hy hc => ?_⟩
  · rw [g x hx]
    exact Nat.le_trans (draw_num _ _ _).1 (h.le x hx)
  · rw [g x hx]
    have tx := (h.to x hx).mono m
    generalize fl.getD x 0 = p at tx ⊢
    generalize fl.getD a 0 = q at toa ⊢
    generalize fl.getD b 0 = r at tob ⊢
    have qr : Conn ((a, b) :: E) q r := toa.symm.trans (ab.trans tob)
    by_cases c1 : r > q
    · rw [if_pos c1, if_neg (show ¬ r < q by omega)]
      by_cases c2 : p = r
      · rw [if_pos c2]; subst c2; exact tx.trans qr.symm
      · rw [if_neg c2]; exact tx
    · rw [if_neg c1]
      by_cases c2 : p = q
      · rw [if_pos c2]; subst c2
        split
        · exact tx.trans qr
        · exact tx
      · rw [if_neg c2]; exact tx
  · rw [g x hx, g y hy]
    have key := fun u hu => (draw_num u (fl.getD a 0) (fl.getD b 0)).2 hu
    rcases conn_cons.mp hc with q | ⟨q1, q2⟩ | ⟨q1, q2⟩
    · rw [h.eq x y hx hy q]
    · rw [key _ (.inl (h.eq x a hx ha q1)), key _ (.inr (h.eq y b hy hb q2.symm))]
    · rw [key _ (.inr (h.eq x b hx hb q1)), key _ (.inl (h.eq y a hy ha q2.symm))]
theorem FlatOk.congr {n : Nat} {E F : List Ed} {fl : List Nat} (h : FlatOk n E fl) (s : ∀ e, e ∈ E ↔ e ∈ F) : FlatOk n F fl :=
  ⟨h.len, h.le, fun x hx => (h.to x hx).mono fun e q => (s e).mp q, fun x y hx hy q => h.eq x y hx hy (q.mono fun e q => (s e).mpr q)⟩
theorem flat_fold {n : Nat} : ∀ (E F : List Ed) (fl : List Nat), FlatOk n F fl → (∀ e ∈ E, e.1 < n ∧ e.2 < n) → FlatOk n (E ++ F) (E.foldl (fun fl e => draw fl e.1 e.2) fl)
  | [], F, fl, h, _ => h
  | e :: E, F, fl, h, hb => by
    have he := hb e List.mem_cons_self
    have := flat_fold E (e :: F) _ (flat_draw h he.1 he.2) fun f q => hb f (List.mem_cons_of_mem _ q)
    refine this.congr fun f => ?_
    simp only [List.mem_append, List.mem_cons, List.cons_append]
    constructor
    · rintro (q | q | q)
      · exact .inr (.inl q)
      · exact .inl q
      · exact .inr (.inr q)
    · rintro (q | q | q)
      · exact .inr (.inl q)
      · exact .inl q
      · exact .inr (.inr q)
theorem flat_ok {n : Nat} {E : List Ed} (hb : ∀ e ∈ E, e.1 < n ∧ e.2 < n) : FlatOk n E (flatOf n E) := by
  have := flat_fold E [] _ (flat_nil n) hb
  rwa [List.append_nil] at this
theorem FlatOk.iff {n : Nat} {E : List Ed} {fl : List Nat} (h : FlatOk n E fl) {x y : Nat} (hx : x < n) (hy : y < n) : fl.getD x 0 = fl.getD y 0 ↔ Conn E x y :=
  ⟨fun q => (h.to x hx).trans (by rw [q]; exact (h.to y hy).symm), h.eq x y hx hy⟩
theorem FlatOk.fix {n : Nat} {E : List Ed} {fl : List Nat} (h : FlatOk n E fl) {x : Nat} (hx : x < n) : fl.getD (fl.getD x 0) 0 = fl.getD x 0 :=
  (h.eq x _ hx (Nat.lt_of_le_of_lt (h.le x hx) hx) (h.to x hx)).symm
theorem FlatOk.least {n : Nat} {E : List Ed} {fl : List Nat} (h : FlatOk n E fl) {x : Nat} (hx : x < n) : fl.getD x 0 = x ↔ ∀ y, y < x → ¬ Conn E x y := by
  constructor
  · intro q y hy c
    have e := h.eq x y hx (by omega) c
    have := h.le y (by omega)
    omega
  · intro q
    have := h.le x hx
    by_cases e : fl.getD x 0 = x
    · exact e
    · exact absurd (h.to x hx) (q _ (by omega))
/-- how many parts -/
def parts (n : Nat) (fl : List Nat) : Nat := (List.range n).countP fun x => decide (fl.getD x 0 = x)
theorem parts_eq {n : Nat} {E F : List Ed} {fl gl : List Nat} (h : FlatOk n E fl) (k : FlatOk n F gl) (c : ∀ x y, x < n → y < n → (Conn E x y ↔ Conn F x y)) : parts n fl = parts n gl := by
  unfold parts
  refine List.countP_congr fun x hx => ?_
  have hx' := List.mem_range.mp hx
  rw [decide_eq_true_iff, decide_eq_true_iff, h.least hx', k.least hx']
  exact ⟨fun q y hy z => q y hy ((c x y hx' (by omega)).mpr z), fun q y hy z => q y hy ((c x y hx' (by omega)).mp z)⟩
theorem count_less {p q : Nat → Bool} {a : Nat} (hp : p a = true) (hq : q a = false) (h : ∀ x, x ≠ a → p x = q x) : ∀ n, a < n → (List.range n).countP p = (List.range n).countP q + 1
  | 0, z => absurd z (Nat.not_lt_zero _)
  | n + 1, z => by
    rw [List.range_succ, List.countP_append, List.countP_append]
    by_cases e : a = n
    · subst e
      have : (List.range a).countP p = (List.range a).countP q := List.countP_congr fun x hx => by rw [h x (by have := List.mem_range.mp hx; omega)]
      rw [this, List.countP_singleton, List.countP_singleton, if_pos hp, hq]
      rfl
    · rw [count_less hp hq h n (by omega), List.countP_singleton, List.countP_singleton, h n (fun z => e z.symm)]
      omega
theorem parts_draw {n : Nat} {E : List Ed} {fl : List Nat} (h : FlatOk n E fl) {a b : Nat} (ha : a < n) (hb : b < n) (hc : ¬ Conn E a b) : parts n fl = parts n (draw fl a b) + 1 := by
  have ne : fl.getD a 0 ≠ fl.getD b 0 := fun q => hc ((h.iff ha hb).mp q)
  have g : ∀ x, x < n → (draw fl a b).getD x 0 = if fl.getD x 0 = (if fl.getD b 0 > fl.getD a 0 then fl.getD b 0 else fl.getD a 0) then (if fl.getD b 0 < fl.getD a 0 then fl.getD b 0 else fl.getD a 0) else fl.getD x 0 := fun x hx => getD_map _ (by rw [h.len]; exact hx)
  have fa := h.fix ha
  have fb := h.fix hb
  have la := Nat.lt_of_le_of_lt (h.le a ha) ha
  have lb := Nat.lt_of_le_of_lt (h.le b hb) hb
  obtain ⟨hi, lo, e1, e2, h1, h2, h3, h4, h5⟩ : ∃ hi lo, (if fl.getD b 0 > fl.getD a 0 then fl.getD b 0 else fl.getD a 0) = hi ∧ (if fl.getD b 0 < fl.getD a 0 then fl.getD b 0 else fl.getD a 0) = lo ∧ lo ≠ hi ∧ fl.getD hi 0 = hi ∧ fl.getD lo 0 = lo ∧ hi < n ∧ lo < n := by
    by_cases c : fl.getD b 0 > fl.getD a 0
    · exact ⟨fl.getD b 0, fl.getD a 0, if_pos c, if_neg (by omega), ne, fb, fa, lb, la⟩
    · exact ⟨fl.getD a 0, fl.getD b 0, if_neg c, if_pos (by omega), fun z => ne z.symm, fa, fb, la, lb⟩
  simp only [e1, e2] at g
  have same : ∀ m, m ≤ n → (List.range m).countP (fun x => decide ((draw fl a b).getD x 0 = x)) = (List.range m).countP (fun x => decide (fl.getD x 0 = x) && decide (x ≠ hi)) := fun m hm => by
    refine List.countP_congr fun x hx => ?_
    have hx' := List.mem_range.mp hx
    rw [decide_eq_true_iff, Bool.and_eq_true, decide_eq_true_iff, decide_eq_true_iff, g x (by omega)]
    constructor
    · intro q
      by_cases c : fl.getD x 0 = hi
      · rw [if_pos c] at q
        subst q
        exact absurd (h3.symm.trans c) h1
      · rw [if_neg c] at q
        exact ⟨q, fun z => c (by rw [z]; exact h2)⟩
    · rintro ⟨q1, q2⟩
      rw [if_neg (by rw [q1]; exact q2)]
      exact q1
  unfold parts
  rw [same n (Nat.le_refl _)]
  exact count_less (decide_eq_true h2) (by simp) (fun x hx => by simp [hx]) n h4
/-! ### lots of places -/
section
variable (t : Nat → Ed)
/-- the lots of the places m - j, .., m - 1 -/
def sub (m : Nat) : Nat → List (List Nat)
  | 0 => [[]]
  | j + 1 => sub m j ++ (sub m j).map fun l => (m - (j + 1)) :: l
theorem mem_sub {m : Nat} : ∀ {j : Nat} {l : List Nat}, j ≤ m → (l ∈ sub m j ↔ l.Pairwise (· < ·) ∧ ∀ x ∈ l, m - j ≤ x ∧ x < m)
  | 0, l, _ => by
    show l ∈ [[]] ↔ _
    rw [List.mem_singleton]
    constructor
    · rintro rfl
      exact ⟨.nil, fun x h => absurd h (by simp)⟩
    · rintro ⟨_, h⟩
      cases l with
      | nil => rfl
      | cons x l => have := h x List.mem_cons_self; omega
  | j + 1, l, hj => by
    show l ∈ sub m j ++ (sub m j).map (fun l => (m - (j + 1)) :: l) ↔ _
    rw [List.mem_append, List.mem_map, mem_sub (by omega)]
    constructor
    · rintro (⟨h1, h2⟩ | ⟨k, hk, rfl⟩)
      · exact ⟨h1, fun x hx => ⟨by have := h2 x hx; omega, (h2 x hx).2⟩⟩
      · obtain ⟨h1, h2⟩ := (mem_sub (by omega)).mp hk
        refine ⟨List.pairwise_cons.mpr ⟨fun x hx => by have := h2 x hx; omega, h1⟩, fun x hx => ?_⟩
        rcases List.mem_cons.mp hx with e | e
        · omega
        · have := h2 x e; omega
    · rintro ⟨h1, h2⟩
      cases l with
      | nil => exact .inl ⟨.nil, fun x h => absurd h (by simp)⟩
      | cons x l =>
        obtain ⟨p1, p2⟩ := List.pairwise_cons.mp h1
        have hx := h2 x List.mem_cons_self
        by_cases e : x = m - (j + 1)
        · refine .inr ⟨l, (mem_sub (by omega)).mpr ⟨p2, fun y hy => ⟨by have := p1 y hy; omega, (h2 y (List.mem_cons_of_mem _ hy)).2⟩⟩, by rw [e]⟩
        · refine .inl ⟨h1, fun y hy => ⟨?_, (h2 y hy).2⟩⟩
          rcases List.mem_cons.mp hy with q | q
          · omega
          · have := p1 y q; omega
theorem nodup_map {α β : Type} {f : α → β} (hf : ∀ a b, f a = f b → a = b) : ∀ {l : List α}, l.Nodup → (l.map f).Nodup
  | [], _ => by simp
  | x :: l, h => by
    obtain ⟨h1, h2⟩ := List.nodup_cons.mp h
    rw [List.map_cons]
    refine List.nodup_cons.mpr ⟨fun m => ?_, nodup_map hf h2⟩
    obtain ⟨y, hy, e⟩ := List.mem_map.mp m
    exact h1 (by rw [← hf _ _ e]; exact hy)
theorem nodup_sub {m : Nat} : ∀ {j : Nat}, j ≤ m → (sub m j).Nodup
  | 0, _ => by show ([[]] : List (List Nat)).Nodup; simp
  | j + 1, hj => by
    show (sub m j ++ (sub m j).map fun l => (m - (j + 1)) :: l).Nodup
    refine List.nodup_append.mpr ⟨nodup_sub (by omega), nodup_map (fun a b e => by injection e) (nodup_sub (by omega)), fun a ha b hb e => ?_⟩
    subst e
    obtain ⟨k, hk, rfl⟩ := List.mem_map.mp hb
    have := ((mem_sub (by omega)).mp ha).2 _ List.mem_cons_self
    omega
/-- none of the places from m - j on has its ends connected by greater places of S -/
def Alive (m j : Nat) (S : List Nat) : Prop := ∀ e, m - j ≤ e → e < m → ¬ Conn ((S.filter fun p => decide (e < p)).map t) (t e).1 (t e).2
theorem above_all {S : List Nat} {e : Nat} (h : ∀ x ∈ S, e < x) : S.filter (fun p => decide (e < p)) = S :=
  List.filter_eq_self.mpr fun x hx => decide_eq_true (h x hx)
theorem alive_same {m j : Nat} {S : List Nat} (hj : j + 1 ≤ m) (hS : ∀ x ∈ S, m - j ≤ x) : Alive t m (j + 1) S ↔ Alive t m j S ∧ ¬ Conn (S.map t) (t (m - (j + 1))).1 (t (m - (j + 1))).2 := by
  constructor
  · intro h
    refine ⟨fun e h1 h2 => h e (by omega) h2, ?_⟩
    have := h (m - (j + 1)) (Nat.le_refl _) (by omega)
    rwa [above_all fun x hx => by have := hS x hx; omega] at this
  · rintro ⟨h1, h2⟩ e q1 q2
    by_cases c : e = m - (j + 1)
    · rw [c, above_all fun x hx => by have := hS x hx; omega]
      exact h2
    · exact h1 e (by omega) q2
theorem alive_cons {m j : Nat} {S : List Nat} (hj : j + 1 ≤ m) (hS : ∀ x ∈ S, m - j ≤ x) : Alive t m (j + 1) ((m - (j + 1)) :: S) ↔ Alive t m (j + 1) S := by
  have key : ∀ e, m - (j + 1) ≤ e → ((m - (j + 1)) :: S).filter (fun p => decide (e < p)) = S.filter fun p => decide (e < p) := fun e he => by
    rw [List.filter_cons_of_neg (by simpa using he)]
  constructor
  · intro h e q1 q2
    have := h e q1 q2
    rwa [key e q1] at this
  · intro h e q1 q2
    rw [key e q1]
    exact h e q1 q2
def sgn (S : List Nat) : Int := if S.length % 2 = 0 then 1 else -1
theorem sgn_cons (x : Nat) (S : List Nat) : sgn (x :: S) = - sgn S := by
  unfold sgn
  rw [List.length_cons]
  by_cases h : S.length % 2 = 0
  · rw [if_pos h, if_neg (by omega)]
  · rw [if_neg h, if_pos (by omega)]; rfl
theorem sum_add {α : Type} (f g : α → Int) : ∀ L : List α, (L.map f).sum + (L.map g).sum = (L.map fun x => f x + g x).sum
  | [] => rfl
  | x :: L => by
    have := sum_add f g L
    rw [List.map_cons, List.map_cons, List.map_cons, List.sum_cons, List.sum_cons, List.sum_cons, ← this]
    omega
theorem conn_more {S S' : List Nat} (h : ∀ x y, Conn (S.map t) x y ↔ Conn (S'.map t) x y) (k : Nat) : ∀ x y, Conn ((k :: S).map t) x y ↔ Conn ((k :: S').map t) x y := fun x y => by
  rw [List.map_cons, List.map_cons, show t k = ((t k).1, (t k).2) from rfl, conn_cons, conn_cons, h, h, h, h, h]
open Classical in
/-- C: what is not alive cancels -/
theorem cancel {m : Nat} : ∀ {j : Nat} (φ : List Nat → Int), j ≤ m → (∀ S S' : List Nat, (∀ x y, Conn (S.map t) x y ↔ Conn (S'.map t) x y) → φ S = φ S') →
    ((sub m j).map fun S => sgn S * φ S).sum = ((sub m j).map fun S => if Alive t m j S then sgn S * φ S else 0).sum
  | 0, φ, _, _ => by
    have : Alive t m 0 [] := fun e h1 h2 => by omega
    show ([[]].map fun S => sgn S * φ S).sum = ([[]].map fun S => if Alive t m 0 S then sgn S * φ S else 0).sum
    rw [List.map_singleton, List.map_singleton, if_pos this]
  | j + 1, φ, hj, hφ => by
    have ih := cancel (m := m) (j := j) (fun S => φ S - φ ((m - (j + 1)) :: S)) (by omega) fun S S' h => by
      show φ S - φ _ = φ S' - φ _
      rw [hφ S S' h, hφ _ _ (conn_more t h (m - (j + 1)))]
    show ((sub m j ++ (sub m j).map fun l => (m - (j + 1)) :: l).map fun S => sgn S * φ S).sum = ((sub m j ++ (sub m j).map fun l => (m - (j + 1)) :: l).map fun S => if Alive t m (j + 1) S then sgn S * φ S else 0).sum
    rw [List.map_append, List.map_append, List.sum_append, List.sum_append, List.map_map, List.map_map, sum_add, sum_add]
    refine Eq.trans ?_ (ih.trans ?_)
    · congr 1
      refine List.map_congr_left fun S hS => ?_
      show sgn S * φ S + sgn ((m - (j + 1)) :: S) * φ ((m - (j + 1)) :: S) = sgn S * (φ S - φ ((m - (j + 1)) :: S))
      rw [sgn_cons, Int.neg_mul, Int.mul_sub]
      omega
    · congr 1
      refine List.map_congr_left fun S hS => ?_
      have hb : ∀ x ∈ S, m - j ≤ x := fun x hx => (((mem_sub (j := j) (by omega)).mp hS).2 x hx).1
      show (if Alive t m j S then sgn S * (φ S - φ ((m - (j + 1)) :: S)) else 0) = (if Alive t m (j + 1) S then sgn S * φ S else 0) + (if Alive t m (j + 1) ((m - (j + 1)) :: S) then sgn ((m - (j + 1)) :: S) * φ ((m - (j + 1)) :: S) else 0)
      by_cases ha : Alive t m j S
      · rw [if_pos ha]
        by_cases hc : Conn (S.map t) (t (m - (j + 1))).1 (t (m - (j + 1))).2
        · have n1 : ¬ Alive t m (j + 1) S := fun z => ((alive_same t hj hb).mp z).2 hc
          rw [if_neg n1, if_neg fun z => n1 ((alive_cons t hj hb).mp z)]
          have : φ ((m - (j + 1)) :: S) = φ S := hφ _ _ fun x y => by
            rw [List.map_cons, show t (m - (j + 1)) = ((t (m - (j + 1))).1, (t (m - (j + 1))).2) from rfl, conn_cons]
            constructor
            · rintro (q | ⟨q1, q2⟩ | ⟨q1, q2⟩)
              · exact q
              · exact q1.trans (hc.trans q2)
              · exact q1.trans (hc.symm.trans q2)
            · exact .inl
          rw [this, Int.sub_self, Int.mul_zero]
          rfl
        · have y1 : Alive t m (j + 1) S := (alive_same t hj hb).mpr ⟨ha, hc⟩
          rw [if_pos y1, if_pos ((alive_cons t hj hb).mpr y1), sgn_cons, Int.neg_mul, Int.mul_sub]
          omega
      · have n1 : ¬ Alive t m (j + 1) S := fun z => ha ((alive_same t hj hb).mp z).1
        rw [if_neg ha, if_neg n1, if_neg fun z => n1 ((alive_cons t hj hb).mp z)]
        rfl
/-- what is alive joins at each of its ties -/
theorem alive_parts {m n : Nat} (hb : ∀ p, p < m → (t p).1 < n ∧ (t p).2 < n) : ∀ {j : Nat} {S : List Nat}, j ≤ m → S ∈ sub m j → Alive t m j S → parts n (flatOf n (S.map t)) + S.length = n
  | 0, S, _, hS, _ => by
    rw [show S = [] from List.mem_singleton.mp hS]
    show parts n (List.range n) + 0 = n
    unfold parts
    have : (List.range n).countP (fun x => decide ((List.range n).getD x 0 = x)) = (List.range n).length := List.countP_eq_length.mpr fun x hx => by
      rw [List.getD_eq_getElem?_getD, List.getElem?_range (List.mem_range.mp hx)]
      simp
    rw [this, List.length_range]; rfl
  | j + 1, S, hj, hS, ha => by
    have eb : ∀ {S : List Nat}, S ∈ sub m j → ∀ e ∈ S.map t, e.1 < n ∧ e.2 < n := fun hS e he => by
      obtain ⟨p, hp, rfl⟩ := List.mem_map.mp he
      exact hb p (((mem_sub (by omega)).mp hS).2 p hp).2
    rcases List.mem_append.mp hS with h | h
    · have hl : ∀ x ∈ S, m - j ≤ x := fun x hx => (((mem_sub (by omega)).mp h).2 x hx).1
      exact alive_parts hb (by omega) h ((alive_same t hj hl).mp ha).1
    · obtain ⟨S', h', rfl⟩ := List.mem_map.mp h
      have hl : ∀ x ∈ S', m - j ≤ x := fun x hx => (((mem_sub (by omega)).mp h').2 x hx).1
      obtain ⟨a1, a2⟩ := (alive_same t hj hl).mp ((alive_cons t hj hl).mp ha)
      have ih := alive_parts hb (by omega) h' a1
      have hk := hb (m - (j + 1)) (by omega)
      have f1 := flat_ok (eb h')
      have f2 := flat_draw f1 hk.1 hk.2
      have f3 : FlatOk n ((t (m - (j + 1))) :: S'.map t) (flatOf n (((m - (j + 1)) :: S').map t)) := flat_ok fun e he => by
        rcases List.mem_cons.mp he with q | q
        · rw [q]; exact hk
        · exact eb h' e q
      have e1 : parts n (flatOf n (((m - (j + 1)) :: S').map t)) = parts n (draw (flatOf n (S'.map t)) (t (m - (j + 1))).1 (t (m - (j + 1))).2) := parts_eq f3 f2 fun x y _ _ => Iff.rfl
      have e2 := parts_draw f1 hk.1 hk.2 a2
      rw [e1, List.length_cons]
      omega
/-- D: unbroken is alive -/
theorem alive_iff {m n : Nat} (hb : ∀ p, p < m → (t p).1 < n ∧ (t p).2 < n) (hne : ∀ p, p < m → (t p).1 ≠ (t p).2) (inj : ∀ p q, p < m → q < m → t p = t q → p = q) {S : List Nat} (hS : S ∈ sub m m) :
    Alive t m m S ↔ ¬ ∃ R ∈ sub m m, R ≠ [] ∧ Round (R.map t) ∧ ∀ x ∈ R.drop 1, x ∈ S := by
  obtain ⟨s1, s2⟩ := (mem_sub (Nat.le_refl _)).mp hS
  constructor
  · rintro ha ⟨R, hR, hr, hround, hsub⟩
    obtain ⟨r1, r2⟩ := (mem_sub (Nat.le_refl _)).mp hR
    cases R with
    | nil => exact hr rfl
    | cons e Q =>
      obtain ⟨p1, p2⟩ := List.pairwise_cons.mp r1
      have he := r2 e List.mem_cons_self
      have hc : Conn (Q.map t) (t e).1 (t e).2 := round_rest (N := n) hround fun f hf => by
        rcases List.mem_cons.mp hf with q | q
        · rw [q]; exact hb e he.2
        · obtain ⟨p, hp, rfl⟩ := List.mem_map.mp q
          exact hb p (r2 p (List.mem_cons_of_mem _ hp)).2
      refine ha e (by omega) he.2 (hc.mono fun f hf => ?_)
      obtain ⟨p, hp, rfl⟩ := List.mem_map.mp hf
      exact List.mem_map.mpr ⟨p, List.mem_filter.mpr ⟨hsub p hp, decide_eq_true (p1 p hp)⟩, rfl⟩
  · intro hn e _ he hc
    obtain ⟨P, h1, h2, h3⟩ := round_of hc (hne e he)
    have hQ : ((S.filter fun p => decide (e < p) && decide (t p ∈ P)).map t).Perm P := by
      refine (List.perm_ext_iff_of_nodup ?_ h2).mpr fun f => ?_
      · have nd : (S.filter fun p => decide (e < p) && decide (t p ∈ P)).Nodup := (s1.imp fun h => Nat.ne_of_lt h).filter _
        have all : ∀ p ∈ S.filter (fun p => decide (e < p) && decide (t p ∈ P)), p < m := fun p hp => (s2 p (List.mem_filter.mp hp).1).2
        generalize S.filter (fun p => decide (e < p) && decide (t p ∈ P)) = L at nd all
        clear hn hS s1 s2
        induction L with
        | nil => simp
        | cons x L ih =>
          obtain ⟨q1, q2⟩ := List.nodup_cons.mp nd
          rw [List.map_cons]
          refine List.nodup_cons.mpr ⟨fun mm => ?_, ih q2 fun p hp => all p (List.mem_cons_of_mem _ hp)⟩
          obtain ⟨y, hy, ey⟩ := List.mem_map.mp mm
          exact q1 (by rw [← inj y x (all y (List.mem_cons_of_mem _ hy)) (all x List.mem_cons_self) ey]; exact hy)
      · constructor
        · intro hf
          obtain ⟨p, hp, rfl⟩ := List.mem_map.mp hf
          have := (List.mem_filter.mp hp).2
          rw [Bool.and_eq_true] at this
          exact of_decide_eq_true this.2
        · intro hf
          obtain ⟨p, hp, rfl⟩ := List.mem_map.mp (h1 f hf)
          obtain ⟨q1, q2⟩ := List.mem_filter.mp hp
          exact List.mem_map.mpr ⟨p, List.mem_filter.mpr ⟨q1, by rw [q2, decide_eq_true hf]; rfl⟩, rfl⟩
    refine hn ⟨e :: S.filter (fun p => decide (e < p) && decide (t p ∈ P)), (mem_sub (Nat.le_refl _)).mpr ⟨List.pairwise_cons.mpr ⟨fun x hx => ?_, s1.filter _⟩, fun x hx => ?_⟩, by simp, ?_, fun x hx => ?_⟩
    · have := (List.mem_filter.mp hx).2
      rw [Bool.and_eq_true] at this
      exact of_decide_eq_true this.1
    · rcases List.mem_cons.mp hx with q | q
      · omega
      · exact s2 x (List.mem_filter.mp q).1
    · rw [List.map_cons]
      exact h3.perm (hQ.symm.cons _)
    · exact (List.mem_filter.mp hx).1
end
end G57
end
section
namespace LK57
open PySem PySem.Spec PyProof.Rows L2 Ev
/-! ### what each def says -/
/-- all_lots(n): 0 n, 1 found, 2 x, 3 lot -/
def b0 : List S :=
 [.set 1 (.lst [.tup []]),
 .for_ (.nm 2) (.rg [.nm 0]) [.set 1 (.bin .Add (.nm 1) (.comp [("lot", 3)] (.nm 3) (.e (.nm 1)) none (.bin .Add (.nm 3) (.tup [.nm 2]))))],
 .retO 1]
abbrev n0 : List Str := ["n", "found", "x", "lot"]
def d0 : Fd := ⟨"all_lots", ["n"], false, [], evDef [] n0.length b0⟩
def T1 : Tbl := [] ++ [d0]
/-- drawn_together(flat, a, b): 0 flat, 1 a, 2 b, 3 low, 4 high, 5 x -/
def b1 : List S :=
 [.par [3, 4] [.bi .min2 [.sub (.nm 0) (.nm 1), .sub (.nm 0) (.nm 2)], .bi .max2 [.sub (.nm 0) (.nm 1), .sub (.nm 0) (.nm 2)]],
 .ret (.bi .tuple [.comp [("x", 5)] (.nm 5) (.e (.nm 0)) none (.ite (.cmp .Eq (.nm 5) (.nm 4)) (.nm 3) (.nm 5))])]
abbrev n1 : List Str := ["flat", "a", "b", "low", "high", "x"]
def d1 : Fd := ⟨"drawn_together", ["flat", "a", "b"], false, [], evDef T1 n1.length b1⟩
def T2 : Tbl := T1 ++ [d1]
/-- is_round(n, ties, lot): 0 n, 1 ties, 2 lot, 3 place, 4 touched, 5 many, 6 flat, 7 a, 8 b, 9 x -/
def b2 : List S :=
 [.par [5, 6] [.bin .Mult (.lst [.int 0]) (.nm 0), .trg [.nm 0]],
 .fz 2,
 .for_ (.nm 3) (.e (.nm 2)) [.unp (.tup [7, 8]) (.sub (.nm 1) (.nm 3)),
 .parS 5 (.nm 7) (.nm 8) (.bin .Add (.sub (.nm 5) (.nm 7)) (.int 1)) (.bin .Add (.sub (.nm 5) (.nm 8)) (.int 1)),
 .fz 6,
 .set 6 (.call 1 [.nm 6, .nm 7, .nm 8])],
 .set 4 (.comp [("x", 9)] (.nm 9) (.rg [.nm 0]) (some (.cmp .Gt (.sub (.nm 5) (.nm 9)) (.int 0))) (.nm 9)),
 .ret (.and [.cmp .NotEq (.nm 4) (.lst []), .bi .all [.comp [("x", 9)] (.nm 9) (.e (.nm 4)) none (.and [.cmp .Eq (.sub (.nm 5) (.nm 9)) (.int 2), .cmp .Eq (.sub (.nm 6) (.nm 9)) (.sub (.nm 6) (.sub (.nm 4) (.int 0)))])]])]
abbrev n2 : List Str := ["n", "ties", "lot", "place", "touched", "many", "flat", "a", "b", "x"]
def d2 : Fd := ⟨"is_round", ["n", "ties", "lot"], false, [], evDef T2 n2.length b2⟩
def T3 : Tbl := T2 ++ [d2]
/-- rounds_of_ties(n, ties): 0 n, 1 ties, 2 lot -/
def b3 : List S :=
 [.fz 0,
 .fz 1,
 .ret (.bi .tuple [.bi .sorted [.comp [("lot", 2)] (.nm 2) (.e (.call 0 [.bi .len [.nm 1]])) (some (.call 2 [.nm 0, .nm 1, .nm 2])) (.nm 2)]])]
abbrev n3 : List Str := ["n", "ties", "lot"]
def d3 : Fd := ⟨"rounds_of_ties", ["n", "ties"], false, [], evDef T3 n3.length b3⟩
def T4 : Tbl := T3 ++ [d3]
/-- has_all(lot, rest): 0 lot, 1 rest, 2 place -/
def b4 : List S :=
 [.ret (.bi .all [.comp [("place", 2)] (.nm 2) (.e (.nm 1)) none (.cmp .In (.nm 2) (.nm 0))])]
abbrev n4 : List Str := ["lot", "rest", "place"]
def d4 : Fd := ⟨"has_all", ["lot", "rest"], false, [], evDef T4 n4.length b4⟩
def T5 : Tbl := T4 ++ [d4]
/-- unbroken_lots(n, ties): 0 n, 1 ties, 2 broken, 3 found, 4 lot, 5 own, 6 rest -/
def b5 : List S :=
 [.fz 0,
 .fz 1,
 .set 2 (.comp [("own", 5)] (.nm 5) (.e (.call 3 [.nm 0, .nm 1])) none (.slc (.nm 5) (some (.int 1)) none)),
 .set 3 (.lst []),
 .for_ (.nm 4) (.e (.call 0 [.bi .len [.nm 1]])) [.ite (.not (.bi .any [.comp [("rest", 6)] (.nm 6) (.e (.nm 2)) none (.call 4 [.nm 4, .nm 6])])) [.app 3 (.nm 4)] []],
 .ret (.bi .tuple [.bi .sorted [.nm 3]])]
abbrev n5 : List Str := ["n", "ties", "broken", "found", "lot", "own", "rest"]
def d5 : Fd := ⟨"unbroken_lots", ["n", "ties"], false, [["ties", "n"]], evDef T5 n5.length b5⟩
def T6 : Tbl := T5 ++ [d5]
/-- colours_row(n, ties): 0 n, 1 ties, 2 found, 3 lot -/
def b6 : List S :=
 [.set 2 (.bin .Mult (.lst [.int 0]) (.bin .Add (.nm 0) (.int 1))),
 .fz 0,
 .fz 1,
 .for_ (.nm 3) (.e (.call 5 [.nm 0, .nm 1])) [.setS 2 (.bin .Sub (.nm 0) (.bi .len [.nm 3])) (.bin .Sub (.bin .Add (.sub (.nm 2) (.bin .Sub (.nm 0) (.bi .len [.nm 3]))) (.int 1)) (.bin .Mult (.int 2) (.bin .Mod (.bi .len [.nm 3]) (.int 2))))],
 .ret (.bi .tuple [.nm 2])]
abbrev n6 : List Str := ["n", "ties", "found", "lot"]
def d6 : Fd := ⟨"colours_row", ["n", "ties"], false, [["ties", "n"]], evDef T6 n6.length b6⟩
def T7 : Tbl := T6 ++ [d6]
/-- roundless_ways(n, ties): 0 n, 1 ties -/
def b7 : List S :=
 [.fz 0,
 .fz 1,
 .ret (.bi .len [.call 5 [.nm 0, .nm 1]])]
abbrev n7 : List Str := ["n", "ties"]
def d7 : Fd := ⟨"roundless_ways", ["n", "ties"], false, [], evDef T7 n7.length b7⟩
def T8 : Tbl := T7 ++ [d7]
/-- _law_bag(script): 0 script, 1 cells, 2 mixed, 3 cell -/
def b8 : List S :=
 [.set 1 (.comp [("cell", 3)] (.nm 3) (.e (.slc (.nm 0) none (some (.int 63)))) none (.bi .abs [.nm 3])),
 .set 2 (.bin .Add (.int 19583) (.bi .len [.nm 1])),
 .fz 1,
 .for_ (.nm 3) (.e (.nm 1)) [.set 2 (.bin .Mod (.bi .int [.bin .Add (.bin .Add (.bin .Mult (.nm 2) (.int 48271)) (.bin .Mod (.bi .int [.nm 3]) (.int 2147483629))) (.int 5)]) (.int 2147483647))],
 .ret (.lst [.rev (.nm 1), .int 0, .nm 2])]
abbrev n8 : List Str := ["script", "cells", "mixed", "cell"]
def d8 : Fd := ⟨"_law_bag", ["script"], false, [], evDef T8 n8.length b8⟩
def T9 : Tbl := T8 ++ [d8]
/-- _law_draw(bag, below): 0 bag, 1 below, 2 cell, 3 found -/
def b9 : List S :=
 [.whl (.and [.cmp .Eq (.sub (.nm 0) (.int 1)) (.int 0), .cmp .NotEq (.sub (.nm 0) (.int 0)) (.lst [])]) [.set 2 (.popX 0 (.int 0)),
 .setS 0 (.int 1) (.ite (.cmp .Gt (.nm 2) (.bin .Pow (.int 10) (.int 9))) (.nm 2) (.int 0))],
 .ite (.cmp .Gt (.sub (.nm 0) (.int 1)) (.int 0)) [.set 3 (.bin .Mod (.bi .int [.sub (.nm 0) (.int 1)]) (.nm 1)),
 .setS 0 (.int 1) (.bin .FloorDiv (.sub (.nm 0) (.int 1)) (.nm 1)),
 .ret (.nm 3)] [],
 .setS 0 (.int 2) (.bin .Mod (.bi .int [.bin .Add (.bin .Mult (.sub (.nm 0) (.int 2)) (.int 48271)) (.int 13)]) (.int 2147483647)),
 .ret (.bin .Mod (.bi .int [.bin .FloorDiv (.bin .Mod (.bi .int [.bin .Mult (.sub (.nm 0) (.int 2)) (.sub (.nm 0) (.int 2))]) (.int 2147483629)) (.int 7)]) (.nm 1))]
abbrev n9 : List Str := ["bag", "below", "cell", "found"]
def d9 : Fd := ⟨"_law_draw", ["bag", "below"], true, [], evDef T9 n9.length b9⟩
def T10 : Tbl := T9 ++ [d9]
/-- _law_ties(bag, n, most): 0 bag, 1 n, 2 most, 3 pairs, 4 a, 5 turn, 6 left, 7 found, 8 b -/
def b10 : List S :=
 [.set 3 (.lst []),
 .for_ (.nm 4) (.rg [.nm 1]) [.ext 3 (.comp [("b", 8)] (.nm 8) (.rg [.bin .Add (.nm 4) (.int 1), .nm 1]) none (.tup [.nm 4, .nm 8]))],
 .par [6, 7] [.bi .list [.nm 3], .lst []],
 .for_ (.nm 5) (.rg [.callM 9 0 [.bin .Add (.bi .min2 [.nm 2, .bi .len [.nm 6]]) (.int 1)]]) [.app 7 (.popAt 6 (.callM 9 0 [.bi .len [.nm 6]]))],
 .ret (.bi .tuple [.bi .sorted [.nm 7]])]
abbrev n10 : List Str := ["bag", "n", "most", "pairs", "a", "turn", "left", "found", "b"]
def d10 : Fd := ⟨"_law_ties", ["bag", "n", "most"], true, [], evDef T10 n10.length b10⟩
def T11 : Tbl := T10 ++ [d10]
/-- _law_tied(flat, tie): 0 flat, 1 tie, 2 one, 3 other, 4 own -/
def b11 : List S :=
 [.unp (.tup [2, 3]) (.bi .sorted [.lst [.sub (.nm 0) (.sub (.nm 1) (.int 0)), .sub (.nm 0) (.sub (.nm 1) (.int 1))]]),
 .ret (.bi .tuple [.comp [("own", 4)] (.nm 4) (.e (.nm 0)) none (.ite (.cmp .Eq (.nm 4) (.nm 3)) (.nm 2) (.nm 4))])]
abbrev n11 : List Str := ["flat", "tie", "one", "other", "own"]
def d11 : Fd := ⟨"_law_tied", ["flat", "tie"], false, [], evDef T11 n11.length b11⟩
def T12 : Tbl := T11 ++ [d11]
/-- _law_lots_of(many): 0 many, 1 found, 2 place, 3 longer, 4 own -/
def b12 : List S :=
 [.set 1 (.lst [.tup []]),
 .for_ (.nm 2) (.rg [.nm 0]) [.set 3 (.lst []),
 .fz 1,
 .for_ (.nm 4) (.e (.nm 1)) [.ext 3 (.lst [.nm 4, .bin .Add (.nm 4) (.tup [.nm 2])])],
 .set 1 (.bi .list [.nm 3])],
 .ret (.bi .sorted [.nm 1])]
abbrev n12 : List Str := ["many", "found", "place", "longer", "own"]
def d12 : Fd := ⟨"_law_lots_of", ["many"], false, [], evDef T12 n12.length b12⟩
def T13 : Tbl := T12 ++ [d12]
/-- _law_is_round(n, ties, lot): 0 n, 1 ties, 2 lot, 3 place, 4 some, 5 counts, 6 flat, 7 x -/
def b13 : List S :=
 [.par [5, 6] [.bin .Mult (.lst [.int 0]) (.nm 0), .trg [.nm 0]],
 .fz 2,
 .for_ (.nm 3) (.e (.nm 2)) [.for_ (.nm 7) (.e (.sub (.nm 1) (.nm 3))) [.setS 5 (.nm 7) (.bin .Add (.sub (.nm 5) (.nm 7)) (.int 1))],
 .fz 6,
 .set 6 (.call 11 [.nm 6, .sub (.nm 1) (.nm 3)])],
 .set 4 (.comp [("x", 7)] (.nm 7) (.rg [.nm 0]) (some (.cmp .Gt (.sub (.nm 5) (.nm 7)) (.int 0))) (.nm 7)),
 .ret (.and [.cmp .NotEq (.nm 4) (.lst []), .bi .all [.comp [("x", 7)] (.nm 7) (.e (.nm 4)) none (.and [.cmp .Eq (.sub (.nm 5) (.nm 7)) (.int 2), .cmp .Eq (.sub (.nm 6) (.nm 7)) (.sub (.nm 6) (.sub (.nm 4) (.int 0)))])]])]
abbrev n13 : List Str := ["n", "ties", "lot", "place", "some", "counts", "flat", "x"]
def d13 : Fd := ⟨"_law_is_round", ["n", "ties", "lot"], false, [], evDef T13 n13.length b13⟩
def T14 : Tbl := T13 ++ [d13]
/-- _law_rounds(n, ties): 0 n, 1 ties, 2 lot -/
def b14 : List S :=
 [.fz 0,
 .fz 1,
 .ret (.comp [("lot", 2)] (.nm 2) (.e (.call 12 [.bi .len [.nm 1]])) (some (.and [.cmp .Gt (.bi .len [.nm 2]) (.int 2), .call 13 [.nm 0, .nm 1, .nm 2]])) (.nm 2))]
abbrev n14 : List Str := ["n", "ties", "lot"]
def d14 : Fd := ⟨"_law_rounds", ["n", "ties"], false, [], evDef T14 n14.length b14⟩
def T15 : Tbl := T14 ++ [d14]
/-- _law_unbroken(n, ties): 0 n, 1 ties, 2 broken, 3 found, 4 lot, 5 own, 6 place -/
def b15 : List S :=
 [.fz 0,
 .fz 1,
 .set 2 (.comp [("lot", 4)] (.nm 4) (.e (.call 14 [.nm 0, .nm 1])) none (.slc (.nm 4) (some (.int 1)) none)),
 .set 3 (.lst []),
 .for_ (.nm 4) (.e (.call 12 [.bi .len [.nm 1]])) [.ite (.not (.bi .any [.comp [("own", 5)] (.nm 5) (.e (.nm 2)) none (.bi .all [.comp [("place", 6)] (.nm 6) (.e (.nm 5)) none (.cmp .In (.nm 6) (.nm 4))])])) [.app 3 (.nm 4)] []],
 .retO 3]
abbrev n15 : List Str := ["n", "ties", "broken", "found", "lot", "own", "place"]
def d15 : Fd := ⟨"_law_unbroken", ["n", "ties"], false, [], evDef T15 n15.length b15⟩
def T16 : Tbl := T15 ++ [d15]
/-- _law_colours(n, ties): 0 n, 1 ties, 2 found, 3 here, 4 tie, 5 flat, 6 sign -/
def b16 : List S :=
 [.set 2 (.bin .Mult (.lst [.int 0]) (.bin .Add (.nm 0) (.int 1))),
 .set 3 (.lst [.tup [.trg [.nm 0], .int 1]]),
 .fz 1,
 .for_ (.nm 4) (.e (.nm 1)) [.set 3 (.bin .Add (.nm 3) (.comp [("flat", 5), ("sign", 6)] (.tup [5, 6]) (.e (.nm 3)) none (.tup [.call 11 [.nm 5, .nm 4], .neg (.nm 6)])))],
 .fz 3,
 .for_ (.tup [5, 6]) (.e (.nm 3)) [.setS 2 (.lset (.nm 5)) (.bin .Add (.sub (.nm 2) (.lset (.nm 5))) (.nm 6))],
 .ret (.bi .tuple [.nm 2])]
abbrev n16 : List Str := ["n", "ties", "found", "here", "tie", "flat", "sign"]
def d16 : Fd := ⟨"_law_colours", ["n", "ties"], false, [], evDef T16 n16.length b16⟩
def T17 : Tbl := T16 ++ [d16]
/-- law(script): 0 script, 1 bag, 2 turn, 3 n, 4 ties, 5 lot, 6 due, 7 kept, 8 lots, 9 row, 10 counts, 11 k, 12 many, 13 x -/
def b17 : List S :=
 [.fz 0,
 .set 1 (.call 8 [.nm 0]),
 .for_ (.nm 2) (.rg [.int 3]) [.set 3 (.bin .Add (.int 1) (.callM 9 1 [.sub (.lst [.int 8, .int 5, .int 4]) (.nm 2)])),
 .fz 3,
 .set 4 (.callM 10 1 [.nm 3, .sub (.lst [.int 5, .int 6, .int 6]) (.nm 2)]),
 .ite (.and [.cmp .Eq (.nm 2) (.int 2), .cmp .Eq (.callM 9 1 [.int 2]) (.int 0)]) [.set 3 (.bin .Add (.int 3) (.callM 9 1 [.int 4])),
 .set 4 (.bi .tuple [.bi .sorted [.bin .Add (.comp [("x", 13)] (.nm 13) (.rg [.bin .Sub (.nm 3) (.int 1)]) none (.tup [.nm 13, .bin .Add (.nm 13) (.int 1)])) (.lst [.tup [.int 0, .bin .Sub (.nm 3) (.int 1)]])]]),
 .ite (.cmp .Eq (.callM 9 1 [.int 3]) (.int 0)) [.par [3, 4] [.int 4, .tup [.tup [.int 0, .int 1], .tup [.int 0, .int 2], .tup [.int 0, .int 3], .tup [.int 1, .int 2], .tup [.int 1, .int 3], .tup [.int 2, .int 3]]]] []] [],
 .fz 3,
 .fz 4,
 .par [7, 8] [.bi .repr [.nm 4], .bi .tuple [.call 15 [.nm 3, .nm 4]]],
 .fz 3,
 .fz 4,
 .ite (.cmp .NotEq (.bi .repr [.lst [.call 5 [.nm 3, .nm 4], .callK 5 0 [.nm 4, .nm 3]]]) (.bi .repr [.lst [.nm 8, .nm 8]])) [.ret (.bl false)] [],
 .fz 3,
 .fz 4,
 .par [9, 10] [.call 16 [.nm 3, .nm 4], .bin .Mult (.lst [.int 0]) (.bin .Add (.nm 3) (.int 1))],
 .for_ (.nm 5) (.e (.nm 8)) [.setS 10 (.bi .len [.nm 5]) (.bin .Add (.sub (.nm 10) (.bi .len [.nm 5])) (.int 1))],
 .set 6 (.rev (.bi .tuple [.comp [("k", 11), ("many", 12)] (.tup [11, 12]) (.enum (.nm 10)) none (.ite (.cmp .Eq (.bin .BitAnd (.nm 11) (.int 1)) (.int 0)) (.nm 12) (.neg (.nm 12)))])),
 .fz 3,
 .fz 4,
 .ite (.or [.cmp .NotEq (.nm 6) (.nm 9), .cmp .NotEq (.bi .repr [.lst [.call 6 [.nm 3, .nm 4], .callK 6 0 [.nm 4, .nm 3]]]) (.bi .repr [.lst [.nm 6, .nm 6]])]) [.ret (.bl false)] [],
 .fz 3,
 .fz 4,
 .ite (.or [.cmp .NotEq (.call 7 [.nm 3, .nm 4]) (.bi .len [.nm 8]), .cmp .NotEq (.bi .repr [.nm 4]) (.nm 7)]) [.ret (.bl false)] []],
 .ret (.bl true)]
abbrev n17 : List Str := ["script", "bag", "turn", "n", "ties", "lot", "due", "kept", "lots", "row", "counts", "k", "many", "x"]
def d17 : Fd := ⟨"law", ["script"], false, [], evDef T17 n17.length b17⟩
def T18 : Tbl := T17 ++ [d17]
end LK57
end
section
set_option Elab.async false
set_option linter.all false
set_option maxRecDepth 100000
namespace LK57
open PySem L2 Ev
theorem ne_nil2 (is : List Int) : eqF (.bo (.ls ((is.map PyData.int).map M.d))) (.ow (.ls [])) = some is.isEmpty := by
  rw [List.map_map]
  exact ne_nil_bo is
/-! ### webs: what their defs say -/
theorem I_ints (xs : List Nat) : xs.map I = (xs.map fun x : Nat => (x : Int)).map .int := by rw [List.map_map]; rfl
theorem rgL_nat {m : Nat} {n : Int} (hn : n = m) : rgL 0 n = (List.range m).map I := by
  subst hn
  unfold rgL
  rw [show ((m : Int) - 0).toNat = m by omega]
  refine List.map_congr_left fun i _ => ?_
  show PyData.int (0 + (i : Int)) = _
  rw [Int.zero_add]; rfl
theorem mapM1 (x : PyData) : [R.d x].mapM R.data = some [x] := rfl
theorem mapM2 (x y : PyData) : [R.d x, R.d y].mapM R.data = some [x, y] := rfl
theorem ixI {xs : List Nat} {a : Nat} (h : a < xs.length) : L2.atI (xs.map I) (a : Int) = some (I (xs.getD a 0)) := by
  refine L2.atI_nat ?_
  rw [List.getElem?_map, List.getD_eq_getElem?_getD, List.getElem?_eq_getElem h]; rfl
theorem ne_nilN (xs : List Nat) : eqF (.bo (.ls ((xs.map I).map M.d))) (.ow (.ls [])) = some xs.isEmpty := by
  rw [I_ints, ne_nil2]
  cases xs <;> rfl
theorem fm_if {α : Type} (c : α → Bool) (f : α → M) (xs : List α) : xs.filterMap (fun x => if c x = true then some (f x) else none) = (xs.filter c).map f := by
  induction xs with
  | nil => rfl
  | cons x xs ih =>
    by_cases h : c x = true
    · rw [List.filterMap_cons_some (by rw [if_pos h]), List.filter_cons_of_pos h, ih, List.map_cons]
    · rw [List.filterMap_cons_none (by rw [if_neg h]), List.filter_cons_of_neg h, ih]
theorem bools_map {α : Type} (f : α → Bool) (xs : List α) : bools? (xs.map fun x => .bool (f x)) = some (xs.map f) := by
  induction xs with
  | nil => rfl
  | cons x xs ih => rw [List.map_cons, bools?, ih]; rfl
def stepL (f : List (List Nat)) (x : Nat) : List (List Nat) := f ++ f.map (· ++ [x])
def lotsF (m : Nat) : List (List Nat) := (List.range m).foldl stepL [[]]
theorem fold_lots {m : Nat} : ∀ (ps : List Nat) (f : List (List Nat)), (∀ l ∈ f, ∀ x ∈ l, x < m) → (∀ p ∈ ps, p < m) → ∀ l ∈ ps.foldl stepL f, ∀ x ∈ l, x < m
  | [], f, hf, _ => hf
  | p :: ps, f, hf, hp => by
    refine fold_lots ps (stepL f p) (fun l hl x hx => ?_) fun q hq => hp q (List.mem_cons_of_mem _ hq)
    rcases List.mem_append.mp hl with h | h
    · exact hf l h x hx
    · obtain ⟨k, hk, rfl⟩ := List.mem_map.mp h
      rcases List.mem_append.mp hx with h2 | h2
      · exact hf k hk x h2
      · rw [List.mem_singleton.mp h2]; exact hp p List.mem_cons_self
theorem lots_lt {m : Nat} : ∀ l ∈ lotsF m, ∀ x ∈ l, x < m := fold_lots _ _ (by simp) fun p hp => List.mem_range.mp hp
theorem fold_len2 : ∀ (ps : List Nat) (f : List (List Nat)), (ps.foldl stepL f).length = f.length * 2 ^ ps.length
  | [], f => by simp
  | p :: ps, f => by
    rw [List.foldl_cons, fold_len2 ps, stepL, List.length_append, List.length_map, List.length_cons, Nat.pow_succ, Nat.add_mul, Nat.mul_comm _ 2, ← Nat.mul_assoc, Nat.mul_two, Nat.add_mul]
theorem lots_len (m : Nat) : (lotsF m).length = 2 ^ m := by
  unfold lotsF
  rw [fold_len2, List.length_singleton, List.length_range, Nat.one_mul]
theorem fold_sz : ∀ (ps : List Nat) (f : List (List Nat)) (k : Nat), (∀ l ∈ f, l.length ≤ k) → ∀ l ∈ ps.foldl stepL f, l.length ≤ k + ps.length
  | [], f, k, h => h
  | p :: ps, f, k, h => by
    have := fold_sz ps (stepL f p) (k + 1) fun l hl => by
      rcases List.mem_append.mp hl with q | q
      · exact Nat.le_succ_of_le (h l q)
      · obtain ⟨j, hj, rfl⟩ := List.mem_map.mp q
        rw [List.length_append, List.length_singleton]
        exact Nat.succ_le_succ (h j hj)
    intro l hl
    have := this l hl
    rw [List.length_cons]; omega
theorem lots_sz {m : Nat} : ∀ l ∈ lotsF m, l.length ≤ m := fun l hl => by
  have := fold_sz (List.range m) [[]] 0 (by simp) l hl
  rwa [List.length_range, Nat.zero_add] at this
theorem lots_ok {m : Nat} {n : Int} (hn : n = m) (hm : m ≤ 10) : Post (d0.g [.int n]) fun r => r.1 = .lst ((lotsF m).map tupN) := by
  show Post (evDef ([] : Tbl) 4 b0 [.int n]) _
  apply def_run
  show Post (execs ([] : Tbl) b0 [.int n, .no, .no, .no]) _
  unfold b0
  apply run_cons
  have m0 : ([] : List R).mapM R.data = some [] := rfl
  simp only [Ev.exec, ev, evs, evO, evTO, evAnd, evOr, evIt, seq2, asT, asB, asI, binF, cmpF, at0, at1, post_bind, post_map, post_some, post_nif, post_ifn, post_ifs, R.isBo, R.isOk, R.isOw, R.isD, ls_ls, eq_self, E.quiet, quiets, quietO, It.quiet, Option.bind_some, Option.map_some, Option.bind_none, Option.map_none, Bool.false_and, Bool.and_false, Bool.true_and, Bool.and_true, Bool.not_true, Bool.not_false, Bool.false_eq_true, if_true, if_false, ite_true, ite_false, reduceIte, eq_int, lt_int, le_int, add_int, sub_int, mul_int, neg_int, div_int, mod_int, pow_int, List.take_zero, List.drop_zero, List.all_cons, List.all_nil, List.any_cons, List.any_nil, List.set_cons_zero, List.set_cons_succ, not_true_eq_false, not_false_eq_true, true_and, and_true, biF, un1, intF, absF, setR, setRs, frz_lst, frz_d, frz_no, frz_fr, Bool.or_false, Bool.false_or, R.toM, sz1, sz2, sz3, sz4, sz5, sz6, sz7, sz8, sz9, sz10, tru_bl, decide_eq_true_eq, Nat.zero_le, List.map_cons, List.map_nil, List.length_cons, List.length_nil, m0]
  apply run_cons
  simp only [Ev.exec, ev, evs, evO, evTO, evAnd, evOr, evIt, seq2, asT, asB, asI, binF, cmpF, at0, at1, post_bind, post_map, post_some, post_nif, post_ifn, post_ifs, R.isBo, R.isOk, R.isOw, R.isD, ls_ls, eq_self, E.quiet, quiets, quietO, It.quiet, Option.bind_some, Option.map_some, Option.bind_none, Option.map_none, Bool.false_and, Bool.and_false, Bool.true_and, Bool.and_true, Bool.not_true, Bool.not_false, Bool.false_eq_true, if_true, if_false, ite_true, ite_false, reduceIte, eq_int, lt_int, le_int, add_int, sub_int, mul_int, neg_int, div_int, mod_int, pow_int, List.take_zero, List.drop_zero, List.all_cons, List.all_nil, List.any_cons, List.any_nil, List.set_cons_zero, List.set_cons_succ, not_true_eq_false, not_false_eq_true, true_and, and_true, biF, un1, intF, absF, setR, setRs, frz_lst, frz_d, frz_no, frz_fr, Bool.or_false, Bool.false_or, R.toM, sz1, sz2, sz3, sz4, sz5, sz6, sz7, sz8, sz9, sz10, tru_bl, decide_eq_true_eq, Nat.zero_le, List.map_cons, List.map_nil, List.length_cons, List.length_nil, rg1]
  refine ⟨by omega, ?_⟩
  rw [rgL_nat hn, List.map_map]
  refine post_mono (forGo_map (R.d ∘ I) (fun ps ρ => ∃ (f : List (List Nat)) (r2 : R), ρ = [.int n, .lst (f.map tupN), r2, .no] ∧ ps.foldl stepL f = lotsF m ∧ f.length * 2 ^ ps.length ≤ 2 ^ 10 ∧ ∀ l ∈ f, l.length + ps.length ≤ 10)
    ?_ (List.range m) _ ⟨[[]], _, rfl, rfl, ?_, by simp; omega⟩) ?_
  · rintro x ps ρ ⟨f, r2, rfl, he, hl, hs⟩
    rw [List.length_cons] at hl hs
    have hl' : (f.length + f.length) * 2 ^ ps.length ≤ 2 ^ 10 := by
      rw [Nat.pow_succ, Nat.mul_comm _ 2, ← Nat.mul_assoc, Nat.mul_two] at hl; exact hl
    have hl2 : f.length + f.length ≤ 2 ^ 10 := Nat.le_trans (Nat.le_mul_of_pos_right _ (Nat.pow_pos (by decide))) hl'
    simp only [tgF, Function.comp_apply, post_some, List.set_cons_succ, List.set_cons_zero]
    apply run_cons
    simp only [Ev.exec, ev, evs, evO, evTO, evAnd, evOr, evIt, seq2, asT, asB, asI, binF, cmpF, at0, at1, post_bind, post_map, post_some, post_nif, post_ifn, post_ifs, R.isBo, R.isOk, R.isOw, R.isD, ls_ls, eq_self, E.quiet, quiets, quietO, It.quiet, Option.bind_some, Option.map_some, Option.bind_none, Option.map_none, Bool.false_and, Bool.and_false, Bool.true_and, Bool.and_true, Bool.not_true, Bool.not_false, Bool.false_eq_true, if_true, if_false, ite_true, ite_false, reduceIte, eq_int, lt_int, le_int, add_int, sub_int, mul_int, neg_int, div_int, mod_int, pow_int, List.take_zero, List.drop_zero, List.all_cons, List.all_nil, List.any_cons, List.any_nil, List.set_cons_zero, List.set_cons_succ, not_true_eq_false, not_false_eq_true, true_and, and_true, biF, un1, intF, absF, setR, setRs, frz_lst, frz_d, frz_no, frz_fr, Bool.or_false, Bool.false_or, R.toM, sz1, sz2, sz3, sz4, sz5, sz6, sz7, sz8, sz9, sz10, tru_bl, decide_eq_true_eq, Nat.zero_le, List.map_cons, List.map_nil, List.length_cons, List.length_nil, itemsF, reads_bo, wipeE]
    rw [List.map_map]
    refine post_eq (compGo_same (R.d ∘ tupN) (fun l => some (M.d (tupN (l ++ [x])))) _ f (fun l hm => ⟨_, rfl, rfl, ?_⟩) (by rw [sizeLine_eq]; omega)) ?_
    · have hll := hs l hm
      have e : addF (.d (.tuple (l.map I))) (.d (.tuple [I x])) = some (.tup (l.map I ++ [I x])) := addl_ow (c := false) rfl rfl (by rw [List.length_map, List.length_singleton, sizeLine_eq]; omega)
      simp only [Ev.exec, ev, evs, evO, evTO, evAnd, evOr, evIt, seq2, asT, asB, asI, binF, cmpF, at0, at1, post_bind, post_map, post_some, post_nif, post_ifn, post_ifs, R.isBo, R.isOk, R.isOw, R.isD, ls_ls, eq_self, E.quiet, quiets, quietO, It.quiet, Option.bind_some, Option.map_some, Option.bind_none, Option.map_none, Bool.false_and, Bool.and_false, Bool.true_and, Bool.and_true, Bool.not_true, Bool.not_false, Bool.false_eq_true, if_true, if_false, ite_true, ite_false, reduceIte, eq_int, lt_int, le_int, add_int, sub_int, mul_int, neg_int, div_int, mod_int, pow_int, List.take_zero, List.drop_zero, List.all_cons, List.all_nil, List.any_cons, List.any_nil, List.set_cons_zero, List.set_cons_succ, not_true_eq_false, not_false_eq_true, true_and, and_true, biF, un1, intF, absF, setR, setRs, frz_lst, frz_d, frz_no, frz_fr, Bool.or_false, Bool.false_or, R.toM, sz1, sz2, sz3, sz4, sz5, sz6, sz7, sz8, sz9, sz10, tru_bl, decide_eq_true_eq, Nat.zero_le, List.map_cons, List.map_nil, List.length_cons, List.length_nil, Function.comp_apply, tupN, mapM1, e, List.map_append]
    · have e : addF (.bo (.ls ((f.map tupN).map M.d))) (.ow (.ls (((f.map (· ++ [x])).map tupN).map M.d))) = some (.lst ((stepL f x).map tupN)) := by
        rw [stepL, List.map_append]
        exact addl_ow (c := true) (leafs_bo _) (leafs_lst _) (by rw [List.length_map, List.length_map, List.length_map, sizeLine_eq]; omega)
      have e2 : f.map (fun l => M.d (tupN (l ++ [x]))) = ((f.map (· ++ [x])).map tupN).map M.d := by rw [List.map_map, List.map_map]; rfl
      rw [fm_map, e2]
      simp only [Ev.exec, ev, evs, evO, evTO, evAnd, evOr, evIt, seq2, asT, asB, asI, binF, cmpF, at0, at1, post_bind, post_map, post_some, post_nif, post_ifn, post_ifs, R.isBo, R.isOk, R.isOw, R.isD, ls_ls, eq_self, E.quiet, quiets, quietO, It.quiet, Option.bind_some, Option.map_some, Option.bind_none, Option.map_none, Bool.false_and, Bool.and_false, Bool.true_and, Bool.and_true, Bool.not_true, Bool.not_false, Bool.false_eq_true, if_true, if_false, ite_true, ite_false, reduceIte, eq_int, lt_int, le_int, add_int, sub_int, mul_int, neg_int, div_int, mod_int, pow_int, List.take_zero, List.drop_zero, List.all_cons, List.all_nil, List.any_cons, List.any_nil, List.set_cons_zero, List.set_cons_succ, not_true_eq_false, not_false_eq_true, true_and, and_true, biF, un1, intF, absF, setR, setRs, frz_lst, frz_d, frz_no, frz_fr, Bool.or_false, Bool.false_or, R.toM, sz1, sz2, sz3, sz4, sz5, sz6, sz7, sz8, sz9, sz10, tru_bl, decide_eq_true_eq, Nat.zero_le, List.map_cons, List.map_nil, List.length_cons, List.length_nil, backE, e, run_nil]
      refine ⟨stepL f x, _, rfl, he, by rw [stepL, List.length_append, List.length_map]; exact hl', fun l hl => ?_⟩
      rcases List.mem_append.mp hl with q | q
      · have := hs l q; omega
      · obtain ⟨j, hj, rfl⟩ := List.mem_map.mp q
        have := hs j hj
        rw [List.length_append, List.length_singleton]; omega
  · rw [List.length_singleton, Nat.one_mul, List.length_range]
    exact Nat.pow_le_pow_right (by decide) hm
  · rintro ⟨o, ρ⟩ ⟨ho, f, r2, he2, he, _⟩
    cases ho
    dsimp only at he2
    subst he2
    refine ⟨rfl, ?_⟩
    apply run_ret
    simp only [Ev.exec, ev, evs, evO, evTO, evAnd, evOr, evIt, seq2, asT, asB, asI, binF, cmpF, at0, at1, post_bind, post_map, post_some, post_nif, post_ifn, post_ifs, R.isBo, R.isOk, R.isOw, R.isD, ls_ls, eq_self, E.quiet, quiets, quietO, It.quiet, Option.bind_some, Option.map_some, Option.bind_none, Option.map_none, Bool.false_and, Bool.and_false, Bool.true_and, Bool.and_true, Bool.not_true, Bool.not_false, Bool.false_eq_true, if_true, if_false, ite_true, ite_false, reduceIte, eq_int, lt_int, le_int, add_int, sub_int, mul_int, neg_int, div_int, mod_int, pow_int, List.take_zero, List.drop_zero, List.all_cons, List.all_nil, List.any_cons, List.any_nil, List.set_cons_zero, List.set_cons_succ, not_true_eq_false, not_false_eq_true, true_and, and_true, biF, un1, intF, absF, setR, setRs, frz_lst, frz_d, frz_no, frz_fr, Bool.or_false, Bool.false_or, R.toM, sz1, sz2, sz3, sz4, sz5, sz6, sz7, sz8, sz9, sz10, tru_bl, decide_eq_true_eq, Nat.zero_le, List.map_cons, List.map_nil, List.length_cons, List.length_nil]
    refine ⟨_, rfl, ?_⟩
    rw [← he]; rfl
def drawF (flat : List Nat) (a b : Nat) : List Nat :=
  flat.map fun x => if x = (if flat.getD b 0 > flat.getD a 0 then flat.getD b 0 else flat.getD a 0) then (if flat.getD b 0 < flat.getD a 0 then flat.getD b 0 else flat.getD a 0) else x
theorem drawF_len (flat : List Nat) (a b : Nat) : (drawF flat a b).length = flat.length := by unfold drawF; rw [List.length_map]
theorem draw8 {flat : List Nat} {a b : Nat} (ha : a < flat.length) (hb : b < flat.length) (hl : flat.length ≤ 100) : Post (d1.g [.tup (flat.map I), .d (I a), .d (I b)]) fun r => r.1 = .tup ((drawF flat a b).map I) := by
  show Post (evDef T1 6 b1 [.tup (flat.map I), .d (I a), .d (I b)]) _
  apply def_run
  show Post (execs T1 b1 [.tup (flat.map I), .int (a : Int), .int (b : Int), .no, .no, .no]) _
  unfold b1
  apply run_cons
  have e1 := ixI ha
  have e2 := ixI hb
  have m1 : ∀ x y : Nat, min2F [.d (I x), .d (I y)] = some (.d (I (if y < x then y else x))) := fun x y => by
    show some (R.int (if (y : Int) < (x : Int) then (y : Int) else x)) = _
    unfold I
    congr 3
    split <;> split <;> omega
  have m2 : ∀ x y : Nat, max2F [.d (I x), .d (I y)] = some (.d (I (if y > x then y else x))) := fun x y => by
    show some (R.int (if (y : Int) > (x : Int) then (y : Int) else x)) = _
    unfold I
    congr 3
    split <;> split <;> omega
  simp only [Ev.exec, ev, evs, evO, evTO, evAnd, evOr, evIt, seq2, asT, asB, asI, binF, cmpF, at0, at1, post_bind, post_map, post_some, post_nif, post_ifn, post_ifs, R.isBo, R.isOk, R.isOw, R.isD, ls_ls, eq_self, E.quiet, quiets, quietO, It.quiet, Option.bind_some, Option.map_some, Option.bind_none, Option.map_none, Bool.false_and, Bool.and_false, Bool.true_and, Bool.and_true, Bool.not_true, Bool.not_false, Bool.false_eq_true, if_true, if_false, ite_true, ite_false, reduceIte, eq_int, lt_int, le_int, add_int, sub_int, mul_int, neg_int, div_int, mod_int, pow_int, List.take_zero, List.drop_zero, List.all_cons, List.all_nil, List.any_cons, List.any_nil, List.set_cons_zero, List.set_cons_succ, not_true_eq_false, not_false_eq_true, true_and, and_true, biF, un1, intF, absF, setR, setRs, frz_lst, frz_d, frz_no, frz_fr, Bool.or_false, Bool.false_or, R.toM, sz1, sz2, sz3, sz4, sz5, sz6, sz7, sz8, sz9, sz10, tru_bl, decide_eq_true_eq, Nat.zero_le, List.map_cons, List.map_nil, List.length_cons, List.length_nil, ix_dt, e1, e2, m1, m2]
  unfold drawF
  generalize (if flat.getD b 0 > flat.getD a 0 then flat.getD b 0 else flat.getD a 0) = hi
  generalize (if flat.getD b 0 < flat.getD a 0 then flat.getD b 0 else flat.getD a 0) = lo
  apply run_ret
  simp only [Ev.exec, ev, evs, evO, evTO, evAnd, evOr, evIt, seq2, asT, asB, asI, binF, cmpF, at0, at1, post_bind, post_map, post_some, post_nif, post_ifn, post_ifs, R.isBo, R.isOk, R.isOw, R.isD, ls_ls, eq_self, E.quiet, quiets, quietO, It.quiet, Option.bind_some, Option.map_some, Option.bind_none, Option.map_none, Bool.false_and, Bool.and_false, Bool.true_and, Bool.and_true, Bool.not_true, Bool.not_false, Bool.false_eq_true, if_true, if_false, ite_true, ite_false, reduceIte, eq_int, lt_int, le_int, add_int, sub_int, mul_int, neg_int, div_int, mod_int, pow_int, List.take_zero, List.drop_zero, List.all_cons, List.all_nil, List.any_cons, List.any_nil, List.set_cons_zero, List.set_cons_succ, not_true_eq_false, not_false_eq_true, true_and, and_true, biF, un1, intF, absF, setR, setRs, frz_lst, frz_d, frz_no, frz_fr, Bool.or_false, Bool.false_or, R.toM, sz1, sz2, sz3, sz4, sz5, sz6, sz7, sz8, sz9, sz10, tru_bl, decide_eq_true_eq, Nat.zero_le, List.map_cons, List.map_nil, List.length_cons, List.length_nil, itemsF, reads_dt, wipeE]
  rw [List.map_map]
  refine post_eq (compGo_same (R.d ∘ I) (fun x => some (M.d (I (if x = hi then lo else x)))) _ flat (fun x hm => ⟨_, rfl, rfl, ?_⟩) (by rw [sizeLine_eq]; omega)) ?_
  · have e : eqF (.d (I x)) (.d (I hi)) = some (decide (x = hi)) := by
      unfold I
      rw [eq_int]
      congr 1
      rw [decide_eq_decide]
      omega
    by_cases h : x = hi
    · have hd := decide_eq_true h
      rw [if_pos h]
      simp only [Ev.exec, ev, evs, evO, evTO, evAnd, evOr, evIt, seq2, asT, asB, asI, binF, cmpF, at0, at1, post_bind, post_map, post_some, post_nif, post_ifn, post_ifs, R.isBo, R.isOk, R.isOw, R.isD, ls_ls, eq_self, E.quiet, quiets, quietO, It.quiet, Option.bind_some, Option.map_some, Option.bind_none, Option.map_none, Bool.false_and, Bool.and_false, Bool.true_and, Bool.and_true, Bool.not_true, Bool.not_false, Bool.false_eq_true, if_true, if_false, ite_true, ite_false, reduceIte, eq_int, lt_int, le_int, add_int, sub_int, mul_int, neg_int, div_int, mod_int, pow_int, List.take_zero, List.drop_zero, List.all_cons, List.all_nil, List.any_cons, List.any_nil, List.set_cons_zero, List.set_cons_succ, not_true_eq_false, not_false_eq_true, true_and, and_true, biF, un1, intF, absF, setR, setRs, frz_lst, frz_d, frz_no, frz_fr, Bool.or_false, Bool.false_or, R.toM, sz1, sz2, sz3, sz4, sz5, sz6, sz7, sz8, sz9, sz10, tru_bl, decide_eq_true_eq, Nat.zero_le, List.map_cons, List.map_nil, List.length_cons, List.length_nil, Function.comp_apply, e, hd]
    · have hd := decide_eq_false h
      rw [if_neg h]
      simp only [Ev.exec, ev, evs, evO, evTO, evAnd, evOr, evIt, seq2, asT, asB, asI, binF, cmpF, at0, at1, post_bind, post_map, post_some, post_nif, post_ifn, post_ifs, R.isBo, R.isOk, R.isOw, R.isD, ls_ls, eq_self, E.quiet, quiets, quietO, It.quiet, Option.bind_some, Option.map_some, Option.bind_none, Option.map_none, Bool.false_and, Bool.and_false, Bool.true_and, Bool.and_true, Bool.not_true, Bool.not_false, Bool.false_eq_true, if_true, if_false, ite_true, ite_false, reduceIte, eq_int, lt_int, le_int, add_int, sub_int, mul_int, neg_int, div_int, mod_int, pow_int, List.take_zero, List.drop_zero, List.all_cons, List.all_nil, List.any_cons, List.any_nil, List.set_cons_zero, List.set_cons_succ, not_true_eq_false, not_false_eq_true, true_and, and_true, biF, un1, intF, absF, setR, setRs, frz_lst, frz_d, frz_no, frz_fr, Bool.or_false, Bool.false_or, R.toM, sz1, sz2, sz3, sz4, sz5, sz6, sz7, sz8, sz9, sz10, tru_bl, decide_eq_true_eq, Nat.zero_le, List.map_cons, List.map_nil, List.length_cons, List.length_nil, Function.comp_apply, e, hd]
  · rw [fm_map]
    have e3 : flat.map (fun x => M.d (I (if x = hi then lo else x))) = ((flat.map fun x => if x = hi then lo else x).map I).map M.d := by rw [List.map_map, List.map_map]; rfl
    rw [e3]
    simp only [Ev.exec, ev, evs, evO, evTO, evAnd, evOr, evIt, seq2, asT, asB, asI, binF, cmpF, at0, at1, post_bind, post_map, post_some, post_nif, post_ifn, post_ifs, R.isBo, R.isOk, R.isOw, R.isD, ls_ls, eq_self, E.quiet, quiets, quietO, It.quiet, Option.bind_some, Option.map_some, Option.bind_none, Option.map_none, Bool.false_and, Bool.and_false, Bool.true_and, Bool.and_true, Bool.not_true, Bool.not_false, Bool.false_eq_true, if_true, if_false, ite_true, ite_false, reduceIte, eq_int, lt_int, le_int, add_int, sub_int, mul_int, neg_int, div_int, mod_int, pow_int, List.take_zero, List.drop_zero, List.all_cons, List.all_nil, List.any_cons, List.any_nil, List.set_cons_zero, List.set_cons_succ, not_true_eq_false, not_false_eq_true, true_and, and_true, biF, un1, intF, absF, setR, setRs, frz_lst, frz_d, frz_no, frz_fr, Bool.or_false, Bool.false_or, R.toM, sz1, sz2, sz3, sz4, sz5, sz6, sz7, sz8, sz9, sz10, tru_bl, decide_eq_true_eq, Nat.zero_le, List.map_cons, List.map_nil, List.length_cons, List.length_nil, reads_lst]
    exact ⟨_, rfl, rfl⟩
/-! ### is_round -/
def tieP (t : Nat × Nat) : PyData := .tuple [I t.1, I t.2]
def stepR (ties : List (Nat × Nat)) (st : List Nat × List Nat) (p : Nat) : List Nat × List Nat :=
  ((st.1.set (ties.getD p (0, 0)).1 (st.1.getD (ties.getD p (0, 0)).1 0 + 1)).set (ties.getD p (0, 0)).2 (st.1.getD (ties.getD p (0, 0)).2 0 + 1), drawF st.2 (ties.getD p (0, 0)).1 (ties.getD p (0, 0)).2)
def endR (n : Nat) (many flat : List Nat) : Bool :=
  let touched := (List.range n).filter fun x => decide (0 < many.getD x 0)
  !touched.isEmpty && touched.all fun x => decide (many.getD x 0 = 2) && decide (flat.getD x 0 = flat.getD (touched.getD 0 0) 0)
def roundF (n : Nat) (ties : List (Nat × Nat)) (lot : List Nat) : Bool :=
  endR n (lot.foldl (stepR ties) (List.replicate n 0, List.range n)).1 (lot.foldl (stepR ties) (List.replicate n 0, List.range n)).2
theorem rep0 {n : Int} {m : Nat} (hn : n = m) (hm : m ≤ 100) : mulF (.ow (.ls [.d (.int 0)])) (.d (.int n)) = some (.lst ((List.replicate m 0).map I)) := by
  have e : n.toNat = m := by omega
  have e0 : -(2 ^ 63) ≤ n ∧ n < 2 ^ 63 := by omega
  clear hn
  show (if -(2 ^ 63) ≤ n ∧ n < 2 ^ 63 ∧ [PyData.int 0].length * n.toNat ≤ sizeLine then some (R.lst (List.replicate n.toNat [PyData.int 0]).flatten) else none) = _
  rw [if_pos ⟨e0.1, e0.2, by rw [sizeLine_eq, e, List.length_singleton]; omega⟩, e, List.flatten_replicate_singleton, List.map_replicate]
  rfl
theorem put_I {xs : List Nat} {a : Nat} (h : a < xs.length) (v : Nat) (i : Nat) (ρ : Ev.Env) (hi : ρ.at_ i = .ow (.ls ((xs.map I).map M.d))) : putL i (.d (I a)) (.d (I v)) ρ = some (ρ.set i (.lst ((xs.set a v).map I))) := by
  unfold putL I
  rw [hi]
  show (if (R.d (.int (v : Int))).isOw = true then (L2.ixN ((xs.map I).map M.d).length (a : Int)).map fun j => ρ.set i (.ow (.ls (((xs.map I).map M.d).set j (.d (I v))))) else none) = _
  rw [if_pos (show (R.d (.int (v : Int))).isOw = true from rfl), List.length_map, List.length_map]
  have e : L2.ixN xs.length (a : Int) = some a := by
    rw [ixN_in (by omega) (by omega), Int.toNat_natCast]
  rw [e, Option.map_some, List.map_set]
  show some (ρ.set i (.ow (.ls (((xs.map I).map M.d).set a (.d (I v)))))) = some (ρ.set i (.ow (.ls (((xs.map I).set a (I v)).map M.d))))
  rw [List.map_set]
theorem addI (a b : Nat) : addF (.d (I a)) (.d (.int (b : Nat))) = some (.d (I (a + b))) := by
  unfold I
  rw [add_int, Int.natCast_add]
theorem eqI (a b : Nat) : eqF (.d (I a)) (.d (I b)) = some (decide (a = b)) := by
  unfold I
  rw [eq_int]
  congr 1
  rw [decide_eq_decide]
  omega
theorem tie_ix {ties : List (Nat × Nat)} {p : Nat} (h : p < ties.length) : L2.atI (ties.map tieP) (p : Int) = some (tieP (ties.getD p (0, 0))) := by
  refine L2.atI_nat ?_
  rw [List.getElem?_map, List.getD_eq_getElem?_getD, List.getElem?_eq_getElem h]; rfl
theorem getD_mem {α : Type} {xs : List α} {i : Nat} {d : α} (h : i < xs.length) : xs.getD i d ∈ xs := by
  rw [List.getD_eq_getElem?_getD, List.getElem?_eq_getElem h]
  exact List.getElem_mem h
theorem round_ok {m : Nat} {n : Int} (hn : n = m) (hm : m ≤ 100) {ties : List (Nat × Nat)} (ht : ∀ t ∈ ties, t.1 < m ∧ t.2 < m) {lot : List Nat} (hl : ∀ p ∈ lot, p < ties.length) :
    Post (d2.g [.int n, .tup (ties.map tieP), .d (tupN lot)]) fun r => r.1 = .bl (roundF m ties lot) := by
  show Post (evDef T2 10 b2 [.int n, .tup (ties.map tieP), .tup (lot.map I)]) _
  apply def_run
  show Post (execs T2 b2 [.int n, .tup (ties.map tieP), .tup (lot.map I), .no, .no, .no, .no, .no, .no, .no]) _
  unfold b2
  apply run_cons
  have e1 := rep0 hn hm
  have e2 : rgD (0, n) = some ((List.range m).map I) := by
    unfold rgD
    dsimp only
    rw [if_pos (by rw [sizeLine_eq]; omega), rgL_nat hn]
  simp only [Ev.exec, ev, evs, evO, evTO, evAnd, evOr, evIt, seq2, asT, asB, asI, binF, cmpF, at0, at1, post_bind, post_map, post_some, post_nif, post_ifn, post_ifs, R.isBo, R.isOk, R.isOw, R.isD, ls_ls, eq_self, E.quiet, quiets, quietO, It.quiet, Option.bind_some, Option.map_some, Option.bind_none, Option.map_none, Bool.false_and, Bool.and_false, Bool.true_and, Bool.and_true, Bool.not_true, Bool.not_false, Bool.false_eq_true, if_true, if_false, ite_true, ite_false, reduceIte, eq_int, lt_int, le_int, add_int, sub_int, mul_int, neg_int, div_int, mod_int, pow_int, List.take_zero, List.drop_zero, List.all_cons, List.all_nil, List.any_cons, List.any_nil, List.set_cons_zero, List.set_cons_succ, not_true_eq_false, not_false_eq_true, true_and, and_true, biF, un1, intF, absF, setR, setRs, frz_lst, frz_d, frz_no, frz_fr, Bool.or_false, Bool.false_or, R.toM, sz1, sz2, sz3, sz4, sz5, sz6, sz7, sz8, sz9, sz10, tru_bl, decide_eq_true_eq, Nat.zero_le, List.map_cons, List.map_nil, List.length_cons, List.length_nil, e1, e2, rg1]
  refine ⟨by omega, ?_⟩
  apply run_cons
  simp only [Ev.exec, ev, evs, evO, evTO, evAnd, evOr, evIt, seq2, asT, asB, asI, binF, cmpF, at0, at1, post_bind, post_map, post_some, post_nif, post_ifn, post_ifs, R.isBo, R.isOk, R.isOw, R.isD, ls_ls, eq_self, E.quiet, quiets, quietO, It.quiet, Option.bind_some, Option.map_some, Option.bind_none, Option.map_none, Bool.false_and, Bool.and_false, Bool.true_and, Bool.and_true, Bool.not_true, Bool.not_false, Bool.false_eq_true, if_true, if_false, ite_true, ite_false, reduceIte, eq_int, lt_int, le_int, add_int, sub_int, mul_int, neg_int, div_int, mod_int, pow_int, List.take_zero, List.drop_zero, List.all_cons, List.all_nil, List.any_cons, List.any_nil, List.set_cons_zero, List.set_cons_succ, not_true_eq_false, not_false_eq_true, true_and, and_true, biF, un1, intF, absF, setR, setRs, frz_lst, frz_d, frz_no, frz_fr, Bool.or_false, Bool.false_or, R.toM, sz1, sz2, sz3, sz4, sz5, sz6, sz7, sz8, sz9, sz10, tru_bl, decide_eq_true_eq, Nat.zero_le, List.map_cons, List.map_nil, List.length_cons, List.length_nil]
  apply run_cons
  simp only [Ev.exec, ev, evs, evO, evTO, evAnd, evOr, evIt, seq2, asT, asB, asI, binF, cmpF, at0, at1, post_bind, post_map, post_some, post_nif, post_ifn, post_ifs, R.isBo, R.isOk, R.isOw, R.isD, ls_ls, eq_self, E.quiet, quiets, quietO, It.quiet, Option.bind_some, Option.map_some, Option.bind_none, Option.map_none, Bool.false_and, Bool.and_false, Bool.true_and, Bool.and_true, Bool.not_true, Bool.not_false, Bool.false_eq_true, if_true, if_false, ite_true, ite_false, reduceIte, eq_int, lt_int, le_int, add_int, sub_int, mul_int, neg_int, div_int, mod_int, pow_int, List.take_zero, List.drop_zero, List.all_cons, List.all_nil, List.any_cons, List.any_nil, List.set_cons_zero, List.set_cons_succ, not_true_eq_false, not_false_eq_true, true_and, and_true, biF, un1, intF, absF, setR, setRs, frz_lst, frz_d, frz_no, frz_fr, Bool.or_false, Bool.false_or, R.toM, sz1, sz2, sz3, sz4, sz5, sz6, sz7, sz8, sz9, sz10, tru_bl, decide_eq_true_eq, Nat.zero_le, List.map_cons, List.map_nil, List.length_cons, List.length_nil, itemsF, reads_dt]
  rw [List.map_map]
  refine post_mono (forGo_map (R.d ∘ I) (fun ps ρ => ∃ (many flat : List Nat) (r3 r7 r8 : R), ρ = [.int n, .tup (ties.map tieP), .tup (lot.map I), r3, .no, .lst (many.map I), .tup (flat.map I), r7, r8, .no] ∧ many.length = m ∧ flat.length = m ∧
      ps.foldl (stepR ties) (many, flat) = lot.foldl (stepR ties) (List.replicate m 0, List.range m) ∧ ∀ p ∈ ps, p < ties.length)
    ?_ lot _ ⟨_, _, _, _, _, rfl, List.length_replicate, List.length_range, rfl, hl⟩) ?_
  · rintro p ps ρ ⟨many, flat, r3, r7, r8, rfl, hk, hf, he, hp⟩
    have hpt := hp p List.mem_cons_self
    have htt := ht _ (getD_mem (d := (0, 0)) hpt)
    rw [List.foldl_cons, stepR] at he
    have e3 := tie_ix hpt
    generalize ties.getD p (0, 0) = t at htt he e3
    simp only [tgF, Function.comp_apply, post_some, List.set_cons_succ, List.set_cons_zero]
    apply run_cons
    have e4 : tgF (.tup [7, 8]) (.d (tieP t)) [.int n, .tup (ties.map tieP), .tup (lot.map I), .d (I p), .no, .lst (many.map I), .tup (flat.map I), r7, r8, .no] = some [.int n, .tup (ties.map tieP), .tup (lot.map I), .d (I p), .no, .lst (many.map I), .tup (flat.map I), .d (I t.1), .d (I t.2), .no] := rfl
    have e5 : ixF (.d (.tuple (ties.map tieP))) (.d (I p)) = some (.d (tieP t)) := by
      show (L2.atI (ties.map tieP) (p : Int)).map R.d = _
      rw [e3]; rfl
    simp only [Ev.exec, ev, evs, evO, evTO, evAnd, evOr, evIt, seq2, asT, asB, asI, binF, cmpF, at0, at1, post_bind, post_map, post_some, post_nif, post_ifn, post_ifs, R.isBo, R.isOk, R.isOw, R.isD, ls_ls, eq_self, E.quiet, quiets, quietO, It.quiet, Option.bind_some, Option.map_some, Option.bind_none, Option.map_none, Bool.false_and, Bool.and_false, Bool.true_and, Bool.and_true, Bool.not_true, Bool.not_false, Bool.false_eq_true, if_true, if_false, ite_true, ite_false, reduceIte, eq_int, lt_int, le_int, add_int, sub_int, mul_int, neg_int, div_int, mod_int, pow_int, List.take_zero, List.drop_zero, List.all_cons, List.all_nil, List.any_cons, List.any_nil, List.set_cons_zero, List.set_cons_succ, not_true_eq_false, not_false_eq_true, true_and, and_true, biF, un1, intF, absF, setR, setRs, frz_lst, frz_d, frz_no, frz_fr, Bool.or_false, Bool.false_or, R.toM, sz1, sz2, sz3, sz4, sz5, sz6, sz7, sz8, sz9, sz10, tru_bl, decide_eq_true_eq, Nat.zero_le, List.map_cons, List.map_nil, List.length_cons, List.length_nil, e5, e4]
    apply run_cons
    have f1 : ∀ a, a < m → ixF (.bo (.ls ((many.map I).map M.d))) (.d (I a)) = some (.d (I (many.getD a 0))) := fun a ha => by
      have := ix_bo (many.map I) (a : Int)
      rw [ixI (by omega)] at this
      exact this
    have f2 : ∀ a, addF (.d (I a)) (.d (.int 1)) = some (.d (I (a + 1))) := fun a => addI a 1
    have f3 := put_I (xs := many) (a := t.1) (by omega) (many.getD t.1 0 + 1) 5 [.int n, .tup (ties.map tieP), .tup (lot.map I), .d (I p), .no, .lst (many.map I), .tup (flat.map I), .d (I t.1), .d (I t.2), .no] rfl
    have f4 := put_I (xs := many.set t.1 (many.getD t.1 0 + 1)) (a := t.2) (by rw [List.length_set]; omega) (many.getD t.2 0 + 1) 5 [.int n, .tup (ties.map tieP), .tup (lot.map I), .d (I p), .no, .lst ((many.set t.1 (many.getD t.1 0 + 1)).map I), .tup (flat.map I), .d (I t.1), .d (I t.2), .no] rfl
    simp only [Ev.exec, ev, evs, evO, evTO, evAnd, evOr, evIt, seq2, asT, asB, asI, binF, cmpF, at0, at1, post_bind, post_map, post_some, post_nif, post_ifn, post_ifs, R.isBo, R.isOk, R.isOw, R.isD, ls_ls, eq_self, E.quiet, quiets, quietO, It.quiet, Option.bind_some, Option.map_some, Option.bind_none, Option.map_none, Bool.false_and, Bool.and_false, Bool.true_and, Bool.and_true, Bool.not_true, Bool.not_false, Bool.false_eq_true, if_true, if_false, ite_true, ite_false, reduceIte, eq_int, lt_int, le_int, add_int, sub_int, mul_int, neg_int, div_int, mod_int, pow_int, List.take_zero, List.drop_zero, List.all_cons, List.all_nil, List.any_cons, List.any_nil, List.set_cons_zero, List.set_cons_succ, not_true_eq_false, not_false_eq_true, true_and, and_true, biF, un1, intF, absF, setR, setRs, frz_lst, frz_d, frz_no, frz_fr, Bool.or_false, Bool.false_or, R.toM, sz1, sz2, sz3, sz4, sz5, sz6, sz7, sz8, sz9, sz10, tru_bl, decide_eq_true_eq, Nat.zero_le, List.map_cons, List.map_nil, List.length_cons, List.length_nil, f1 _ htt.1, f1 _ htt.2, f2, f3, f4]
    apply run_cons
    simp only [Ev.exec, ev, evs, evO, evTO, evAnd, evOr, evIt, seq2, asT, asB, asI, binF, cmpF, at0, at1, post_bind, post_map, post_some, post_nif, post_ifn, post_ifs, R.isBo, R.isOk, R.isOw, R.isD, ls_ls, eq_self, E.quiet, quiets, quietO, It.quiet, Option.bind_some, Option.map_some, Option.bind_none, Option.map_none, Bool.false_and, Bool.and_false, Bool.true_and, Bool.and_true, Bool.not_true, Bool.not_false, Bool.false_eq_true, if_true, if_false, ite_true, ite_false, reduceIte, eq_int, lt_int, le_int, add_int, sub_int, mul_int, neg_int, div_int, mod_int, pow_int, List.take_zero, List.drop_zero, List.all_cons, List.all_nil, List.any_cons, List.any_nil, List.set_cons_zero, List.set_cons_succ, not_true_eq_false, not_false_eq_true, true_and, and_true, biF, un1, intF, absF, setR, setRs, frz_lst, frz_d, frz_no, frz_fr, Bool.or_false, Bool.false_or, R.toM, sz1, sz2, sz3, sz4, sz5, sz6, sz7, sz8, sz9, sz10, tru_bl, decide_eq_true_eq, Nat.zero_le, List.map_cons, List.map_nil, List.length_cons, List.length_nil]
    apply run_cons
    have g8 : T2[1]? = some d1 := rfl
    simp only [Ev.exec, ev, evs, evO, evTO, evAnd, evOr, evIt, seq2, asT, asB, asI, binF, cmpF, at0, at1, post_bind, post_map, post_some, post_nif, post_ifn, post_ifs, R.isBo, R.isOk, R.isOw, R.isD, ls_ls, eq_self, E.quiet, quiets, quietO, It.quiet, Option.bind_some, Option.map_some, Option.bind_none, Option.map_none, Bool.false_and, Bool.and_false, Bool.true_and, Bool.and_true, Bool.not_true, Bool.not_false, Bool.false_eq_true, if_true, if_false, ite_true, ite_false, reduceIte, eq_int, lt_int, le_int, add_int, sub_int, mul_int, neg_int, div_int, mod_int, pow_int, List.take_zero, List.drop_zero, List.all_cons, List.all_nil, List.any_cons, List.any_nil, List.set_cons_zero, List.set_cons_succ, not_true_eq_false, not_false_eq_true, true_and, and_true, biF, un1, intF, absF, setR, setRs, frz_lst, frz_d, frz_no, frz_fr, Bool.or_false, Bool.false_or, R.toM, sz1, sz2, sz3, sz4, sz5, sz6, sz7, sz8, sz9, sz10, tru_bl, decide_eq_true_eq, Nat.zero_le, List.map_cons, List.map_nil, List.length_cons, List.length_nil, g8]
    refine post_mono (draw8 (flat := flat) (a := t.1) (b := t.2) (by omega) (by omega) (by omega)) ?_
    rintro ⟨r, r0⟩ h
    cases h
    simp only [Ev.exec, ev, evs, evO, evTO, evAnd, evOr, evIt, seq2, asT, asB, asI, binF, cmpF, at0, at1, post_bind, post_map, post_some, post_nif, post_ifn, post_ifs, R.isBo, R.isOk, R.isOw, R.isD, ls_ls, eq_self, E.quiet, quiets, quietO, It.quiet, Option.bind_some, Option.map_some, Option.bind_none, Option.map_none, Bool.false_and, Bool.and_false, Bool.true_and, Bool.and_true, Bool.not_true, Bool.not_false, Bool.false_eq_true, if_true, if_false, ite_true, ite_false, reduceIte, eq_int, lt_int, le_int, add_int, sub_int, mul_int, neg_int, div_int, mod_int, pow_int, List.take_zero, List.drop_zero, List.all_cons, List.all_nil, List.any_cons, List.any_nil, List.set_cons_zero, List.set_cons_succ, not_true_eq_false, not_false_eq_true, true_and, and_true, biF, un1, intF, absF, setR, setRs, frz_lst, frz_d, frz_no, frz_fr, Bool.or_false, Bool.false_or, R.toM, sz1, sz2, sz3, sz4, sz5, sz6, sz7, sz8, sz9, sz10, tru_bl, decide_eq_true_eq, Nat.zero_le, List.map_cons, List.map_nil, List.length_cons, List.length_nil, run_nil]
    exact ⟨_, _, _, _, _, rfl, by rw [List.length_set, List.length_set]; exact hk, by rw [drawF_len]; exact hf, he, fun q hq => hp q (List.mem_cons_of_mem _ hq)⟩
  rintro ⟨o, ρ⟩ ⟨ho, many, flat, r3, r7, r8, he2, hk, hf, he, _⟩
  cases ho
  dsimp only at he2
  subst he2
  refine ⟨rfl, ?_⟩
  rw [List.foldl_nil] at he
  unfold roundF
  rw [← he]
  dsimp only
  have f1 : ∀ a, a < m → ixF (.bo (.ls ((many.map I).map M.d))) (.d (I a)) = some (.d (I (many.getD a 0))) := fun a ha => by
    have := ix_bo (many.map I) (a : Int)
    rw [ixI (by omega)] at this
    exact this
  have f2 : ∀ a, a < m → ixF (.d (.tuple (flat.map I))) (.d (I a)) = some (.d (I (flat.getD a 0))) := fun a ha => by
    show (L2.atI (flat.map I) (a : Int)).map R.d = _
    rw [ixI (by omega)]; rfl
  have f3 : ∀ a, ltF (.d (.int 0)) (.d (I a)) = some (decide (0 < a)) := fun a => by
    show some (decide ((0 : Int) < (a : Int))) = _
    congr 1
    rw [decide_eq_decide]
    omega
  apply run_cons
  simp only [Ev.exec, ev, evs, evO, evTO, evAnd, evOr, evIt, seq2, asT, asB, asI, binF, cmpF, at0, at1, post_bind, post_map, post_some, post_nif, post_ifn, post_ifs, R.isBo, R.isOk, R.isOw, R.isD, ls_ls, eq_self, E.quiet, quiets, quietO, It.quiet, Option.bind_some, Option.map_some, Option.bind_none, Option.map_none, Bool.false_and, Bool.and_false, Bool.true_and, Bool.and_true, Bool.not_true, Bool.not_false, Bool.false_eq_true, if_true, if_false, ite_true, ite_false, reduceIte, eq_int, lt_int, le_int, add_int, sub_int, mul_int, neg_int, div_int, mod_int, pow_int, List.take_zero, List.drop_zero, List.all_cons, List.all_nil, List.any_cons, List.any_nil, List.set_cons_zero, List.set_cons_succ, not_true_eq_false, not_false_eq_true, true_and, and_true, biF, un1, intF, absF, setR, setRs, frz_lst, frz_d, frz_no, frz_fr, Bool.or_false, Bool.false_or, R.toM, sz1, sz2, sz3, sz4, sz5, sz6, sz7, sz8, sz9, sz10, tru_bl, decide_eq_true_eq, Nat.zero_le, List.map_cons, List.map_nil, List.length_cons, List.length_nil, rg1, wipeE]
  refine ⟨by omega, ?_⟩
  rw [rgL_nat hn, List.map_map]
  refine post_eq (compGo_same (R.d ∘ I) (fun x => if decide (0 < many.getD x 0) = true then some (M.d (I x)) else none) _ (List.range m) (fun x hx => ⟨_, rfl, rfl, ?_⟩) (by rw [List.length_range, sizeLine_eq]; omega)) ?_
  · have hx' := List.mem_range.mp hx
    cases h0 : decide (0 < many.getD x 0) <;> simp only [Ev.exec, ev, evs, evO, evTO, evAnd, evOr, evIt, seq2, asT, asB, asI, binF, cmpF, at0, at1, post_bind, post_map, post_some, post_nif, post_ifn, post_ifs, R.isBo, R.isOk, R.isOw, R.isD, ls_ls, eq_self, E.quiet, quiets, quietO, It.quiet, Option.bind_some, Option.map_some, Option.bind_none, Option.map_none, Bool.false_and, Bool.and_false, Bool.true_and, Bool.and_true, Bool.not_true, Bool.not_false, Bool.false_eq_true, if_true, if_false, ite_true, ite_false, reduceIte, eq_int, lt_int, le_int, add_int, sub_int, mul_int, neg_int, div_int, mod_int, pow_int, List.take_zero, List.drop_zero, List.all_cons, List.all_nil, List.any_cons, List.any_nil, List.set_cons_zero, List.set_cons_succ, not_true_eq_false, not_false_eq_true, true_and, and_true, biF, un1, intF, absF, setR, setRs, frz_lst, frz_d, frz_no, frz_fr, Bool.or_false, Bool.false_or, R.toM, sz1, sz2, sz3, sz4, sz5, sz6, sz7, sz8, sz9, sz10, tru_bl, decide_eq_true_eq, Nat.zero_le, List.map_cons, List.map_nil, List.length_cons, List.length_nil, Function.comp_apply, f1 x hx', f3, h0]
  rw [fm_if]
  unfold endR
  dsimp only
  have hmem : ∀ x ∈ (List.range m).filter (fun x => decide (0 < many.getD x 0)), x < m := fun x hx => List.mem_range.mp (List.mem_filter.mp hx).1
  have hlen : ((List.range m).filter fun x => decide (0 < many.getD x 0)).length ≤ 100 := by
    refine Nat.le_trans (List.length_filter_le _ _) ?_
    rw [List.length_range]; exact hm
  generalize (List.range m).filter (fun x => decide (0 < many.getD x 0)) = ts at hmem hlen
  have e6 : (ts.map fun x => M.d (I x)) = (ts.map I).map M.d := by rw [List.map_map]; rfl
  rw [e6]
  simp only [Ev.exec, ev, evs, evO, evTO, evAnd, evOr, evIt, seq2, asT, asB, asI, binF, cmpF, at0, at1, post_bind, post_map, post_some, post_nif, post_ifn, post_ifs, R.isBo, R.isOk, R.isOw, R.isD, ls_ls, eq_self, E.quiet, quiets, quietO, It.quiet, Option.bind_some, Option.map_some, Option.bind_none, Option.map_none, Bool.false_and, Bool.and_false, Bool.true_and, Bool.and_true, Bool.not_true, Bool.not_false, Bool.false_eq_true, if_true, if_false, ite_true, ite_false, reduceIte, eq_int, lt_int, le_int, add_int, sub_int, mul_int, neg_int, div_int, mod_int, pow_int, List.take_zero, List.drop_zero, List.all_cons, List.all_nil, List.any_cons, List.any_nil, List.set_cons_zero, List.set_cons_succ, not_true_eq_false, not_false_eq_true, true_and, and_true, biF, un1, intF, absF, setR, setRs, frz_lst, frz_d, frz_no, frz_fr, Bool.or_false, Bool.false_or, R.toM, sz1, sz2, sz3, sz4, sz5, sz6, sz7, sz8, sz9, sz10, tru_bl, decide_eq_true_eq, Nat.zero_le, List.map_cons, List.map_nil, List.length_cons, List.length_nil, backE]
  apply run_ret
  cases ts with
  | nil =>
    have e7 : eqF (.bo (.ls ((([] : List Nat).map I).map M.d))) (.ow (.ls [])) = some true := ne_nilN []
    simp only [List.map_nil] at e7
    simp only [Ev.exec, ev, evs, evO, evTO, evAnd, evOr, evIt, seq2, asT, asB, asI, binF, cmpF, at0, at1, post_bind, post_map, post_some, post_nif, post_ifn, post_ifs, R.isBo, R.isOk, R.isOw, R.isD, ls_ls, eq_self, E.quiet, quiets, quietO, It.quiet, Option.bind_some, Option.map_some, Option.bind_none, Option.map_none, Bool.false_and, Bool.and_false, Bool.true_and, Bool.and_true, Bool.not_true, Bool.not_false, Bool.false_eq_true, if_true, if_false, ite_true, ite_false, reduceIte, eq_int, lt_int, le_int, add_int, sub_int, mul_int, neg_int, div_int, mod_int, pow_int, List.take_zero, List.drop_zero, List.all_cons, List.all_nil, List.any_cons, List.any_nil, List.set_cons_zero, List.set_cons_succ, not_true_eq_false, not_false_eq_true, true_and, and_true, biF, un1, intF, absF, setR, setRs, frz_lst, frz_d, frz_no, frz_fr, Bool.or_false, Bool.false_or, R.toM, sz1, sz2, sz3, sz4, sz5, sz6, sz7, sz8, sz9, sz10, tru_bl, decide_eq_true_eq, Nat.zero_le, List.map_cons, List.map_nil, List.length_cons, List.length_nil, e7]
    exact ⟨_, rfl, rfl⟩
  | cons t0 ts =>
    have e7 : eqF (.bo (.ls (((t0 :: ts).map I).map M.d))) (.ow (.ls [])) = some false := ne_nilN (t0 :: ts)
    have e8 : ixF (.bo (.ls (((t0 :: ts).map I).map M.d))) (.d (.int 0)) = some (.d (I t0)) := by
      rw [ix_bo]
      show (L2.atI ((t0 :: ts).map I) ((0 : Nat) : Int)).map R.d = _
      rw [ixI (by simp)]; rfl
    have h0 := hmem t0 List.mem_cons_self
    have e9 : (t0 :: ts).getD 0 0 = t0 := rfl
    have e10 : (!(t0 :: ts).isEmpty) = true := rfl
    rw [e9, e10, Bool.true_and]
    generalize t0 :: ts = us at *
    simp only [Ev.exec, ev, evs, evO, evTO, evAnd, evOr, evIt, seq2, asT, asB, asI, binF, cmpF, at0, at1, post_bind, post_map, post_some, post_nif, post_ifn, post_ifs, R.isBo, R.isOk, R.isOw, R.isD, ls_ls, eq_self, E.quiet, quiets, quietO, It.quiet, Option.bind_some, Option.map_some, Option.bind_none, Option.map_none, Bool.false_and, Bool.and_false, Bool.true_and, Bool.and_true, Bool.not_true, Bool.not_false, Bool.false_eq_true, if_true, if_false, ite_true, ite_false, reduceIte, eq_int, lt_int, le_int, add_int, sub_int, mul_int, neg_int, div_int, mod_int, pow_int, List.take_zero, List.drop_zero, List.all_cons, List.all_nil, List.any_cons, List.any_nil, List.set_cons_zero, List.set_cons_succ, not_true_eq_false, not_false_eq_true, true_and, and_true, biF, un1, intF, absF, setR, setRs, frz_lst, frz_d, frz_no, frz_fr, Bool.or_false, Bool.false_or, R.toM, sz1, sz2, sz3, sz4, sz5, sz6, sz7, sz8, sz9, sz10, tru_bl, decide_eq_true_eq, Nat.zero_le, List.map_cons, List.map_nil, List.length_cons, List.length_nil, e7, itemsF, reads_bo, wipeE]
    rw [List.map_map]
    refine post_eq (compGo_same (R.d ∘ I) (fun x => some (M.d (.bool (decide (many.getD x 0 = 2) && decide (flat.getD x 0 = flat.getD t0 0))))) _ us (fun x hx => ⟨_, rfl, rfl, ?_⟩) (by rw [sizeLine_eq]; omega)) ?_
    · have hx' := hmem x hx
      have e11 : eqF (.d (I (many.getD x 0))) (.d (.int 2)) = some (decide (many.getD x 0 = 2)) := eqI _ 2
      have e13 := eqI (flat.getD x 0) (flat.getD t0 0)
      generalize decide (flat.getD x 0 = flat.getD t0 0) = k2 at e13
      generalize decide (many.getD x 0 = 2) = k1 at e11
      cases k1 <;> cases k2 <;> simp only [Ev.exec, ev, evs, evO, evTO, evAnd, evOr, evIt, seq2, asT, asB, asI, binF, cmpF, at0, at1, post_bind, post_map, post_some, post_nif, post_ifn, post_ifs, R.isBo, R.isOk, R.isOw, R.isD, ls_ls, eq_self, E.quiet, quiets, quietO, It.quiet, Option.bind_some, Option.map_some, Option.bind_none, Option.map_none, Bool.false_and, Bool.and_false, Bool.true_and, Bool.and_true, Bool.not_true, Bool.not_false, Bool.false_eq_true, if_true, if_false, ite_true, ite_false, reduceIte, eq_int, lt_int, le_int, add_int, sub_int, mul_int, neg_int, div_int, mod_int, pow_int, List.take_zero, List.drop_zero, List.all_cons, List.all_nil, List.any_cons, List.any_nil, List.set_cons_zero, List.set_cons_succ, not_true_eq_false, not_false_eq_true, true_and, and_true, biF, un1, intF, absF, setR, setRs, frz_lst, frz_d, frz_no, frz_fr, Bool.or_false, Bool.false_or, R.toM, sz1, sz2, sz3, sz4, sz5, sz6, sz7, sz8, sz9, sz10, tru_bl, decide_eq_true_eq, Nat.zero_le, List.map_cons, List.map_nil, List.length_cons, List.length_nil, Function.comp_apply, f1 x hx', f2 x hx', f2 t0 h0, e11, e13, e8]
    · rw [fm_map]
      have e12 : (us.map fun x => M.d (.bool (decide (many.getD x 0 = 2) && decide (flat.getD x 0 = flat.getD t0 0)))) = (us.map fun x => PyData.bool (decide (many.getD x 0 = 2) && decide (flat.getD x 0 = flat.getD t0 0))).map M.d := by rw [List.map_map]; rfl
      rw [e12]
      have e14 : ((us.map fun x => decide (many.getD x 0 = 2) && decide (flat.getD x 0 = flat.getD t0 0)).all id) = us.all fun x => decide (many.getD x 0 = 2) && decide (flat.getD x 0 = flat.getD t0 0) := by rw [List.all_map]; rfl
      generalize us.all (fun x => decide (many.getD x 0 = 2) && decide (flat.getD x 0 = flat.getD t0 0)) = k at e14
      simp only [Ev.exec, ev, evs, evO, evTO, evAnd, evOr, evIt, seq2, asT, asB, asI, binF, cmpF, at0, at1, post_bind, post_map, post_some, post_nif, post_ifn, post_ifs, R.isBo, R.isOk, R.isOw, R.isD, ls_ls, eq_self, E.quiet, quiets, quietO, It.quiet, Option.bind_some, Option.map_some, Option.bind_none, Option.map_none, Bool.false_and, Bool.and_false, Bool.true_and, Bool.and_true, Bool.not_true, Bool.not_false, Bool.false_eq_true, if_true, if_false, ite_true, ite_false, reduceIte, eq_int, lt_int, le_int, add_int, sub_int, mul_int, neg_int, div_int, mod_int, pow_int, List.take_zero, List.drop_zero, List.all_cons, List.all_nil, List.any_cons, List.any_nil, List.set_cons_zero, List.set_cons_succ, not_true_eq_false, not_false_eq_true, true_and, and_true, biF, un1, intF, absF, setR, setRs, frz_lst, frz_d, frz_no, frz_fr, Bool.or_false, Bool.false_or, R.toM, sz1, sz2, sz3, sz4, sz5, sz6, sz7, sz8, sz9, sz10, tru_bl, decide_eq_true_eq, Nat.zero_le, List.map_cons, List.map_nil, List.length_cons, List.length_nil, reads_lst, bools_map, backE, e14]
      cases k
      · exact ⟨_, rfl, _, rfl, rfl⟩
      · exact ⟨_, rfl, _, rfl, rfl⟩
/-! ### sorted lots -/
theorem alike_I : ∀ xs ys : List Nat, PySem.W.alikeAll (xs.map I) (ys.map I) = true
  | [], ys => by cases ys <;> rfl
  | _ :: _, [] => rfl
  | x :: xs, y :: ys => by
    rw [List.map_cons, List.map_cons, PySem.W.alikeAll, alike_I xs ys]; rfl
theorem lay_I : ∀ xs : List Nat, PyData.canLayAll0 (xs.map I) = true ∧ PyData.depthAll (xs.map I) = 0
  | [] => ⟨rfl, rfl⟩
  | x :: xs => by
    have h := lay_I xs
    exact ⟨by rw [List.map_cons, PyData.canLayAll0, h.1]; rfl, by simp [PyData.depthAll, PyData.depth, I, h.2]⟩
theorem sortable_tups (ls : List (List Nat)) : sortable (ls.map tupN) = true := by
  unfold sortable
  rw [List.all_eq_true]
  intro x hx
  obtain ⟨l, hl, rfl⟩ := List.mem_map.mp hx
  have h := lay_I l
  have e1 : (tupN l).canLay0 = true := by unfold tupN; rw [PyData.canLay0]; exact h.1
  have e2 : (tupN l).depth ≤ 60 := by simp only [tupN, PyData.depth, h.2]; decide
  have e3 : (ls.map tupN).all (fun y => PySem.W.alike (tupN l) y) = true := by
    rw [List.all_eq_true]
    intro y hy
    obtain ⟨k, hk, rfl⟩ := List.mem_map.mp hy
    unfold tupN
    rw [PySem.W.alike]
    exact alike_I l k
  rw [e1, e3, decide_eq_true e2]
  rfl
theorem sort_tups (ls : List (List Nat)) : sortF (ls.map tupN) = some ((sortL ls).map tupN) := by
  unfold sortF
  rw [if_pos (sortable_tups ls), sortD_tups]
/-! ### rounds, lots unbroken -/
def roundsF (n : Nat) (ties : List (Nat × Nat)) : List (List Nat) := (lotsF ties.length).filter (roundF n ties)
theorem bl_if (b : Bool) : truF (.d (.bool b)) = some b := rfl
theorem rounds_ok {m : Nat} {n : Int} (hn : n = m) (hm : m ≤ 100) {ties : List (Nat × Nat)} (ht : ∀ t ∈ ties, t.1 < m ∧ t.2 < m) (hl : ties.length ≤ 10) :
    Post (d3.g [.int n, .tup (ties.map tieP)]) fun r => ∃ ls : List (List Nat), ls.Perm (roundsF m ties) ∧ r.1 = .tup (ls.map tupN) := by
  have e0 : d3.g = evDef T3 3 b3 := rfl
  rw [e0]
  apply def_run
  show Post (execs T3 b3 [.int n, .tup (ties.map tieP), .no]) _
  unfold b3
  apply run_cons
  simp only [Ev.exec, ev, evs, evO, evTO, evAnd, evOr, evIt, seq2, asT, asB, asI, binF, cmpF, at0, at1, post_bind, post_map, post_some, post_nif, post_ifn, post_ifs, R.isBo, R.isOk, R.isOw, R.isD, ls_ls, eq_self, E.quiet, quiets, quietO, It.quiet, Option.bind_some, Option.map_some, Option.bind_none, Option.map_none, Bool.false_and, Bool.and_false, Bool.true_and, Bool.and_true, Bool.not_true, Bool.not_false, Bool.false_eq_true, if_true, if_false, ite_true, ite_false, reduceIte, eq_int, lt_int, le_int, add_int, sub_int, mul_int, neg_int, div_int, mod_int, pow_int, List.take_zero, List.drop_zero, List.all_cons, List.all_nil, List.any_cons, List.any_nil, List.set_cons_zero, List.set_cons_succ, not_true_eq_false, not_false_eq_true, true_and, and_true, biF, un1, intF, absF, setR, setRs, frz_lst, frz_d, frz_no, frz_fr, Bool.or_false, Bool.false_or, R.toM, sz1, sz2, sz3, sz4, sz5, sz6, sz7, sz8, sz9, sz10, tru_bl, decide_eq_true_eq, Nat.zero_le, List.map_cons, List.map_nil, List.length_cons, List.length_nil]
  apply run_cons
  simp only [Ev.exec, ev, evs, evO, evTO, evAnd, evOr, evIt, seq2, asT, asB, asI, binF, cmpF, at0, at1, post_bind, post_map, post_some, post_nif, post_ifn, post_ifs, R.isBo, R.isOk, R.isOw, R.isD, ls_ls, eq_self, E.quiet, quiets, quietO, It.quiet, Option.bind_some, Option.map_some, Option.bind_none, Option.map_none, Bool.false_and, Bool.and_false, Bool.true_and, Bool.and_true, Bool.not_true, Bool.not_false, Bool.false_eq_true, if_true, if_false, ite_true, ite_false, reduceIte, eq_int, lt_int, le_int, add_int, sub_int, mul_int, neg_int, div_int, mod_int, pow_int, List.take_zero, List.drop_zero, List.all_cons, List.all_nil, List.any_cons, List.any_nil, List.set_cons_zero, List.set_cons_succ, not_true_eq_false, not_false_eq_true, true_and, and_true, biF, un1, intF, absF, setR, setRs, frz_lst, frz_d, frz_no, frz_fr, Bool.or_false, Bool.false_or, R.toM, sz1, sz2, sz3, sz4, sz5, sz6, sz7, sz8, sz9, sz10, tru_bl, decide_eq_true_eq, Nat.zero_le, List.map_cons, List.map_nil, List.length_cons, List.length_nil]
  apply run_ret
  have g7 : T3[0]? = some d0 := rfl
  have g9 : T3[2]? = some d2 := rfl
  have hk : ∃ k : Int, lenF (.d (.tuple (ties.map tieP))) = some (.d (.int k)) ∧ k = ties.length := ⟨_, rfl, by rw [List.length_map]⟩
  obtain ⟨k, hk1, hk2⟩ := hk
  simp only [Ev.exec, ev, evs, evO, evTO, evAnd, evOr, evIt, seq2, asT, asB, asI, binF, cmpF, at0, at1, post_bind, post_map, post_some, post_nif, post_ifn, post_ifs, R.isBo, R.isOk, R.isOw, R.isD, ls_ls, eq_self, E.quiet, quiets, quietO, It.quiet, Option.bind_some, Option.map_some, Option.bind_none, Option.map_none, Bool.false_and, Bool.and_false, Bool.true_and, Bool.and_true, Bool.not_true, Bool.not_false, Bool.false_eq_true, if_true, if_false, ite_true, ite_false, reduceIte, eq_int, lt_int, le_int, add_int, sub_int, mul_int, neg_int, div_int, mod_int, pow_int, List.take_zero, List.drop_zero, List.all_cons, List.all_nil, List.any_cons, List.any_nil, List.set_cons_zero, List.set_cons_succ, not_true_eq_false, not_false_eq_true, true_and, and_true, biF, un1, intF, absF, setR, setRs, frz_lst, frz_d, frz_no, frz_fr, Bool.or_false, Bool.false_or, R.toM, sz1, sz2, sz3, sz4, sz5, sz6, sz7, sz8, sz9, sz10, tru_bl, decide_eq_true_eq, Nat.zero_le, List.map_cons, List.map_nil, List.length_cons, List.length_nil, hk1, g7]
  refine post_mono (lots_ok hk2 hl) ?_
  rintro ⟨r, r0⟩ h
  cases h
  simp only [Ev.exec, ev, evs, evO, evTO, evAnd, evOr, evIt, seq2, asT, asB, asI, binF, cmpF, at0, at1, post_bind, post_map, post_some, post_nif, post_ifn, post_ifs, R.isBo, R.isOk, R.isOw, R.isD, ls_ls, eq_self, E.quiet, quiets, quietO, It.quiet, Option.bind_some, Option.map_some, Option.bind_none, Option.map_none, Bool.false_and, Bool.and_false, Bool.true_and, Bool.and_true, Bool.not_true, Bool.not_false, Bool.false_eq_true, if_true, if_false, ite_true, ite_false, reduceIte, eq_int, lt_int, le_int, add_int, sub_int, mul_int, neg_int, div_int, mod_int, pow_int, List.take_zero, List.drop_zero, List.all_cons, List.all_nil, List.any_cons, List.any_nil, List.set_cons_zero, List.set_cons_succ, not_true_eq_false, not_false_eq_true, true_and, and_true, biF, un1, intF, absF, setR, setRs, frz_lst, frz_d, frz_no, frz_fr, Bool.or_false, Bool.false_or, R.toM, sz1, sz2, sz3, sz4, sz5, sz6, sz7, sz8, sz9, sz10, tru_bl, decide_eq_true_eq, Nat.zero_le, List.map_cons, List.map_nil, List.length_cons, List.length_nil, itemsF, reads_lst, wipeE]
  rw [List.map_map]
  refine post_eq (compGo_same (R.d ∘ tupN) (fun l => if roundF m ties l = true then some (M.d (tupN l)) else none) _ (lotsF ties.length) (fun l hm' => ⟨_, rfl, rfl, ?_⟩) (by rw [lots_len, sizeLine_eq]; exact Nat.le_trans (Nat.pow_le_pow_right (by decide) hl) (by decide))) ?_
  · obtain ⟨⟨r, r0⟩, e, h⟩ := round_ok hn hm ht (lot := l) (lots_lt l hm')
    cases h
    generalize roundF m ties l = k at e
    cases k <;> simp only [Ev.exec, ev, evs, evO, evTO, evAnd, evOr, evIt, seq2, asT, asB, asI, binF, cmpF, at0, at1, post_bind, post_map, post_some, post_nif, post_ifn, post_ifs, R.isBo, R.isOk, R.isOw, R.isD, ls_ls, eq_self, E.quiet, quiets, quietO, It.quiet, Option.bind_some, Option.map_some, Option.bind_none, Option.map_none, Bool.false_and, Bool.and_false, Bool.true_and, Bool.and_true, Bool.not_true, Bool.not_false, Bool.false_eq_true, if_true, if_false, ite_true, ite_false, reduceIte, eq_int, lt_int, le_int, add_int, sub_int, mul_int, neg_int, div_int, mod_int, pow_int, List.take_zero, List.drop_zero, List.all_cons, List.all_nil, List.any_cons, List.any_nil, List.set_cons_zero, List.set_cons_succ, not_true_eq_false, not_false_eq_true, true_and, and_true, biF, un1, intF, absF, setR, setRs, frz_lst, frz_d, frz_no, frz_fr, Bool.or_false, Bool.false_or, R.toM, sz1, sz2, sz3, sz4, sz5, sz6, sz7, sz8, sz9, sz10, tru_bl, decide_eq_true_eq, Nat.zero_le, List.map_cons, List.map_nil, List.length_cons, List.length_nil, Function.comp_apply, g9, e]
  · rw [fm_if]
    have e : ((lotsF ties.length).filter (roundF m ties)).map (fun l => M.d (tupN l)) = ((roundsF m ties).map tupN).map M.d := by rw [List.map_map]; rfl
    have e2 := sort_tups (roundsF m ties)
    have p := sortL_perm (roundsF m ties)
    rw [e]
    simp only [Ev.exec, ev, evs, evO, evTO, evAnd, evOr, evIt, seq2, asT, asB, asI, binF, cmpF, at0, at1, post_bind, post_map, post_some, post_nif, post_ifn, post_ifs, R.isBo, R.isOk, R.isOw, R.isD, ls_ls, eq_self, E.quiet, quiets, quietO, It.quiet, Option.bind_some, Option.map_some, Option.bind_none, Option.map_none, Bool.false_and, Bool.and_false, Bool.true_and, Bool.and_true, Bool.not_true, Bool.not_false, Bool.false_eq_true, if_true, if_false, ite_true, ite_false, reduceIte, eq_int, lt_int, le_int, add_int, sub_int, mul_int, neg_int, div_int, mod_int, pow_int, List.take_zero, List.drop_zero, List.all_cons, List.all_nil, List.any_cons, List.any_nil, List.set_cons_zero, List.set_cons_succ, not_true_eq_false, not_false_eq_true, true_and, and_true, biF, un1, intF, absF, setR, setRs, frz_lst, frz_d, frz_no, frz_fr, Bool.or_false, Bool.false_or, R.toM, sz1, sz2, sz3, sz4, sz5, sz6, sz7, sz8, sz9, sz10, tru_bl, decide_eq_true_eq, Nat.zero_le, List.map_cons, List.map_nil, List.length_cons, List.length_nil, reads_lst, e2]
    exact ⟨_, rfl, _, p, rfl⟩
theorem shaped_I (xs : List Nat) : SeqAt.shaped (.list (xs.map I)) = true := by
  have h := lay_I xs
  simp [SeqAt.shaped, PyData.canLay0, PyData.depth, h.1, h.2]
theorem inI (x : Nat) (xs : List Nat) : inF (.d (I x)) (.d (.tuple (xs.map I))) = some (xs.contains x) := by
  show (if SeqAt.shaped (I x) = true ∧ SeqAt.shaped (.list (xs.map I)) = true then some ((xs.map I).any fun z => PyData.eqv z (I x)) else none) = _
  rw [if_pos ⟨rfl, shaped_I xs⟩, List.any_map]
  congr 1
  induction xs with
  | nil => rfl
  | cons y ys ih =>
    rw [List.any_cons, List.contains_cons, ih]
    congr 1
    show PyData.eqv (.int (y : Int)) (.int (x : Int)) = _
    rw [PyData.eqv]
    by_cases h : x = y
    · subst h; simp
    · have h2 : ¬ (y : Int) = (x : Int) := by omega
      rw [beq_eq_false_iff_ne.mpr h2, beq_eq_false_iff_ne.mpr h]
theorem hasall_ok {lot rest : List Nat} (hl : rest.length ≤ 1000) : Post (d4.g [.d (tupN lot), .d (tupN rest)]) fun r => r.1 = .bl (rest.all fun x => lot.contains x) := by
  show Post (evDef T4 3 b4 [.tup (lot.map I), .tup (rest.map I)]) _
  apply def_run
  show Post (execs T4 b4 [.tup (lot.map I), .tup (rest.map I), .no]) _
  unfold b4
  apply run_ret
  simp only [Ev.exec, ev, evs, evO, evTO, evAnd, evOr, evIt, seq2, asT, asB, asI, binF, cmpF, at0, at1, post_bind, post_map, post_some, post_nif, post_ifn, post_ifs, R.isBo, R.isOk, R.isOw, R.isD, ls_ls, eq_self, E.quiet, quiets, quietO, It.quiet, Option.bind_some, Option.map_some, Option.bind_none, Option.map_none, Bool.false_and, Bool.and_false, Bool.true_and, Bool.and_true, Bool.not_true, Bool.not_false, Bool.false_eq_true, if_true, if_false, ite_true, ite_false, reduceIte, eq_int, lt_int, le_int, add_int, sub_int, mul_int, neg_int, div_int, mod_int, pow_int, List.take_zero, List.drop_zero, List.all_cons, List.all_nil, List.any_cons, List.any_nil, List.set_cons_zero, List.set_cons_succ, not_true_eq_false, not_false_eq_true, true_and, and_true, biF, un1, intF, absF, setR, setRs, frz_lst, frz_d, frz_no, frz_fr, Bool.or_false, Bool.false_or, R.toM, sz1, sz2, sz3, sz4, sz5, sz6, sz7, sz8, sz9, sz10, tru_bl, decide_eq_true_eq, Nat.zero_le, List.map_cons, List.map_nil, List.length_cons, List.length_nil, itemsF, reads_dt, wipeE]
  rw [List.map_map]
  refine post_eq (compGo_same (R.d ∘ I) (fun x => some (M.d (.bool (lot.contains x)))) _ rest (fun x hm => ⟨_, rfl, rfl, ?_⟩) (by rw [sizeLine_eq]; omega)) ?_
  · simp only [Ev.exec, ev, evs, evO, evTO, evAnd, evOr, evIt, seq2, asT, asB, asI, binF, cmpF, at0, at1, post_bind, post_map, post_some, post_nif, post_ifn, post_ifs, R.isBo, R.isOk, R.isOw, R.isD, ls_ls, eq_self, E.quiet, quiets, quietO, It.quiet, Option.bind_some, Option.map_some, Option.bind_none, Option.map_none, Bool.false_and, Bool.and_false, Bool.true_and, Bool.and_true, Bool.not_true, Bool.not_false, Bool.false_eq_true, if_true, if_false, ite_true, ite_false, reduceIte, eq_int, lt_int, le_int, add_int, sub_int, mul_int, neg_int, div_int, mod_int, pow_int, List.take_zero, List.drop_zero, List.all_cons, List.all_nil, List.any_cons, List.any_nil, List.set_cons_zero, List.set_cons_succ, not_true_eq_false, not_false_eq_true, true_and, and_true, biF, un1, intF, absF, setR, setRs, frz_lst, frz_d, frz_no, frz_fr, Bool.or_false, Bool.false_or, R.toM, sz1, sz2, sz3, sz4, sz5, sz6, sz7, sz8, sz9, sz10, tru_bl, decide_eq_true_eq, Nat.zero_le, List.map_cons, List.map_nil, List.length_cons, List.length_nil, Function.comp_apply, inI]
  · rw [fm_map]
    have e : rest.map (fun x => M.d (.bool (lot.contains x))) = (rest.map fun x => PyData.bool (lot.contains x)).map M.d := by rw [List.map_map]; rfl
    rw [e]
    simp only [Ev.exec, ev, evs, evO, evTO, evAnd, evOr, evIt, seq2, asT, asB, asI, binF, cmpF, at0, at1, post_bind, post_map, post_some, post_nif, post_ifn, post_ifs, R.isBo, R.isOk, R.isOw, R.isD, ls_ls, eq_self, E.quiet, quiets, quietO, It.quiet, Option.bind_some, Option.map_some, Option.bind_none, Option.map_none, Bool.false_and, Bool.and_false, Bool.true_and, Bool.and_true, Bool.not_true, Bool.not_false, Bool.false_eq_true, if_true, if_false, ite_true, ite_false, reduceIte, eq_int, lt_int, le_int, add_int, sub_int, mul_int, neg_int, div_int, mod_int, pow_int, List.take_zero, List.drop_zero, List.all_cons, List.all_nil, List.any_cons, List.any_nil, List.set_cons_zero, List.set_cons_succ, not_true_eq_false, not_false_eq_true, true_and, and_true, biF, un1, intF, absF, setR, setRs, frz_lst, frz_d, frz_no, frz_fr, Bool.or_false, Bool.false_or, R.toM, sz1, sz2, sz3, sz4, sz5, sz6, sz7, sz8, sz9, sz10, tru_bl, decide_eq_true_eq, Nat.zero_le, List.map_cons, List.map_nil, List.length_cons, List.length_nil, reads_lst, bools_map]
    refine ⟨_, rfl, ?_⟩
    rw [List.all_map]; rfl
def unbF (n : Nat) (ties : List (Nat × Nat)) : List (List Nat) :=
  let broken := (roundsF n ties).map (·.drop 1)
  (lotsF ties.length).filter fun lot => !broken.any fun rest => rest.all fun x => lot.contains x
theorem cut1 {α : Type} (xs : List α) : cutL xs (some 1) none = xs.drop 1 := by
  unfold cutL
  cases xs with
  | nil => rfl
  | cons x xs =>
    have e1 : HT.sIx (x :: xs).length 0 (some 1) = 1 := by
      show (if (1 : Int) < 0 then ((1 : Int) + ((x :: xs).length : Int)).toNat else min (1 : Int).toNat (x :: xs).length) = 1
      rw [if_neg (by decide), List.length_cons]
      show min 1 (xs.length + 1) = 1
      omega
    rw [e1]
    show (xs.drop 0).take ((x :: xs).length - 1) = xs
    rw [List.drop_zero, List.length_cons]
    exact List.take_of_length_le (by omega)
theorem unb_gen {m : Nat} {n : Int} (hn : n = m) (hm : m ≤ 100) {ties : List (Nat × Nat)} (ht : ∀ t ∈ ties, t.1 < m ∧ t.2 < m) (hl : ties.length ≤ 10) {T : Tbl} {D7 D10 D11 : Fd}
    (g7 : T[0]? = some D7) (g10 : T[3]? = some D10) (g11 : T[4]? = some D11)
    (s7 : ∀ {m : Nat} {n : Int}, n = m → m ≤ 10 → Post (D7.g [.int n]) fun r => r.1 = .lst ((lotsF m).map tupN))
    (s10 : Post (D10.g [.int n, .tup (ties.map tieP)]) fun r => ∃ ls : List (List Nat), ls.Perm (roundsF m ties) ∧ r.1 = .tup (ls.map tupN))
    (s11 : ∀ {lot rest : List Nat}, rest.length ≤ 1000 → Post (D11.g [.d (tupN lot), .d (tupN rest)]) fun r => r.1 = .bl (rest.all fun x => lot.contains x)) :
    Post (evDef T 7 b5 [.int n, .tup (ties.map tieP)]) fun r => r.1 = .tup ((sortL (unbF m ties)).map tupN) := by
  apply def_run
  show Post (execs T b5 [.int n, .tup (ties.map tieP), .no, .no, .no, .no, .no]) _
  unfold b5
  apply run_cons
  simp only [Ev.exec, ev, evs, evO, evTO, evAnd, evOr, evIt, seq2, asT, asB, asI, binF, cmpF, at0, at1, post_bind, post_map, post_some, post_nif, post_ifn, post_ifs, R.isBo, R.isOk, R.isOw, R.isD, ls_ls, eq_self, E.quiet, quiets, quietO, It.quiet, Option.bind_some, Option.map_some, Option.bind_none, Option.map_none, Bool.false_and, Bool.and_false, Bool.true_and, Bool.and_true, Bool.not_true, Bool.not_false, Bool.false_eq_true, if_true, if_false, ite_true, ite_false, reduceIte, eq_int, lt_int, le_int, add_int, sub_int, mul_int, neg_int, div_int, mod_int, pow_int, List.take_zero, List.drop_zero, List.all_cons, List.all_nil, List.any_cons, List.any_nil, List.set_cons_zero, List.set_cons_succ, not_true_eq_false, not_false_eq_true, true_and, and_true, biF, un1, intF, absF, setR, setRs, frz_lst, frz_d, frz_no, frz_fr, Bool.or_false, Bool.false_or, R.toM, sz1, sz2, sz3, sz4, sz5, sz6, sz7, sz8, sz9, sz10, tru_bl, decide_eq_true_eq, Nat.zero_le, List.map_cons, List.map_nil, List.length_cons, List.length_nil]
  apply run_cons
  simp only [Ev.exec, ev, evs, evO, evTO, evAnd, evOr, evIt, seq2, asT, asB, asI, binF, cmpF, at0, at1, post_bind, post_map, post_some, post_nif, post_ifn, post_ifs, R.isBo, R.isOk, R.isOw, R.isD, ls_ls, eq_self, E.quiet, quiets, quietO, It.quiet, Option.bind_some, Option.map_some, Option.bind_none, Option.map_none, Bool.false_and, Bool.and_false, Bool.true_and, Bool.and_true, Bool.not_true, Bool.not_false, Bool.false_eq_true, if_true, if_false, ite_true, ite_false, reduceIte, eq_int, lt_int, le_int, add_int, sub_int, mul_int, neg_int, div_int, mod_int, pow_int, List.take_zero, List.drop_zero, List.all_cons, List.all_nil, List.any_cons, List.any_nil, List.set_cons_zero, List.set_cons_succ, not_true_eq_false, not_false_eq_true, true_and, and_true, biF, un1, intF, absF, setR, setRs, frz_lst, frz_d, frz_no, frz_fr, Bool.or_false, Bool.false_or, R.toM, sz1, sz2, sz3, sz4, sz5, sz6, sz7, sz8, sz9, sz10, tru_bl, decide_eq_true_eq, Nat.zero_le, List.map_cons, List.map_nil, List.length_cons, List.length_nil]
  apply run_cons
  have hk : ∃ k : Int, lenF (.d (.tuple (ties.map tieP))) = some (.d (.int k)) ∧ k = ties.length := ⟨_, rfl, by rw [List.length_map]⟩
  obtain ⟨k, hk1, hk2⟩ := hk
  obtain ⟨⟨r, r0⟩, e10, ls, hls, h⟩ := s10
  cases h
  have hp1024 : 2 ^ ties.length ≤ 1024 := Nat.le_trans (Nat.pow_le_pow_right (by decide) hl) (by decide)
  have hlen : ls.length ≤ 1024 := by
    rw [hls.length_eq, roundsF]
    refine Nat.le_trans (List.length_filter_le _ _) ?_
    rw [lots_len]; exact hp1024
  have hsz : ∀ l ∈ ls, l.length ≤ 10 := fun l h => Nat.le_trans (lots_sz l (List.mem_filter.mp (hls.mem_iff.mp h)).1) hl
  rw [Ev.exec, post_bind]
  refine post_eq (ev_comp (ρ1 := [.int n, .tup (ties.map tieP), .no, .no, .no, .no, .no]) (R.d ∘ tupN) (fun l => some (M.d (tupN (l.drop 1)))) ls false ?_ rfl rfl (fun l hm' => ⟨[.int n, .tup (ties.map tieP), .no, .no, .no, .d (tupN l), .no], rfl, rfl, ?_⟩) (by rw [sizeLine_eq]; omega)) ?_
  · simp only [Ev.exec, ev, evs, evO, evTO, evAnd, evOr, evIt, seq2, asT, asB, asI, binF, cmpF, at0, at1, post_bind, post_map, post_some, post_nif, post_ifn, post_ifs, R.isBo, R.isOk, R.isOw, R.isD, ls_ls, eq_self, E.quiet, quiets, quietO, It.quiet, Option.bind_some, Option.map_some, Option.bind_none, Option.map_none, Bool.false_and, Bool.and_false, Bool.true_and, Bool.and_true, Bool.not_true, Bool.not_false, Bool.false_eq_true, if_true, if_false, ite_true, ite_false, reduceIte, eq_int, lt_int, le_int, add_int, sub_int, mul_int, neg_int, div_int, mod_int, pow_int, List.take_zero, List.drop_zero, List.all_cons, List.all_nil, List.any_cons, List.any_nil, List.set_cons_zero, List.set_cons_succ, not_true_eq_false, not_false_eq_true, true_and, and_true, biF, un1, intF, absF, setR, setRs, frz_lst, frz_d, frz_no, frz_fr, Bool.or_false, Bool.false_or, R.toM, sz1, sz2, sz3, sz4, sz5, sz6, sz7, sz8, sz9, sz10, tru_bl, decide_eq_true_eq, Nat.zero_le, List.map_cons, List.map_nil, List.length_cons, List.length_nil, g10, e10, itemsF, reads_dt, List.map_map]
  · have e : slcF (.d (tupN l)) (some 1) none = some (.d (tupN (l.drop 1))) := by
      show some (R.tup (cutL (l.map I) (some 1) none)) = _
      rw [cut_map, cut1]; rfl
    simp only [Ev.exec, ev, evs, evO, evTO, evAnd, evOr, evIt, seq2, asT, asB, asI, binF, cmpF, at0, at1, post_bind, post_map, post_some, post_nif, post_ifn, post_ifs, R.isBo, R.isOk, R.isOw, R.isD, ls_ls, eq_self, E.quiet, quiets, quietO, It.quiet, Option.bind_some, Option.map_some, Option.bind_none, Option.map_none, Bool.false_and, Bool.and_false, Bool.true_and, Bool.and_true, Bool.not_true, Bool.not_false, Bool.false_eq_true, if_true, if_false, ite_true, ite_false, reduceIte, eq_int, lt_int, le_int, add_int, sub_int, mul_int, neg_int, div_int, mod_int, pow_int, List.take_zero, List.drop_zero, List.all_cons, List.all_nil, List.any_cons, List.any_nil, List.set_cons_zero, List.set_cons_succ, not_true_eq_false, not_false_eq_true, true_and, and_true, biF, un1, intF, absF, setR, setRs, frz_lst, frz_d, frz_no, frz_fr, Bool.or_false, Bool.false_or, R.toM, sz1, sz2, sz3, sz4, sz5, sz6, sz7, sz8, sz9, sz10, tru_bl, decide_eq_true_eq, Nat.zero_le, List.map_cons, List.map_nil, List.length_cons, List.length_nil, e]
  rw [fm_map]
  have e : ls.map (fun l => M.d (tupN (l.drop 1))) = ((ls.map (·.drop 1)).map tupN).map M.d := by rw [List.map_map, List.map_map]; rfl
  rw [e]
  simp only [Ev.exec, ev, evs, evO, evTO, evAnd, evOr, evIt, seq2, asT, asB, asI, binF, cmpF, at0, at1, post_bind, post_map, post_some, post_nif, post_ifn, post_ifs, R.isBo, R.isOk, R.isOw, R.isD, ls_ls, eq_self, E.quiet, quiets, quietO, It.quiet, Option.bind_some, Option.map_some, Option.bind_none, Option.map_none, Bool.false_and, Bool.and_false, Bool.true_and, Bool.and_true, Bool.not_true, Bool.not_false, Bool.false_eq_true, if_true, if_false, ite_true, ite_false, reduceIte, eq_int, lt_int, le_int, add_int, sub_int, mul_int, neg_int, div_int, mod_int, pow_int, List.take_zero, List.drop_zero, List.all_cons, List.all_nil, List.any_cons, List.any_nil, List.set_cons_zero, List.set_cons_succ, not_true_eq_false, not_false_eq_true, true_and, and_true, biF, un1, intF, absF, setR, setRs, frz_lst, frz_d, frz_no, frz_fr, Bool.or_false, Bool.false_or, R.toM, sz1, sz2, sz3, sz4, sz5, sz6, sz7, sz8, sz9, sz10, tru_bl, decide_eq_true_eq, Nat.zero_le, List.map_cons, List.map_nil, List.length_cons, List.length_nil, backE, wipeE]
  have hu : unbF m ties = (lotsF ties.length).filter fun lot => !(ls.map (·.drop 1)).any fun rest => rest.all fun x => lot.contains x := by
    unfold unbF
    dsimp only
    refine List.filter_congr fun lot _ => ?_
    rw [(hls.map (·.drop 1)).any_eq]
  have hbs : (ls.map (·.drop 1)).length ≤ 1024 := by rw [List.length_map]; exact hlen
  have hbz : ∀ r ∈ ls.map (·.drop 1), r.length ≤ 1000 := fun r h => by
    obtain ⟨l, hl', rfl⟩ := List.mem_map.mp h
    have := hsz l hl'
    rw [List.length_drop]; omega
  generalize ls.map (·.drop 1) = bs at hu hbs hbz
  apply run_cons
  simp only [Ev.exec, ev, evs, evO, evTO, evAnd, evOr, evIt, seq2, asT, asB, asI, binF, cmpF, at0, at1, post_bind, post_map, post_some, post_nif, post_ifn, post_ifs, R.isBo, R.isOk, R.isOw, R.isD, ls_ls, eq_self, E.quiet, quiets, quietO, It.quiet, Option.bind_some, Option.map_some, Option.bind_none, Option.map_none, Bool.false_and, Bool.and_false, Bool.true_and, Bool.and_true, Bool.not_true, Bool.not_false, Bool.false_eq_true, if_true, if_false, ite_true, ite_false, reduceIte, eq_int, lt_int, le_int, add_int, sub_int, mul_int, neg_int, div_int, mod_int, pow_int, List.take_zero, List.drop_zero, List.all_cons, List.all_nil, List.any_cons, List.any_nil, List.set_cons_zero, List.set_cons_succ, not_true_eq_false, not_false_eq_true, true_and, and_true, biF, un1, intF, absF, setR, setRs, frz_lst, frz_d, frz_no, frz_fr, Bool.or_false, Bool.false_or, R.toM, sz1, sz2, sz3, sz4, sz5, sz6, sz7, sz8, sz9, sz10, tru_bl, decide_eq_true_eq, Nat.zero_le, List.map_cons, List.map_nil, List.length_cons, List.length_nil]
  apply run_cons
  simp only [Ev.exec, ev, evs, evO, evTO, evAnd, evOr, evIt, seq2, asT, asB, asI, binF, cmpF, at0, at1, post_bind, post_map, post_some, post_nif, post_ifn, post_ifs, R.isBo, R.isOk, R.isOw, R.isD, ls_ls, eq_self, E.quiet, quiets, quietO, It.quiet, Option.bind_some, Option.map_some, Option.bind_none, Option.map_none, Bool.false_and, Bool.and_false, Bool.true_and, Bool.and_true, Bool.not_true, Bool.not_false, Bool.false_eq_true, if_true, if_false, ite_true, ite_false, reduceIte, eq_int, lt_int, le_int, add_int, sub_int, mul_int, neg_int, div_int, mod_int, pow_int, List.take_zero, List.drop_zero, List.all_cons, List.all_nil, List.any_cons, List.any_nil, List.set_cons_zero, List.set_cons_succ, not_true_eq_false, not_false_eq_true, true_and, and_true, biF, un1, intF, absF, setR, setRs, frz_lst, frz_d, frz_no, frz_fr, Bool.or_false, Bool.false_or, R.toM, sz1, sz2, sz3, sz4, sz5, sz6, sz7, sz8, sz9, sz10, tru_bl, decide_eq_true_eq, Nat.zero_le, List.map_cons, List.map_nil, List.length_cons, List.length_nil, hk1, g7]
  refine post_mono (s7 hk2 hl) ?_
  rintro ⟨r, r0⟩ h
  cases h
  simp only [Ev.exec, ev, evs, evO, evTO, evAnd, evOr, evIt, seq2, asT, asB, asI, binF, cmpF, at0, at1, post_bind, post_map, post_some, post_nif, post_ifn, post_ifs, R.isBo, R.isOk, R.isOw, R.isD, ls_ls, eq_self, E.quiet, quiets, quietO, It.quiet, Option.bind_some, Option.map_some, Option.bind_none, Option.map_none, Bool.false_and, Bool.and_false, Bool.true_and, Bool.and_true, Bool.not_true, Bool.not_false, Bool.false_eq_true, if_true, if_false, ite_true, ite_false, reduceIte, eq_int, lt_int, le_int, add_int, sub_int, mul_int, neg_int, div_int, mod_int, pow_int, List.take_zero, List.drop_zero, List.all_cons, List.all_nil, List.any_cons, List.any_nil, List.set_cons_zero, List.set_cons_succ, not_true_eq_false, not_false_eq_true, true_and, and_true, biF, un1, intF, absF, setR, setRs, frz_lst, frz_d, frz_no, frz_fr, Bool.or_false, Bool.false_or, R.toM, sz1, sz2, sz3, sz4, sz5, sz6, sz7, sz8, sz9, sz10, tru_bl, decide_eq_true_eq, Nat.zero_le, List.map_cons, List.map_nil, List.length_cons, List.length_nil, itemsF, reads_lst]
  rw [List.map_map]
  refine post_mono (forGo_map (R.d ∘ tupN) (fun ps ρ => ∃ (f : List (List Nat)) (r4 : R), ρ = [.int n, .tup (ties.map tieP), .lst (bs.map tupN), .lst (f.map tupN), r4, .no, .no] ∧ f.length + ps.length ≤ 1024 ∧
      f ++ ps.filter (fun lot => !bs.any fun rest => rest.all fun x => lot.contains x) = unbF m ties)
    ?_ (lotsF ties.length) _ ⟨[], _, rfl, by rw [lots_len]; simpa using hp1024, by rw [hu]; rfl⟩) ?_
  · rintro lot ps ρ ⟨f, r4, rfl, hf, he⟩
    rw [List.length_cons] at hf
    simp only [tgF, Function.comp_apply, post_some, List.set_cons_succ, List.set_cons_zero]
    apply run_cons
    simp only [Ev.exec, ev, evs, evO, evTO, evAnd, evOr, evIt, seq2, asT, asB, asI, binF, cmpF, at0, at1, post_bind, post_map, post_some, post_nif, post_ifn, post_ifs, R.isBo, R.isOk, R.isOw, R.isD, ls_ls, eq_self, E.quiet, quiets, quietO, It.quiet, Option.bind_some, Option.map_some, Option.bind_none, Option.map_none, Bool.false_and, Bool.and_false, Bool.true_and, Bool.and_true, Bool.not_true, Bool.not_false, Bool.false_eq_true, if_true, if_false, ite_true, ite_false, reduceIte, eq_int, lt_int, le_int, add_int, sub_int, mul_int, neg_int, div_int, mod_int, pow_int, List.take_zero, List.drop_zero, List.all_cons, List.all_nil, List.any_cons, List.any_nil, List.set_cons_zero, List.set_cons_succ, not_true_eq_false, not_false_eq_true, true_and, and_true, biF, un1, intF, absF, setR, setRs, frz_lst, frz_d, frz_no, frz_fr, Bool.or_false, Bool.false_or, R.toM, sz1, sz2, sz3, sz4, sz5, sz6, sz7, sz8, sz9, sz10, tru_bl, decide_eq_true_eq, Nat.zero_le, List.map_cons, List.map_nil, List.length_cons, List.length_nil, itemsF, reads_bo, wipeE]
    rw [List.map_map]
    refine post_eq (compGo_same (R.d ∘ tupN) (fun rest => some (M.d (.bool (rest.all fun x => lot.contains x)))) _ bs (fun rest hr => ⟨_, rfl, rfl, ?_⟩) (by rw [sizeLine_eq]; omega)) ?_
    · obtain ⟨⟨r, r0⟩, e, h⟩ := s11 (lot := lot) (hbz rest hr)
      cases h
      simp only [Ev.exec, ev, evs, evO, evTO, evAnd, evOr, evIt, seq2, asT, asB, asI, binF, cmpF, at0, at1, post_bind, post_map, post_some, post_nif, post_ifn, post_ifs, R.isBo, R.isOk, R.isOw, R.isD, ls_ls, eq_self, E.quiet, quiets, quietO, It.quiet, Option.bind_some, Option.map_some, Option.bind_none, Option.map_none, Bool.false_and, Bool.and_false, Bool.true_and, Bool.and_true, Bool.not_true, Bool.not_false, Bool.false_eq_true, if_true, if_false, ite_true, ite_false, reduceIte, eq_int, lt_int, le_int, add_int, sub_int, mul_int, neg_int, div_int, mod_int, pow_int, List.take_zero, List.drop_zero, List.all_cons, List.all_nil, List.any_cons, List.any_nil, List.set_cons_zero, List.set_cons_succ, not_true_eq_false, not_false_eq_true, true_and, and_true, biF, un1, intF, absF, setR, setRs, frz_lst, frz_d, frz_no, frz_fr, Bool.or_false, Bool.false_or, R.toM, sz1, sz2, sz3, sz4, sz5, sz6, sz7, sz8, sz9, sz10, tru_bl, decide_eq_true_eq, Nat.zero_le, List.map_cons, List.map_nil, List.length_cons, List.length_nil, Function.comp_apply, g11, e]
    · rw [fm_map]
      have e2 : bs.map (fun rest => M.d (.bool (rest.all fun x => lot.contains x))) = (bs.map fun rest => PyData.bool (rest.all fun x => lot.contains x)).map M.d := by rw [List.map_map]; rfl
      have e3 : ((bs.map fun rest => rest.all fun x => lot.contains x).any id) = bs.any fun rest => rest.all fun x => lot.contains x := by rw [List.any_map]; rfl
      rw [e2]
      rw [List.filter_cons] at he
      generalize bs.any (fun rest => rest.all fun x => lot.contains x) = b at e3 he
      have up : f.length < sizeLine := by rw [sizeLine_eq]; omega
      cases b with
      | true =>
        simp only [Ev.exec, ev, evs, evO, evTO, evAnd, evOr, evIt, seq2, asT, asB, asI, binF, cmpF, at0, at1, post_bind, post_map, post_some, post_nif, post_ifn, post_ifs, R.isBo, R.isOk, R.isOw, R.isD, ls_ls, eq_self, E.quiet, quiets, quietO, It.quiet, Option.bind_some, Option.map_some, Option.bind_none, Option.map_none, Bool.false_and, Bool.and_false, Bool.true_and, Bool.and_true, Bool.not_true, Bool.not_false, Bool.false_eq_true, if_true, if_false, ite_true, ite_false, reduceIte, eq_int, lt_int, le_int, add_int, sub_int, mul_int, neg_int, div_int, mod_int, pow_int, List.take_zero, List.drop_zero, List.all_cons, List.all_nil, List.any_cons, List.any_nil, List.set_cons_zero, List.set_cons_succ, not_true_eq_false, not_false_eq_true, true_and, and_true, biF, un1, intF, absF, setR, setRs, frz_lst, frz_d, frz_no, frz_fr, Bool.or_false, Bool.false_or, R.toM, sz1, sz2, sz3, sz4, sz5, sz6, sz7, sz8, sz9, sz10, tru_bl, decide_eq_true_eq, Nat.zero_le, List.map_cons, List.map_nil, List.length_cons, List.length_nil, reads_lst, bools_map, e3, backE, run_nil]
        exact ⟨f, _, rfl, by omega, he⟩
      | false =>
        simp only [Ev.exec, ev, evs, evO, evTO, evAnd, evOr, evIt, seq2, asT, asB, asI, binF, cmpF, at0, at1, post_bind, post_map, post_some, post_nif, post_ifn, post_ifs, R.isBo, R.isOk, R.isOw, R.isD, ls_ls, eq_self, E.quiet, quiets, quietO, It.quiet, Option.bind_some, Option.map_some, Option.bind_none, Option.map_none, Bool.false_and, Bool.and_false, Bool.true_and, Bool.and_true, Bool.not_true, Bool.not_false, Bool.false_eq_true, if_true, if_false, ite_true, ite_false, reduceIte, eq_int, lt_int, le_int, add_int, sub_int, mul_int, neg_int, div_int, mod_int, pow_int, List.take_zero, List.drop_zero, List.all_cons, List.all_nil, List.any_cons, List.any_nil, List.set_cons_zero, List.set_cons_succ, not_true_eq_false, not_false_eq_true, true_and, and_true, biF, un1, intF, absF, setR, setRs, frz_lst, frz_d, frz_no, frz_fr, Bool.or_false, Bool.false_or, R.toM, sz1, sz2, sz3, sz4, sz5, sz6, sz7, sz8, sz9, sz10, tru_bl, decide_eq_true_eq, Nat.zero_le, List.map_cons, List.map_nil, List.length_cons, List.length_nil, reads_lst, bools_map, e3, backE]
        apply run_cons
        simp only [Ev.exec, ev, evs, evO, evTO, evAnd, evOr, evIt, seq2, asT, asB, asI, binF, cmpF, at0, at1, post_bind, post_map, post_some, post_nif, post_ifn, post_ifs, R.isBo, R.isOk, R.isOw, R.isD, ls_ls, eq_self, E.quiet, quiets, quietO, It.quiet, Option.bind_some, Option.map_some, Option.bind_none, Option.map_none, Bool.false_and, Bool.and_false, Bool.true_and, Bool.and_true, Bool.not_true, Bool.not_false, Bool.false_eq_true, if_true, if_false, ite_true, ite_false, reduceIte, eq_int, lt_int, le_int, add_int, sub_int, mul_int, neg_int, div_int, mod_int, pow_int, List.take_zero, List.drop_zero, List.all_cons, List.all_nil, List.any_cons, List.any_nil, List.set_cons_zero, List.set_cons_succ, not_true_eq_false, not_false_eq_true, true_and, and_true, biF, un1, intF, absF, setR, setRs, frz_lst, frz_d, frz_no, frz_fr, Bool.or_false, Bool.false_or, R.toM, sz1, sz2, sz3, sz4, sz5, sz6, sz7, sz8, sz9, sz10, tru_bl, decide_eq_true_eq, Nat.zero_le, List.map_cons, List.map_nil, List.length_cons, List.length_nil, appL, List.length_map, up, decide_true, run_nil]
        refine ⟨f ++ [lot], .d (tupN lot), ?_, by rw [List.length_append, List.length_singleton]; omega, ?_⟩
        · have e5 : ((f ++ [lot]).map tupN).map M.d = (f.map tupN).map M.d ++ [M.d (tupN lot)] := by rw [List.map_append, List.map_append]; rfl
          show _ = [R.int n, .tup (ties.map tieP), .lst (bs.map tupN), .ow (.ls (((f ++ [lot]).map tupN).map M.d)), .d (tupN lot), .no, .no]
          rw [e5]
        · rw [List.append_assoc]; exact he
  rintro ⟨o, ρ⟩ ⟨ho, f, r4, he2, hf, he⟩
  cases ho
  dsimp only at he2
  subst he2
  refine ⟨rfl, ?_⟩
  rw [List.filter_nil, List.append_nil] at he
  subst he
  have e4 := sort_tups (unbF m ties)
  apply run_ret
  simp only [Ev.exec, ev, evs, evO, evTO, evAnd, evOr, evIt, seq2, asT, asB, asI, binF, cmpF, at0, at1, post_bind, post_map, post_some, post_nif, post_ifn, post_ifs, R.isBo, R.isOk, R.isOw, R.isD, ls_ls, eq_self, E.quiet, quiets, quietO, It.quiet, Option.bind_some, Option.map_some, Option.bind_none, Option.map_none, Bool.false_and, Bool.and_false, Bool.true_and, Bool.and_true, Bool.not_true, Bool.not_false, Bool.false_eq_true, if_true, if_false, ite_true, ite_false, reduceIte, eq_int, lt_int, le_int, add_int, sub_int, mul_int, neg_int, div_int, mod_int, pow_int, List.take_zero, List.drop_zero, List.all_cons, List.all_nil, List.any_cons, List.any_nil, List.set_cons_zero, List.set_cons_succ, not_true_eq_false, not_false_eq_true, true_and, and_true, biF, un1, intF, absF, setR, setRs, frz_lst, frz_d, frz_no, frz_fr, Bool.or_false, Bool.false_or, R.toM, sz1, sz2, sz3, sz4, sz5, sz6, sz7, sz8, sz9, sz10, tru_bl, decide_eq_true_eq, Nat.zero_le, List.map_cons, List.map_nil, List.length_cons, List.length_nil, reads_bo, reads_lst, e4]
  exact ⟨_, rfl, rfl⟩
theorem unb_ok {m : Nat} {n : Int} (hn : n = m) (hm : m ≤ 100) {ties : List (Nat × Nat)} (ht : ∀ t ∈ ties, t.1 < m ∧ t.2 < m) (hl : ties.length ≤ 10) :
    Post (d5.g [.int n, .tup (ties.map tieP)]) fun r => r.1 = .tup ((sortL (unbF m ties)).map tupN) := by
  have e0 : d5.g = evDef T5 7 b5 := rfl
  rw [e0]
  exact unb_gen (D7 := d0) (D10 := d3) (D11 := d4) hn hm ht hl rfl rfl rfl lots_ok (rounds_ok hn hm ht hl) hasall_ok
/-! ### the row of colours -/
def updC (m : Nat) (f : List Int) (l : List Nat) : List Int := f.set (m - l.length) (f.getD (m - l.length) 0 + 1 - 2 * ((l.length : Int) % 2))
def colF (m : Nat) (ls : List (List Nat)) : List Int := ls.foldl (updC m) (List.replicate (m + 1) 0)
theorem updC_comm (m : Nat) (f : List Int) (x y : List Nat) (hx : x.length ≤ m) (hy : y.length ≤ m) : updC m (updC m f x) y = updC m (updC m f y) x := by
  by_cases h : x.length = y.length
  · unfold updC; rw [h]
  · have h1 : m - x.length ≠ m - y.length := by omega
    unfold updC
    rw [List.getD_eq_getElem?_getD, List.getD_eq_getElem?_getD, List.getD_eq_getElem?_getD, List.getD_eq_getElem?_getD, List.getElem?_set_ne h1, List.getElem?_set_ne (Ne.symm h1), List.set_comm _ _ h1]
theorem put_int {f : List Int} {k : Int} {j : Nat} (hk : k = j) (h : j < f.length) (v : Int) (i : Nat) (ρ : Ev.Env) (hi : ρ.at_ i = .ow (.ls ((f.map PyData.int).map M.d))) : putL i (.d (.int k)) (.d (.int v)) ρ = some (ρ.set i (.lst ((f.set j v).map .int))) := by
  unfold putL
  rw [hi]
  show (if (R.d (.int v)).isOw = true then (L2.ixN ((f.map PyData.int).map M.d).length k).map fun j => ρ.set i (.ow (.ls (((f.map PyData.int).map M.d).set j (.d (.int v))))) else none) = _
  rw [if_pos (show (R.d (.int v)).isOw = true from rfl), List.length_map, List.length_map]
  have e : L2.ixN f.length k = some j := by
    rw [ixN_in (by omega) (by omega)]
    congr 1
    omega
  rw [e, Option.map_some, List.map_set]
  show some (ρ.set i (.ow (.ls (((f.map PyData.int).map M.d).set j (.d (.int v)))))) = some (ρ.set i (.ow (.ls (((f.map PyData.int).set j (.int v)).map M.d))))
  rw [List.map_set]
theorem at_int {f : List Int} {k : Int} {j : Nat} (hk : k = j) (h : j < f.length) : ixF (.bo (.ls ((f.map PyData.int).map M.d))) (.d (.int k)) = some (.d (.int (f.getD j 0))) := by
  rw [ix_bo, hk, L2.atI_nat (v := .int (f.getD j 0)) (by rw [List.getElem?_map, List.getD_eq_getElem?_getD, List.getElem?_eq_getElem h]; rfl)]
  rfl
theorem col_gen {m : Nat} {n : Int} (hn : n = m) (hm : m ≤ 90) {ties : List (Nat × Nat)} (hu : ∀ l ∈ unbF m ties, l.length ≤ m) {T : Tbl} {D12 : Fd} (g12 : T[5]? = some D12)
    (s12 : Post (D12.g [.int n, .tup (ties.map tieP)]) fun r => r.1 = .tup ((sortL (unbF m ties)).map tupN)) :
    Post (evDef T 4 b6 [.int n, .tup (ties.map tieP)]) fun r => r.1 = .tup ((colF m (unbF m ties)).map .int) := by
  apply def_run
  show Post (execs T b6 [.int n, .tup (ties.map tieP), .no, .no]) _
  unfold b6
  apply run_cons
  have e1 := rep0 (n := n + 1) (m := m + 1) (by omega) (by omega)
  have e1' : (List.replicate (m + 1) 0).map I = (List.replicate (m + 1) (0 : Int)).map .int := by rw [List.map_replicate, List.map_replicate]; rfl
  rw [e1'] at e1
  simp only [Ev.exec, ev, evs, evO, evTO, evAnd, evOr, evIt, seq2, asT, asB, asI, binF, cmpF, at0, at1, post_bind, post_map, post_some, post_nif, post_ifn, post_ifs, R.isBo, R.isOk, R.isOw, R.isD, ls_ls, eq_self, E.quiet, quiets, quietO, It.quiet, Option.bind_some, Option.map_some, Option.bind_none, Option.map_none, Bool.false_and, Bool.and_false, Bool.true_and, Bool.and_true, Bool.not_true, Bool.not_false, Bool.false_eq_true, if_true, if_false, ite_true, ite_false, reduceIte, eq_int, lt_int, le_int, add_int, sub_int, mul_int, neg_int, div_int, mod_int, pow_int, List.take_zero, List.drop_zero, List.all_cons, List.all_nil, List.any_cons, List.any_nil, List.set_cons_zero, List.set_cons_succ, not_true_eq_false, not_false_eq_true, true_and, and_true, biF, un1, intF, absF, setR, setRs, frz_lst, frz_d, frz_no, frz_fr, Bool.or_false, Bool.false_or, R.toM, sz1, sz2, sz3, sz4, sz5, sz6, sz7, sz8, sz9, sz10, tru_bl, decide_eq_true_eq, Nat.zero_le, List.map_cons, List.map_nil, List.length_cons, List.length_nil, e1]
  apply run_cons
  simp only [Ev.exec, ev, evs, evO, evTO, evAnd, evOr, evIt, seq2, asT, asB, asI, binF, cmpF, at0, at1, post_bind, post_map, post_some, post_nif, post_ifn, post_ifs, R.isBo, R.isOk, R.isOw, R.isD, ls_ls, eq_self, E.quiet, quiets, quietO, It.quiet, Option.bind_some, Option.map_some, Option.bind_none, Option.map_none, Bool.false_and, Bool.and_false, Bool.true_and, Bool.and_true, Bool.not_true, Bool.not_false, Bool.false_eq_true, if_true, if_false, ite_true, ite_false, reduceIte, eq_int, lt_int, le_int, add_int, sub_int, mul_int, neg_int, div_int, mod_int, pow_int, List.take_zero, List.drop_zero, List.all_cons, List.all_nil, List.any_cons, List.any_nil, List.set_cons_zero, List.set_cons_succ, not_true_eq_false, not_false_eq_true, true_and, and_true, biF, un1, intF, absF, setR, setRs, frz_lst, frz_d, frz_no, frz_fr, Bool.or_false, Bool.false_or, R.toM, sz1, sz2, sz3, sz4, sz5, sz6, sz7, sz8, sz9, sz10, tru_bl, decide_eq_true_eq, Nat.zero_le, List.map_cons, List.map_nil, List.length_cons, List.length_nil]
  apply run_cons
  simp only [Ev.exec, ev, evs, evO, evTO, evAnd, evOr, evIt, seq2, asT, asB, asI, binF, cmpF, at0, at1, post_bind, post_map, post_some, post_nif, post_ifn, post_ifs, R.isBo, R.isOk, R.isOw, R.isD, ls_ls, eq_self, E.quiet, quiets, quietO, It.quiet, Option.bind_some, Option.map_some, Option.bind_none, Option.map_none, Bool.false_and, Bool.and_false, Bool.true_and, Bool.and_true, Bool.not_true, Bool.not_false, Bool.false_eq_true, if_true, if_false, ite_true, ite_false, reduceIte, eq_int, lt_int, le_int, add_int, sub_int, mul_int, neg_int, div_int, mod_int, pow_int, List.take_zero, List.drop_zero, List.all_cons, List.all_nil, List.any_cons, List.any_nil, List.set_cons_zero, List.set_cons_succ, not_true_eq_false, not_false_eq_true, true_and, and_true, biF, un1, intF, absF, setR, setRs, frz_lst, frz_d, frz_no, frz_fr, Bool.or_false, Bool.false_or, R.toM, sz1, sz2, sz3, sz4, sz5, sz6, sz7, sz8, sz9, sz10, tru_bl, decide_eq_true_eq, Nat.zero_le, List.map_cons, List.map_nil, List.length_cons, List.length_nil]
  apply run_cons
  simp only [Ev.exec, ev, evs, evO, evTO, evAnd, evOr, evIt, seq2, asT, asB, asI, binF, cmpF, at0, at1, post_bind, post_map, post_some, post_nif, post_ifn, post_ifs, R.isBo, R.isOk, R.isOw, R.isD, ls_ls, eq_self, E.quiet, quiets, quietO, It.quiet, Option.bind_some, Option.map_some, Option.bind_none, Option.map_none, Bool.false_and, Bool.and_false, Bool.true_and, Bool.and_true, Bool.not_true, Bool.not_false, Bool.false_eq_true, if_true, if_false, ite_true, ite_false, reduceIte, eq_int, lt_int, le_int, add_int, sub_int, mul_int, neg_int, div_int, mod_int, pow_int, List.take_zero, List.drop_zero, List.all_cons, List.all_nil, List.any_cons, List.any_nil, List.set_cons_zero, List.set_cons_succ, not_true_eq_false, not_false_eq_true, true_and, and_true, biF, un1, intF, absF, setR, setRs, frz_lst, frz_d, frz_no, frz_fr, Bool.or_false, Bool.false_or, R.toM, sz1, sz2, sz3, sz4, sz5, sz6, sz7, sz8, sz9, sz10, tru_bl, decide_eq_true_eq, Nat.zero_le, List.map_cons, List.map_nil, List.length_cons, List.length_nil, g12]
  refine post_mono s12 ?_
  rintro ⟨r, r0⟩ h
  cases h
  have hus := sortL_perm (unbF m ties)
  generalize sortL (unbF m ties) = us at hus
  simp only [Ev.exec, ev, evs, evO, evTO, evAnd, evOr, evIt, seq2, asT, asB, asI, binF, cmpF, at0, at1, post_bind, post_map, post_some, post_nif, post_ifn, post_ifs, R.isBo, R.isOk, R.isOw, R.isD, ls_ls, eq_self, E.quiet, quiets, quietO, It.quiet, Option.bind_some, Option.map_some, Option.bind_none, Option.map_none, Bool.false_and, Bool.and_false, Bool.true_and, Bool.and_true, Bool.not_true, Bool.not_false, Bool.false_eq_true, if_true, if_false, ite_true, ite_false, reduceIte, eq_int, lt_int, le_int, add_int, sub_int, mul_int, neg_int, div_int, mod_int, pow_int, List.take_zero, List.drop_zero, List.all_cons, List.all_nil, List.any_cons, List.any_nil, List.set_cons_zero, List.set_cons_succ, not_true_eq_false, not_false_eq_true, true_and, and_true, biF, un1, intF, absF, setR, setRs, frz_lst, frz_d, frz_no, frz_fr, Bool.or_false, Bool.false_or, R.toM, sz1, sz2, sz3, sz4, sz5, sz6, sz7, sz8, sz9, sz10, tru_bl, decide_eq_true_eq, Nat.zero_le, List.map_cons, List.map_nil, List.length_cons, List.length_nil, itemsF, reads_dt]
  rw [List.map_map]
  have hus' : ∀ l ∈ us, l.length ≤ m := fun l h => hu l (hus.mem_iff.mp h)
  refine post_mono (forGo_map (R.d ∘ tupN) (fun ps ρ => ∃ (f : List Int) (r3 : R), ρ = [.int n, .tup (ties.map tieP), .lst (f.map .int), r3] ∧ f.length = m + 1 ∧ ps.foldl (updC m) f = colF m us ∧ ∀ l ∈ ps, l.length ≤ m)
    ?_ us _ ⟨_, _, rfl, List.length_replicate, rfl, hus'⟩) ?_
  · rintro l ps ρ ⟨f, r3, rfl, hf, he, hp⟩
    have hlm := hp l List.mem_cons_self
    have hj : ∃ j : Int, lenF (.d (tupN l)) = some (.d (.int j)) ∧ j = l.length := ⟨_, rfl, by rw [List.length_map]⟩
    obtain ⟨j, hj1, hj2⟩ := hj
    have e2 := at_int (f := f) (k := n - j) (j := m - l.length) (by omega) (by omega)
    have e3 := put_int (f := f) (k := n - j) (j := m - l.length) (by omega) (by omega) (f.getD (m - l.length) 0 + 1 - 2 * (j % 2)) 2 [.int n, .tup (ties.map tieP), .lst (f.map .int), .d (tupN l)] rfl
    have l1 := mul_ok (show (2 : Int).natAbs < 2 ^ 2 by decide) (show (j % 2).natAbs < 2 ^ 1 by omega) (by decide)
    have p2 : (0 : Int) < 2 := by decide
    simp only [tgF, Function.comp_apply, post_some, List.set_cons_succ, List.set_cons_zero]
    apply run_cons
    simp only [Ev.exec, ev, evs, evO, evTO, evAnd, evOr, evIt, seq2, asT, asB, asI, binF, cmpF, at0, at1, post_bind, post_map, post_some, post_nif, post_ifn, post_ifs, R.isBo, R.isOk, R.isOw, R.isD, ls_ls, eq_self, E.quiet, quiets, quietO, It.quiet, Option.bind_some, Option.map_some, Option.bind_none, Option.map_none, Bool.false_and, Bool.and_false, Bool.true_and, Bool.and_true, Bool.not_true, Bool.not_false, Bool.false_eq_true, if_true, if_false, ite_true, ite_false, reduceIte, eq_int, lt_int, le_int, add_int, sub_int, mul_int, neg_int, div_int, mod_int, pow_int, List.take_zero, List.drop_zero, List.all_cons, List.all_nil, List.any_cons, List.any_nil, List.set_cons_zero, List.set_cons_succ, not_true_eq_false, not_false_eq_true, true_and, and_true, biF, un1, intF, absF, setR, setRs, frz_lst, frz_d, frz_no, frz_fr, Bool.or_false, Bool.false_or, R.toM, sz1, sz2, sz3, sz4, sz5, sz6, sz7, sz8, sz9, sz10, tru_bl, decide_eq_true_eq, Nat.zero_le, List.map_cons, List.map_nil, List.length_cons, List.length_nil, hj1, e2, e3, l1, p2, run_nil]
    refine ⟨_, _, rfl, by rw [List.length_set]; exact hf, ?_, fun q hq => hp q (List.mem_cons_of_mem _ hq)⟩
    rw [List.foldl_cons, updC, ← hj2] at he
    exact he
  rintro ⟨o, ρ⟩ ⟨ho, f, r3, he2, hf, he, _⟩
  cases ho
  dsimp only at he2
  subst he2
  refine ⟨rfl, ?_⟩
  rw [List.foldl_nil] at he
  subst he
  have hc : colF m us = colF m (unbF m ties) := hus.foldl_eq' (fun x hx y hy z => updC_comm m z x y (hus' x hx) (hus' y hy)) _
  rw [hc]
  apply run_ret
  simp only [Ev.exec, ev, evs, evO, evTO, evAnd, evOr, evIt, seq2, asT, asB, asI, binF, cmpF, at0, at1, post_bind, post_map, post_some, post_nif, post_ifn, post_ifs, R.isBo, R.isOk, R.isOw, R.isD, ls_ls, eq_self, E.quiet, quiets, quietO, It.quiet, Option.bind_some, Option.map_some, Option.bind_none, Option.map_none, Bool.false_and, Bool.and_false, Bool.true_and, Bool.and_true, Bool.not_true, Bool.not_false, Bool.false_eq_true, if_true, if_false, ite_true, ite_false, reduceIte, eq_int, lt_int, le_int, add_int, sub_int, mul_int, neg_int, div_int, mod_int, pow_int, List.take_zero, List.drop_zero, List.all_cons, List.all_nil, List.any_cons, List.any_nil, List.set_cons_zero, List.set_cons_succ, not_true_eq_false, not_false_eq_true, true_and, and_true, biF, un1, intF, absF, setR, setRs, frz_lst, frz_d, frz_no, frz_fr, Bool.or_false, Bool.false_or, R.toM, sz1, sz2, sz3, sz4, sz5, sz6, sz7, sz8, sz9, sz10, tru_bl, decide_eq_true_eq, Nat.zero_le, List.map_cons, List.map_nil, List.length_cons, List.length_nil, reads_bo]
  exact ⟨_, rfl, rfl⟩
theorem col_ok {m : Nat} {n : Int} (hn : n = m) (hm : m ≤ 90) {ties : List (Nat × Nat)} (ht : ∀ t ∈ ties, t.1 < m ∧ t.2 < m) (hl : ties.length ≤ 10) (hu : ∀ l ∈ unbF m ties, l.length ≤ m) :
    Post (d6.g [.int n, .tup (ties.map tieP)]) fun r => r.1 = .tup ((colF m (unbF m ties)).map .int) := by
  have e0 : d6.g = evDef T6 4 b6 := rfl
  rw [e0]
  exact col_gen (D12 := d5) hn hm hu rfl (unb_ok hn (by omega) ht hl)
end LK57
end
section
set_option Elab.async false
set_option linter.all false
set_option maxRecDepth 100000
namespace LK57
open PySem L2 Ev
/-! ### the law's own functions -/
theorem sort_two (x y : Nat) : sortF [I x, I y] = some [I (if y < x then y else x), I (if y > x then y else x)] := by
  have e1 : sortable [I x, I y] = true := by
    unfold I
    simp [sortable, PyData.canLay0, PyData.depth, PySem.W.alike]
  have e2 : sortD [I x, I y] = [I (if y < x then y else x), I (if y > x then y else x)] := by
    have e3 : ([x, y].mergeSort fun a b => decide (a ≤ b)) = [if y < x then y else x, if y > x then y else x] := by
      refine List.Perm.eq_of_pairwise (le := fun a b => decide (a ≤ b) = true) (fun a b _ _ h1 h2 => by have := of_decide_eq_true h1; have := of_decide_eq_true h2; omega) ?_ ?_ ((List.mergeSort_perm _ _).trans ?_)
      · exact List.pairwise_mergeSort (fun a b c h1 h2 => by have := of_decide_eq_true h1; have := of_decide_eq_true h2; exact decide_eq_true (by omega)) (fun a b => by simp; omega) _
      · refine List.pairwise_cons.mpr ⟨fun z hz => ?_, List.pairwise_singleton _ _⟩
        rw [List.mem_singleton.mp hz]
        apply decide_eq_true
        split <;> split <;> omega
      · by_cases h : y < x
        · rw [if_pos h, if_neg (by omega)]; exact .swap y x []
        · rw [if_neg h]
          by_cases h2 : y > x
          · rw [if_pos h2]
          · rw [if_neg h2, show y = x by omega]
    have e4 := List.map_mergeSort (r := fun a b : Nat => decide (a ≤ b)) (s := leD) (f := I) (l := [x, y]) fun a _ b _ => by
      unfold leD I
      rw [PySem.W.dataLt_int]
      by_cases h : a ≤ b
      · rw [decide_eq_true h, decide_eq_false (by omega)]; rfl
      · rw [decide_eq_false h, decide_eq_true (by omega)]; rfl
    rw [e3] at e4
    exact e4.symm
  unfold sortF
  rw [if_pos e1, e2]
theorem tied_ok (T : Tbl) {flat : List Nat} {t : Nat × Nat} (ha : t.1 < flat.length) (hb : t.2 < flat.length) (hl : flat.length ≤ 100) : Post (evDef T 5 b11 [.tup (flat.map I), .d (tieP t)]) fun r => r.1 = .tup ((drawF flat t.1 t.2).map I) := by
  apply def_run
  show Post (execs T b11 [.tup (flat.map I), .d (tieP t), .no, .no, .no]) _
  unfold b11
  apply run_cons
  have e0 : ixF (.d (tieP t)) (.d (.int 0)) = some (.d (I t.1)) := rfl
  have e1 : ixF (.d (tieP t)) (.d (.int 1)) = some (.d (I t.2)) := rfl
  have f : ∀ a, a < flat.length → ixF (.d (.tuple (flat.map I))) (.d (I a)) = some (.d (I (flat.getD a 0))) := fun a ha => by
    show (L2.atI (flat.map I) (a : Int)).map R.d = _
    rw [ixI ha]; rfl
  have e2 : (R.ow (.ls [.d (I (flat.getD t.1 0)), .d (I (flat.getD t.2 0))])).reads = some (true, [I (flat.getD t.1 0), I (flat.getD t.2 0)]) := rfl
  simp only [Ev.exec, ev, evs, evO, evTO, evAnd, evOr, evIt, seq2, asT, asB, asI, binF, cmpF, at0, at1, post_bind, post_map, post_some, post_nif, post_ifn, post_ifs, R.isBo, R.isOk, R.isOw, R.isD, ls_ls, eq_self, E.quiet, quiets, quietO, It.quiet, Option.bind_some, Option.map_some, Option.bind_none, Option.map_none, Bool.false_and, Bool.and_false, Bool.true_and, Bool.and_true, Bool.not_true, Bool.not_false, Bool.false_eq_true, if_true, if_false, ite_true, ite_false, reduceIte, eq_int, lt_int, le_int, add_int, sub_int, mul_int, neg_int, div_int, mod_int, pow_int, List.take_zero, List.drop_zero, List.all_cons, List.all_nil, List.any_cons, List.any_nil, List.set_cons_zero, List.set_cons_succ, not_true_eq_false, not_false_eq_true, true_and, and_true, biF, un1, intF, absF, setR, setRs, frz_lst, frz_d, frz_no, frz_fr, Bool.or_false, Bool.false_or, R.toM, sz1, sz2, sz3, sz4, sz5, sz6, sz7, sz8, sz9, sz10, tru_bl, decide_eq_true_eq, Nat.zero_le, List.map_cons, List.map_nil, List.length_cons, List.length_nil, e0, e1, f _ ha, f _ hb, e2, sort_two]
  unfold drawF
  generalize (if flat.getD t.2 0 > flat.getD t.1 0 then flat.getD t.2 0 else flat.getD t.1 0) = hi
  generalize (if flat.getD t.2 0 < flat.getD t.1 0 then flat.getD t.2 0 else flat.getD t.1 0) = lo
  have e3 : tgF (.tup [2, 3]) (.lst [I lo, I hi]) [.tup (flat.map I), .d (tieP t), .no, .no, .no] = some [.tup (flat.map I), .d (tieP t), .d (I lo), .d (I hi), .no] := rfl
  rw [e3]
  simp only [Ev.exec, ev, evs, evO, evTO, evAnd, evOr, evIt, seq2, asT, asB, asI, binF, cmpF, at0, at1, post_bind, post_map, post_some, post_nif, post_ifn, post_ifs, R.isBo, R.isOk, R.isOw, R.isD, ls_ls, eq_self, E.quiet, quiets, quietO, It.quiet, Option.bind_some, Option.map_some, Option.bind_none, Option.map_none, Bool.false_and, Bool.and_false, Bool.true_and, Bool.and_true, Bool.not_true, Bool.not_false, Bool.false_eq_true, if_true, if_false, ite_true, ite_false, reduceIte, eq_int, lt_int, le_int, add_int, sub_int, mul_int, neg_int, div_int, mod_int, pow_int, List.take_zero, List.drop_zero, List.all_cons, List.all_nil, List.any_cons, List.any_nil, List.set_cons_zero, List.set_cons_succ, not_true_eq_false, not_false_eq_true, true_and, and_true, biF, un1, intF, absF, setR, setRs, frz_lst, frz_d, frz_no, frz_fr, Bool.or_false, Bool.false_or, R.toM, sz1, sz2, sz3, sz4, sz5, sz6, sz7, sz8, sz9, sz10, tru_bl, decide_eq_true_eq, Nat.zero_le, List.map_cons, List.map_nil, List.length_cons, List.length_nil]
  apply run_ret
  simp only [Ev.exec, ev, evs, evO, evTO, evAnd, evOr, evIt, seq2, asT, asB, asI, binF, cmpF, at0, at1, post_bind, post_map, post_some, post_nif, post_ifn, post_ifs, R.isBo, R.isOk, R.isOw, R.isD, ls_ls, eq_self, E.quiet, quiets, quietO, It.quiet, Option.bind_some, Option.map_some, Option.bind_none, Option.map_none, Bool.false_and, Bool.and_false, Bool.true_and, Bool.and_true, Bool.not_true, Bool.not_false, Bool.false_eq_true, if_true, if_false, ite_true, ite_false, reduceIte, eq_int, lt_int, le_int, add_int, sub_int, mul_int, neg_int, div_int, mod_int, pow_int, List.take_zero, List.drop_zero, List.all_cons, List.all_nil, List.any_cons, List.any_nil, List.set_cons_zero, List.set_cons_succ, not_true_eq_false, not_false_eq_true, true_and, and_true, biF, un1, intF, absF, setR, setRs, frz_lst, frz_d, frz_no, frz_fr, Bool.or_false, Bool.false_or, R.toM, sz1, sz2, sz3, sz4, sz5, sz6, sz7, sz8, sz9, sz10, tru_bl, decide_eq_true_eq, Nat.zero_le, List.map_cons, List.map_nil, List.length_cons, List.length_nil, itemsF, reads_dt, wipeE]
  rw [List.map_map]
  refine post_eq (compGo_same (R.d ∘ I) (fun x => some (M.d (I (if x = hi then lo else x)))) _ flat (fun x hm => ⟨_, rfl, rfl, ?_⟩) (by rw [sizeLine_eq]; omega)) ?_
  · have e := eqI x hi
    by_cases h : x = hi
    · have hd := decide_eq_true h
      rw [if_pos h]
      simp only [Ev.exec, ev, evs, evO, evTO, evAnd, evOr, evIt, seq2, asT, asB, asI, binF, cmpF, at0, at1, post_bind, post_map, post_some, post_nif, post_ifn, post_ifs, R.isBo, R.isOk, R.isOw, R.isD, ls_ls, eq_self, E.quiet, quiets, quietO, It.quiet, Option.bind_some, Option.map_some, Option.bind_none, Option.map_none, Bool.false_and, Bool.and_false, Bool.true_and, Bool.and_true, Bool.not_true, Bool.not_false, Bool.false_eq_true, if_true, if_false, ite_true, ite_false, reduceIte, eq_int, lt_int, le_int, add_int, sub_int, mul_int, neg_int, div_int, mod_int, pow_int, List.take_zero, List.drop_zero, List.all_cons, List.all_nil, List.any_cons, List.any_nil, List.set_cons_zero, List.set_cons_succ, not_true_eq_false, not_false_eq_true, true_and, and_true, biF, un1, intF, absF, setR, setRs, frz_lst, frz_d, frz_no, frz_fr, Bool.or_false, Bool.false_or, R.toM, sz1, sz2, sz3, sz4, sz5, sz6, sz7, sz8, sz9, sz10, tru_bl, decide_eq_true_eq, Nat.zero_le, List.map_cons, List.map_nil, List.length_cons, List.length_nil, Function.comp_apply, e, hd]
    · have hd := decide_eq_false h
      rw [if_neg h]
      simp only [Ev.exec, ev, evs, evO, evTO, evAnd, evOr, evIt, seq2, asT, asB, asI, binF, cmpF, at0, at1, post_bind, post_map, post_some, post_nif, post_ifn, post_ifs, R.isBo, R.isOk, R.isOw, R.isD, ls_ls, eq_self, E.quiet, quiets, quietO, It.quiet, Option.bind_some, Option.map_some, Option.bind_none, Option.map_none, Bool.false_and, Bool.and_false, Bool.true_and, Bool.and_true, Bool.not_true, Bool.not_false, Bool.false_eq_true, if_true, if_false, ite_true, ite_false, reduceIte, eq_int, lt_int, le_int, add_int, sub_int, mul_int, neg_int, div_int, mod_int, pow_int, List.take_zero, List.drop_zero, List.all_cons, List.all_nil, List.any_cons, List.any_nil, List.set_cons_zero, List.set_cons_succ, not_true_eq_false, not_false_eq_true, true_and, and_true, biF, un1, intF, absF, setR, setRs, frz_lst, frz_d, frz_no, frz_fr, Bool.or_false, Bool.false_or, R.toM, sz1, sz2, sz3, sz4, sz5, sz6, sz7, sz8, sz9, sz10, tru_bl, decide_eq_true_eq, Nat.zero_le, List.map_cons, List.map_nil, List.length_cons, List.length_nil, Function.comp_apply, e, hd]
  · rw [fm_map]
    have e3 : flat.map (fun x => M.d (I (if x = hi then lo else x))) = ((flat.map fun x => if x = hi then lo else x).map I).map M.d := by rw [List.map_map, List.map_map]; rfl
    rw [e3]
    simp only [Ev.exec, ev, evs, evO, evTO, evAnd, evOr, evIt, seq2, asT, asB, asI, binF, cmpF, at0, at1, post_bind, post_map, post_some, post_nif, post_ifn, post_ifs, R.isBo, R.isOk, R.isOw, R.isD, ls_ls, eq_self, E.quiet, quiets, quietO, It.quiet, Option.bind_some, Option.map_some, Option.bind_none, Option.map_none, Bool.false_and, Bool.and_false, Bool.true_and, Bool.and_true, Bool.not_true, Bool.not_false, Bool.false_eq_true, if_true, if_false, ite_true, ite_false, reduceIte, eq_int, lt_int, le_int, add_int, sub_int, mul_int, neg_int, div_int, mod_int, pow_int, List.take_zero, List.drop_zero, List.all_cons, List.all_nil, List.any_cons, List.any_nil, List.set_cons_zero, List.set_cons_succ, not_true_eq_false, not_false_eq_true, true_and, and_true, biF, un1, intF, absF, setR, setRs, frz_lst, frz_d, frz_no, frz_fr, Bool.or_false, Bool.false_or, R.toM, sz1, sz2, sz3, sz4, sz5, sz6, sz7, sz8, sz9, sz10, tru_bl, decide_eq_true_eq, Nat.zero_le, List.map_cons, List.map_nil, List.length_cons, List.length_nil, reads_lst]
    exact ⟨_, rfl, rfl⟩
/-! ### lots -/
def step2 (f : List (List Nat)) (x : Nat) : List (List Nat) := f.flatMap fun l => [l, l ++ [x]]
theorem step2_perm (x : Nat) : ∀ f : List (List Nat), (step2 f x).Perm (stepL f x)
  | [] => .nil
  | l :: f => by
    show (l :: (l ++ [x]) :: step2 f x).Perm (l :: (f ++ (l ++ [x]) :: f.map (· ++ [x])))
    refine .cons l ?_
    refine ((step2_perm x f).cons _).trans ?_
    exact (List.perm_middle (l₁ := f) (a := l ++ [x]) (l₂ := f.map (· ++ [x]))).symm
theorem stepL_perm {f g : List (List Nat)} (h : f.Perm g) (x : Nat) : (stepL f x).Perm (stepL g x) := h.append (h.map _)
theorem fold2_perm : ∀ (ps : List Nat) {f g : List (List Nat)}, f.Perm g → (ps.foldl step2 f).Perm (ps.foldl stepL g)
  | [], _, _, h => h
  | p :: ps, _, _, h => fold2_perm ps ((step2_perm p _).trans (stepL_perm h p))
theorem step2_len (x : Nat) (f : List (List Nat)) : (step2 f x).length = f.length + f.length := by
  rw [(step2_perm x f).length_eq, stepL, List.length_append, List.length_map]
theorem sortL_congr {a b : List (List Nat)} (p : a.Perm b) : sortL a = sortL b := sorted_one (sortL_pw _) (sortL_pw _) ((sortL_perm _).trans (p.trans (sortL_perm _).symm))
theorem lots2_ok (T : Tbl) {m : Nat} {n : Int} (hn : n = m) (hm : m ≤ 10) : Post (evDef T 5 b12 [.int n]) fun r => r.1 = .lst ((sortL (lotsF m)).map tupN) := by
  apply def_run
  show Post (execs T b12 [.int n, .no, .no, .no, .no]) _
  unfold b12
  apply run_cons
  have m0 : ([] : List R).mapM R.data = some [] := rfl
  simp only [Ev.exec, ev, evs, evO, evTO, evAnd, evOr, evIt, seq2, asT, asB, asI, binF, cmpF, at0, at1, post_bind, post_map, post_some, post_nif, post_ifn, post_ifs, R.isBo, R.isOk, R.isOw, R.isD, ls_ls, eq_self, E.quiet, quiets, quietO, It.quiet, Option.bind_some, Option.map_some, Option.bind_none, Option.map_none, Bool.false_and, Bool.and_false, Bool.true_and, Bool.and_true, Bool.not_true, Bool.not_false, Bool.false_eq_true, if_true, if_false, ite_true, ite_false, reduceIte, eq_int, lt_int, le_int, add_int, sub_int, mul_int, neg_int, div_int, mod_int, pow_int, List.take_zero, List.drop_zero, List.all_cons, List.all_nil, List.any_cons, List.any_nil, List.set_cons_zero, List.set_cons_succ, not_true_eq_false, not_false_eq_true, true_and, and_true, biF, un1, intF, absF, setR, setRs, frz_lst, frz_d, frz_no, frz_fr, Bool.or_false, Bool.false_or, R.toM, sz1, sz2, sz3, sz4, sz5, sz6, sz7, sz8, sz9, sz10, tru_bl, decide_eq_true_eq, Nat.zero_le, List.map_cons, List.map_nil, List.length_cons, List.length_nil, m0]
  apply run_cons
  simp only [Ev.exec, ev, evs, evO, evTO, evAnd, evOr, evIt, seq2, asT, asB, asI, binF, cmpF, at0, at1, post_bind, post_map, post_some, post_nif, post_ifn, post_ifs, R.isBo, R.isOk, R.isOw, R.isD, ls_ls, eq_self, E.quiet, quiets, quietO, It.quiet, Option.bind_some, Option.map_some, Option.bind_none, Option.map_none, Bool.false_and, Bool.and_false, Bool.true_and, Bool.and_true, Bool.not_true, Bool.not_false, Bool.false_eq_true, if_true, if_false, ite_true, ite_false, reduceIte, eq_int, lt_int, le_int, add_int, sub_int, mul_int, neg_int, div_int, mod_int, pow_int, List.take_zero, List.drop_zero, List.all_cons, List.all_nil, List.any_cons, List.any_nil, List.set_cons_zero, List.set_cons_succ, not_true_eq_false, not_false_eq_true, true_and, and_true, biF, un1, intF, absF, setR, setRs, frz_lst, frz_d, frz_no, frz_fr, Bool.or_false, Bool.false_or, R.toM, sz1, sz2, sz3, sz4, sz5, sz6, sz7, sz8, sz9, sz10, tru_bl, decide_eq_true_eq, Nat.zero_le, List.map_cons, List.map_nil, List.length_cons, List.length_nil, rg1]
  refine ⟨by omega, ?_⟩
  rw [rgL_nat hn, List.map_map]
  refine post_mono (forGo_map (R.d ∘ I) (fun ps ρ => ∃ (f : List (List Nat)) (r2 r3 r4 : R), ρ = [.int n, .lst (f.map tupN), r2, r3, r4] ∧ ps.foldl step2 f = (List.range m).foldl step2 [[]] ∧ f.length * 2 ^ ps.length ≤ 2 ^ 10 ∧ ∀ l ∈ f, l.length + ps.length ≤ 10)
    ?_ (List.range m) _ ⟨[[]], _, _, _, rfl, rfl, ?_, by simp; omega⟩) ?_
  · rintro x ps ρ ⟨f, r2, r3, r4, rfl, he, hl, hs⟩
    rw [List.length_cons] at hl hs
    have hl' : (f.length + f.length) * 2 ^ ps.length ≤ 2 ^ 10 := by
      rw [Nat.pow_succ, Nat.mul_comm _ 2, ← Nat.mul_assoc, Nat.mul_two] at hl; exact hl
    have hl2 : f.length + f.length ≤ 2 ^ 10 := Nat.le_trans (Nat.le_mul_of_pos_right _ (Nat.pow_pos (by decide))) hl'
    simp only [tgF, Function.comp_apply, post_some, List.set_cons_succ, List.set_cons_zero]
    apply run_cons
    simp only [Ev.exec, ev, evs, evO, evTO, evAnd, evOr, evIt, seq2, asT, asB, asI, binF, cmpF, at0, at1, post_bind, post_map, post_some, post_nif, post_ifn, post_ifs, R.isBo, R.isOk, R.isOw, R.isD, ls_ls, eq_self, E.quiet, quiets, quietO, It.quiet, Option.bind_some, Option.map_some, Option.bind_none, Option.map_none, Bool.false_and, Bool.and_false, Bool.true_and, Bool.and_true, Bool.not_true, Bool.not_false, Bool.false_eq_true, if_true, if_false, ite_true, ite_false, reduceIte, eq_int, lt_int, le_int, add_int, sub_int, mul_int, neg_int, div_int, mod_int, pow_int, List.take_zero, List.drop_zero, List.all_cons, List.all_nil, List.any_cons, List.any_nil, List.set_cons_zero, List.set_cons_succ, not_true_eq_false, not_false_eq_true, true_and, and_true, biF, un1, intF, absF, setR, setRs, frz_lst, frz_d, frz_no, frz_fr, Bool.or_false, Bool.false_or, R.toM, sz1, sz2, sz3, sz4, sz5, sz6, sz7, sz8, sz9, sz10, tru_bl, decide_eq_true_eq, Nat.zero_le, List.map_cons, List.map_nil, List.length_cons, List.length_nil]
    apply run_cons
    simp only [Ev.exec, ev, evs, evO, evTO, evAnd, evOr, evIt, seq2, asT, asB, asI, binF, cmpF, at0, at1, post_bind, post_map, post_some, post_nif, post_ifn, post_ifs, R.isBo, R.isOk, R.isOw, R.isD, ls_ls, eq_self, E.quiet, quiets, quietO, It.quiet, Option.bind_some, Option.map_some, Option.bind_none, Option.map_none, Bool.false_and, Bool.and_false, Bool.true_and, Bool.and_true, Bool.not_true, Bool.not_false, Bool.false_eq_true, if_true, if_false, ite_true, ite_false, reduceIte, eq_int, lt_int, le_int, add_int, sub_int, mul_int, neg_int, div_int, mod_int, pow_int, List.take_zero, List.drop_zero, List.all_cons, List.all_nil, List.any_cons, List.any_nil, List.set_cons_zero, List.set_cons_succ, not_true_eq_false, not_false_eq_true, true_and, and_true, biF, un1, intF, absF, setR, setRs, frz_lst, frz_d, frz_no, frz_fr, Bool.or_false, Bool.false_or, R.toM, sz1, sz2, sz3, sz4, sz5, sz6, sz7, sz8, sz9, sz10, tru_bl, decide_eq_true_eq, Nat.zero_le, List.map_cons, List.map_nil, List.length_cons, List.length_nil]
    apply run_cons
    simp only [Ev.exec, ev, evs, evO, evTO, evAnd, evOr, evIt, seq2, asT, asB, asI, binF, cmpF, at0, at1, post_bind, post_map, post_some, post_nif, post_ifn, post_ifs, R.isBo, R.isOk, R.isOw, R.isD, ls_ls, eq_self, E.quiet, quiets, quietO, It.quiet, Option.bind_some, Option.map_some, Option.bind_none, Option.map_none, Bool.false_and, Bool.and_false, Bool.true_and, Bool.and_true, Bool.not_true, Bool.not_false, Bool.false_eq_true, if_true, if_false, ite_true, ite_false, reduceIte, eq_int, lt_int, le_int, add_int, sub_int, mul_int, neg_int, div_int, mod_int, pow_int, List.take_zero, List.drop_zero, List.all_cons, List.all_nil, List.any_cons, List.any_nil, List.set_cons_zero, List.set_cons_succ, not_true_eq_false, not_false_eq_true, true_and, and_true, biF, un1, intF, absF, setR, setRs, frz_lst, frz_d, frz_no, frz_fr, Bool.or_false, Bool.false_or, R.toM, sz1, sz2, sz3, sz4, sz5, sz6, sz7, sz8, sz9, sz10, tru_bl, decide_eq_true_eq, Nat.zero_le, List.map_cons, List.map_nil, List.length_cons, List.length_nil, itemsF, reads_dl]
    rw [List.map_map]
    refine post_mono (forGo_map (R.d ∘ tupN) (fun qs ρ => ∃ (acc : List (List Nat)) (r4 : R), ρ = [.int n, .d (.list (f.map tupN)), .d (I x), .lst (acc.map tupN), r4] ∧ acc ++ step2 qs x = step2 f x ∧ ∀ l ∈ qs, l.length ≤ 10)
      ?_ f _ ⟨[], _, rfl, rfl, fun l hl => by have := hs l hl; omega⟩) ?_
    · rintro l qs ρ ⟨acc, r4, rfl, ha, hq⟩
      have hll := hq l List.mem_cons_self
      simp only [tgF, Function.comp_apply, post_some, List.set_cons_succ, List.set_cons_zero]
      apply run_cons
      have e : addF (.d (.tuple (l.map I))) (.d (.tuple [I x])) = some (.tup (l.map I ++ [I x])) := addl_ow (c := false) rfl rfl (by rw [List.length_map, List.length_singleton, sizeLine_eq]; omega)
      have e' : addF (.d (tupN l)) (.d (.tuple [I x])) = some (.d (tupN (l ++ [x]))) := by
        show addF (.d (.tuple (l.map I))) (.d (.tuple [I x])) = some (.d (.tuple ((l ++ [x]).map I)))
        rw [e, List.map_append]; rfl
      have hal : acc.length + 2 ≤ 1024 := by
        have h1 : (acc ++ step2 (l :: qs) x).length = (step2 f x).length := by rw [ha]
        rw [List.length_append, step2_len, step2_len, List.length_cons] at h1
        omega
      have e7 : extL 3 (.ow (.ls [.d (tupN l), .d (tupN (l ++ [x]))])) [.int n, .d (.list (f.map tupN)), .d (I x), .lst (acc.map tupN), .d (tupN l)] = some [.int n, .d (.list (f.map tupN)), .d (I x), .lst ((acc ++ [l, l ++ [x]]).map tupN), .d (tupN l)] := by
        unfold extL
        rw [show (R.ow (.ls [.d (tupN l), .d (tupN (l ++ [x]))])).leafs = some (true, [tupN l, tupN (l ++ [x])]) from rfl]
        show (if ((acc.map tupN).map M.d).length + 2 ≤ sizeLine then some (List.set ([.int n, .d (.list (f.map tupN)), .d (I x), .lst (acc.map tupN), .d (tupN l)] : Ev.Env) 3 (.ow (.ls ((acc.map tupN).map M.d ++ [.d (tupN l), .d (tupN (l ++ [x]))])))) else none) = _
        rw [if_pos (by rw [List.length_map, List.length_map, sizeLine_eq]; omega), show (acc ++ [l, l ++ [x]]).map tupN = acc.map tupN ++ [tupN l, tupN (l ++ [x])] from List.map_append]
        show some ([.int n, .d (.list (f.map tupN)), .d (I x), .ow (.ls ((acc.map tupN).map M.d ++ [.d (tupN l), .d (tupN (l ++ [x]))])), .d (tupN l)] : Ev.Env) = some [.int n, .d (.list (f.map tupN)), .d (I x), .ow (.ls ((acc.map tupN ++ [tupN l, tupN (l ++ [x])]).map M.d)), .d (tupN l)]
        rw [List.map_append]; rfl
      simp only [Ev.exec, ev, evs, evO, evTO, evAnd, evOr, evIt, seq2, asT, asB, asI, binF, cmpF, at0, at1, post_bind, post_map, post_some, post_nif, post_ifn, post_ifs, R.isBo, R.isOk, R.isOw, R.isD, ls_ls, eq_self, E.quiet, quiets, quietO, It.quiet, Option.bind_some, Option.map_some, Option.bind_none, Option.map_none, Bool.false_and, Bool.and_false, Bool.true_and, Bool.and_true, Bool.not_true, Bool.not_false, Bool.false_eq_true, if_true, if_false, ite_true, ite_false, reduceIte, eq_int, lt_int, le_int, add_int, sub_int, mul_int, neg_int, div_int, mod_int, pow_int, List.take_zero, List.drop_zero, List.all_cons, List.all_nil, List.any_cons, List.any_nil, List.set_cons_zero, List.set_cons_succ, not_true_eq_false, not_false_eq_true, true_and, and_true, biF, un1, intF, absF, setR, setRs, frz_lst, frz_d, frz_no, frz_fr, Bool.or_false, Bool.false_or, R.toM, sz1, sz2, sz3, sz4, sz5, sz6, sz7, sz8, sz9, sz10, tru_bl, decide_eq_true_eq, Nat.zero_le, List.map_cons, List.map_nil, List.length_cons, List.length_nil, mapM1, e', e7, run_nil]
      exact ⟨_, _, rfl, by rw [← ha, List.append_assoc]; rfl, fun q hq' => hq q (List.mem_cons_of_mem _ hq')⟩
    rintro ⟨o, ρ⟩ ⟨ho, acc, r4, he2, ha, _⟩
    cases ho
    dsimp only at he2
    subst he2
    refine ⟨rfl, ?_⟩
    have ha' : acc = step2 f x := by rw [← ha]; simp [step2]
    subst ha'
    apply run_cons
    simp only [Ev.exec, ev, evs, evO, evTO, evAnd, evOr, evIt, seq2, asT, asB, asI, binF, cmpF, at0, at1, post_bind, post_map, post_some, post_nif, post_ifn, post_ifs, R.isBo, R.isOk, R.isOw, R.isD, ls_ls, eq_self, E.quiet, quiets, quietO, It.quiet, Option.bind_some, Option.map_some, Option.bind_none, Option.map_none, Bool.false_and, Bool.and_false, Bool.true_and, Bool.and_true, Bool.not_true, Bool.not_false, Bool.false_eq_true, if_true, if_false, ite_true, ite_false, reduceIte, eq_int, lt_int, le_int, add_int, sub_int, mul_int, neg_int, div_int, mod_int, pow_int, List.take_zero, List.drop_zero, List.all_cons, List.all_nil, List.any_cons, List.any_nil, List.set_cons_zero, List.set_cons_succ, not_true_eq_false, not_false_eq_true, true_and, and_true, biF, un1, intF, absF, setR, setRs, frz_lst, frz_d, frz_no, frz_fr, Bool.or_false, Bool.false_or, R.toM, sz1, sz2, sz3, sz4, sz5, sz6, sz7, sz8, sz9, sz10, tru_bl, decide_eq_true_eq, Nat.zero_le, List.map_cons, List.map_nil, List.length_cons, List.length_nil, reads_bo, run_nil]
    refine ⟨step2 f x, _, _, _, rfl, he, by rw [step2_len]; exact hl', fun l hl => ?_⟩
    obtain ⟨k, hk, hk2⟩ := List.mem_flatMap.mp hl
    have := hs k hk
    simp only [List.mem_cons, List.not_mem_nil, or_false] at hk2
    rcases hk2 with rfl | rfl
    · omega
    · rw [List.length_append, List.length_singleton]; omega
  · rw [List.length_singleton, Nat.one_mul, List.length_range]
    exact Nat.pow_le_pow_right (by decide) hm
  rintro ⟨o, ρ⟩ ⟨ho, f, r2, r3, r4, he2, he, _⟩
  cases ho
  dsimp only at he2
  subst he2
  refine ⟨rfl, ?_⟩
  rw [List.foldl_nil] at he
  subst he
  have hp : sortL ((List.range m).foldl step2 [[]]) = sortL (lotsF m) := sortL_congr (fold2_perm _ (.refl _))
  apply run_ret
  simp only [Ev.exec, ev, evs, evO, evTO, evAnd, evOr, evIt, seq2, asT, asB, asI, binF, cmpF, at0, at1, post_bind, post_map, post_some, post_nif, post_ifn, post_ifs, R.isBo, R.isOk, R.isOw, R.isD, ls_ls, eq_self, E.quiet, quiets, quietO, It.quiet, Option.bind_some, Option.map_some, Option.bind_none, Option.map_none, Bool.false_and, Bool.and_false, Bool.true_and, Bool.and_true, Bool.not_true, Bool.not_false, Bool.false_eq_true, if_true, if_false, ite_true, ite_false, reduceIte, eq_int, lt_int, le_int, add_int, sub_int, mul_int, neg_int, div_int, mod_int, pow_int, List.take_zero, List.drop_zero, List.all_cons, List.all_nil, List.any_cons, List.any_nil, List.set_cons_zero, List.set_cons_succ, not_true_eq_false, not_false_eq_true, true_and, and_true, biF, un1, intF, absF, setR, setRs, frz_lst, frz_d, frz_no, frz_fr, Bool.or_false, Bool.false_or, R.toM, sz1, sz2, sz3, sz4, sz5, sz6, sz7, sz8, sz9, sz10, tru_bl, decide_eq_true_eq, Nat.zero_le, List.map_cons, List.map_nil, List.length_cons, List.length_nil, reads_bo, sort_tups, hp]
  exact ⟨_, rfl, rfl⟩
/-! ### the law's is_round -/
def inc (many : List Nat) (x : Nat) : List Nat := many.set x (many.getD x 0 + 1)
theorem inc_two {many : List Nat} {t : Nat × Nat} (h : t.1 ≠ t.2) : [t.1, t.2].foldl inc many = (many.set t.1 (many.getD t.1 0 + 1)).set t.2 (many.getD t.2 0 + 1) := by
  show inc (inc many t.1) t.2 = _
  unfold inc
  have : (many.set t.1 (many.getD t.1 0 + 1)).getD t.2 0 = many.getD t.2 0 := by
    rw [List.getD_eq_getElem?_getD, List.getElem?_set_ne h, ← List.getD_eq_getElem?_getD]
  rw [this]
theorem lround_gen {m : Nat} {n : Int} (hn : n = m) (hm : m ≤ 100) {ties : List (Nat × Nat)} (ht : ∀ t ∈ ties, t.1 < m ∧ t.2 < m ∧ t.1 ≠ t.2) {lot : List Nat} (hl : ∀ p ∈ lot, p < ties.length) {T : Tbl} {D11 : Fd} (g11 : T[11]? = some D11)
    (s11 : ∀ {flat : List Nat} {t : Nat × Nat}, t.1 < flat.length → t.2 < flat.length → flat.length ≤ 100 → Post (D11.g [.tup (flat.map I), .d (tieP t)]) fun r => r.1 = .tup ((drawF flat t.1 t.2).map I)) :
    Post (evDef T 8 b13 [.int n, .tup (ties.map tieP), .d (tupN lot)]) fun r => r.1 = .bl (roundF m ties lot) := by
  apply def_run
  show Post (execs T b13 [.int n, .tup (ties.map tieP), .tup (lot.map I), .no, .no, .no, .no, .no]) _
  unfold b13
  apply run_cons
  have e1 := rep0 hn hm
  have e2 : rgD (0, n) = some ((List.range m).map I) := by
    unfold rgD
    dsimp only
    rw [if_pos (by rw [sizeLine_eq]; omega), rgL_nat hn]
  simp only [Ev.exec, ev, evs, evO, evTO, evAnd, evOr, evIt, seq2, asT, asB, asI, binF, cmpF, at0, at1, post_bind, post_map, post_some, post_nif, post_ifn, post_ifs, R.isBo, R.isOk, R.isOw, R.isD, ls_ls, eq_self, E.quiet, quiets, quietO, It.quiet, Option.bind_some, Option.map_some, Option.bind_none, Option.map_none, Bool.false_and, Bool.and_false, Bool.true_and, Bool.and_true, Bool.not_true, Bool.not_false, Bool.false_eq_true, if_true, if_false, ite_true, ite_false, reduceIte, eq_int, lt_int, le_int, add_int, sub_int, mul_int, neg_int, div_int, mod_int, pow_int, List.take_zero, List.drop_zero, List.all_cons, List.all_nil, List.any_cons, List.any_nil, List.set_cons_zero, List.set_cons_succ, not_true_eq_false, not_false_eq_true, true_and, and_true, biF, un1, intF, absF, setR, setRs, frz_lst, frz_d, frz_no, frz_fr, Bool.or_false, Bool.false_or, R.toM, sz1, sz2, sz3, sz4, sz5, sz6, sz7, sz8, sz9, sz10, tru_bl, decide_eq_true_eq, Nat.zero_le, List.map_cons, List.map_nil, List.length_cons, List.length_nil, e1, e2, rg1]
  refine ⟨by omega, ?_⟩
  apply run_cons
  simp only [Ev.exec, ev, evs, evO, evTO, evAnd, evOr, evIt, seq2, asT, asB, asI, binF, cmpF, at0, at1, post_bind, post_map, post_some, post_nif, post_ifn, post_ifs, R.isBo, R.isOk, R.isOw, R.isD, ls_ls, eq_self, E.quiet, quiets, quietO, It.quiet, Option.bind_some, Option.map_some, Option.bind_none, Option.map_none, Bool.false_and, Bool.and_false, Bool.true_and, Bool.and_true, Bool.not_true, Bool.not_false, Bool.false_eq_true, if_true, if_false, ite_true, ite_false, reduceIte, eq_int, lt_int, le_int, add_int, sub_int, mul_int, neg_int, div_int, mod_int, pow_int, List.take_zero, List.drop_zero, List.all_cons, List.all_nil, List.any_cons, List.any_nil, List.set_cons_zero, List.set_cons_succ, not_true_eq_false, not_false_eq_true, true_and, and_true, biF, un1, intF, absF, setR, setRs, frz_lst, frz_d, frz_no, frz_fr, Bool.or_false, Bool.false_or, R.toM, sz1, sz2, sz3, sz4, sz5, sz6, sz7, sz8, sz9, sz10, tru_bl, decide_eq_true_eq, Nat.zero_le, List.map_cons, List.map_nil, List.length_cons, List.length_nil]
  apply run_cons
  simp only [Ev.exec, ev, evs, evO, evTO, evAnd, evOr, evIt, seq2, asT, asB, asI, binF, cmpF, at0, at1, post_bind, post_map, post_some, post_nif, post_ifn, post_ifs, R.isBo, R.isOk, R.isOw, R.isD, ls_ls, eq_self, E.quiet, quiets, quietO, It.quiet, Option.bind_some, Option.map_some, Option.bind_none, Option.map_none, Bool.false_and, Bool.and_false, Bool.true_and, Bool.and_true, Bool.not_true, Bool.not_false, Bool.false_eq_true, if_true, if_false, ite_true, ite_false, reduceIte, eq_int, lt_int, le_int, add_int, sub_int, mul_int, neg_int, div_int, mod_int, pow_int, List.take_zero, List.drop_zero, List.all_cons, List.all_nil, List.any_cons, List.any_nil, List.set_cons_zero, List.set_cons_succ, not_true_eq_false, not_false_eq_true, true_and, and_true, biF, un1, intF, absF, setR, setRs, frz_lst, frz_d, frz_no, frz_fr, Bool.or_false, Bool.false_or, R.toM, sz1, sz2, sz3, sz4, sz5, sz6, sz7, sz8, sz9, sz10, tru_bl, decide_eq_true_eq, Nat.zero_le, List.map_cons, List.map_nil, List.length_cons, List.length_nil, itemsF, reads_dt]
  rw [List.map_map]
  refine post_mono (forGo_map (R.d ∘ I) (fun ps ρ => ∃ (many flat : List Nat) (r3 r7 : R), ρ = [.int n, .tup (ties.map tieP), .tup (lot.map I), r3, .no, .lst (many.map I), .tup (flat.map I), r7] ∧ (r7 = .no ∨ ∃ d, r7 = .d d) ∧ many.length = m ∧ flat.length = m ∧
      ps.foldl (stepR ties) (many, flat) = lot.foldl (stepR ties) (List.replicate m 0, List.range m) ∧ ∀ p ∈ ps, p < ties.length)
    ?_ lot _ ⟨_, _, _, _, rfl, .inl rfl, List.length_replicate, List.length_range, rfl, hl⟩) ?_
  · rintro p ps ρ ⟨many, flat, r3, r7, rfl, h7, hk, hf, he, hp⟩
    have hpt := hp p List.mem_cons_self
    have htt := ht _ (getD_mem (d := (0, 0)) hpt)
    rw [List.foldl_cons, stepR] at he
    have e3 := tie_ix hpt
    generalize ties.getD p (0, 0) = t at htt he e3
    dsimp only at he
    rw [← inc_two htt.2.2] at he
    have e5 : ixF (.d (.tuple (ties.map tieP))) (.d (I p)) = some (.d (.tuple ([t.1, t.2].map I))) := by
      show (L2.atI (ties.map tieP) (p : Int)).map R.d = _
      rw [e3]; rfl
    simp only [tgF, Function.comp_apply, post_some, List.set_cons_succ, List.set_cons_zero]
    apply run_cons
    rw [Ev.exec]
    have hit : evIt T (.e (.sub (.nm 1) (.nm 3))) [.int n, .tup (ties.map tieP), .tup (lot.map I), .d (I p), .no, .lst (many.map I), .tup (flat.map I), r7] = some (⟨[t.1, t.2].map (R.d ∘ I), false⟩, [.int n, .tup (ties.map tieP), .tup (lot.map I), .d (I p), .no, .lst (many.map I), .tup (flat.map I), r7]) := by
      generalize [t.1, t.2] = us at e5
      simp only [Ev.exec, ev, evs, evO, evTO, evAnd, evOr, evIt, seq2, asT, asB, asI, binF, cmpF, at0, at1, post_bind, post_map, post_some, post_nif, post_ifn, post_ifs, R.isBo, R.isOk, R.isOw, R.isD, ls_ls, eq_self, E.quiet, quiets, quietO, It.quiet, Option.bind_some, Option.map_some, Option.bind_none, Option.map_none, Bool.false_and, Bool.and_false, Bool.true_and, Bool.and_true, Bool.not_true, Bool.not_false, Bool.false_eq_true, if_true, if_false, ite_true, ite_false, reduceIte, eq_int, lt_int, le_int, add_int, sub_int, mul_int, neg_int, div_int, mod_int, pow_int, List.take_zero, List.drop_zero, List.all_cons, List.all_nil, List.any_cons, List.any_nil, List.set_cons_zero, List.set_cons_succ, not_true_eq_false, not_false_eq_true, true_and, and_true, biF, un1, intF, absF, setR, setRs, frz_lst, frz_d, frz_no, frz_fr, Bool.or_false, Bool.false_or, R.toM, sz1, sz2, sz3, sz4, sz5, sz6, sz7, sz8, sz9, sz10, tru_bl, decide_eq_true_eq, Nat.zero_le, List.map_cons, List.map_nil, List.length_cons, List.length_nil, e5, itemsF, reads_dt, List.map_map]
    rw [hit, Option.bind_some]
    refine post_mono (forGo_map (R.d ∘ I) (fun qs ρ => ∃ (many' : List Nat) (r7 : R), ρ = [.int n, .tup (ties.map tieP), .tup (lot.map I), .d (I p), .no, .lst (many'.map I), .tup (flat.map I), r7] ∧ (r7 = .no ∨ ∃ d, r7 = .d d) ∧ many'.length = m ∧ qs.foldl inc many' = [t.1, t.2].foldl inc many ∧ ∀ q ∈ qs, q < m)
      ?_ [t.1, t.2] _ ⟨many, _, rfl, h7, hk, rfl, by simp; omega⟩) ?_
    · rintro x qs ρ ⟨many', r7, rfl, _, hk', he', hq⟩
      have hx := hq x List.mem_cons_self
      simp only [tgF, Function.comp_apply, post_some, List.set_cons_succ, List.set_cons_zero]
      apply run_cons
      have f1 : ixF (.bo (.ls ((many'.map I).map M.d))) (.d (I x)) = some (.d (I (many'.getD x 0))) := by
        have := ix_bo (many'.map I) (x : Int)
        rw [ixI (by omega)] at this
        exact this
      have f2 : addF (.d (I (many'.getD x 0))) (.d (.int 1)) = some (.d (I (many'.getD x 0 + 1))) := addI _ 1
      have f3 := put_I (xs := many') (a := x) (by omega) (many'.getD x 0 + 1) 5 [.int n, .tup (ties.map tieP), .tup (lot.map I), .d (I p), .no, .lst (many'.map I), .tup (flat.map I), .d (I x)] rfl
      simp only [Ev.exec, ev, evs, evO, evTO, evAnd, evOr, evIt, seq2, asT, asB, asI, binF, cmpF, at0, at1, post_bind, post_map, post_some, post_nif, post_ifn, post_ifs, R.isBo, R.isOk, R.isOw, R.isD, ls_ls, eq_self, E.quiet, quiets, quietO, It.quiet, Option.bind_some, Option.map_some, Option.bind_none, Option.map_none, Bool.false_and, Bool.and_false, Bool.true_and, Bool.and_true, Bool.not_true, Bool.not_false, Bool.false_eq_true, if_true, if_false, ite_true, ite_false, reduceIte, eq_int, lt_int, le_int, add_int, sub_int, mul_int, neg_int, div_int, mod_int, pow_int, List.take_zero, List.drop_zero, List.all_cons, List.all_nil, List.any_cons, List.any_nil, List.set_cons_zero, List.set_cons_succ, not_true_eq_false, not_false_eq_true, true_and, and_true, biF, un1, intF, absF, setR, setRs, frz_lst, frz_d, frz_no, frz_fr, Bool.or_false, Bool.false_or, R.toM, sz1, sz2, sz3, sz4, sz5, sz6, sz7, sz8, sz9, sz10, tru_bl, decide_eq_true_eq, Nat.zero_le, List.map_cons, List.map_nil, List.length_cons, List.length_nil, f1, f2, f3, run_nil]
      exact ⟨_, _, rfl, .inr ⟨_, rfl⟩, by rw [List.length_set]; exact hk', he', fun q hq' => hq q (List.mem_cons_of_mem _ hq')⟩
    rintro ⟨o, ρ⟩ ⟨ho, many', r7, he2, h7, hk', he', _⟩
    cases ho
    dsimp only at he2
    subst he2
    refine ⟨rfl, ?_⟩
    rw [List.foldl_nil] at he'
    subst he'
    apply run_cons
    simp only [Ev.exec, ev, evs, evO, evTO, evAnd, evOr, evIt, seq2, asT, asB, asI, binF, cmpF, at0, at1, post_bind, post_map, post_some, post_nif, post_ifn, post_ifs, R.isBo, R.isOk, R.isOw, R.isD, ls_ls, eq_self, E.quiet, quiets, quietO, It.quiet, Option.bind_some, Option.map_some, Option.bind_none, Option.map_none, Bool.false_and, Bool.and_false, Bool.true_and, Bool.and_true, Bool.not_true, Bool.not_false, Bool.false_eq_true, if_true, if_false, ite_true, ite_false, reduceIte, eq_int, lt_int, le_int, add_int, sub_int, mul_int, neg_int, div_int, mod_int, pow_int, List.take_zero, List.drop_zero, List.all_cons, List.all_nil, List.any_cons, List.any_nil, List.set_cons_zero, List.set_cons_succ, not_true_eq_false, not_false_eq_true, true_and, and_true, biF, un1, intF, absF, setR, setRs, frz_lst, frz_d, frz_no, frz_fr, Bool.or_false, Bool.false_or, R.toM, sz1, sz2, sz3, sz4, sz5, sz6, sz7, sz8, sz9, sz10, tru_bl, decide_eq_true_eq, Nat.zero_le, List.map_cons, List.map_nil, List.length_cons, List.length_nil]
    apply run_cons
    have e5' : ixF (.d (.tuple (ties.map tieP))) (.d (I p)) = some (.d (tieP t)) := e5
    simp only [Ev.exec, ev, evs, evO, evTO, evAnd, evOr, evIt, seq2, asT, asB, asI, binF, cmpF, at0, at1, post_bind, post_map, post_some, post_nif, post_ifn, post_ifs, R.isBo, R.isOk, R.isOw, R.isD, ls_ls, eq_self, E.quiet, quiets, quietO, It.quiet, Option.bind_some, Option.map_some, Option.bind_none, Option.map_none, Bool.false_and, Bool.and_false, Bool.true_and, Bool.and_true, Bool.not_true, Bool.not_false, Bool.false_eq_true, if_true, if_false, ite_true, ite_false, reduceIte, eq_int, lt_int, le_int, add_int, sub_int, mul_int, neg_int, div_int, mod_int, pow_int, List.take_zero, List.drop_zero, List.all_cons, List.all_nil, List.any_cons, List.any_nil, List.set_cons_zero, List.set_cons_succ, not_true_eq_false, not_false_eq_true, true_and, and_true, biF, un1, intF, absF, setR, setRs, frz_lst, frz_d, frz_no, frz_fr, Bool.or_false, Bool.false_or, R.toM, sz1, sz2, sz3, sz4, sz5, sz6, sz7, sz8, sz9, sz10, tru_bl, decide_eq_true_eq, Nat.zero_le, List.map_cons, List.map_nil, List.length_cons, List.length_nil, g11, e5']
    refine post_mono (s11 (flat := flat) (t := t) (by omega) (by omega) (by omega)) ?_
    rintro ⟨r, r0⟩ h
    cases h
    simp only [Ev.exec, ev, evs, evO, evTO, evAnd, evOr, evIt, seq2, asT, asB, asI, binF, cmpF, at0, at1, post_bind, post_map, post_some, post_nif, post_ifn, post_ifs, R.isBo, R.isOk, R.isOw, R.isD, ls_ls, eq_self, E.quiet, quiets, quietO, It.quiet, Option.bind_some, Option.map_some, Option.bind_none, Option.map_none, Bool.false_and, Bool.and_false, Bool.true_and, Bool.and_true, Bool.not_true, Bool.not_false, Bool.false_eq_true, if_true, if_false, ite_true, ite_false, reduceIte, eq_int, lt_int, le_int, add_int, sub_int, mul_int, neg_int, div_int, mod_int, pow_int, List.take_zero, List.drop_zero, List.all_cons, List.all_nil, List.any_cons, List.any_nil, List.set_cons_zero, List.set_cons_succ, not_true_eq_false, not_false_eq_true, true_and, and_true, biF, un1, intF, absF, setR, setRs, frz_lst, frz_d, frz_no, frz_fr, Bool.or_false, Bool.false_or, R.toM, sz1, sz2, sz3, sz4, sz5, sz6, sz7, sz8, sz9, sz10, tru_bl, decide_eq_true_eq, Nat.zero_le, List.map_cons, List.map_nil, List.length_cons, List.length_nil, run_nil]
    exact ⟨_, _, _, _, rfl, h7, hk', by rw [drawF_len]; exact hf, he, fun q hq => hp q (List.mem_cons_of_mem _ hq)⟩
  rintro ⟨o, ρ⟩ ⟨ho, many, flat, r3, r7, he2, h7, hk, hf, he, _⟩
  cases ho
  dsimp only at he2
  subst he2
  refine ⟨rfl, ?_⟩
  rw [List.foldl_nil] at he
  unfold roundF
  rw [← he]
  dsimp only
  rcases h7 with rfl | ⟨d7, rfl⟩
  all_goals
    have f1 : ∀ a, a < m → ixF (.bo (.ls ((many.map I).map M.d))) (.d (I a)) = some (.d (I (many.getD a 0))) := fun a ha => by
      have := ix_bo (many.map I) (a : Int)
      rw [ixI (by omega)] at this
      exact this
    have f2 : ∀ a, a < m → ixF (.d (.tuple (flat.map I))) (.d (I a)) = some (.d (I (flat.getD a 0))) := fun a ha => by
      show (L2.atI (flat.map I) (a : Int)).map R.d = _
      rw [ixI (by omega)]; rfl
    have f3 : ∀ a, ltF (.d (.int 0)) (.d (I a)) = some (decide (0 < a)) := fun a => by
      show some (decide ((0 : Int) < (a : Int))) = _
      congr 1
      rw [decide_eq_decide]
      omega
    apply run_cons
    simp only [Ev.exec, ev, evs, evO, evTO, evAnd, evOr, evIt, seq2, asT, asB, asI, binF, cmpF, at0, at1, post_bind, post_map, post_some, post_nif, post_ifn, post_ifs, R.isBo, R.isOk, R.isOw, R.isD, ls_ls, eq_self, E.quiet, quiets, quietO, It.quiet, Option.bind_some, Option.map_some, Option.bind_none, Option.map_none, Bool.false_and, Bool.and_false, Bool.true_and, Bool.and_true, Bool.not_true, Bool.not_false, Bool.false_eq_true, if_true, if_false, ite_true, ite_false, reduceIte, eq_int, lt_int, le_int, add_int, sub_int, mul_int, neg_int, div_int, mod_int, pow_int, List.take_zero, List.drop_zero, List.all_cons, List.all_nil, List.any_cons, List.any_nil, List.set_cons_zero, List.set_cons_succ, not_true_eq_false, not_false_eq_true, true_and, and_true, biF, un1, intF, absF, setR, setRs, frz_lst, frz_d, frz_no, frz_fr, Bool.or_false, Bool.false_or, R.toM, sz1, sz2, sz3, sz4, sz5, sz6, sz7, sz8, sz9, sz10, tru_bl, decide_eq_true_eq, Nat.zero_le, List.map_cons, List.map_nil, List.length_cons, List.length_nil, rg1, wipeE]
    refine ⟨by omega, ?_⟩
    rw [rgL_nat hn, List.map_map]
    refine post_eq (compGo_same (R.d ∘ I) (fun x => if decide (0 < many.getD x 0) = true then some (M.d (I x)) else none) _ (List.range m) (fun x hx => ⟨_, rfl, rfl, ?_⟩) (by rw [List.length_range, sizeLine_eq]; omega)) ?_
    · have hx' := List.mem_range.mp hx
      cases h0 : decide (0 < many.getD x 0) <;> simp only [Ev.exec, ev, evs, evO, evTO, evAnd, evOr, evIt, seq2, asT, asB, asI, binF, cmpF, at0, at1, post_bind, post_map, post_some, post_nif, post_ifn, post_ifs, R.isBo, R.isOk, R.isOw, R.isD, ls_ls, eq_self, E.quiet, quiets, quietO, It.quiet, Option.bind_some, Option.map_some, Option.bind_none, Option.map_none, Bool.false_and, Bool.and_false, Bool.true_and, Bool.and_true, Bool.not_true, Bool.not_false, Bool.false_eq_true, if_true, if_false, ite_true, ite_false, reduceIte, eq_int, lt_int, le_int, add_int, sub_int, mul_int, neg_int, div_int, mod_int, pow_int, List.take_zero, List.drop_zero, List.all_cons, List.all_nil, List.any_cons, List.any_nil, List.set_cons_zero, List.set_cons_succ, not_true_eq_false, not_false_eq_true, true_and, and_true, biF, un1, intF, absF, setR, setRs, frz_lst, frz_d, frz_no, frz_fr, Bool.or_false, Bool.false_or, R.toM, sz1, sz2, sz3, sz4, sz5, sz6, sz7, sz8, sz9, sz10, tru_bl, decide_eq_true_eq, Nat.zero_le, List.map_cons, List.map_nil, List.length_cons, List.length_nil, Function.comp_apply, f1 x hx', f3, h0]
    rw [fm_if]
    unfold endR
    dsimp only
    have hmem : ∀ x ∈ (List.range m).filter (fun x => decide (0 < many.getD x 0)), x < m := fun x hx => List.mem_range.mp (List.mem_filter.mp hx).1
    have hlen : ((List.range m).filter fun x => decide (0 < many.getD x 0)).length ≤ 100 := by
      refine Nat.le_trans (List.length_filter_le _ _) ?_
      rw [List.length_range]; exact hm
    generalize (List.range m).filter (fun x => decide (0 < many.getD x 0)) = ts at hmem hlen
    have e6 : (ts.map fun x => M.d (I x)) = (ts.map I).map M.d := by rw [List.map_map]; rfl
    rw [e6]
    simp only [Ev.exec, ev, evs, evO, evTO, evAnd, evOr, evIt, seq2, asT, asB, asI, binF, cmpF, at0, at1, post_bind, post_map, post_some, post_nif, post_ifn, post_ifs, R.isBo, R.isOk, R.isOw, R.isD, ls_ls, eq_self, E.quiet, quiets, quietO, It.quiet, Option.bind_some, Option.map_some, Option.bind_none, Option.map_none, Bool.false_and, Bool.and_false, Bool.true_and, Bool.and_true, Bool.not_true, Bool.not_false, Bool.false_eq_true, if_true, if_false, ite_true, ite_false, reduceIte, eq_int, lt_int, le_int, add_int, sub_int, mul_int, neg_int, div_int, mod_int, pow_int, List.take_zero, List.drop_zero, List.all_cons, List.all_nil, List.any_cons, List.any_nil, List.set_cons_zero, List.set_cons_succ, not_true_eq_false, not_false_eq_true, true_and, and_true, biF, un1, intF, absF, setR, setRs, frz_lst, frz_d, frz_no, frz_fr, Bool.or_false, Bool.false_or, R.toM, sz1, sz2, sz3, sz4, sz5, sz6, sz7, sz8, sz9, sz10, tru_bl, decide_eq_true_eq, Nat.zero_le, List.map_cons, List.map_nil, List.length_cons, List.length_nil, backE]
    apply run_ret
    cases ts with
    | nil =>
      have e7 : eqF (.bo (.ls ((([] : List Nat).map I).map M.d))) (.ow (.ls [])) = some true := ne_nilN []
      simp only [List.map_nil] at e7
      simp only [Ev.exec, ev, evs, evO, evTO, evAnd, evOr, evIt, seq2, asT, asB, asI, binF, cmpF, at0, at1, post_bind, post_map, post_some, post_nif, post_ifn, post_ifs, R.isBo, R.isOk, R.isOw, R.isD, ls_ls, eq_self, E.quiet, quiets, quietO, It.quiet, Option.bind_some, Option.map_some, Option.bind_none, Option.map_none, Bool.false_and, Bool.and_false, Bool.true_and, Bool.and_true, Bool.not_true, Bool.not_false, Bool.false_eq_true, if_true, if_false, ite_true, ite_false, reduceIte, eq_int, lt_int, le_int, add_int, sub_int, mul_int, neg_int, div_int, mod_int, pow_int, List.take_zero, List.drop_zero, List.all_cons, List.all_nil, List.any_cons, List.any_nil, List.set_cons_zero, List.set_cons_succ, not_true_eq_false, not_false_eq_true, true_and, and_true, biF, un1, intF, absF, setR, setRs, frz_lst, frz_d, frz_no, frz_fr, Bool.or_false, Bool.false_or, R.toM, sz1, sz2, sz3, sz4, sz5, sz6, sz7, sz8, sz9, sz10, tru_bl, decide_eq_true_eq, Nat.zero_le, List.map_cons, List.map_nil, List.length_cons, List.length_nil, e7]
      exact ⟨_, rfl, rfl⟩
    | cons t0 ts =>
      have e7 : eqF (.bo (.ls (((t0 :: ts).map I).map M.d))) (.ow (.ls [])) = some false := ne_nilN (t0 :: ts)
      have e8 : ixF (.bo (.ls (((t0 :: ts).map I).map M.d))) (.d (.int 0)) = some (.d (I t0)) := by
        rw [ix_bo]
        show (L2.atI ((t0 :: ts).map I) ((0 : Nat) : Int)).map R.d = _
        rw [ixI (by simp)]; rfl
      have h0 := hmem t0 List.mem_cons_self
      have e9 : (t0 :: ts).getD 0 0 = t0 := rfl
      have e10 : (!(t0 :: ts).isEmpty) = true := rfl
      rw [e9, e10, Bool.true_and]
      generalize t0 :: ts = us at *
      simp only [Ev.exec, ev, evs, evO, evTO, evAnd, evOr, evIt, seq2, asT, asB, asI, binF, cmpF, at0, at1, post_bind, post_map, post_some, post_nif, post_ifn, post_ifs, R.isBo, R.isOk, R.isOw, R.isD, ls_ls, eq_self, E.quiet, quiets, quietO, It.quiet, Option.bind_some, Option.map_some, Option.bind_none, Option.map_none, Bool.false_and, Bool.and_false, Bool.true_and, Bool.and_true, Bool.not_true, Bool.not_false, Bool.false_eq_true, if_true, if_false, ite_true, ite_false, reduceIte, eq_int, lt_int, le_int, add_int, sub_int, mul_int, neg_int, div_int, mod_int, pow_int, List.take_zero, List.drop_zero, List.all_cons, List.all_nil, List.any_cons, List.any_nil, List.set_cons_zero, List.set_cons_succ, not_true_eq_false, not_false_eq_true, true_and, and_true, biF, un1, intF, absF, setR, setRs, frz_lst, frz_d, frz_no, frz_fr, Bool.or_false, Bool.false_or, R.toM, sz1, sz2, sz3, sz4, sz5, sz6, sz7, sz8, sz9, sz10, tru_bl, decide_eq_true_eq, Nat.zero_le, List.map_cons, List.map_nil, List.length_cons, List.length_nil, e7, itemsF, reads_bo, wipeE]
      rw [List.map_map]
      refine post_eq (compGo_same (R.d ∘ I) (fun x => some (M.d (.bool (decide (many.getD x 0 = 2) && decide (flat.getD x 0 = flat.getD t0 0))))) _ us (fun x hx => ⟨_, rfl, rfl, ?_⟩) (by rw [sizeLine_eq]; omega)) ?_
      · have hx' := hmem x hx
        have e11 : eqF (.d (I (many.getD x 0))) (.d (.int 2)) = some (decide (many.getD x 0 = 2)) := eqI _ 2
        have e13 := eqI (flat.getD x 0) (flat.getD t0 0)
        generalize decide (flat.getD x 0 = flat.getD t0 0) = k2 at e13
        generalize decide (many.getD x 0 = 2) = k1 at e11
        cases k1 <;> cases k2 <;> simp only [Ev.exec, ev, evs, evO, evTO, evAnd, evOr, evIt, seq2, asT, asB, asI, binF, cmpF, at0, at1, post_bind, post_map, post_some, post_nif, post_ifn, post_ifs, R.isBo, R.isOk, R.isOw, R.isD, ls_ls, eq_self, E.quiet, quiets, quietO, It.quiet, Option.bind_some, Option.map_some, Option.bind_none, Option.map_none, Bool.false_and, Bool.and_false, Bool.true_and, Bool.and_true, Bool.not_true, Bool.not_false, Bool.false_eq_true, if_true, if_false, ite_true, ite_false, reduceIte, eq_int, lt_int, le_int, add_int, sub_int, mul_int, neg_int, div_int, mod_int, pow_int, List.take_zero, List.drop_zero, List.all_cons, List.all_nil, List.any_cons, List.any_nil, List.set_cons_zero, List.set_cons_succ, not_true_eq_false, not_false_eq_true, true_and, and_true, biF, un1, intF, absF, setR, setRs, frz_lst, frz_d, frz_no, frz_fr, Bool.or_false, Bool.false_or, R.toM, sz1, sz2, sz3, sz4, sz5, sz6, sz7, sz8, sz9, sz10, tru_bl, decide_eq_true_eq, Nat.zero_le, List.map_cons, List.map_nil, List.length_cons, List.length_nil, Function.comp_apply, f1 x hx', f2 x hx', f2 t0 h0, e11, e13, e8]
      · rw [fm_map]
        have e12 : (us.map fun x => M.d (.bool (decide (many.getD x 0 = 2) && decide (flat.getD x 0 = flat.getD t0 0)))) = (us.map fun x => PyData.bool (decide (many.getD x 0 = 2) && decide (flat.getD x 0 = flat.getD t0 0))).map M.d := by rw [List.map_map]; rfl
        rw [e12]
        have e14 : ((us.map fun x => decide (many.getD x 0 = 2) && decide (flat.getD x 0 = flat.getD t0 0)).all id) = us.all fun x => decide (many.getD x 0 = 2) && decide (flat.getD x 0 = flat.getD t0 0) := by rw [List.all_map]; rfl
        generalize us.all (fun x => decide (many.getD x 0 = 2) && decide (flat.getD x 0 = flat.getD t0 0)) = k at e14
        simp only [Ev.exec, ev, evs, evO, evTO, evAnd, evOr, evIt, seq2, asT, asB, asI, binF, cmpF, at0, at1, post_bind, post_map, post_some, post_nif, post_ifn, post_ifs, R.isBo, R.isOk, R.isOw, R.isD, ls_ls, eq_self, E.quiet, quiets, quietO, It.quiet, Option.bind_some, Option.map_some, Option.bind_none, Option.map_none, Bool.false_and, Bool.and_false, Bool.true_and, Bool.and_true, Bool.not_true, Bool.not_false, Bool.false_eq_true, if_true, if_false, ite_true, ite_false, reduceIte, eq_int, lt_int, le_int, add_int, sub_int, mul_int, neg_int, div_int, mod_int, pow_int, List.take_zero, List.drop_zero, List.all_cons, List.all_nil, List.any_cons, List.any_nil, List.set_cons_zero, List.set_cons_succ, not_true_eq_false, not_false_eq_true, true_and, and_true, biF, un1, intF, absF, setR, setRs, frz_lst, frz_d, frz_no, frz_fr, Bool.or_false, Bool.false_or, R.toM, sz1, sz2, sz3, sz4, sz5, sz6, sz7, sz8, sz9, sz10, tru_bl, decide_eq_true_eq, Nat.zero_le, List.map_cons, List.map_nil, List.length_cons, List.length_nil, reads_lst, bools_map, backE, e14]
        cases k
        · exact ⟨_, rfl, _, rfl, rfl⟩
        · exact ⟨_, rfl, _, rfl, rfl⟩
end LK57
end
section
set_option Elab.async false
set_option linter.all false
set_option maxRecDepth 100000
namespace LK57
open PySem L2 Ev
/-! ### the law's rounds, unbroken lots, colours -/
def rounds2 (m : Nat) (ties : List (Nat × Nat)) : List (List Nat) := (sortL (lotsF ties.length)).filter fun l => decide (2 < l.length) && roundF m ties l
theorem lrounds_gen {m : Nat} {n : Int} (hn : n = m) (hm : m ≤ 100) {ties : List (Nat × Nat)} (hl : ties.length ≤ 10) {T : Tbl} {D12 D13 : Fd} (g12 : T[12]? = some D12) (g13 : T[13]? = some D13)
    (s12 : ∀ {m : Nat} {n : Int}, n = m → m ≤ 10 → Post (D12.g [.int n]) fun r => r.1 = .lst ((sortL (lotsF m)).map tupN))
    (s13 : ∀ {lot : List Nat}, (∀ p ∈ lot, p < ties.length) → Post (D13.g [.int n, .tup (ties.map tieP), .d (tupN lot)]) fun r => r.1 = .bl (roundF m ties lot)) :
    Post (evDef T 3 b14 [.int n, .tup (ties.map tieP)]) fun r => r.1 = .lst ((rounds2 m ties).map tupN) := by
  apply def_run
  show Post (execs T b14 [.int n, .tup (ties.map tieP), .no]) _
  unfold b14
  apply run_cons
  simp only [Ev.exec, ev, evs, evO, evTO, evAnd, evOr, evIt, seq2, asT, asB, asI, binF, cmpF, at0, at1, post_bind, post_map, post_some, post_nif, post_ifn, post_ifs, R.isBo, R.isOk, R.isOw, R.isD, ls_ls, eq_self, E.quiet, quiets, quietO, It.quiet, Option.bind_some, Option.map_some, Option.bind_none, Option.map_none, Bool.false_and, Bool.and_false, Bool.true_and, Bool.and_true, Bool.not_true, Bool.not_false, Bool.false_eq_true, if_true, if_false, ite_true, ite_false, reduceIte, eq_int, lt_int, le_int, add_int, sub_int, mul_int, neg_int, div_int, mod_int, pow_int, List.take_zero, List.drop_zero, List.all_cons, List.all_nil, List.any_cons, List.any_nil, List.set_cons_zero, List.set_cons_succ, not_true_eq_false, not_false_eq_true, true_and, and_true, biF, un1, intF, absF, setR, setRs, frz_lst, frz_d, frz_no, frz_fr, Bool.or_false, Bool.false_or, R.toM, sz1, sz2, sz3, sz4, sz5, sz6, sz7, sz8, sz9, sz10, tru_bl, decide_eq_true_eq, Nat.zero_le, List.map_cons, List.map_nil, List.length_cons, List.length_nil]
  apply run_cons
  simp only [Ev.exec, ev, evs, evO, evTO, evAnd, evOr, evIt, seq2, asT, asB, asI, binF, cmpF, at0, at1, post_bind, post_map, post_some, post_nif, post_ifn, post_ifs, R.isBo, R.isOk, R.isOw, R.isD, ls_ls, eq_self, E.quiet, quiets, quietO, It.quiet, Option.bind_some, Option.map_some, Option.bind_none, Option.map_none, Bool.false_and, Bool.and_false, Bool.true_and, Bool.and_true, Bool.not_true, Bool.not_false, Bool.false_eq_true, if_true, if_false, ite_true, ite_false, reduceIte, eq_int, lt_int, le_int, add_int, sub_int, mul_int, neg_int, div_int, mod_int, pow_int, List.take_zero, List.drop_zero, List.all_cons, List.all_nil, List.any_cons, List.any_nil, List.set_cons_zero, List.set_cons_succ, not_true_eq_false, not_false_eq_true, true_and, and_true, biF, un1, intF, absF, setR, setRs, frz_lst, frz_d, frz_no, frz_fr, Bool.or_false, Bool.false_or, R.toM, sz1, sz2, sz3, sz4, sz5, sz6, sz7, sz8, sz9, sz10, tru_bl, decide_eq_true_eq, Nat.zero_le, List.map_cons, List.map_nil, List.length_cons, List.length_nil]
  apply run_ret
  have hk : ∃ k : Int, lenF (.d (.tuple (ties.map tieP))) = some (.d (.int k)) ∧ k = ties.length := ⟨_, rfl, by rw [List.length_map]⟩
  obtain ⟨k, hk1, hk2⟩ := hk
  obtain ⟨⟨r, r0⟩, e12, h⟩ := s12 hk2 hl
  cases h
  have hlen : (sortL (lotsF ties.length)).length ≤ 1024 := by
    rw [(sortL_perm _).length_eq, lots_len]
    exact Nat.le_trans (Nat.pow_le_pow_right (by decide) hl) (by decide)
  have hc := ev_comp (T := T) (own := [("lot", 2)]) (g := .nm 2) (it := .e (.call 12 [.bi .len [.nm 1]])) (t := some (.and [.cmp .Gt (.bi .len [.nm 2]) (.int 2), .call 13 [.nm 0, .nm 1, .nm 2]])) (e := .nm 2)
    (ρ := [.int n, .tup (ties.map tieP), .no]) (ρ1 := [.int n, .tup (ties.map tieP), .no]) (R.d ∘ tupN) (fun l => if (decide (2 < l.length) && roundF m ties l) = true then some (M.d (tupN l)) else none) (sortL (lotsF ties.length)) false
    (by simp only [Ev.exec, ev, evs, evO, evTO, evAnd, evOr, evIt, seq2, asT, asB, asI, binF, cmpF, at0, at1, post_bind, post_map, post_some, post_nif, post_ifn, post_ifs, R.isBo, R.isOk, R.isOw, R.isD, ls_ls, eq_self, E.quiet, quiets, quietO, It.quiet, Option.bind_some, Option.map_some, Option.bind_none, Option.map_none, Bool.false_and, Bool.and_false, Bool.true_and, Bool.and_true, Bool.not_true, Bool.not_false, Bool.false_eq_true, if_true, if_false, ite_true, ite_false, reduceIte, eq_int, lt_int, le_int, add_int, sub_int, mul_int, neg_int, div_int, mod_int, pow_int, List.take_zero, List.drop_zero, List.all_cons, List.all_nil, List.any_cons, List.any_nil, List.set_cons_zero, List.set_cons_succ, not_true_eq_false, not_false_eq_true, true_and, and_true, biF, un1, intF, absF, setR, setRs, frz_lst, frz_d, frz_no, frz_fr, Bool.or_false, Bool.false_or, R.toM, sz1, sz2, sz3, sz4, sz5, sz6, sz7, sz8, sz9, sz10, tru_bl, decide_eq_true_eq, Nat.zero_le, List.map_cons, List.map_nil, List.length_cons, List.length_nil, hk1, g12, e12, itemsF, reads_lst]; rw [List.map_map]) rfl rfl (fun l hm' => ⟨[.int n, .tup (ties.map tieP), .d (tupN l)], rfl, rfl, by
      obtain ⟨⟨r, r0⟩, e, h⟩ := s13 (lot := l) (lots_lt l ((sortL_perm _).mem_iff.mp hm'))
      cases h
      have hj : ∃ j : Int, lenF (.d (tupN l)) = some (.d (.int j)) ∧ j = l.length := ⟨_, rfl, by rw [List.length_map]⟩
      obtain ⟨j, hj1, hj2⟩ := hj
      generalize roundF m ties l = k2 at e
      by_cases c : 2 < l.length
      · have c1 := decide_eq_true c
        have c2 := decide_eq_true (show (2 : Int) < j by omega)
        rw [c1]
        cases k2 <;> simp only [Ev.exec, ev, evs, evO, evTO, evAnd, evOr, evIt, seq2, asT, asB, asI, binF, cmpF, at0, at1, post_bind, post_map, post_some, post_nif, post_ifn, post_ifs, R.isBo, R.isOk, R.isOw, R.isD, ls_ls, eq_self, E.quiet, quiets, quietO, It.quiet, Option.bind_some, Option.map_some, Option.bind_none, Option.map_none, Bool.false_and, Bool.and_false, Bool.true_and, Bool.and_true, Bool.not_true, Bool.not_false, Bool.false_eq_true, if_true, if_false, ite_true, ite_false, reduceIte, eq_int, lt_int, le_int, add_int, sub_int, mul_int, neg_int, div_int, mod_int, pow_int, List.take_zero, List.drop_zero, List.all_cons, List.all_nil, List.any_cons, List.any_nil, List.set_cons_zero, List.set_cons_succ, not_true_eq_false, not_false_eq_true, true_and, and_true, biF, un1, intF, absF, setR, setRs, frz_lst, frz_d, frz_no, frz_fr, Bool.or_false, Bool.false_or, R.toM, sz1, sz2, sz3, sz4, sz5, sz6, sz7, sz8, sz9, sz10, tru_bl, decide_eq_true_eq, Nat.zero_le, List.map_cons, List.map_nil, List.length_cons, List.length_nil, hj1, c2, g13, e]
      · have c1 := decide_eq_false c
        have c2 := decide_eq_false (show ¬ (2 : Int) < j by omega)
        rw [c1]
        simp only [Ev.exec, ev, evs, evO, evTO, evAnd, evOr, evIt, seq2, asT, asB, asI, binF, cmpF, at0, at1, post_bind, post_map, post_some, post_nif, post_ifn, post_ifs, R.isBo, R.isOk, R.isOw, R.isD, ls_ls, eq_self, E.quiet, quiets, quietO, It.quiet, Option.bind_some, Option.map_some, Option.bind_none, Option.map_none, Bool.false_and, Bool.and_false, Bool.true_and, Bool.and_true, Bool.not_true, Bool.not_false, Bool.false_eq_true, if_true, if_false, ite_true, ite_false, reduceIte, eq_int, lt_int, le_int, add_int, sub_int, mul_int, neg_int, div_int, mod_int, pow_int, List.take_zero, List.drop_zero, List.all_cons, List.all_nil, List.any_cons, List.any_nil, List.set_cons_zero, List.set_cons_succ, not_true_eq_false, not_false_eq_true, true_and, and_true, biF, un1, intF, absF, setR, setRs, frz_lst, frz_d, frz_no, frz_fr, Bool.or_false, Bool.false_or, R.toM, sz1, sz2, sz3, sz4, sz5, sz6, sz7, sz8, sz9, sz10, tru_bl, decide_eq_true_eq, Nat.zero_le, List.map_cons, List.map_nil, List.length_cons, List.length_nil, hj1, c2, g13, e]⟩) (by rw [sizeLine_eq]; omega)
  rw [fm_if] at hc
  have e : ((sortL (lotsF ties.length)).filter fun l => decide (2 < l.length) && roundF m ties l).map (fun l => M.d (tupN l)) = ((rounds2 m ties).map tupN).map M.d := by rw [List.map_map]; rfl
  rw [e] at hc
  rw [Ev.exec, hc]
  simp only [Ev.exec, ev, evs, evO, evTO, evAnd, evOr, evIt, seq2, asT, asB, asI, binF, cmpF, at0, at1, post_bind, post_map, post_some, post_nif, post_ifn, post_ifs, R.isBo, R.isOk, R.isOw, R.isD, ls_ls, eq_self, E.quiet, quiets, quietO, It.quiet, Option.bind_some, Option.map_some, Option.bind_none, Option.map_none, Bool.false_and, Bool.and_false, Bool.true_and, Bool.and_true, Bool.not_true, Bool.not_false, Bool.false_eq_true, if_true, if_false, ite_true, ite_false, reduceIte, eq_int, lt_int, le_int, add_int, sub_int, mul_int, neg_int, div_int, mod_int, pow_int, List.take_zero, List.drop_zero, List.all_cons, List.all_nil, List.any_cons, List.any_nil, List.set_cons_zero, List.set_cons_succ, not_true_eq_false, not_false_eq_true, true_and, and_true, biF, un1, intF, absF, setR, setRs, frz_lst, frz_d, frz_no, frz_fr, Bool.or_false, Bool.false_or, R.toM, sz1, sz2, sz3, sz4, sz5, sz6, sz7, sz8, sz9, sz10, tru_bl, decide_eq_true_eq, Nat.zero_le, List.map_cons, List.map_nil, List.length_cons, List.length_nil]
  exact ⟨_, rfl, rfl⟩
def brk2 (m : Nat) (ties : List (Nat × Nat)) : List (List Nat) := (rounds2 m ties).map (·.drop 1)
theorem lunb_gen {m : Nat} {n : Int} {ties : List (Nat × Nat)} (hl : ties.length ≤ 10) {T : Tbl} {D12 D14 : Fd} (g12 : T[12]? = some D12) (g14 : T[14]? = some D14)
    (s12 : ∀ {m : Nat} {n : Int}, n = m → m ≤ 10 → Post (D12.g [.int n]) fun r => r.1 = .lst ((sortL (lotsF m)).map tupN))
    (s14 : Post (D14.g [.int n, .tup (ties.map tieP)]) fun r => r.1 = .lst ((rounds2 m ties).map tupN)) :
    Post (evDef T 7 b15 [.int n, .tup (ties.map tieP)]) fun r => r.1 = .lst (((sortL (lotsF ties.length)).filter fun lot => !(brk2 m ties).any fun rest => rest.all fun x => lot.contains x).map tupN) := by
  apply def_run
  show Post (execs T b15 [.int n, .tup (ties.map tieP), .no, .no, .no, .no, .no]) _
  unfold b15
  apply run_cons
  simp only [Ev.exec, ev, evs, evO, evTO, evAnd, evOr, evIt, seq2, asT, asB, asI, binF, cmpF, at0, at1, post_bind, post_map, post_some, post_nif, post_ifn, post_ifs, R.isBo, R.isOk, R.isOw, R.isD, ls_ls, eq_self, E.quiet, quiets, quietO, It.quiet, Option.bind_some, Option.map_some, Option.bind_none, Option.map_none, Bool.false_and, Bool.and_false, Bool.true_and, Bool.and_true, Bool.not_true, Bool.not_false, Bool.false_eq_true, if_true, if_false, ite_true, ite_false, reduceIte, eq_int, lt_int, le_int, add_int, sub_int, mul_int, neg_int, div_int, mod_int, pow_int, List.take_zero, List.drop_zero, List.all_cons, List.all_nil, List.any_cons, List.any_nil, List.set_cons_zero, List.set_cons_succ, not_true_eq_false, not_false_eq_true, true_and, and_true, biF, un1, intF, absF, setR, setRs, frz_lst, frz_d, frz_no, frz_fr, Bool.or_false, Bool.false_or, R.toM, sz1, sz2, sz3, sz4, sz5, sz6, sz7, sz8, sz9, sz10, tru_bl, decide_eq_true_eq, Nat.zero_le, List.map_cons, List.map_nil, List.length_cons, List.length_nil]
  apply run_cons
  simp only [Ev.exec, ev, evs, evO, evTO, evAnd, evOr, evIt, seq2, asT, asB, asI, binF, cmpF, at0, at1, post_bind, post_map, post_some, post_nif, post_ifn, post_ifs, R.isBo, R.isOk, R.isOw, R.isD, ls_ls, eq_self, E.quiet, quiets, quietO, It.quiet, Option.bind_some, Option.map_some, Option.bind_none, Option.map_none, Bool.false_and, Bool.and_false, Bool.true_and, Bool.and_true, Bool.not_true, Bool.not_false, Bool.false_eq_true, if_true, if_false, ite_true, ite_false, reduceIte, eq_int, lt_int, le_int, add_int, sub_int, mul_int, neg_int, div_int, mod_int, pow_int, List.take_zero, List.drop_zero, List.all_cons, List.all_nil, List.any_cons, List.any_nil, List.set_cons_zero, List.set_cons_succ, not_true_eq_false, not_false_eq_true, true_and, and_true, biF, un1, intF, absF, setR, setRs, frz_lst, frz_d, frz_no, frz_fr, Bool.or_false, Bool.false_or, R.toM, sz1, sz2, sz3, sz4, sz5, sz6, sz7, sz8, sz9, sz10, tru_bl, decide_eq_true_eq, Nat.zero_le, List.map_cons, List.map_nil, List.length_cons, List.length_nil]
  apply run_cons
  have hk : ∃ k : Int, lenF (.d (.tuple (ties.map tieP))) = some (.d (.int k)) ∧ k = ties.length := ⟨_, rfl, by rw [List.length_map]⟩
  obtain ⟨k, hk1, hk2⟩ := hk
  obtain ⟨⟨r, r0⟩, e14, h⟩ := s14
  cases h
  have hlots : (sortL (lotsF ties.length)).length ≤ 1024 := by
    rw [(sortL_perm _).length_eq, lots_len]
    exact Nat.le_trans (Nat.pow_le_pow_right (by decide) hl) (by decide)
  have hlen : (rounds2 m ties).length ≤ 1024 := Nat.le_trans (List.length_filter_le _ _) hlots
  have hsz : ∀ l ∈ rounds2 m ties, l.length ≤ 10 := fun l h => Nat.le_trans (lots_sz l ((sortL_perm _).mem_iff.mp (List.mem_filter.mp h).1)) hl
  rw [Ev.exec, post_bind]
  refine post_eq (ev_comp (ρ1 := [.int n, .tup (ties.map tieP), .no, .no, .no, .no, .no]) (R.d ∘ tupN) (fun l => some (M.d (tupN (l.drop 1)))) (rounds2 m ties) false ?_ rfl rfl (fun l hm' => ⟨[.int n, .tup (ties.map tieP), .no, .no, .d (tupN l), .no, .no], rfl, rfl, ?_⟩) (by rw [sizeLine_eq]; omega)) ?_
  · simp only [Ev.exec, ev, evs, evO, evTO, evAnd, evOr, evIt, seq2, asT, asB, asI, binF, cmpF, at0, at1, post_bind, post_map, post_some, post_nif, post_ifn, post_ifs, R.isBo, R.isOk, R.isOw, R.isD, ls_ls, eq_self, E.quiet, quiets, quietO, It.quiet, Option.bind_some, Option.map_some, Option.bind_none, Option.map_none, Bool.false_and, Bool.and_false, Bool.true_and, Bool.and_true, Bool.not_true, Bool.not_false, Bool.false_eq_true, if_true, if_false, ite_true, ite_false, reduceIte, eq_int, lt_int, le_int, add_int, sub_int, mul_int, neg_int, div_int, mod_int, pow_int, List.take_zero, List.drop_zero, List.all_cons, List.all_nil, List.any_cons, List.any_nil, List.set_cons_zero, List.set_cons_succ, not_true_eq_false, not_false_eq_true, true_and, and_true, biF, un1, intF, absF, setR, setRs, frz_lst, frz_d, frz_no, frz_fr, Bool.or_false, Bool.false_or, R.toM, sz1, sz2, sz3, sz4, sz5, sz6, sz7, sz8, sz9, sz10, tru_bl, decide_eq_true_eq, Nat.zero_le, List.map_cons, List.map_nil, List.length_cons, List.length_nil, g14, e14, itemsF, reads_lst]
    rw [List.map_map]
  · have e : slcF (.d (tupN l)) (some 1) none = some (.d (tupN (l.drop 1))) := by
      show some (R.tup (cutL (l.map I) (some 1) none)) = _
      rw [cut_map, cut1]; rfl
    simp only [Ev.exec, ev, evs, evO, evTO, evAnd, evOr, evIt, seq2, asT, asB, asI, binF, cmpF, at0, at1, post_bind, post_map, post_some, post_nif, post_ifn, post_ifs, R.isBo, R.isOk, R.isOw, R.isD, ls_ls, eq_self, E.quiet, quiets, quietO, It.quiet, Option.bind_some, Option.map_some, Option.bind_none, Option.map_none, Bool.false_and, Bool.and_false, Bool.true_and, Bool.and_true, Bool.not_true, Bool.not_false, Bool.false_eq_true, if_true, if_false, ite_true, ite_false, reduceIte, eq_int, lt_int, le_int, add_int, sub_int, mul_int, neg_int, div_int, mod_int, pow_int, List.take_zero, List.drop_zero, List.all_cons, List.all_nil, List.any_cons, List.any_nil, List.set_cons_zero, List.set_cons_succ, not_true_eq_false, not_false_eq_true, true_and, and_true, biF, un1, intF, absF, setR, setRs, frz_lst, frz_d, frz_no, frz_fr, Bool.or_false, Bool.false_or, R.toM, sz1, sz2, sz3, sz4, sz5, sz6, sz7, sz8, sz9, sz10, tru_bl, decide_eq_true_eq, Nat.zero_le, List.map_cons, List.map_nil, List.length_cons, List.length_nil, e]
  rw [fm_map]
  have e : (rounds2 m ties).map (fun l => M.d (tupN (l.drop 1))) = ((brk2 m ties).map tupN).map M.d := by unfold brk2; rw [List.map_map, List.map_map]; rfl
  rw [e]
  simp only [Ev.exec, ev, evs, evO, evTO, evAnd, evOr, evIt, seq2, asT, asB, asI, binF, cmpF, at0, at1, post_bind, post_map, post_some, post_nif, post_ifn, post_ifs, R.isBo, R.isOk, R.isOw, R.isD, ls_ls, eq_self, E.quiet, quiets, quietO, It.quiet, Option.bind_some, Option.map_some, Option.bind_none, Option.map_none, Bool.false_and, Bool.and_false, Bool.true_and, Bool.and_true, Bool.not_true, Bool.not_false, Bool.false_eq_true, if_true, if_false, ite_true, ite_false, reduceIte, eq_int, lt_int, le_int, add_int, sub_int, mul_int, neg_int, div_int, mod_int, pow_int, List.take_zero, List.drop_zero, List.all_cons, List.all_nil, List.any_cons, List.any_nil, List.set_cons_zero, List.set_cons_succ, not_true_eq_false, not_false_eq_true, true_and, and_true, biF, un1, intF, absF, setR, setRs, frz_lst, frz_d, frz_no, frz_fr, Bool.or_false, Bool.false_or, R.toM, sz1, sz2, sz3, sz4, sz5, sz6, sz7, sz8, sz9, sz10, tru_bl, decide_eq_true_eq, Nat.zero_le, List.map_cons, List.map_nil, List.length_cons, List.length_nil, backE, wipeE]
  have hbs : (brk2 m ties).length ≤ 1024 := by unfold brk2; rw [List.length_map]; exact hlen
  have hbz : ∀ r ∈ brk2 m ties, r.length ≤ 1000 := fun r h => by
    obtain ⟨l, hl', rfl⟩ := List.mem_map.mp h
    have := hsz l hl'
    rw [List.length_drop]; omega
  generalize brk2 m ties = bs at hbs hbz
  apply run_cons
  simp only [Ev.exec, ev, evs, evO, evTO, evAnd, evOr, evIt, seq2, asT, asB, asI, binF, cmpF, at0, at1, post_bind, post_map, post_some, post_nif, post_ifn, post_ifs, R.isBo, R.isOk, R.isOw, R.isD, ls_ls, eq_self, E.quiet, quiets, quietO, It.quiet, Option.bind_some, Option.map_some, Option.bind_none, Option.map_none, Bool.false_and, Bool.and_false, Bool.true_and, Bool.and_true, Bool.not_true, Bool.not_false, Bool.false_eq_true, if_true, if_false, ite_true, ite_false, reduceIte, eq_int, lt_int, le_int, add_int, sub_int, mul_int, neg_int, div_int, mod_int, pow_int, List.take_zero, List.drop_zero, List.all_cons, List.all_nil, List.any_cons, List.any_nil, List.set_cons_zero, List.set_cons_succ, not_true_eq_false, not_false_eq_true, true_and, and_true, biF, un1, intF, absF, setR, setRs, frz_lst, frz_d, frz_no, frz_fr, Bool.or_false, Bool.false_or, R.toM, sz1, sz2, sz3, sz4, sz5, sz6, sz7, sz8, sz9, sz10, tru_bl, decide_eq_true_eq, Nat.zero_le, List.map_cons, List.map_nil, List.length_cons, List.length_nil]
  apply run_cons
  obtain ⟨⟨r, r0'⟩, e12, h⟩ := s12 hk2 hl
  cases h
  simp only [Ev.exec, ev, evs, evO, evTO, evAnd, evOr, evIt, seq2, asT, asB, asI, binF, cmpF, at0, at1, post_bind, post_map, post_some, post_nif, post_ifn, post_ifs, R.isBo, R.isOk, R.isOw, R.isD, ls_ls, eq_self, E.quiet, quiets, quietO, It.quiet, Option.bind_some, Option.map_some, Option.bind_none, Option.map_none, Bool.false_and, Bool.and_false, Bool.true_and, Bool.and_true, Bool.not_true, Bool.not_false, Bool.false_eq_true, if_true, if_false, ite_true, ite_false, reduceIte, eq_int, lt_int, le_int, add_int, sub_int, mul_int, neg_int, div_int, mod_int, pow_int, List.take_zero, List.drop_zero, List.all_cons, List.all_nil, List.any_cons, List.any_nil, List.set_cons_zero, List.set_cons_succ, not_true_eq_false, not_false_eq_true, true_and, and_true, biF, un1, intF, absF, setR, setRs, frz_lst, frz_d, frz_no, frz_fr, Bool.or_false, Bool.false_or, R.toM, sz1, sz2, sz3, sz4, sz5, sz6, sz7, sz8, sz9, sz10, tru_bl, decide_eq_true_eq, Nat.zero_le, List.map_cons, List.map_nil, List.length_cons, List.length_nil, hk1, g12, e12, itemsF, reads_lst]
  rw [List.map_map]
  refine post_mono (forGo_map (R.d ∘ tupN) (fun ps ρ => ∃ (f : List (List Nat)) (r4 : R), ρ = [.int n, .tup (ties.map tieP), .lst (bs.map tupN), .lst (f.map tupN), r4, .no, .no] ∧ f.length + ps.length ≤ 1024 ∧
      f ++ ps.filter (fun lot => !bs.any fun rest => rest.all fun x => lot.contains x) = (sortL (lotsF ties.length)).filter fun lot => !bs.any fun rest => rest.all fun x => lot.contains x)
    ?_ (sortL (lotsF ties.length)) _ ⟨[], _, rfl, by simpa using hlots, rfl⟩) ?_
  · rintro lot ps ρ ⟨f, r4, rfl, hf, he⟩
    rw [List.length_cons] at hf
    simp only [tgF, Function.comp_apply, post_some, List.set_cons_succ, List.set_cons_zero]
    apply run_cons
    have hc := ev_comp (T := T) (own := [("own", 5)]) (g := .nm 5) (it := .e (.nm 2)) (t := none) (e := .bi .all [.comp [("place", 6)] (.nm 6) (.e (.nm 5)) none (.cmp .In (.nm 6) (.nm 4))])
      (ρ := [.int n, .tup (ties.map tieP), .lst (bs.map tupN), .lst (f.map tupN), .d (tupN lot), .no, .no]) (ρ1 := [.int n, .tup (ties.map tieP), .lst (bs.map tupN), .lst (f.map tupN), .d (tupN lot), .no, .no]) (R.d ∘ tupN) (fun rest => some (M.d (.bool (rest.all fun x => lot.contains x)))) bs true
      (by simp only [Ev.exec, ev, evs, evO, evTO, evAnd, evOr, evIt, seq2, asT, asB, asI, binF, cmpF, at0, at1, post_bind, post_map, post_some, post_nif, post_ifn, post_ifs, R.isBo, R.isOk, R.isOw, R.isD, ls_ls, eq_self, E.quiet, quiets, quietO, It.quiet, Option.bind_some, Option.map_some, Option.bind_none, Option.map_none, Bool.false_and, Bool.and_false, Bool.true_and, Bool.and_true, Bool.not_true, Bool.not_false, Bool.false_eq_true, if_true, if_false, ite_true, ite_false, reduceIte, eq_int, lt_int, le_int, add_int, sub_int, mul_int, neg_int, div_int, mod_int, pow_int, List.take_zero, List.drop_zero, List.all_cons, List.all_nil, List.any_cons, List.any_nil, List.set_cons_zero, List.set_cons_succ, not_true_eq_false, not_false_eq_true, true_and, and_true, biF, un1, intF, absF, setR, setRs, frz_lst, frz_d, frz_no, frz_fr, Bool.or_false, Bool.false_or, R.toM, sz1, sz2, sz3, sz4, sz5, sz6, sz7, sz8, sz9, sz10, tru_bl, decide_eq_true_eq, Nat.zero_le, List.map_cons, List.map_nil, List.length_cons, List.length_nil, itemsF, reads_bo]; rw [List.map_map]) rfl rfl (fun rest hr => ⟨[.int n, .tup (ties.map tieP), .lst (bs.map tupN), .lst (f.map tupN), .d (tupN lot), .d (tupN rest), .no], rfl, rfl, by
        have hrest := hbz rest hr
        have hc2 := ev_comp (T := T) (own := [("place", 6)]) (g := .nm 6) (it := .e (.nm 5)) (t := none) (e := .cmp .In (.nm 6) (.nm 4))
          (ρ := [.int n, .tup (ties.map tieP), .lst (bs.map tupN), .lst (f.map tupN), .d (tupN lot), .d (tupN rest), .no]) (ρ1 := [.int n, .tup (ties.map tieP), .lst (bs.map tupN), .lst (f.map tupN), .d (tupN lot), .d (tupN rest), .no]) (R.d ∘ I) (fun x => some (M.d (.bool (lot.contains x)))) rest false
          (by
            have hr2 : (R.d (tupN rest)).reads = some (false, rest.map I) := rfl
            simp only [Ev.exec, ev, evs, evO, evTO, evAnd, evOr, evIt, seq2, asT, asB, asI, binF, cmpF, at0, at1, post_bind, post_map, post_some, post_nif, post_ifn, post_ifs, R.isBo, R.isOk, R.isOw, R.isD, ls_ls, eq_self, E.quiet, quiets, quietO, It.quiet, Option.bind_some, Option.map_some, Option.bind_none, Option.map_none, Bool.false_and, Bool.and_false, Bool.true_and, Bool.and_true, Bool.not_true, Bool.not_false, Bool.false_eq_true, if_true, if_false, ite_true, ite_false, reduceIte, eq_int, lt_int, le_int, add_int, sub_int, mul_int, neg_int, div_int, mod_int, pow_int, List.take_zero, List.drop_zero, List.all_cons, List.all_nil, List.any_cons, List.any_nil, List.set_cons_zero, List.set_cons_succ, not_true_eq_false, not_false_eq_true, true_and, and_true, biF, un1, intF, absF, setR, setRs, frz_lst, frz_d, frz_no, frz_fr, Bool.or_false, Bool.false_or, R.toM, sz1, sz2, sz3, sz4, sz5, sz6, sz7, sz8, sz9, sz10, tru_bl, decide_eq_true_eq, Nat.zero_le, List.map_cons, List.map_nil, List.length_cons, List.length_nil, itemsF, hr2]
            rw [List.map_map]) rfl rfl (fun x hx => ⟨[.int n, .tup (ties.map tieP), .lst (bs.map tupN), .lst (f.map tupN), .d (tupN lot), .d (tupN rest), .d (I x)], rfl, rfl, by
            have hi : inF (.d (I x)) (.d (tupN lot)) = some (lot.contains x) := inI x lot
            simp only [Ev.exec, ev, evs, evO, evTO, evAnd, evOr, evIt, seq2, asT, asB, asI, binF, cmpF, at0, at1, post_bind, post_map, post_some, post_nif, post_ifn, post_ifs, R.isBo, R.isOk, R.isOw, R.isD, ls_ls, eq_self, E.quiet, quiets, quietO, It.quiet, Option.bind_some, Option.map_some, Option.bind_none, Option.map_none, Bool.false_and, Bool.and_false, Bool.true_and, Bool.and_true, Bool.not_true, Bool.not_false, Bool.false_eq_true, if_true, if_false, ite_true, ite_false, reduceIte, eq_int, lt_int, le_int, add_int, sub_int, mul_int, neg_int, div_int, mod_int, pow_int, List.take_zero, List.drop_zero, List.all_cons, List.all_nil, List.any_cons, List.any_nil, List.set_cons_zero, List.set_cons_succ, not_true_eq_false, not_false_eq_true, true_and, and_true, biF, un1, intF, absF, setR, setRs, frz_lst, frz_d, frz_no, frz_fr, Bool.or_false, Bool.false_or, R.toM, sz1, sz2, sz3, sz4, sz5, sz6, sz7, sz8, sz9, sz10, tru_bl, decide_eq_true_eq, Nat.zero_le, List.map_cons, List.map_nil, List.length_cons, List.length_nil, hi]⟩) (by rw [sizeLine_eq]; omega)
        rw [fm_map] at hc2
        have e2 : rest.map (fun x => M.d (.bool (lot.contains x))) = (rest.map fun x => PyData.bool (lot.contains x)).map M.d := by rw [List.map_map]; rfl
        have e3 : ((rest.map fun x => lot.contains x).all id) = rest.all fun x => lot.contains x := by rw [List.all_map]; rfl
        rw [e2] at hc2
        have hb : ev T (.bi .all [.comp [("place", 6)] (.nm 6) (.e (.nm 5)) none (.cmp .In (.nm 6) (.nm 4))]) [.int n, .tup (ties.map tieP), .lst (bs.map tupN), .lst (f.map tupN), .d (tupN lot), .d (tupN rest), .no] = some (.d (.bool (rest.all fun x => lot.contains x)), [.int n, .tup (ties.map tieP), .lst (bs.map tupN), .lst (f.map tupN), .d (tupN lot), .d (tupN rest), .no]) := by
          rw [ev, evs, hc2]
          simp only [Ev.exec, ev, evs, evO, evTO, evAnd, evOr, evIt, seq2, asT, asB, asI, binF, cmpF, at0, at1, post_bind, post_map, post_some, post_nif, post_ifn, post_ifs, R.isBo, R.isOk, R.isOw, R.isD, ls_ls, eq_self, E.quiet, quiets, quietO, It.quiet, Option.bind_some, Option.map_some, Option.bind_none, Option.map_none, Bool.false_and, Bool.and_false, Bool.true_and, Bool.and_true, Bool.not_true, Bool.not_false, Bool.false_eq_true, if_true, if_false, ite_true, ite_false, reduceIte, eq_int, lt_int, le_int, add_int, sub_int, mul_int, neg_int, div_int, mod_int, pow_int, List.take_zero, List.drop_zero, List.all_cons, List.all_nil, List.any_cons, List.any_nil, List.set_cons_zero, List.set_cons_succ, not_true_eq_false, not_false_eq_true, true_and, and_true, biF, un1, intF, absF, setR, setRs, frz_lst, frz_d, frz_no, frz_fr, Bool.or_false, Bool.false_or, R.toM, sz1, sz2, sz3, sz4, sz5, sz6, sz7, sz8, sz9, sz10, tru_bl, decide_eq_true_eq, Nat.zero_le, List.map_cons, List.map_nil, List.length_cons, List.length_nil, reads_lst, bools_map, backE, wipeE, e3]
        rw [evTO, Option.bind_some, if_pos rfl, hb]
        rfl⟩) (by rw [sizeLine_eq]; omega)
    rw [fm_map] at hc
    have e2 : bs.map (fun rest => M.d (.bool (rest.all fun x => lot.contains x))) = (bs.map fun rest => PyData.bool (rest.all fun x => lot.contains x)).map M.d := by rw [List.map_map]; rfl
    have e3 : ((bs.map fun rest => rest.all fun x => lot.contains x).any id) = bs.any fun rest => rest.all fun x => lot.contains x := by rw [List.any_map]; rfl
    rw [e2] at hc
    rw [List.filter_cons] at he
    generalize bs.any (fun rest => rest.all fun x => lot.contains x) = b at e3 he
    have up : f.length < sizeLine := by rw [sizeLine_eq]; omega
    cases b with
    | true =>
      simp only [↓hc, Ev.exec, ev, evs, evO, evTO, evAnd, evOr, evIt, seq2, asT, asB, asI, binF, cmpF, at0, at1, post_bind, post_map, post_some, post_nif, post_ifn, post_ifs, R.isBo, R.isOk, R.isOw, R.isD, ls_ls, eq_self, E.quiet, quiets, quietO, It.quiet, Option.bind_some, Option.map_some, Option.bind_none, Option.map_none, Bool.false_and, Bool.and_false, Bool.true_and, Bool.and_true, Bool.not_true, Bool.not_false, Bool.false_eq_true, if_true, if_false, ite_true, ite_false, reduceIte, eq_int, lt_int, le_int, add_int, sub_int, mul_int, neg_int, div_int, mod_int, pow_int, List.take_zero, List.drop_zero, List.all_cons, List.all_nil, List.any_cons, List.any_nil, List.set_cons_zero, List.set_cons_succ, not_true_eq_false, not_false_eq_true, true_and, and_true, biF, un1, intF, absF, setR, setRs, frz_lst, frz_d, frz_no, frz_fr, Bool.or_false, Bool.false_or, R.toM, sz1, sz2, sz3, sz4, sz5, sz6, sz7, sz8, sz9, sz10, tru_bl, decide_eq_true_eq, Nat.zero_le, List.map_cons, List.map_nil, List.length_cons, List.length_nil, reads_lst, bools_map, e3, backE, wipeE, run_nil]
      exact ⟨f, _, rfl, by omega, he⟩
    | false =>
      simp only [↓hc, Ev.exec, ev, evs, evO, evTO, evAnd, evOr, evIt, seq2, asT, asB, asI, binF, cmpF, at0, at1, post_bind, post_map, post_some, post_nif, post_ifn, post_ifs, R.isBo, R.isOk, R.isOw, R.isD, ls_ls, eq_self, E.quiet, quiets, quietO, It.quiet, Option.bind_some, Option.map_some, Option.bind_none, Option.map_none, Bool.false_and, Bool.and_false, Bool.true_and, Bool.and_true, Bool.not_true, Bool.not_false, Bool.false_eq_true, if_true, if_false, ite_true, ite_false, reduceIte, eq_int, lt_int, le_int, add_int, sub_int, mul_int, neg_int, div_int, mod_int, pow_int, List.take_zero, List.drop_zero, List.all_cons, List.all_nil, List.any_cons, List.any_nil, List.set_cons_zero, List.set_cons_succ, not_true_eq_false, not_false_eq_true, true_and, and_true, biF, un1, intF, absF, setR, setRs, frz_lst, frz_d, frz_no, frz_fr, Bool.or_false, Bool.false_or, R.toM, sz1, sz2, sz3, sz4, sz5, sz6, sz7, sz8, sz9, sz10, tru_bl, decide_eq_true_eq, Nat.zero_le, List.map_cons, List.map_nil, List.length_cons, List.length_nil, reads_lst, bools_map, e3, backE, wipeE]
      apply run_cons
      simp only [Ev.exec, ev, evs, evO, evTO, evAnd, evOr, evIt, seq2, asT, asB, asI, binF, cmpF, at0, at1, post_bind, post_map, post_some, post_nif, post_ifn, post_ifs, R.isBo, R.isOk, R.isOw, R.isD, ls_ls, eq_self, E.quiet, quiets, quietO, It.quiet, Option.bind_some, Option.map_some, Option.bind_none, Option.map_none, Bool.false_and, Bool.and_false, Bool.true_and, Bool.and_true, Bool.not_true, Bool.not_false, Bool.false_eq_true, if_true, if_false, ite_true, ite_false, reduceIte, eq_int, lt_int, le_int, add_int, sub_int, mul_int, neg_int, div_int, mod_int, pow_int, List.take_zero, List.drop_zero, List.all_cons, List.all_nil, List.any_cons, List.any_nil, List.set_cons_zero, List.set_cons_succ, not_true_eq_false, not_false_eq_true, true_and, and_true, biF, un1, intF, absF, setR, setRs, frz_lst, frz_d, frz_no, frz_fr, Bool.or_false, Bool.false_or, R.toM, sz1, sz2, sz3, sz4, sz5, sz6, sz7, sz8, sz9, sz10, tru_bl, decide_eq_true_eq, Nat.zero_le, List.map_cons, List.map_nil, List.length_cons, List.length_nil, appL, List.length_map, up, decide_true, run_nil]
      refine ⟨f ++ [lot], .d (tupN lot), ?_, by rw [List.length_append, List.length_singleton]; omega, ?_⟩
      · have e5 : ((f ++ [lot]).map tupN).map M.d = (f.map tupN).map M.d ++ [M.d (tupN lot)] := by rw [List.map_append, List.map_append]; rfl
        show _ = [R.int n, .tup (ties.map tieP), .lst (bs.map tupN), .ow (.ls (((f ++ [lot]).map tupN).map M.d)), .d (tupN lot), .no, .no]
        rw [e5]
      · rw [List.append_assoc]; exact he
  rintro ⟨o, ρ⟩ ⟨ho, f, r4, he2, hf, he⟩
  cases ho
  dsimp only at he2
  subst he2
  refine ⟨rfl, ?_⟩
  rw [List.filter_nil, List.append_nil] at he
  subst he
  apply run_ret
  simp only [Ev.exec, ev, evs, evO, evTO, evAnd, evOr, evIt, seq2, asT, asB, asI, binF, cmpF, at0, at1, post_bind, post_map, post_some, post_nif, post_ifn, post_ifs, R.isBo, R.isOk, R.isOw, R.isD, ls_ls, eq_self, E.quiet, quiets, quietO, It.quiet, Option.bind_some, Option.map_some, Option.bind_none, Option.map_none, Bool.false_and, Bool.and_false, Bool.true_and, Bool.and_true, Bool.not_true, Bool.not_false, Bool.false_eq_true, if_true, if_false, ite_true, ite_false, reduceIte, eq_int, lt_int, le_int, add_int, sub_int, mul_int, neg_int, div_int, mod_int, pow_int, List.take_zero, List.drop_zero, List.all_cons, List.all_nil, List.any_cons, List.any_nil, List.set_cons_zero, List.set_cons_succ, not_true_eq_false, not_false_eq_true, true_and, and_true, biF, un1, intF, absF, setR, setRs, frz_lst, frz_d, frz_no, frz_fr, Bool.or_false, Bool.false_or, R.toM, sz1, sz2, sz3, sz4, sz5, sz6, sz7, sz8, sz9, sz10, tru_bl, decide_eq_true_eq, Nat.zero_le, List.map_cons, List.map_nil, List.length_cons, List.length_nil]
  exact ⟨_, rfl, rfl⟩
end LK57
end
section
set_option Elab.async false
set_option linter.all false
set_option maxRecDepth 100000
namespace LK57
open PySem L2 Ev
/-! ### the law's colours -/
def pairP (p : List Nat × Int) : PyData := .tuple [.tuple (p.1.map I), .int p.2]
def stepH (h : List (List Nat × Int)) (t : Nat × Nat) : List (List Nat × Int) := h ++ h.map fun p => (drawF p.1 t.1 t.2, -p.2)
def hereF (m : Nat) (ties : List (Nat × Nat)) : List (List Nat × Int) := ties.foldl stepH [(List.range m, 1)]
def many (l : List Nat) : Nat := dcnt (l.map fun x : Nat => (x : Int))
theorem many_le (l : List Nat) : many l ≤ l.length := by
  obtain ⟨h1, h2⟩ := ded_mem (l.map fun x : Nat => (x : Int)) [] (by simp)
  have := List.Nodup.length_le_of_subset h1 (l₂ := l.map fun x : Nat => (x : Int)) fun k hk => by simpa using (h2 k).mp hk
  rw [List.length_map] at this
  exact this
def updH (f : List Int) (p : List Nat × Int) : List Int := f.set (many p.1) (f.getD (many p.1) 0 + p.2)
theorem ints_I (xs : List Nat) : ints? (xs.map I) = some (xs.map fun x : Nat => (x : Int)) := by
  induction xs with
  | nil => rfl
  | cons x xs ih =>
    show (ints? (xs.map I)).map _ = _
    rw [ih]; rfl
theorem lset_I {l : List Nat} (h : l.length ≤ 1000) : ∃ j : Int, lsetF (.d (.tuple (l.map I))) = some (.d (.int j)) ∧ j = many l := by
  refine ⟨_, ?_, rfl⟩
  show (ints? (l.map I)).bind _ = _
  rw [ints_I, Option.bind_some, if_pos (by rw [List.length_map]; exact h)]
  rfl
theorem lcol_gen {m : Nat} {n : Int} (hn : n = m) (hm : m ≤ 90) {ties : List (Nat × Nat)} (ht : ∀ t ∈ ties, t.1 < m ∧ t.2 < m) (hl : ties.length ≤ 10) {T : Tbl} {D11 : Fd} (g11 : T[11]? = some D11)
    (s11 : ∀ {flat : List Nat} {t : Nat × Nat}, t.1 < flat.length → t.2 < flat.length → flat.length ≤ 100 → Post (D11.g [.tup (flat.map I), .d (tieP t)]) fun r => r.1 = .tup ((drawF flat t.1 t.2).map I)) :
    Post (evDef T 7 b16 [.int n, .tup (ties.map tieP)]) fun r => r.1 = .tup (((hereF m ties).foldl updH (List.replicate (m + 1) 0)).map .int) := by
  apply def_run
  show Post (execs T b16 [.int n, .tup (ties.map tieP), .no, .no, .no, .no, .no]) _
  unfold b16
  apply run_cons
  have e1 := rep0 (n := n + 1) (m := m + 1) (by omega) (by omega)
  have e1' : (List.replicate (m + 1) 0).map I = (List.replicate (m + 1) (0 : Int)).map .int := by rw [List.map_replicate, List.map_replicate]; rfl
  rw [e1'] at e1
  simp only [Ev.exec, ev, evs, evO, evTO, evAnd, evOr, evIt, seq2, asT, asB, asI, binF, cmpF, at0, at1, post_bind, post_map, post_some, post_nif, post_ifn, post_ifs, R.isBo, R.isOk, R.isOw, R.isD, ls_ls, eq_self, E.quiet, quiets, quietO, It.quiet, Option.bind_some, Option.map_some, Option.bind_none, Option.map_none, Bool.false_and, Bool.and_false, Bool.true_and, Bool.and_true, Bool.not_true, Bool.not_false, Bool.false_eq_true, if_true, if_false, ite_true, ite_false, reduceIte, eq_int, lt_int, le_int, add_int, sub_int, mul_int, neg_int, div_int, mod_int, pow_int, List.take_zero, List.drop_zero, List.all_cons, List.all_nil, List.any_cons, List.any_nil, List.set_cons_zero, List.set_cons_succ, not_true_eq_false, not_false_eq_true, true_and, and_true, biF, un1, intF, absF, setR, setRs, frz_lst, frz_d, frz_no, frz_fr, Bool.or_false, Bool.false_or, R.toM, sz1, sz2, sz3, sz4, sz5, sz6, sz7, sz8, sz9, sz10, tru_bl, decide_eq_true_eq, Nat.zero_le, List.map_cons, List.map_nil, List.length_cons, List.length_nil, e1]
  apply run_cons
  have e2 : rgD (0, n) = some ((List.range m).map I) := by
    unfold rgD
    dsimp only
    rw [if_pos (by rw [sizeLine_eq]; omega), rgL_nat hn]
  simp only [Ev.exec, ev, evs, evO, evTO, evAnd, evOr, evIt, seq2, asT, asB, asI, binF, cmpF, at0, at1, post_bind, post_map, post_some, post_nif, post_ifn, post_ifs, R.isBo, R.isOk, R.isOw, R.isD, ls_ls, eq_self, E.quiet, quiets, quietO, It.quiet, Option.bind_some, Option.map_some, Option.bind_none, Option.map_none, Bool.false_and, Bool.and_false, Bool.true_and, Bool.and_true, Bool.not_true, Bool.not_false, Bool.false_eq_true, if_true, if_false, ite_true, ite_false, reduceIte, eq_int, lt_int, le_int, add_int, sub_int, mul_int, neg_int, div_int, mod_int, pow_int, List.take_zero, List.drop_zero, List.all_cons, List.all_nil, List.any_cons, List.any_nil, List.set_cons_zero, List.set_cons_succ, not_true_eq_false, not_false_eq_true, true_and, and_true, biF, un1, intF, absF, setR, setRs, frz_lst, frz_d, frz_no, frz_fr, Bool.or_false, Bool.false_or, R.toM, sz1, sz2, sz3, sz4, sz5, sz6, sz7, sz8, sz9, sz10, tru_bl, decide_eq_true_eq, Nat.zero_le, List.map_cons, List.map_nil, List.length_cons, List.length_nil, e2, rg1, mapM2]
  refine ⟨by omega, ?_⟩
  apply run_cons
  simp only [Ev.exec, ev, evs, evO, evTO, evAnd, evOr, evIt, seq2, asT, asB, asI, binF, cmpF, at0, at1, post_bind, post_map, post_some, post_nif, post_ifn, post_ifs, R.isBo, R.isOk, R.isOw, R.isD, ls_ls, eq_self, E.quiet, quiets, quietO, It.quiet, Option.bind_some, Option.map_some, Option.bind_none, Option.map_none, Bool.false_and, Bool.and_false, Bool.true_and, Bool.and_true, Bool.not_true, Bool.not_false, Bool.false_eq_true, if_true, if_false, ite_true, ite_false, reduceIte, eq_int, lt_int, le_int, add_int, sub_int, mul_int, neg_int, div_int, mod_int, pow_int, List.take_zero, List.drop_zero, List.all_cons, List.all_nil, List.any_cons, List.any_nil, List.set_cons_zero, List.set_cons_succ, not_true_eq_false, not_false_eq_true, true_and, and_true, biF, un1, intF, absF, setR, setRs, frz_lst, frz_d, frz_no, frz_fr, Bool.or_false, Bool.false_or, R.toM, sz1, sz2, sz3, sz4, sz5, sz6, sz7, sz8, sz9, sz10, tru_bl, decide_eq_true_eq, Nat.zero_le, List.map_cons, List.map_nil, List.length_cons, List.length_nil]
  apply run_cons
  generalize hz : (List.replicate (m + 1) (0 : Int)) = zs
  have hzl : zs.length = m + 1 := by rw [← hz, List.length_replicate]
  simp only [Ev.exec, ev, evs, evO, evTO, evAnd, evOr, evIt, seq2, asT, asB, asI, binF, cmpF, at0, at1, post_bind, post_map, post_some, post_nif, post_ifn, post_ifs, R.isBo, R.isOk, R.isOw, R.isD, ls_ls, eq_self, E.quiet, quiets, quietO, It.quiet, Option.bind_some, Option.map_some, Option.bind_none, Option.map_none, Bool.false_and, Bool.and_false, Bool.true_and, Bool.and_true, Bool.not_true, Bool.not_false, Bool.false_eq_true, if_true, if_false, ite_true, ite_false, reduceIte, eq_int, lt_int, le_int, add_int, sub_int, mul_int, neg_int, div_int, mod_int, pow_int, List.take_zero, List.drop_zero, List.all_cons, List.all_nil, List.any_cons, List.any_nil, List.set_cons_zero, List.set_cons_succ, not_true_eq_false, not_false_eq_true, true_and, and_true, biF, un1, intF, absF, setR, setRs, frz_lst, frz_d, frz_no, frz_fr, Bool.or_false, Bool.false_or, R.toM, sz1, sz2, sz3, sz4, sz5, sz6, sz7, sz8, sz9, sz10, tru_bl, decide_eq_true_eq, Nat.zero_le, List.map_cons, List.map_nil, List.length_cons, List.length_nil, itemsF, reads_dt]
  rw [List.map_map]
  refine post_mono (forGo_map (R.d ∘ tieP) (fun ps ρ => ∃ (h : List (List Nat × Int)) (r4 : R), ρ = [.int n, .tup (ties.map tieP), .lst (zs.map .int), .lst (h.map pairP), r4, .no, .no] ∧ ps.foldl stepH h = hereF m ties ∧ h.length * 2 ^ ps.length ≤ 2 ^ 10 ∧ (∀ p ∈ h, p.1.length = m) ∧ ∀ t ∈ ps, t.1 < m ∧ t.2 < m)
    ?_ ties _ ⟨[(List.range m, 1)], _, rfl, rfl, ?_, by simp, ht⟩) ?_
  · rintro t ps ρ ⟨h, r4, rfl, he, hs, hlen, hps⟩
    rw [List.length_cons] at hs
    have hs' : (h.length + h.length) * 2 ^ ps.length ≤ 2 ^ 10 := by
      rw [Nat.pow_succ, Nat.mul_comm _ 2, ← Nat.mul_assoc, Nat.mul_two] at hs; exact hs
    have hl2 : h.length + h.length ≤ 2 ^ 10 := Nat.le_trans (Nat.le_mul_of_pos_right _ (Nat.pow_pos (by decide))) hs'
    have htt := hps t List.mem_cons_self
    simp only [tgF, Function.comp_apply, post_some, List.set_cons_succ, List.set_cons_zero]
    apply run_cons
    have hc := ev_comp (T := T) (own := [("flat", 5), ("sign", 6)]) (g := .tup [5, 6]) (it := .e (.nm 3)) (t := none) (e := .tup [.call 11 [.nm 5, .nm 4], .neg (.nm 6)])
      (ρ := [.int n, .tup (ties.map tieP), .lst (zs.map .int), .lst (h.map pairP), .d (tieP t), .no, .no]) (ρ1 := [.int n, .tup (ties.map tieP), .lst (zs.map .int), .lst (h.map pairP), .d (tieP t), .no, .no]) (R.d ∘ pairP) (fun p => some (M.d (pairP (drawF p.1 t.1 t.2, -p.2)))) h true
      (by simp only [Ev.exec, ev, evs, evO, evTO, evAnd, evOr, evIt, seq2, asT, asB, asI, binF, cmpF, at0, at1, post_bind, post_map, post_some, post_nif, post_ifn, post_ifs, R.isBo, R.isOk, R.isOw, R.isD, ls_ls, eq_self, E.quiet, quiets, quietO, It.quiet, Option.bind_some, Option.map_some, Option.bind_none, Option.map_none, Bool.false_and, Bool.and_false, Bool.true_and, Bool.and_true, Bool.not_true, Bool.not_false, Bool.false_eq_true, if_true, if_false, ite_true, ite_false, reduceIte, eq_int, lt_int, le_int, add_int, sub_int, mul_int, neg_int, div_int, mod_int, pow_int, List.take_zero, List.drop_zero, List.all_cons, List.all_nil, List.any_cons, List.any_nil, List.set_cons_zero, List.set_cons_succ, not_true_eq_false, not_false_eq_true, true_and, and_true, biF, un1, intF, absF, setR, setRs, frz_lst, frz_d, frz_no, frz_fr, Bool.or_false, Bool.false_or, R.toM, sz1, sz2, sz3, sz4, sz5, sz6, sz7, sz8, sz9, sz10, tru_bl, decide_eq_true_eq, Nat.zero_le, List.map_cons, List.map_nil, List.length_cons, List.length_nil, itemsF, reads_bo]; rw [List.map_map]) rfl rfl (fun p hp => ⟨[.int n, .tup (ties.map tieP), .lst (zs.map .int), .lst (h.map pairP), .d (tieP t), .tup (p.1.map I), .int p.2], rfl, rfl, by
        have hpl := hlen p hp
        obtain ⟨⟨r, r0⟩, e, hr⟩ := s11 (flat := p.1) (t := t) (by omega) (by omega) (by omega)
        cases hr
        simp only [Ev.exec, ev, evs, evO, evTO, evAnd, evOr, evIt, seq2, asT, asB, asI, binF, cmpF, at0, at1, post_bind, post_map, post_some, post_nif, post_ifn, post_ifs, R.isBo, R.isOk, R.isOw, R.isD, ls_ls, eq_self, E.quiet, quiets, quietO, It.quiet, Option.bind_some, Option.map_some, Option.bind_none, Option.map_none, Bool.false_and, Bool.and_false, Bool.true_and, Bool.and_true, Bool.not_true, Bool.not_false, Bool.false_eq_true, if_true, if_false, ite_true, ite_false, reduceIte, eq_int, lt_int, le_int, add_int, sub_int, mul_int, neg_int, div_int, mod_int, pow_int, List.take_zero, List.drop_zero, List.all_cons, List.all_nil, List.any_cons, List.any_nil, List.set_cons_zero, List.set_cons_succ, not_true_eq_false, not_false_eq_true, true_and, and_true, biF, un1, intF, absF, setR, setRs, frz_lst, frz_d, frz_no, frz_fr, Bool.or_false, Bool.false_or, R.toM, sz1, sz2, sz3, sz4, sz5, sz6, sz7, sz8, sz9, sz10, tru_bl, decide_eq_true_eq, Nat.zero_le, List.map_cons, List.map_nil, List.length_cons, List.length_nil, g11, e, mapM2]
        rfl⟩) (by rw [sizeLine_eq]; omega)
    rw [fm_map] at hc
    have e3 : h.map (fun p => M.d (pairP (drawF p.1 t.1 t.2, -p.2))) = ((h.map fun p => (drawF p.1 t.1 t.2, -p.2)).map pairP).map M.d := by rw [List.map_map, List.map_map]; rfl
    rw [e3] at hc
    have e4 : addF (.bo (.ls ((h.map pairP).map M.d))) (.ow (.ls (((h.map fun p => (drawF p.1 t.1 t.2, -p.2)).map pairP).map M.d))) = some (.lst ((stepH h t).map pairP)) := by
      rw [stepH, List.map_append]
      exact addl_ow (c := true) (leafs_bo _) (leafs_lst _) (by rw [List.length_map, List.length_map, List.length_map, sizeLine_eq]; omega)
    have hn3 : ev T (.nm 3) [.int n, .tup (ties.map tieP), .lst (zs.map .int), .lst (h.map pairP), .d (tieP t), .no, .no] = some (.bo (.ls ((h.map pairP).map M.d)), [.int n, .tup (ties.map tieP), .lst (zs.map .int), .lst (h.map pairP), .d (tieP t), .no, .no]) := by simp only [ev, at0, at1]
    rw [Ev.exec, ev, seq2, hn3, Option.bind_some]
    dsimp only
    rw [hc]
    simp only [Ev.exec, ev, evs, evO, evTO, evAnd, evOr, evIt, seq2, asT, asB, asI, binF, cmpF, at0, at1, post_bind, post_map, post_some, post_nif, post_ifn, post_ifs, R.isBo, R.isOk, R.isOw, R.isD, ls_ls, eq_self, E.quiet, quiets, quietO, It.quiet, Option.bind_some, Option.map_some, Option.bind_none, Option.map_none, Bool.false_and, Bool.and_false, Bool.true_and, Bool.and_true, Bool.not_true, Bool.not_false, Bool.false_eq_true, if_true, if_false, ite_true, ite_false, reduceIte, eq_int, lt_int, le_int, add_int, sub_int, mul_int, neg_int, div_int, mod_int, pow_int, List.take_zero, List.drop_zero, List.all_cons, List.all_nil, List.any_cons, List.any_nil, List.set_cons_zero, List.set_cons_succ, not_true_eq_false, not_false_eq_true, true_and, and_true, biF, un1, intF, absF, setR, setRs, frz_lst, frz_d, frz_no, frz_fr, Bool.or_false, Bool.false_or, R.toM, sz1, sz2, sz3, sz4, sz5, sz6, sz7, sz8, sz9, sz10, tru_bl, decide_eq_true_eq, Nat.zero_le, List.map_cons, List.map_nil, List.length_cons, List.length_nil, backE, wipeE, e4, run_nil]
    refine ⟨stepH h t, _, rfl, he, by rw [stepH, List.length_append, List.length_map]; exact hs', fun p hp => ?_, fun q hq => hps q (List.mem_cons_of_mem _ hq)⟩
    rcases List.mem_append.mp hp with q | q
    · exact hlen p q
    · obtain ⟨p', hp', rfl⟩ := List.mem_map.mp q
      show (drawF p'.1 t.1 t.2).length = m
      rw [drawF_len]
      exact hlen p' hp'
  · rw [List.length_singleton, Nat.one_mul]
    exact Nat.pow_le_pow_right (by decide) hl
  rintro ⟨o, ρ⟩ ⟨ho, h, r4, he2, he, _, hlen, _⟩
  cases ho
  dsimp only at he2
  subst he2
  refine ⟨rfl, ?_⟩
  rw [List.foldl_nil] at he
  subst he
  apply run_cons
  simp only [Ev.exec, ev, evs, evO, evTO, evAnd, evOr, evIt, seq2, asT, asB, asI, binF, cmpF, at0, at1, post_bind, post_map, post_some, post_nif, post_ifn, post_ifs, R.isBo, R.isOk, R.isOw, R.isD, ls_ls, eq_self, E.quiet, quiets, quietO, It.quiet, Option.bind_some, Option.map_some, Option.bind_none, Option.map_none, Bool.false_and, Bool.and_false, Bool.true_and, Bool.and_true, Bool.not_true, Bool.not_false, Bool.false_eq_true, if_true, if_false, ite_true, ite_false, reduceIte, eq_int, lt_int, le_int, add_int, sub_int, mul_int, neg_int, div_int, mod_int, pow_int, List.take_zero, List.drop_zero, List.all_cons, List.all_nil, List.any_cons, List.any_nil, List.set_cons_zero, List.set_cons_succ, not_true_eq_false, not_false_eq_true, true_and, and_true, biF, un1, intF, absF, setR, setRs, frz_lst, frz_d, frz_no, frz_fr, Bool.or_false, Bool.false_or, R.toM, sz1, sz2, sz3, sz4, sz5, sz6, sz7, sz8, sz9, sz10, tru_bl, decide_eq_true_eq, Nat.zero_le, List.map_cons, List.map_nil, List.length_cons, List.length_nil]
  apply run_cons
  simp only [Ev.exec, ev, evs, evO, evTO, evAnd, evOr, evIt, seq2, asT, asB, asI, binF, cmpF, at0, at1, post_bind, post_map, post_some, post_nif, post_ifn, post_ifs, R.isBo, R.isOk, R.isOw, R.isD, ls_ls, eq_self, E.quiet, quiets, quietO, It.quiet, Option.bind_some, Option.map_some, Option.bind_none, Option.map_none, Bool.false_and, Bool.and_false, Bool.true_and, Bool.and_true, Bool.not_true, Bool.not_false, Bool.false_eq_true, if_true, if_false, ite_true, ite_false, reduceIte, eq_int, lt_int, le_int, add_int, sub_int, mul_int, neg_int, div_int, mod_int, pow_int, List.take_zero, List.drop_zero, List.all_cons, List.all_nil, List.any_cons, List.any_nil, List.set_cons_zero, List.set_cons_succ, not_true_eq_false, not_false_eq_true, true_and, and_true, biF, un1, intF, absF, setR, setRs, frz_lst, frz_d, frz_no, frz_fr, Bool.or_false, Bool.false_or, R.toM, sz1, sz2, sz3, sz4, sz5, sz6, sz7, sz8, sz9, sz10, tru_bl, decide_eq_true_eq, Nat.zero_le, List.map_cons, List.map_nil, List.length_cons, List.length_nil, itemsF, reads_dl]
  rw [List.map_map]
  refine post_mono (forGo_map (R.d ∘ pairP) (fun ps ρ => ∃ (f : List Int) (r5 r6 : R), ρ = [.int n, .tup (ties.map tieP), .lst (f.map .int), .d (.list ((hereF m ties).map pairP)), r4, r5, r6] ∧ f.length = m + 1 ∧ ps.foldl updH f = (hereF m ties).foldl updH zs ∧ ∀ p ∈ ps, p.1.length = m)
    ?_ (hereF m ties) _ ⟨zs, _, _, rfl, hzl, rfl, hlen⟩) ?_
  · rintro p ps ρ ⟨f, r5, r6, rfl, hf, he, hps⟩
    have hpl := hps p List.mem_cons_self
    have hle := many_le p.1
    obtain ⟨j, hj1, hj2⟩ := lset_I (l := p.1) (by omega)
    have e2 := at_int (f := f) (k := j) (j := many p.1) hj2 (by omega)
    have e3 := put_int (f := f) (k := j) (j := many p.1) hj2 (by omega) (f.getD (many p.1) 0 + p.2) 2 [.int n, .tup (ties.map tieP), .lst (f.map .int), .d (.list ((hereF m ties).map pairP)), r4, .tup (p.1.map I), .int p.2] rfl
    have e4 : tgF (.tup [5, 6]) (.d (pairP p)) [.int n, .tup (ties.map tieP), .lst (f.map .int), .d (.list ((hereF m ties).map pairP)), r4, r5, r6] = some [.int n, .tup (ties.map tieP), .lst (f.map .int), .d (.list ((hereF m ties).map pairP)), r4, .tup (p.1.map I), .int p.2] := rfl
    rw [Function.comp_apply, e4, post_some]
    apply run_cons
    simp only [Ev.exec, ev, evs, evO, evTO, evAnd, evOr, evIt, seq2, asT, asB, asI, binF, cmpF, at0, at1, post_bind, post_map, post_some, post_nif, post_ifn, post_ifs, R.isBo, R.isOk, R.isOw, R.isD, ls_ls, eq_self, E.quiet, quiets, quietO, It.quiet, Option.bind_some, Option.map_some, Option.bind_none, Option.map_none, Bool.false_and, Bool.and_false, Bool.true_and, Bool.and_true, Bool.not_true, Bool.not_false, Bool.false_eq_true, if_true, if_false, ite_true, ite_false, reduceIte, eq_int, lt_int, le_int, add_int, sub_int, mul_int, neg_int, div_int, mod_int, pow_int, List.take_zero, List.drop_zero, List.all_cons, List.all_nil, List.any_cons, List.any_nil, List.set_cons_zero, List.set_cons_succ, not_true_eq_false, not_false_eq_true, true_and, and_true, biF, un1, intF, absF, setR, setRs, frz_lst, frz_d, frz_no, frz_fr, Bool.or_false, Bool.false_or, R.toM, sz1, sz2, sz3, sz4, sz5, sz6, sz7, sz8, sz9, sz10, tru_bl, decide_eq_true_eq, Nat.zero_le, List.map_cons, List.map_nil, List.length_cons, List.length_nil, hj1, e2, e3, run_nil]
    exact ⟨_, _, _, rfl, by rw [List.length_set]; exact hf, he, fun q hq => hps q (List.mem_cons_of_mem _ hq)⟩
  rintro ⟨o, ρ⟩ ⟨ho, f, r5, r6, he2, hf, he, _⟩
  cases ho
  dsimp only at he2
  subst he2
  refine ⟨rfl, ?_⟩
  rw [List.foldl_nil] at he
  subst he
  apply run_ret
  simp only [Ev.exec, ev, evs, evO, evTO, evAnd, evOr, evIt, seq2, asT, asB, asI, binF, cmpF, at0, at1, post_bind, post_map, post_some, post_nif, post_ifn, post_ifs, R.isBo, R.isOk, R.isOw, R.isD, ls_ls, eq_self, E.quiet, quiets, quietO, It.quiet, Option.bind_some, Option.map_some, Option.bind_none, Option.map_none, Bool.false_and, Bool.and_false, Bool.true_and, Bool.and_true, Bool.not_true, Bool.not_false, Bool.false_eq_true, if_true, if_false, ite_true, ite_false, reduceIte, eq_int, lt_int, le_int, add_int, sub_int, mul_int, neg_int, div_int, mod_int, pow_int, List.take_zero, List.drop_zero, List.all_cons, List.all_nil, List.any_cons, List.any_nil, List.set_cons_zero, List.set_cons_succ, not_true_eq_false, not_false_eq_true, true_and, and_true, biF, un1, intF, absF, setR, setRs, frz_lst, frz_d, frz_no, frz_fr, Bool.or_false, Bool.false_or, R.toM, sz1, sz2, sz3, sz4, sz5, sz6, sz7, sz8, sz9, sz10, tru_bl, decide_eq_true_eq, Nat.zero_le, List.map_cons, List.map_nil, List.length_cons, List.length_nil, reads_bo]
  exact ⟨_, rfl, rfl⟩
end LK57
end
section
set_option Elab.async false
set_option linter.all false
set_option maxRecDepth 100000
namespace LK57
open PySem L2 Ev
/-! ### the defs' plain values, and graphs -/
structure Web (m : Nat) (ties : List (Nat × Nat)) : Prop where
  ok : ∀ t ∈ ties, t.1 < t.2 ∧ t.2 < m
  nd : ties.Nodup
  few : ties.length ≤ 10
def tp (ties : List (Nat × Nat)) (p : Nat) : Nat × Nat := ties.getD p (0, 0)
variable {m : Nat} {ties : List (Nat × Nat)}
theorem Web.at_ (w : Web m ties) {p : Nat} (h : p < ties.length) : (tp ties p).1 < (tp ties p).2 ∧ (tp ties p).2 < m := w.ok _ (getD_mem h)
theorem Web.lt (w : Web m ties) : ∀ t ∈ ties, t.1 < m ∧ t.2 < m := fun t h => ⟨Nat.lt_trans (w.ok t h).1 (w.ok t h).2, (w.ok t h).2⟩
theorem Web.inj (w : Web m ties) {p q : Nat} (hp : p < ties.length) (hq : q < ties.length) (e : tp ties p = tp ties q) : p = q := by
  unfold tp at e
  rw [List.getD_eq_getElem?_getD, List.getD_eq_getElem?_getD, List.getElem?_eq_getElem hp, List.getElem?_eq_getElem hq] at e
  exact (List.getElem_inj w.nd).mp e
theorem two_set {l : List Nat} {a b x : Nat} (ha : a < l.length) (hb : b < l.length) (hab : a ≠ b) : ((l.set a (l.getD a 0 + 1)).set b (l.getD b 0 + 1)).getD x 0 = (if a = x then 1 else 0) + (if b = x then 1 else 0) + l.getD x 0 := by
  rw [List.getD_eq_getElem?_getD, List.getElem?_set]
  by_cases h1 : b = x
  · subst h1
    rw [if_pos rfl, if_pos (by rw [List.length_set]; exact hb), if_neg hab, if_pos rfl]
    show l.getD b 0 + 1 = _
    omega
  · rw [if_neg h1, if_neg h1, List.getElem?_set]
    by_cases h2 : a = x
    · subst h2
      rw [if_pos rfl, if_pos ha, if_pos rfl]
      show l.getD a 0 + 1 = _
      omega
    · rw [if_neg h2, if_neg h2, ← List.getD_eq_getElem?_getD]
      omega
theorem fold_round (w : Web m ties) : ∀ (lot : List Nat) (mn fl : List Nat), (∀ p ∈ lot, p < ties.length) → mn.length = m → (∀ x, (lot.foldl (stepR ties) (mn, fl)).1.getD x 0 = G57.deg (lot.map (tp ties)) x + mn.getD x 0) ∧ (lot.foldl (stepR ties) (mn, fl)).2 = (lot.map (tp ties)).foldl (fun fl e => G57.draw fl e.1 e.2) fl
  | [], mn, fl, _, _ => ⟨fun x => by show mn.getD x 0 = 0 + _; omega, rfl⟩
  | p :: lot, mn, fl, hp, hm => by
    have hpt := w.at_ (hp p List.mem_cons_self)
    have hm' : ((mn.set (tp ties p).1 (mn.getD (tp ties p).1 0 + 1)).set (tp ties p).2 (mn.getD (tp ties p).2 0 + 1)).length = m := by rw [List.length_set, List.length_set]; exact hm
    obtain ⟨h1, h2⟩ := fold_round w lot _ (drawF fl (tp ties p).1 (tp ties p).2) (fun q hq => hp q (List.mem_cons_of_mem _ hq)) hm'
    refine ⟨fun x => ?_, h2⟩
    have := h1 x
    rw [two_set (by omega) (by omega) (by omega)] at this
    show (lot.foldl (stepR ties) _).1.getD x 0 = (if (tp ties p).1 = x then 1 else 0) + (if (tp ties p).2 = x then 1 else 0) + G57.deg (lot.map (tp ties)) x + _
    rw [show (lot.foldl (stepR ties) (stepR ties (mn, fl) p)) = lot.foldl (stepR ties) ((mn.set (tp ties p).1 (mn.getD (tp ties p).1 0 + 1)).set (tp ties p).2 (mn.getD (tp ties p).2 0 + 1), drawF fl (tp ties p).1 (tp ties p).2) from rfl, this]
    omega
theorem deg_out : ∀ {E : List G57.Ed} {x : Nat}, (∀ e ∈ E, e.1 < m ∧ e.2 < m) → m ≤ x → G57.deg E x = 0
  | [], _, _, _ => rfl
  | e :: E, x, h, hx => by
    have he := h e List.mem_cons_self
    show (if e.1 = x then 1 else 0) + (if e.2 = x then 1 else 0) + G57.deg E x = 0
    rw [if_neg (by omega), if_neg (by omega), deg_out (fun f hf => h f (List.mem_cons_of_mem _ hf)) hx]
theorem Web.ed (w : Web m ties) {lot : List Nat} (h : ∀ p ∈ lot, p < ties.length) : ∀ e ∈ lot.map (tp ties), e.1 < m ∧ e.2 < m := fun e he => by
  obtain ⟨p, hp, rfl⟩ := List.mem_map.mp he
  have := w.at_ (h p hp)
  omega
theorem round_iff (w : Web m ties) {lot : List Nat} (h : ∀ p ∈ lot, p < ties.length) : roundF m ties lot = true ↔ lot ≠ [] ∧ G57.Round (lot.map (tp ties)) := by
  obtain ⟨h1, h2⟩ := fold_round w lot (List.replicate m 0) (List.range m) h List.length_replicate
  have hd : ∀ x, (lot.foldl (stepR ties) (List.replicate m 0, List.range m)).1.getD x 0 = G57.deg (lot.map (tp ties)) x := fun x => by
    rw [h1 x]
    have : (List.replicate m 0).getD x 0 = 0 := by
      rw [List.getD_eq_getElem?_getD, List.getElem?_replicate]
      split <;> rfl
    omega
  have fk := G57.flat_ok (w.ed h)
  unfold roundF
  rw [h2]
  show endR m _ (G57.flatOf m (lot.map (tp ties))) = true ↔ _
  generalize (lot.foldl (stepR ties) (List.replicate m 0, List.range m)).1 = mn at hd
  generalize G57.flatOf m (lot.map (tp ties)) = fl at fk
  unfold endR
  dsimp only
  have mem : ∀ x, x ∈ (List.range m).filter (fun x => decide (0 < mn.getD x 0)) ↔ x < m ∧ 0 < G57.deg (lot.map (tp ties)) x := fun x => by
    rw [List.mem_filter, List.mem_range, decide_eq_true_iff, hd]
  have memd : ∀ x, 0 < G57.deg (lot.map (tp ties)) x → x < m := fun x hx => by
    by_cases c : x < m
    · exact c
    · rw [deg_out (w.ed h) (by omega)] at hx; omega
  rw [Bool.and_eq_true, List.all_eq_true]
  constructor
  · rintro ⟨q1, q2⟩
    cases ht : (List.range m).filter (fun x => decide (0 < mn.getD x 0)) with
    | nil => rw [ht] at q1; cases q1
    | cons t0 ts =>
      have m0 := (mem t0).mp (by rw [ht]; exact List.mem_cons_self)
      rw [ht] at q2
      have key : ∀ x, 0 < G57.deg (lot.map (tp ties)) x → G57.deg (lot.map (tp ties)) x = 2 ∧ fl.getD x 0 = fl.getD t0 0 := fun x hx => by
        have := q2 x (by rw [← ht]; exact (mem x).mpr ⟨memd x hx, hx⟩)
        rw [Bool.and_eq_true, decide_eq_true_iff, decide_eq_true_iff, hd] at this
        exact this
      refine ⟨fun z => ?_, fun x => ?_, fun x y hx hy => ?_⟩
      · subst z
        exact absurd m0.2 (by show ¬ 0 < 0; omega)
      · by_cases c : 0 < G57.deg (lot.map (tp ties)) x
        · exact .inr (key x c).1
        · exact .inl (by omega)
      · exact (fk.iff (memd x (by omega)) (memd y (by omega))).mp ((key x (by omega)).2.trans (key y (by omega)).2.symm)
  · rintro ⟨q1, q2⟩
    cases lot with
    | nil => exact absurd rfl q1
    | cons p lot =>
      have hp := w.at_ (h p List.mem_cons_self)
      have d0 : 0 < G57.deg ((p :: lot).map (tp ties)) (tp ties p).1 := by
        show 0 < (if (tp ties p).1 = (tp ties p).1 then 1 else 0) + _ + _
        rw [if_pos rfl]; omega
      have in0 := (mem (tp ties p).1).mpr ⟨by omega, d0⟩
      cases ht : (List.range m).filter (fun x => decide (0 < mn.getD x 0)) with
      | nil => rw [ht] at in0; cases in0
      | cons t0 ts =>
        have m0 := (mem t0).mp (by rw [ht]; exact List.mem_cons_self)
        refine ⟨rfl, fun x hx => ?_⟩
        have mx := (mem x).mp (by rw [ht]; exact hx)
        rw [Bool.and_eq_true, decide_eq_true_iff, decide_eq_true_iff, hd]
        refine ⟨?_, (fk.iff mx.1 m0.1).mpr (q2.c x t0 (by omega) (by show G57.deg _ _ ≠ 0; omega))⟩
        rcases q2.d x with z | z
        · omega
        · exact z
/-- a round has three ties at least -/
theorem round_len (w : Web m ties) {lot : List Nat} (h : ∀ p ∈ lot, p < ties.length) (nd : lot.Nodup) (h0 : lot ≠ []) (hr : G57.Round (lot.map (tp ties))) : 2 < lot.length := by
  match lot, h0 with
  | [p], _ =>
    have hp := w.at_ (h p List.mem_cons_self)
    have := hr.d (tp ties p).1
    exfalso
    rw [show G57.deg ([p].map (tp ties)) (tp ties p).1 = (if (tp ties p).1 = (tp ties p).1 then 1 else 0) + (if (tp ties p).2 = (tp ties p).1 then 1 else 0) + 0 from rfl, if_pos rfl, if_neg (by omega)] at this
    omega
  | [p, q], _ =>
    have hp := w.at_ (h p List.mem_cons_self)
    have hq := w.at_ (h q (by simp))
    have d1 := hr.d (tp ties p).1
    have d2 := hr.d (tp ties p).2
    exfalso
    rw [show G57.deg ([p, q].map (tp ties)) (tp ties p).1 = (if (tp ties p).1 = (tp ties p).1 then 1 else 0) + (if (tp ties p).2 = (tp ties p).1 then 1 else 0) + ((if (tp ties q).1 = (tp ties p).1 then 1 else 0) + (if (tp ties q).2 = (tp ties p).1 then 1 else 0) + 0) from rfl, if_pos rfl, if_neg (show ¬ (tp ties p).2 = (tp ties p).1 by omega)] at d1
    rw [show G57.deg ([p, q].map (tp ties)) (tp ties p).2 = (if (tp ties p).1 = (tp ties p).2 then 1 else 0) + (if (tp ties p).2 = (tp ties p).2 then 1 else 0) + ((if (tp ties q).1 = (tp ties p).2 then 1 else 0) + (if (tp ties q).2 = (tp ties p).2 then 1 else 0) + 0) from rfl, if_pos rfl, if_neg (show ¬ (tp ties p).1 = (tp ties p).2 by omega)] at d2
    have ne : tp ties q ≠ tp ties p := fun e => by
      have := w.inj (h q (by simp)) (h p List.mem_cons_self) e
      subst this
      simp at nd
    by_cases c1 : (tp ties q).1 = (tp ties p).1
    · by_cases c2 : (tp ties q).2 = (tp ties p).2
      · exact ne (Prod.ext c1 c2)
      · rw [if_neg (show ¬ (tp ties q).1 = (tp ties p).2 by omega), if_neg c2] at d2
        omega
    · rw [if_neg c1] at d1
      by_cases c2 : (tp ties q).2 = (tp ties p).1
      · rw [if_neg (show ¬ (tp ties q).1 = (tp ties p).2 by omega), if_neg (show ¬ (tp ties q).2 = (tp ties p).2 by omega)] at d2
        omega
      · rw [if_neg c2] at d1
        omega
  | p :: q :: r :: l, _ =>
    rw [List.length_cons, List.length_cons, List.length_cons]; omega
/-! ### all lots -/
theorem lots_mem : ∀ {k : Nat} {l : List Nat}, l ∈ lotsF k ↔ l.Pairwise (· < ·) ∧ ∀ x ∈ l, x < k
  | 0, l => by
    show l ∈ [[]] ↔ _
    rw [List.mem_singleton]
    constructor
    · rintro rfl
      exact ⟨.nil, fun x h => absurd h (by simp)⟩
    · rintro ⟨_, h⟩
      cases l with
      | nil => rfl
      | cons x l => exact absurd (h x List.mem_cons_self) (Nat.not_lt_zero _)
  | k + 1, l => by
    have e : lotsF (k + 1) = stepL (lotsF k) k := by
      unfold lotsF
      rw [List.range_succ, List.foldl_append]; rfl
    rw [e, stepL, List.mem_append, List.mem_map, lots_mem]
    constructor
    · rintro (⟨h1, h2⟩ | ⟨l', h', rfl⟩)
      · exact ⟨h1, fun x hx => Nat.lt_succ_of_lt (h2 x hx)⟩
      · obtain ⟨h1, h2⟩ := lots_mem.mp h'
        refine ⟨List.pairwise_append.mpr ⟨h1, List.pairwise_singleton _ _, fun a ha b hb => ?_⟩, fun x hx => ?_⟩
        · rw [List.mem_singleton.mp hb]; exact h2 a ha
        · rcases List.mem_append.mp hx with q | q
          · exact Nat.lt_succ_of_lt (h2 x q)
          · rw [List.mem_singleton.mp q]; exact Nat.lt_succ_self _
    · rintro ⟨h1, h2⟩
      by_cases c : k ∈ l
      · obtain ⟨a, b, rfl⟩ := List.append_of_mem c
        obtain ⟨p1, p2, p3⟩ := List.pairwise_append.mp h1
        cases b with
        | nil =>
          refine .inr ⟨a, lots_mem.mpr ⟨p1, fun x hx => p3 x hx k (by simp)⟩, rfl⟩
        | cons y b =>
          have q1 := (List.pairwise_cons.mp p2).1 y List.mem_cons_self
          have q2 := h2 y (by simp)
          omega
      · exact .inl ⟨h1, fun x hx => by
          have := h2 x hx
          have : x ≠ k := fun z => c (by rw [← z]; exact hx)
          omega⟩
theorem lots_nodup : ∀ k : Nat, (lotsF k).Nodup
  | 0 => by show ([[]] : List (List Nat)).Nodup; simp
  | k + 1 => by
    have e : lotsF (k + 1) = stepL (lotsF k) k := by
      unfold lotsF
      rw [List.range_succ, List.foldl_append]; rfl
    rw [e, stepL]
    refine List.nodup_append.mpr ⟨lots_nodup k, G57.nodup_map (fun a b e => List.append_cancel_right e) (lots_nodup k), fun a ha b hb z => ?_⟩
    subst z
    obtain ⟨l', _, rfl⟩ := List.mem_map.mp hb
    exact absurd ((lots_mem.mp ha).2 k (by simp)) (Nat.lt_irrefl _)
theorem lots_sub (k : Nat) : (lotsF k).Perm (G57.sub k k) :=
  (List.perm_ext_iff_of_nodup (lots_nodup k) (G57.nodup_sub (Nat.le_refl _))).mpr fun l => by
    rw [lots_mem, G57.mem_sub (Nat.le_refl _)]
    exact ⟨fun h => ⟨h.1, fun x hx => ⟨by omega, h.2 x hx⟩⟩, fun h => ⟨h.1, fun x hx => (h.2 x hx).2⟩⟩
end LK57
end
section
set_option Elab.async false
set_option linter.all false
set_option maxRecDepth 100000
namespace LK57
open PySem L2 Ev
variable {m : Nat} {ties : List (Nat × Nat)}
/-! ### unbroken -/
theorem rounds2_perm (w : Web m ties) : (rounds2 m ties).Perm (roundsF m ties) := by
  unfold rounds2 roundsF
  have e : (sortL (lotsF ties.length)).filter (fun l => decide (2 < l.length) && roundF m ties l) = (sortL (lotsF ties.length)).filter (roundF m ties) := by
    refine List.filter_congr fun l hl => ?_
    cases c : roundF m ties l with
    | false => rw [Bool.and_false]
    | true =>
      obtain ⟨h1, h2⟩ := lots_mem.mp ((sortL_perm _).mem_iff.mp hl)
      obtain ⟨q1, q2⟩ := (round_iff w h2).mp c
      rw [decide_eq_true (round_len w h2 (h1.imp fun z => Nat.ne_of_lt z) q1 q2)]; rfl
  rw [e]
  exact (sortL_perm _).filter _
def free (m : Nat) (ties : List (Nat × Nat)) (lot : List Nat) : Bool := !((roundsF m ties).map (·.drop 1)).any fun rest => rest.all fun x => lot.contains x
theorem unb_eq : unbF m ties = (lotsF ties.length).filter (free m ties) := rfl
theorem lunb_eq (w : Web m ties) : ((sortL (lotsF ties.length)).filter fun lot => !(brk2 m ties).any fun rest => rest.all fun x => lot.contains x) = sortL (unbF m ties) := by
  have e : ((sortL (lotsF ties.length)).filter fun lot => !(brk2 m ties).any fun rest => rest.all fun x => lot.contains x) = (sortL (lotsF ties.length)).filter (free m ties) := by
    refine List.filter_congr fun l _ => ?_
    unfold brk2 free
    rw [((rounds2_perm w).map (·.drop 1)).any_eq]
  rw [e, unb_eq]
  exact (sortL_filter (free m ties) (.refl _)).symm
theorem free_iff (w : Web m ties) {S : List Nat} (hS : S ∈ lotsF ties.length) : free m ties S = true ↔ G57.Alive (tp ties) ties.length ties.length S := by
  have hsub := fun l => (lots_sub ties.length).mem_iff (a := l)
  rw [G57.alive_iff (tp ties) (n := m) (fun p hp => by have := w.at_ hp; omega) (fun p hp => by have := w.at_ hp; omega) (fun p q hp hq e => w.inj hp hq e) ((hsub S).mp hS)]
  unfold free
  rw [Bool.not_eq_true']
  constructor
  · rintro h ⟨R, hR, h0, hr, hsb⟩
    have hR' := (hsub R).mpr hR
    have hlt := (lots_mem.mp hR').2
    have : (((roundsF m ties).map (·.drop 1)).any fun rest => rest.all fun x => S.contains x) = true :=
      List.any_eq_true.mpr ⟨R.drop 1, List.mem_map.mpr ⟨R, List.mem_filter.mpr ⟨hR', (round_iff w hlt).mpr ⟨h0, hr⟩⟩, rfl⟩, List.all_eq_true.mpr fun x hx => by simpa using hsb x hx⟩
    rw [this] at h
    cases h
  · intro h
    cases c : ((roundsF m ties).map (·.drop 1)).any fun rest => rest.all fun x => S.contains x with
    | false => rfl
    | true =>
      exfalso
      obtain ⟨rest, hr, ha⟩ := List.any_eq_true.mp c
      obtain ⟨R, hR, rfl⟩ := List.mem_map.mp hr
      obtain ⟨h1, h2⟩ := List.mem_filter.mp hR
      obtain ⟨q1, q2⟩ := (round_iff w (lots_mem.mp h1).2).mp h2
      exact h ⟨R, (hsub R).mp h1, q1, q2, fun x hx => by simpa using List.all_eq_true.mp ha x hx⟩
theorem unb_parts (w : Web m ties) {S : List Nat} (hS : S ∈ unbF m ties) : G57.parts m (G57.flatOf m (S.map (tp ties))) + S.length = m := by
  obtain ⟨h1, h2⟩ := List.mem_filter.mp (by rw [unb_eq] at hS; exact hS)
  exact G57.alive_parts (tp ties) (fun p hp => by have := w.at_ hp; omega) (Nat.le_refl _) ((lots_sub ties.length).mem_iff.mp h1) ((free_iff w h1).mp h2)
theorem unb_len (w : Web m ties) : ∀ S ∈ unbF m ties, S.length ≤ m := fun S hS => by have := unb_parts w hS; omega
/-! ### rows of numbers made by adding -/
theorem upd_len {α : Type} (ix : α → Nat) (v : α → Int) : ∀ (L : List α) (f : List Int), (L.foldl (fun f a => f.set (ix a) (f.getD (ix a) 0 + v a)) f).length = f.length
  | [], f => rfl
  | a :: L, f => by rw [List.foldl_cons, upd_len ix v L, List.length_set]
theorem upd_get {α : Type} (ix : α → Nat) (v : α → Int) (j : Nat) : ∀ (L : List α) (f : List Int), (∀ a ∈ L, ix a < f.length) → (L.foldl (fun f a => f.set (ix a) (f.getD (ix a) 0 + v a)) f).getD j 0 = f.getD j 0 + (L.map fun a => if ix a = j then v a else 0).sum
  | [], f, _ => by rw [List.map_nil, List.sum_nil, List.foldl_nil, Int.add_zero]
  | a :: L, f, h => by
    rw [List.foldl_cons, upd_get ix v j L _ fun b hb => by rw [List.length_set]; exact h b (List.mem_cons_of_mem _ hb), List.map_cons, List.sum_cons, List.getD_eq_getElem?_getD, List.getElem?_set]
    by_cases c : ix a = j
    · subst c
      rw [if_pos rfl, if_pos (h a List.mem_cons_self), if_pos rfl]
      show f.getD (ix a) 0 + v a + _ = _
      omega
    · rw [if_neg c, if_neg c, ← List.getD_eq_getElem?_getD]
      omega
theorem perm_sum {α : Type} (f : α → Int) {a b : List α} (p : a.Perm b) : (a.map f).sum = (b.map f).sum := by
  induction p with
  | nil => rfl
  | cons x _ ih => rw [List.map_cons, List.map_cons, List.sum_cons, List.sum_cons, ih]
  | swap x y l => rw [List.map_cons, List.map_cons, List.map_cons, List.map_cons, List.sum_cons, List.sum_cons, List.sum_cons, List.sum_cons]; omega
  | trans _ _ h1 h2 => exact h1.trans h2
theorem filter_sum {α : Type} (c : α → Bool) (f : α → Int) : ∀ L : List α, ((L.filter c).map f).sum = (L.map fun a => if c a = true then f a else 0).sum
  | [] => rfl
  | a :: L => by
    rw [List.map_cons, List.sum_cons, ← filter_sum c f L]
    by_cases h : c a = true
    · rw [List.filter_cons_of_pos h, if_pos h, List.map_cons, List.sum_cons]
    · rw [List.filter_cons_of_neg h, if_neg h]; omega
theorem getD_rep (k j : Nat) : (List.replicate k (0 : Int)).getD j 0 = 0 := by
  rw [List.getD_eq_getElem?_getD, List.getElem?_replicate]
  split <;> rfl
theorem row_ext {a b : List Int} (hl : a.length = b.length) (h : ∀ j, j < a.length → a.getD j 0 = b.getD j 0) : a = b := by
  refine List.ext_getElem hl fun j h1 h2 => ?_
  have := h j h1
  rw [List.getD_eq_getElem?_getD, List.getD_eq_getElem?_getD, List.getElem?_eq_getElem h1, List.getElem?_eq_getElem h2] at this
  exact this
theorem sgn_val (l : List Nat) : (1 : Int) - 2 * ((l.length : Int) % 2) = G57.sgn l := by
  unfold G57.sgn
  by_cases h : l.length % 2 = 0
  · rw [if_pos h]; omega
  · rw [if_neg h]; omega
theorem colF_eq (ls : List (List Nat)) : colF m ls = ls.foldl (fun f a => f.set (m - a.length) (f.getD (m - a.length) 0 + G57.sgn a)) (List.replicate (m + 1) 0) := by
  unfold colF
  congr 1
  funext f a
  rw [updC, ← sgn_val]
  congr 1
  omega
theorem colF_get (w : Web m ties) (j : Nat) : (colF m (unbF m ties)).getD j 0 = ((unbF m ties).map fun a => if m - a.length = j then G57.sgn a else 0).sum := by
  rw [colF_eq, upd_get (fun a : List Nat => m - a.length) G57.sgn j _ _ fun a _ => by rw [List.length_replicate]; omega, getD_rep, Int.zero_add]
theorem colF_len (ls : List (List Nat)) : (colF m ls).length = m + 1 := by
  rw [colF_eq, upd_len (fun a : List Nat => m - a.length) G57.sgn, List.length_replicate]
/-! ### the law's row -/
theorem here_eq : hereF m ties = (lotsF ties.length).map fun l => (G57.flatOf m (l.map (tp ties)), G57.sgn l) := by
  have key : ∀ (ps : List Nat) (f : List (List Nat)), (ps.map (tp ties)).foldl stepH (f.map fun l => (G57.flatOf m (l.map (tp ties)), G57.sgn l)) = (ps.foldl stepL f).map fun l => (G57.flatOf m (l.map (tp ties)), G57.sgn l) := by
    intro ps
    induction ps with
    | nil => intro f; rfl
    | cons p ps ih =>
      intro f
      rw [List.map_cons, List.foldl_cons, List.foldl_cons, ← ih]
      congr 1
      rw [stepH, stepL, List.map_append, List.map_map, List.map_map]
      congr 1
      refine List.map_congr_left fun l _ => ?_
      show (drawF (G57.flatOf m (l.map (tp ties))) (tp ties p).1 (tp ties p).2, -G57.sgn l) = (G57.flatOf m ((l ++ [p]).map (tp ties)), G57.sgn (l ++ [p]))
      have e1 : G57.flatOf m ((l ++ [p]).map (tp ties)) = drawF (G57.flatOf m (l.map (tp ties))) (tp ties p).1 (tp ties p).2 := by
        unfold G57.flatOf
        rw [List.map_append, List.foldl_append]; rfl
      have e2 : G57.sgn (l ++ [p]) = -G57.sgn l := by
        rw [← G57.sgn_cons p l]
        unfold G57.sgn
        rw [List.length_append, List.length_singleton, List.length_cons]
      rw [e1, e2]
  have e : ties = (List.range ties.length).map (tp ties) := by
    refine List.ext_getElem (by rw [List.length_map, List.length_range]) fun i h1 h2 => ?_
    rw [List.getElem_map, List.getElem_range]
    unfold tp
    rw [List.getD_eq_getElem?_getD, List.getElem?_eq_getElem h1]; rfl
  have := key (List.range ties.length) [[]]
  rw [← e] at this
  exact this
theorem many_parts {E : List G57.Ed} {fl : List Nat} (h : G57.FlatOk m E fl) : many fl = G57.parts m fl := by
  unfold many G57.parts
  rw [List.countP_eq_length_filter, ← dcnt_eq (L := ((List.range m).filter fun x => decide (fl.getD x 0 = x)).map fun x : Nat => (x : Int)) (G57.nodup_map (fun a b e => by omega) (List.nodup_range.filter _)) fun k => ?_, List.length_map]
  rw [List.mem_map, List.mem_map]
  constructor
  · rintro ⟨x, hx, rfl⟩
    obtain ⟨h1, h2⟩ := List.mem_filter.mp hx
    have hx' := List.mem_range.mp h1
    have := of_decide_eq_true h2
    refine ⟨x, ?_, rfl⟩
    have hm : fl.getD x 0 ∈ fl := getD_mem (by rw [h.len]; exact hx')
    rw [this] at hm
    exact hm
  · rintro ⟨x, hx, rfl⟩
    obtain ⟨i, hi, e⟩ := List.getElem_of_mem hx
    have e' : fl.getD i 0 = x := by rw [List.getD_eq_getElem?_getD, List.getElem?_eq_getElem hi]; exact e
    have him : i < m := by rw [← h.len]; exact hi
    refine ⟨x, List.mem_filter.mpr ⟨List.mem_range.mpr ?_, decide_eq_true ?_⟩, rfl⟩
    · have := h.le i him
      omega
    · have := h.fix him
      rw [e'] at this
      exact this
open Classical in
noncomputable def cls (m : Nat) (ties : List (Nat × Nat)) (S : List Nat) : Nat := (List.range m).countP fun x => decide (∀ y, y < x → ¬ G57.Conn (S.map (tp ties)) x y)
open Classical in
theorem cls_eq {S : List Nat} {fl : List Nat} (h : G57.FlatOk m (S.map (tp ties)) fl) : cls m ties S = G57.parts m fl := by
  unfold cls G57.parts
  refine List.countP_congr fun x hx => ?_
  rw [decide_eq_true_iff, decide_eq_true_iff, h.least (List.mem_range.mp hx)]
open Classical in
theorem cls_congr {S S' : List Nat} (h : ∀ x y, G57.Conn (S.map (tp ties)) x y ↔ G57.Conn (S'.map (tp ties)) x y) : cls m ties S = cls m ties S' := by
  unfold cls
  refine List.countP_congr fun x hx => ?_
  rw [decide_eq_true_iff, decide_eq_true_iff]
  exact ⟨fun q y hy z => q y hy ((h x y).mpr z), fun q y hy z => q y hy ((h x y).mp z)⟩
open Classical in
/-- Whitney: both rows are the same -/
theorem whitney (w : Web m ties) : (hereF m ties).foldl updH (List.replicate (m + 1) 0) = colF m (unbF m ties) := by
  have hfl : ∀ l ∈ lotsF ties.length, G57.FlatOk m (l.map (tp ties)) (G57.flatOf m (l.map (tp ties))) := fun l hl => G57.flat_ok (w.ed (lots_mem.mp hl).2)
  have hu : (hereF m ties).foldl updH (List.replicate (m + 1) 0) = (hereF m ties).foldl (fun f a => f.set (many a.1) (f.getD (many a.1) 0 + a.2)) (List.replicate (m + 1) 0) := rfl
  have hb : ∀ a ∈ hereF m ties, many a.1 < (List.replicate (m + 1) (0 : Int)).length := fun a ha => by
    rw [here_eq] at ha
    obtain ⟨l, hl, rfl⟩ := List.mem_map.mp ha
    have := many_le (G57.flatOf m (l.map (tp ties)))
    rw [(hfl l hl).len] at this
    rw [List.length_replicate]
    show many (G57.flatOf m (l.map (tp ties))) < m + 1
    omega
  refine row_ext (by rw [hu, upd_len (fun a : List Nat × Int => many a.1) (·.2), colF_len, List.length_replicate]) fun j _ => ?_
  rw [hu, upd_get (fun a : List Nat × Int => many a.1) (·.2) j _ _ hb, getD_rep, Int.zero_add, colF_get w, here_eq, List.map_map, unb_eq, filter_sum]
  have e1 : ((lotsF ties.length).map ((fun a : List Nat × Int => if many a.1 = j then a.2 else 0) ∘ fun l => (G57.flatOf m (l.map (tp ties)), G57.sgn l))).sum
      = ((lotsF ties.length).map fun S => G57.sgn S * (if cls m ties S = j then 1 else 0)).sum := by
    congr 1
    refine List.map_congr_left fun l hl => ?_
    show (if many (G57.flatOf m (l.map (tp ties))) = j then G57.sgn l else 0) = _
    rw [many_parts (hfl l hl), ← cls_eq (hfl l hl)]
    split
    · rw [Int.mul_one]
    · rw [Int.mul_zero]
  have e2 : ((lotsF ties.length).map fun a => if free m ties a = true then (if m - a.length = j then G57.sgn a else 0) else 0).sum
      = ((lotsF ties.length).map fun S => if G57.Alive (tp ties) ties.length ties.length S then G57.sgn S * (if cls m ties S = j then 1 else 0) else 0).sum := by
    congr 1
    refine List.map_congr_left fun l hl => ?_
    by_cases c : free m ties l = true
    · rw [if_pos c, if_pos ((free_iff w hl).mp c)]
      have := unb_parts w (S := l) (by rw [unb_eq]; exact List.mem_filter.mpr ⟨hl, c⟩)
      rw [← cls_eq (hfl l hl)] at this
      by_cases d : m - l.length = j
      · rw [if_pos d, if_pos (by omega), Int.mul_one]
      · rw [if_neg d, if_neg (by omega), Int.mul_zero]
    · rw [if_neg c, if_neg fun z => c ((free_iff w hl).mpr z)]
  rw [e1, e2, perm_sum _ (lots_sub ties.length), perm_sum _ (lots_sub ties.length)]
  exact G57.cancel (tp ties) (fun S => if cls m ties S = j then 1 else 0) (Nat.le_refl _) fun S S' h => by rw [cls_congr h]
end LK57
end
section
set_option Elab.async false
set_option linter.all false
set_option maxRecDepth 100000
namespace LK57
open PySem L2 Ev
variable {m : Nat} {ties : List (Nat × Nat)}
/-! ### drawn ties -/
theorem Web.perm {ties' : List (Nat × Nat)} (w : Web m ties) (p : ties'.Perm ties) : Web m ties' :=
  ⟨fun t h => w.ok t (p.mem_iff.mp h), p.symm.nodup w.nd, by rw [p.length_eq]; exact w.few⟩
theorem map_perm_inv {α β : Type} (f : α → β) : ∀ {ys zs : List β}, ys.Perm zs → ∀ xs : List α, zs = xs.map f → ∃ xs' : List α, ys = xs'.map f ∧ xs'.Perm xs := by
  intro ys zs h
  induction h with
  | nil => intro xs e; refine ⟨[], rfl, ?_⟩; cases xs with | nil => exact .nil | cons _ _ => cases e
  | cons a _ ih =>
    intro xs e
    cases xs with
    | nil => cases e
    | cons x xs =>
      rw [List.map_cons] at e
      injection e with e1 e2
      obtain ⟨xs', e3, p⟩ := ih xs e2
      exact ⟨x :: xs', by rw [e1, e3, List.map_cons], p.cons x⟩
  | swap a b l =>
    intro xs e
    match xs, e with
    | x :: y :: xs, e =>
      rw [List.map_cons, List.map_cons] at e
      injection e with e1 e2
      injection e2 with e3 e4
      exact ⟨y :: x :: xs, by rw [e1, e3, e4, List.map_cons, List.map_cons], .swap x y xs⟩
  | trans _ _ ih1 ih2 =>
    intro xs e
    obtain ⟨xs1, e1, p1⟩ := ih2 xs e
    obtain ⟨xs2, e2, p2⟩ := ih1 xs1 e1
    exact ⟨xs2, e2, p2.trans p1⟩
theorem sort_ties (ts : List (Nat × Nat)) : ∃ ts' : List (Nat × Nat), ts'.Perm ts ∧ sortF (ts.map tieP) = some (ts'.map tieP) := by
  have e : ∀ us : List (Nat × Nat), us.map tieP = (us.map fun t => [t.1, t.2]).map tupN := fun us => by rw [List.map_map]; rfl
  obtain ⟨ts', e2, p⟩ := map_perm_inv (fun t : Nat × Nat => [t.1, t.2]) (sortL_perm (ts.map fun t => [t.1, t.2])) ts rfl
  exact ⟨ts', p, by rw [e, sort_tups, e2, e]⟩
def pairsF (m a : Nat) : List (Nat × Nat) := (List.range' (a + 1) (m - (a + 1))).map fun b => (a, b)
def allP (m : Nat) : List (Nat × Nat) := (List.range m).flatMap (pairsF m)
def okP (m : Nat) : Bool := (allP m).all (fun t => decide (t.1 < t.2 ∧ t.2 < m)) && decide (allP m).Nodup && decide ((allP m).length ≤ 28)
theorem allP_ok {m : Nat} (h : m ≤ 8) : (∀ t ∈ allP m, t.1 < t.2 ∧ t.2 < m) ∧ (allP m).Nodup ∧ (allP m).length ≤ 28 := by
  have k : okP m = true := by
    have : m = 0 ∨ m = 1 ∨ m = 2 ∨ m = 3 ∨ m = 4 ∨ m = 5 ∨ m = 6 ∨ m = 7 ∨ m = 8 := by omega
    rcases this with rfl | rfl | rfl | rfl | rfl | rfl | rfl | rfl | rfl <;> decide +kernel
  unfold okP at k
  simp only [Bool.and_eq_true, decide_eq_true_eq, List.all_eq_true] at k
  exact ⟨k.1.1, k.1.2, k.2⟩
theorem rgL_from {m a : Nat} {n k : Int} (hn : n = m) (hk : k = (a : Int) + 1) : rgL k n = (List.range' (a + 1) (m - (a + 1))).map I := by
  unfold rgL
  rw [List.range'_eq_map_range, List.map_map, show (n - k).toNat = m - (a + 1) by omega]
  refine List.map_congr_left fun i _ => ?_
  show PyData.int (k + (i : Int)) = PyData.int ((a + 1 + i : Nat) : Int)
  congr 1
  omega
theorem erase_map {α β : Type} (f : α → β) : ∀ (l : List α) (i : Nat), (l.map f).eraseIdx i = (l.eraseIdx i).map f
  | [], i => rfl
  | a :: l, 0 => rfl
  | a :: l, i + 1 => by
    show f a :: (l.map f).eraseIdx i = f a :: (l.eraseIdx i).map f
    rw [erase_map f l i]
theorem erase_perm {α : Type} : ∀ {l : List α} {j : Nat} {x : α}, l[j]? = some x → (x :: l.eraseIdx j).Perm l
  | [], j, x, h => by simp at h
  | a :: l, 0, x, h => by
    have : a = x := by simpa using h
    rw [this]; exact .refl _
  | a :: l, j + 1, x, h => by
    rw [List.eraseIdx_cons_succ]
    exact (List.Perm.swap a x _).trans ((erase_perm (by simpa using h)).cons a)
theorem ties_gen {m : Nat} {n most : Int} (hn : n = m) (hm : m ≤ 8) (h0 : 0 ≤ most) (h1 : most ≤ 6) {b : M} (hb : BagOk b) {T : Tbl} {D9 : Fd} (g9 : T[9]? = some D9) (i9 : D9.io = true)
    (s9 : ∀ {m : M} {k : Int}, BagOk m → 0 < k → k.natAbs.log2 < 9000 → Post (D9.g [.ow m, .int k]) fun r => ∃ i m', r = (.int i, .ow m') ∧ 0 ≤ i ∧ i < k ∧ BagOk m') :
    Post (evDef T 9 b10 [.ow b, .int n, .int most]) fun r => ∃ b' ties, r = (.tup (List.map tieP ties), .ow b') ∧ Web m ties ∧ BagOk b' := by
  obtain ⟨hok, hnd, hlen⟩ := allP_ok hm
  apply def_run
  show Post (execs T b10 [.ow b, .int n, .int most, .no, .no, .no, .no, .no, .no]) _
  unfold b10
  apply run_cons
  simp only [Ev.exec, ev, evs, evO, evTO, evAnd, evOr, evIt, seq2, asT, asB, asI, binF, cmpF, at0, at1, post_bind, post_map, post_some, post_nif, post_ifn, post_ifs, R.isBo, R.isOk, R.isOw, R.isD, ls_ls, eq_self, E.quiet, quiets, quietO, It.quiet, Option.bind_some, Option.map_some, Option.bind_none, Option.map_none, Bool.false_and, Bool.and_false, Bool.true_and, Bool.and_true, Bool.not_true, Bool.not_false, Bool.false_eq_true, if_true, if_false, ite_true, ite_false, reduceIte, eq_int, lt_int, le_int, add_int, sub_int, mul_int, neg_int, div_int, mod_int, pow_int, List.take_zero, List.drop_zero, List.all_cons, List.all_nil, List.any_cons, List.any_nil, List.set_cons_zero, List.set_cons_succ, not_true_eq_false, not_false_eq_true, true_and, and_true, biF, un1, intF, absF, setR, setRs, frz_lst, frz_d, frz_no, frz_fr, Bool.or_false, Bool.false_or, R.toM, sz1, sz2, sz3, sz4, sz5, sz6, sz7, sz8, sz9, sz10, tru_bl, decide_eq_true_eq, Nat.zero_le, List.map_cons, List.map_nil, List.length_cons, List.length_nil]
  apply run_cons
  rw [Ev.exec]
  have hit2 : evIt T (.rg [.nm 1]) [.ow b, .int n, .int most, .ow (.ls []), .no, .no, .no, .no, .no] = some (⟨(List.range m).map (R.d ∘ I), false⟩, [.ow b, .int n, .int most, .ow (.ls []), .no, .no, .no, .no, .no]) := by
    have hb : -(2 ^ 62) ≤ n ∧ n < 2 ^ 62 := by omega
    simp only [Ev.exec, ev, evs, evO, evTO, evAnd, evOr, evIt, seq2, asT, asB, asI, binF, cmpF, at0, at1, post_bind, post_map, post_some, post_nif, post_ifn, post_ifs, R.isBo, R.isOk, R.isOw, R.isD, ls_ls, eq_self, E.quiet, quiets, quietO, It.quiet, Option.bind_some, Option.map_some, Option.bind_none, Option.map_none, Bool.false_and, Bool.and_false, Bool.true_and, Bool.and_true, Bool.not_true, Bool.not_false, Bool.false_eq_true, if_true, if_false, ite_true, ite_false, reduceIte, eq_int, lt_int, le_int, add_int, sub_int, mul_int, neg_int, div_int, mod_int, pow_int, List.take_zero, List.drop_zero, List.all_cons, List.all_nil, List.any_cons, List.any_nil, List.set_cons_zero, List.set_cons_succ, not_true_eq_false, not_false_eq_true, true_and, and_true, biF, un1, intF, absF, setR, setRs, frz_lst, frz_d, frz_no, frz_fr, Bool.or_false, Bool.false_or, R.toM, sz1, sz2, sz3, sz4, sz5, sz6, sz7, sz8, sz9, sz10, tru_bl, decide_eq_true_eq, Nat.zero_le, List.map_cons, List.map_nil, List.length_cons, List.length_nil, rg1, hb]
    rw [rgL_nat hn, List.map_map]
  rw [hit2, Option.bind_some]
  refine post_mono (forGo_map (R.d ∘ I) (fun ps ρ => ∃ (f : List (Nat × Nat)) (r4 : R), ρ = [.ow b, .int n, .int most, .lst (f.map tieP), r4, .no, .no, .no, .no] ∧ f ++ ps.flatMap (pairsF m) = allP m ∧ ∀ p ∈ ps, p < m)
    ?_ (List.range m) _ ⟨[], _, rfl, rfl, fun p hp => List.mem_range.mp hp⟩) ?_
  · rintro a ps ρ ⟨f, r4, rfl, he, hps⟩
    simp only [tgF, Function.comp_apply, post_some, List.set_cons_succ, List.set_cons_zero]
    rw [List.flatMap_cons, ← List.append_assoc] at he
    have hle : (f ++ pairsF m a).length ≤ 28 := by
      have : (f ++ pairsF m a ++ ps.flatMap (pairsF m)).length ≤ 28 := by rw [he]; exact hlen
      rw [List.length_append] at this
      omega
    have ha := hps a List.mem_cons_self
    obtain ⟨a1, e4, ha1⟩ : ∃ a1 : Int, addF (.d (I a)) (.d (.int 1)) = some (.d (.int a1)) ∧ a1 = (a : Int) + 1 := ⟨_, addI a 1, by omega⟩
    have e3 : rgF [.d (.int a1), .d (.int n)] = some (a1, n) := by
      rw [rg2, if_pos (by omega)]
    apply run_cons
    have hc := ev_comp (T := T) (own := [("b", 8)]) (g := .nm 8) (it := .rg [.bin .Add (.nm 4) (.int 1), .nm 1]) (t := none) (e := .tup [.nm 4, .nm 8])
      (ρ := [.ow b, .int n, .int most, .lst (f.map tieP), .d (I a), .no, .no, .no, .no]) (ρ1 := [.ow b, .int n, .int most, .lst (f.map tieP), .d (I a), .no, .no, .no, .no]) (R.d ∘ I) (fun b => some (M.d (tieP (a, b)))) (List.range' (a + 1) (m - (a + 1))) false
      (by
        simp only [Ev.exec, ev, evs, evO, evTO, evAnd, evOr, evIt, seq2, asT, asB, asI, binF, cmpF, at0, at1, post_bind, post_map, post_some, post_nif, post_ifn, post_ifs, R.isBo, R.isOk, R.isOw, R.isD, ls_ls, eq_self, E.quiet, quiets, quietO, It.quiet, Option.bind_some, Option.map_some, Option.bind_none, Option.map_none, Bool.false_and, Bool.and_false, Bool.true_and, Bool.and_true, Bool.not_true, Bool.not_false, Bool.false_eq_true, if_true, if_false, ite_true, ite_false, reduceIte, eq_int, lt_int, le_int, add_int, sub_int, mul_int, neg_int, div_int, mod_int, pow_int, List.take_zero, List.drop_zero, List.all_cons, List.all_nil, List.any_cons, List.any_nil, List.set_cons_zero, List.set_cons_succ, not_true_eq_false, not_false_eq_true, true_and, and_true, biF, un1, intF, absF, setR, setRs, frz_lst, frz_d, frz_no, frz_fr, Bool.or_false, Bool.false_or, R.toM, sz1, sz2, sz3, sz4, sz5, sz6, sz7, sz8, sz9, sz10, tru_bl, decide_eq_true_eq, Nat.zero_le, List.map_cons, List.map_nil, List.length_cons, List.length_nil, e4, e3]
        rw [rgL_from hn ha1, List.map_map])
      rfl rfl (fun c hc => ⟨[.ow b, .int n, .int most, .lst (f.map tieP), .d (I a), .no, .no, .no, .d (I c)], rfl, rfl, by
        simp only [Ev.exec, ev, evs, evO, evTO, evAnd, evOr, evIt, seq2, asT, asB, asI, binF, cmpF, at0, at1, post_bind, post_map, post_some, post_nif, post_ifn, post_ifs, R.isBo, R.isOk, R.isOw, R.isD, ls_ls, eq_self, E.quiet, quiets, quietO, It.quiet, Option.bind_some, Option.map_some, Option.bind_none, Option.map_none, Bool.false_and, Bool.and_false, Bool.true_and, Bool.and_true, Bool.not_true, Bool.not_false, Bool.false_eq_true, if_true, if_false, ite_true, ite_false, reduceIte, eq_int, lt_int, le_int, add_int, sub_int, mul_int, neg_int, div_int, mod_int, pow_int, List.take_zero, List.drop_zero, List.all_cons, List.all_nil, List.any_cons, List.any_nil, List.set_cons_zero, List.set_cons_succ, not_true_eq_false, not_false_eq_true, true_and, and_true, biF, un1, intF, absF, setR, setRs, frz_lst, frz_d, frz_no, frz_fr, Bool.or_false, Bool.false_or, R.toM, sz1, sz2, sz3, sz4, sz5, sz6, sz7, sz8, sz9, sz10, tru_bl, decide_eq_true_eq, Nat.zero_le, List.map_cons, List.map_nil, List.length_cons, List.length_nil, mapM2]
        rfl⟩) (by rw [List.length_range', sizeLine_eq]; omega)
    have e5 : (List.range' (a + 1) (m - (a + 1))).map (fun b => M.d (tieP (a, b))) = ((pairsF m a).map tieP).map M.d := by
      unfold pairsF
      rw [List.map_map, List.map_map]
      rfl
    rw [fm_map, e5] at hc
    rw [List.length_append] at hle
    have e6 : (R.ow (.ls (((pairsF m a).map tieP).map M.d))).leafs = some (true, (pairsF m a).map tieP) := leafs_lst _
    have e7 : extL 3 (.ow (.ls (((pairsF m a).map tieP).map M.d))) [.ow b, .int n, .int most, .lst (f.map tieP), .d (I a), .no, .no, .no, .no] = some [.ow b, .int n, .int most, .lst ((f ++ pairsF m a).map tieP), .d (I a), .no, .no, .no, .no] := by
      unfold extL
      rw [e6]
      show (if ((f.map tieP).map M.d).length + ((pairsF m a).map tieP).length ≤ sizeLine then some (List.set ([.ow b, .int n, .int most, .lst (f.map tieP), .d (I a), .no, .no, .no, .no] : Ev.Env) 3 (.ow (.ls ((f.map tieP).map M.d ++ ((pairsF m a).map tieP).map M.d)))) else none) = _
      rw [if_pos (by rw [List.length_map, List.length_map, List.length_map, sizeLine_eq]; omega), ← List.map_append, ← List.map_append]
      rfl
    simp only [↓hc, Ev.exec, at0, at1, ls_ls, post_ifn, true_and, post_bind, post_map, post_some, wipeE, backE, List.map_cons, List.map_nil, List.set_cons_succ, List.set_cons_zero, e7, run_nil]
    exact ⟨_, _, rfl, he, fun q hq => hps q (List.mem_cons_of_mem _ hq)⟩
  rintro ⟨o, ρ⟩ ⟨ho, f, r4, he, hf, _⟩
  cases ho
  dsimp only at he
  subst he
  refine ⟨rfl, ?_⟩
  rw [List.flatMap_nil, List.append_nil] at hf
  subst hf
  apply run_cons
  simp only [Ev.exec, ev, evs, evO, evTO, evAnd, evOr, evIt, seq2, asT, asB, asI, binF, cmpF, at0, at1, post_bind, post_map, post_some, post_nif, post_ifn, post_ifs, R.isBo, R.isOk, R.isOw, R.isD, ls_ls, eq_self, E.quiet, quiets, quietO, It.quiet, Option.bind_some, Option.map_some, Option.bind_none, Option.map_none, Bool.false_and, Bool.and_false, Bool.true_and, Bool.and_true, Bool.not_true, Bool.not_false, Bool.false_eq_true, if_true, if_false, ite_true, ite_false, reduceIte, eq_int, lt_int, le_int, add_int, sub_int, mul_int, neg_int, div_int, mod_int, pow_int, List.take_zero, List.drop_zero, List.all_cons, List.all_nil, List.any_cons, List.any_nil, List.set_cons_zero, List.set_cons_succ, not_true_eq_false, not_false_eq_true, true_and, and_true, biF, un1, intF, absF, setR, setRs, frz_lst, frz_d, frz_no, frz_fr, Bool.or_false, Bool.false_or, R.toM, sz1, sz2, sz3, sz4, sz5, sz6, sz7, sz8, sz9, sz10, tru_bl, decide_eq_true_eq, Nat.zero_le, List.map_cons, List.map_nil, List.length_cons, List.length_nil, reads_bo]
  apply run_cons
  obtain ⟨j, hj1, hj2⟩ : ∃ j : Int, lenF (.bo (.ls (((allP m).map tieP).map M.d))) = some (.d (.int j)) ∧ j = (allP m).length := ⟨_, rfl, by rw [List.length_map, List.length_map]⟩
  obtain ⟨c, hc1, hc2⟩ : ∃ c : Int, min2F [.d (.int most), .d (.int j)] = some (.d (.int c)) ∧ 0 ≤ c ∧ c ≤ most ∧ c ≤ j := ⟨_, rfl, by split <;> omega⟩
  simp only [Ev.exec, ev, evs, evO, evTO, evAnd, evOr, evIt, seq2, asT, asB, asI, binF, cmpF, at0, at1, post_bind, post_map, post_some, post_nif, post_ifn, post_ifs, R.isBo, R.isOk, R.isOw, R.isD, ls_ls, eq_self, E.quiet, quiets, quietO, It.quiet, Option.bind_some, Option.map_some, Option.bind_none, Option.map_none, Bool.false_and, Bool.and_false, Bool.true_and, Bool.and_true, Bool.not_true, Bool.not_false, Bool.false_eq_true, if_true, if_false, ite_true, ite_false, reduceIte, eq_int, lt_int, le_int, add_int, sub_int, mul_int, neg_int, div_int, mod_int, pow_int, List.take_zero, List.drop_zero, List.all_cons, List.all_nil, List.any_cons, List.any_nil, List.set_cons_zero, List.set_cons_succ, not_true_eq_false, not_false_eq_true, true_and, and_true, biF, un1, intF, absF, setR, setRs, frz_lst, frz_d, frz_no, frz_fr, Bool.or_false, Bool.false_or, R.toM, sz1, sz2, sz3, sz4, sz5, sz6, sz7, sz8, sz9, sz10, tru_bl, decide_eq_true_eq, Nat.zero_le, List.map_cons, List.map_nil, List.length_cons, List.length_nil, hj1, hc1, g9, i9]
  refine post_mono (s9 hb (by omega) (by have := log_le (a := 3) (show (c + 1).natAbs < 2 ^ 3 by omega); omega)) ?_
  rintro ⟨r, r0⟩ ⟨k, b, e, k0, k1, hb⟩
  cases e
  simp only [Ev.exec, ev, evs, evO, evTO, evAnd, evOr, evIt, seq2, asT, asB, asI, binF, cmpF, at0, at1, post_bind, post_map, post_some, post_nif, post_ifn, post_ifs, R.isBo, R.isOk, R.isOw, R.isD, ls_ls, eq_self, E.quiet, quiets, quietO, It.quiet, Option.bind_some, Option.map_some, Option.bind_none, Option.map_none, Bool.false_and, Bool.and_false, Bool.true_and, Bool.and_true, Bool.not_true, Bool.not_false, Bool.false_eq_true, if_true, if_false, ite_true, ite_false, reduceIte, eq_int, lt_int, le_int, add_int, sub_int, mul_int, neg_int, div_int, mod_int, pow_int, List.take_zero, List.drop_zero, List.all_cons, List.all_nil, List.any_cons, List.any_nil, List.set_cons_zero, List.set_cons_succ, not_true_eq_false, not_false_eq_true, true_and, and_true, biF, un1, intF, absF, setR, setRs, frz_lst, frz_d, frz_no, frz_fr, Bool.or_false, Bool.false_or, R.toM, sz1, sz2, sz3, sz4, sz5, sz6, sz7, sz8, sz9, sz10, tru_bl, decide_eq_true_eq, Nat.zero_le, List.map_cons, List.map_nil, List.length_cons, List.length_nil, rg1]
  refine ⟨by omega, ?_⟩
  obtain ⟨q, hq⟩ : ∃ q : Nat, k = q := ⟨k.toNat, by omega⟩
  rw [rgL_nat hq, List.map_map]
  refine post_mono (forGo_map (R.d ∘ I) (fun ps ρ => ∃ (b : M) (l f : List (Nat × Nat)) (r5 : R), ρ = [.ow b, .int n, .int most, .lst ((allP m).map tieP), r4, r5, .lst (l.map tieP), .lst (f.map tieP), .no] ∧ BagOk b ∧ (f ++ l).Perm (allP m) ∧ ps.length ≤ l.length ∧ f.length + ps.length ≤ 6)
    ?_ (List.range q) _ ⟨b, allP m, [], _, rfl, hb, .refl _, by rw [List.length_range]; omega, by rw [List.length_range, List.length_nil]; omega⟩) ?_
  · rintro i ps ρ ⟨b, l, f, r5, rfl, hb, hp, hl, hf⟩
    rw [List.length_cons] at hl hf
    have hll : l.length ≤ 28 := by
      have := hp.length_eq
      rw [List.length_append] at this
      omega
    simp only [tgF, Function.comp_apply, post_some, List.set_cons_succ, List.set_cons_zero]
    apply run_cons
    obtain ⟨j, hj1, hj2⟩ : ∃ j : Int, lenF (.bo (.ls ((l.map tieP).map M.d))) = some (.d (.int j)) ∧ j = l.length := ⟨_, rfl, by rw [List.length_map, List.length_map]⟩
    simp only [Ev.exec, ev, evs, evO, evTO, evAnd, evOr, evIt, seq2, asT, asB, asI, binF, cmpF, at0, at1, post_bind, post_map, post_some, post_nif, post_ifn, post_ifs, R.isBo, R.isOk, R.isOw, R.isD, ls_ls, eq_self, E.quiet, quiets, quietO, It.quiet, Option.bind_some, Option.map_some, Option.bind_none, Option.map_none, Bool.false_and, Bool.and_false, Bool.true_and, Bool.and_true, Bool.not_true, Bool.not_false, Bool.false_eq_true, if_true, if_false, ite_true, ite_false, reduceIte, eq_int, lt_int, le_int, add_int, sub_int, mul_int, neg_int, div_int, mod_int, pow_int, List.take_zero, List.drop_zero, List.all_cons, List.all_nil, List.any_cons, List.any_nil, List.set_cons_zero, List.set_cons_succ, not_true_eq_false, not_false_eq_true, true_and, and_true, biF, un1, intF, absF, setR, setRs, frz_lst, frz_d, frz_no, frz_fr, Bool.or_false, Bool.false_or, R.toM, sz1, sz2, sz3, sz4, sz5, sz6, sz7, sz8, sz9, sz10, tru_bl, decide_eq_true_eq, Nat.zero_le, List.map_cons, List.map_nil, List.length_cons, List.length_nil, hj1, g9, i9]
    refine post_mono (s9 hb (by omega) (by have := log_le (a := 6) (show j.natAbs < 2 ^ 6 by omega); omega)) ?_
    rintro ⟨r, r0⟩ ⟨x, b, e, x0, x1, hb⟩
    cases e
    have hx : x.toNat < l.length := by omega
    have hg : l[x.toNat]? = some l[x.toNat] := List.getElem?_eq_getElem hx
    have p1 : -(2 ^ 63) ≤ x ∧ x < 2 ^ 63 := by omega
    have p2 : ixN l.length x = some x.toNat := ixN_in x0 (by omega)
    have p3 : ((l.map tieP).map M.d)[x.toNat]? = some (.d (tieP l[x.toNat])) := by
      rw [List.getElem?_map, List.getElem?_map, hg]; rfl
    have p4 : ((l.map tieP).map M.d).eraseIdx x.toNat = ((l.eraseIdx x.toNat).map tieP).map M.d := by
      rw [erase_map, erase_map]
    have up : f.length < sizeLine := by rw [sizeLine_eq]; omega
    simp only [Ev.exec, ev, evs, evO, evTO, evAnd, evOr, evIt, seq2, asT, asB, asI, binF, cmpF, at0, at1, post_bind, post_map, post_some, post_nif, post_ifn, post_ifs, R.isBo, R.isOk, R.isOw, R.isD, ls_ls, eq_self, E.quiet, quiets, quietO, It.quiet, Option.bind_some, Option.map_some, Option.bind_none, Option.map_none, Bool.false_and, Bool.and_false, Bool.true_and, Bool.and_true, Bool.not_true, Bool.not_false, Bool.false_eq_true, if_true, if_false, ite_true, ite_false, reduceIte, eq_int, lt_int, le_int, add_int, sub_int, mul_int, neg_int, div_int, mod_int, pow_int, List.take_zero, List.drop_zero, List.all_cons, List.all_nil, List.any_cons, List.any_nil, List.set_cons_zero, List.set_cons_succ, not_true_eq_false, not_false_eq_true, true_and, and_true, biF, un1, intF, absF, setR, setRs, frz_lst, frz_d, frz_no, frz_fr, Bool.or_false, Bool.false_or, R.toM, sz1, sz2, sz3, sz4, sz5, sz6, sz7, sz8, sz9, sz10, tru_bl, decide_eq_true_eq, Nat.zero_le, List.map_cons, List.map_nil, List.length_cons, List.length_nil, p1, p2, p3, p4, unR, appL, List.length_map, up, decide_true, run_nil]
    refine ⟨b, l.eraseIdx x.toNat, f ++ [l[x.toNat]], .d (I i), ?_, hb, ?_, ?_, ?_⟩
    · have e5 : ((f ++ [l[x.toNat]]).map tieP).map M.d = (f.map tieP).map M.d ++ [M.d (tieP l[x.toNat])] := by rw [List.map_append, List.map_append]; rfl
      show _ = [R.ow b, .int n, .int most, .lst ((allP m).map tieP), r4, .d (I i), .lst ((l.eraseIdx x.toNat).map tieP), .ow (.ls (((f ++ [l[x.toNat]]).map tieP).map M.d)), .no]
      rw [e5]
    · rw [List.append_assoc]
      exact ((erase_perm hg).append_left f).trans hp
    · rw [List.length_eraseIdx_of_lt hx]; omega
    · rw [List.length_append, List.length_singleton]; omega
  rintro ⟨o, ρ⟩ ⟨ho, b, l, f, r5, he, hb, hp, _, hf⟩
  cases ho
  dsimp only at he
  subst he
  refine ⟨rfl, ?_⟩
  obtain ⟨ts, hts, e⟩ := sort_ties f
  have wf : Web m f := by
    have hnd' := hp.symm.nodup hnd
    refine ⟨fun t h => hok t (hp.mem_iff.mp (List.mem_append_left _ h)), (List.nodup_append.mp hnd').1, ?_⟩
    rw [List.length_nil] at hf
    omega
  apply run_ret
  simp only [Ev.exec, ev, evs, evO, evTO, evAnd, evOr, evIt, seq2, asT, asB, asI, binF, cmpF, at0, at1, post_bind, post_map, post_some, post_nif, post_ifn, post_ifs, R.isBo, R.isOk, R.isOw, R.isD, ls_ls, eq_self, E.quiet, quiets, quietO, It.quiet, Option.bind_some, Option.map_some, Option.bind_none, Option.map_none, Bool.false_and, Bool.and_false, Bool.true_and, Bool.and_true, Bool.not_true, Bool.not_false, Bool.false_eq_true, if_true, if_false, ite_true, ite_false, reduceIte, eq_int, lt_int, le_int, add_int, sub_int, mul_int, neg_int, div_int, mod_int, pow_int, List.take_zero, List.drop_zero, List.all_cons, List.all_nil, List.any_cons, List.any_nil, List.set_cons_zero, List.set_cons_succ, not_true_eq_false, not_false_eq_true, true_and, and_true, biF, un1, intF, absF, setR, setRs, frz_lst, frz_d, frz_no, frz_fr, Bool.or_false, Bool.false_or, R.toM, sz1, sz2, sz3, sz4, sz5, sz6, sz7, sz8, sz9, sz10, tru_bl, decide_eq_true_eq, Nat.zero_le, List.map_cons, List.map_nil, List.length_cons, List.length_nil, reads_bo, reads_lst, e]
  exact ⟨_, rfl, b, ts, rfl, wf.perm hts, hb⟩
end LK57
end
section
set_option Elab.async false
set_option linter.all false
set_option maxRecDepth 100000
namespace LK57
open PySem L2 Ev
variable {m : Nat} {ties : List (Nat × Nat)}
/-! ### the counts -/
def altF (p : Int × Nat) : Int := if p.2 % 2 = 0 then p.1 else -p.1
def dueF (cs : List Int) : List Int := (cs.zipIdx.map altF).reverse
def cntF (m : Nat) (us : List (List Nat)) : List Int := us.foldl (fun f l => f.set l.length (f.getD l.length 0 + 1)) (List.replicate (m + 1) 0)
theorem cnt_sum {j : Nat} (hj : j ≤ m) : ∀ us : List (List Nat), (∀ l ∈ us, l.length ≤ m) → (if (m - j) % 2 = 0 then (us.map fun l => if l.length = m - j then (1 : Int) else 0).sum else -(us.map fun l => if l.length = m - j then (1 : Int) else 0).sum) = (us.map fun l => if m - l.length = j then G57.sgn l else 0).sum
  | [], _ => by simp
  | l :: us, h => by
    have ih := cnt_sum hj us fun x hx => h x (List.mem_cons_of_mem _ hx)
    have hl := h l List.mem_cons_self
    rw [List.map_cons, List.sum_cons, List.map_cons, List.sum_cons, ← ih]
    unfold G57.sgn
    by_cases c : l.length = m - j
    · rw [if_pos c, if_pos (show m - l.length = j by omega), ← c]
      by_cases d : l.length % 2 = 0
      · rw [if_pos d, if_pos d, if_pos d]
      · rw [if_neg d, if_neg d, if_neg d]; omega
    · rw [if_neg c, if_neg (show ¬ m - l.length = j by omega)]
      split <;> omega
theorem due_eq (w : Web m ties) {us : List (List Nat)} (p : us.Perm (unbF m ties)) : dueF (cntF m us) = colF m (unbF m ties) := by
  have hus : ∀ l ∈ us, l.length ≤ m := fun l h => unb_len w l (p.mem_iff.mp h)
  have hlen : (cntF m us).length = m + 1 := by
    unfold cntF
    rw [upd_len (fun l : List Nat => l.length) (fun _ => 1), List.length_replicate]
  have hdl : (dueF (cntF m us)).length = m + 1 := by
    unfold dueF
    rw [List.length_reverse, List.length_map, List.length_zipIdx, hlen]
  refine row_ext (by rw [hdl, colF_len]) fun j hj => ?_
  rw [hdl] at hj
  have hc : (cntF m us).getD (m - j) 0 = (us.map fun l => if l.length = m - j then (1 : Int) else 0).sum := by
    unfold cntF
    rw [upd_get (fun l : List Nat => l.length) (fun _ => 1) (m - j) us _ fun a ha => by rw [List.length_replicate]; have := hus a ha; omega, getD_rep, Int.zero_add]
  have e : (dueF (cntF m us)).getD j 0 = if (m - j) % 2 = 0 then (cntF m us).getD (m - j) 0 else -(cntF m us).getD (m - j) 0 := by
    unfold dueF
    rw [List.getD_eq_getElem?_getD, List.getElem?_reverse (by rw [List.length_map, List.length_zipIdx, hlen]; exact hj), List.length_map, List.length_zipIdx, hlen, List.getElem?_map, List.getElem?_zipIdx, show m + 1 - 1 - j = m - j by omega, List.getElem?_eq_getElem (by omega), List.getD_eq_getElem?_getD, List.getElem?_eq_getElem (by omega)]
    show altF (_, 0 + (m - j)) = _
    unfold altF
    rw [Nat.zero_add]
    rfl
  rw [e, hc, cnt_sum (by omega) us hus, colF_get w]
  exact perm_sum _ p
/-! ### shown -/
theorem eq_same {x : PyData} (h : noS x = true) (hd : x.depth ≤ 64) : eqF (.d x) (.d x) = some true := by
  have l := lay_noS x h
  have s : SeqAt.shaped x = true := by simp [SeqAt.shaped, l, hd]
  show (if SeqAt.shaped x = true ∧ SeqAt.shaped x = true then some (PyData.eqv x x) else none) = _
  rw [if_pos ⟨s, s⟩, SeqAt.eqv_refl x l]
theorem okRs_map {α : Type} {f : α → PyData} {k c : Nat} : ∀ {L : List α}, (∀ x ∈ L, OkR k c (f x)) → OkRs k (L.length * (c + 2)) (L.map f)
  | [], _ => by rw [List.length_nil, Nat.zero_mul]; exact OkRs.nil k
  | x :: L, h => by
    have t := okRs_map (L := L) fun y hy => h y (List.mem_cons_of_mem _ hy)
    have := OkRs.cons (h x List.mem_cons_self) t
    rw [List.length_cons, Nat.succ_mul, Nat.add_comm (L.length * (c + 2))]
    exact this
theorem okI {a : Nat} (h : a < 256) : OkR 0 10 (I a) := OkR.int (b := 8) (by omega) (by decide)
theorem ok_ties (w : Web m ties) (hm : m ≤ 90) : OkR 2 1000 (.tuple (ties.map tieP)) := by
  have h := (okRs_map (f := tieP) (k := 1) (c := 27) (L := ties) fun t ht => by
    have := w.ok t ht
    exact (OkRs.cons (okI (a := t.1) (by omega)) (OkRs.cons (okI (a := t.2) (by omega)) (OkRs.nil 0))).tuple).tuple
  refine h.mono (Nat.le_refl _) ?_
  have := Nat.mul_le_mul_right (27 + 2) w.few
  omega
theorem ok_lots (w : Web m ties) : OkR 2 200000 (.tuple ((sortL (unbF m ties)).map tupN)) := by
  have h := (okRs_map (f := tupN) (k := 1) (c := 123) (L := sortL (unbF m ties)) fun l hl => by
    have hl' := (List.mem_filter.mp (show l ∈ (lotsF ties.length).filter (free m ties) from (sortL_perm _).mem_iff.mp hl)).1
    have h1 := lots_lt l hl'
    have h2 := lots_sz l hl'
    have := w.few
    refine ((okRs_map (f := I) (k := 0) (c := 10) (L := l) fun x hx => okI (by have := h1 x hx; omega)).tuple).mono (Nat.le_refl _) ?_
    have : l.length * (10 + 2) ≤ 10 * 12 := Nat.mul_le_mul_right _ (by omega)
    omega).tuple
  refine h.mono (Nat.le_refl _) ?_
  have h3 : (sortL (unbF m ties)).length ≤ 1024 := by
    rw [(sortL_perm _).length_eq, unb_eq]
    refine Nat.le_trans (List.length_filter_le _ _) ?_
    rw [lots_len]
    exact Nat.le_trans (Nat.pow_le_pow_right (by decide) w.few) (by decide)
  have := Nat.mul_le_mul_right (123 + 2) h3
  omega
theorem sum_abs {α : Type} (f : α → Int) : ∀ L : List α, (∀ a ∈ L, (f a).natAbs ≤ 1) → (L.map f).sum.natAbs ≤ L.length
  | [], _ => by simp
  | a :: L, h => by
    have := sum_abs f L fun b hb => h b (List.mem_cons_of_mem _ hb)
    have := h a List.mem_cons_self
    rw [List.map_cons, List.sum_cons, List.length_cons]
    omega
theorem ok_col (w : Web m ties) (hm : m ≤ 90) : OkR 1 2000 (.tuple ((colF m (unbF m ties)).map .int)) := by
  have hu : (unbF m ties).length ≤ 1024 := by
    rw [unb_eq]
    refine Nat.le_trans (List.length_filter_le _ _) ?_
    rw [lots_len]
    exact Nat.le_trans (Nat.pow_le_pow_right (by decide) w.few) (by decide)
  have h := OkRs.ints (b := 11) (by decide) (is := colF m (unbF m ties)) fun x hx => by
    obtain ⟨i, hi, e⟩ := List.getElem_of_mem hx
    have e' : (colF m (unbF m ties)).getD i 0 = x := by rw [List.getD_eq_getElem?_getD, List.getElem?_eq_getElem hi]; exact e
    rw [colF_get w] at e'
    rw [← e']
    have := sum_abs (fun a : List Nat => if m - a.length = i then G57.sgn a else 0) (unbF m ties) fun a _ => by
      unfold G57.sgn
      split
      · split <;> decide
      · decide
    omega
  refine h.tuple.mono (Nat.le_refl _) ?_
  rw [colF_len]
  omega
/-! ### a turn -/
theorem kw2 {α : Type} (x y : α) : kwG [1, 0] [] [x, y] = [y, x] := rfl
theorem evK {T : Tbl} {f j : Nat} {d : Fd} {ks : List Str} {ix : List Nat} (hd : T[f]? = some d) (hk : d.kws[j]? = some ks) (hx : kwIx d.ps ks = ix) (hn : d.ps.length - ks.length = 0) (es : List E) (ρ : Ev.Env) :
    ev T (.callK f j es) ρ = (evs T es ρ).bind fun q => if q.1.all R.isOk = true then (d.g (kwG ix [] (q.1.map frzF))).map fun r => (r.1, q.2) else none := by
  rw [ev, hd]
  simp only [Option.bind_some, hk, hx, hn, List.take_zero, List.drop_zero]
def tb : List S := match b17 with
  | _ :: _ :: .for_ _ _ b :: _ => b
  | _ => []
def TE (ρ : Ev.Env) : Prop := ∃ s b r2 r3 r4 r5 r6 r7 r8 r9 r10, ρ = [s, .ow b, r2, r3, r4, r5, r6, r7, r8, r9, r10, .no, .no, .no] ∧ BagOk b
theorem enum_map : ∀ (is : List Int) (k : Nat), enumL k (is.map .int) = (is.zipIdx k).map fun p => R.tup [.int (p.2 : Int), .int p.1]
  | [], _ => rfl
  | i :: is, k => by
    show R.tup [.int (k : Int), .int i] :: enumL (k + 1) (is.map .int) = _
    rw [enum_map is (k + 1), List.zipIdx_cons, List.map_cons]
theorem segB (w : Web m ties) {n : Int} (hn : n = m) (hm : m ≤ 90) {T : Tbl} {D5 D6 D7 D15 D16 : Fd} (g5 : T[5]? = some D5) (g6 : T[6]? = some D6) (g7 : T[7]? = some D7) (g15 : T[15]? = some D15) (g16 : T[16]? = some D16)
    (k5 : ∀ (es : List E) (ρ : Ev.Env), ev T (.callK 5 0 es) ρ = (evs T es ρ).bind fun q => if q.1.all R.isOk = true then (D5.g (kwG [1, 0] [] (q.1.map frzF))).map fun r => (r.1, q.2) else none)
    (k6 : ∀ (es : List E) (ρ : Ev.Env), ev T (.callK 6 0 es) ρ = (evs T es ρ).bind fun q => if q.1.all R.isOk = true then (D6.g (kwG [1, 0] [] (q.1.map frzF))).map fun r => (r.1, q.2) else none)
    (s5 : Post (D5.g [.int n, .tup (ties.map tieP)]) fun r => r.1 = .tup ((sortL (unbF m ties)).map tupN))
    (s6 : Post (D6.g [.int n, .tup (ties.map tieP)]) fun r => r.1 = .tup ((colF m (unbF m ties)).map .int))
    (s7 : Post (D7.g [.int n, .tup (ties.map tieP)]) fun r => ∃ j : Int, r.1 = .int j ∧ j = (sortL (unbF m ties)).length)
    (s15 : Post (D15.g [.int n, .tup (ties.map tieP)]) fun r => r.1 = .lst ((sortL (unbF m ties)).map tupN))
    (s16 : Post (D16.g [.int n, .tup (ties.map tieP)]) fun r => r.1 = .tup ((colF m (unbF m ties)).map .int))
    {s : R} {b : M} {r2 r5 r6 r7 r8 r9 r10 : R} (hb : BagOk b) :
    Post (execs T (tb.drop 4) [s, .ow b, r2, .int n, .tup (ties.map tieP), r5, r6, r7, r8, r9, r10, .no, .no, .no]) fun q => q.1 = .nx ∧ TE q.2 := by
  have okT := ok_ties w hm
  have okL := ok_lots w
  have okC := ok_col w hm
  have eT := repr_ok (r := R.tup (ties.map tieP)) rfl rfl okT (by decide) (by rw [sizeLine_eq]; decide)
  have qT := eq_shown okT.s
  have eL := repr_two okL (by decide) (by decide)
  have qL := eq_two okL
  have eC := repr_two okC (by decide) (by decide)
  have qC := eq_two okC
  have qS := eq_same okC.s (Nat.le_trans okC.d (by decide))
  obtain ⟨⟨r, x5⟩, e5, h⟩ := s5
  cases h
  obtain ⟨⟨r, x6⟩, e6, h⟩ := s6
  cases h
  obtain ⟨⟨r, x7⟩, e7, j7, h, hj7⟩ := s7
  cases h
  obtain ⟨⟨r, x15⟩, e15, h⟩ := s15
  cases h
  obtain ⟨⟨r, x16⟩, e16, h⟩ := s16
  cases h
  have hus : ∀ l ∈ sortL (unbF m ties), l.length ≤ m := fun l h => unb_len w l ((sortL_perm _).mem_iff.mp h)
  have hdue := due_eq w (sortL_perm (unbF m ties))
  generalize colF m (unbF m ties) = C at *
  generalize sortL (unbF m ties) = U at *
  apply run_cons
  simp only [Ev.exec, ev, evs, evO, evTO, evAnd, evOr, evIt, seq2, asT, asB, asI, binF, cmpF, at0, at1, post_bind, post_map, post_some, post_nif, post_ifn, post_ifs, R.isBo, R.isOk, R.isOw, R.isD, ls_ls, eq_self, E.quiet, quiets, quietO, It.quiet, Option.bind_some, Option.map_some, Option.bind_none, Option.map_none, Bool.false_and, Bool.and_false, Bool.true_and, Bool.and_true, Bool.not_true, Bool.not_false, Bool.false_eq_true, if_true, if_false, ite_true, ite_false, reduceIte, eq_int, lt_int, le_int, add_int, sub_int, mul_int, neg_int, div_int, mod_int, pow_int, List.take_zero, List.drop_zero, List.all_cons, List.all_nil, List.any_cons, List.any_nil, List.set_cons_zero, List.set_cons_succ, not_true_eq_false, not_false_eq_true, true_and, and_true, biF, un1, intF, absF, setR, setRs, frz_lst, frz_d, frz_no, frz_fr, Bool.or_false, Bool.false_or, R.toM, sz1, sz2, sz3, sz4, sz5, sz6, sz7, sz8, sz9, sz10, tru_bl, decide_eq_true_eq, Nat.zero_le, List.map_cons, List.map_nil, List.length_cons, List.length_nil]
  apply run_cons
  simp only [Ev.exec, ev, evs, evO, evTO, evAnd, evOr, evIt, seq2, asT, asB, asI, binF, cmpF, at0, at1, post_bind, post_map, post_some, post_nif, post_ifn, post_ifs, R.isBo, R.isOk, R.isOw, R.isD, ls_ls, eq_self, E.quiet, quiets, quietO, It.quiet, Option.bind_some, Option.map_some, Option.bind_none, Option.map_none, Bool.false_and, Bool.and_false, Bool.true_and, Bool.and_true, Bool.not_true, Bool.not_false, Bool.false_eq_true, if_true, if_false, ite_true, ite_false, reduceIte, eq_int, lt_int, le_int, add_int, sub_int, mul_int, neg_int, div_int, mod_int, pow_int, List.take_zero, List.drop_zero, List.all_cons, List.all_nil, List.any_cons, List.any_nil, List.set_cons_zero, List.set_cons_succ, not_true_eq_false, not_false_eq_true, true_and, and_true, biF, un1, intF, absF, setR, setRs, frz_lst, frz_d, frz_no, frz_fr, Bool.or_false, Bool.false_or, R.toM, sz1, sz2, sz3, sz4, sz5, sz6, sz7, sz8, sz9, sz10, tru_bl, decide_eq_true_eq, Nat.zero_le, List.map_cons, List.map_nil, List.length_cons, List.length_nil]
  apply run_cons
  simp only [Ev.exec, ev, evs, evO, evTO, evAnd, evOr, evIt, seq2, asT, asB, asI, binF, cmpF, at0, at1, post_bind, post_map, post_some, post_nif, post_ifn, post_ifs, R.isBo, R.isOk, R.isOw, R.isD, ls_ls, eq_self, E.quiet, quiets, quietO, It.quiet, Option.bind_some, Option.map_some, Option.bind_none, Option.map_none, Bool.false_and, Bool.and_false, Bool.true_and, Bool.and_true, Bool.not_true, Bool.not_false, Bool.false_eq_true, if_true, if_false, ite_true, ite_false, reduceIte, eq_int, lt_int, le_int, add_int, sub_int, mul_int, neg_int, div_int, mod_int, pow_int, List.take_zero, List.drop_zero, List.all_cons, List.all_nil, List.any_cons, List.any_nil, List.set_cons_zero, List.set_cons_succ, not_true_eq_false, not_false_eq_true, true_and, and_true, biF, un1, intF, absF, setR, setRs, frz_lst, frz_d, frz_no, frz_fr, Bool.or_false, Bool.false_or, R.toM, sz1, sz2, sz3, sz4, sz5, sz6, sz7, sz8, sz9, sz10, tru_bl, decide_eq_true_eq, Nat.zero_le, List.map_cons, List.map_nil, List.length_cons, List.length_nil, eT, g15, e15, reads_lst]
  apply run_cons
  simp only [Ev.exec, ev, evs, evO, evTO, evAnd, evOr, evIt, seq2, asT, asB, asI, binF, cmpF, at0, at1, post_bind, post_map, post_some, post_nif, post_ifn, post_ifs, R.isBo, R.isOk, R.isOw, R.isD, ls_ls, eq_self, E.quiet, quiets, quietO, It.quiet, Option.bind_some, Option.map_some, Option.bind_none, Option.map_none, Bool.false_and, Bool.and_false, Bool.true_and, Bool.and_true, Bool.not_true, Bool.not_false, Bool.false_eq_true, if_true, if_false, ite_true, ite_false, reduceIte, eq_int, lt_int, le_int, add_int, sub_int, mul_int, neg_int, div_int, mod_int, pow_int, List.take_zero, List.drop_zero, List.all_cons, List.all_nil, List.any_cons, List.any_nil, List.set_cons_zero, List.set_cons_succ, not_true_eq_false, not_false_eq_true, true_and, and_true, biF, un1, intF, absF, setR, setRs, frz_lst, frz_d, frz_no, frz_fr, Bool.or_false, Bool.false_or, R.toM, sz1, sz2, sz3, sz4, sz5, sz6, sz7, sz8, sz9, sz10, tru_bl, decide_eq_true_eq, Nat.zero_le, List.map_cons, List.map_nil, List.length_cons, List.length_nil]
  apply run_cons
  simp only [Ev.exec, ev, evs, evO, evTO, evAnd, evOr, evIt, seq2, asT, asB, asI, binF, cmpF, at0, at1, post_bind, post_map, post_some, post_nif, post_ifn, post_ifs, R.isBo, R.isOk, R.isOw, R.isD, ls_ls, eq_self, E.quiet, quiets, quietO, It.quiet, Option.bind_some, Option.map_some, Option.bind_none, Option.map_none, Bool.false_and, Bool.and_false, Bool.true_and, Bool.and_true, Bool.not_true, Bool.not_false, Bool.false_eq_true, if_true, if_false, ite_true, ite_false, reduceIte, eq_int, lt_int, le_int, add_int, sub_int, mul_int, neg_int, div_int, mod_int, pow_int, List.take_zero, List.drop_zero, List.all_cons, List.all_nil, List.any_cons, List.any_nil, List.set_cons_zero, List.set_cons_succ, not_true_eq_false, not_false_eq_true, true_and, and_true, biF, un1, intF, absF, setR, setRs, frz_lst, frz_d, frz_no, frz_fr, Bool.or_false, Bool.false_or, R.toM, sz1, sz2, sz3, sz4, sz5, sz6, sz7, sz8, sz9, sz10, tru_bl, decide_eq_true_eq, Nat.zero_le, List.map_cons, List.map_nil, List.length_cons, List.length_nil]
  apply run_cons
  simp only [↓k5, Ev.exec, ev, evs, evO, evTO, evAnd, evOr, evIt, seq2, asT, asB, asI, binF, cmpF, at0, at1, post_bind, post_map, post_some, post_nif, post_ifn, post_ifs, R.isBo, R.isOk, R.isOw, R.isD, ls_ls, eq_self, E.quiet, quiets, quietO, It.quiet, Option.bind_some, Option.map_some, Option.bind_none, Option.map_none, Bool.false_and, Bool.and_false, Bool.true_and, Bool.and_true, Bool.not_true, Bool.not_false, Bool.false_eq_true, if_true, if_false, ite_true, ite_false, reduceIte, eq_int, lt_int, le_int, add_int, sub_int, mul_int, neg_int, div_int, mod_int, pow_int, List.take_zero, List.drop_zero, List.all_cons, List.all_nil, List.any_cons, List.any_nil, List.set_cons_zero, List.set_cons_succ, not_true_eq_false, not_false_eq_true, true_and, and_true, biF, un1, intF, absF, setR, setRs, frz_lst, frz_d, frz_no, frz_fr, Bool.or_false, Bool.false_or, R.toM, sz1, sz2, sz3, sz4, sz5, sz6, sz7, sz8, sz9, sz10, tru_bl, decide_eq_true_eq, Nat.zero_le, List.map_cons, List.map_nil, List.length_cons, List.length_nil, g5, e5, kw2, eL, qL, run_nil]
  apply run_cons
  simp only [Ev.exec, ev, evs, evO, evTO, evAnd, evOr, evIt, seq2, asT, asB, asI, binF, cmpF, at0, at1, post_bind, post_map, post_some, post_nif, post_ifn, post_ifs, R.isBo, R.isOk, R.isOw, R.isD, ls_ls, eq_self, E.quiet, quiets, quietO, It.quiet, Option.bind_some, Option.map_some, Option.bind_none, Option.map_none, Bool.false_and, Bool.and_false, Bool.true_and, Bool.and_true, Bool.not_true, Bool.not_false, Bool.false_eq_true, if_true, if_false, ite_true, ite_false, reduceIte, eq_int, lt_int, le_int, add_int, sub_int, mul_int, neg_int, div_int, mod_int, pow_int, List.take_zero, List.drop_zero, List.all_cons, List.all_nil, List.any_cons, List.any_nil, List.set_cons_zero, List.set_cons_succ, not_true_eq_false, not_false_eq_true, true_and, and_true, biF, un1, intF, absF, setR, setRs, frz_lst, frz_d, frz_no, frz_fr, Bool.or_false, Bool.false_or, R.toM, sz1, sz2, sz3, sz4, sz5, sz6, sz7, sz8, sz9, sz10, tru_bl, decide_eq_true_eq, Nat.zero_le, List.map_cons, List.map_nil, List.length_cons, List.length_nil]
  apply run_cons
  simp only [Ev.exec, ev, evs, evO, evTO, evAnd, evOr, evIt, seq2, asT, asB, asI, binF, cmpF, at0, at1, post_bind, post_map, post_some, post_nif, post_ifn, post_ifs, R.isBo, R.isOk, R.isOw, R.isD, ls_ls, eq_self, E.quiet, quiets, quietO, It.quiet, Option.bind_some, Option.map_some, Option.bind_none, Option.map_none, Bool.false_and, Bool.and_false, Bool.true_and, Bool.and_true, Bool.not_true, Bool.not_false, Bool.false_eq_true, if_true, if_false, ite_true, ite_false, reduceIte, eq_int, lt_int, le_int, add_int, sub_int, mul_int, neg_int, div_int, mod_int, pow_int, List.take_zero, List.drop_zero, List.all_cons, List.all_nil, List.any_cons, List.any_nil, List.set_cons_zero, List.set_cons_succ, not_true_eq_false, not_false_eq_true, true_and, and_true, biF, un1, intF, absF, setR, setRs, frz_lst, frz_d, frz_no, frz_fr, Bool.or_false, Bool.false_or, R.toM, sz1, sz2, sz3, sz4, sz5, sz6, sz7, sz8, sz9, sz10, tru_bl, decide_eq_true_eq, Nat.zero_le, List.map_cons, List.map_nil, List.length_cons, List.length_nil]
  apply run_cons
  have e1 := rep0 (n := n + 1) (m := m + 1) (by omega) (by omega)
  have e1' : (List.replicate (m + 1) 0).map I = (List.replicate (m + 1) (0 : Int)).map .int := by rw [List.map_replicate, List.map_replicate]; rfl
  rw [e1'] at e1
  simp only [Ev.exec, ev, evs, evO, evTO, evAnd, evOr, evIt, seq2, asT, asB, asI, binF, cmpF, at0, at1, post_bind, post_map, post_some, post_nif, post_ifn, post_ifs, R.isBo, R.isOk, R.isOw, R.isD, ls_ls, eq_self, E.quiet, quiets, quietO, It.quiet, Option.bind_some, Option.map_some, Option.bind_none, Option.map_none, Bool.false_and, Bool.and_false, Bool.true_and, Bool.and_true, Bool.not_true, Bool.not_false, Bool.false_eq_true, if_true, if_false, ite_true, ite_false, reduceIte, eq_int, lt_int, le_int, add_int, sub_int, mul_int, neg_int, div_int, mod_int, pow_int, List.take_zero, List.drop_zero, List.all_cons, List.all_nil, List.any_cons, List.any_nil, List.set_cons_zero, List.set_cons_succ, not_true_eq_false, not_false_eq_true, true_and, and_true, biF, un1, intF, absF, setR, setRs, frz_lst, frz_d, frz_no, frz_fr, Bool.or_false, Bool.false_or, R.toM, sz1, sz2, sz3, sz4, sz5, sz6, sz7, sz8, sz9, sz10, tru_bl, decide_eq_true_eq, Nat.zero_le, List.map_cons, List.map_nil, List.length_cons, List.length_nil, g16, e16, e1]
  apply run_cons
  simp only [Ev.exec, ev, evs, evO, evTO, evAnd, evOr, evIt, seq2, asT, asB, asI, binF, cmpF, at0, at1, post_bind, post_map, post_some, post_nif, post_ifn, post_ifs, R.isBo, R.isOk, R.isOw, R.isD, ls_ls, eq_self, E.quiet, quiets, quietO, It.quiet, Option.bind_some, Option.map_some, Option.bind_none, Option.map_none, Bool.false_and, Bool.and_false, Bool.true_and, Bool.and_true, Bool.not_true, Bool.not_false, Bool.false_eq_true, if_true, if_false, ite_true, ite_false, reduceIte, eq_int, lt_int, le_int, add_int, sub_int, mul_int, neg_int, div_int, mod_int, pow_int, List.take_zero, List.drop_zero, List.all_cons, List.all_nil, List.any_cons, List.any_nil, List.set_cons_zero, List.set_cons_succ, not_true_eq_false, not_false_eq_true, true_and, and_true, biF, un1, intF, absF, setR, setRs, frz_lst, frz_d, frz_no, frz_fr, Bool.or_false, Bool.false_or, R.toM, sz1, sz2, sz3, sz4, sz5, sz6, sz7, sz8, sz9, sz10, tru_bl, decide_eq_true_eq, Nat.zero_le, List.map_cons, List.map_nil, List.length_cons, List.length_nil, itemsF, reads_dt]
  rw [List.map_map]
  refine post_mono (forGo_map (R.d ∘ tupN) (fun ps ρ => ∃ (f : List Int) (r5 : R), ρ = [s, .ow b, r2, .int n, .tup (ties.map tieP), r5, r6, .str (PyData.tuple (ties.map tieP)).shown, .tup (U.map tupN), .tup (C.map .int), .lst (f.map .int), .no, .no, .no] ∧ f.length = m + 1 ∧ ps.foldl (fun f l => f.set l.length (f.getD l.length 0 + 1)) f = cntF m U ∧ ∀ l ∈ ps, l.length ≤ m)
    ?_ U _ ⟨_, _, rfl, List.length_replicate, rfl, hus⟩) ?_
  · rintro l ps ρ ⟨f, r5, rfl, hf, he, hp⟩
    have hlm := hp l List.mem_cons_self
    obtain ⟨j, hj1, hj2⟩ : ∃ j : Int, lenF (.d (tupN l)) = some (.d (.int j)) ∧ j = l.length := ⟨_, rfl, by rw [List.length_map]⟩
    have e2 := at_int (f := f) (k := j) (j := l.length) hj2 (by omega)
    have e3 := put_int (f := f) (k := j) (j := l.length) hj2 (by omega) (f.getD l.length 0 + 1) 10 [s, .ow b, r2, .int n, .tup (ties.map tieP), .d (tupN l), r6, .str (PyData.tuple (ties.map tieP)).shown, .tup (U.map tupN), .tup (C.map .int), .lst (f.map .int), .no, .no, .no] rfl
    simp only [tgF, Function.comp_apply, post_some, List.set_cons_succ, List.set_cons_zero]
    apply run_cons
    simp only [Ev.exec, ev, evs, evO, evTO, evAnd, evOr, evIt, seq2, asT, asB, asI, binF, cmpF, at0, at1, post_bind, post_map, post_some, post_nif, post_ifn, post_ifs, R.isBo, R.isOk, R.isOw, R.isD, ls_ls, eq_self, E.quiet, quiets, quietO, It.quiet, Option.bind_some, Option.map_some, Option.bind_none, Option.map_none, Bool.false_and, Bool.and_false, Bool.true_and, Bool.and_true, Bool.not_true, Bool.not_false, Bool.false_eq_true, if_true, if_false, ite_true, ite_false, reduceIte, eq_int, lt_int, le_int, add_int, sub_int, mul_int, neg_int, div_int, mod_int, pow_int, List.take_zero, List.drop_zero, List.all_cons, List.all_nil, List.any_cons, List.any_nil, List.set_cons_zero, List.set_cons_succ, not_true_eq_false, not_false_eq_true, true_and, and_true, biF, un1, intF, absF, setR, setRs, frz_lst, frz_d, frz_no, frz_fr, Bool.or_false, Bool.false_or, R.toM, sz1, sz2, sz3, sz4, sz5, sz6, sz7, sz8, sz9, sz10, tru_bl, decide_eq_true_eq, Nat.zero_le, List.map_cons, List.map_nil, List.length_cons, List.length_nil, hj1, e2, e3, run_nil]
    exact ⟨_, _, rfl, by rw [List.length_set]; exact hf, he, fun q hq => hp q (List.mem_cons_of_mem _ hq)⟩
  rintro ⟨o, ρ⟩ ⟨ho, f, r5, he2, hf, he, _⟩
  cases ho
  dsimp only at he2
  subst he2
  refine ⟨rfl, ?_⟩
  rw [List.foldl_nil] at he
  have hc := ev_comp (T := T) (own := [("k", 11), ("many", 12)]) (g := .tup [11, 12]) (it := .enum (.nm 10)) (t := none) (e := .ite (.cmp .Eq (.bin .BitAnd (.nm 11) (.int 1)) (.int 0)) (.nm 12) (.neg (.nm 12)))
    (ρ := [s, .ow b, r2, .int n, .tup (ties.map tieP), r5, r6, .str (PyData.tuple (ties.map tieP)).shown, .tup (U.map tupN), .tup (C.map .int), .lst (f.map .int), .no, .no, .no]) (ρ1 := [s, .ow b, r2, .int n, .tup (ties.map tieP), r5, r6, .str (PyData.tuple (ties.map tieP)).shown, .tup (U.map tupN), .tup (C.map .int), .lst (f.map .int), .no, .no, .no])
    (fun p : Int × Nat => R.tup [.int (p.2 : Int), .int p.1]) (fun p => some (M.d (.int (altF p)))) f.zipIdx true
    (by
      have e8 : enumF (.bo (.ls ((f.map PyData.int).map M.d))) = some ⟨f.zipIdx.map fun p : Int × Nat => R.tup [.int (p.2 : Int), .int p.1], true⟩ := by
        unfold enumF
        rw [leafs_bo, Option.bind_some, if_pos rfl, enum_map]
        rfl
      simp only [Ev.exec, ev, evs, evO, evTO, evAnd, evOr, evIt, seq2, asT, asB, asI, binF, cmpF, at0, at1, post_bind, post_map, post_some, post_nif, post_ifn, post_ifs, R.isBo, R.isOk, R.isOw, R.isD, ls_ls, eq_self, E.quiet, quiets, quietO, It.quiet, Option.bind_some, Option.map_some, Option.bind_none, Option.map_none, Bool.false_and, Bool.and_false, Bool.true_and, Bool.and_true, Bool.not_true, Bool.not_false, Bool.false_eq_true, if_true, if_false, ite_true, ite_false, reduceIte, eq_int, lt_int, le_int, add_int, sub_int, mul_int, neg_int, div_int, mod_int, pow_int, List.take_zero, List.drop_zero, List.all_cons, List.all_nil, List.any_cons, List.any_nil, List.set_cons_zero, List.set_cons_succ, not_true_eq_false, not_false_eq_true, true_and, and_true, biF, un1, intF, absF, setR, setRs, frz_lst, frz_d, frz_no, frz_fr, Bool.or_false, Bool.false_or, R.toM, sz1, sz2, sz3, sz4, sz5, sz6, sz7, sz8, sz9, sz10, tru_bl, decide_eq_true_eq, Nat.zero_le, List.map_cons, List.map_nil, List.length_cons, List.length_nil, e8])
    rfl rfl (fun p hp => ⟨[s, .ow b, r2, .int n, .tup (ties.map tieP), r5, r6, .str (PyData.tuple (ties.map tieP)).shown, .tup (U.map tupN), .tup (C.map .int), .lst (f.map .int), .int (p.2 : Int), .int p.1, .no], rfl, rfl, by
      have ha : andF (.d (.int (p.2 : Int))) (.d (.int 1)) = some (.d (I (p.2 % 2))) := by
        show some (R.int (Builtin.bitAnd (p.2 : Int) 1)) = _
        rw [PyProof.Rows.bitAnd_m1]
        rfl
      have hq : eqF (.d (I (p.2 % 2))) (.d (.int 0)) = some (decide (p.2 % 2 = 0)) := eqI _ 0
      unfold altF
      by_cases c : p.2 % 2 = 0
      · have c' := decide_eq_true c
        rw [if_pos c]
        simp only [Ev.exec, ev, evs, evO, evTO, evAnd, evOr, evIt, seq2, asT, asB, asI, binF, cmpF, at0, at1, post_bind, post_map, post_some, post_nif, post_ifn, post_ifs, R.isBo, R.isOk, R.isOw, R.isD, ls_ls, eq_self, E.quiet, quiets, quietO, It.quiet, Option.bind_some, Option.map_some, Option.bind_none, Option.map_none, Bool.false_and, Bool.and_false, Bool.true_and, Bool.and_true, Bool.not_true, Bool.not_false, Bool.false_eq_true, if_true, if_false, ite_true, ite_false, reduceIte, eq_int, lt_int, le_int, add_int, sub_int, mul_int, neg_int, div_int, mod_int, pow_int, List.take_zero, List.drop_zero, List.all_cons, List.all_nil, List.any_cons, List.any_nil, List.set_cons_zero, List.set_cons_succ, not_true_eq_false, not_false_eq_true, true_and, and_true, biF, un1, intF, absF, setR, setRs, frz_lst, frz_d, frz_no, frz_fr, Bool.or_false, Bool.false_or, R.toM, sz1, sz2, sz3, sz4, sz5, sz6, sz7, sz8, sz9, sz10, tru_bl, decide_eq_true_eq, Nat.zero_le, List.map_cons, List.map_nil, List.length_cons, List.length_nil, ha, hq, c']
      · have c' := decide_eq_false c
        rw [if_neg c]
        simp only [Ev.exec, ev, evs, evO, evTO, evAnd, evOr, evIt, seq2, asT, asB, asI, binF, cmpF, at0, at1, post_bind, post_map, post_some, post_nif, post_ifn, post_ifs, R.isBo, R.isOk, R.isOw, R.isD, ls_ls, eq_self, E.quiet, quiets, quietO, It.quiet, Option.bind_some, Option.map_some, Option.bind_none, Option.map_none, Bool.false_and, Bool.and_false, Bool.true_and, Bool.and_true, Bool.not_true, Bool.not_false, Bool.false_eq_true, if_true, if_false, ite_true, ite_false, reduceIte, eq_int, lt_int, le_int, add_int, sub_int, mul_int, neg_int, div_int, mod_int, pow_int, List.take_zero, List.drop_zero, List.all_cons, List.all_nil, List.any_cons, List.any_nil, List.set_cons_zero, List.set_cons_succ, not_true_eq_false, not_false_eq_true, true_and, and_true, biF, un1, intF, absF, setR, setRs, frz_lst, frz_d, frz_no, frz_fr, Bool.or_false, Bool.false_or, R.toM, sz1, sz2, sz3, sz4, sz5, sz6, sz7, sz8, sz9, sz10, tru_bl, decide_eq_true_eq, Nat.zero_le, List.map_cons, List.map_nil, List.length_cons, List.length_nil, ha, hq, c']⟩) (by rw [List.length_zipIdx, sizeLine_eq]; omega)
  rw [fm_map] at hc
  have e9 : f.zipIdx.map (fun p => M.d (.int (altF p))) = ((f.zipIdx.map altF).map PyData.int).map M.d := by rw [List.map_map, List.map_map]; rfl
  rw [e9] at hc
  have e10 : ev T (.bi .tuple [.comp [("k", 11), ("many", 12)] (.tup [11, 12]) (.enum (.nm 10)) none (.ite (.cmp .Eq (.bin .BitAnd (.nm 11) (.int 1)) (.int 0)) (.nm 12) (.neg (.nm 12)))]) [s, .ow b, r2, .int n, .tup (ties.map tieP), r5, r6, .str (PyData.tuple (ties.map tieP)).shown, .tup (U.map tupN), .tup (C.map .int), .lst (f.map .int), .no, .no, .no] = some (.tup ((f.zipIdx.map altF).map .int), [s, .ow b, r2, .int n, .tup (ties.map tieP), r5, r6, .str (PyData.tuple (ties.map tieP)).shown, .tup (U.map tupN), .tup (C.map .int), .lst (f.map .int), .no, .no, .no]) := by
    rw [ev, evs, hc]
    simp only [Ev.exec, ev, evs, evO, evTO, evAnd, evOr, evIt, seq2, asT, asB, asI, binF, cmpF, at0, at1, post_bind, post_map, post_some, post_nif, post_ifn, post_ifs, R.isBo, R.isOk, R.isOw, R.isD, ls_ls, eq_self, E.quiet, quiets, quietO, It.quiet, Option.bind_some, Option.map_some, Option.bind_none, Option.map_none, Bool.false_and, Bool.and_false, Bool.true_and, Bool.and_true, Bool.not_true, Bool.not_false, Bool.false_eq_true, if_true, if_false, ite_true, ite_false, reduceIte, eq_int, lt_int, le_int, add_int, sub_int, mul_int, neg_int, div_int, mod_int, pow_int, List.take_zero, List.drop_zero, List.all_cons, List.all_nil, List.any_cons, List.any_nil, List.set_cons_zero, List.set_cons_succ, not_true_eq_false, not_false_eq_true, true_and, and_true, biF, un1, intF, absF, setR, setRs, frz_lst, frz_d, frz_no, frz_fr, Bool.or_false, Bool.false_or, R.toM, sz1, sz2, sz3, sz4, sz5, sz6, sz7, sz8, sz9, sz10, tru_bl, decide_eq_true_eq, Nat.zero_le, List.map_cons, List.map_nil, List.length_cons, List.length_nil, reads_lst, backE, wipeE]
  have e11 : (f.zipIdx.map altF).reverse = C := by
    rw [← hdue, he]; rfl
  apply run_cons
  rw [Ev.exec, ev, e10, Option.bind_some, rev_dt, ← List.map_reverse, e11]
  simp only [Ev.exec, ev, evs, evO, evTO, evAnd, evOr, evIt, seq2, asT, asB, asI, binF, cmpF, at0, at1, post_bind, post_map, post_some, post_nif, post_ifn, post_ifs, R.isBo, R.isOk, R.isOw, R.isD, ls_ls, eq_self, E.quiet, quiets, quietO, It.quiet, Option.bind_some, Option.map_some, Option.bind_none, Option.map_none, Bool.false_and, Bool.and_false, Bool.true_and, Bool.and_true, Bool.not_true, Bool.not_false, Bool.false_eq_true, if_true, if_false, ite_true, ite_false, reduceIte, eq_int, lt_int, le_int, add_int, sub_int, mul_int, neg_int, div_int, mod_int, pow_int, List.take_zero, List.drop_zero, List.all_cons, List.all_nil, List.any_cons, List.any_nil, List.set_cons_zero, List.set_cons_succ, not_true_eq_false, not_false_eq_true, true_and, and_true, biF, un1, intF, absF, setR, setRs, frz_lst, frz_d, frz_no, frz_fr, Bool.or_false, Bool.false_or, R.toM, sz1, sz2, sz3, sz4, sz5, sz6, sz7, sz8, sz9, sz10, tru_bl, decide_eq_true_eq, Nat.zero_le, List.map_cons, List.map_nil, List.length_cons, List.length_nil]
  apply run_cons
  simp only [Ev.exec, ev, evs, evO, evTO, evAnd, evOr, evIt, seq2, asT, asB, asI, binF, cmpF, at0, at1, post_bind, post_map, post_some, post_nif, post_ifn, post_ifs, R.isBo, R.isOk, R.isOw, R.isD, ls_ls, eq_self, E.quiet, quiets, quietO, It.quiet, Option.bind_some, Option.map_some, Option.bind_none, Option.map_none, Bool.false_and, Bool.and_false, Bool.true_and, Bool.and_true, Bool.not_true, Bool.not_false, Bool.false_eq_true, if_true, if_false, ite_true, ite_false, reduceIte, eq_int, lt_int, le_int, add_int, sub_int, mul_int, neg_int, div_int, mod_int, pow_int, List.take_zero, List.drop_zero, List.all_cons, List.all_nil, List.any_cons, List.any_nil, List.set_cons_zero, List.set_cons_succ, not_true_eq_false, not_false_eq_true, true_and, and_true, biF, un1, intF, absF, setR, setRs, frz_lst, frz_d, frz_no, frz_fr, Bool.or_false, Bool.false_or, R.toM, sz1, sz2, sz3, sz4, sz5, sz6, sz7, sz8, sz9, sz10, tru_bl, decide_eq_true_eq, Nat.zero_le, List.map_cons, List.map_nil, List.length_cons, List.length_nil]
  apply run_cons
  simp only [Ev.exec, ev, evs, evO, evTO, evAnd, evOr, evIt, seq2, asT, asB, asI, binF, cmpF, at0, at1, post_bind, post_map, post_some, post_nif, post_ifn, post_ifs, R.isBo, R.isOk, R.isOw, R.isD, ls_ls, eq_self, E.quiet, quiets, quietO, It.quiet, Option.bind_some, Option.map_some, Option.bind_none, Option.map_none, Bool.false_and, Bool.and_false, Bool.true_and, Bool.and_true, Bool.not_true, Bool.not_false, Bool.false_eq_true, if_true, if_false, ite_true, ite_false, reduceIte, eq_int, lt_int, le_int, add_int, sub_int, mul_int, neg_int, div_int, mod_int, pow_int, List.take_zero, List.drop_zero, List.all_cons, List.all_nil, List.any_cons, List.any_nil, List.set_cons_zero, List.set_cons_succ, not_true_eq_false, not_false_eq_true, true_and, and_true, biF, un1, intF, absF, setR, setRs, frz_lst, frz_d, frz_no, frz_fr, Bool.or_false, Bool.false_or, R.toM, sz1, sz2, sz3, sz4, sz5, sz6, sz7, sz8, sz9, sz10, tru_bl, decide_eq_true_eq, Nat.zero_le, List.map_cons, List.map_nil, List.length_cons, List.length_nil]
  apply run_cons
  simp only [↓k6, Ev.exec, ev, evs, evO, evTO, evAnd, evOr, evIt, seq2, asT, asB, asI, binF, cmpF, at0, at1, post_bind, post_map, post_some, post_nif, post_ifn, post_ifs, R.isBo, R.isOk, R.isOw, R.isD, ls_ls, eq_self, E.quiet, quiets, quietO, It.quiet, Option.bind_some, Option.map_some, Option.bind_none, Option.map_none, Bool.false_and, Bool.and_false, Bool.true_and, Bool.and_true, Bool.not_true, Bool.not_false, Bool.false_eq_true, if_true, if_false, ite_true, ite_false, reduceIte, eq_int, lt_int, le_int, add_int, sub_int, mul_int, neg_int, div_int, mod_int, pow_int, List.take_zero, List.drop_zero, List.all_cons, List.all_nil, List.any_cons, List.any_nil, List.set_cons_zero, List.set_cons_succ, not_true_eq_false, not_false_eq_true, true_and, and_true, biF, un1, intF, absF, setR, setRs, frz_lst, frz_d, frz_no, frz_fr, Bool.or_false, Bool.false_or, R.toM, sz1, sz2, sz3, sz4, sz5, sz6, sz7, sz8, sz9, sz10, tru_bl, decide_eq_true_eq, Nat.zero_le, List.map_cons, List.map_nil, List.length_cons, List.length_nil, qS, g6, e6, kw2, eC, qC, run_nil]
  apply run_cons
  simp only [Ev.exec, ev, evs, evO, evTO, evAnd, evOr, evIt, seq2, asT, asB, asI, binF, cmpF, at0, at1, post_bind, post_map, post_some, post_nif, post_ifn, post_ifs, R.isBo, R.isOk, R.isOw, R.isD, ls_ls, eq_self, E.quiet, quiets, quietO, It.quiet, Option.bind_some, Option.map_some, Option.bind_none, Option.map_none, Bool.false_and, Bool.and_false, Bool.true_and, Bool.and_true, Bool.not_true, Bool.not_false, Bool.false_eq_true, if_true, if_false, ite_true, ite_false, reduceIte, eq_int, lt_int, le_int, add_int, sub_int, mul_int, neg_int, div_int, mod_int, pow_int, List.take_zero, List.drop_zero, List.all_cons, List.all_nil, List.any_cons, List.any_nil, List.set_cons_zero, List.set_cons_succ, not_true_eq_false, not_false_eq_true, true_and, and_true, biF, un1, intF, absF, setR, setRs, frz_lst, frz_d, frz_no, frz_fr, Bool.or_false, Bool.false_or, R.toM, sz1, sz2, sz3, sz4, sz5, sz6, sz7, sz8, sz9, sz10, tru_bl, decide_eq_true_eq, Nat.zero_le, List.map_cons, List.map_nil, List.length_cons, List.length_nil]
  apply run_cons
  simp only [Ev.exec, ev, evs, evO, evTO, evAnd, evOr, evIt, seq2, asT, asB, asI, binF, cmpF, at0, at1, post_bind, post_map, post_some, post_nif, post_ifn, post_ifs, R.isBo, R.isOk, R.isOw, R.isD, ls_ls, eq_self, E.quiet, quiets, quietO, It.quiet, Option.bind_some, Option.map_some, Option.bind_none, Option.map_none, Bool.false_and, Bool.and_false, Bool.true_and, Bool.and_true, Bool.not_true, Bool.not_false, Bool.false_eq_true, if_true, if_false, ite_true, ite_false, reduceIte, eq_int, lt_int, le_int, add_int, sub_int, mul_int, neg_int, div_int, mod_int, pow_int, List.take_zero, List.drop_zero, List.all_cons, List.all_nil, List.any_cons, List.any_nil, List.set_cons_zero, List.set_cons_succ, not_true_eq_false, not_false_eq_true, true_and, and_true, biF, un1, intF, absF, setR, setRs, frz_lst, frz_d, frz_no, frz_fr, Bool.or_false, Bool.false_or, R.toM, sz1, sz2, sz3, sz4, sz5, sz6, sz7, sz8, sz9, sz10, tru_bl, decide_eq_true_eq, Nat.zero_le, List.map_cons, List.map_nil, List.length_cons, List.length_nil]
  apply run_cons
  obtain ⟨jl, hjl1, hjl2⟩ : ∃ j : Int, lenF (.d (.tuple (U.map tupN))) = some (.d (.int j)) ∧ j = U.length := ⟨_, rfl, by rw [List.length_map]⟩
  have hjj := decide_eq_true (show j7 = jl by omega)
  simp only [Ev.exec, ev, evs, evO, evTO, evAnd, evOr, evIt, seq2, asT, asB, asI, binF, cmpF, at0, at1, post_bind, post_map, post_some, post_nif, post_ifn, post_ifs, R.isBo, R.isOk, R.isOw, R.isD, ls_ls, eq_self, E.quiet, quiets, quietO, It.quiet, Option.bind_some, Option.map_some, Option.bind_none, Option.map_none, Bool.false_and, Bool.and_false, Bool.true_and, Bool.and_true, Bool.not_true, Bool.not_false, Bool.false_eq_true, if_true, if_false, ite_true, ite_false, reduceIte, eq_int, lt_int, le_int, add_int, sub_int, mul_int, neg_int, div_int, mod_int, pow_int, List.take_zero, List.drop_zero, List.all_cons, List.all_nil, List.any_cons, List.any_nil, List.set_cons_zero, List.set_cons_succ, not_true_eq_false, not_false_eq_true, true_and, and_true, biF, un1, intF, absF, setR, setRs, frz_lst, frz_d, frz_no, frz_fr, Bool.or_false, Bool.false_or, R.toM, sz1, sz2, sz3, sz4, sz5, sz6, sz7, sz8, sz9, sz10, tru_bl, decide_eq_true_eq, Nat.zero_le, List.map_cons, List.map_nil, List.length_cons, List.length_nil, g7, e7, hjl1, hjj, eT, qT, run_nil]
  exact ⟨_, _, _, _, _, _, _, _, _, _, _, rfl, hb⟩
end LK57
end
section
set_option Elab.async false
set_option linter.all false
set_option maxRecDepth 100000
namespace LK57
open PySem L2 Ev
theorem ix3 {t : Int} (h0 : 0 ≤ t) (h1 : t < 3) (a b c : Int) : ∃ k, ixF (.ow (.ls [.d (.int a), .d (.int b), .d (.int c)])) (.d (.int t)) = some (.d (.int k)) ∧ (k = a ∨ k = b ∨ k = c) := by
  have : t = 0 ∨ t = 1 ∨ t = 2 := by omega
  rcases this with rfl | rfl | rfl
  · exact ⟨a, rfl, .inl rfl⟩
  · exact ⟨b, rfl, .inr (.inl rfl)⟩
  · exact ⟨c, rfl, .inr (.inr rfl)⟩
def polyL (w : Nat) : List (Nat × Nat) := ((List.range (w - 1)).map fun x => (x, x + 1)) ++ [(0, w - 1)]
def full4 : List (Nat × Nat) := [(0, 1), (0, 2), (0, 3), (1, 2), (1, 3), (2, 3)]
def webB (m : Nat) (ties : List (Nat × Nat)) : Bool := ties.all (fun t => decide (t.1 < t.2 ∧ t.2 < m)) && decide ties.Nodup && decide (ties.length ≤ 10)
theorem web_of {m : Nat} {ties : List (Nat × Nat)} (h : webB m ties = true) : Web m ties := by
  unfold webB at h
  simp only [Bool.and_eq_true, decide_eq_true_eq, List.all_eq_true] at h
  exact ⟨h.1.1, h.1.2, h.2⟩
theorem poly_web {w : Nat} (h3 : 3 ≤ w) (h6 : w ≤ 6) : Web w (polyL w) := by
  apply web_of
  have : w = 3 ∨ w = 4 ∨ w = 5 ∨ w = 6 := by omega
  rcases this with rfl | rfl | rfl | rfl <;> decide +kernel
theorem full4_web : Web 4 full4 := web_of (by decide +kernel)
theorem segA {T : Tbl} {D9 D10 : Fd} (g9 : T[9]? = some D9) (i9 : D9.io = true) (g10 : T[10]? = some D10) (i10 : D10.io = true)
    (s9 : ∀ {m : M} {k : Int}, BagOk m → 0 < k → k.natAbs.log2 < 9000 → Post (D9.g [.ow m, .int k]) fun r => ∃ i m', r = (.int i, .ow m') ∧ 0 ≤ i ∧ i < k ∧ BagOk m')
    (s10 : ∀ {m : Nat} {n most : Int}, n = m → m ≤ 8 → 0 ≤ most → most ≤ 6 → ∀ {b : M}, BagOk b → Post (D10.g [.ow b, .int n, .int most]) fun r => ∃ b' ties, r = (.tup (List.map tieP ties), .ow b') ∧ Web m ties ∧ BagOk b')
    (sB : ∀ {m : Nat} {ties : List (Nat × Nat)}, Web m ties → ∀ {n : Int}, n = m → m ≤ 90 → ∀ {s : R} {b : M} {r2 r5 r6 r7 r8 r9 r10 : R}, BagOk b →
      Post (execs T (tb.drop 4) [s, .ow b, r2, .int n, .tup (ties.map tieP), r5, r6, r7, r8, r9, r10, .no, .no, .no]) fun q => q.1 = .nx ∧ TE q.2)
    {s : R} {b : M} {t : Int} {r3 r4 r5 r6 r7 r8 r9 r10 : R} (hb : BagOk b) (t0 : 0 ≤ t) (t3 : t < 3) :
    Post (execs T tb [s, .ow b, .int t, r3, r4, r5, r6, r7, r8, r9, r10, .no, .no, .no]) fun q => q.1 = .nx ∧ TE q.2 := by
  obtain ⟨k, hk, hk'⟩ := ix3 t0 t3 8 5 4
  obtain ⟨k2, hk2, hk2'⟩ := ix3 t0 t3 5 6 6
  apply run_cons
  simp only [Ev.exec, ev, evs, evO, evTO, evAnd, evOr, evIt, seq2, asT, asB, asI, binF, cmpF, at0, at1, post_bind, post_map, post_some, post_nif, post_ifn, post_ifs, R.isBo, R.isOk, R.isOw, R.isD, ls_ls, eq_self, E.quiet, quiets, quietO, It.quiet, Option.bind_some, Option.map_some, Option.bind_none, Option.map_none, Bool.false_and, Bool.and_false, Bool.true_and, Bool.and_true, Bool.not_true, Bool.not_false, Bool.false_eq_true, if_true, if_false, ite_true, ite_false, reduceIte, eq_int, lt_int, le_int, add_int, sub_int, mul_int, neg_int, div_int, mod_int, pow_int, List.take_zero, List.drop_zero, List.all_cons, List.all_nil, List.any_cons, List.any_nil, List.set_cons_zero, List.set_cons_succ, not_true_eq_false, not_false_eq_true, true_and, and_true, biF, un1, intF, absF, setR, setRs, frz_lst, frz_d, frz_no, frz_fr, Bool.or_false, Bool.false_or, R.toM, sz1, sz2, sz3, sz4, sz5, sz6, sz7, sz8, sz9, sz10, tru_bl, decide_eq_true_eq, Nat.zero_le, List.map_cons, List.map_nil, List.length_cons, List.length_nil, hk, g9, i9]
  refine post_mono (s9 hb (by omega) (by have := log_le (a := 4) (show k.natAbs < 2 ^ 4 by omega); omega)) ?_
  rintro ⟨r, r0⟩ ⟨i, b, e, i0, i1, hb⟩
  cases e
  simp only [Ev.exec, ev, evs, evO, evTO, evAnd, evOr, evIt, seq2, asT, asB, asI, binF, cmpF, at0, at1, post_bind, post_map, post_some, post_nif, post_ifn, post_ifs, R.isBo, R.isOk, R.isOw, R.isD, ls_ls, eq_self, E.quiet, quiets, quietO, It.quiet, Option.bind_some, Option.map_some, Option.bind_none, Option.map_none, Bool.false_and, Bool.and_false, Bool.true_and, Bool.and_true, Bool.not_true, Bool.not_false, Bool.false_eq_true, if_true, if_false, ite_true, ite_false, reduceIte, eq_int, lt_int, le_int, add_int, sub_int, mul_int, neg_int, div_int, mod_int, pow_int, List.take_zero, List.drop_zero, List.all_cons, List.all_nil, List.any_cons, List.any_nil, List.set_cons_zero, List.set_cons_succ, not_true_eq_false, not_false_eq_true, true_and, and_true, biF, un1, intF, absF, setR, setRs, frz_lst, frz_d, frz_no, frz_fr, Bool.or_false, Bool.false_or, R.toM, sz1, sz2, sz3, sz4, sz5, sz6, sz7, sz8, sz9, sz10, tru_bl, decide_eq_true_eq, Nat.zero_le, List.map_cons, List.map_nil, List.length_cons, List.length_nil]
  obtain ⟨n, hn0, hn1⟩ : ∃ n : Int, 1 + i = n ∧ 1 ≤ n ∧ n ≤ 8 := ⟨_, rfl, by omega, by omega⟩
  rw [hn0]
  obtain ⟨w, hw⟩ : ∃ w : Nat, n = w := ⟨n.toNat, by omega⟩
  apply run_cons
  simp only [Ev.exec, ev, evs, evO, evTO, evAnd, evOr, evIt, seq2, asT, asB, asI, binF, cmpF, at0, at1, post_bind, post_map, post_some, post_nif, post_ifn, post_ifs, R.isBo, R.isOk, R.isOw, R.isD, ls_ls, eq_self, E.quiet, quiets, quietO, It.quiet, Option.bind_some, Option.map_some, Option.bind_none, Option.map_none, Bool.false_and, Bool.and_false, Bool.true_and, Bool.and_true, Bool.not_true, Bool.not_false, Bool.false_eq_true, if_true, if_false, ite_true, ite_false, reduceIte, eq_int, lt_int, le_int, add_int, sub_int, mul_int, neg_int, div_int, mod_int, pow_int, List.take_zero, List.drop_zero, List.all_cons, List.all_nil, List.any_cons, List.any_nil, List.set_cons_zero, List.set_cons_succ, not_true_eq_false, not_false_eq_true, true_and, and_true, biF, un1, intF, absF, setR, setRs, frz_lst, frz_d, frz_no, frz_fr, Bool.or_false, Bool.false_or, R.toM, sz1, sz2, sz3, sz4, sz5, sz6, sz7, sz8, sz9, sz10, tru_bl, decide_eq_true_eq, Nat.zero_le, List.map_cons, List.map_nil, List.length_cons, List.length_nil]
  apply run_cons
  simp only [Ev.exec, ev, evs, evO, evTO, evAnd, evOr, evIt, seq2, asT, asB, asI, binF, cmpF, at0, at1, post_bind, post_map, post_some, post_nif, post_ifn, post_ifs, R.isBo, R.isOk, R.isOw, R.isD, ls_ls, eq_self, E.quiet, quiets, quietO, It.quiet, Option.bind_some, Option.map_some, Option.bind_none, Option.map_none, Bool.false_and, Bool.and_false, Bool.true_and, Bool.and_true, Bool.not_true, Bool.not_false, Bool.false_eq_true, if_true, if_false, ite_true, ite_false, reduceIte, eq_int, lt_int, le_int, add_int, sub_int, mul_int, neg_int, div_int, mod_int, pow_int, List.take_zero, List.drop_zero, List.all_cons, List.all_nil, List.any_cons, List.any_nil, List.set_cons_zero, List.set_cons_succ, not_true_eq_false, not_false_eq_true, true_and, and_true, biF, un1, intF, absF, setR, setRs, frz_lst, frz_d, frz_no, frz_fr, Bool.or_false, Bool.false_or, R.toM, sz1, sz2, sz3, sz4, sz5, sz6, sz7, sz8, sz9, sz10, tru_bl, decide_eq_true_eq, Nat.zero_le, List.map_cons, List.map_nil, List.length_cons, List.length_nil, hk2, g10, i10]
  refine post_mono (s10 hw (by omega) (by omega) (by omega) hb) ?_
  rintro ⟨r, r0⟩ ⟨b, ties, e, hweb, hb⟩
  cases e
  simp only [Ev.exec, ev, evs, evO, evTO, evAnd, evOr, evIt, seq2, asT, asB, asI, binF, cmpF, at0, at1, post_bind, post_map, post_some, post_nif, post_ifn, post_ifs, R.isBo, R.isOk, R.isOw, R.isD, ls_ls, eq_self, E.quiet, quiets, quietO, It.quiet, Option.bind_some, Option.map_some, Option.bind_none, Option.map_none, Bool.false_and, Bool.and_false, Bool.true_and, Bool.and_true, Bool.not_true, Bool.not_false, Bool.false_eq_true, if_true, if_false, ite_true, ite_false, reduceIte, eq_int, lt_int, le_int, add_int, sub_int, mul_int, neg_int, div_int, mod_int, pow_int, List.take_zero, List.drop_zero, List.all_cons, List.all_nil, List.any_cons, List.any_nil, List.set_cons_zero, List.set_cons_succ, not_true_eq_false, not_false_eq_true, true_and, and_true, biF, un1, intF, absF, setR, setRs, frz_lst, frz_d, frz_no, frz_fr, Bool.or_false, Bool.false_or, R.toM, sz1, sz2, sz3, sz4, sz5, sz6, sz7, sz8, sz9, sz10, tru_bl, decide_eq_true_eq, Nat.zero_le, List.map_cons, List.map_nil, List.length_cons, List.length_nil]
  apply run_cons
  by_cases ht : t = 2
  · have ht' := decide_eq_true ht
    have ec : eqF (.d (.int t)) (.d (.int 2)) = some true := by rw [eq_int, ht']
    simp only [Ev.exec, ev, evs, evO, evTO, evAnd, evOr, evIt, seq2, asT, asB, asI, binF, cmpF, at0, at1, post_bind, post_map, post_some, post_nif, post_ifn, post_ifs, R.isBo, R.isOk, R.isOw, R.isD, ls_ls, eq_self, E.quiet, quiets, quietO, It.quiet, Option.bind_some, Option.map_some, Option.bind_none, Option.map_none, Bool.false_and, Bool.and_false, Bool.true_and, Bool.and_true, Bool.not_true, Bool.not_false, Bool.false_eq_true, if_true, if_false, ite_true, ite_false, reduceIte, eq_int, lt_int, le_int, add_int, sub_int, mul_int, neg_int, div_int, mod_int, pow_int, List.take_zero, List.drop_zero, List.all_cons, List.all_nil, List.any_cons, List.any_nil, List.set_cons_zero, List.set_cons_succ, not_true_eq_false, not_false_eq_true, true_and, and_true, biF, un1, intF, absF, setR, setRs, frz_lst, frz_d, frz_no, frz_fr, Bool.or_false, Bool.false_or, R.toM, tru_bl, decide_eq_true_eq, Nat.zero_le, List.map_cons, List.map_nil, List.length_cons, List.length_nil, ↓ec, g9, i9]
    refine post_mono (s9 hb (by decide) (by decide)) ?_
    rintro ⟨r, r0⟩ ⟨i2, b, e, _, _, hb⟩
    cases e
    by_cases hi2 : i2 = 0
    · have hd2 := decide_eq_true hi2
      simp only [Ev.exec, ev, evs, evO, evTO, evAnd, evOr, evIt, seq2, asT, asB, asI, binF, cmpF, at0, at1, post_bind, post_map, post_some, post_nif, post_ifn, post_ifs, R.isBo, R.isOk, R.isOw, R.isD, ls_ls, eq_self, E.quiet, quiets, quietO, It.quiet, Option.bind_some, Option.map_some, Option.bind_none, Option.map_none, Bool.false_and, Bool.and_false, Bool.true_and, Bool.and_true, Bool.not_true, Bool.not_false, Bool.false_eq_true, if_true, if_false, ite_true, ite_false, reduceIte, eq_int, lt_int, le_int, add_int, sub_int, mul_int, neg_int, div_int, mod_int, pow_int, List.take_zero, List.drop_zero, List.all_cons, List.all_nil, List.any_cons, List.any_nil, List.set_cons_zero, List.set_cons_succ, not_true_eq_false, not_false_eq_true, true_and, and_true, biF, un1, intF, absF, setR, setRs, frz_lst, frz_d, frz_no, frz_fr, Bool.or_false, Bool.false_or, R.toM, sz1, sz2, sz3, sz4, sz5, sz6, sz7, sz8, sz9, sz10, tru_bl, decide_eq_true_eq, Nat.zero_le, List.map_cons, List.map_nil, List.length_cons, List.length_nil, hd2]
      apply run_cons
      simp only [Ev.exec, ev, evs, evO, evTO, evAnd, evOr, evIt, seq2, asT, asB, asI, binF, cmpF, at0, at1, post_bind, post_map, post_some, post_nif, post_ifn, post_ifs, R.isBo, R.isOk, R.isOw, R.isD, ls_ls, eq_self, E.quiet, quiets, quietO, It.quiet, Option.bind_some, Option.map_some, Option.bind_none, Option.map_none, Bool.false_and, Bool.and_false, Bool.true_and, Bool.and_true, Bool.not_true, Bool.not_false, Bool.false_eq_true, if_true, if_false, ite_true, ite_false, reduceIte, eq_int, lt_int, le_int, add_int, sub_int, mul_int, neg_int, div_int, mod_int, pow_int, List.take_zero, List.drop_zero, List.all_cons, List.all_nil, List.any_cons, List.any_nil, List.set_cons_zero, List.set_cons_succ, not_true_eq_false, not_false_eq_true, true_and, and_true, biF, un1, intF, absF, setR, setRs, frz_lst, frz_d, frz_no, frz_fr, Bool.or_false, Bool.false_or, R.toM, sz1, sz2, sz3, sz4, sz5, sz6, sz7, sz8, sz9, sz10, tru_bl, decide_eq_true_eq, Nat.zero_le, List.map_cons, List.map_nil, List.length_cons, List.length_nil, g9, i9]
      refine post_mono (s9 hb (by decide) (by decide)) ?_
      rintro ⟨r, r0⟩ ⟨i3, b, e, i30, i31, hb⟩
      cases e
      simp only [Ev.exec, ev, evs, evO, evTO, evAnd, evOr, evIt, seq2, asT, asB, asI, binF, cmpF, at0, at1, post_bind, post_map, post_some, post_nif, post_ifn, post_ifs, R.isBo, R.isOk, R.isOw, R.isD, ls_ls, eq_self, E.quiet, quiets, quietO, It.quiet, Option.bind_some, Option.map_some, Option.bind_none, Option.map_none, Bool.false_and, Bool.and_false, Bool.true_and, Bool.and_true, Bool.not_true, Bool.not_false, Bool.false_eq_true, if_true, if_false, ite_true, ite_false, reduceIte, eq_int, lt_int, le_int, add_int, sub_int, mul_int, neg_int, div_int, mod_int, pow_int, List.take_zero, List.drop_zero, List.all_cons, List.all_nil, List.any_cons, List.any_nil, List.set_cons_zero, List.set_cons_succ, not_true_eq_false, not_false_eq_true, true_and, and_true, biF, un1, intF, absF, setR, setRs, frz_lst, frz_d, frz_no, frz_fr, Bool.or_false, Bool.false_or, R.toM, sz1, sz2, sz3, sz4, sz5, sz6, sz7, sz8, sz9, sz10, tru_bl, decide_eq_true_eq, Nat.zero_le, List.map_cons, List.map_nil, List.length_cons, List.length_nil]
      clear hn0 hn1 hw hweb
      obtain ⟨n, hn0, hn1⟩ : ∃ n : Int, 3 + i3 = n ∧ 3 ≤ n ∧ n ≤ 6 := ⟨_, rfl, by omega, by omega⟩
      rw [hn0]
      obtain ⟨w, hw⟩ : ∃ w : Nat, n = w := ⟨n.toNat, by omega⟩
      obtain ⟨n1, hn1e, hn1w⟩ : ∃ n1 : Int, subF (.d (.int n)) (.d (.int 1)) = some (.d (.int n1)) ∧ n1 = (w - 1 : Nat) := ⟨_, rfl, by omega⟩
      have hI : PyData.int n1 = I (w - 1) := by rw [hn1w]; rfl
      apply run_cons
      have hc := ev_comp (T := T) (own := [("x", 13)]) (g := .nm 13) (it := .rg [.bin .Sub (.nm 3) (.int 1)]) (t := none) (e := .tup [.nm 13, .bin .Add (.nm 13) (.int 1)])
        (ρ := [s, .ow b, .int t, .int n, .tup (ties.map tieP), r5, r6, r7, r8, r9, r10, .no, .no, .no]) (ρ1 := [s, .ow b, .int t, .int n, .tup (ties.map tieP), r5, r6, r7, r8, r9, r10, .no, .no, .no]) (R.d ∘ I) (fun x => some (M.d (tieP (x, x + 1)))) (List.range (w - 1)) false
        (by
          have e3 : rgF [.d (.int n1)] = some (0, n1) := by rw [rg1, if_pos (by omega)]
          simp only [Ev.exec, ev, evs, evO, evTO, evAnd, evOr, evIt, seq2, asT, asB, asI, binF, cmpF, at0, at1, post_bind, post_map, post_some, post_nif, post_ifn, post_ifs, R.isBo, R.isOk, R.isOw, R.isD, ls_ls, eq_self, E.quiet, quiets, quietO, It.quiet, Option.bind_some, Option.map_some, Option.bind_none, Option.map_none, Bool.false_and, Bool.and_false, Bool.true_and, Bool.and_true, Bool.not_true, Bool.not_false, Bool.false_eq_true, if_true, if_false, ite_true, ite_false, reduceIte, eq_int, lt_int, le_int, add_int, sub_int, mul_int, neg_int, div_int, mod_int, pow_int, List.take_zero, List.drop_zero, List.all_cons, List.all_nil, List.any_cons, List.any_nil, List.set_cons_zero, List.set_cons_succ, not_true_eq_false, not_false_eq_true, true_and, and_true, biF, un1, intF, absF, setR, setRs, frz_lst, frz_d, frz_no, frz_fr, Bool.or_false, Bool.false_or, R.toM, tru_bl, decide_eq_true_eq, Nat.zero_le, List.map_cons, List.map_nil, List.length_cons, List.length_nil, ↓hn1e, e3]
          rw [rgL_nat hn1w, List.map_map])
        rfl rfl (fun x hx => ⟨[s, .ow b, .int t, .int n, .tup (ties.map tieP), r5, r6, r7, r8, r9, r10, .no, .no, .d (I x)], rfl, rfl, by
          have ea : addF (.d (I x)) (.d (.int 1)) = some (.d (I (x + 1))) := addI x 1
          simp only [Ev.exec, ev, evs, evO, evTO, evAnd, evOr, evIt, seq2, asT, asB, asI, binF, cmpF, at0, at1, post_bind, post_map, post_some, post_nif, post_ifn, post_ifs, R.isBo, R.isOk, R.isOw, R.isD, ls_ls, eq_self, E.quiet, quiets, quietO, It.quiet, Option.bind_some, Option.map_some, Option.bind_none, Option.map_none, Bool.false_and, Bool.and_false, Bool.true_and, Bool.and_true, Bool.not_true, Bool.not_false, Bool.false_eq_true, if_true, if_false, ite_true, ite_false, reduceIte, eq_int, lt_int, le_int, add_int, sub_int, mul_int, neg_int, div_int, mod_int, pow_int, List.take_zero, List.drop_zero, List.all_cons, List.all_nil, List.any_cons, List.any_nil, List.set_cons_zero, List.set_cons_succ, not_true_eq_false, not_false_eq_true, true_and, and_true, biF, un1, intF, absF, setR, setRs, frz_lst, frz_d, frz_no, frz_fr, Bool.or_false, Bool.false_or, R.toM, sz1, sz2, sz3, sz4, sz5, sz6, sz7, sz8, sz9, sz10, tru_bl, decide_eq_true_eq, Nat.zero_le, List.map_cons, List.map_nil, List.length_cons, List.length_nil, ea, mapM2]
          rfl⟩) (by rw [List.length_range, sizeLine_eq]; omega)
      rw [fm_map] at hc
      have e9 : (List.range (w - 1)).map (fun x => M.d (tieP (x, x + 1))) = (((List.range (w - 1)).map fun x => (x, x + 1)).map tieP).map M.d := by rw [List.map_map, List.map_map]; rfl
      rw [e9] at hc
      have hl : ev T (.lst [.tup [.int 0, .bin .Sub (.nm 3) (.int 1)]]) [s, .ow b, .int t, .int n, .tup (ties.map tieP), r5, r6, r7, r8, r9, r10, .no, .no, .no] = some (.lst ([(0, w - 1)].map tieP), [s, .ow b, .int t, .int n, .tup (ties.map tieP), r5, r6, r7, r8, r9, r10, .no, .no, .no]) := by
        simp only [Ev.exec, ev, evs, evO, evTO, evAnd, evOr, evIt, seq2, asT, asB, asI, binF, cmpF, at0, at1, post_bind, post_map, post_some, post_nif, post_ifn, post_ifs, R.isBo, R.isOk, R.isOw, R.isD, ls_ls, eq_self, E.quiet, quiets, quietO, It.quiet, Option.bind_some, Option.map_some, Option.bind_none, Option.map_none, Bool.false_and, Bool.and_false, Bool.true_and, Bool.and_true, Bool.not_true, Bool.not_false, Bool.false_eq_true, if_true, if_false, ite_true, ite_false, reduceIte, eq_int, lt_int, le_int, add_int, sub_int, mul_int, neg_int, div_int, mod_int, pow_int, List.take_zero, List.drop_zero, List.all_cons, List.all_nil, List.any_cons, List.any_nil, List.set_cons_zero, List.set_cons_succ, not_true_eq_false, not_false_eq_true, true_and, and_true, biF, un1, intF, absF, setR, setRs, frz_lst, frz_d, frz_no, frz_fr, Bool.or_false, Bool.false_or, R.toM, sz1, sz2, sz3, sz4, sz5, sz6, sz7, sz8, sz9, sz10, tru_bl, decide_eq_true_eq, Nat.zero_le, List.map_cons, List.map_nil, List.length_cons, List.length_nil, ↓hn1e, mapM2, hI]
        first | done | rfl
      obtain ⟨ps, hps, hsort⟩ := sort_ties (polyL w)
      have hadd : addF (.ow (.ls ((((List.range (w - 1)).map fun x => (x, x + 1)).map tieP).map M.d))) (.lst [tieP (0, w - 1)]) = some (.lst ((polyL w).map tieP)) := by
        rw [polyL, List.map_append]
        exact addl_ow (c := true) (leafs_lst _) (leafs_lst [tieP (0, w - 1)]) (by rw [List.length_map, List.length_map, List.length_range, List.length_map, List.length_singleton, sizeLine_eq]; omega)
      have hb2 : ev T (.bi .tuple [.bi .sorted [.bin .Add (.comp [("x", 13)] (.nm 13) (.rg [.bin .Sub (.nm 3) (.int 1)]) none (.tup [.nm 13, .bin .Add (.nm 13) (.int 1)])) (.lst [.tup [.int 0, .bin .Sub (.nm 3) (.int 1)]])]]) [s, .ow b, .int t, .int n, .tup (ties.map tieP), r5, r6, r7, r8, r9, r10, .no, .no, .no] = some (.tup (ps.map tieP), [s, .ow b, .int t, .int n, .tup (ties.map tieP), r5, r6, r7, r8, r9, r10, .no, .no, .no]) := by
        rw [ev, evs, ev, evs, ev, seq2, hc, Option.bind_some]
        dsimp only
        simp only [backE, wipeE, List.map_cons, List.map_nil, List.set_cons_succ, List.set_cons_zero, at0, at1]
        rw [hl]
        simp only [Ev.exec, ev, evs, evO, evTO, evAnd, evOr, evIt, seq2, asT, asB, asI, binF, cmpF, at0, at1, post_bind, post_map, post_some, post_nif, post_ifn, post_ifs, R.isBo, R.isOk, R.isOw, R.isD, ls_ls, eq_self, E.quiet, quiets, quietO, It.quiet, Option.bind_some, Option.map_some, Option.bind_none, Option.map_none, Bool.false_and, Bool.and_false, Bool.true_and, Bool.and_true, Bool.not_true, Bool.not_false, Bool.false_eq_true, if_true, if_false, ite_true, ite_false, reduceIte, eq_int, lt_int, le_int, add_int, sub_int, mul_int, neg_int, div_int, mod_int, pow_int, List.take_zero, List.drop_zero, List.all_cons, List.all_nil, List.any_cons, List.any_nil, List.set_cons_zero, List.set_cons_succ, not_true_eq_false, not_false_eq_true, true_and, and_true, biF, un1, intF, absF, setR, setRs, frz_lst, frz_d, frz_no, frz_fr, Bool.or_false, Bool.false_or, R.toM, sz1, sz2, sz3, sz4, sz5, sz6, sz7, sz8, sz9, sz10, tru_bl, decide_eq_true_eq, Nat.zero_le, List.map_cons, List.map_nil, List.length_cons, List.length_nil, hadd, reads_lst, hsort]
      rw [Ev.exec, hb2]
      simp only [Ev.exec, ev, evs, evO, evTO, evAnd, evOr, evIt, seq2, asT, asB, asI, binF, cmpF, at0, at1, post_bind, post_map, post_some, post_nif, post_ifn, post_ifs, R.isBo, R.isOk, R.isOw, R.isD, ls_ls, eq_self, E.quiet, quiets, quietO, It.quiet, Option.bind_some, Option.map_some, Option.bind_none, Option.map_none, Bool.false_and, Bool.and_false, Bool.true_and, Bool.and_true, Bool.not_true, Bool.not_false, Bool.false_eq_true, if_true, if_false, ite_true, ite_false, reduceIte, eq_int, lt_int, le_int, add_int, sub_int, mul_int, neg_int, div_int, mod_int, pow_int, List.take_zero, List.drop_zero, List.all_cons, List.all_nil, List.any_cons, List.any_nil, List.set_cons_zero, List.set_cons_succ, not_true_eq_false, not_false_eq_true, true_and, and_true, biF, un1, intF, absF, setR, setRs, frz_lst, frz_d, frz_no, frz_fr, Bool.or_false, Bool.false_or, R.toM, sz1, sz2, sz3, sz4, sz5, sz6, sz7, sz8, sz9, sz10, tru_bl, decide_eq_true_eq, Nat.zero_le, List.map_cons, List.map_nil, List.length_cons, List.length_nil]
      apply run_cons
      simp only [Ev.exec, ev, evs, evO, evTO, evAnd, evOr, evIt, seq2, asT, asB, asI, binF, cmpF, at0, at1, post_bind, post_map, post_some, post_nif, post_ifn, post_ifs, R.isBo, R.isOk, R.isOw, R.isD, ls_ls, eq_self, E.quiet, quiets, quietO, It.quiet, Option.bind_some, Option.map_some, Option.bind_none, Option.map_none, Bool.false_and, Bool.and_false, Bool.true_and, Bool.and_true, Bool.not_true, Bool.not_false, Bool.false_eq_true, if_true, if_false, ite_true, ite_false, reduceIte, eq_int, lt_int, le_int, add_int, sub_int, mul_int, neg_int, div_int, mod_int, pow_int, List.take_zero, List.drop_zero, List.all_cons, List.all_nil, List.any_cons, List.any_nil, List.set_cons_zero, List.set_cons_succ, not_true_eq_false, not_false_eq_true, true_and, and_true, biF, un1, intF, absF, setR, setRs, frz_lst, frz_d, frz_no, frz_fr, Bool.or_false, Bool.false_or, R.toM, sz1, sz2, sz3, sz4, sz5, sz6, sz7, sz8, sz9, sz10, tru_bl, decide_eq_true_eq, Nat.zero_le, List.map_cons, List.map_nil, List.length_cons, List.length_nil, g9, i9]
      refine post_mono (s9 hb (by decide) (by decide)) ?_
      rintro ⟨r, r0⟩ ⟨i4, b, e, _, _, hb⟩
      cases e
      by_cases hi4 : i4 = 0
      · have hd4 := decide_eq_true hi4
        simp only [Ev.exec, ev, evs, evO, evTO, evAnd, evOr, evIt, seq2, asT, asB, asI, binF, cmpF, at0, at1, post_bind, post_map, post_some, post_nif, post_ifn, post_ifs, R.isBo, R.isOk, R.isOw, R.isD, ls_ls, eq_self, E.quiet, quiets, quietO, It.quiet, Option.bind_some, Option.map_some, Option.bind_none, Option.map_none, Bool.false_and, Bool.and_false, Bool.true_and, Bool.and_true, Bool.not_true, Bool.not_false, Bool.false_eq_true, if_true, if_false, ite_true, ite_false, reduceIte, eq_int, lt_int, le_int, add_int, sub_int, mul_int, neg_int, div_int, mod_int, pow_int, List.take_zero, List.drop_zero, List.all_cons, List.all_nil, List.any_cons, List.any_nil, List.set_cons_zero, List.set_cons_succ, not_true_eq_false, not_false_eq_true, true_and, and_true, biF, un1, intF, absF, setR, setRs, frz_lst, frz_d, frz_no, frz_fr, Bool.or_false, Bool.false_or, R.toM, sz1, sz2, sz3, sz4, sz5, sz6, sz7, sz8, sz9, sz10, tru_bl, decide_eq_true_eq, Nat.zero_le, List.map_cons, List.map_nil, List.length_cons, List.length_nil, hd4]
        apply run_cons
        have hk4 : ∀ ρ : Ev.Env, ev T (.tup [.tup [.int 0, .int 1], .tup [.int 0, .int 2], .tup [.int 0, .int 3], .tup [.int 1, .int 2], .tup [.int 1, .int 3], .tup [.int 2, .int 3]]) ρ = some (.tup (full4.map tieP), ρ) := fun ρ => rfl
        rw [Ev.exec, evs, ev, Option.bind_some]
        dsimp only
        rw [evs, hk4]
        simp only [Ev.exec, ev, evs, evO, evTO, evAnd, evOr, evIt, seq2, asT, asB, asI, binF, cmpF, at0, at1, post_bind, post_map, post_some, post_nif, post_ifn, post_ifs, R.isBo, R.isOk, R.isOw, R.isD, ls_ls, eq_self, E.quiet, quiets, quietO, It.quiet, Option.bind_some, Option.map_some, Option.bind_none, Option.map_none, Bool.false_and, Bool.and_false, Bool.true_and, Bool.and_true, Bool.not_true, Bool.not_false, Bool.false_eq_true, if_true, if_false, ite_true, ite_false, reduceIte, eq_int, lt_int, le_int, add_int, sub_int, mul_int, neg_int, div_int, mod_int, pow_int, List.take_zero, List.drop_zero, List.all_cons, List.all_nil, List.any_cons, List.any_nil, List.set_cons_zero, List.set_cons_succ, not_true_eq_false, not_false_eq_true, true_and, and_true, biF, un1, intF, absF, setR, setRs, frz_lst, frz_d, frz_no, frz_fr, Bool.or_false, Bool.false_or, R.toM, sz1, sz2, sz3, sz4, sz5, sz6, sz7, sz8, sz9, sz10, tru_bl, decide_eq_true_eq, Nat.zero_le, List.map_cons, List.map_nil, List.length_cons, List.length_nil, run_nil]
        exact sB full4_web (n := 4) rfl (by decide) hb
      · have hd4 := decide_eq_false hi4
        simp only [Ev.exec, ev, evs, evO, evTO, evAnd, evOr, evIt, seq2, asT, asB, asI, binF, cmpF, at0, at1, post_bind, post_map, post_some, post_nif, post_ifn, post_ifs, R.isBo, R.isOk, R.isOw, R.isD, ls_ls, eq_self, E.quiet, quiets, quietO, It.quiet, Option.bind_some, Option.map_some, Option.bind_none, Option.map_none, Bool.false_and, Bool.and_false, Bool.true_and, Bool.and_true, Bool.not_true, Bool.not_false, Bool.false_eq_true, if_true, if_false, ite_true, ite_false, reduceIte, eq_int, lt_int, le_int, add_int, sub_int, mul_int, neg_int, div_int, mod_int, pow_int, List.take_zero, List.drop_zero, List.all_cons, List.all_nil, List.any_cons, List.any_nil, List.set_cons_zero, List.set_cons_succ, not_true_eq_false, not_false_eq_true, true_and, and_true, biF, un1, intF, absF, setR, setRs, frz_lst, frz_d, frz_no, frz_fr, Bool.or_false, Bool.false_or, R.toM, sz1, sz2, sz3, sz4, sz5, sz6, sz7, sz8, sz9, sz10, tru_bl, decide_eq_true_eq, Nat.zero_le, List.map_cons, List.map_nil, List.length_cons, List.length_nil, hd4, run_nil]
        exact sB ((poly_web (by omega) (by omega)).perm hps) hw (by omega) hb
    · have hd2 := decide_eq_false hi2
      simp only [Ev.exec, ev, evs, evO, evTO, evAnd, evOr, evIt, seq2, asT, asB, asI, binF, cmpF, at0, at1, post_bind, post_map, post_some, post_nif, post_ifn, post_ifs, R.isBo, R.isOk, R.isOw, R.isD, ls_ls, eq_self, E.quiet, quiets, quietO, It.quiet, Option.bind_some, Option.map_some, Option.bind_none, Option.map_none, Bool.false_and, Bool.and_false, Bool.true_and, Bool.and_true, Bool.not_true, Bool.not_false, Bool.false_eq_true, if_true, if_false, ite_true, ite_false, reduceIte, eq_int, lt_int, le_int, add_int, sub_int, mul_int, neg_int, div_int, mod_int, pow_int, List.take_zero, List.drop_zero, List.all_cons, List.all_nil, List.any_cons, List.any_nil, List.set_cons_zero, List.set_cons_succ, not_true_eq_false, not_false_eq_true, true_and, and_true, biF, un1, intF, absF, setR, setRs, frz_lst, frz_d, frz_no, frz_fr, Bool.or_false, Bool.false_or, R.toM, sz1, sz2, sz3, sz4, sz5, sz6, sz7, sz8, sz9, sz10, tru_bl, decide_eq_true_eq, Nat.zero_le, List.map_cons, List.map_nil, List.length_cons, List.length_nil, hd2, run_nil]
      exact sB hweb hw (by omega) hb
  · have ht' := decide_eq_false ht
    simp only [Ev.exec, ev, evs, evO, evTO, evAnd, evOr, evIt, seq2, asT, asB, asI, binF, cmpF, at0, at1, post_bind, post_map, post_some, post_nif, post_ifn, post_ifs, R.isBo, R.isOk, R.isOw, R.isD, ls_ls, eq_self, E.quiet, quiets, quietO, It.quiet, Option.bind_some, Option.map_some, Option.bind_none, Option.map_none, Bool.false_and, Bool.and_false, Bool.true_and, Bool.and_true, Bool.not_true, Bool.not_false, Bool.false_eq_true, if_true, if_false, ite_true, ite_false, reduceIte, eq_int, lt_int, le_int, add_int, sub_int, mul_int, neg_int, div_int, mod_int, pow_int, List.take_zero, List.drop_zero, List.all_cons, List.all_nil, List.any_cons, List.any_nil, List.set_cons_zero, List.set_cons_succ, not_true_eq_false, not_false_eq_true, true_and, and_true, biF, un1, intF, absF, setR, setRs, frz_lst, frz_d, frz_no, frz_fr, Bool.or_false, Bool.false_or, R.toM, sz1, sz2, sz3, sz4, sz5, sz6, sz7, sz8, sz9, sz10, tru_bl, decide_eq_true_eq, Nat.zero_le, List.map_cons, List.map_nil, List.length_cons, List.length_nil, ht', run_nil]
    exact sB hweb hw (by omega) hb
end LK57
end
section
set_option Elab.async false
set_option linter.all false
set_option maxRecDepth 100000
namespace LK57
open PySem L2 Ev
theorem ways_gen {T : Tbl} {D5 : Fd} (g5 : T[5]? = some D5) {n : Int} {x : PyData} {U : List PyData} (s5 : Post (D5.g [.int n, .d x]) fun r => r.1 = .tup U) :
    Post (evDef T 2 b7 [.int n, .d x]) fun r => ∃ j : Int, r.1 = .int j ∧ j = U.length := by
  apply def_run
  show Post (execs T b7 [.int n, .d x]) _
  unfold b7
  apply run_cons
  simp only [Ev.exec, ev, evs, evO, evTO, evAnd, evOr, evIt, seq2, asT, asB, asI, binF, cmpF, at0, at1, post_bind, post_map, post_some, post_nif, post_ifn, post_ifs, R.isBo, R.isOk, R.isOw, R.isD, ls_ls, eq_self, E.quiet, quiets, quietO, It.quiet, Option.bind_some, Option.map_some, Option.bind_none, Option.map_none, Bool.false_and, Bool.and_false, Bool.true_and, Bool.and_true, Bool.not_true, Bool.not_false, Bool.false_eq_true, if_true, if_false, ite_true, ite_false, reduceIte, eq_int, lt_int, le_int, add_int, sub_int, mul_int, neg_int, div_int, mod_int, pow_int, List.take_zero, List.drop_zero, List.all_cons, List.all_nil, List.any_cons, List.any_nil, List.set_cons_zero, List.set_cons_succ, not_true_eq_false, not_false_eq_true, true_and, and_true, biF, un1, intF, absF, setR, setRs, frz_lst, frz_d, frz_no, frz_fr, Bool.or_false, Bool.false_or, R.toM, sz1, sz2, sz3, sz4, sz5, sz6, sz7, sz8, sz9, sz10, tru_bl, decide_eq_true_eq, Nat.zero_le, List.map_cons, List.map_nil, List.length_cons, List.length_nil]
  apply run_cons
  simp only [Ev.exec, ev, evs, evO, evTO, evAnd, evOr, evIt, seq2, asT, asB, asI, binF, cmpF, at0, at1, post_bind, post_map, post_some, post_nif, post_ifn, post_ifs, R.isBo, R.isOk, R.isOw, R.isD, ls_ls, eq_self, E.quiet, quiets, quietO, It.quiet, Option.bind_some, Option.map_some, Option.bind_none, Option.map_none, Bool.false_and, Bool.and_false, Bool.true_and, Bool.and_true, Bool.not_true, Bool.not_false, Bool.false_eq_true, if_true, if_false, ite_true, ite_false, reduceIte, eq_int, lt_int, le_int, add_int, sub_int, mul_int, neg_int, div_int, mod_int, pow_int, List.take_zero, List.drop_zero, List.all_cons, List.all_nil, List.any_cons, List.any_nil, List.set_cons_zero, List.set_cons_succ, not_true_eq_false, not_false_eq_true, true_and, and_true, biF, un1, intF, absF, setR, setRs, frz_lst, frz_d, frz_no, frz_fr, Bool.or_false, Bool.false_or, R.toM, sz1, sz2, sz3, sz4, sz5, sz6, sz7, sz8, sz9, sz10, tru_bl, decide_eq_true_eq, Nat.zero_le, List.map_cons, List.map_nil, List.length_cons, List.length_nil]
  apply run_ret
  simp only [Ev.exec, ev, evs, evO, evTO, evAnd, evOr, evIt, seq2, asT, asB, asI, binF, cmpF, at0, at1, post_bind, post_map, post_some, post_nif, post_ifn, post_ifs, R.isBo, R.isOk, R.isOw, R.isD, ls_ls, eq_self, E.quiet, quiets, quietO, It.quiet, Option.bind_some, Option.map_some, Option.bind_none, Option.map_none, Bool.false_and, Bool.and_false, Bool.true_and, Bool.and_true, Bool.not_true, Bool.not_false, Bool.false_eq_true, if_true, if_false, ite_true, ite_false, reduceIte, eq_int, lt_int, le_int, add_int, sub_int, mul_int, neg_int, div_int, mod_int, pow_int, List.take_zero, List.drop_zero, List.all_cons, List.all_nil, List.any_cons, List.any_nil, List.set_cons_zero, List.set_cons_succ, not_true_eq_false, not_false_eq_true, true_and, and_true, biF, un1, intF, absF, setR, setRs, frz_lst, frz_d, frz_no, frz_fr, Bool.or_false, Bool.false_or, R.toM, sz1, sz2, sz3, sz4, sz5, sz6, sz7, sz8, sz9, sz10, tru_bl, decide_eq_true_eq, Nat.zero_le, List.map_cons, List.map_nil, List.length_cons, List.length_nil, g5]
  refine post_mono s5 ?_
  rintro ⟨r, r0⟩ h
  cases h
  simp only [Ev.exec, ev, evs, evO, evTO, evAnd, evOr, evIt, seq2, asT, asB, asI, binF, cmpF, at0, at1, post_bind, post_map, post_some, post_nif, post_ifn, post_ifs, R.isBo, R.isOk, R.isOw, R.isD, ls_ls, eq_self, E.quiet, quiets, quietO, It.quiet, Option.bind_some, Option.map_some, Option.bind_none, Option.map_none, Bool.false_and, Bool.and_false, Bool.true_and, Bool.and_true, Bool.not_true, Bool.not_false, Bool.false_eq_true, if_true, if_false, ite_true, ite_false, reduceIte, eq_int, lt_int, le_int, add_int, sub_int, mul_int, neg_int, div_int, mod_int, pow_int, List.take_zero, List.drop_zero, List.all_cons, List.all_nil, List.any_cons, List.any_nil, List.set_cons_zero, List.set_cons_succ, not_true_eq_false, not_false_eq_true, true_and, and_true, biF, un1, intF, absF, setR, setRs, frz_lst, frz_d, frz_no, frz_fr, Bool.or_false, Bool.false_or, R.toM, sz1, sz2, sz3, sz4, sz5, sz6, sz7, sz8, sz9, sz10, tru_bl, decide_eq_true_eq, Nat.zero_le, List.map_cons, List.map_nil, List.length_cons, List.length_nil, len_dt]
  exact ⟨_, rfl, _, rfl, rfl⟩
theorem main_gen {T : Tbl} {D8 : Fd} (ns : List Int) (g8 : T[8]? = some D8) (s8 : Post (D8.g [.fr (.sq (ns.map .int))]) fun r => ∃ m, r.1 = .ow m ∧ BagOk m)
    (sA : ∀ {s : R} {b : M} {t : Int} {r3 r4 r5 r6 r7 r8 r9 r10 : R}, BagOk b → 0 ≤ t → t < 3 → Post (execs T tb [s, .ow b, .int t, r3, r4, r5, r6, r7, r8, r9, r10, .no, .no, .no]) fun q => q.1 = .nx ∧ TE q.2) :
    Post (evDef T 14 b17 [.fr (.sq (ns.map .int))]) fun r => r.1 = .bl true := by
  apply def_run
  show Post (execs T b17 [.fr (.sq (ns.map .int)), .no, .no, .no, .no, .no, .no, .no, .no, .no, .no, .no, .no, .no]) _
  unfold b17
  apply run_cons
  simp only [Ev.exec, ev, evs, evO, evTO, evAnd, evOr, evIt, seq2, asT, asB, asI, binF, cmpF, at0, at1, post_bind, post_map, post_some, post_nif, post_ifn, post_ifs, R.isBo, R.isOk, R.isOw, R.isD, ls_ls, eq_self, E.quiet, quiets, quietO, It.quiet, Option.bind_some, Option.map_some, Option.bind_none, Option.map_none, Bool.false_and, Bool.and_false, Bool.true_and, Bool.and_true, Bool.not_true, Bool.not_false, Bool.false_eq_true, if_true, if_false, ite_true, ite_false, reduceIte, eq_int, lt_int, le_int, add_int, sub_int, mul_int, neg_int, div_int, mod_int, pow_int, List.take_zero, List.drop_zero, List.all_cons, List.all_nil, List.any_cons, List.any_nil, List.set_cons_zero, List.set_cons_succ, not_true_eq_false, not_false_eq_true, true_and, and_true, biF, un1, intF, absF, setR, setRs, frz_lst, frz_d, frz_no, frz_fr, Bool.or_false, Bool.false_or, R.toM, sz1, sz2, sz3, sz4, sz5, sz6, sz7, sz8, sz9, sz10, tru_bl, decide_eq_true_eq, Nat.zero_le, List.map_cons, List.map_nil, List.length_cons, List.length_nil]
  apply run_cons
  simp only [Ev.exec, ev, evs, evO, evTO, evAnd, evOr, evIt, seq2, asT, asB, asI, binF, cmpF, at0, at1, post_bind, post_map, post_some, post_nif, post_ifn, post_ifs, R.isBo, R.isOk, R.isOw, R.isD, ls_ls, eq_self, E.quiet, quiets, quietO, It.quiet, Option.bind_some, Option.map_some, Option.bind_none, Option.map_none, Bool.false_and, Bool.and_false, Bool.true_and, Bool.and_true, Bool.not_true, Bool.not_false, Bool.false_eq_true, if_true, if_false, ite_true, ite_false, reduceIte, eq_int, lt_int, le_int, add_int, sub_int, mul_int, neg_int, div_int, mod_int, pow_int, List.take_zero, List.drop_zero, List.all_cons, List.all_nil, List.any_cons, List.any_nil, List.set_cons_zero, List.set_cons_succ, not_true_eq_false, not_false_eq_true, true_and, and_true, biF, un1, intF, absF, setR, setRs, frz_lst, frz_d, frz_no, frz_fr, Bool.or_false, Bool.false_or, R.toM, sz1, sz2, sz3, sz4, sz5, sz6, sz7, sz8, sz9, sz10, tru_bl, decide_eq_true_eq, Nat.zero_le, List.map_cons, List.map_nil, List.length_cons, List.length_nil, g8]
  refine post_mono s8 ?_
  rintro ⟨r, r0⟩ ⟨b, h, hb⟩
  cases h
  simp only [Ev.exec, ev, evs, evO, evTO, evAnd, evOr, evIt, seq2, asT, asB, asI, binF, cmpF, at0, at1, post_bind, post_map, post_some, post_nif, post_ifn, post_ifs, R.isBo, R.isOk, R.isOw, R.isD, ls_ls, eq_self, E.quiet, quiets, quietO, It.quiet, Option.bind_some, Option.map_some, Option.bind_none, Option.map_none, Bool.false_and, Bool.and_false, Bool.true_and, Bool.and_true, Bool.not_true, Bool.not_false, Bool.false_eq_true, if_true, if_false, ite_true, ite_false, reduceIte, eq_int, lt_int, le_int, add_int, sub_int, mul_int, neg_int, div_int, mod_int, pow_int, List.take_zero, List.drop_zero, List.all_cons, List.all_nil, List.any_cons, List.any_nil, List.set_cons_zero, List.set_cons_succ, not_true_eq_false, not_false_eq_true, true_and, and_true, biF, un1, intF, absF, setR, setRs, frz_lst, frz_d, frz_no, frz_fr, Bool.or_false, Bool.false_or, R.toM, sz1, sz2, sz3, sz4, sz5, sz6, sz7, sz8, sz9, sz10, tru_bl, decide_eq_true_eq, Nat.zero_le, List.map_cons, List.map_nil, List.length_cons, List.length_nil]
  apply run_cons
  rw [Ev.exec]
  have hit : evIt T (.rg [.int 3]) [.fr (.sq (ns.map .int)), .ow b, .no, .no, .no, .no, .no, .no, .no, .no, .no, .no, .no, .no] = some (⟨([0, 1, 2] : List Int).map (R.d ∘ PyData.int), false⟩, [.fr (.sq (ns.map .int)), .ow b, .no, .no, .no, .no, .no, .no, .no, .no, .no, .no, .no, .no]) := by
    simp only [Ev.exec, ev, evs, evO, evTO, evAnd, evOr, evIt, seq2, asT, asB, asI, binF, cmpF, at0, at1, post_bind, post_map, post_some, post_nif, post_ifn, post_ifs, R.isBo, R.isOk, R.isOw, R.isD, ls_ls, eq_self, E.quiet, quiets, quietO, It.quiet, Option.bind_some, Option.map_some, Option.bind_none, Option.map_none, Bool.false_and, Bool.and_false, Bool.true_and, Bool.and_true, Bool.not_true, Bool.not_false, Bool.false_eq_true, if_true, if_false, ite_true, ite_false, reduceIte, eq_int, lt_int, le_int, add_int, sub_int, mul_int, neg_int, div_int, mod_int, pow_int, List.take_zero, List.drop_zero, List.all_cons, List.all_nil, List.any_cons, List.any_nil, List.set_cons_zero, List.set_cons_succ, not_true_eq_false, not_false_eq_true, true_and, and_true, biF, un1, intF, absF, setR, setRs, frz_lst, frz_d, frz_no, frz_fr, Bool.or_false, Bool.false_or, R.toM, sz1, sz2, sz3, sz4, sz5, sz6, sz7, sz8, sz9, sz10, tru_bl, decide_eq_true_eq, Nat.zero_le, List.map_cons, List.map_nil, List.length_cons, List.length_nil, rg1]
    rfl
  rw [hit, Option.bind_some]
  refine post_mono (forGo_map (R.d ∘ PyData.int) (fun ps ρ => TE ρ ∧ ∀ p ∈ ps, 0 ≤ p ∧ p < 3) ?_ [0, 1, 2] _ ⟨⟨_, b, _, _, _, _, _, _, _, _, _, rfl, hb⟩, by decide⟩) ?_
  · rintro t ps ρ ⟨⟨s, b, r2, r3, r4, r5, r6, r7, r8, r9, r10, rfl, hb⟩, hp⟩
    have ht := hp t List.mem_cons_self
    simp only [tgF, Function.comp_apply, post_some, List.set_cons_succ, List.set_cons_zero]
    refine post_mono (sA hb ht.1 ht.2) ?_
    rintro ⟨o, ρ⟩ ⟨ho, hte⟩
    exact ⟨ho, hte, fun q hq => hp q (List.mem_cons_of_mem _ hq)⟩
  rintro ⟨o, ρ⟩ ⟨ho, ⟨s, b, r2, r3, r4, r5, r6, r7, r8, r9, r10, he, hb⟩, _⟩
  cases ho
  dsimp only at he
  subst he
  refine ⟨rfl, ?_⟩
  apply run_ret
  simp only [Ev.exec, ev, evs, evO, evTO, evAnd, evOr, evIt, seq2, asT, asB, asI, binF, cmpF, at0, at1, post_bind, post_map, post_some, post_nif, post_ifn, post_ifs, R.isBo, R.isOk, R.isOw, R.isD, ls_ls, eq_self, E.quiet, quiets, quietO, It.quiet, Option.bind_some, Option.map_some, Option.bind_none, Option.map_none, Bool.false_and, Bool.and_false, Bool.true_and, Bool.and_true, Bool.not_true, Bool.not_false, Bool.false_eq_true, if_true, if_false, ite_true, ite_false, reduceIte, eq_int, lt_int, le_int, add_int, sub_int, mul_int, neg_int, div_int, mod_int, pow_int, List.take_zero, List.drop_zero, List.all_cons, List.all_nil, List.any_cons, List.any_nil, List.set_cons_zero, List.set_cons_succ, not_true_eq_false, not_false_eq_true, true_and, and_true, biF, un1, intF, absF, setR, setRs, frz_lst, frz_d, frz_no, frz_fr, Bool.or_false, Bool.false_or, R.toM, sz1, sz2, sz3, sz4, sz5, sz6, sz7, sz8, sz9, sz10, tru_bl, decide_eq_true_eq, Nat.zero_le, List.map_cons, List.map_nil, List.length_cons, List.length_nil]
  exact ⟨_, rfl, rfl⟩
/-! ### the table -/
theorem draw9 {m : M} {k : Int} (hm : BagOk m) (hk : 0 < k) (hl : k.natAbs.log2 < 9000) : Post (d9.g [.ow m, .int k]) fun r => ∃ i m', r = (.int i, .ow m') ∧ 0 ≤ i ∧ i < k ∧ BagOk m' := draw_ok T9 hm hk hl
theorem ties10 {m : Nat} {n most : Int} (hn : n = m) (hm : m ≤ 8) (h0 : 0 ≤ most) (h1 : most ≤ 6) {b : M} (hb : BagOk b) : Post (d10.g [.ow b, .int n, .int most]) fun r => ∃ b' ties, r = (.tup (List.map tieP ties), .ow b') ∧ Web m ties ∧ BagOk b' := by
  have e0 : d10.g = evDef T10 9 b10 := rfl
  rw [e0]
  exact ties_gen (D9 := d9) hn hm h0 h1 hb rfl rfl draw9
theorem tied11 {flat : List Nat} {t : Nat × Nat} (ha : t.1 < flat.length) (hb : t.2 < flat.length) (hl : flat.length ≤ 100) : Post (d11.g [.tup (flat.map I), .d (tieP t)]) fun r => r.1 = .tup ((drawF flat t.1 t.2).map I) := by
  have e0 : d11.g = evDef T11 5 b11 := rfl
  rw [e0]
  exact tied_ok T11 ha hb hl
theorem lots12 {m : Nat} {n : Int} (hn : n = m) (hm : m ≤ 10) : Post (d12.g [.int n]) fun r => r.1 = .lst ((sortL (lotsF m)).map tupN) := by
  have e0 : d12.g = evDef T12 5 b12 := rfl
  rw [e0]
  exact lots2_ok T12 hn hm
variable {m : Nat} {ties : List (Nat × Nat)}
theorem round13 (w : Web m ties) {n : Int} (hn : n = m) (hm : m ≤ 100) {lot : List Nat} (hl : ∀ p ∈ lot, p < ties.length) : Post (d13.g [.int n, .tup (ties.map tieP), .d (tupN lot)]) fun r => r.1 = .bl (roundF m ties lot) := by
  have e0 : d13.g = evDef T13 8 b13 := rfl
  rw [e0]
  exact lround_gen (D11 := d11) hn hm (fun t ht => by have := w.ok t ht; omega) hl rfl tied11
theorem rounds14 (w : Web m ties) {n : Int} (hn : n = m) (hm : m ≤ 100) : Post (d14.g [.int n, .tup (ties.map tieP)]) fun r => r.1 = .lst ((rounds2 m ties).map tupN) := by
  have e0 : d14.g = evDef T14 3 b14 := rfl
  rw [e0]
  exact lrounds_gen (D12 := d12) (D13 := d13) hn hm w.few rfl rfl lots12 (round13 w hn hm)
theorem unb15 (w : Web m ties) {n : Int} (hn : n = m) (hm : m ≤ 100) : Post (d15.g [.int n, .tup (ties.map tieP)]) fun r => r.1 = .lst ((sortL (unbF m ties)).map tupN) := by
  have e0 : d15.g = evDef T15 7 b15 := rfl
  rw [e0, ← lunb_eq w]
  exact lunb_gen (D12 := d12) (D14 := d14) w.few rfl rfl lots12 (rounds14 w hn hm)
theorem col16 (w : Web m ties) {n : Int} (hn : n = m) (hm : m ≤ 90) : Post (d16.g [.int n, .tup (ties.map tieP)]) fun r => r.1 = .tup ((colF m (unbF m ties)).map .int) := by
  have e0 : d16.g = evDef T16 7 b16 := rfl
  rw [e0, ← whitney w]
  exact lcol_gen (D11 := d11) hn hm w.lt w.few rfl tied11
theorem ways7 (w : Web m ties) {n : Int} (hn : n = m) (hm : m ≤ 90) : Post (d7.g [.int n, .tup (ties.map tieP)]) fun r => ∃ j : Int, r.1 = .int j ∧ j = (sortL (unbF m ties)).length := by
  have e0 : d7.g = evDef T7 2 b7 := rfl
  rw [e0]
  have := ways_gen (T := T7) (D5 := d5) rfl (unb_ok hn (by omega) w.lt w.few)
  rw [List.length_map] at this
  exact this
theorem k5 (es : List E) (ρ : Ev.Env) : ev T17 (.callK 5 0 es) ρ = (evs T17 es ρ).bind fun q => if q.1.all R.isOk = true then (d5.g (kwG [1, 0] [] (q.1.map frzF))).map fun r => (r.1, q.2) else none := evK (T := T17) (d := d5) (ks := ["ties", "n"]) rfl rfl (by decide +kernel) rfl es ρ
theorem k6 (es : List E) (ρ : Ev.Env) : ev T17 (.callK 6 0 es) ρ = (evs T17 es ρ).bind fun q => if q.1.all R.isOk = true then (d6.g (kwG [1, 0] [] (q.1.map frzF))).map fun r => (r.1, q.2) else none := evK (T := T17) (d := d6) (ks := ["ties", "n"]) rfl rfl (by decide +kernel) rfl es ρ
theorem plain (ns : List Int) (hl : ns.length ≤ 63) : ∃ r0, evDef T17 n17.length b17 [.fr (.sq (ns.map .int))] = some (.bl true, r0) := by
  have h : Post (evDef T17 14 b17 [.fr (.sq (ns.map .int))]) fun r => r.1 = .bl true :=
    main_gen (D8 := d8) ns rfl (bag_ok T8 ns hl) (segA (D9 := d9) (D10 := d10) rfl rfl rfl rfl draw9 ties10 fun {m ties} w {n} hn hm {s b r2 r5 r6 r7 r8 r9 r10} hb =>
      segB (D5 := d5) (D6 := d6) (D7 := d7) (D15 := d15) (D16 := d16) w hn hm rfl rfl rfl rfl rfl k5 k6 (unb_ok hn (by omega) w.lt w.few) (col_ok hn hm w.lt w.few (unb_len w)) (ways7 w hn hm) (unb15 w hn (by omega)) (col16 w hn hm) hb)
  obtain ⟨⟨r, r0⟩, e, h⟩ := h
  cases h
  exact ⟨r0, e⟩
end LK57
end
namespace LK57
open PySem PySem.Spec PyProof.Rows L2 Ev
/-! ### the text -/
def top (i : Nat) : Stmt := PySem.Challenge.pw_ordersums_k57_whole_main_unbroken.main.body.getD i (.Pass ⟨0, 0, 0, 0⟩)
abbrev gl : List (Str × Int) := []
abbrev s0 : Stmt := top 1
theorem sc0 : FnScope n0 ["n"] (defScope s0) := ⟨rfl, rfl, rfl, by decide +kernel, by decide +kernel, by decide +kernel, by decide +kernel⟩
theorem ck0 : chkSs [] b0 ⟨n0, defScope s0, none, gl⟩ (defBody s0) = true := by decide +kernel
abbrev s1 : Stmt := top 3
theorem sc1 : FnScope n1 ["flat", "a", "b"] (defScope s1) := ⟨rfl, rfl, rfl, by decide +kernel, by decide +kernel, by decide +kernel, by decide +kernel⟩
theorem ck1 : chkSs T1 b1 ⟨n1, defScope s1, none, gl⟩ (defBody s1) = true := by decide +kernel
abbrev s2 : Stmt := top 4
theorem sc2 : FnScope n2 ["n", "ties", "lot"] (defScope s2) := ⟨rfl, rfl, rfl, by decide +kernel, by decide +kernel, by decide +kernel, by decide +kernel⟩
theorem ck2 : chkSs T2 b2 ⟨n2, defScope s2, none, gl⟩ (defBody s2) = true := by decide +kernel
abbrev s3 : Stmt := top 5
theorem sc3 : FnScope n3 ["n", "ties"] (defScope s3) := ⟨rfl, rfl, rfl, by decide +kernel, by decide +kernel, by decide +kernel, by decide +kernel⟩
theorem ck3 : chkSs T3 b3 ⟨n3, defScope s3, none, gl⟩ (defBody s3) = true := by decide +kernel
abbrev s4 : Stmt := top 6
theorem sc4 : FnScope n4 ["lot", "rest"] (defScope s4) := ⟨rfl, rfl, rfl, by decide +kernel, by decide +kernel, by decide +kernel, by decide +kernel⟩
theorem ck4 : chkSs T4 b4 ⟨n4, defScope s4, none, gl⟩ (defBody s4) = true := by decide +kernel
abbrev s5 : Stmt := top 7
theorem sc5 : FnScope n5 ["n", "ties"] (defScope s5) := ⟨rfl, rfl, rfl, by decide +kernel, by decide +kernel, by decide +kernel, by decide +kernel⟩
theorem ck5 : chkSs T5 b5 ⟨n5, defScope s5, none, gl⟩ (defBody s5) = true := by decide +kernel
abbrev s6 : Stmt := top 9
theorem sc6 : FnScope n6 ["n", "ties"] (defScope s6) := ⟨rfl, rfl, rfl, by decide +kernel, by decide +kernel, by decide +kernel, by decide +kernel⟩
theorem ck6 : chkSs T6 b6 ⟨n6, defScope s6, none, gl⟩ (defBody s6) = true := by decide +kernel
abbrev s7 : Stmt := top 10
theorem sc7 : FnScope n7 ["n", "ties"] (defScope s7) := ⟨rfl, rfl, rfl, by decide +kernel, by decide +kernel, by decide +kernel, by decide +kernel⟩
theorem ck7 : chkSs T7 b7 ⟨n7, defScope s7, none, gl⟩ (defBody s7) = true := by decide +kernel
abbrev s8 : Stmt := top 12
theorem sc8 : FnScope n8 ["script"] (defScope s8) := ⟨rfl, rfl, rfl, by decide +kernel, by decide +kernel, by decide +kernel, by decide +kernel⟩
theorem ck8 : chkSs T8 b8 ⟨n8, defScope s8, none, gl⟩ (defBody s8) = true := by decide +kernel
abbrev s9 : Stmt := top 13
theorem sc9 : FnScope n9 ["bag", "below"] (defScope s9) := ⟨rfl, rfl, rfl, by decide +kernel, by decide +kernel, by decide +kernel, by decide +kernel⟩
theorem ck9 : chkSs T9 b9 ⟨n9, defScope s9, none, gl⟩ (defBody s9) = true := by decide +kernel
abbrev s10 : Stmt := top 14
theorem sc10 : FnScope n10 ["bag", "n", "most"] (defScope s10) := ⟨rfl, rfl, rfl, by decide +kernel, by decide +kernel, by decide +kernel, by decide +kernel⟩
theorem ck10 : chkSs T10 b10 ⟨n10, defScope s10, none, gl⟩ (defBody s10) = true := by decide +kernel
abbrev s11 : Stmt := top 15
theorem sc11 : FnScope n11 ["flat", "tie"] (defScope s11) := ⟨rfl, rfl, rfl, by decide +kernel, by decide +kernel, by decide +kernel, by decide +kernel⟩
theorem ck11 : chkSs T11 b11 ⟨n11, defScope s11, none, gl⟩ (defBody s11) = true := by decide +kernel
abbrev s12 : Stmt := top 16
theorem sc12 : FnScope n12 ["many"] (defScope s12) := ⟨rfl, rfl, rfl, by decide +kernel, by decide +kernel, by decide +kernel, by decide +kernel⟩
theorem ck12 : chkSs T12 b12 ⟨n12, defScope s12, none, gl⟩ (defBody s12) = true := by decide +kernel
abbrev s13 : Stmt := top 17
theorem sc13 : FnScope n13 ["n", "ties", "lot"] (defScope s13) := ⟨rfl, rfl, rfl, by decide +kernel, by decide +kernel, by decide +kernel, by decide +kernel⟩
theorem ck13 : chkSs T13 b13 ⟨n13, defScope s13, none, gl⟩ (defBody s13) = true := by decide +kernel
abbrev s14 : Stmt := top 18
theorem sc14 : FnScope n14 ["n", "ties"] (defScope s14) := ⟨rfl, rfl, rfl, by decide +kernel, by decide +kernel, by decide +kernel, by decide +kernel⟩
theorem ck14 : chkSs T14 b14 ⟨n14, defScope s14, none, gl⟩ (defBody s14) = true := by decide +kernel
abbrev s15 : Stmt := top 19
theorem sc15 : FnScope n15 ["n", "ties"] (defScope s15) := ⟨rfl, rfl, rfl, by decide +kernel, by decide +kernel, by decide +kernel, by decide +kernel⟩
theorem ck15 : chkSs T15 b15 ⟨n15, defScope s15, none, gl⟩ (defBody s15) = true := by decide +kernel
abbrev s16 : Stmt := top 20
theorem sc16 : FnScope n16 ["n", "ties"] (defScope s16) := ⟨rfl, rfl, rfl, by decide +kernel, by decide +kernel, by decide +kernel, by decide +kernel⟩
theorem ck16 : chkSs T16 b16 ⟨n16, defScope s16, none, gl⟩ (defBody s16) = true := by decide +kernel
abbrev s17 : Stmt := top 21
theorem sc17 : FnScope n17 ["script"] (defScope s17) := ⟨rfl, rfl, rfl, by decide +kernel, by decide +kernel, by decide +kernel, by decide +kernel⟩
theorem ck17 : chkSs T17 b17 ⟨n17, defScope s17, none, gl⟩ (defBody s17) = true := by decide +kernel
/-! ### the head -/
def dD0 : He.DefD := ⟨("all_lots", none), "all_lots", "all_lots", defArgs s0, defBody s0, defScope s0, [], []⟩
def dD1 : He.DefD := ⟨("drawn_together", none), "drawn_together", "drawn_together", defArgs s1, defBody s1, defScope s1, [], []⟩
def dD2 : He.DefD := ⟨("is_round", none), "is_round", "is_round", defArgs s2, defBody s2, defScope s2, [], []⟩
def dD3 : He.DefD := ⟨("rounds_of_ties", none), "rounds_of_ties", "rounds_of_ties", defArgs s3, defBody s3, defScope s3, [], []⟩
def dD4 : He.DefD := ⟨("has_all", none), "has_all", "has_all", defArgs s4, defBody s4, defScope s4, [], []⟩
def dD5 : He.DefD := ⟨("unbroken_lots", none), "unbroken_lots", "unbroken_lots", defArgs s5, defBody s5, defScope s5, [], []⟩
def dD6 : He.DefD := ⟨("colours_row", none), "colours_row", "colours_row", defArgs s6, defBody s6, defScope s6, [], []⟩
def dD7 : He.DefD := ⟨("roundless_ways", none), "roundless_ways", "roundless_ways", defArgs s7, defBody s7, defScope s7, [], []⟩
def dD8 : He.DefD := ⟨("_law_bag", none), "_law_bag", "_law_bag", defArgs s8, defBody s8, defScope s8, [], []⟩
def dD9 : He.DefD := ⟨("_law_draw", none), "_law_draw", "_law_draw", defArgs s9, defBody s9, defScope s9, [], []⟩
def dD10 : He.DefD := ⟨("_law_ties", none), "_law_ties", "_law_ties", defArgs s10, defBody s10, defScope s10, [], []⟩
def dD11 : He.DefD := ⟨("_law_tied", none), "_law_tied", "_law_tied", defArgs s11, defBody s11, defScope s11, [], []⟩
def dD12 : He.DefD := ⟨("_law_lots_of", none), "_law_lots_of", "_law_lots_of", defArgs s12, defBody s12, defScope s12, [], []⟩
def dD13 : He.DefD := ⟨("_law_is_round", none), "_law_is_round", "_law_is_round", defArgs s13, defBody s13, defScope s13, [], []⟩
def dD14 : He.DefD := ⟨("_law_rounds", none), "_law_rounds", "_law_rounds", defArgs s14, defBody s14, defScope s14, [], []⟩
def dD15 : He.DefD := ⟨("_law_unbroken", none), "_law_unbroken", "_law_unbroken", defArgs s15, defBody s15, defScope s15, [], []⟩
def dD16 : He.DefD := ⟨("_law_colours", none), "_law_colours", "_law_colours", defArgs s16, defBody s16, defScope s16, [], []⟩
def dD17 : He.DefD := ⟨("law", none), "law", "law", defArgs s17, defBody s17, defScope s17, [], []⟩
def fn : List He.DefD := [dD0, dD1, dD2, dD3, dD4, dD5, dD6, dD7, dD8, dD9, dD10, dD11, dD12, dD13, dD14, dD15, dD16, dD17]
def fa : List He.Fa := [.glo "all_lots", .glo "drawn_together", .glo "is_round", .glo "rounds_of_ties", .glo "has_all", .glo "unbroken_lots", .glo "colours_row", .glo "roundless_ways", .glo "_law_bag", .glo "_law_draw", .glo "_law_ties", .glo "_law_tied", .glo "_law_lots_of", .glo "_law_is_round", .glo "_law_rounds", .glo "_law_unbroken", .glo "_law_colours", .glo "law", .free "len", .free "list", .free "tuple", .free "sorted", .free "sum", .free "any", .free "all", .free "max", .free "min", .free "abs", .free "int", .free "repr", .free "range", .free "enumerate", .free "zip", .free "set"]
abbrev RO : PySem.W.OpenRow := PySem.W.OpenLaw.row PySem.Challenge.rw_ordersums_k57_whole_main_unbroken
abbrev hk : PySem.W.Hook := He.hookD 4 fa fn
def ob (s : PySem.W.SharedT) : He.AlD := He.obsDG 4 fa fn (HandSHeadRun.getT s)
theorem ob_eq (s : PySem.W.SharedT) : ob s = hk.obs s.abs := He.obsDG_eq (HandSHeadRun.getT_eq s)
theorem run (w : World) : HandSHeadRun.RunEq RO (PySem.W.view RO.prog [21]) hk ob 1480 ["all_lots", "drawn_together", "is_round", "rounds_of_ties", "has_all", "unbroken_lots", "colours_row", "roundless_ways", "_law_bag", "_law_draw", "_law_ties", "_law_tied", "_law_lots_of", "_law_is_round", "_law_rounds", "_law_unbroken", "_law_colours"] w := by
  intro os
  kernel_rfl
section
variable {P : Program} {w : World} {K : PySem.W.Frag} {h : Heap} {mg : Str → Option Value} {base : Heap}
theorem blts (X : K.In h) (G : h.Ns mainGlobals mg) (c : He.SaysD fa fn K) : ∀ x ∈ bltNames, mg x = none := by
  intro x m
  simp only [bltNames, List.mem_cons, List.not_mem_nil, or_false] at m
  rcases m with rfl | rfl | rfl | rfl | rfl | rfl | rfl | rfl | rfl | rfl | rfl | rfl | rfl | rfl | rfl | rfl
  · exact He.free_ok X G (c.fact 18 rfl)
  · exact He.free_ok X G (c.fact 19 rfl)
  · exact He.free_ok X G (c.fact 20 rfl)
  · exact He.free_ok X G (c.fact 21 rfl)
  · exact He.free_ok X G (c.fact 22 rfl)
  · exact He.free_ok X G (c.fact 23 rfl)
  · exact He.free_ok X G (c.fact 24 rfl)
  · exact He.free_ok X G (c.fact 25 rfl)
  · exact He.free_ok X G (c.fact 26 rfl)
  · exact He.free_ok X G (c.fact 27 rfl)
  · exact He.free_ok X G (c.fact 28 rfl)
  · exact He.free_ok X G (c.fact 29 rfl)
  · exact He.free_ok X G (c.fact 30 rfl)
  · exact He.free_ok X G (c.fact 31 rfl)
  · exact He.free_ok X G (c.fact 32 rfl)
  · exact He.free_ok X G (c.fact 33 rfl)
theorem gls (X : K.In h) (G : h.Ns mainGlobals mg) (c : He.SaysD fa fn K) : ∀ x i, gl.lookup x = some i → ∃ t, mg x = some (.int i t) := by
  intro x i m
  cases m
theorem h0 (X : K.In h) (G : h.Ns mainGlobals mg) (c : He.SaysD fa fn K) (nd : base.NoDigits) : HasP P w K mg base 1 d0 := by
  obtain ⟨fd, F⟩ := c.def_ 0 (d := dD0) rfl
  exact has_ok F (He.glo_ok X G (c.fact 0 rfl)) sc0 (gls X G c) (blts X G c) (fun d m => absurd m (by simp)) nd ck0 (by intro z; cases z) (fun _ _ _ _ _ _ us hl => match us, hl with | [_], _ => rfl) (fun ks m => absurd m (by simp))
theorem t1 (X : K.In h) (G : h.Ns mainGlobals mg) (c : He.SaysD fa fn K) (nd : base.NoDigits) : ∀ d ∈ T1, HasP P w K mg base 1 d := tbl_snoc (fun d m => absurd m (by simp)) (h0 X G c nd)
theorem h1 (X : K.In h) (G : h.Ns mainGlobals mg) (c : He.SaysD fa fn K) (nd : base.NoDigits) : HasP P w K mg base 2 d1 := by
  obtain ⟨fd, F⟩ := c.def_ 1 (d := dD1) rfl
  exact has_ok F (He.glo_ok X G (c.fact 1 rfl)) sc1 (gls X G c) (blts X G c) (t1 X G c nd) nd ck1 (by intro z; cases z) (fun _ _ _ _ _ _ us hl => match us, hl with | [_, _, _], _ => rfl) (fun ks m => absurd m (by simp))
theorem t2 (X : K.In h) (G : h.Ns mainGlobals mg) (c : He.SaysD fa fn K) (nd : base.NoDigits) : ∀ d ∈ T2, HasP P w K mg base 2 d := tbl_snoc (t1 X G c nd) (h1 X G c nd)
theorem h2 (X : K.In h) (G : h.Ns mainGlobals mg) (c : He.SaysD fa fn K) (nd : base.NoDigits) : HasP P w K mg base 3 d2 := by
  obtain ⟨fd, F⟩ := c.def_ 2 (d := dD2) rfl
  exact has_ok F (He.glo_ok X G (c.fact 2 rfl)) sc2 (gls X G c) (blts X G c) (t2 X G c nd) nd ck2 (by intro z; cases z) (fun _ _ _ _ _ _ us hl => match us, hl with | [_, _, _], _ => rfl) (fun ks m => absurd m (by simp))
theorem t3 (X : K.In h) (G : h.Ns mainGlobals mg) (c : He.SaysD fa fn K) (nd : base.NoDigits) : ∀ d ∈ T3, HasP P w K mg base 3 d := tbl_snoc (t2 X G c nd) (h2 X G c nd)
theorem h3 (X : K.In h) (G : h.Ns mainGlobals mg) (c : He.SaysD fa fn K) (nd : base.NoDigits) : HasP P w K mg base 4 d3 := by
  obtain ⟨fd, F⟩ := c.def_ 3 (d := dD3) rfl
  exact has_ok F (He.glo_ok X G (c.fact 3 rfl)) sc3 (gls X G c) (blts X G c) (t3 X G c nd) nd ck3 (by intro z; cases z) (fun _ _ _ _ _ _ us hl => match us, hl with | [_, _], _ => rfl) (fun ks m => absurd m (by simp))
theorem t4 (X : K.In h) (G : h.Ns mainGlobals mg) (c : He.SaysD fa fn K) (nd : base.NoDigits) : ∀ d ∈ T4, HasP P w K mg base 4 d := tbl_snoc (t3 X G c nd) (h3 X G c nd)
theorem h4 (X : K.In h) (G : h.Ns mainGlobals mg) (c : He.SaysD fa fn K) (nd : base.NoDigits) : HasP P w K mg base 5 d4 := by
  obtain ⟨fd, F⟩ := c.def_ 4 (d := dD4) rfl
  exact has_ok F (He.glo_ok X G (c.fact 4 rfl)) sc4 (gls X G c) (blts X G c) (t4 X G c nd) nd ck4 (by intro z; cases z) (fun _ _ _ _ _ _ us hl => match us, hl with | [_, _], _ => rfl) (fun ks m => absurd m (by simp))
theorem t5 (X : K.In h) (G : h.Ns mainGlobals mg) (c : He.SaysD fa fn K) (nd : base.NoDigits) : ∀ d ∈ T5, HasP P w K mg base 5 d := tbl_snoc (t4 X G c nd) (h4 X G c nd)
theorem h5 (X : K.In h) (G : h.Ns mainGlobals mg) (c : He.SaysD fa fn K) (nd : base.NoDigits) : HasP P w K mg base 6 d5 := by
  obtain ⟨fd, F⟩ := c.def_ 5 (d := dD5) rfl
  refine has_ok F (He.glo_ok X G (c.fact 5 rfl)) sc5 (gls X G c) (blts X G c) (t5 X G c nd) nd ck5 (by intro z; cases z) (fun _ _ _ _ _ _ us hl => match us, hl with | [_, _], _ => rfl) ?_
  intro ks m
  simp only [List.mem_cons, List.not_mem_nil, or_false] at m
  subst m
  exact kw_binds F (ix := [1, 0]) (by decide +kernel) (fun _ _ _ _ _ _ us ws h1 h2 => match us, ws, h1, h2 with | [], [_, _], _, _ => rfl)
theorem t6 (X : K.In h) (G : h.Ns mainGlobals mg) (c : He.SaysD fa fn K) (nd : base.NoDigits) : ∀ d ∈ T6, HasP P w K mg base 6 d := tbl_snoc (t5 X G c nd) (h5 X G c nd)
theorem h6 (X : K.In h) (G : h.Ns mainGlobals mg) (c : He.SaysD fa fn K) (nd : base.NoDigits) : HasP P w K mg base 7 d6 := by
  obtain ⟨fd, F⟩ := c.def_ 6 (d := dD6) rfl
  refine has_ok F (He.glo_ok X G (c.fact 6 rfl)) sc6 (gls X G c) (blts X G c) (t6 X G c nd) nd ck6 (by intro z; cases z) (fun _ _ _ _ _ _ us hl => match us, hl with | [_, _], _ => rfl) ?_
  intro ks m
  simp only [List.mem_cons, List.not_mem_nil, or_false] at m
  subst m
  exact kw_binds F (ix := [1, 0]) (by decide +kernel) (fun _ _ _ _ _ _ us ws h1 h2 => match us, ws, h1, h2 with | [], [_, _], _, _ => rfl)
theorem t7 (X : K.In h) (G : h.Ns mainGlobals mg) (c : He.SaysD fa fn K) (nd : base.NoDigits) : ∀ d ∈ T7, HasP P w K mg base 7 d := tbl_snoc (t6 X G c nd) (h6 X G c nd)
theorem h7 (X : K.In h) (G : h.Ns mainGlobals mg) (c : He.SaysD fa fn K) (nd : base.NoDigits) : HasP P w K mg base 8 d7 := by
  obtain ⟨fd, F⟩ := c.def_ 7 (d := dD7) rfl
  exact has_ok F (He.glo_ok X G (c.fact 7 rfl)) sc7 (gls X G c) (blts X G c) (t7 X G c nd) nd ck7 (by intro z; cases z) (fun _ _ _ _ _ _ us hl => match us, hl with | [_, _], _ => rfl) (fun ks m => absurd m (by simp))
theorem t8 (X : K.In h) (G : h.Ns mainGlobals mg) (c : He.SaysD fa fn K) (nd : base.NoDigits) : ∀ d ∈ T8, HasP P w K mg base 8 d := tbl_snoc (t7 X G c nd) (h7 X G c nd)
theorem h8 (X : K.In h) (G : h.Ns mainGlobals mg) (c : He.SaysD fa fn K) (nd : base.NoDigits) : HasP P w K mg base 9 d8 := by
  obtain ⟨fd, F⟩ := c.def_ 8 (d := dD8) rfl
  exact has_ok F (He.glo_ok X G (c.fact 8 rfl)) sc8 (gls X G c) (blts X G c) (t8 X G c nd) nd ck8 (by intro z; cases z) (fun _ _ _ _ _ _ us hl => match us, hl with | [_], _ => rfl) (fun ks m => absurd m (by simp))
theorem t9 (X : K.In h) (G : h.Ns mainGlobals mg) (c : He.SaysD fa fn K) (nd : base.NoDigits) : ∀ d ∈ T9, HasP P w K mg base 9 d := tbl_snoc (t8 X G c nd) (h8 X G c nd)
theorem h9 (X : K.In h) (G : h.Ns mainGlobals mg) (c : He.SaysD fa fn K) (nd : base.NoDigits) : HasP P w K mg base 10 d9 := by
  obtain ⟨fd, F⟩ := c.def_ 9 (d := dD9) rfl
  exact has_ok F (He.glo_ok X G (c.fact 9 rfl)) sc9 (gls X G c) (blts X G c) (t9 X G c nd) nd ck9 (by intro _; decide +kernel) (fun _ _ _ _ _ _ us hl => match us, hl with | [_, _], _ => rfl) (fun ks m => absurd m (by simp))
theorem t10 (X : K.In h) (G : h.Ns mainGlobals mg) (c : He.SaysD fa fn K) (nd : base.NoDigits) : ∀ d ∈ T10, HasP P w K mg base 10 d := tbl_snoc (t9 X G c nd) (h9 X G c nd)
theorem h10 (X : K.In h) (G : h.Ns mainGlobals mg) (c : He.SaysD fa fn K) (nd : base.NoDigits) : HasP P w K mg base 11 d10 := by
  obtain ⟨fd, F⟩ := c.def_ 10 (d := dD10) rfl
  exact has_ok F (He.glo_ok X G (c.fact 10 rfl)) sc10 (gls X G c) (blts X G c) (t10 X G c nd) nd ck10 (by intro _; decide +kernel) (fun _ _ _ _ _ _ us hl => match us, hl with | [_, _, _], _ => rfl) (fun ks m => absurd m (by simp))
theorem t11 (X : K.In h) (G : h.Ns mainGlobals mg) (c : He.SaysD fa fn K) (nd : base.NoDigits) : ∀ d ∈ T11, HasP P w K mg base 11 d := tbl_snoc (t10 X G c nd) (h10 X G c nd)
theorem h11 (X : K.In h) (G : h.Ns mainGlobals mg) (c : He.SaysD fa fn K) (nd : base.NoDigits) : HasP P w K mg base 12 d11 := by
  obtain ⟨fd, F⟩ := c.def_ 11 (d := dD11) rfl
  exact has_ok F (He.glo_ok X G (c.fact 11 rfl)) sc11 (gls X G c) (blts X G c) (t11 X G c nd) nd ck11 (by intro z; cases z) (fun _ _ _ _ _ _ us hl => match us, hl with | [_, _], _ => rfl) (fun ks m => absurd m (by simp))
theorem t12 (X : K.In h) (G : h.Ns mainGlobals mg) (c : He.SaysD fa fn K) (nd : base.NoDigits) : ∀ d ∈ T12, HasP P w K mg base 12 d := tbl_snoc (t11 X G c nd) (h11 X G c nd)
theorem h12 (X : K.In h) (G : h.Ns mainGlobals mg) (c : He.SaysD fa fn K) (nd : base.NoDigits) : HasP P w K mg base 13 d12 := by
  obtain ⟨fd, F⟩ := c.def_ 12 (d := dD12) rfl
  exact has_ok F (He.glo_ok X G (c.fact 12 rfl)) sc12 (gls X G c) (blts X G c) (t12 X G c nd) nd ck12 (by intro z; cases z) (fun _ _ _ _ _ _ us hl => match us, hl with | [_], _ => rfl) (fun ks m => absurd m (by simp))
theorem t13 (X : K.In h) (G : h.Ns mainGlobals mg) (c : He.SaysD fa fn K) (nd : base.NoDigits) : ∀ d ∈ T13, HasP P w K mg base 13 d := tbl_snoc (t12 X G c nd) (h12 X G c nd)
theorem h13 (X : K.In h) (G : h.Ns mainGlobals mg) (c : He.SaysD fa fn K) (nd : base.NoDigits) : HasP P w K mg base 14 d13 := by
  obtain ⟨fd, F⟩ := c.def_ 13 (d := dD13) rfl
  exact has_ok F (He.glo_ok X G (c.fact 13 rfl)) sc13 (gls X G c) (blts X G c) (t13 X G c nd) nd ck13 (by intro z; cases z) (fun _ _ _ _ _ _ us hl => match us, hl with | [_, _, _], _ => rfl) (fun ks m => absurd m (by simp))
theorem t14 (X : K.In h) (G : h.Ns mainGlobals mg) (c : He.SaysD fa fn K) (nd : base.NoDigits) : ∀ d ∈ T14, HasP P w K mg base 14 d := tbl_snoc (t13 X G c nd) (h13 X G c nd)
theorem h14 (X : K.In h) (G : h.Ns mainGlobals mg) (c : He.SaysD fa fn K) (nd : base.NoDigits) : HasP P w K mg base 15 d14 := by
  obtain ⟨fd, F⟩ := c.def_ 14 (d := dD14) rfl
  exact has_ok F (He.glo_ok X G (c.fact 14 rfl)) sc14 (gls X G c) (blts X G c) (t14 X G c nd) nd ck14 (by intro z; cases z) (fun _ _ _ _ _ _ us hl => match us, hl with | [_, _], _ => rfl) (fun ks m => absurd m (by simp))
theorem t15 (X : K.In h) (G : h.Ns mainGlobals mg) (c : He.SaysD fa fn K) (nd : base.NoDigits) : ∀ d ∈ T15, HasP P w K mg base 15 d := tbl_snoc (t14 X G c nd) (h14 X G c nd)
theorem h15 (X : K.In h) (G : h.Ns mainGlobals mg) (c : He.SaysD fa fn K) (nd : base.NoDigits) : HasP P w K mg base 16 d15 := by
  obtain ⟨fd, F⟩ := c.def_ 15 (d := dD15) rfl
  exact has_ok F (He.glo_ok X G (c.fact 15 rfl)) sc15 (gls X G c) (blts X G c) (t15 X G c nd) nd ck15 (by intro z; cases z) (fun _ _ _ _ _ _ us hl => match us, hl with | [_, _], _ => rfl) (fun ks m => absurd m (by simp))
theorem t16 (X : K.In h) (G : h.Ns mainGlobals mg) (c : He.SaysD fa fn K) (nd : base.NoDigits) : ∀ d ∈ T16, HasP P w K mg base 16 d := tbl_snoc (t15 X G c nd) (h15 X G c nd)
theorem h16 (X : K.In h) (G : h.Ns mainGlobals mg) (c : He.SaysD fa fn K) (nd : base.NoDigits) : HasP P w K mg base 17 d16 := by
  obtain ⟨fd, F⟩ := c.def_ 16 (d := dD16) rfl
  exact has_ok F (He.glo_ok X G (c.fact 16 rfl)) sc16 (gls X G c) (blts X G c) (t16 X G c nd) nd ck16 (by intro z; cases z) (fun _ _ _ _ _ _ us hl => match us, hl with | [_, _], _ => rfl) (fun ks m => absurd m (by simp))
theorem t17 (X : K.In h) (G : h.Ns mainGlobals mg) (c : He.SaysD fa fn K) (nd : base.NoDigits) : ∀ d ∈ T17, HasP P w K mg base 17 d := tbl_snoc (t16 X G c nd) (h16 X G c nd)
theorem h17 (X : K.In h) (G : h.Ns mainGlobals mg) (c : He.SaysD fa fn K) (nd : base.NoDigits) : HasP P w K mg base 18 d17 := by
  obtain ⟨fd, F⟩ := c.def_ 17 (d := dD17) rfl
  exact has_ok F (He.glo_ok X G (c.fact 17 rfl)) sc17 (gls X G c) (blts X G c) (t17 X G c nd) nd ck17 (by intro z; cases z) (fun _ _ _ _ _ _ us hl => match us, hl with | [_], _ => rfl) (fun ks m => absurd m (by simp))
theorem t18 (X : K.In h) (G : h.Ns mainGlobals mg) (c : He.SaysD fa fn K) (nd : base.NoDigits) : ∀ d ∈ T18, HasP P w K mg base 18 d := tbl_snoc (t17 X G c nd) (h17 X G c nd)
theorem facts {f : Addr} (X : K.In h) (G : h.Ns mainGlobals mg) (hf : mg "law" = some (.ref f)) (c : He.SaysD fa fn K) :
    ∃ fd : FuncData, (∀ (s : Shared) (v : Value), BindsTo s fd ⟨[v], []⟩ [("script", v)]) ∧ ∀ base : Heap, base.NoDigits → FnG P w K mg base 18 f fd ["script"] (spG K 1 false (evDef T17 n17.length b17)) := by
  obtain ⟨fd, F⟩ := c.def_ 17 (d := dD17) rfl
  have e := hf.symm.trans (He.glo_ok X G (c.fact 17 (f := .glo "law") rfl))
  cases e
  have b := FunD.bindsA (ps := ["script"]) F fun _ _ _ _ _ _ us hl => match us, hl with | [_], _ => rfl
  exact ⟨fd, fun s v => b s [v] rfl, fun base nd => def_ok F sc17 (gls X G c) (blts X G c) (t17 X G c nd) nd ck17 (fun z => nomatch z)⟩
end
end LK57
open PySem PySem.W PySem.Calls PyProof.Rows
theorem PySem.Challenge.cw_ordersums_k57_whole_main_unbroken_holds : PySem.Challenge.rw_ordersums_k57_whole_main_unbroken.Holds := by
  w_on; o_law
  refine HandSHeadRun.head_any (r := OpenLaw.row PySem.Challenge.rw_ordersums_k57_whole_main_unbroken) (q := view (OpenLaw.row PySem.Challenge.rw_ordersums_k57_whole_main_unbroken).prog [21]) (H := LK57.hk) (ob := LK57.ob) (M := 1480) (loose := ["all_lots", "drawn_together", "is_round", "rounds_of_ties", "has_all", "unbroken_lots", "colours_row", "roundless_ways", "_law_bag", "_law_draw", "_law_ties", "_law_tied", "_law_lots_of", "_law_is_round", "_law_rounds", "_law_unbroken", "_law_colours"]) (d := HandSHeadRun.topDef (OpenLaw.row PySem.Challenge.rw_ordersums_k57_whole_main_unbroken).prog 21) (kwd := []) LK57.ob_eq
    (by kernel_rfl) (fun s => by kernel_rfl) LK57.run (by kernel_rfl) (by kernel_rfl) (by kernel_rfl) (by rfl) (by first | assumption | decide +kernel) (by decide +kernel) ⟨rfl, rfl, rfl, rfl, rfl, by decide +kernel⟩ ?hw ?hc
  case hw => w_witness2
  case hc =>
    refine Ev.walk_G (l := PySem.Challenge.rw_ordersums_k57_whole_main_unbroken) (n := 63) (k := 18) (x := "script") rfl (by decide) (by kernel_rfl) ⟨rfl, by decide, by decide⟩ ?F
    intro w mg fa h Y G hmg0
    obtain ⟨K, KX, c⟩ := Y
    have hmg : mg ("law" : PySem.Str) = some (.ref fa) := by
      have e : (HandSHeadRun.topDef (OpenLaw.row PySem.Challenge.rw_ordersums_k57_whole_main_unbroken).prog 21).name = ("law" : PySem.Str) := by kernel_rfl
      rw [← e]
      exact hmg0
    obtain ⟨fd, hb, hF⟩ := LK57.facts (P := (PySem.Challenge.rw_ordersums_k57_whole_main_unbroken).prog) (w := w) KX G hmg c
    refine ⟨K, fd, _, KX, hb, fun H a ns hl hS => ?_, fun base _ _ nd => hF base nd⟩
    obtain ⟨r0, e⟩ := LK57.plain ns hl
    exact Ev.script_ok hS e
