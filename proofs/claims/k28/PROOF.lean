import PyProof.Rows.All
import Wide.All
import OpenK.AllK
import Wide.FinOn
import HandS.ForMost
import HandS.TupAny
import HandS.TupMul
import HandS.Deep
import HandS.IsInst
import HandS.Style
import HandS.RaiseMore
import KE.GoesMore
import PyProof.Draws
import PyProof.EnumMake
import HandS.Steps
import HandS.TryOnly
import HandS.Small
import HandS.CallRecv
import KE.KStateDown
import HandS.More
import HandS.Words
import HandS.WordsExc
import HandS.Defaults
import HandS.Head0
import HandS.Head1
import HandS.Head2
import HandS.HeadEnd
import HandS.HeadHook1
import HandS.HeadHook2
import PySem.Challenge.RW_whichheld_k28_families_and_signs
set_option Elab.async false
set_option linter.all false
set_option maxRecDepth 100000
set_option maxHeartbeats 1000000
/-! The core language: erased defs over slots, and their evaluation by values. -/
namespace Wh
open PySem L2

/-- a value: frozen data, or a tree of things that one slot owns -/
inductive D where
  | p (x : PyData)
  | tup (ds : List D)
  | lst (ds : List D)
  | dic (kvs : List (Key × D))
  | obj (c : Str) (fs : List (Str × D))

abbrev Env := List (Option D)

def D.isP : D → Bool
  | .p _ => true
  | _ => false

def keyP : Key → PyData
  | .inl i => .int i
  | .inr x => .str x
def keyOf : PyData → Option Key
  | .int i => some (.inl i)
  | .str x => some (.inr x)
  | _ => none

mutual
def D.toP : D → Option PyData
  | .p x => some x
  | .tup ds => (toPs ds).map .tuple
  | .lst ds => (toPs ds).map .list
  | .dic kvs => (toPk kvs).map .dict
  | .obj _ _ => none
def toPs : List D → Option (List PyData)
  | [] => some []
  | d :: ds => d.toP.bind fun x => (toPs ds).map fun xs => x :: xs
def toPk : List (Key × D) → Option (List (PyData × PyData))
  | [] => some []
  | (k, d) :: r => d.toP.bind fun x => (toPk r).map fun xs => (keyP k, x) :: xs
end

/-- frozen, where it can be -/
def D.fz (d : D) : D := match d.toP with
  | some x => .p x
  | none => d

inductive BOp | add | sub | mul | fdiv | mod | pow
inductive COp | lt | le | gt | ge | eq | ne | is | isn | isin | notin
inductive Ty | int | bool | str | tuple | list | dict

inductive Pt where
  | var (i : Nat) | tup (ts : List Pt)

inductive E where
  | cst (x : PyData) | var (i : Nat) | glob (x : Str)
  | bin (o : BOp) (a b : E) | neg (a : E)
  | cmp (o : COp) (a b : E) | cmp2 (o o2 : COp) (a b c : E)
  | and (es : List E) | or (es : List E) | not (a : E) | ite (c a b : E)
  | tup (es : List E) | lst (es : List E) | dic (ks vs : List E)
  | idx (a i : E) | slc (a : E) (lo hi : Option E) | rev (a : E)
  | attr (a : E) (f : Str)
  | call (f : Str) (es : List E) | new (c : Str) (es : List E) | meth (a : E) (m : Str) (es : List E)
  | blt (f : String) (es : List E) | bm (a : E) (m : String) (es : List E) | mut (a : E) (m : String) (es : List E)
  | isi (a : E) (ts : List Ty)
  | comp (elt : E) (tg : Pt) (it : E) (cond : Option E) (own : List Nat)
  | rng1 (a : E) | rng2 (a b : E) | enum (a : E) | zip (a b : E)

inductive Tg where
  | pt (p : Pt) | sub (a i : E) | attr (a : E) (f : Str) | subs (a i a' i' : E)

inductive S where
  | expr (e : E) | asg (t : Tg) (e : E) | par (i j : Nat) (a b : E) | aug (i : Nat) (o : BOp) (e : E) | auga (a : E) (f : Str) (o : BOp) (e : E)
  | ite (c : E) (a b : List S) | whl (c : E) (b : List S) | for_ (t : Pt) (it : E) (b : List S)
  | ret (e : E) | retn | pass | brk | cont

inductive Fl where
  | next | brk | cont | ret (d : D)

/-- the slot in which the value of a path expression lies -/
def root : E → Option Nat
  | .var i => some i
  | .idx a _ => root a
  | .attr a _ => root a
  | _ => none

def lock (lk : List Nat) (e : E) (d : D) : List Nat := if d.isP then lk else match root e with
  | some i => i :: lk
  | none => lk

/-- an argument that is a plain name is looked at when all are there -/
def lockA (lk : List Nat) (e : E) (d : D) : List Nat := match e with
  | .var _ => lk
  | e => lock lk e d
def late (e : E) (d : D) (ε : Env) : Option D := if d.isP then some d else match e with
  | .var i => (match ε[i]? with | some (some d') => if d'.isP then none else some d' | _ => none)
  | _ => some d

/-! ### operations by values -/
def D.seq? : D → Option (List D)
  | .p (.list xs) => some (xs.map .p)
  | .p (.tuple xs) => some (xs.map .p)
  | .lst ds => some ds
  | .tup ds => some ds
  | _ => none
def allP : List D → Option (List PyData)
  | [] => some []
  | .p x :: r => (allP r).map fun xs => x :: xs
  | _ :: _ => none

def D.ps? : D → Option (List PyData)
  | .p (.list xs) => some xs
  | .p (.tuple xs) => some xs
  | .lst ds => allP ds
  | _ => none

def D.ls? : D → Option (List PyData)
  | .p (.list xs) => some xs
  | .lst ds => allP ds
  | _ => none
/-- what enumerate takes -/
def D.es? : D → Option (List PyData)
  | .p (.tuple xs) => some xs
  | .p (.list xs) => some xs
  | .lst ds => allP ds
  | _ => none
def zipV : D → D → Option (List PyData)
  | .p (.tuple xs), .p (.tuple ys) => some ((xs.zip ys).map fun (x, y) => .tuple [x, y])
  | x, y => x.ls?.bind fun xs => y.ls?.map fun ys => (xs.zip ys).map fun (x, y) => .tuple [x, y]

def mkTup (ds : List D) : D := match allP ds with
  | some xs => .p (.tuple xs)
  | none => .tup ds

def strCat (x y : Str) : Option Str := if x.length + y.length ≤ sizeLine then some (x ++ y) else none

def binop : BOp → D → D → Option D
  | .add, .p (.int i), .p (.int j) => some (.p (.int (i + j)))
  | .add, .p (.str x), .p (.str y) => (strCat x y).map fun z => .p (.str z)
  | .add, .p (.tuple xs), .p (.tuple ys) => if xs.length + ys.length ≤ sizeLine then some (.p (.tuple (xs ++ ys))) else none
  | .add, .lst ds, .lst es => if ds.length + es.length ≤ sizeLine then (if ds.all D.isP && es.all D.isP then some (.lst (ds ++ es)) else none) else none
  | .add, .p (.list xs), .lst es => if xs.length + es.length ≤ sizeLine then (if es.all D.isP then some (.lst (xs.map .p ++ es)) else none) else none
  | .add, .lst ds, .p (.list ys) => if ds.length + ys.length ≤ sizeLine then (if ds.all D.isP then some (.lst (ds ++ ys.map .p)) else none) else none
  | .add, .p (.list xs), .p (.list ys) => if xs.length + ys.length ≤ sizeLine then some (.lst (xs.map .p ++ ys.map .p)) else none
  | .sub, .p (.int i), .p (.int j) => some (.p (.int (i - j)))
  | .mul, .p (.int i), .p (.int j) => if (i.natAbs < 2 ^ 64 ∨ j.natAbs < 2 ^ 64) then some (.p (.int (i * j))) else none
  | .mul, .p (.tuple xs), .p (.int k) => if xs.length ≤ 4000 ∧ 0 ≤ k ∧ k ≤ 4000 then some (.p (.tuple (List.replicate k.toNat xs).flatten)) else none
  | .mul, .lst ds, .p (.int k) => if ds.all D.isP ∧ ds.length ≤ 4000 ∧ 0 ≤ k ∧ k ≤ 4000 then some (.lst (List.replicate k.toNat ds).flatten) else none
  | .mod, .p (.int i), .p (.int j) => if 0 < j then some (.p (.int (i % j))) else none
  | .fdiv, .p (.int i), .p (.int j) => if 0 < j ∧ j < 1073741824 then some (.p (.int (i / j))) else none
  | .pow, .p (.int i), .p (.int j) => if 0 ≤ j ∧ j ≤ 1000000 ∧ i.natAbs < 2 ^ 64 then some (.p (.int (i ^ j.toNat))) else none
  | _, _, _ => none

/-- op= -/
def augV : BOp → D → D → Option PyData
  | .add, .p (.int i), .p (.int j) => some (.int (i + j))
  | .sub, .p (.int i), .p (.int j) => some (.int (i - j))
  | .add, .p (.str x), .p (.str y) => (strCat x y).map fun z => .str z
  | _, _, _ => none

/-- == of things that are no two lists or tuples -/
def eq0 : PyData → PyData → Option Bool
  | .dict _, _ => none
  | _, .dict _ => none
  | .tuple _, .tuple _ => none
  | .list _, .list _ => none
  | x, y => some (PyData.eqv x y)
def eqL (f : PyData → PyData → Option Bool) : List PyData → List PyData → Option Bool
  | [], [] => some true
  | [], _ :: _ => some false
  | _ :: _, [] => some false
  | x :: xs, y :: ys => (f x y).bind fun a => (eqL f xs ys).map fun b => a && b
/-- == by data, looked at so deep -/
def eqS : Nat → PyData → PyData → Option Bool
  | 0, x, y => eq0 x y
  | n + 1, .tuple xs, .tuple ys => eqL (eqS n) xs ys
  | n + 1, .list xs, .list ys => if xs.length = ys.length then eqL (eqS n) xs ys else some false
  | _ + 1, x, y => eq0 x y
/-- == of trees: two lists of unlike lengths are not looked into -/
def eqD (d e : D) : Option Bool := match d, e with
  | .lst ds, .lst es => if ds.length = es.length then (toPs ds).bind fun xs => (toPs es).bind fun ys => eqS 50 (.list xs) (.list ys) else some false
  | d, e => d.toP.bind fun x => e.toP.bind fun y => eqS 50 x y

def inStr (x y : Str) : Bool := !(Builtin.Str.occurrences y x 0 y.length 1).isEmpty
def inL (f : PyData → Option Bool) : List PyData → Option Bool
  | [] => some false
  | y :: ys => (f y).bind fun a => (inL f ys).map fun b => a || b
def inSeq (x : PyData) (ys : List PyData) : Option Bool := inL (fun y => eqS 50 y x) ys

def cmpop : COp → D → D → Option Bool
  | .lt, .p (.int i), .p (.int j) => some (decide (i < j))
  | .le, .p (.int i), .p (.int j) => some (decide (i ≤ j))
  | .gt, .p (.int i), .p (.int j) => some (decide (j < i))
  | .ge, .p (.int i), .p (.int j) => some (decide (j ≤ i))
  | .eq, d, e => eqD d e
  | .ne, d, e => (eqD d e).map (!·)
  | .is, d, .p .none => some (match d with | .p .none => true | _ => false)
  | .isn, d, .p .none => some (match d with | .p .none => false | _ => true)
  | .isin, .p (.str x), .p (.str y) => some (inStr x y)
  | .isin, .p x, d => d.ps?.bind fun ys => inSeq x ys
  | .notin, .p (.str x), .p (.str y) => some (!inStr x y)
  | .notin, .p x, d => d.ps?.bind fun ys => (inSeq x ys).map (!·)
  | _, _, _ => none

def dicGet : List (Key × D) → Key → Option D
  | [], _ => none
  | (x, v) :: r, k => if x = k then some v else dicGet r k
def dictGet (kvs : List (PyData × PyData)) (k : Key) : Option PyData := match kvs with
  | [] => none
  | (x, v) :: r => if keyOf x = some k then some v else dictGet r k
def dicPut (kvs : List (Key × D)) (k : Key) (v : D) : List (Key × D) := match kvs with
  | [] => [(k, v)]
  | (x, w) :: r => if x = k then (x, v) :: r else (x, w) :: dicPut r k v

def getIx : D → D → Option D
  | .p (.tuple xs), .p (.int i) => (atI xs i).map .p
  | .p (.list xs), .p (.int i) => (atI xs i).map .p
  | .p (.str s), .p (.int i) => if s.length ≤ sizeLine then (atI s.cps.toList i).map fun c => .p (.str ⟨#[c]⟩) else none
  | .lst ds, .p (.int i) => atI ds i
  | .tup ds, .p (.int i) => atI ds i
  | .dic kvs, .p k => (keyOf k).bind fun k => dicGet kvs k
  | .p (.dict kvs), .p k => (keyOf k).bind fun k => (dictGet kvs k).map .p
  | _, _ => none

def cut {α : Type} (xs : List α) (lo hi : Option Int) : List α := (xs.drop (HT.sIx xs.length 0 lo)).take (HT.sIx xs.length xs.length hi - HT.sIx xs.length 0 lo)

def slcV : D → Option Int → Option Int → Option D
  | .p (.tuple xs), lo, hi => some (.p (.tuple (cut xs lo hi)))
  | .p (.list xs), lo, hi => some (.lst ((cut xs lo hi).map .p))
  | .p (.str s), lo, hi => if s.length ≤ sizeLine then some (.p (.str ⟨(cut s.cps.toList lo hi).toArray⟩)) else none
  | .lst ds, lo, hi => if ds.all D.isP then some (.lst (cut ds lo hi)) else none
  | _, _, _ => none

def revV : D → Option D
  | .p (.list xs) => some (.lst (xs.reverse.map .p))
  | .p (.tuple xs) => some (.p (.tuple xs.reverse))
  | .lst ds => if ds.all D.isP then some (.lst ds.reverse) else none
  | _ => none

def intsOf : List PyData → Option (List Int)
  | [] => some []
  | .int i :: r => (intsOf r).map fun is => i :: is
  | _ :: _ => none
def strsOf : List PyData → Option (List Str)
  | [] => some []
  | .str i :: r => (strsOf r).map fun is => i :: is
  | _ :: _ => none

def lenV : D → Option Nat
  | .p (.tuple xs) => some xs.length
  | .p (.list xs) => some xs.length
  | .p (.str s) => if s.length ≤ sizeLine then some s.length else none
  | .lst ds => some ds.length
  | .tup ds => some ds.length
  | _ => none

def reprV (d : D) : Option Str := d.toP.bind fun x => if x.showable && decide (x.depth ≤ 100) && decide (x.shown.length ≤ sizeLine) then some x.shown else none

def bltV (f : String) : List D → Option D
  | [d] =>
    if f = "len" then (lenV d).map fun (n : Nat) => D.p (.int (n : Int))
    else if f = "int" then (match d with | .p (.int i) => some (.p (.int i)) | .p (.bool b) => some (.p (.int (if b then 1 else 0))) | _ => none)
    else if f = "abs" then (match d with | .p (.int i) => some (.p (.int (if i < 0 then -i else i))) | _ => none)
    else if f = "tuple" then d.ps?.map fun xs => .p (.tuple xs)
    else if f = "list" then d.ps?.map fun xs => .lst (xs.map .p)
    else if f = "sum" then (match d with | .lst ds => (allP ds).bind fun xs => (intsOf xs).map fun is => .p (.int is.sum) | .p (.list xs) => (intsOf xs).map fun is => .p (.int is.sum) | _ => none)
    else if f = "repr" then (reprV d).map fun x => .p (.str x)
    else none
  | [.p (.int i), .p (.int j)] =>
    if f = "max" then some (.p (.int (if j > i then j else i))) else if f = "min" then some (.p (.int (if j < i then j else i))) else none
  | _ => none

def bmV (m : String) : D → List D → Option D
  | .p (.str a), [d] => if m = "join" then d.ps?.bind fun xs => (strsOf xs).bind fun ys => if (ys.map (·.length)).sum + ys.length * a.length ≤ 16777216 then some (.p (.str (Txt.join a ys))) else none else none
  | .dic kvs, [.p k, .p d] => if m = "get" then (keyOf k).bind fun k => match dicGet kvs k with
      | none => some (.p d)
      | some (.p x) => some (.p x)
      | _ => none
    else none
  | .p (.dict kvs), [.p k, .p d] => if m = "get" then (keyOf k).map fun k => .p ((dictGet kvs k).getD d) else none
  | _, _ => none

/-- what a method that changes its list makes of it, and hands back -/
def mutV (f : D → D) (m : String) : D → List D → Option (D × D)
  | .lst ds, [x] => if m = "append" then (if ds.length < sizeLine then some (.lst (ds ++ [f x]), .p .none) else none)
    else if m = "extend" then x.ps?.bind fun ys => if ds.length + ys.length ≤ sizeLine then some (.lst (ds ++ ys.map .p), .p .none) else none
    else none
  | .lst ds, [] => if m = "pop" then ds.getLast?.map fun d => (.lst ds.dropLast, d) else none
  | _, _ => none

def isTy : Ty → D → Bool
  | .int, .p (.int _) => true
  | .int, .p (.bool _) => true
  | .bool, .p (.bool _) => true
  | .str, .p (.str _) => true
  | .tuple, .p (.tuple _) => true
  | .tuple, .tup _ => true
  | .list, .p (.list _) => true
  | .list, .lst _ => true
  | .dict, .p (.dict _) => true
  | .dict, .dic _ => true
  | _, _ => false

/-! ### paths -/
inductive St1 where
  | ix (k : Nat) | key (k : Key) | fld (f : Str)

def fldSet (f : Str) (v : D) : List (Str × D) → List (Str × D)
  | [] => [(f, v)]
  | (g, w) :: r => if g = f then (f, v) :: r else (g, w) :: fldSet f v r

def D.step : D → St1 → Option D
  | .lst ds, .ix k => ds[k]?
  | .tup ds, .ix k => ds[k]?
  | .dic kvs, .key k => dicGet kvs k
  | .obj _ fs, .fld f => fs.lookup f
  | _, _ => none
def D.put : D → St1 → D → Option D
  | .lst ds, .ix k, v => if k < ds.length then some (.lst (ds.set k v)) else none
  | .tup ds, .ix k, v => if k < ds.length then some (.tup (ds.set k v)) else none
  | .dic kvs, .key k, v => some (.dic (dicPut kvs k v))
  | .obj c fs, .fld f, v => if fs.length < 1000 then some (.obj c (fldSet f v fs)) else none
  | _, _, _ => none
def D.getAt : D → List St1 → Option D
  | d, [] => some d
  | d, s :: r => (d.step s).bind fun x => x.getAt r
def D.putAt : D → List St1 → D → Option D
  | _, [], v => some v
  | d, s :: r, v => (d.step s).bind fun x => (x.putAt r v).bind fun y => d.put s y

def litK : E → Env → Option PyData
  | .cst x, _ => some x
  | .neg (.cst (.int i)), _ => some (.int (-i))
  | .var i, ε => match ε[i]? with | some (some (.p x)) => some x | _ => none
  | _, _ => none
def stepOf (d : D) (k : PyData) : Option St1 := match d, k with
  | .lst ds, .int i => (ixN ds.length i).map .ix
  | .tup ds, .int i => (ixN ds.length i).map .ix
  | .dic _, k => (keyOf k).map .key
  | _, _ => none
/-- the value at a path expression, with its slot and steps -/
def pathE : E → Env → Option (Nat × List St1 × D)
  | .var i, ε => match ε[i]? with | some (some d) => some (i, [], d) | _ => none
  | .attr a f, ε => (pathE a ε).bind fun (i, π, d) => (d.step (.fld f)).map fun x => (i, π ++ [.fld f], x)
  | .idx a k, ε => (pathE a ε).bind fun (i, π, d) => (litK k ε).bind fun k => (stepOf d k).bind fun s => (d.step s).map fun x => (i, π ++ [s], x)
  | _, _ => none
def putD (ε : Env) (i : Nat) (π : List St1) (v : D) : Option D := match ε[i]? with
  | some (some d) => d.putAt π v
  | _ => none

/-! ### evaluation -/
structure Cfg where
  call : Str → List Bool → List D → Option (D × List D)
  mkc : Str → List Bool → List D → Option (D × List D)
  glob : Str → Option PyData
  attr : Str → Str → Bool
  np : Nat
  fz : Bool
  fuel : Nat

def frz (c : Cfg) (d : D) : D := if c.fz then d.fz else d
/-- what may be stored: data, or a tree that nobody else holds -/
def sink (e : E) (d : D) : Option D := if d.isP || (root e).isNone then some d else none

def wipeE (ε : Env) : List Nat → Env
  | [] => ε
  | v :: vs => (wipeE ε vs).set v none
def backE (ε0 ε : Env) : List Nat → Env
  | [] => ε
  | v :: vs => (backE ε0 ε vs).set v (ε0[v]?.getD none)

def ownOk (lk : List Nat) (ε : Env) (v : Nat) : Bool := !decide (v ∈ lk) && (match ε[v]? with | some (some d) => d.isP | _ => true)

def argLk (lk : List Nat) (e : E) (d : D) : Bool := if d.isP then false else match e with
  | .var i => decide (i ∈ lk)
  | e => (root e).isSome
def impRoots : List E → List D → List Nat
  | e :: es, d :: ds => (if d.isP then [] else (root e).toList) ++ impRoots es ds
  | _, _ => []
def argLks (lk : List Nat) : List E → List D → List Bool
  | e :: es, d :: ds => argLk lk e d :: argLks lk es ds
  | _, _ => []
def wback (lk : List Nat) : List E → List D → List D → Env → Env
  | e :: es, d :: ds, d' :: ds', ε => wback lk es ds ds' (if d.isP then ε else match e with
      | .var i => if i ∈ lk then ε else ε.set i (some d')
      | _ => ε)
  | _, _, _, ε => ε
def callWith (f : List Bool → List D → Option (D × List D)) (lk : List Nat) (es : List E) (ds : List D) (ε : Env) : Option (D × Env) :=
  if (impRoots es ds).Nodup then (f (argLks lk es ds) ds).map fun (r, ds') => (r, wback lk es ds ds' ε) else none

def compLoop (f : PyData → Env → Option (Option D × Env)) : List PyData → Env → Option (List D × Env)
  | [], ε => some ([], ε)
  | x :: xs, ε => (f x ε).bind fun (o, ε1) => (compLoop f xs ε1).map fun (ds, ε2) => (o.toList ++ ds, ε2)
def forLoop (f : PyData → Env → Option (Fl × Env)) : List PyData → Env → Option (Fl × Env)
  | [], ε => some (.next, ε)
  | x :: xs, ε => (f x ε).bind fun (fl, ε1) => match fl with
    | .next => forLoop f xs ε1
    | .cont => forLoop f xs ε1
    | .brk => some (.next, ε1)
    | .ret d => some (.ret d, ε1)
def whileLoop (c : Env → Option (Bool × Env)) (f : Env → Option (Fl × Env)) : Nat → Env → Option (Fl × Env)
  | 0, _ => none
  | n + 1, ε => (c ε).bind fun (b, ε1) => if b then (f ε1).bind fun (fl, ε2) => match fl with
      | .next => whileLoop c f n ε2
      | .cont => whileLoop c f n ε2
      | .brk => some (.next, ε2)
      | .ret d => some (.ret d, ε2)
    else some (.next, ε1)

def cstKeys (g : Str → Option PyData) : List E → Option (List Key)
  | [] => some []
  | .cst k :: r => (keyOf k).bind fun k => (cstKeys g r).map fun ks => k :: ks
  | .glob x :: r => (g x).bind fun k => (keyOf k).bind fun k => (cstKeys g r).map fun ks => k :: ks
  | _ :: _ => none
def sinks : List E → List D → Bool
  | e :: es, d :: ds => (d.isP || (root e).isNone) && sinks es ds
  | _, _ => true
def rngL (lo : Int) (n : Nat) : List PyData := (List.range n).map fun (i : Nat) => PyData.int (lo + (i : Int))
def enumL : Nat → List PyData → List PyData
  | _, [] => []
  | k, d :: ds => .tuple [.int k, d] :: enumL (k + 1) ds
def strL (s : Str) : List PyData := s.cps.toList.map fun c => PyData.str ⟨#[c]⟩
/-- the locks while e is walked -/
def itLk (lk : List Nat) (e : E) (x : D) : List Nat := match e with
  | .enum a => (root a).toList ++ lk
  | .zip a b => (root a).toList ++ ((root b).toList ++ lk)
  | e => lock lk e x
/-- the items of a list, a tuple or a text -/
def itV (lk : List Nat) (e : E) : D → Option (List PyData × List Nat)
  | .p (.str s) => some (strL s, lk)
  | x => x.ps?.map fun ds => (ds, itLk lk e x)
def optI : Option (D × Env) → Option (Option Int × Env)
  | some (.p (.int i), ε) => some (some i, ε)
  | _ => none

mutual
/-- the names of a pattern take the parts -/
def bindP (lk : List Nat) : Pt → PyData → Env → Option Env
  | .var i, x, ε => if i ∈ lk then none else some (ε.set i (some (.p x)))
  | .tup ts, x, ε => match x with
    | .tuple xs => bindPs lk ts xs ε
    | _ => none
def bindPs (lk : List Nat) : List Pt → List PyData → Env → Option Env
  | [], [], ε => some ε
  | t :: ts, x :: xs, ε => (bindP lk t x ε).bind fun ε1 => bindPs lk ts xs ε1
  | _, _, _ => none
end
/-- .. of a tree that is handed over -/
def bindD (lk : List Nat) : Pt → D → Env → Option Env
  | .var i, d, ε => if i ∈ lk then none else some (ε.set i (some d))
  | t, .p x, ε => bindP lk t x ε
  | .tup [.var i, .var j], .tup [d, e], ε => if i ∈ lk ∨ j ∈ lk then none else some ((ε.set i (some d)).set j (some e))
  | .tup [.var i, .var j], .lst [d, e], ε => if i ∈ lk ∨ j ∈ lk then none else some ((ε.set i (some d)).set j (some e))
  | _, _, _ => none

mutual
def ev (c : Cfg) (lk : List Nat) : E → Env → Option (D × Env)
  | .cst x, ε => some (.p x, ε)
  | .var i, ε => match ε[i]? with | some (some d) => some (d, ε) | _ => none
  | .glob x, ε => (c.glob x).map fun v => (.p v, ε)
  | .bin o a b, ε => (ev c lk a ε).bind fun (x, ε1) => (ev c (lock lk a x) b ε1).bind fun (y, ε2) => (binop o x y).map fun z => (z, ε2)
  | .neg a, ε => (ev c lk a ε).bind fun (x, ε1) => match x with | .p (.int i) => some (.p (.int (-i)), ε1) | _ => none
  | .cmp o a b, ε => (ev c lk a ε).bind fun (x, ε1) => (ev c (lock lk a x) b ε1).bind fun (y, ε2) => (cmpop o x y).map fun z => (.p (.bool z), ε2)
  | .cmp2 o o2 a b d, ε => (ev c lk a ε).bind fun (x, ε1) => (ev c (lock lk a x) b ε1).bind fun (y, ε2) => (cmpop o x y).bind fun z =>
      if z then (ev c (lock lk b y) d ε2).bind fun (w, ε3) => (cmpop o2 y w).map fun z => (.p (.bool z), ε3) else some (.p (.bool false), ε2)
  | .and es, ε => evAnd c lk es ε
  | .or es, ε => evOr c lk es ε
  | .not a, ε => (ev c lk a ε).bind fun (x, ε1) => match x with | .p (.bool b) => some (.p (.bool !b), ε1) | _ => none
  | .ite t a b, ε => (ev c lk t ε).bind fun (x, ε1) => match x with
      | .p (.bool k) => if k then (ev c lk a ε1).bind fun (y, ε2) => (sink a y).map fun y => (y, ε2) else (ev c lk b ε1).bind fun (y, ε2) => (sink b y).map fun y => (y, ε2)
      | _ => none
  | .tup es, ε => (evs c lk es ε).bind fun (ds, ε1) => if sinks es ds then (if ds.length ≤ sizeLine then some (mkTup (ds.map (frz c)), ε1) else none) else none
  | .lst es, ε => (evs c lk es ε).bind fun (ds, ε1) => if sinks es ds then (if ds.length ≤ sizeLine then some (.lst (ds.map (frz c)), ε1) else none) else none
  | .dic ks vs, ε => (evs c lk vs ε).bind fun (ds, ε1) => if sinks vs ds then (cstKeys c.glob ks).bind fun kk => if kk.length = ds.length ∧ kk.Nodup ∧ kk.length ≤ 15 then some (.dic (kk.zip ds), ε1) else none else none
  | .idx a i, ε => (ev c lk a ε).bind fun (x, ε1) => (ev c (lock lk a x) i ε1).bind fun (k, ε2) => (getIx x k).map fun z => (z, ε2)
  | .slc a lo hi, ε => (ev c lk a ε).bind fun (x, ε1) => (evO c (lock lk a x) lo ε1).bind fun (l, ε2) => (evO c (lock lk a x) hi ε2).bind fun (h, ε3) => (slcV x l h).map fun z => (z, ε3)
  | .rev a, ε => (ev c lk a ε).bind fun (x, ε1) => (revV x).map fun z => (z, ε1)
  | .attr a f, ε => (ev c lk a ε).bind fun (x, ε1) => match x with | .obj _ fs => (fs.lookup f).map fun z => (z, ε1) | _ => none
  | .call f es, ε => (evs c lk es ε).bind fun (ds, ε1) => callWith (c.call f) lk es ds ε1
  | .new k es, ε => (evs c lk es ε).bind fun (ds, ε1) =>
      if (impRoots es ds).Nodup then (c.mkc k (false :: argLks lk es ds) (.obj k [] :: ds)).bind fun (r, ds') => match r, ds' with
        | .p .none, o :: ds' => some (o, wback lk es ds ds' ε1)
        | _, _ => none
      else none
  | .meth a m es, ε => (ev c lk a ε).bind fun (x, ε1) => match x with
      | .obj k _ => (evs c (lock lk a x) es ε1).bind fun (ds, ε2) => callWith (c.call (k ++ Str.ofString "." ++ m)) lk (a :: es) (x :: ds) ε2
      | _ => none
  | .blt f es, ε => (evs c lk es ε).bind fun (ds, ε1) => (bltV f ds).map fun z => (z, ε1)
  | .bm a m es, ε => (ev c lk a ε).bind fun (x, ε1) => (evs c (lock lk a x) es ε1).bind fun (ds, ε2) => (bmV m x ds).map fun z => (z, ε2)
  | .mut a m es, ε => (pathE a ε).bind fun (i, π, y) => if i ∈ lk then none else (evs c (i :: lk) es ε).bind fun (ds, ε2) => if sinks es ds then
      (mutV (frz c) m y ds).bind fun (z, r) => (putD ε i π z).map fun d' => (r, ε2.set i (some d'))
      else none
  | .isi a ts, ε => (ev c lk a ε).bind fun (x, ε1) => match x with
      | .obj _ _ => none
      | x => some (.p (.bool (ts.any fun t => isTy t x)), ε1)
  | .comp elt tg it cond own, ε => ((ev c lk it ε).bind fun (x, ε1) => (itV lk it x).map fun (xs, lk') => (xs, lk', ε1)).bind fun (xs, lk', ε1) => if own.all (ownOk lk' ε1) then
      (compLoop (fun x ε => (bindP lk' tg x (wipeE ε own)).bind fun ε2 => (evC c lk' cond ε2).bind fun (b, ε3) =>
          if b then (ev c lk' elt ε3).bind fun (d, ε4) => (sink elt d).map fun d => (some (frz c d), wipeE ε4 own) else some (none, wipeE ε3 own)) xs (wipeE ε1 own)).bind fun (ds, ε2) => if ds.length ≤ sizeLine then some (.lst ds, backE ε1 ε2 own) else none
      else none
  | .rng1 a, ε => (ev c lk a ε).bind fun (x, ε1) => match x with
      | .p (.int j) => if -(2 ^ 62) ≤ j ∧ j < 2 ^ 62 then some (.p (.list (rngL 0 j.toNat)), ε1) else none
      | _ => none
  | .rng2 a b, ε => (ev c lk a ε).bind fun (x, ε1) => (ev c (lock lk a x) b ε1).bind fun (y, ε2) => match x, y with
      | .p (.int i), .p (.int j) => if (-(2 ^ 62) ≤ i ∧ i < 2 ^ 62) ∧ -(2 ^ 62) ≤ j ∧ j < 2 ^ 62 then some (.p (.list (rngL i (j - i).toNat)), ε2) else none
      | _, _ => none
  | .enum a, ε => (ev c lk a ε).bind fun (x, ε1) => x.es?.map fun ds => (.p (.list (enumL 0 ds)), ε1)
  | .zip a b, ε => (ev c lk a ε).bind fun (x, ε1) => (ev c (lock lk a x) b ε1).bind fun (y, ε2) => (zipV x y).map fun xs => (.p (.list xs), ε2)
def evs (c : Cfg) (lk : List Nat) : List E → Env → Option (List D × Env)
  | [], ε => some ([], ε)
  | e :: es, ε => (ev c lk e ε).bind fun (d, ε1) => (evs c (lockA lk e d) es ε1).bind fun (ds, ε2) => (late e d ε2).map fun d' => (d' :: ds, ε2)
def evO (c : Cfg) (lk : List Nat) : Option E → Env → Option (Option Int × Env)
  | none, ε => some (none, ε)
  | some e, ε => optI (ev c lk e ε)
def evC (c : Cfg) (lk : List Nat) : Option E → Env → Option (Bool × Env)
  | none, ε => some (true, ε)
  | some e, ε => (ev c lk e ε).bind fun (x, ε1) => match x with | .p (.bool b) => some (b, ε1) | _ => none
def evAnd (c : Cfg) (lk : List Nat) : List E → Env → Option (D × Env)
  | [], _ => none
  | [e], ε => (ev c lk e ε).bind fun (x, ε1) => match x with | .p (.bool b) => some (.p (.bool b), ε1) | _ => none
  | e :: es, ε => (ev c lk e ε).bind fun (x, ε1) => match x with
      | .p (.bool b) => if b then evAnd c lk es ε1 else some (.p (.bool false), ε1)
      | _ => none
def evOr (c : Cfg) (lk : List Nat) : List E → Env → Option (D × Env)
  | [], _ => none
  | [e], ε => (ev c lk e ε).bind fun (x, ε1) => match x with | .p (.bool b) => some (.p (.bool b), ε1) | _ => none
  | e :: es, ε => (ev c lk e ε).bind fun (x, ε1) => match x with
      | .p (.bool b) => if b then some (.p (.bool true), ε1) else evOr c lk es ε1
      | _ => none
end

/-- what a loop walks: its items, and the locks while it runs -/
def evIt (c : Cfg) (lk : List Nat) (e : E) (ε : Env) : Option (List PyData × List Nat × Env) := (ev c lk e ε).bind fun (x, ε1) => (itV lk e x).map fun (xs, lk') => (xs, lk', ε1)

/-- the value that a def hands back: data, a new tree, or a local's own -/
def retV (c : Cfg) (e : E) (d : D) : Option D := if d.isP || (root e).isNone || (match e with | .var i => decide (c.np ≤ i) | _ => false) then some (frz c d) else none

/-- a field that the class may not take -/
def newFld (c : Cfg) (y : D) (f : Str) : Bool := match y with
  | .obj k fs => (fs.lookup f).isNone && !c.attr k f
  | _ => true
/-- a[k] = d of a list or a dict -/
def subT (c : Cfg) (lk : List Nat) (a k : E) (d : D) (ε : Env) : Option Env := (pathE a ε).bind fun (i, π, y) => if i ∈ lk then none else (ev c (i :: lk) k ε).bind fun (kv, ε2) => match kv with
      | .p kk => (match y with | .lst _ => stepOf y kk | .dic kvs => if kvs.length < 1000 then stepOf y kk else none | _ => none).bind fun s => (y.put s d).bind fun y' => (putD ε i π y').map fun d' => ε2.set i (some d')
      | _ => none
def asgT (c : Cfg) (lk : List Nat) (e : E) : Tg → D → Env → Option Env
  | .pt t, d, ε => (sink e d).bind fun d => bindD lk t d ε
  | .sub a k, d, ε => (sink e d).bind fun d => subT c lk a k d ε
  | .attr a f, d, ε => (sink e d).bind fun d => (pathE a ε).bind fun (i, π, y) => if i ∈ lk ∨ newFld c y f then none else
      (y.put (.fld f) d).bind fun y' => (putD ε i π y').map fun d' => ε.set i (some d')
  | .subs a k a2 k2, d, ε => match d with
      | .p (.tuple [x, y]) => (subT c lk a k (.p x) ε).bind fun ε1 => subT c lk a2 k2 (.p y) ε1
      | _ => none

mutual
def exS (c : Cfg) (lk : List Nat) : S → Env → Option (Fl × Env)
  | .expr e, ε => (ev c lk e ε).map fun (_, ε1) => (.next, ε1)
  | .asg t e, ε => (ev c lk e ε).bind fun (d, ε1) => (asgT c lk e t d ε1).map fun ε2 => (.next, ε2)
  | .par i j a b, ε => (evs c lk [a, b] ε).bind fun (ds, ε1) => if sinks [a, b] ds then match ds with
      | [x, y] => if i ∈ lk ∨ j ∈ lk ∨ i = j then none else some (.next, (ε1.set i (some x)).set j (some y))
      | _ => none
      else none
  | .aug i o e, ε => match ε[i]? with
      | some (some (.p x)) => (ev c lk e ε).bind fun (y, ε1) => if i ∈ lk then none else (augV o (.p x) y).map fun z => (.next, ε1.set i (some (.p z)))
      | _ => none
  | .auga a f o e, ε => (pathE a ε).bind fun (i, π, y) => if i ∈ lk then none else (y.step (.fld f)).bind fun v => if v.isP then (ev c (i :: lk) e ε).bind fun (w, ε2) => (augV o v w).bind fun z =>
      (y.put (.fld f) (.p z)).bind fun y' => (putD ε i π y').map fun d' => (.next, ε2.set i (some d'))
      else none
  | .ite t a b, ε => (ev c lk t ε).bind fun (x, ε1) => match x with
      | .p (.bool k) => if k then exSs c lk a ε1 else exSs c lk b ε1
      | _ => none
  | .whl t b, ε => whileLoop (fun ε => (ev c lk t ε).bind fun (x, ε1) => match x with | .p (.bool k) => some (k, ε1) | _ => none) (fun ε => exSs c lk b ε) c.fuel ε
  | .for_ t it b, ε => (evIt c lk it ε).bind fun (xs, lk', ε1) => forLoop (fun x ε => (bindP lk' t x ε).bind fun ε2 => exSs c lk' b ε2) xs ε1
  | .ret e, ε => (ev c lk e ε).bind fun (d, ε1) => (retV c e d).map fun d => (.ret d, ε1)
  | .retn, ε => some (.ret (.p .none), ε)
  | .pass, ε => some (.next, ε)
  | .brk, ε => some (.brk, ε)
  | .cont, ε => some (.cont, ε)
def exSs (c : Cfg) (lk : List Nat) : List S → Env → Option (Fl × Env)
  | [], ε => some (.next, ε)
  | s :: r, ε => (exS c lk s ε).bind fun (fl, ε1) => match fl with
    | .next => exSs c lk r ε1
    | fl => some (fl, ε1)
end

structure Fn where
  np : Nat
  ns : Nat
  asgd : List Nat
  fz : Bool
  body : List S

structure Tab where
  fn : Str → Option Fn
  glob : Str → Option PyData
  attr : Str → Str → Bool

def lksOf : Nat → List Bool → List Nat
  | _, [] => []
  | i, b :: bs => if b then i :: lksOf (i + 1) bs else lksOf (i + 1) bs
/-- what the parameters are at the end -/
def ends : Nat → Env → Option (List D)
  | 0, _ => some []
  | n + 1, some d :: ε => (ends n ε).map fun ds => d :: ds
  | _ + 1, _ => none

/-- one call: its body, where what it calls is given -/
def callW (T : Tab) (call mkc : Str → List Bool → List D → Option (D × List D)) (f : Str) (fl : List Bool) (ds : List D) : Option (D × List D) := (T.fn f).bind fun F => if ds.length = F.np ∧ (F.asgd.all fun i => (ds[i]?.map D.isP).getD true) then
      (exSs { call := call, mkc := fun k => mkc (k ++ Str.ofString ".__init__"), glob := T.glob, attr := T.attr, np := F.np, fz := F.fz, fuel := 1000000 } (lksOf 0 fl) F.body (ds.map some ++ List.replicate (F.ns - F.np) none)).bind fun (r, ε) =>
        match r with
        | .next => (ends F.np ε).map fun ds => (.p .none, ds)
        | .ret d => (ends F.np ε).map fun ds => (d, ds)
        | _ => none
    else none
/-- what a def hands back, and what its arguments are then; at most n calls deep -/
def callF (T : Tab) : Nat → Str → List Bool → List D → Option (D × List D)
  | 0, _, _, _ => none
  | 1, f, fl, ds => callW T (fun _ _ _ => none) (fun _ _ _ => none) f fl ds
  | n + 2, f, fl, ds => callW T (callF T (n + 1)) (callF T n) f fl ds
theorem callF_0 (T : Tab) : callF T 0 = fun _ _ _ => none := by funext f fl ds; simp only [callF]
theorem callF_s (T : Tab) (n : Nat) (f : Str) (fl : List Bool) (ds : List D) : callF T (n + 1) f fl ds = callW T (callF T n) (callF T (n - 1)) f fl ds := by
  cases n with
  | zero => simp only [callF, Nat.zero_sub, callF_0]
  | succ n => simp only [callF, Nat.add_sub_cancel]

end Wh


set_option Elab.async false
set_option linter.all false
set_option maxRecDepth 100000
set_option maxHeartbeats 1000000
/-! How values of the core language lie in the abstract heap. -/
namespace Wh
open PySem L2

/-! ### frozen data -/
/-- a list that nobody changes any more: locked, or of the written part -/
def FzL (K : PySem.W.Frag) (H : Hp) (a : Addr) (xs : List V) : Prop :=
  (∃ o, H a = some (.frz o (.lst xs))) ∨
    ∃ (its : Array Value) (n : Nat), K.lookup a = some { cls := .type "list", data := .seq its n } ∧ its.size ≤ sizeLine ∧ Vals xs its.toList
theorem FzL.sq {K : PySem.W.Frag} {H : Hp} {a : Addr} {xs : List V} (h : FzL K H a xs) : SqL K H a xs := by
  rcases h with ⟨o, h⟩ | h
  · exact .inl (.inr ⟨o, h⟩)
  · obtain ⟨its, n, e, z, r⟩ := h
    exact .inr ⟨_, its, n, e, rfl, rfl, rfl, z, r⟩

mutual
inductive Rp (K : PySem.W.Frag) (H : Hp) : V → PyData → Prop
  | non : Rp K H .non .none
  | bl (b : Bool) : Rp K H (.bl b) (.bool b)
  | int (i : Int) : Rp K H (.int i) (.int i)
  | str (x : Str) : Rp K H (.str x) (.str x)
  | lst {a : Addr} {xs : List V} {ds : List PyData} : FzL K H a xs → RpAll K H xs ds → Rp K H (.ref a) (.list ds)
  | tup {a : Addr} {xs : List V} {ds : List PyData} : SqT K H a xs → RpAll K H xs ds → Rp K H (.ref a) (.tuple ds)
  | dic {a : Addr} {o : Obj} {kvs : List (Key × V)} {ds : List (PyData × PyData)} : H a = some (.frz o (.dK kvs)) → RpKv K H kvs ds → Rp K H (.ref a) (.dict ds)
inductive RpAll (K : PySem.W.Frag) (H : Hp) : List V → List PyData → Prop
  | nil : RpAll K H [] []
  | cons {v : V} {vs : List V} {d : PyData} {ds : List PyData} : Rp K H v d → RpAll K H vs ds → RpAll K H (v :: vs) (d :: ds)
inductive RpKv (K : PySem.W.Frag) (H : Hp) : List (Key × V) → List (PyData × PyData) → Prop
  | nil : RpKv K H [] []
  | cons {k : Key} {v : V} {vs : List (Key × V)} {d : PyData} {ds : List (PyData × PyData)} : Rp K H v d → RpKv K H vs ds → RpKv K H ((k, v) :: vs) ((keyP k, d) :: ds)
end

/-- what never changes -/
def Imm : HO → Prop
  | .tup _ => True
  | .frz _ _ => True
  | _ => False
def ImK (H H' : Hp) : Prop := ∀ a o, H a = some o → Imm o → H' a = some o
theorem ImK.refl (H : Hp) : ImK H H := fun _ _ h _ => h
theorem ImK.trans {H H1 H2 : Hp} (a : ImK H H1) (b : ImK H1 H2) : ImK H H2 := fun c o h i => b c o (a c o h i) i
theorem ImK.sqT {K : PySem.W.Frag} {H H' : Hp} (k : ImK H H') {a : Addr} {xs : List V} (h : SqT K H a xs) : SqT K H' a xs := by
  rcases h with (h | ⟨o, h⟩) | h
  · exact .inl (.inl (k _ _ h trivial))
  · exact .inl (.inr ⟨o, k _ _ h trivial⟩)
  · exact .inr h
theorem ImK.fzL {K : PySem.W.Frag} {H H' : Hp} (k : ImK H H') {a : Addr} {xs : List V} (h : FzL K H a xs) : FzL K H' a xs := by
  rcases h with ⟨o, h⟩ | h
  · exact .inl ⟨o, k _ _ h trivial⟩
  · exact .inr h
mutual
theorem Rp.im {K : PySem.W.Frag} {H H' : Hp} (k : ImK H H') : ∀ {v : V} {d : PyData}, Rp K H v d → Rp K H' v d
  | _, _, .non => .non
  | _, _, .bl b => .bl b
  | _, _, .int b => .int b
  | _, _, .str b => .str b
  | _, _, .lst h r => .lst (k.fzL h) (RpAll.im k r)
  | _, _, .tup h r => .tup (k.sqT h) (RpAll.im k r)
  | _, _, .dic h r => .dic (k _ _ h trivial) (RpKv.im k r)
theorem RpAll.im {K : PySem.W.Frag} {H H' : Hp} (k : ImK H H') : ∀ {v : List V} {d : List PyData}, RpAll K H v d → RpAll K H' v d
  | _, _, .nil => .nil
  | _, _, .cons h r => .cons (Rp.im k h) (RpAll.im k r)
theorem RpKv.im {K : PySem.W.Frag} {H H' : Hp} (k : ImK H H') : ∀ {v : List (Key × V)} {d : List (PyData × PyData)}, RpKv K H v d → RpKv K H' v d
  | _, _, .nil => .nil
  | _, _, .cons h r => .cons (Rp.im k h) (RpKv.im k r)
end

/-! ### trees -/
mutual
inductive RD (K : PySem.W.Frag) (CA : Str → Addr) (H : Hp) : D → V → List Addr → Prop
  | p {x : PyData} {v : V} : Rp K H v x → RD K CA H (.p x) v []
  | lst {a : Addr} {vs : List V} {ds : List D} {F : List Addr} : H a = some (.lst vs) → RDs K CA H ds vs F → RD K CA H (.lst ds) (.ref a) (a :: F)
  | tup {a : Addr} {vs : List V} {ds : List D} {F : List Addr} : H a = some (.tup vs) → RDs K CA H ds vs F → RD K CA H (.tup ds) (.ref a) F
  | dic {a : Addr} {kvs : List (Key × V)} {ds : List (Key × D)} {F : List Addr} : H a = some (.dK kvs) → (ds.map (·.1)).Nodup → RDk K CA H ds kvs F → RD K CA H (.dic ds) (.ref a) (a :: F)
  | obj {a dx : Addr} {c : Str} {fs : List (Str × V)} {ds : List (Str × D)} {F : List Addr} : H a = some (.ins (CA c) dx fs) → H dx = some (.own a) → Cls K (CA c) → (∀ f ∈ ds.map (·.1), NoAttr K (CA c) f) → RDf K CA H ds fs F → RD K CA H (.obj c ds) (.ref a) (a :: dx :: F)
inductive RDs (K : PySem.W.Frag) (CA : Str → Addr) (H : Hp) : List D → List V → List Addr → Prop
  | nil : RDs K CA H [] [] []
  | cons {d : D} {v : V} {F : List Addr} {ds : List D} {vs : List V} {G : List Addr} : RD K CA H d v F → RDs K CA H ds vs G → RDs K CA H (d :: ds) (v :: vs) (F ++ G)
inductive RDk (K : PySem.W.Frag) (CA : Str → Addr) (H : Hp) : List (Key × D) → List (Key × V) → List Addr → Prop
  | nil : RDk K CA H [] [] []
  | cons {k : Key} {d : D} {v : V} {F : List Addr} {ds : List (Key × D)} {vs : List (Key × V)} {G : List Addr} : RD K CA H d v F → RDk K CA H ds vs G → RDk K CA H ((k, d) :: ds) ((k, v) :: vs) (F ++ G)
inductive RDf (K : PySem.W.Frag) (CA : Str → Addr) (H : Hp) : List (Str × D) → List (Str × V) → List Addr → Prop
  | nil : RDf K CA H [] [] []
  | cons {f : Str} {d : D} {v : V} {F : List Addr} {ds : List (Str × D)} {vs : List (Str × V)} {G : List Addr} : RD K CA H d v F → RDf K CA H ds vs G → RDf K CA H ((f, d) :: ds) ((f, v) :: vs) (F ++ G)
end

/-- what may change -/
def MutK : Option HO → Prop
  | some (.lst _) => True
  | some (.dK _) => True
  | some (.ins _ _ _) => True
  | some (.own _) => True
  | _ => False
theorem MutK.some {o : Option HO} (h : MutK o) : ∃ u, o = .some u := by cases o with | none => exact h.elim | some u => exact ⟨u, rfl⟩
theorem MutK.not_imm {H : Hp} {a : Addr} {o : HO} (h : MutK (H a)) (e : H a = Option.some o) (i : Imm o) : False := by
  rw [e] at h
  cases o <;> first | exact h | exact i
mutual
theorem RD.mutk {K : PySem.W.Frag} {CA : Str → Addr} {H : Hp} : ∀ {d : D} {v : V} {F : List Addr}, RD K CA H d v F → ∀ a ∈ F, MutK (H a)
  | _, _, _, .p _ => fun a h => nomatch h
  | _, _, _, .lst h r => fun b hb => by
    rcases List.mem_cons.mp hb with rfl | hb
    · rw [h]; trivial
    · exact RDs.mutk r b hb
  | _, _, _, .tup h r => RDs.mutk r
  | _, _, _, .dic h _ r => fun b hb => by
    rcases List.mem_cons.mp hb with rfl | hb
    · rw [h]; trivial
    · exact RDk.mutk r b hb
  | _, _, _, .obj h h2 _ _ r => fun b hb => by
    rcases List.mem_cons.mp hb with rfl | hb
    · rw [h]; trivial
    · rcases List.mem_cons.mp hb with rfl | hb
      · rw [h2]; trivial
      · exact RDf.mutk r b hb
theorem RDs.mutk {K : PySem.W.Frag} {CA : Str → Addr} {H : Hp} : ∀ {d : List D} {v : List V} {F : List Addr}, RDs K CA H d v F → ∀ a ∈ F, MutK (H a)
  | _, _, _, .nil => fun a h => nomatch h
  | _, _, _, .cons h r => fun b hb => (List.mem_append.mp hb).elim (RD.mutk h b) (RDs.mutk r b)
theorem RDk.mutk {K : PySem.W.Frag} {CA : Str → Addr} {H : Hp} : ∀ {d : List (Key × D)} {v : List (Key × V)} {F : List Addr}, RDk K CA H d v F → ∀ a ∈ F, MutK (H a)
  | _, _, _, .nil => fun a h => nomatch h
  | _, _, _, .cons h r => fun b hb => (List.mem_append.mp hb).elim (RD.mutk h b) (RDk.mutk r b)
theorem RDf.mutk {K : PySem.W.Frag} {CA : Str → Addr} {H : Hp} : ∀ {d : List (Str × D)} {v : List (Str × V)} {F : List Addr}, RDf K CA H d v F → ∀ a ∈ F, MutK (H a)
  | _, _, _, .nil => fun a h => nomatch h
  | _, _, _, .cons h r => fun b hb => (List.mem_append.mp hb).elim (RD.mutk h b) (RDf.mutk r b)
end
mutual
/-- a tree stays where its own objects and all that never changes stay -/
theorem RD.keep {K : PySem.W.Frag} {CA : Str → Addr} {H H' : Hp} (k : ImK H H') : ∀ {d : D} {v : V} {F : List Addr}, RD K CA H d v F → (∀ a ∈ F, H' a = H a) → RD K CA H' d v F
  | _, _, _, .p r, _ => .p (r.im k)
  | _, _, _, .lst h r, f => .lst ((f _ List.mem_cons_self).trans h) (RDs.keep k r fun a ha => f a (List.mem_cons_of_mem _ ha))
  | _, _, _, .tup h r, f => .tup (k _ _ h trivial) (RDs.keep k r f)
  | _, _, _, .dic h n r, f => .dic ((f _ List.mem_cons_self).trans h) n (RDk.keep k r fun a ha => f a (List.mem_cons_of_mem _ ha))
  | _, _, _, .obj h h2 c1 c2 r, f => .obj ((f _ List.mem_cons_self).trans h) ((f _ (List.mem_cons_of_mem _ List.mem_cons_self)).trans h2) c1 c2 (RDf.keep k r fun a ha => f a (List.mem_cons_of_mem _ (List.mem_cons_of_mem _ ha)))
theorem RDs.keep {K : PySem.W.Frag} {CA : Str → Addr} {H H' : Hp} (k : ImK H H') : ∀ {d : List D} {v : List V} {F : List Addr}, RDs K CA H d v F → (∀ a ∈ F, H' a = H a) → RDs K CA H' d v F
  | _, _, _, .nil, _ => .nil
  | _, _, _, .cons h r, f => .cons (RD.keep k h fun a ha => f a (List.mem_append_left _ ha)) (RDs.keep k r fun a ha => f a (List.mem_append_right _ ha))
theorem RDk.keep {K : PySem.W.Frag} {CA : Str → Addr} {H H' : Hp} (k : ImK H H') : ∀ {d : List (Key × D)} {v : List (Key × V)} {F : List Addr}, RDk K CA H d v F → (∀ a ∈ F, H' a = H a) → RDk K CA H' d v F
  | _, _, _, .nil, _ => .nil
  | _, _, _, .cons h r, f => .cons (RD.keep k h fun a ha => f a (List.mem_append_left _ ha)) (RDk.keep k r fun a ha => f a (List.mem_append_right _ ha))
theorem RDf.keep {K : PySem.W.Frag} {CA : Str → Addr} {H H' : Hp} (k : ImK H H') : ∀ {d : List (Str × D)} {v : List (Str × V)} {F : List Addr}, RDf K CA H d v F → (∀ a ∈ F, H' a = H a) → RDf K CA H' d v F
  | _, _, _, .nil, _ => .nil
  | _, _, _, .cons h r, f => .cons (RD.keep k h fun a ha => f a (List.mem_append_left _ ha)) (RDf.keep k r fun a ha => f a (List.mem_append_right _ ha))
end

/-! ### the state -/
abbrev Fo := Nat → List Addr
structure Rel (K : PySem.W.Frag) (CA : Str → Addr) (H : Hp) (ε : Env) (σ : St) (F : Fo) : Prop where
  len : σ.length = ε.length
  val : ∀ (i : Nat) (d : D), ε[i]? = some (some d) → ∃ v, σ[i]? = some (some v) ∧ RD K CA H d v (F i)
  emp : ∀ i : Nat, (∀ d, ε[i]? ≠ some (some d)) → F i = []
  dj : ∀ (i j : Nat) (a : Addr), a ∈ F i → a ∈ F j → i = j
  nd : ∀ i : Nat, (F i).Nodup

theorem Rel.mutk {K : PySem.W.Frag} {CA : Str → Addr} {H : Hp} {ε : Env} {σ : St} {F : Fo} (r : Rel K CA H ε σ F) (i : Nat) (a : Addr) (h : a ∈ F i) : MutK (H a) := by
  by_cases e : ∃ d, ε[i]? = some (some d)
  · obtain ⟨d, e⟩ := e
    obtain ⟨v, _, q⟩ := r.val i d e
    exact q.mutk a h
  · rw [r.emp i (fun d q => e ⟨d, q⟩)] at h; cases h

/-- from (H, F) to (H', F'), T beside it, where the slots lk were locked -/
structure Po (lk : List Nat) (H : Hp) (F : Fo) (H' : Hp) (F' : Fo) (T : List Addr) : Prop where
  kp : ∀ a o, H a = some o → (∀ i, i ∉ lk → a ∉ F i) → H' a = some o
  im : ImK H H'
  lkd : ∀ i ∈ lk, F' i = F i
  old : ∀ i, i ∉ lk → ∀ a ∈ F' i, (∃ j, j ∉ lk ∧ a ∈ F j) ∨ H a = none
  oldT : ∀ a ∈ T, (∃ j, j ∉ lk ∧ a ∈ F j) ∨ H a = none
  ndT : T.Nodup
  djT : ∀ i, ∀ a ∈ F' i, a ∉ T

theorem Po.refl {lk : List Nat} {H : Hp} {F : Fo} : Po lk H F H F [] :=
  ⟨fun _ _ h _ => h, ImK.refl H, fun _ _ => rfl, fun i hi a ha => .inl ⟨i, hi, ha⟩, fun _ h => (nomatch h), List.nodup_nil, fun _ _ _ h => nomatch h⟩

theorem Po.mono {lk lk2 : List Nat} {H H' : Hp} {F F' : Fo} {T : List Addr} (p : Po lk2 H F H' F' T) (s : ∀ i ∈ lk, i ∈ lk2) : Po lk H F H' F' T := by
  refine ⟨fun a o h n => p.kp a o h fun i hi => n i fun z => hi (s i z), p.im, fun i hi => p.lkd i (s i hi), fun i hi a ha => ?_, fun a ha => ?_, p.ndT, p.djT⟩
  · by_cases h2 : i ∈ lk2
    · rw [p.lkd i h2] at ha; exact .inl ⟨i, hi, ha⟩
    · rcases p.old i h2 a ha with ⟨j, hj, q⟩ | q
      · exact .inl ⟨j, fun z => hj (s j z), q⟩
      · exact .inr q
  · rcases p.oldT a ha with ⟨j, hj, q⟩ | q
    · exact .inl ⟨j, fun z => hj (s j z), q⟩
    · exact .inr q

/-- an object that no open slot holds stays (as told by its own slot's being locked, or by being apart) -/
theorem Po.stay {lk : List Nat} {H H' : Hp} {F F' : Fo} {T : List Addr} (p : Po lk H F H' F' T) {a : Addr} (al : MutK (H a)) (n : ∀ i, i ∉ lk → a ∉ F i) : H' a = H a := by
  obtain ⟨o, e⟩ := al.some
  rw [p.kp a o e n, e]

theorem Po.trans {lk : List Nat} {H H1 H2 : Hp} {F F1 F2 : Fo} {T T2 : List Addr} (p : Po lk H F H1 F1 T) (q : Po lk H1 F1 H2 F2 T2) (al : ∀ a ∈ T, H1 a ≠ none) : Po lk H F H2 F2 (T ++ T2) := by
  have back : ∀ a, (∃ j, j ∉ lk ∧ a ∈ F1 j) ∨ H1 a = none → (∃ j, j ∉ lk ∧ a ∈ F j) ∨ H a = none := fun a h => by
    rcases h with ⟨j, hj, h⟩ | h
    · exact p.old j hj a h
    · cases e : H a with
      | none => exact .inr rfl
      | some o =>
        by_cases z : ∃ j, j ∉ lk ∧ a ∈ F j
        · exact .inl z
        · have := p.kp a o e fun i hi hm => z ⟨i, hi, hm⟩
          rw [h] at this; cases this
  have apart : ∀ a ∈ T, (∃ j, j ∉ lk ∧ a ∈ F1 j) ∨ H1 a = none → False := fun a ha h => by
    rcases h with ⟨j, _, h⟩ | h
    · exact p.djT j a h ha
    · exact al a ha h
  refine ⟨fun a o h n => q.kp a o (p.kp a o h n) fun i hi hm => ?_, p.im.trans q.im, fun i hi => (q.lkd i hi).trans (p.lkd i hi), fun i hi a ha => back a (q.old i hi a ha), fun a ha => ?_, ?_, fun i a ha => ?_⟩
  · rcases p.old i hi a hm with ⟨j, hj, z⟩ | z
    · exact n j hj z
    · rw [h] at z; cases z
  · rcases List.mem_append.mp ha with ha | ha
    · exact p.oldT a ha
    · exact back a (q.oldT a ha)
  · refine List.nodup_append.mpr ⟨p.ndT, q.ndT, fun a ha b hb e => ?_⟩
    subst e
    exact apart a ha (q.oldT a hb)
  · intro hm
    rcases List.mem_append.mp hm with hm | hm
    · by_cases hi : i ∈ lk
      · rw [q.lkd i hi] at ha; exact p.djT i a ha hm
      · exact apart a hm (q.old i hi a ha)
    · exact q.djT i a ha hm

/-- the value of e: data, a slot's own tree, its own tree T, or a part of its slot's -/
def Vr (K : PySem.W.Frag) (CA : Str → Addr) (H : Hp) (σ : St) (e : E) (d : D) (v : V) (F : Fo) (T : List Addr) : Prop :=
  (∃ x, d = .p x ∧ T = [] ∧ Rp K H v x) ∨ (d.isP = false ∧
    ((∃ i, e = .var i ∧ T = [] ∧ σ[i]? = some (some v) ∧ RD K CA H d v (F i) ∧ (F i).Nodup) ∨
     (∃ i, (∀ j, e ≠ .var j) ∧ root e = some i ∧ T = [] ∧ ∃ G, RD K CA H d v G ∧ G.Nodup ∧ ∀ a ∈ G, a ∈ F i) ∨
     (root e = none ∧ RD K CA H d v T)))

theorem RD.isP {K : PySem.W.Frag} {CA : Str → Addr} {H : Hp} {d : D} {v : V} {F : List Addr} (r : RD K CA H d v F) (h : d.isP = true) : F = [] ∧ ∃ x, d = .p x ∧ Rp K H v x := by
  cases r with
  | p r => exact ⟨rfl, _, rfl, r⟩
  | _ => cases h
section
variable {K : PySem.W.Frag} {CA : Str → Addr} {H H' : Hp} {σ : St} {e : E} {d : D} {v : V} {F F' : Fo} {T T2 : List Addr} {lk : List Nat}
/-- a part of a slot's tree, or its own -/
theorem Vr.cases (h : Vr K CA H σ e d v F T) : RD K CA H d v T ∨ ∃ i, root e = some i ∧ T = [] ∧ ∃ G, RD K CA H d v G ∧ G.Nodup ∧ ∀ a ∈ G, a ∈ F i := by
  rcases h with ⟨x, rfl, rfl, r⟩ | ⟨_, ⟨i, rfl, t, _, r, n⟩ | ⟨i, _, hr, t, q⟩ | ⟨_, r⟩⟩
  · exact .inl (.p r)
  · exact .inr ⟨i, rfl, t, _, r, n, fun _ h => h⟩
  · exact .inr ⟨i, hr, t, q⟩
  · exact .inl r
theorem Vr.rd (h : Vr K CA H σ e d v F T) : ∃ G, RD K CA H d v G := by
  rcases h.cases with h | ⟨_, _, _, G, h, _⟩ <;> exact ⟨_, h⟩
theorem Vr.p {x : PyData} (h : Vr K CA H σ e (.p x) v F T) : T = [] ∧ Rp K H v x := by
  rcases h with ⟨y, ey, t, r⟩ | ⟨q, _⟩
  · cases ey; exact ⟨t, r⟩
  · cases q
theorem Vr.of_p {x : PyData} (h : Rp K H v x) : Vr K CA H σ e (.p x) v F [] := .inl ⟨x, rfl, rfl, h⟩
theorem Vr.of_rd (hr : root e = none) (h : RD K CA H d v T) : Vr K CA H σ e d v F T := by
  cases hp : d.isP with
  | true =>
    obtain ⟨rfl, x, rfl, r⟩ := h.isP hp
    exact .of_p r
  | false => exact .inr ⟨hp, .inr (.inr ⟨hr, h⟩)⟩
/-- what may be stored: its own tree -/
theorem Vr.own (h : Vr K CA H σ e d v F T) (hs : (d.isP || (root e).isNone) = true) : RD K CA H d v T := by
  rcases h with ⟨x, rfl, rfl, r⟩ | ⟨q, ⟨i, rfl, _⟩ | ⟨i, _, hr, _⟩ | ⟨_, r⟩⟩
  · exact .p r
  · rw [q] at hs; simp [root] at hs
  · rw [q, hr] at hs; simp at hs
  · exact r
theorem Vr.alive (h : Vr K CA H σ e d v F T) : ∀ a ∈ T, H a ≠ none := fun a ha => by
  rcases h.cases with h | ⟨_, _, t, _⟩
  · obtain ⟨o, e⟩ := (h.mutk a ha).some
    rw [e]; exact fun z => nomatch z
  · rw [t] at ha; cases ha
/-- what was evaluated stays while later parts are, its slot being locked -/
theorem Vr.keep (h : Vr K CA H σ e d v F T) (djF : ∀ (i j : Nat) (a : Addr), a ∈ F i → a ∈ F j → i = j)
    (djT : ∀ i, ∀ a ∈ F i, a ∉ T) (p : Po (lock lk e d) H F H' F' T2) : Vr K CA H' σ e d v F' T := by
  have part : ∀ i, root e = some i → d.isP = false → (∀ a ∈ F i, ∀ j, j ∉ lock lk e d → a ∉ F j) ∧ F' i = F i := fun i hr hp => by
    have hi : i ∈ lock lk e d := by unfold lock; rw [hp, hr]; exact List.mem_cons_self
    exact ⟨fun a ha j hj z => hj (djF i j a ha z ▸ hi), p.lkd i hi⟩
  rcases h with ⟨x, rfl, rfl, r⟩ | ⟨hp, ⟨i, rfl, t, s, r, n⟩ | ⟨i, nv, hr, t, G, r, n, s⟩ | ⟨hr, r⟩⟩
  · exact .of_p (r.im p.im)
  · obtain ⟨k1, k2⟩ := part i rfl hp
    exact .inr ⟨hp, .inl ⟨i, rfl, t, s, by rw [k2]; exact r.keep p.im fun a ha => p.stay (r.mutk a ha) (k1 a ha), by rw [k2]; exact n⟩⟩
  · obtain ⟨k1, k2⟩ := part i hr hp
    exact .inr ⟨hp, .inr (.inl ⟨i, nv, hr, t, G, r.keep p.im fun a ha => p.stay (r.mutk a ha) (k1 a (s a ha)), n, by rw [k2]; exact s⟩)⟩
  · exact .inr ⟨hp, .inr (.inr ⟨hr, r.keep p.im fun a ha => p.stay (r.mutk a ha) fun i _ z => djT i a z ha⟩)⟩
/-- .. where the heap only grows -/
theorem Vr.same (h : Vr K CA H σ e d v F T) (s : Same H H') : Vr K CA H' σ e d v F T := by
  have k : ∀ {G : List Addr} {d : D} {v : V}, RD K CA H d v G → RD K CA H' d v G := fun r => r.keep (fun a o h _ => s a o h) fun a ha => by
    obtain ⟨o, z⟩ := (r.mutk a ha).some
    rw [z, s a o z]
  rcases h with ⟨x, rfl, rfl, r⟩ | ⟨hp, ⟨i, rfl, t, s', r, n⟩ | ⟨i, nv, hr, t, G, r, n, s'⟩ | ⟨hr, r⟩⟩
  · exact .of_p (r.im fun a o h _ => s a o h)
  · exact .inr ⟨hp, .inl ⟨i, rfl, t, s', k r, n⟩⟩
  · exact .inr ⟨hp, .inr (.inl ⟨i, nv, hr, t, G, k r, n, s'⟩)⟩
  · exact .inr ⟨hp, .inr (.inr ⟨hr, k r⟩)⟩
end

theorem lock_sub (lk : List Nat) (e : E) (d : D) : ∀ i ∈ lk, i ∈ lock lk e d := fun i hi => by
  unfold lock
  split
  · exact hi
  · split
    · exact List.mem_cons_of_mem _ hi
    · exact hi
theorem Same.imK {H H' : Hp} (s : Same H H') : ImK H H' := fun a o h _ => s a o h
theorem Rel.same {K : PySem.W.Frag} {CA : Str → Addr} {H H' : Hp} {ε : Env} {σ : St} {F : Fo} (r : Rel K CA H ε σ F) (s : Same H H') : Rel K CA H' ε σ F := by
  refine ⟨r.len, fun i d e => ?_, r.emp, r.dj, r.nd⟩
  obtain ⟨v, e1, q⟩ := r.val i d e
  refine ⟨v, e1, q.keep (Same.imK s) fun a ha => ?_⟩
  obtain ⟨o, z⟩ := (q.mutk a ha).some
  rw [z, s a o z]
/-- temporaries dropped, a new tree T beside -/
theorem Po.al {K : PySem.W.Frag} {CA : Str → Addr} {lk : List Nat} {H H2 H3 : Hp} {F F2 : Fo} {T T2 : List Addr} {ε : Env} {σ : St} (p : Po lk H F H2 F2 T2) (r : Rel K CA H2 ε σ F2) (s : Same H2 H3) (nd : T.Nodup) (fr : ∀ a ∈ T, H2 a = none) : Po lk H F H3 F2 T := by
  refine ⟨fun a o h n => s _ _ (p.kp a o h n), p.im.trans (Same.imK s), p.lkd, p.old, fun a ha => ?_, nd, fun i a ha hm => ?_⟩
  · cases e : H a with
    | none => exact .inr rfl
    | some o =>
      by_cases z : ∃ j, j ∉ lk ∧ a ∈ F j
      · exact .inl z
      · have := p.kp a o e fun i hi hm => z ⟨i, hi, hm⟩
        rw [fr a ha] at this; cases this
  · obtain ⟨o, e⟩ := (r.mutk i a ha).some
    rw [fr a hm] at e; cases e
/-- a step that changes T alone (and lays new things): G is left beside -/
theorem Po.step {K : PySem.W.Frag} {CA : Str → Addr} {lk : List Nat} {H H1 H2 : Hp} {F F1 : Fo} {T G : List Addr} {ε : Env} {σ : St} (p : Po lk H F H1 F1 T) (r : Rel K CA H1 ε σ F1) (k : ∀ a o, H1 a = some o → a ∉ T → H2 a = some o) (im : ImK H1 H2) (nd : G.Nodup) (fr : ∀ a ∈ G, a ∈ T ∨ H1 a = none) :
    Po lk H F H2 F1 G ∧ Rel K CA H2 ε σ F1 := by
  refine ⟨⟨fun a o h n => k a o (p.kp a o h n) fun z => ?_, p.im.trans im, p.lkd, p.old, fun a ha => ?_, nd, fun i a ha hm => ?_⟩, r.len, fun i d e => ?_, r.emp, r.dj, r.nd⟩
  · rcases p.oldT a z with ⟨j, hj, q⟩ | q
    · exact n j hj q
    · rw [h] at q; cases q
  · rcases fr a ha with z | z
    · exact p.oldT a z
    · cases e : H a with
      | none => exact .inr rfl
      | some o =>
        by_cases w : ∃ j, j ∉ lk ∧ a ∈ F j
        · exact .inl w
        · have := p.kp a o e fun i hi hm => w ⟨i, hi, hm⟩
          rw [z] at this; cases this
  · rcases fr a hm with z | z
    · exact p.djT i a ha z
    · obtain ⟨o, e⟩ := (r.mutk i a ha).some
      rw [z] at e; cases e
  · obtain ⟨v, e1, q⟩ := r.val i d e
    refine ⟨v, e1, q.keep im fun a ha => ?_⟩
    obtain ⟨o, z⟩ := (q.mutk a ha).some
    rw [z, k a o z (p.djT i a ha)]
theorem Po.drop {lk : List Nat} {H H2 : Hp} {F F2 : Fo} {T2 : List Addr} (p : Po lk H F H2 F2 T2) : Po lk H F H2 F2 [] :=
  ⟨p.kp, p.im, p.lkd, p.old, fun _ h => (nomatch h), List.nodup_nil, fun _ _ _ h => nomatch h⟩

/-! ### freezing: a step of the proof alone -/
inductive FzW (P : Hp → Prop) : Hp → Prop
  | done {H : Hp} : P H → FzW P H
  | lst {H : Hp} {a : Addr} {xs : List V} : H a = some (.lst xs) → (∀ o, FzW P (upd H a (.frz o (.lst xs)))) → FzW P H
  | dic {H : Hp} {a : Addr} {kvs : List (Key × V)} : H a = some (.dK kvs) → (∀ o, FzW P (upd H a (.frz o (.dK kvs)))) → FzW P H
theorem FzW.bind {P Q : Hp → Prop} {H : Hp} (h : FzW P H) (f : ∀ H', P H' → FzW Q H') : FzW Q H := by
  induction h with
  | done p => exact f _ p
  | lst e _ ih => exact .lst e fun o => ih o
  | dic e _ ih => exact .dic e fun o => ih o
theorem FzW.mono {P Q : Hp → Prop} {H : Hp} (h : FzW P H) (f : ∀ H', P H' → Q H') : FzW Q H := h.bind fun H' p => .done (f H' p)

theorem inv_fz {X : Cx} {pins : List (Addr × Obj)} {σ : St} {H : Hp} {s : Shared} {a : Addr} {u : HO} (I : Inv X pins σ H s) (e : H a = some u) (hu : (∃ xs, u = .lst xs) ∨ ∃ kvs, u = .dK kvs) : ∃ o, Inv X pins σ (upd H a (.frz o u)) s := by
  have ni : ¬ Imm u := by rcases hu with ⟨xs, rfl⟩ | ⟨kvs, rfl⟩ <;> exact fun z => z
  have no : ∀ y, u ≠ .own y := by rcases hu with ⟨xs, rfl⟩ | ⟨kvs, rfl⟩ <;> exact fun y z => nomatch z
  have nt : ∀ y, u ≠ .tbl y := by rcases hu with ⟨xs, rfl⟩ | ⟨kvs, rfl⟩ <;> exact fun y z => nomatch z
  have ok := I.hok a u e
  have ho : ∃ o, s.heap.get? a = some o := by
    rcases hu with ⟨xs, rfl⟩ | ⟨kvs, rfl⟩
    · obtain ⟨_, _, _, _, q⟩ := ok; exact ⟨_, q⟩
    · obtain ⟨_, _, _, _, o, _, _, q, _⟩ := ok; exact ⟨o, q⟩
  obtain ⟨o, ho⟩ := ho
  have ne : ∀ b u', H b = some u' → u' ≠ u → b ≠ a := fun b u' q n z => by subst z; rw [e] at q; cases q; exact n rfl
  have st : ∀ b u', H b = some u' → ObjOk X.prog X.w (upd H a (.frz o u)) s.heap b u' := fun b u' q =>
    (I.hok b u' q).stay (fun _ _ _ z => z) (fun c z => by rw [upd_ne (ne c _ z fun w => no b w.symm)]; exact z) fun c xs z => by rw [upd_ne (ne c _ z fun w => ni (w ▸ trivial))]; exact z
  refine ⟨o, I.ok, I.os, I.bare, ⟨I.base.keep, I.base.slot, fun b ob q n hx => ?_, I.base.there, fun b xs q => ?_, fun b ob w q => ?_, fun b ps q => ?_⟩, I.loc, I.cell, ?_, fun x c q => ?_, fun p hp => ?_, fun b u' q => ?_, I.len⟩
  · have z := I.base.free b ob q n hx
    rw [upd_ne (fun w => by subst w; rw [e] at z; cases z)]; exact z
  · have z := I.base.tups b xs q
    rw [upd_ne (ne b _ z fun w => ni (w ▸ trivial))]; exact z
  · have z := I.base.frzs b ob w q
    rw [upd_ne (ne b _ z fun w => ni (w ▸ trivial))]; exact z
  · obtain ⟨m, z⟩ := I.base.tbls b ps q
    exact ⟨m, by rw [upd_ne (ne b _ z fun w => nt _ w.symm)]; exact z⟩
  · rw [upd_ne (fun w => by have z := I.free; rw [w, e] at z; cases z)]; exact I.free
  · rw [upd_ne (fun w => by have z := I.freeC x c q; rw [w, e] at z; cases z)]; exact I.freeC x c q
  · obtain ⟨h1, h2, h3⟩ := I.pin p hp
    refine ⟨h1, ?_, h3⟩
    rw [upd_ne (fun w => by rw [w, e] at h2; cases h2)]; exact h2
  · by_cases hb : b = a
    · subst hb
      rw [upd_same] at q
      cases q
      exact ⟨ho, st _ _ e⟩
    · rw [upd_ne hb] at q
      exact st b u' q
theorem FzW.inv {X : Cx} {pins : List (Addr × Obj)} {σ : St} {s : Shared} {P : Hp → Prop} {H : Hp} (h : FzW P H) : Inv X pins σ H s → ∃ H', Inv X pins σ H' s ∧ P H' := by
  induction h with
  | done p => exact fun I => ⟨_, I, p⟩
  | lst e _ ih =>
    intro I
    obtain ⟨o, I'⟩ := inv_fz I e (.inl ⟨_, rfl⟩)
    exact ih o I'
  | dic e _ ih =>
    intro I
    obtain ⟨o, I'⟩ := inv_fz I e (.inr ⟨_, rfl⟩)
    exact ih o I'
theorem pe_fz {X : Cx} {e : Expr} {t : TE} (h : PE X e t) : PE X e (fun σ H Q => t σ H fun v H1 => FzW (Q v) H1) := by
  refine ⟨fun pins s σ H Q I hw => thn (h.run pins s σ H _ I hw) fun u s1 ⟨v, H1, I1, r, q⟩ => ?_⟩
  obtain ⟨H2, I2, q2⟩ := q.inv I1
  exact ⟨v, H2, I2, r, q2⟩
theorem pe_mono {X : Cx} {e : Expr} {t t' : TE} (h : PE X e t) (f : ∀ σ H Q, t' σ H Q → t σ H Q) : PE X e t' := ⟨fun pins s σ H Q I hw => h.run pins s σ H Q I (f σ H Q hw)⟩

def FzP (K : PySem.W.Frag) (H : Hp) (F : List Addr) (P : Hp → Prop) (H' : Hp) : Prop := P H' ∧ ImK H H' ∧ ∀ a, a ∉ F → H' a = H a
theorem imK_fz {H : Hp} {a : Addr} {u : HO} {o : Obj} (e : H a = some u) (n : ¬ Imm u) : ImK H (upd H a (.frz o u)) := fun b w h i => by
  rw [upd_ne (fun z => by subst z; rw [e] at h; cases h; exact n i)]; exact h
mutual
theorem RD.freeze {K : PySem.W.Frag} {CA : Str → Addr} {H : Hp} : ∀ {d : D} {v : V} {F : List Addr}, RD K CA H d v F → F.Nodup → ∀ x, d.toP = some x → ∀ H0, ImK H H0 → (∀ a ∈ F, H0 a = H a) → FzW (FzP K H0 F fun H' => Rp K H' v x) H0
  | _, _, _, .p r, _, x, e, H0, i0, _ => by
    unfold D.toP at e
    cases e
    exact .done ⟨r.im i0, ImK.refl H0, fun _ _ => rfl⟩
  | _, _, _, .lst (a := a) (vs := vs) (F := F) h r, nd, x, e, H0, i0, k0 => by
    simp only [D.toP, Option.map_eq_some_iff] at e
    obtain ⟨xs, e, rfl⟩ := e
    obtain ⟨na, nd⟩ := List.nodup_cons.mp nd
    refine (RDs.freeze r nd xs e H0 i0 fun b hb => k0 b (List.mem_cons_of_mem _ hb)).bind fun H1 ⟨r1, i1, k1⟩ => ?_
    have h1 : H1 a = some (.lst vs) := (k1 a na).trans ((k0 a List.mem_cons_self).trans h)
    refine .lst h1 fun o => .done ⟨.lst (.inl ⟨o, upd_same⟩) (r1.im (imK_fz h1 fun z => z)), i1.trans (imK_fz h1 fun z => z), fun b hb => ?_⟩
    rw [upd_ne (show b ≠ a from fun z => hb (by rw [z]; exact List.mem_cons_self))]
    exact k1 b fun z => hb (List.mem_cons_of_mem _ z)
  | _, _, _, .tup h r, nd, x, e, H0, i0, k0 => by
    simp only [D.toP, Option.map_eq_some_iff] at e
    obtain ⟨xs, e, rfl⟩ := e
    exact (RDs.freeze r nd xs e H0 i0 k0).mono fun H1 ⟨r1, i1, k1⟩ => ⟨.tup (SqT.of ((i0.trans i1) _ _ h trivial)) r1, i1, k1⟩
  | _, _, _, .dic (a := a) (kvs := kvs) (F := F) h _ r, nd, x, e, H0, i0, k0 => by
    simp only [D.toP, Option.map_eq_some_iff] at e
    obtain ⟨xs, e, rfl⟩ := e
    obtain ⟨na, nd⟩ := List.nodup_cons.mp nd
    refine (RDk.freeze r nd xs e H0 i0 fun b hb => k0 b (List.mem_cons_of_mem _ hb)).bind fun H1 ⟨r1, i1, k1⟩ => ?_
    have h1 : H1 a = some (.dK kvs) := (k1 a na).trans ((k0 a List.mem_cons_self).trans h)
    refine .dic h1 fun o => .done ⟨.dic (o := o) upd_same (r1.im (imK_fz h1 fun z => z)), i1.trans (imK_fz h1 fun z => z), fun b hb => ?_⟩
    rw [upd_ne (show b ≠ a from fun z => hb (by rw [z]; exact List.mem_cons_self))]
    exact k1 b fun z => hb (List.mem_cons_of_mem _ z)
  | _, _, _, .obj _ _ _ _ _, _, x, e, H0, i0, k0 => by simp only [D.toP] at e; cases e
theorem RDs.freeze {K : PySem.W.Frag} {CA : Str → Addr} {H : Hp} : ∀ {d : List D} {v : List V} {F : List Addr}, RDs K CA H d v F → F.Nodup → ∀ x, toPs d = some x → ∀ H0, ImK H H0 → (∀ a ∈ F, H0 a = H a) → FzW (FzP K H0 F fun H' => RpAll K H' v x) H0
  | _, _, _, .nil, _, x, e, H0, i0, k0 => by
    unfold toPs at e
    cases e
    exact .done ⟨.nil, ImK.refl H0, fun _ _ => rfl⟩
  | _, _, _, .cons (F := F) (G := G) h r, nd, x, e, H0, i0, k0 => by
    simp only [toPs, Option.bind_eq_some_iff, Option.map_eq_some_iff] at e
    obtain ⟨y, ey, ys, es, rfl⟩ := e
    obtain ⟨n1, n2, n3⟩ := List.nodup_append.mp nd
    refine (RDs.freeze r n2 ys es H0 i0 fun b hb => k0 b (List.mem_append_right _ hb)).bind fun H1 ⟨r1, i1, k1⟩ => ?_
    refine (RD.freeze h n1 y ey H1 (i0.trans i1) fun b hb => (k1 b fun z => n3 b hb b z rfl).trans (k0 b (List.mem_append_left _ hb))).mono fun H2 ⟨r2, i2, k2⟩ => ⟨.cons r2 (r1.im i2), i1.trans i2, fun b hb => ?_⟩
    rw [k2 b fun z => hb (List.mem_append_left _ z)]
    exact k1 b fun z => hb (List.mem_append_right _ z)
theorem RDk.freeze {K : PySem.W.Frag} {CA : Str → Addr} {H : Hp} : ∀ {d : List (Key × D)} {v : List (Key × V)} {F : List Addr}, RDk K CA H d v F → F.Nodup → ∀ x, toPk d = some x → ∀ H0, ImK H H0 → (∀ a ∈ F, H0 a = H a) → FzW (FzP K H0 F fun H' => RpKv K H' v x) H0
  | _, _, _, .nil, _, x, e, H0, i0, k0 => by
    unfold toPk at e
    cases e
    exact .done ⟨.nil, ImK.refl H0, fun _ _ => rfl⟩
  | _, _, _, .cons (F := F) (G := G) h r, nd, x, e, H0, i0, k0 => by
    simp only [toPk, Option.bind_eq_some_iff, Option.map_eq_some_iff] at e
    obtain ⟨y, ey, ys, es, rfl⟩ := e
    obtain ⟨n1, n2, n3⟩ := List.nodup_append.mp nd
    refine (RDk.freeze r n2 ys es H0 i0 fun b hb => k0 b (List.mem_append_right _ hb)).bind fun H1 ⟨r1, i1, k1⟩ => ?_
    refine (RD.freeze h n1 y ey H1 (i0.trans i1) fun b hb => (k1 b fun z => n3 b hb b z rfl).trans (k0 b (List.mem_append_left _ hb))).mono fun H2 ⟨r2, i2, k2⟩ => ⟨.cons r2 (r1.im i2), i1.trans i2, fun b hb => ?_⟩
    rw [k2 b fun z => hb (List.mem_append_left _ z)]
    exact k1 b fun z => hb (List.mem_append_right _ z)
end
/-- a tree frozen as far as it can be: what it is then -/
theorem RD.fz {K : PySem.W.Frag} {CA : Str → Addr} {H : Hp} {d : D} {v : V} {F : List Addr} (r : RD K CA H d v F) (nd : F.Nodup) :
    FzW (fun H' => (∃ G, RD K CA H' d.fz v G ∧ G.Nodup ∧ ∀ a ∈ G, a ∈ F) ∧ ImK H H' ∧ ∀ a, a ∉ F → H' a = H a) H := by
  unfold D.fz
  cases e : d.toP with
  | none => exact .done ⟨⟨F, r, nd, fun _ h => h⟩, ImK.refl H, fun _ _ => rfl⟩
  | some x => exact (r.freeze nd x e H (ImK.refl H) fun _ _ => rfl).mono fun H' ⟨q, i, k⟩ => ⟨⟨[], .p q, List.nodup_nil, fun _ h => nomatch h⟩, i, k⟩
theorem RDs.fzAll {K : PySem.W.Frag} {CA : Str → Addr} : ∀ {ds : List D} {H : Hp} {vs : List V} {F : List Addr}, RDs K CA H ds vs F → F.Nodup →
    FzW (fun H' => (∃ G, RDs K CA H' (ds.map D.fz) vs G ∧ G.Nodup ∧ ∀ a ∈ G, a ∈ F) ∧ ImK H H' ∧ ∀ a, a ∉ F → H' a = H a) H := by
  intro ds
  induction ds with
  | nil =>
    intro H vs F r nd
    cases r
    exact .done ⟨⟨[], .nil, List.nodup_nil, fun _ h => h⟩, ImK.refl H, fun _ _ => rfl⟩
  | cons d ds ih =>
    intro H vs F r nd
    cases r with
    | @cons _ _ F1 _ _ F2 h r =>
      obtain ⟨n1, n2, n3⟩ := List.nodup_append.mp nd
      refine (h.fz n1).bind fun H1 ⟨⟨G1, r1, g1, s1⟩, i1, k1⟩ => ?_
      have r2 : RDs K CA H1 ds _ F2 := r.keep i1 fun a ha => k1 a fun z => n3 a z a ha rfl
      refine (ih r2 n2).mono fun H2 ⟨⟨G2, q2, g2, s2⟩, i2, k2⟩ => ⟨⟨G1 ++ G2, .cons (r1.keep i2 fun a ha => k2 a fun z => n3 a (s1 a ha) a z rfl) q2, ?_, ?_⟩, i1.trans i2, fun a ha => ?_⟩
      · exact List.nodup_append.mpr ⟨g1, g2, fun a ha b hb e => n3 a (s1 a ha) b (s2 b hb) e⟩
      · intro a ha
        rcases List.mem_append.mp ha with h | h
        · exact List.mem_append_left _ (s1 a h)
        · exact List.mem_append_right _ (s2 a h)
      · rw [k2 a fun z => ha (List.mem_append_right _ z), k1 a fun z => ha (List.mem_append_left _ z)]
end Wh


set_option Elab.async false
set_option linter.all false
set_option maxRecDepth 100000
set_option maxHeartbeats 1000000
/-! Rules of the layer, for frozen things too. -/
namespace Wh
open PySem PySem.Spec PyProof.Rows L2
section
variable {X : Cx} {pins : List (Addr × Obj)} {σ : L2.St} {H : Hp} {s : Shared}

/-- a list that is read: one's own, or a frozen one -/
def LsR (K : PySem.W.Frag) (H : Hp) (a : Addr) (xs : List V) : Prop := H a = some (.lst xs) ∨ FzL K H a xs
theorem LsR.sq {K : PySem.W.Frag} {a : Addr} {xs : List V} (h : LsR K H a xs) : SqL K H a xs := h.elim SqL.of FzL.sq
theorem lsX (I : Inv X pins σ H s) {l : Addr} {xs : List V} (h : LsR X.K H l xs) : xs.length ≤ sizeLine ∧ ∃ (its : List Value) (n : Nat), Vals xs its ∧ xs.length = its.length ∧ s.heap.get? l = some { cls := .type "list", data := .seq its.toArray n } := by
  rcases h with h | ⟨o, h⟩ | ⟨its, n, hk, hz, r⟩
  · exact I.lstM h
  · obtain ⟨_, z, its, n, r, e⟩ := I.hok l _ h
    exact ⟨z, its, n, r, r.length, e⟩
  · have e := r.length
    refine ⟨by rw [e]; simpa using hz, its.toList, n, r, e, ?_⟩
    rw [I.kIn l _ hk]

mutual
theorem Rp.reads (I : Inv X pins σ H s) : ∀ (x : PyData) (v : V) (u : Value), Rp X.K H v x → RelV v u → ∃ as, Reads s.heap u x as
  | .none, _, _, h, r => by
    cases h
    cases r
    exact ⟨_, .none⟩
  | .bool b, _, _, h, r => by
    cases h
    cases r
    exact ⟨_, .bool b⟩
  | .int i, _, _, h, r => by
    cases h
    obtain ⟨t, rfl⟩ := r
    exact ⟨_, .int i t⟩
  | .str x, _, _, h, r => by
    cases h
    obtain ⟨t, rfl⟩ := r
    exact ⟨_, .str x t⟩
  | .list ds, _, _, h, r => by
    cases h with
    | lst hs ha =>
      cases r
      obtain ⟨z, its, n, rv, _, e⟩ := lsX I (.inr hs)
      obtain ⟨as, hr⟩ := RpAll.reads I ds _ its ha rv
      exact ⟨_, .list e rfl rfl hr⟩
  | .tuple ds, _, _, h, r => by
    cases h with
    | tup hs ha =>
      cases r
      obtain ⟨its, rv, ⟨o, ho, hc, n, hd⟩, _⟩ := I.tuple hs
      obtain ⟨as, hr⟩ := RpAll.reads I ds _ its ha rv
      exact ⟨_, .tuple ho hc hd hr⟩
  | .dict ds, _, _, h, r => by
    cases h with
    | dic hs ha =>
      cases r
      obtain ⟨_, z, y, vs, kv, o, es, ep, e, ex, d, _, ps, _⟩ := I.hok _ _ hs
      obtain ⟨as, bs, h1, h2⟩ := RpKv.reads I ds _ vs es.toList ha kv ps
      exact ⟨_, .dict e ex.1 d h1 h2⟩
theorem RpAll.reads (I : Inv X pins σ H s) : ∀ (ds : List PyData) (vs : List V) (us : List Value), RpAll X.K H vs ds → Vals vs us → ∃ as, ReadsAll s.heap us ds as
  | [], _, _, h, r => by
    cases h
    cases r
    exact ⟨_, .nil⟩
  | d :: ds, _, _, h, r => by
    cases h with
    | cons h1 h2 =>
      cases r with
      | cons r1 r2 =>
        obtain ⟨as, q1⟩ := Rp.reads I d _ _ h1 r1
        obtain ⟨bs, q2⟩ := RpAll.reads I ds _ _ h2 r2
        exact ⟨_, .cons q1 q2⟩
theorem RpKv.reads (I : Inv X pins σ H s) : ∀ (ds : List (PyData × PyData)) (kvs : List (Key × V)) (vs : List (Key × Value)) (es : List DictEntry), RpKv X.K H kvs ds → KV kvs vs → Pairs (mixKind X.prog X.w) es vs →
    ∃ as bs, ReadsAll s.heap (es.map (·.key)) (ds.map (·.1)) as ∧ ReadsAll s.heap (es.map (·.val)) (ds.map (·.2)) bs
  | [], _, _, _, h, r, q => by
    cases h
    cases r
    cases q
    exact ⟨_, _, .nil, .nil⟩
  | d :: ds, _, _, _, h, r, q => by
    cases h with
    | cons h1 h2 =>
      cases r with
      | cons r1 r2 =>
        cases q with
        | cons k1 k2 k3 =>
          obtain ⟨as, q1⟩ := Rp.reads I _ _ _ h1 r1.2
          obtain ⟨bs, cs, q2, q3⟩ := RpKv.reads I ds _ _ _ h2 r2 k3
          have kr : ∀ (k : Key) (u : Value), (mixKind X.prog X.w).is k u = true → ∃ as, Reads s.heap u (keyP k) as := fun k u e => by
            rcases keyIs_shape (show keyIs k u = true from e) with ⟨i, t, rfl, rfl⟩ | ⟨x, t, rfl, rfl⟩
            · exact ⟨_, .int i t⟩
            · exact ⟨_, .str x t⟩
          rw [← r1.1] at k1
          obtain ⟨as', q4⟩ := kr _ _ k1
          rw [← k2] at q1
          exact ⟨_, _, .cons q4 q2, .cons q1 q3⟩
end
mutual
theorem RD.reads {CA : Str → Addr} (I : Inv X pins σ H s) : ∀ {d : D} {v : V} {F : List Addr}, RD X.K CA H d v F → ∀ (x : PyData) (u : Value), d.toP = some x → RelV v u → ∃ as, Reads s.heap u x as
  | _, _, _, .p r, x, u, e, ru => by
    unfold D.toP at e
    cases e
    exact Rp.reads I _ _ _ r ru
  | _, _, _, .lst h r, x, u, e, ru => by
    simp only [D.toP, Option.map_eq_some_iff] at e
    obtain ⟨xs, e, rfl⟩ := e
    cases ru
    obtain ⟨z, its, n, rv, _, q⟩ := I.lstM h
    obtain ⟨as, hr⟩ := RDs.reads I r xs its e rv
    exact ⟨_, .list q rfl rfl hr⟩
  | _, _, _, .tup h r, x, u, e, ru => by
    simp only [D.toP, Option.map_eq_some_iff] at e
    obtain ⟨xs, e, rfl⟩ := e
    cases ru
    obtain ⟨its, rv, ⟨o, ho, hc, n, hd⟩, _⟩ := I.tuple (SqT.of h)
    obtain ⟨as, hr⟩ := RDs.reads I r xs its e rv
    exact ⟨_, .tuple ho hc hd hr⟩
  | _, _, _, .dic h _ r, x, u, e, ru => by
    simp only [D.toP, Option.map_eq_some_iff] at e
    obtain ⟨xs, e, rfl⟩ := e
    cases ru
    obtain ⟨z, y, vs, kv, o, es, ep, e1, ex, d, _, ps, _⟩ := I.hok _ _ h
    obtain ⟨as, bs, h1, h2⟩ := RDk.reads I r xs vs es.toList e kv ps
    exact ⟨_, .dict e1 ex.1 d h1 h2⟩
  | _, _, _, .obj _ _ _ _ _, x, u, e, ru => by simp only [D.toP] at e; cases e
theorem RDs.reads {CA : Str → Addr} (I : Inv X pins σ H s) : ∀ {d : List D} {v : List V} {F : List Addr}, RDs X.K CA H d v F → ∀ (x : List PyData) (u : List Value), toPs d = some x → Vals v u → ∃ as, ReadsAll s.heap u x as
  | _, _, _, .nil, x, u, e, ru => by
    unfold toPs at e
    cases e
    cases ru
    exact ⟨_, .nil⟩
  | _, _, _, .cons h r, x, u, e, ru => by
    simp only [toPs, Option.bind_eq_some_iff, Option.map_eq_some_iff] at e
    obtain ⟨y, ey, ys, es, rfl⟩ := e
    cases ru with
    | cons r1 r2 =>
      obtain ⟨as, q1⟩ := RD.reads I h y _ ey r1
      obtain ⟨bs, q2⟩ := RDs.reads I r ys _ es r2
      exact ⟨_, .cons q1 q2⟩
theorem RDk.reads {CA : Str → Addr} (I : Inv X pins σ H s) : ∀ {d : List (Key × D)} {v : List (Key × V)} {F : List Addr}, RDk X.K CA H d v F → ∀ (x : List (PyData × PyData)) (vs : List (Key × Value)) (es : List DictEntry), toPk d = some x → KV v vs → Pairs (mixKind X.prog X.w) es vs →
    ∃ as bs, ReadsAll s.heap (es.map (·.key)) (x.map (·.1)) as ∧ ReadsAll s.heap (es.map (·.val)) (x.map (·.2)) bs
  | _, _, _, .nil, x, vs, es, e, r, q => by
    unfold toPk at e
    cases e
    cases r
    cases q
    exact ⟨_, _, .nil, .nil⟩
  | _, _, _, .cons h r, x, vs, es, e, rk, q => by
    simp only [toPk, Option.bind_eq_some_iff, Option.map_eq_some_iff] at e
    obtain ⟨y, ey, ys, es', rfl⟩ := e
    cases rk with
    | cons r1 r2 =>
      cases q with
      | cons k1 k2 k3 =>
        obtain ⟨as, q1⟩ := RD.reads I h y _ ey r1.2
        obtain ⟨bs, cs, q2, q3⟩ := RDk.reads I r ys _ _ es' r2 k3
        have kr : ∀ (k : Key) (u : Value), (mixKind X.prog X.w).is k u = true → ∃ as, Reads s.heap u (keyP k) as := fun k u e => by
          rcases keyIs_shape (show keyIs k u = true from e) with ⟨i, t, rfl, rfl⟩ | ⟨x, t, rfl, rfl⟩
          · exact ⟨_, .int i t⟩
          · exact ⟨_, .str x t⟩
        rw [← r1.1] at k1
        obtain ⟨as', q4⟩ := kr _ _ k1
        rw [← k2] at q1
        exact ⟨_, _, .cons q4 q2, .cons q1 q3⟩
end

/-! ### == -/
theorem eqS_refl : ∀ (n : Nat) (x : PyData) (b : Bool), eqS n x x = some b → b = true := by
  have e0 : ∀ (x : PyData) (b : Bool), eq0 x x = some b → b = true := fun x b h => by
    cases x <;> simp [eq0, PyData.eqv] at h <;> simp [h]
  intro n
  induction n with
  | zero => exact fun x b h => e0 x b h
  | succ n ih =>
    have l : ∀ (xs : List PyData) (b : Bool), eqL (eqS n) xs xs = some b → b = true := by
      intro xs
      induction xs with
      | nil => intro b h; simp [eqL] at h; simp [h]
      | cons x xs ihl =>
        intro b h
        simp only [eqL, Option.bind_eq_some_iff, Option.map_eq_some_iff] at h
        obtain ⟨a, ha, c, hc, rfl⟩ := h
        rw [ih x a ha, ihl c hc]; rfl
    intro x b h
    cases x with
    | tuple xs => exact l xs b h
    | list xs =>
      simp only [eqS, if_true] at h
      exact l xs b h
    | _ => exact e0 _ b h
theorem readsAll_inj' {h : Heap} {us : List Value} : ∀ {xs ys : List PyData} {as bs : List Addr}, ReadsAll h us xs as → ReadsAll h us ys bs → (∀ u ∈ us, ∀ x y as bs, Reads h u x as → Reads h u y bs → x = y) → xs = ys := by
  induction us with
  | nil => intro xs ys as bs r q _; cases r; cases q; rfl
  | cons u us ih =>
    intro xs ys as bs r q f
    cases r with
    | cons r1 r2 =>
      cases q with
      | cons q1 q2 => rw [f u List.mem_cons_self _ _ _ _ r1 q1, ih r2 q2 fun u hu => f u (List.mem_cons_of_mem _ hu)]
theorem reads_inj {h : Heap} : ∀ (n : Nat) {u : Value} {x y : PyData} {as bs : List Addr}, sizeOf x ≤ n → Reads h u x as → Reads h u y bs → x = y := by
  intro n
  induction n with
  | zero => intro u x y as bs hn; cases x <;> simp at hn
  | succ n ih =>
    have all : ∀ {us : List Value} {xs ys : List PyData} {as bs : List Addr}, sizeOf xs ≤ n → ReadsAll h us xs as → ReadsAll h us ys bs → xs = ys := by
      intro us
      induction us with
      | nil => intro xs ys as bs _ r q; cases r; cases q; rfl
      | cons u us ihl =>
        intro xs ys as bs hn r q
        cases r with
        | cons r1 r2 =>
          cases q with
          | cons q1 q2 =>
            simp at hn
            rw [ih (by omega) r1 q1, ihl (by omega) r2 q2]
    intro u x y as bs hn r q
    cases r with
    | none => cases q; rfl
    | bool => cases q; rfl
    | int => cases q; rfl
    | str => cases q; rfl
    | list h1 h2 h3 h4 =>
      cases q with
      | list k1 k2 k3 k4 =>
        rw [h1] at k1; cases k1
        rw [h3] at k3; cases k3
        simp at hn
        rw [all (by omega) h4 k4]
      | tuple k1 k2 k3 k4 => rw [h1] at k1; cases k1; rw [h2] at k2; simp at k2
      | dict k1 k2 k3 k4 k5 => rw [h1] at k1; cases k1; rw [h2] at k2; simp at k2
    | tuple h1 h2 h3 h4 =>
      cases q with
      | list k1 k2 k3 k4 => rw [h1] at k1; cases k1; rw [h2] at k2; simp at k2
      | tuple k1 k2 k3 k4 =>
        rw [h1] at k1; cases k1
        rw [h3] at k3; cases k3
        simp at hn
        rw [all (by omega) h4 k4]
      | dict k1 k2 k3 k4 k5 => rw [h1] at k1; cases k1; rw [h2] at k2; simp at k2
    | @dict a o es n1 kvs as1 bs1 h1 h2 h3 h4 h5 =>
      cases q with
      | list k1 k2 k3 k4 => rw [h1] at k1; cases k1; rw [h2] at k2; simp at k2
      | tuple k1 k2 k3 k4 => rw [h1] at k1; cases k1; rw [h2] at k2; simp at k2
      | @dict a' o' es' n1' kvs' as1' bs1' k1 k2 k3 k4 k5 =>
        rw [h1] at k1; cases k1
        rw [h3] at k3; cases k3
        simp at hn
        have sz : ∀ l : List (PyData × PyData), sizeOf (l.map (·.1)) ≤ sizeOf l ∧ sizeOf (l.map (·.2)) ≤ sizeOf l := by
          intro l
          induction l with
          | nil => simp
          | cons p r ihr =>
            obtain ⟨p1, p2⟩ := p
            simp
            omega
        have e1 := all (Nat.le_trans (sz kvs).1 (by omega)) h4 k4
        have e2 := all (Nat.le_trans (sz kvs).2 (by omega)) h5 k5
        have : kvs = kvs' := by
          clear h4 h5 k4 k5 hn h3
          induction kvs generalizing kvs' with
          | nil => cases kvs' with | nil => rfl | cons _ _ => simp at e1
          | cons p r ihr =>
            cases kvs' with
            | nil => simp at e1
            | cons p' r' =>
              simp at e1 e2
              obtain ⟨a1, a2⟩ := p
              obtain ⟨b1, b2⟩ := p'
              simp at e1 e2
              rw [e1.1, e2.1, ihr e1.2 e2.2]
        rw [this]

theorem eqL_all {f : PyData → PyData → Option Bool} : ∀ {xs ys : List PyData} {b : Bool}, eqL f xs ys = some b → ∃ e : Nat → Bool, (∀ j (h1 : j < xs.length) (h2 : j < ys.length), f xs[j] ys[j] = some (e j)) ∧ b = ((List.range (min xs.length ys.length)).all e && xs.length == ys.length)
  | [], [], b, h => ⟨fun _ => true, fun j h1 => absurd h1 (Nat.not_lt_zero _), by cases h; rfl⟩
  | [], _ :: _, b, h => ⟨fun _ => true, fun j h1 => absurd h1 (Nat.not_lt_zero _), by cases h; simp⟩
  | _ :: _, [], b, h => ⟨fun _ => true, fun j h1 h2 => absurd h2 (Nat.not_lt_zero _), by cases h; simp⟩
  | x :: xs, y :: ys, b, h => by
    simp only [eqL, Option.bind_eq_some_iff, Option.map_eq_some_iff] at h
    obtain ⟨a, ha, c, hc, rfl⟩ := h
    obtain ⟨e, h1, h2⟩ := eqL_all hc
    refine ⟨fun j => match j with | 0 => a | j + 1 => e j, fun j j1 j2 => ?_, ?_⟩
    · cases j with
      | zero => simpa using ha
      | succ j => simpa using h1 j (by simpa using j1) (by simpa using j2)
    · rw [h2]
      have : min (x :: xs).length (y :: ys).length = min xs.length ys.length + 1 := by first | (simp; done) | (simp; omega)
      rw [this, List.range_succ_eq_map, List.all_cons, List.all_map]
      simp [Bool.and_assoc, Function.comp_def]

open SeqAt in
theorem rc_eq0 {A : Around} {s : Shared} {u v : Value} {x y : PyData} {as bs : List Addr} {b : Bool} (hu : A.units < cLine) (ra : Reads s.heap u x as) (rb : Reads s.heap v y bs) (h : eq0 x y = some b) : RcAt A s u v b := by
  cases ra with
  | none =>
    cases rb with
    | none => cases h; exact RcAt.none_none
    | bool y => cases h; exact RcAt.none_bool y
    | int y u => cases h; exact RcAt.none_int y u
    | str y u => cases h; exact RcAt.none_str y u
    | list k1 k2 k3 k4 => cases h; exact RcAt.none_list ⟨_, k1, k2, _, k3⟩ hu
    | tuple k1 k2 k3 k4 => cases h; exact RcAt.none_tuple ⟨_, k1, k2, _, k3⟩ hu
    | dict => simp [eq0] at h
  | bool x =>
    cases rb with
    | none => cases h; exact RcAt.bool_none x
    | bool y => cases h; exact RcAt.bool_bool x y
    | int y u => cases h; exact RcAt.bool_int x y u
    | str y u => cases h; exact RcAt.bool_str x y u
    | list k1 k2 k3 k4 => cases h; exact RcAt.bool_list x ⟨_, k1, k2, _, k3⟩ hu
    | tuple k1 k2 k3 k4 => cases h; exact RcAt.bool_tuple x ⟨_, k1, k2, _, k3⟩ hu
    | dict => simp [eq0] at h
  | int x t =>
    cases rb with
    | none => cases h; exact RcAt.int_none x t
    | bool y => cases h; exact RcAt.int_bool x t y
    | int y u => cases h; exact RcAt.int_int x t y u
    | str y u => cases h; exact RcAt.int_str x t y u
    | list k1 k2 k3 k4 => cases h; exact RcAt.int_list x t ⟨_, k1, k2, _, k3⟩ hu
    | tuple k1 k2 k3 k4 => cases h; exact RcAt.int_tuple x t ⟨_, k1, k2, _, k3⟩ hu
    | dict => simp [eq0] at h
  | str x t =>
    cases rb with
    | none => cases h; exact RcAt.str_none x t
    | bool y => cases h; exact RcAt.str_bool x t y
    | int y u => cases h; exact RcAt.str_int x t y u
    | str y u => cases h; exact RcAt.str_str x t y u
    | list k1 k2 k3 k4 => cases h; exact RcAt.str_list x t ⟨_, k1, k2, _, k3⟩ hu
    | tuple k1 k2 k3 k4 => cases h; exact RcAt.str_tuple x t ⟨_, k1, k2, _, k3⟩ hu
    | dict => simp [eq0] at h
  | list h1 h2 h3 h4 =>
    cases rb with
    | none => cases h; exact RcAt.list_none ⟨_, h1, h2, _, h3⟩ hu
    | bool y => cases h; exact RcAt.list_bool y ⟨_, h1, h2, _, h3⟩ hu
    | int y u => cases h; exact RcAt.list_int y u ⟨_, h1, h2, _, h3⟩ hu
    | str y u => cases h; exact RcAt.list_str y u ⟨_, h1, h2, _, h3⟩ hu
    | list k1 k2 k3 k4 => simp [eq0] at h
    | tuple k1 k2 k3 k4 => cases h; exact RcAt.list_tuple ⟨_, h1, h2, _, h3⟩ ⟨_, k1, k2, _, k3⟩ hu
    | dict => simp [eq0] at h
  | tuple h1 h2 h3 h4 =>
    cases rb with
    | none => cases h; exact RcAt.tuple_none ⟨_, h1, h2, _, h3⟩ hu
    | bool y => cases h; exact RcAt.tuple_bool y ⟨_, h1, h2, _, h3⟩ hu
    | int y u => cases h; exact RcAt.tuple_int y u ⟨_, h1, h2, _, h3⟩ hu
    | str y u => cases h; exact RcAt.tuple_str y u ⟨_, h1, h2, _, h3⟩ hu
    | list k1 k2 k3 k4 => cases h; exact RcAt.tuple_list ⟨_, h1, h2, _, h3⟩ ⟨_, k1, k2, _, k3⟩ hu
    | tuple k1 k2 k3 k4 => simp [eq0] at h
    | dict => simp [eq0] at h
  | dict => simp [eq0] at h

open SeqAt in
theorem rc_eqS {s : Shared} : ∀ (n : Nat) {A : Around} {u v : Value} {x y : PyData} {as bs : List Addr} {b : Bool}, A.units + n < cLine → Reads s.heap u x as → Reads s.heap v y bs → eqS n x y = some b → RcAt A s u v b := by
  intro n
  induction n with
  | zero => intro A u v x y as bs b hu ra rb h; exact rc_eq0 (by omega) ra rb h
  | succ n ih =>
    have eqAt : ∀ {A : Around} {u v : Value} {x y : PyData} {as bs : List Addr} {b : Bool}, A.units + n < cLine → Reads s.heap u x as → Reads s.heap v y bs → eqS n x y = some b → EqAt A s u v b := by
      intro A u v x y as bs b hu ra rb h
      by_cases e : u = v
      · subst e
        rw [reads_inj _ (Nat.le_refl _) ra rb] at h
        rw [eqS_refl n _ b h]
        exact EqAt.same _
      · have rc := ih hu ra rb h
        intro prog w E Q hq
        unfold eqBool
        refine wpAny_holding ?_
        refine wpAny_ite_split (fun hab => absurd (eq_of_beq hab) e) (fun _ => ?_)
        cases ra <;> cases rb <;> exact wpAny_bind (rc prog w E _ (wpAny_truthy_bool hq))
    have items : ∀ {A : Around} {us vs : List Value} {xs ys : List PyData} {as bs : List Addr}, A.units + n < cLine → ReadsAll s.heap us xs as → ReadsAll s.heap vs ys bs → ∀ (e : Nat → Bool), (∀ j (h1 : j < xs.length) (h2 : j < ys.length), eqS n xs[j] ys[j] = some (e j)) →
        ∀ j (h1 : j < us.length) (h2 : j < vs.length), EqAt A s us[j] vs[j] (e j) := by
      intro A us
      induction us with
      | nil => intro vs xs ys as bs hu ra rb e he j h1; exact absurd h1 (Nat.not_lt_zero _)
      | cons u us ihl =>
        intro vs xs ys as bs hu ra rb e he j h1 h2
        cases ra with
        | cons r1 r2 =>
          cases rb with
          | nil => exact absurd h2 (Nat.not_lt_zero _)
          | cons q1 q2 =>
            cases j with
            | zero => exact eqAt hu r1 q1 (he 0 (by simp) (by simp))
            | succ j => exact ihl hu r2 q2 (fun j => e (j + 1)) (fun j a b => he (j + 1) (Nat.succ_lt_succ a) (Nat.succ_lt_succ b)) j (by simpa using h1) (by simpa using h2)
    intro A u v x y as bs b hu ra rb h
    have hu1 : A.in1.units + n < cLine := by show A.units + 1 + n < cLine; omega
    have other : eq0 x y = some b → RcAt A s u v b := fun h => rc_eq0 (by omega) ra rb h
    cases ra with
    | @list l o us n1 xs as1 h1 h2 h3 h4 =>
      cases rb with
      | @list l' o' vs n2 ys bs1 k1 k2 k3 k4 =>
        have n1' : us.size = xs.length := by simpa using ReadsAll.length _ _ _ h4
        have n2' : vs.size = ys.length := by simpa using ReadsAll.length _ _ _ k4
        simp only [eqS] at h
        by_cases hl : xs.length = ys.length
        · rw [if_pos hl] at h
          obtain ⟨e, he, hb⟩ := eqL_all h
          have hsz : us.size = vs.size := by omega
          have q : (xs.length == ys.length) = true := by simp [hl]
          rw [q, Bool.and_true, ← hl, Nat.min_self, ← n1'] at hb
          rw [hb]
          exact RcAt.lists ⟨_, h1, h2, _, h3⟩ ⟨_, k1, k2, _, k3⟩ hsz (by omega) fun j j1 j2 => by
            have q := items hu1 h4 k4 e he j (by simpa using j1) (by simpa using j2)
            rw [Array.getElem_toList, Array.getElem_toList] at q
            exact q
        · rw [if_neg hl] at h
          cases h
          exact RcAt.lists_lengths ⟨_, h1, h2, _, h3⟩ ⟨_, k1, k2, _, k3⟩ (by simp; omega) (by omega)
      | _ => exact other h
    | @tuple l o us n1 xs as1 h1 h2 h3 h4 =>
      cases rb with
      | @tuple l' o' vs n2 ys bs1 k1 k2 k3 k4 =>
        have n1' : us.size = xs.length := by simpa using ReadsAll.length _ _ _ h4
        have n2' : vs.size = ys.length := by simpa using ReadsAll.length _ _ _ k4
        simp only [eqS] at h
        obtain ⟨e, he, hb⟩ := eqL_all h
        rw [← n1', ← n2'] at hb
        rw [hb]
        exact RcAt.tuples ⟨_, h1, h2, _, h3⟩ ⟨_, k1, k2, _, k3⟩ (by omega) fun j j1 j2 => by
          have q := items hu1 h4 k4 e he j (by simpa using j1) (by simpa using j2)
          rw [Array.getElem_toList, Array.getElem_toList] at q
          exact q
      | _ => exact other h
    | _ => exact other h
open SeqAt in
theorem ea_eqS {s : Shared} (n : Nat) {A : Around} {u v : Value} {x y : PyData} {as bs : List Addr} {b : Bool} (hu : A.units + n < cLine) (ra : Reads s.heap u x as) (rb : Reads s.heap v y bs) (h : eqS n x y = some b) : EqAt A s u v b := by
  by_cases e : u = v
  · subst e
    rw [reads_inj _ (Nat.le_refl _) ra rb] at h
    rw [eqS_refl n _ b h]
    exact EqAt.same _
  · have rc := rc_eqS n hu ra rb h
    intro prog w E Q hq
    unfold eqBool
    refine wpAny_holding ?_
    refine wpAny_ite_split (fun hab => absurd (eq_of_beq hab) e) (fun _ => ?_)
    cases ra <;> cases rb <;> exact wpAny_bind (rc prog w E _ (wpAny_truthy_bool hq))
open SeqAt in
theorem rn_eq0 {A : Around} {s : Shared} {u v : Value} {x y : PyData} {as bs : List Addr} {b : Bool} (hu : A.units < cLine) (ra : Reads s.heap u x as) (rb : Reads s.heap v y bs) (h : eq0 x y = some b) : RcNeAt A s u v (!b) := by
  cases ra with
  | none =>
    cases rb with
    | none => cases h; exact RcNeAt.none_none
    | bool y => cases h; exact RcNeAt.none_bool y
    | int y u => cases h; exact RcNeAt.none_int y u
    | str y u => cases h; exact RcNeAt.none_str y u
    | list k1 k2 k3 k4 => cases h; exact RcNeAt.none_list ⟨_, k1, k2, _, k3⟩ hu
    | tuple k1 k2 k3 k4 => cases h; exact RcNeAt.none_tuple ⟨_, k1, k2, _, k3⟩ hu
    | dict => simp [eq0] at h
  | bool x =>
    cases rb with
    | none => cases h; exact RcNeAt.bool_none x
    | bool y => cases h; exact RcNeAt.bool_bool x y
    | int y u => cases h; exact RcNeAt.bool_int x y u
    | str y u => cases h; exact RcNeAt.bool_str x y u
    | list k1 k2 k3 k4 => cases h; exact RcNeAt.bool_list x ⟨_, k1, k2, _, k3⟩ hu
    | tuple k1 k2 k3 k4 => cases h; exact RcNeAt.bool_tuple x ⟨_, k1, k2, _, k3⟩ hu
    | dict => simp [eq0] at h
  | int x t =>
    cases rb with
    | none => cases h; exact RcNeAt.int_none x t
    | bool y => cases h; exact RcNeAt.int_bool x t y
    | int y u => cases h; exact RcNeAt.int_int x t y u
    | str y u => cases h; exact RcNeAt.int_str x t y u
    | list k1 k2 k3 k4 => cases h; exact RcNeAt.int_list x t ⟨_, k1, k2, _, k3⟩ hu
    | tuple k1 k2 k3 k4 => cases h; exact RcNeAt.int_tuple x t ⟨_, k1, k2, _, k3⟩ hu
    | dict => simp [eq0] at h
  | str x t =>
    cases rb with
    | none => cases h; exact RcNeAt.str_none x t
    | bool y => cases h; exact RcNeAt.str_bool x t y
    | int y u => cases h; exact RcNeAt.str_int x t y u
    | str y u => cases h; exact RcNeAt.str_str x t y u
    | list k1 k2 k3 k4 => cases h; exact RcNeAt.str_list x t ⟨_, k1, k2, _, k3⟩ hu
    | tuple k1 k2 k3 k4 => cases h; exact RcNeAt.str_tuple x t ⟨_, k1, k2, _, k3⟩ hu
    | dict => simp [eq0] at h
  | list h1 h2 h3 h4 =>
    cases rb with
    | none => cases h; exact RcNeAt.list_none ⟨_, h1, h2, _, h3⟩ hu
    | bool y => cases h; exact RcNeAt.list_bool y ⟨_, h1, h2, _, h3⟩ hu
    | int y u => cases h; exact RcNeAt.list_int y u ⟨_, h1, h2, _, h3⟩ hu
    | str y u => cases h; exact RcNeAt.list_str y u ⟨_, h1, h2, _, h3⟩ hu
    | list k1 k2 k3 k4 => simp [eq0] at h
    | tuple k1 k2 k3 k4 => cases h; exact RcNeAt.list_tuple ⟨_, h1, h2, _, h3⟩ ⟨_, k1, k2, _, k3⟩ hu
    | dict => simp [eq0] at h
  | tuple h1 h2 h3 h4 =>
    cases rb with
    | none => cases h; exact RcNeAt.tuple_none ⟨_, h1, h2, _, h3⟩ hu
    | bool y => cases h; exact RcNeAt.tuple_bool y ⟨_, h1, h2, _, h3⟩ hu
    | int y u => cases h; exact RcNeAt.tuple_int y u ⟨_, h1, h2, _, h3⟩ hu
    | str y u => cases h; exact RcNeAt.tuple_str y u ⟨_, h1, h2, _, h3⟩ hu
    | list k1 k2 k3 k4 => cases h; exact RcNeAt.tuple_list ⟨_, h1, h2, _, h3⟩ ⟨_, k1, k2, _, k3⟩ hu
    | tuple k1 k2 k3 k4 => simp [eq0] at h
    | dict => simp [eq0] at h
  | dict => simp [eq0] at h

open SeqAt in
theorem rn_eqS {s : Shared} (n : Nat) {A : Around} {u v : Value} {x y : PyData} {as bs : List Addr} {b : Bool} (hu : A.units + n < cLine) (ra : Reads s.heap u x as) (rb : Reads s.heap v y bs) (h : eqS n x y = some b) : RcNeAt A s u v (!b) := by
  cases n with
  | zero => exact rn_eq0 (by omega) ra rb h
  | succ n =>
    have items : ∀ {A : Around} {us vs : List Value} {xs ys : List PyData} {as bs : List Addr}, A.units + n < cLine → ReadsAll s.heap us xs as → ReadsAll s.heap vs ys bs → ∀ (e : Nat → Bool), (∀ j (h1 : j < xs.length) (h2 : j < ys.length), eqS n xs[j] ys[j] = some (e j)) →
        ∀ j (h1 : j < us.length) (h2 : j < vs.length), EqAt A s us[j] vs[j] (e j) := by
      intro A us
      induction us with
      | nil => intro vs xs ys as bs hu ra rb e he j h1; exact absurd h1 (Nat.not_lt_zero _)
      | cons u us ihl =>
        intro vs xs ys as bs hu ra rb e he j h1 h2
        cases ra with
        | cons r1 r2 =>
          cases rb with
          | nil => exact absurd h2 (Nat.not_lt_zero _)
          | cons q1 q2 =>
            cases j with
            | zero => exact ea_eqS n hu r1 q1 (he 0 (by simp) (by simp))
            | succ j => exact ihl hu r2 q2 (fun j => e (j + 1)) (fun j a b => he (j + 1) (Nat.succ_lt_succ a) (Nat.succ_lt_succ b)) j (by simpa using h1) (by simpa using h2)
    have hu1 : A.in1.units + n < cLine := by show A.units + 1 + n < cLine; omega
    have other : eq0 x y = some b → RcNeAt A s u v (!b) := fun h => rn_eq0 (by omega) ra rb h
    cases ra with
    | @list l o us n1 xs as1 h1 h2 h3 h4 =>
      cases rb with
      | @list l' o' vs n2 ys bs1 k1 k2 k3 k4 =>
        have n1' : us.size = xs.length := by simpa using ReadsAll.length _ _ _ h4
        have n2' : vs.size = ys.length := by simpa using ReadsAll.length _ _ _ k4
        simp only [eqS] at h
        by_cases hl : xs.length = ys.length
        · rw [if_pos hl] at h
          obtain ⟨e, he, hb⟩ := eqL_all h
          have hsz : us.size = vs.size := by omega
          have q : (xs.length == ys.length) = true := by simp [hl]
          rw [q, Bool.and_true, ← hl, Nat.min_self, ← n1'] at hb
          rw [hb]
          exact RcNeAt.lists ⟨_, h1, h2, _, h3⟩ ⟨_, k1, k2, _, k3⟩ hsz (by omega) fun j j1 j2 => by
            have q := items hu1 h4 k4 e he j (by simpa using j1) (by simpa using j2)
            rw [Array.getElem_toList, Array.getElem_toList] at q
            exact q
        · rw [if_neg hl] at h
          cases h
          exact RcNeAt.lists_lengths ⟨_, h1, h2, _, h3⟩ ⟨_, k1, k2, _, k3⟩ (by simp; omega) (by omega)
      | _ => exact other h
    | @tuple l o us n1 xs as1 h1 h2 h3 h4 =>
      cases rb with
      | @tuple l' o' vs n2 ys bs1 k1 k2 k3 k4 =>
        have n1' : us.size = xs.length := by simpa using ReadsAll.length _ _ _ h4
        have n2' : vs.size = ys.length := by simpa using ReadsAll.length _ _ _ k4
        simp only [eqS] at h
        obtain ⟨e, he, hb⟩ := eqL_all h
        rw [← n1', ← n2'] at hb
        rw [hb]
        exact RcNeAt.tuples ⟨_, h1, h2, _, h3⟩ ⟨_, k1, k2, _, k3⟩ (by omega) fun j j1 j2 => by
          have q := items hu1 h4 k4 e he j (by simpa using j1) (by simpa using j2)
          rw [Array.getElem_toList, Array.getElem_toList] at q
          exact q
      | _ => exact other h
    | _ => exact other h

/-! ### the rules -/
theorem RDs.length {K : PySem.W.Frag} {CA : Str → Addr} {H : Hp} : ∀ {ds : List D} {vs : List V} {F : List Addr}, RDs K CA H ds vs F → ds.length = vs.length
  | _, _, _, .nil => rfl
  | _, _, _, .cons _ r => congrArg (· + 1) (RDs.length r)
theorem RpAll.length {K : PySem.W.Frag} {H : Hp} : ∀ {vs : List V} {ds : List PyData}, RpAll K H vs ds → vs.length = ds.length
  | _, _, .nil => rfl
  | _, _, .cons _ r => congrArg (· + 1) (RpAll.length r)
open SeqAt in
theorem eqD_rc {CA : Str → Addr} (I : Inv X pins σ H s) (hu : X.A.units + 60 < cLine) {d e : D} {v w : V} {G1 G2 : List Addr} {u z : Value} {b : Bool} (r1 : RD X.K CA H d v G1) (r2 : RD X.K CA H e w G2) (ru : RelV v u) (rz : RelV w z) (h : eqD d e = some b) :
    RcAt X.A s u z b ∧ RcNeAt X.A s u z (!b) := by
  have gen : ∀ x y, d.toP = some x → e.toP = some y → eqS 50 x y = some b → RcAt X.A s u z b ∧ RcNeAt X.A s u z (!b) := fun x y e1 e2 h => by
    obtain ⟨as, q1⟩ := r1.reads I x u e1 ru
    obtain ⟨bs, q2⟩ := r2.reads I y z e2 rz
    exact ⟨rc_eqS 50 (by omega) q1 q2 h, rn_eqS 50 (by omega) q1 q2 h⟩
  have gen' : (d.toP.bind fun x => e.toP.bind fun y => eqS 50 x y) = some b → RcAt X.A s u z b ∧ RcNeAt X.A s u z (!b) := fun h => by
    simp only [Option.bind_eq_some_iff] at h
    obtain ⟨x, e1, y, e2, h⟩ := h
    exact gen x y e1 e2 h
  cases r1 with
  | @lst a vs ds F h1 q1 =>
    cases r2 with
    | @lst a2 vs2 ds2 F2 h2 q2 =>
      simp only [eqD] at h
      by_cases hl : ds.length = ds2.length
      · rw [if_pos hl] at h
        simp only [Option.bind_eq_some_iff] at h
        obtain ⟨x, e1, y, e2, h⟩ := h
        exact gen _ _ (by simp [D.toP, e1]) (by simp [D.toP, e2]) h
      · rw [if_neg hl] at h
        cases h
        cases ru
        cases rz
        obtain ⟨_, its, n, rv, e1, k1⟩ := I.lstM h1
        obtain ⟨_, its2, n2, rv2, e2, k2⟩ := I.lstM h2
        have z1 := q1.length
        have z2 := q2.length
        have ne : (its.toArray.size != its2.toArray.size) = true := by simp; omega
        exact ⟨RcAt.lists_lengths ⟨_, k1, rfl, _, rfl⟩ ⟨_, k2, rfl, _, rfl⟩ ne (by omega), RcNeAt.lists_lengths ⟨_, k1, rfl, _, rfl⟩ ⟨_, k2, rfl, _, rfl⟩ ne (by omega)⟩
    | _ => exact gen' h
  | _ => exact gen' h
def rEqX (K : PySem.W.Frag) : R2 := fun x y H Q => ∃ CA d e G1 G2 b, RD K CA H d x G1 ∧ RD K CA H e y G2 ∧ eqD d e = some b ∧ Q (.bl b) H
def rNeX (K : PySem.W.Frag) : R2 := fun x y H Q => ∃ CA d e G1 G2 b, RD K CA H d x G1 ∧ RD K CA H e y G2 ∧ eqD d e = some b ∧ Q (.bl (!b)) H
theorem op_eqX (hu : X.A.units + 60 < cLine) : OpR X (compareOp .Eq) (rEqX X.K) := by
  intro pins s σ H x y v u Q I rx ry h
  obtain ⟨CA, d, e, G1, G2, b, r1, r2, h, q⟩ := h
  exact (eqD_rc I hu r1 r2 rx ry h).1 _ _ _ _ ⟨.bl b, H, I, rfl, q⟩
theorem op_neX (hu : X.A.units + 60 < cLine) : OpR X (compareOp .NotEq) (rNeX X.K) := by
  intro pins s σ H x y v u Q I rx ry h
  obtain ⟨CA, d, e, G1, G2, b, r1, r2, h, q⟩ := h
  exact (eqD_rc I hu r1 r2 rx ry h).2 _ _ _ _ ⟨.bl (!b), H, I, rfl, q⟩
end
end Wh


set_option Elab.async false
set_option linter.all false
set_option maxRecDepth 100000
set_option maxHeartbeats 1000000
/-! Data in the heap whose dicts are not sys.modules, and their repr. -/
namespace Wh
open PySem PySem.Spec PyProof.Rows L2
mutual
inductive RN (h : Heap) : Value → PyData → Prop
  | none : RN h .none .none
  | bool (b : Bool) : RN h (.bool b) (.bool b)
  | int (i : Int) (t : Tok) : RN h (.int i t) (.int i)
  | str (x : Str) (t : Tok) : RN h (.str x t) (.str x)
  | list {a : Addr} {o : Obj} {vs : Array Value} {n : Nat} {xs : List PyData} : h.get? a = some o → o.cls = .type "list" → o.data = .seq vs n → RNs h vs.toList xs → RN h (.ref a) (.list xs)
  | tuple {a : Addr} {o : Obj} {vs : Array Value} {n : Nat} {xs : List PyData} : h.get? a = some o → o.cls = .type "tuple" → o.data = .seq vs n → RNs h vs.toList xs → RN h (.ref a) (.tuple xs)
  | dict {a : Addr} {o : Obj} {es : Array DictEntry} {n : Nat} {kvs : List (PyData × PyData)} : (a == sysModules) = false → h.get? a = some o → o.cls = .type "dict" → o.data = .dict es n → RNs h (es.toList.map (·.key)) (kvs.map (·.1)) → RNs h (es.toList.map (·.val)) (kvs.map (·.2)) → RN h (.ref a) (.dict kvs)
inductive RNs (h : Heap) : List Value → List PyData → Prop
  | nil : RNs h [] []
  | cons {v : Value} {vs : List Value} {d : PyData} {ds : List PyData} : RN h v d → RNs h vs ds → RNs h (v :: vs) (d :: ds)
end
mutual
theorem RN.reads {h : Heap} : ∀ {v : Value} {d : PyData}, RN h v d → ∃ as, Reads h v d as
  | _, _, .none => ⟨_, .none⟩
  | _, _, .bool b => ⟨_, .bool b⟩
  | _, _, .int i t => ⟨_, .int i t⟩
  | _, _, .str x t => ⟨_, .str x t⟩
  | _, _, .list a b c d => (RNs.reads d).elim fun _ q => ⟨_, .list a b c q⟩
  | _, _, .tuple a b c d => (RNs.reads d).elim fun _ q => ⟨_, .tuple a b c q⟩
  | _, _, .dict _ a b c d e => (RNs.reads d).elim fun _ q => (RNs.reads e).elim fun _ r => ⟨_, .dict a b c q r⟩
theorem RNs.reads {h : Heap} : ∀ {v : List Value} {d : List PyData}, RNs h v d → ∃ as, ReadsAll h v d as
  | _, _, .nil => ⟨_, .nil⟩
  | _, _, .cons a b => (RN.reads a).elim fun _ q => (RNs.reads b).elim fun _ r => ⟨_, .cons q r⟩
end
section
variable {prog : Program} {w : World} {h : Heap}
mutual
theorem RN.rk : ∀ {v : Value} {d : PyData}, RN h v d → d.showable = true → d.shown.length ≤ sizeLine → ∃ bs, ReadAtMost h d.depth bs ∧ ReprK prog w bs h d.depth v d.shown
  | _, _, .none, _, _ => ⟨[], fun _ z => (nomatch z), .of_is ReprIs.none _ _ _⟩
  | _, _, .bool b, _, _ => ⟨[], fun _ z => (nomatch z), .of_is (ReprIs.bool b) _ _ _⟩
  | _, _, .int i t, s1, _ => ⟨[], fun _ z => (nomatch z), .of_is (ReprIs.int t (by simpa [PyData.showable] using s1)) _ _ _⟩
  | _, _, .str x t, _, s2 => ⟨[], fun _ z => (nomatch z), .of_is (ReprIs.str x t (by simpa only [PyData.shown] using s2)) _ _ _⟩
  | _, _, .list (a := a) (vs := vs) (xs := xs) g1 g2 g3 g4, s1, s2 => by
    have s3 : (listText (PyData.shownAll xs)).length ≤ sizeLine := by rw [PyData.shown] at s2; exact s2
    obtain ⟨bs, hb, hk⟩ := RNs.rk g4 (by rw [PyData.showable] at s1; exact s1) fun t ht => Nat.le_trans (listText_mem_le ht) s3
    obtain ⟨as, ra⟩ := RN.reads (.list g1 g2 g3 g4)
    have dp : (PyData.list xs).depth = PyData.depthAll xs + 1 := by simp only [PyData.depth]
    have na : a ∉ bs := not_mem_of_deeper ra (by rw [dp]; omega) hb
    refine ⟨a :: bs, ReadAtMost.cons ra (by rw [dp]; omega) hb, ?_⟩
    rw [dp, PyData.shown]
    obtain ⟨l⟩ := vs
    match l, g3, g4, hk with
    | [], g3, g4, hk =>
      have g5 : RNs h [] xs := g4
      cases g5
      rw [PyData.shownAll, listText_nil]
      exact ReprK.listEmpty g1 g2 g3
    | x :: l, g3, g4, hk => exact ReprK.list g1 g2 g3 na (by simpa using hk.length_eq) fun i y e => hk.item i y (by simpa using e)
  | _, _, .tuple (a := a) (xs := xs) g1 g2 g3 g4, s1, s2 => by
    have s3 : (tupleText (PyData.shownAll xs)).length ≤ sizeLine := by rw [PyData.shown] at s2; exact s2
    obtain ⟨bs, hb, hk⟩ := RNs.rk g4 (by rw [PyData.showable] at s1; exact s1) fun t ht => Nat.le_trans (tupleText_mem_le ht) s3
    obtain ⟨as, ra⟩ := RN.reads (.tuple g1 g2 g3 g4)
    have dp : (PyData.tuple xs).depth = PyData.depthAll xs + 1 := by simp only [PyData.depth]
    have na : a ∉ bs := not_mem_of_deeper ra (by rw [dp]; omega) hb
    refine ⟨a :: bs, ReadAtMost.cons ra (by rw [dp]; omega) hb, ?_⟩
    rw [dp, PyData.shown]
    exact ReprK.tuple g1 g2 g3 na hk
  | _, _, .dict (a := a) (es := es) (kvs := kvs) g0 g1 g2 g3 g4 g5, s1, s2 => by
    have s3 : (dictText (PyData.shownKv kvs)).length ≤ sizeLine := by rw [PyData.shown] at s2; exact s2
    obtain ⟨v1, v2⟩ := PyData.showableKv_split kvs (by rw [PyData.showable] at s1; exact s1)
    obtain ⟨c1, d1, k1⟩ := RNs.rk g4 v1 fun t ht => by
      obtain ⟨p, hp, hl⟩ := PyData.shownKv_key_le kvs t ht
      exact Nat.le_trans hl (Nat.le_trans (dictText_mem_le hp) s3)
    obtain ⟨c2, d2, k2⟩ := RNs.rk g5 v2 fun t ht => by
      obtain ⟨p, hp, hl⟩ := PyData.shownKv_val_le kvs t ht
      exact Nat.le_trans hl (Nat.le_trans (dictText_mem_le hp) s3)
    obtain ⟨as, ra⟩ := RN.reads (.dict g0 g1 g2 g3 g4 g5)
    have dp : (PyData.dict kvs).depth = PyData.depthKv kvs + 1 := by simp only [PyData.depth]
    have hb : ReadAtMost h (PyData.depthKv kvs) (c1 ++ c2) := .append (d1.mono (PyData.depthAll_keys_le kvs)) (d2.mono (PyData.depthAll_vals_le kvs))
    have na : a ∉ c1 ++ c2 := not_mem_of_deeper ra (by rw [dp]; omega) hb
    refine ⟨a :: (c1 ++ c2), ReadAtMost.cons ra (by rw [dp]; omega) hb, ?_⟩
    rw [dp, PyData.shown, PyData.shownKv_eq]
    refine ReprK.dict g1 g2 g3 g0 na (.of_two es.toList _ _ ?_ ?_)
    · exact k1.more_le (fun b z => List.mem_append_left _ z) (PyData.depthAll_keys_le kvs)
    · exact k2.more_le (fun b z => List.mem_append_right _ z) (PyData.depthAll_vals_le kvs)
theorem RNs.rk : ∀ {vs : List Value} {ds : List PyData}, RNs h vs ds → PyData.showableAll ds = true → (∀ t ∈ PyData.shownAll ds, t.length ≤ sizeLine) → ∃ bs, ReadAtMost h (PyData.depthAll ds) bs ∧ ReprAllK prog w bs h (PyData.depthAll ds) vs (PyData.shownAll ds)
  | _, _, .nil, _, _ => ⟨[], fun _ z => (nomatch z), .nil⟩
  | _, _, .cons (d := d) (ds := ds) g r, s1, s2 => by
    rw [PyData.showableAll, Bool.and_eq_true] at s1
    rw [PyData.shownAll] at s2 ⊢
    obtain ⟨c1, d1, k1⟩ := RN.rk g s1.1 (s2 _ List.mem_cons_self)
    obtain ⟨c2, d2, k2⟩ := RNs.rk r s1.2 fun t ht => s2 t (List.mem_cons_of_mem _ ht)
    have dp : PyData.depthAll (d :: ds) = max d.depth (PyData.depthAll ds) := by simp only [PyData.depthAll]
    rw [dp]
    refine ⟨c1 ++ c2, .append (d1.mono (Nat.le_max_left _ _)) (d2.mono (Nat.le_max_right _ _)), ?_⟩
    refine .cons ((k1.more fun b z => List.mem_append_left _ z).level_le (Nat.le_max_left _ _)) ?_
    exact k2.more_le (fun b z => List.mem_append_right _ z) (Nat.le_max_right _ _)
end
theorem RN.shows {a : Addr} {d : PyData} (r : RN h (.ref a) d) (s1 : d.showable = true) (s2 : d.shown.length ≤ sizeLine) : ∃ T idr, ShowsBy prog w h a d T idr := by
  obtain ⟨as, ra⟩ := r.reads
  cases r with
  | list g1 g2 g3 g4 =>
    rename_i o vs n xs
    have s3 : (listText (PyData.shownAll xs)).length ≤ sizeLine := by rw [PyData.shown] at s2; exact s2
    obtain ⟨bs, hb, hk⟩ := RNs.rk (prog := prog) (w := w) g4 (by rw [PyData.showable] at s1; exact s1) fun t ht => Nat.le_trans (listText_mem_le ht) s3
    have dp : (PyData.list xs).depth = PyData.depthAll xs + 1 := by simp only [PyData.depth]
    have na : a ∉ bs := not_mem_of_deeper ra (by rw [dp]; omega) hb
    refine ⟨"list", "list.__repr__", F.slot_list_repr.toG, F.slot_list_str, F.slot_list_format, fun s k => ⟨o, k _ _ g1, g2⟩, ?_⟩
    intro A E s Q hg hu hk0 hQ
    rw [dp] at hu
    rw [PyData.shown] at hQ
    obtain ⟨l⟩ := vs
    match l, g3, g4, hk with
    | [], g3, g4, hk =>
      have g5 : RNs h [] xs := g4
      cases g5
      rw [PyData.shownAll, listText_nil] at hQ
      exact call_list_repr_empty ⟨o, hk0 _ _ g1, g2⟩ (hk0 _ _ g1) g3 (hQ s.heap _ _ fun _ _ e => e)
    | x :: l, g3, g4, hk =>
      refine call_list_reprK g1 g2 g3 na (by simpa using hk.length_eq) (fun i y e => hk.item i y (by simpa using e)) hg ?_ hu hk0 hQ s3
      exact fun b _ => Clear.nil b
  | tuple g1 g2 g3 g4 =>
    rename_i o vs n xs
    have s3 : (tupleText (PyData.shownAll xs)).length ≤ sizeLine := by rw [PyData.shown] at s2; exact s2
    obtain ⟨bs, hb, hk⟩ := RNs.rk (prog := prog) (w := w) g4 (by rw [PyData.showable] at s1; exact s1) fun t ht => Nat.le_trans (tupleText_mem_le ht) s3
    have dp : (PyData.tuple xs).depth = PyData.depthAll xs + 1 := by simp only [PyData.depth]
    have na : a ∉ bs := not_mem_of_deeper ra (by rw [dp]; omega) hb
    refine ⟨"tuple", "tuple.__repr__", F.slot_tuple_repr, F.slot_tuple_str, F.slot_tuple_format, fun s k => ⟨o, k _ _ g1, g2⟩, ?_⟩
    intro A E s Q hg hu hk0 hQ
    rw [dp] at hu
    rw [PyData.shown] at hQ
    refine call_tuple_reprK g1 g2 g3 na hk hg ?_ hu hk0 hQ s3
    exact fun b _ => Clear.nil b
  | dict g0 g1 g2 g3 g4 g5 =>
    rename_i o es n kvs
    have s3 : (dictText (PyData.shownKv kvs)).length ≤ sizeLine := by rw [PyData.shown] at s2; exact s2
    obtain ⟨v1, v2⟩ := PyData.showableKv_split kvs (by rw [PyData.showable] at s1; exact s1)
    obtain ⟨c1, d1, k1⟩ := RNs.rk (prog := prog) (w := w) g4 v1 fun t ht => by
      obtain ⟨p, hp, hl⟩ := PyData.shownKv_key_le kvs t ht
      exact Nat.le_trans hl (Nat.le_trans (dictText_mem_le hp) s3)
    obtain ⟨c2, d2, k2⟩ := RNs.rk (prog := prog) (w := w) g5 v2 fun t ht => by
      obtain ⟨p, hp, hl⟩ := PyData.shownKv_val_le kvs t ht
      exact Nat.le_trans hl (Nat.le_trans (dictText_mem_le hp) s3)
    have dp : (PyData.dict kvs).depth = PyData.depthKv kvs + 1 := by simp only [PyData.depth]
    have hb : ReadAtMost h (PyData.depthKv kvs) (c1 ++ c2) := .append (d1.mono (PyData.depthAll_keys_le kvs)) (d2.mono (PyData.depthAll_vals_le kvs))
    have na : a ∉ c1 ++ c2 := not_mem_of_deeper ra (by rw [dp]; omega) hb
    refine ⟨"dict", "dict.__repr__", F.slot_dict_repr, F.slot_dict_str, F.slot_dict_format, fun s k => ⟨o, k _ _ g1, g2⟩, ?_⟩
    intro A E s Q hg hu hk0 hQ
    rw [dp] at hu
    rw [PyData.shown, PyData.shownKv_eq] at hQ
    have e1 := k1.more_le (fun b z => List.mem_append_left c2 z) (PyData.depthAll_keys_le kvs)
    have e2 := k2.more_le (fun b z => List.mem_append_right c1 z) (PyData.depthAll_vals_le kvs)
    refine call_dict_reprK g1 g2 g3 g0 na (.of_two es.toList _ _ e1 e2) hg ?_ hu hk0 hQ ?_
    · exact fun b _ => Clear.nil b
    · rw [← PyData.shownKv_eq]; exact s3
theorem repr_rn {A : Around} {E : Value → Shared → Prop} {s : Shared} {Q : Value → Shared → Prop} {a : Addr} {d : PyData} (r : RN s.heap (.ref a) d) (s1 : d.showable = true) (s2 : d.shown.length ≤ sizeLine) (hg : A.guards = some []) (hu : A.units + (d.depth + 1) < cLine)
    (hQ : ∀ h' u tk, (∀ b o, s.heap.get? b = some o → h'.get? b = some o) → Q (.str d.shown u) { s with heap := h', toks := tk }) : wpAny (model prog w) A (call (.builtin "repr") [.ref a]) Q E s := by
  obtain ⟨T, idr, S⟩ := r.shows (prog := prog) (w := w) s1 s2
  refine call_repr_slot (by omega) (S.typeIs s fun _ _ e => e) S.slotRepr (S.call A.in1 E s _ hg ?_ (fun _ _ e => e) fun h' u tk hk => ⟨_, _, rfl, hQ h' u tk hk⟩)
  show A.units + 1 + d.depth < cLine
  omega
end
section
variable {X : Cx} {pins : List (Addr × Obj)} {σ : L2.St} {H : Hp} {s : Shared}
mutual
theorem Rp.rn (I : Inv X pins σ H s) : ∀ (x : PyData) (v : V) (u : Value), Rp X.K H v x → RelV v u → RN s.heap u x
  | .none, _, _, h, r => by
    cases h
    cases r
    exact .none
  | .bool b, _, _, h, r => by
    cases h
    cases r
    exact .bool b
  | .int i, _, _, h, r => by
    cases h
    obtain ⟨t, rfl⟩ := r
    exact .int i t
  | .str x, _, _, h, r => by
    cases h
    obtain ⟨t, rfl⟩ := r
    exact .str x t
  | .list ds, _, _, h, r => by
    cases h with
    | lst hs ha =>
      cases r
      obtain ⟨z, its, n, rv, _, e⟩ := lsX I (.inr hs)
      have hr := RpAll.rn I ds _ its ha rv
      exact .list e rfl rfl hr
  | .tuple ds, _, _, h, r => by
    cases h with
    | tup hs ha =>
      cases r
      obtain ⟨its, rv, ⟨o, ho, hc, n, hd⟩, _⟩ := I.tuple hs
      have hr := RpAll.rn I ds _ its ha rv
      exact .tuple ho hc hd hr
  | .dict ds, _, _, h, r => by
    cases h with
    | dic hs ha =>
      cases r
      obtain ⟨_, z, y, vs, kv, o, es, ep, e, ex, d, _, ps, _⟩ := I.hok _ _ hs
      obtain ⟨h1, h2⟩ := RpKv.rn I ds _ vs es.toList ha kv ps
      exact .dict (by simpa using y) e ex.1 d h1 h2
theorem RpAll.rn (I : Inv X pins σ H s) : ∀ (ds : List PyData) (vs : List V) (us : List Value), RpAll X.K H vs ds → Vals vs us → RNs s.heap us ds
  | [], _, _, h, r => by
    cases h
    cases r
    exact .nil
  | d :: ds, _, _, h, r => by
    cases h with
    | cons h1 h2 =>
      cases r with
      | cons r1 r2 =>
        have q1 := Rp.rn I d _ _ h1 r1
        have q2 := RpAll.rn I ds _ _ h2 r2
        exact .cons q1 q2
theorem RpKv.rn (I : Inv X pins σ H s) : ∀ (ds : List (PyData × PyData)) (kvs : List (Key × V)) (vs : List (Key × Value)) (es : List DictEntry), RpKv X.K H kvs ds → KV kvs vs → Pairs (mixKind X.prog X.w) es vs →
    RNs s.heap (es.map (·.key)) (ds.map (·.1)) ∧ RNs s.heap (es.map (·.val)) (ds.map (·.2))
  | [], _, _, _, h, r, q => by
    cases h
    cases r
    cases q
    exact ⟨.nil, .nil⟩
  | d :: ds, _, _, _, h, r, q => by
    cases h with
    | cons h1 h2 =>
      cases r with
      | cons r1 r2 =>
        cases q with
        | cons k1 k2 k3 =>
          have q1 := Rp.rn I _ _ _ h1 r1.2
          obtain ⟨q2, q3⟩ := RpKv.rn I ds _ _ _ h2 r2 k3
          have kr : ∀ (k : Key) (u : Value), (mixKind X.prog X.w).is k u = true → RN s.heap u (keyP k) := fun k u e => by
            rcases keyIs_shape (show keyIs k u = true from e) with ⟨i, t, rfl, rfl⟩ | ⟨x, t, rfl, rfl⟩
            · exact .int i t
            · exact .str x t
          rw [← r1.1] at k1
          have q4 := kr _ _ k1
          rw [← k2] at q1
          exact ⟨.cons q4 q2, .cons q1 q3⟩
end
mutual
theorem RD.rn {CA : Str → Addr} (I : Inv X pins σ H s) : ∀ {d : D} {v : V} {F : List Addr}, RD X.K CA H d v F → ∀ (x : PyData) (u : Value), d.toP = some x → RelV v u → RN s.heap u x
  | _, _, _, .p r, x, u, e, ru => by
    unfold D.toP at e
    cases e
    exact Rp.rn I _ _ _ r ru
  | _, _, _, .lst h r, x, u, e, ru => by
    simp only [D.toP, Option.map_eq_some_iff] at e
    obtain ⟨xs, e, rfl⟩ := e
    cases ru
    obtain ⟨z, its, n, rv, _, q⟩ := I.lstM h
    have hr := RDs.rn I r xs its e rv
    exact .list q rfl rfl hr
  | _, _, _, .tup h r, x, u, e, ru => by
    simp only [D.toP, Option.map_eq_some_iff] at e
    obtain ⟨xs, e, rfl⟩ := e
    cases ru
    obtain ⟨its, rv, ⟨o, ho, hc, n, hd⟩, _⟩ := I.tuple (SqT.of h)
    have hr := RDs.rn I r xs its e rv
    exact .tuple ho hc hd hr
  | _, _, _, .dic h _ r, x, u, e, ru => by
    simp only [D.toP, Option.map_eq_some_iff] at e
    obtain ⟨xs, e, rfl⟩ := e
    cases ru
    obtain ⟨z, y, vs, kv, o, es, ep, e1, ex, d, _, ps, _⟩ := I.hok _ _ h
    obtain ⟨h1, h2⟩ := RDk.rn I r xs vs es.toList e kv ps
    exact .dict (by simpa using y) e1 ex.1 d h1 h2
  | _, _, _, .obj _ _ _ _ _, x, u, e, ru => by simp only [D.toP] at e; cases e
theorem RDs.rn {CA : Str → Addr} (I : Inv X pins σ H s) : ∀ {d : List D} {v : List V} {F : List Addr}, RDs X.K CA H d v F → ∀ (x : List PyData) (u : List Value), toPs d = some x → Vals v u → RNs s.heap u x
  | _, _, _, .nil, x, u, e, ru => by
    unfold toPs at e
    cases e
    cases ru
    exact .nil
  | _, _, _, .cons h r, x, u, e, ru => by
    simp only [toPs, Option.bind_eq_some_iff, Option.map_eq_some_iff] at e
    obtain ⟨y, ey, ys, es, rfl⟩ := e
    cases ru with
    | cons r1 r2 =>
      have q1 := RD.rn I h y _ ey r1
      have q2 := RDs.rn I r ys _ es r2
      exact .cons q1 q2
theorem RDk.rn {CA : Str → Addr} (I : Inv X pins σ H s) : ∀ {d : List (Key × D)} {v : List (Key × V)} {F : List Addr}, RDk X.K CA H d v F → ∀ (x : List (PyData × PyData)) (vs : List (Key × Value)) (es : List DictEntry), toPk d = some x → KV v vs → Pairs (mixKind X.prog X.w) es vs →
    RNs s.heap (es.map (·.key)) (x.map (·.1)) ∧ RNs s.heap (es.map (·.val)) (x.map (·.2))
  | _, _, _, .nil, x, vs, es, e, r, q => by
    unfold toPk at e
    cases e
    cases r
    cases q
    exact ⟨.nil, .nil⟩
  | _, _, _, .cons h r, x, vs, es, e, rk, q => by
    simp only [toPk, Option.bind_eq_some_iff, Option.map_eq_some_iff] at e
    obtain ⟨y, ey, ys, es', rfl⟩ := e
    cases rk with
    | cons r1 r2 =>
      cases q with
      | cons k1 k2 k3 =>
        have q1 := RD.rn I h y _ ey r1.2
        obtain ⟨q2, q3⟩ := RDk.rn I r ys _ _ es' r2 k3
        have kr : ∀ (k : Key) (u : Value), (mixKind X.prog X.w).is k u = true → RN s.heap u (keyP k) := fun k u e => by
          rcases keyIs_shape (show keyIs k u = true from e) with ⟨i, t, rfl, rfl⟩ | ⟨x, t, rfl, rfl⟩
          · exact .int i t
          · exact .str x t
        rw [← r1.1] at k1
        have q4 := kr _ _ k1
        rw [← k2] at q1
        exact ⟨.cons q4 q2, .cons q1 q3⟩
end
end
end Wh


set_option Elab.async false
set_option linter.all false
set_option maxRecDepth 100000
set_option maxHeartbeats 1000000
/-! t[::-1] of a tuple. -/
namespace Wh
open PySem PySem.Spec PyProof.Rows L2 HT
section
variable {prog : Program} {w : World} {A : Around} {E : Value → Shared → Prop} {s : Shared}
theorem back_adjust (n : Nat) : Builtin.Slice.sliceAdjust none none (-1) (n : Int) = ((n : Int) - 1, -1) := by
  unfold Builtin.Slice.sliceAdjust
  simp
theorem back_places (n : Nat) : Builtin.Slice.slicePlaces ((n : Int) - 1) (-1) (-1) = n := by
  unfold Builtin.Slice.slicePlaces
  simp
  omega
theorem back_applied {sl : Addr} {vl vu vs : Value} {n : Nat} {Q : Int × Int × Nat → Shared → Prop} (hs : s.heap.IsSliceOf sl vl vu vs) (pl : IsPart vl none) (pu : IsPart vu none) (ps : IsPart vs (some (-1)))
    (h : Q ((n : Int) - 1, -1, n) s) : wpAny (model prog w) A (Builtin.Slice.sliceApplied (.ref sl) (pure (n : Int))) Q E s := by
  obtain ⟨os, hos, hcs, hds⟩ := id hs
  unfold Builtin.Slice.sliceApplied Builtin.Slice.sliceFields
  refine wpAny_bind (wpAny_bind (wpAny_field hos hds (x := vl) rfl (wpAny_bind (wpAny_field hos hds (x := vu) rfl (wpAny_bind (wpAny_field hos hds (x := vs) rfl (wpAny_pure ?_)))))))
  refine wpAny_bind (slicePart_ ps ?_)
  show wpAny _ _ (if ((-1 : Int) == 0) = true then _ else _) _ _ s
  rw [if_neg (by decide)]
  refine wpAny_bind (slicePart_ pl (wpAny_bind (slicePart_ pu (wpAny_bind (wpAny_pure ?_)))))
  show wpAny _ _ (match Builtin.Slice.sliceAdjust none none (-1) (n : Int) with | (lo, hi) => pure (lo, (-1 : Int), Builtin.Slice.slicePlaces lo hi (-1))) _ _ s
  rw [back_adjust n]
  show wpAny _ _ (pure ((n : Int) - 1, (-1 : Int), Builtin.Slice.slicePlaces ((n : Int) - 1) (-1) (-1))) _ _ s
  rw [back_places]
  exact wpAny_pure h
theorem fm_congr {α β : Type} {f g : α → Option β} : ∀ {l : List α}, (∀ x ∈ l, f x = g x) → l.filterMap f = l.filterMap g
  | [], _ => rfl
  | x :: l, h => by
    rw [List.filterMap_cons, List.filterMap_cons, h x (by simp), fm_congr fun y hy => h y (by simp [hy])]
theorem back_pick (xs : Array Value) : ((List.range xs.size).filterMap fun (m : Nat) => xs[(((xs.size : Int) - 1) + (m : Int) * (-1)).toNat]?) = xs.toList.reverse := by
  have e : ∀ m ∈ List.range xs.size, xs[(((xs.size : Int) - 1) + (m : Int) * (-1)).toNat]? = xs.toList.reverse[m]? := by
    intro m hm
    have hm : m < xs.size := List.mem_range.mp hm
    rw [List.getElem?_reverse (by simpa using hm)]
    rw [Array.getElem?_toList]
    congr 1
    simp
    omega
  rw [fm_congr e]
  have : ∀ (l : List Value), (List.range l.length).filterMap (fun m => l[m]?) = l := by
    intro l
    induction l with
    | nil => rfl
    | cons x l ih =>
      rw [List.length_cons, List.range_succ_eq_map, List.filterMap_cons]
      simp only [List.getElem?_cons_zero, List.filterMap_map]
      congr 1
  have h2 := this xs.toList.reverse
  rw [List.length_reverse, Array.length_toList] at h2
  exact h2
theorem back_tuple {t sl : Addr} {items : Array Value} {vl vu vs : Value} {Q : Value → Shared → Prop} (ht : IsTup s.heap t items) (hs : s.heap.IsSliceOf sl vl vu vs) (pl : IsPart vl none) (pu : IsPart vu none) (ps : IsPart vs (some (-1)))
    (h : Q (.ref s.heap.objs.size) { s with heap := s.heap.push { cls := .type "tuple", data := .seq items.toList.reverse.toArray } }) (hsz : items.size ≤ sizeLine) : wpAny (model prog w) A (getItem (.ref t) (.ref sl)) Q E s := by
  have fits : sizeOk (.seq items.toList.reverse.toArray) := by
    show items.toList.reverse.toArray.size ≤ sizeLine
    rw [List.size_toArray, List.length_reverse, Array.length_toList]
    exact hsz
  obtain ⟨os, hos, hcs, hds⟩ := id hs
  have tySl : s.TypeIs (.ref sl) "slice" := ⟨os, hos, hcs⟩
  unfold getItem
  try with_reducible refine wpAny_holding ?_
  first | refine wpAny_bind (wpAny_pure ?_) | skip
  refine wpAny_bind (wpAny_sequenceKey ht.typeIs (by decide) ?_)
  refine wpAny_bind (wpAny_callSpecial?_slot (name := Str.ofString "__getitem__") ht.typeIs PyProof.Rows.slot_tuple_getitem (wpAny_call_entry PyProof.Rows.slot_tuple_getitem ht.typeIs entry_tuple_getitem ?_ (args_tuple_getitem _ _)))
  show wpAny _ _ (Builtin.Tuple.tupleItemsOf (.ref t) >>= _) _ _ s
  refine wpAny_bind (tupleItemsOf_ ht ?_)
  refine wpAny_bind (wpAny_typeOf tySl ?_)
  rw [if_pos (by decide)]
  refine wpAny_bind (back_applied hs pl pu ps ?_)
  have no1 : ¬ (((((items.size : Nat) : Int) - 1) == 0 && (-1 : Int) == 1 && items.size == items.size) = true) := by
    intro q
    rw [Bool.and_eq_true, Bool.and_eq_true] at q
    exact absurd (eq_of_beq q.1.2) (by decide)
  show wpAny _ _ (if ((((items.size : Nat) : Int) - 1) == 0 && (-1 : Int) == 1 && items.size == items.size) = true then _ else _) _ _ s
  rw [if_neg no1, back_pick]
  first
    | exact wpAny_bind (m := Builtin.Tuple.tupleExact _) (wpAny_newObj_type (wpAny_pure ⟨_, rfl, wpAny_pure h⟩) fits)
    | exact wpAny_bind (m := Builtin.Tuple.tupleExact _) (wpAny_newObj_type (wpAny_bind (wpAny_pure (wpAny_pure ⟨_, rfl, wpAny_pure h⟩))) fits)
    | exact wpAny_bind (wpAny_bind (m := Builtin.Tuple.tupleExact _) (wpAny_newObj_type (wpAny_pure (wpAny_pure ⟨_, rfl, wpAny_pure h⟩)) fits))
    | exact wpAny_bind (wpAny_bind (m := Builtin.Tuple.tupleExact _) (wpAny_newObj_type (wpAny_pure ⟨_, rfl, wpAny_pure h⟩) fits))
end
section
variable {X : Cx}
def tRevX (K : PySem.W.Frag) (te : TE) : TE := fun σ H Q => te σ H fun x H1 => (∃ a xs, x = .ref a ∧ SqL K H1 a xs ∧ ∀ p, H1 p = none → Q (.ref p) (upd H1 p (.lst xs.reverse))) ∨ (∃ a xs, x = .ref a ∧ SqT K H1 a xs ∧ ∀ p, H1 p = none → Q (.ref p) (upd H1 p (.tup xs.reverse)))
theorem pe_revX {e : Expr} {te : TE} {k : Nat} {p1 p2 p3 pos : Pos} (he : PE X e te) : PE X (.Subscript e (.Slice none none (some (.UnaryOp .USub (.Constant (.int 1) k p1) p2)) p3) pos) (tRevX X.K te) := by
  refine ⟨fun pins s σ H Q I hw => ?_⟩
  refine Subscript_ (thn (he.run pins s σ H _ I hw) fun v s1 ⟨x, H1, I1, r1, q1⟩ => ?_)
  have stp : PO X (some (.UnaryOp .USub (.Constant (.int 1) k p1) p2)) (tPart (tUn (rU fun i => .int (-i)) (tC (.int 1)))) := po_some (pe_un un_neg pe_int)
  refine wpAny_Slice (thn (po_none.run pins s1 σ H1 (fun o H2 => o = none ∧ H2 = H1) I1 ⟨rfl, rfl⟩) fun vl s2 ⟨l, H2, I2, pl, e1, e2⟩ => ?_)
  subst e1 e2
  refine thn (po_none.run pins s2 σ H2 (fun o H3 => o = none ∧ H3 = H2) I2 ⟨rfl, rfl⟩) fun vu s3 ⟨u, H3, I3, pu, e3, e4⟩ => ?_
  subst e3 e4
  refine thn (stp.run pins s3 σ H3 (fun o H4 => o = some (-1) ∧ H4 = H3) I3 ⟨1, rfl, -1, rfl, rfl, rfl⟩) fun vs s4 ⟨o, H4, I4, ps, e5, e6⟩ => ?_
  subst e5 e6
  have I5 : Inv X pins σ H4 { s4 with heap := s4.heap.push { cls := .type "slice", data := .fields #[vl, vu, vs] } } := I4.kept (t' := s4.toks) fun b ob z => Heap.get?_push_of_some _ z
  rcases q1 with ⟨a, xs, ex, hx, q⟩ | ⟨a, xs, ex, hx, q⟩
  · subst ex
    cases r1
    obtain ⟨its, r, ht, hz⟩ := I5.list hx
    have ln := r.length
    show wpAny (model X.prog X.w) X.A (subscriptTail e (.Slice none none (some (.UnaryOp .USub (.Constant (.int 1) k p1) p2)) p3) (.ref a) (.ref s4.heap.objs.size)) (EP X pins σ Q) X.xe _
    refine tail_any (ops := [.ref a, .ref s4.heap.objs.size]) ht.isList.typeIs (PySem.slot_list_getitem.lookup) ?_ (by with_unfolding_all rfl)
    refine wpAny_getItem_list_slice ht.isList (Heap.IsSliceOf.new _ vl vu vs) pl pu ps (by decide) ?_ (by rw [List.size_toArray]; omega)
    rw [PySem.W.krv_pick]
    refine ⟨.ref _, _, I5.laid (t' := s4.toks) (o := .lst xs.reverse) (fun b ob z => Heap.get?_push_of_some _ z) (Nat.le_refl _) ?_, rfl, q _ (I5.hok.fresh (Nat.le_refl _))⟩
    exact ⟨by rw [List.length_reverse]; exact hz, _, 0, r.reverse, Heap.get?_push_size _ rfl⟩
  · subst ex
    cases r1
    obtain ⟨its, r, ht, hz⟩ := I5.tuple hx
    have ln := r.length
    show wpAny (model X.prog X.w) X.A (subscriptTail e (.Slice none none (some (.UnaryOp .USub (.Constant (.int 1) k p1) p2)) p3) (.ref a) (.ref s4.heap.objs.size)) (EP X pins σ Q) X.xe _
    refine tail_any (ops := [.ref a, .ref s4.heap.objs.size]) ht.typeIs (PyProof.Rows.slot_tuple_getitem.lookup) ?_ (by with_unfolding_all rfl)
    refine back_tuple ht (Heap.IsSliceOf.new _ vl vu vs) pl pu ps ?_ (by rw [List.size_toArray]; omega)
    refine ⟨.ref _, _, I5.laid (t' := s4.toks) (o := .tup xs.reverse) (fun b ob z => Heap.get?_push_of_some _ z) (Nat.le_refl _) ?_, rfl, q _ (I5.hok.fresh (Nat.le_refl _))⟩
    exact ⟨by rw [List.length_reverse]; exact hz, _, r.reverse, IsTup.new _ _⟩
end
end Wh


set_option Elab.async false
set_option linter.all false
set_option maxRecDepth 100000
set_option maxHeartbeats 1000000
namespace Wh
open PySem PySem.Spec PyProof.Rows L2
section
variable {X : Cx} {pins : List (Addr × Obj)} {σ : L2.St} {H : Hp} {s : Shared}

theorem RDs.allP {K : PySem.W.Frag} {CA : Str → Addr} {H : Hp} : ∀ {ds : List D} {vs : List V} {F : List Addr} {xs : List PyData}, RDs K CA H ds vs F → Wh.allP ds = some xs → F = [] ∧ RpAll K H vs xs
  | _, _, _, xs, .nil, e => by
    unfold Wh.allP at e
    cases e
    exact ⟨rfl, .nil⟩
  | _, _, _, xs, .cons (d := d) h r, e => by
    cases h with
    | p q =>
      simp only [Wh.allP, Option.map_eq_some_iff] at e
      obtain ⟨ys, e, rfl⟩ := e
      obtain ⟨z, r'⟩ := RDs.allP r e
      subst z
      exact ⟨rfl, .cons q r'⟩
    | _ => simp [Wh.allP] at e
theorem allP_toPs : ∀ {ds : List D} {xs : List PyData}, allP ds = some xs → toPs ds = some xs
  | [], xs, e => by cases e; rfl
  | .p x :: r, xs, e => by
    simp only [allP, Option.map_eq_some_iff] at e
    obtain ⟨ys, e, rfl⟩ := e
    simp [toPs, D.toP, allP_toPs e]
  | .lst _ :: _, _, e => by cases e
  | .tup _ :: _, _, e => by cases e
  | .dic _ :: _, _, e => by cases e
  | .obj _ _ :: _, _, e => by cases e
/-- a sequence of data: where it lies, its items -/
theorem RD.ps {K : PySem.W.Frag} {CA : Str → Addr} {H : Hp} {d : D} {v : V} {F : List Addr} {xs : List PyData} (r : RD K CA H d v F) (h : d.ps? = some xs) :
    ∃ a vs, v = .ref a ∧ RpAll K H vs xs ∧ (LsR K H a vs ∨ SqT K H a vs) := by
  cases r with
  | p q =>
    cases q with
    | lst f q => cases h; exact ⟨_, _, rfl, q, .inl (.inr f)⟩
    | tup f q => cases h; exact ⟨_, _, rfl, q, .inr f⟩
    | _ => cases h
  | lst f q => exact ⟨_, _, rfl, (q.allP h).2, .inl (.inl f)⟩
  | _ => cases h

/-! ### in -/
open Classical in
noncomputable def eqOf (s : Shared) (x : PyData) (y : Value) : Bool := decide (∃ d as, Reads s.heap y d as ∧ eqS 50 d x = some true)
open Classical in
theorem inL_any {x : PyData} : ∀ {us : List Value} {xs : List PyData} {as : List Addr} {b : Bool}, ReadsAll s.heap us xs as → inL (fun y => eqS 50 y x) xs = some b →
    (∀ u ∈ us, ∃ d as, Reads s.heap u d as ∧ eqS 50 d x = some (eqOf s x u)) ∧ us.any (eqOf s x) = b
  | _, _, _, b, .nil, h => by cases h; exact ⟨fun u h => (nomatch h), rfl⟩
  | _, _, _, b, .cons (v := u) (d := d) (as := as) r1 r2, h => by
    simp only [inL, Option.bind_eq_some_iff, Option.map_eq_some_iff] at h
    obtain ⟨c, hc, e, he, rfl⟩ := h
    obtain ⟨k1, k2⟩ := inL_any r2 he
    have q : eqOf s x u = c := by
      unfold eqOf
      cases c with
      | true => exact decide_eq_true ⟨d, as, r1, hc⟩
      | false =>
        refine decide_eq_false ?_
        rintro ⟨d', as', r', h'⟩
        rw [reads_inj _ (Nat.le_refl _) r' r1, hc] at h'
        cases h'
    refine ⟨fun u' hu => ?_, by rw [List.any_cons, q, k2]⟩
    rcases List.mem_cons.mp hu with rfl | hu
    · exact ⟨d, as, r1, by rw [q]; exact hc⟩
    · exact k1 u' hu
theorem in_core (I : Inv X pins σ H s) (hu : X.A.units + 60 < cLine) {x : PyData} {v : V} {u : Value} {a : Addr} {vs : List V} {xs : List PyData} {b : Bool} (rx : Rp X.K H v x) (ru : RelV v u) (ra : RpAll X.K H vs xs) (hl : LsR X.K H a vs ∨ SqT X.K H a vs) (h : inSeq x xs = some b)
    {Q : Value → Shared → Prop} {E : Value → Shared → Prop} : (Q (.bool b) s → wpAny (model X.prog X.w) X.A (compareOp .In u (.ref a)) Q E s) ∧ (Q (.bool (!b)) s → wpAny (model X.prog X.w) X.A (compareOp .NotIn u (.ref a)) Q E s) := by
  obtain ⟨ax, qx⟩ := Rp.reads I _ _ _ rx ru
  have hu1 : X.A.in1.units + 50 < cLine := by show X.A.units + 1 + 50 < cLine; omega
  rcases hl with hl | hl
  · obtain ⟨_, its, n, rv, _, e⟩ := lsX I hl
    obtain ⟨as, rr⟩ := RpAll.reads I xs vs its ra rv
    obtain ⟨k1, k2⟩ := inL_any rr h
    have he : ∀ y, y ∈ its.toArray → SeqAt.EqAt X.A.in1 s y u (eqOf s x y) := fun y hy => by
      obtain ⟨d, bs, r, q⟩ := k1 y (by simpa using hy)
      exact ea_eqS 50 hu1 r qx q
    have k2' : its.toArray.any (eqOf s x) = b := by rw [← k2]; simp
    exact ⟨fun q => SeqAt.in_listAt (eqOf s x) ⟨_, e, rfl, _, rfl⟩ he (by rw [k2']; exact q), fun q => SeqAt.notIn_listAt (eqOf s x) ⟨_, e, rfl, _, rfl⟩ he (by rw [k2']; exact q)⟩
  · obtain ⟨its, rv, p, _⟩ := I.tuple hl
    obtain ⟨as, rr⟩ := RpAll.reads I xs vs its ra rv
    obtain ⟨k1, k2⟩ := inL_any rr h
    have he : ∀ y, y ∈ its.toArray → SeqAt.EqAt X.A.in1 s y u (eqOf s x y) := fun y hy => by
      obtain ⟨d, bs, r, q⟩ := k1 y (by simpa using hy)
      exact ea_eqS 50 hu1 r qx q
    have k2' : its.toArray.any (eqOf s x) = b := by rw [← k2]; simp
    exact ⟨fun q => SeqAt.in_tupleAt (eqOf s x) p he (by rw [k2']; exact q), fun q => SeqAt.notIn_tupleAt (eqOf s x) p he (by rw [k2']; exact q)⟩
def rInX (K : PySem.W.Frag) (neg : Bool) : R2 := fun v w H Q => ∃ CA x d G xs b, Rp K H v x ∧ RD K CA H d w G ∧ d.ps? = some xs ∧ inSeq x xs = some b ∧ Q (.bl (if neg then !b else b)) H
theorem op_inX (hu : X.A.units + 60 < cLine) : OpR X (compareOp .In) (rInX X.K false) := by
  intro pins s σ H x y v u Q I rx ry h
  obtain ⟨CA, x, d, G, xs, b, r1, r2, e, h, q⟩ := h
  obtain ⟨a, vs, rfl, ra, hl⟩ := r2.ps e
  cases ry
  exact (in_core I hu r1 rx ra hl h).1 ⟨.bl b, H, I, rfl, q⟩
theorem op_notinX (hu : X.A.units + 60 < cLine) : OpR X (compareOp .NotIn) (rInX X.K true) := by
  intro pins s σ H x y v u Q I rx ry h
  obtain ⟨CA, x, d, G, xs, b, r1, r2, e, h, q⟩ := h
  obtain ⟨a, vs, rfl, ra, hl⟩ := r2.ps e
  cases ry
  exact (in_core I hu r1 rx ra hl h).2 ⟨.bl (!b), H, I, rfl, q⟩

/-! ### list + list, extend, repr -/
def rCatX (K : PySem.W.Frag) : R2 := fun x y H Q => ∃ l b xs zs, x = .ref l ∧ y = .ref b ∧ LsR K H l xs ∧ LsR K H b zs ∧ xs.length + zs.length ≤ sizeLine ∧ ∀ p, H p = none → Q (.ref p) (upd H p (.lst (xs ++ zs)))
theorem op_catX : OpR X (binaryOp .Add) (rCatX X.K) := by
  intro pins s σ H x y v u Q I rx ry h
  obtain ⟨l, b, xs, zs, rfl, rfl, hH, hB, hz, q⟩ := h
  cases rx
  cases ry
  obtain ⟨z, its, n, r, hl, e⟩ := lsX I hH
  obtain ⟨z2, its2, n2, r2, hl2, e2⟩ := lsX I hB
  refine PySem.P.add_list e e2 ?_ (by rw [List.size_toArray, List.size_toArray]; omega)
  rw [show its.toArray ++ its2.toArray = (its ++ its2).toArray by simp]
  exact ⟨.ref _, _, I.lnew (t' := s.toks) (r.append r2) (by rw [List.length_append]; omega), rfl, q _ I.fresh⟩
theorem ext_tup (l : Addr) (items : Array Value) (n : Nat) (b : Addr) (items2 : Array Value) (n2 : Nat) (dd : Option Addr) (sl : Array (Option Value)) (hs0 : ¬(!items.isEmpty && Builtin.List.listTooLong (items.size + items2.size)) = true) (hs1 : items.size ≤ sizeLine) (hs2 : items.size + items2.size ≤ sizeLine + 1) :
    Meets (Builtin.«list.extend» ⟨[.ref l, .ref b], []⟩) (fun _ R s => s.heap.get? l = some { cls := .type "list", data := .seq items n } ∧ s.heap.get? b = some { cls := .type "tuple", dict := dd, data := .seq items2 n2, slots := sl } ∧ R (.ok (.ret Value.none)) { s with heap := s.heap.update l (Obj.mapSeq fun x => x ++ items2), toks := s.toks }) :=
  .of_wp fun prog w A R s h => by
    obtain ⟨hp, g, d, tk, os⟩ := s
    obtain ⟨hl, hb, h⟩ := h
    have f2 := AutoSeq1.sub_tuple_tuple
    have f3 := AutoSeq1.sub_list_list
    have f4 := AutoSeq1.sub_tuple_list
    have f5 := AutoSeq1.sub_list_tuple
    have hz' : (items ++ items2).size ≤ sizeLine + 1 := by rw [Array.size_append]; exact hs2
    wp_walk using (wpAny_updateSeq hl rfl (hz := hs1) (_hz' := hz')), wpAny_loadPart' hl, wpAny_loadPart' hb
    exact ⟨_, rfl, h⟩
def rExtX (K : PySem.W.Frag) : V → List V → Hp → VK → Prop := fun x vs H Q => ∃ l b xs zs, x = .ref l ∧ vs = [.ref b] ∧ H l = some (.lst xs) ∧ (LsR K H b zs ∨ SqT K H b zs) ∧ xs.length + zs.length ≤ sizeLine ∧ Q .non (upd H l (.lst (xs ++ zs)))
theorem mt_extX : MtM X "list.extend" (rExtX X.K) := by
  intro pins s σ H x vs v us Q I rx rv h
  obtain ⟨l, b, xs, zs, rfl, rfl, hH, hB, hz, q⟩ := h
  cases rx
  obtain ⟨u, rfl, ru⟩ := rv.one
  cases ru
  obtain ⟨z, its, n, r, hl, e⟩ := I.lstM hH
  rcases hB with hB | hB
  · obtain ⟨z2, its2, n2, r2, hl2, e2⟩ := lsX I hB
    have hsz : its.toArray.size + its2.toArray.size ≤ sizeLine := by rw [List.size_toArray, List.size_toArray]; omega
    refine call_meets F.slot_list_extend ⟨_, e, rfl⟩ F.entry_list_extend (F.args_list_extend_2 _ _)
      (AutoSeq1.list_extend_list_list_0 l its.toArray n b its2.toArray n2 (by rw [notLongL hsz, Bool.and_false]; exact Bool.false_ne_true) (by rw [List.size_toArray]; omega) (by omega)) ⟨e, e2, ?_⟩
    refine ⟨.non, _, I.lset (its' := its ++ its2) hH e (by simp) (r.append r2) ?_, rfl, q⟩
    rw [List.length_append]
    omega
  · obtain ⟨its2, r2, ⟨⟨cls, dd, data, sl⟩, ho, hc, n2, hd⟩, z2⟩ := I.tuple hB
    have hl2 := r2.length
    simp only at hc hd
    subst hc hd
    have hsz : its.toArray.size + its2.toArray.size ≤ sizeLine := by rw [List.size_toArray, List.size_toArray]; omega
    refine call_meets F.slot_list_extend ⟨_, e, rfl⟩ F.entry_list_extend (F.args_list_extend_2 _ _)
      (ext_tup l its.toArray n b its2.toArray n2 dd sl (by rw [notLongL hsz, Bool.and_false]; exact Bool.false_ne_true) (by rw [List.size_toArray]; omega) (by omega)) ⟨e, ho, ?_⟩
    refine ⟨.non, _, I.lset (its' := its ++ its2) hH e (by simp) (r.append r2) ?_, rfl, q⟩
    rw [List.length_append]
    omega

def rRepr (K : PySem.W.Frag) : List V → Hp → VK → Prop := fun xs H Q => ∃ CA d v G x, xs = [v] ∧ RD K CA H d v G ∧ d.toP = some x ∧ x.showable = true ∧ x.depth ≤ 100 ∧ x.shown.length ≤ sizeLine ∧ Q (.str x.shown) H
theorem call_reprX (hg : X.A.guards = some []) (hu : X.A.units + 110 < cLine) : CallR X (.builtin "repr") (rRepr X.K) := by
  intro pins s σ H xs us Q I r h
  obtain ⟨CA, d, v, G, x, rfl, rd, e, hs, hdp, hz, q⟩ := h
  obtain ⟨u, rfl, ru⟩ := vals1 r
  have rr := rd.rn I x u e ru
  cases rr with
  | none => exact PySem.P.repr_of_none ⟨.str _, H, I.tok _, ⟨_, rfl⟩, q⟩
  | bool b => exact PySem.P.repr_of_bool ⟨.str _, H, I.tok _, ⟨_, rfl⟩, q⟩
  | int i t => exact PySem.P.repr_of_int (by simpa [PyData.showable] using hs) ⟨.str _, H, I.tok _, ⟨_, rfl⟩, q⟩
  | str y t => exact PySem.P.repr_of_str ⟨.str _, H, I.tok _, ⟨_, rfl⟩, q⟩ hz
  | list h1 h2 h3 h4 => exact repr_rn (.list h1 h2 h3 h4) hs hz hg (by omega) (fun h' u tk hk => ⟨.str _, H, I.kept hk, ⟨_, rfl⟩, q⟩)
  | tuple h1 h2 h3 h4 => exact repr_rn (.tuple h1 h2 h3 h4) hs hz hg (by omega) (fun h' u tk hk => ⟨.str _, H, I.kept hk, ⟨_, rfl⟩, q⟩)
  | dict h0 h1 h2 h3 h4 h5 => exact repr_rn (.dict h0 h1 h2 h3 h4 h5) hs hz hg (by omega) (fun h' u tk hk => ⟨.str _, H, I.kept hk, ⟨_, rfl⟩, q⟩)

/-! ### tuple * int -/
theorem tup_mul1 (l : Addr) (items : Array Value) (n : Nat) (dd : Option Addr) (sl : Array (Option Value)) (x : Int) (u : Tok) (c0 : (decide (x < -(2 ^ 63)) || decide (x ≥ 2 ^ 63)) = false) (c1 : (items.isEmpty || x == 1) = true) :
    Meets (Builtin.«tuple.__mul__» ⟨[.ref l, .int x u], []⟩) (fun _ R s => s.heap.get? l = some { cls := .type "tuple", dict := dd, data := .seq items n, slots := sl } ∧ R (.ok (.ret (Value.ref l))) s) :=
  .of_wp fun prog w A R s h => by
    obtain ⟨hp, g, d, tk, os⟩ := s
    obtain ⟨hl, h⟩ := h
    have f1 := AutoSeq1.idx_int
    wp_walk using wpAny_loadPart' hl
    refine wpAny_ite_false (decide_eq_false (by rw [c0]; exact Bool.false_ne_true)) ?_
    wp_walk using wpAny_loadPart' hl
    exact ⟨_, rfl, h⟩
theorem tup_mul0 (l : Addr) (items : Array Value) (n : Nat) (dd : Option Addr) (sl : Array (Option Value)) (x : Int) (u : Tok) (c0 : (decide (x < -(2 ^ 63)) || decide (x ≥ 2 ^ 63)) = false) (c1 : (items.isEmpty || x == 1) = false) (c2 : (decide (x ≤ 0) || items.isEmpty) = true) :
    Meets (Builtin.«tuple.__mul__» ⟨[.ref l, .int x u], []⟩) (fun _ R s => s.heap.get? l = some { cls := .type "tuple", dict := dd, data := .seq items n, slots := sl } ∧
      R (.ok (.ret (Value.ref s.heap.objs.size))) { s with heap := s.heap.push { cls := Value.type "tuple", data := Data.seq #[] }, toks := s.toks }) :=
  .of_wp fun prog w A R s h => by
    obtain ⟨hp, g, d, tk, os⟩ := s
    obtain ⟨hl, h⟩ := h
    have f1 := AutoSeq1.idx_int
    wp_walk using wpAny_loadPart' hl
    refine wpAny_ite_false (decide_eq_false (by rw [c0]; exact Bool.false_ne_true)) ?_
    wp_walk using wpAny_loadPart' hl
    exact ⟨_, rfl, h⟩
end
end Wh


set_option Elab.async false
set_option linter.all false
set_option maxRecDepth 100000
set_option maxHeartbeats 1000000
/-! Expressions: what is evaluated by values is what the machine does. -/
namespace Wh
open PySem PySem.Spec PyProof.Rows L2

def tE (K : PySem.W.Frag) (CA : Str → Addr) (c : Cfg) (e : E) : TE := fun σ H Q => ∃ lk ε F d ε', Rel K CA H ε σ F ∧ ev c lk e ε = some (d, ε') ∧
  ∀ v H' F' T, Rel K CA H' ε' σ F' → Po lk H F H' F' T → Vr K CA H' σ e d v F' T → Q v H'
def tT (K : PySem.W.Frag) (CA : Str → Addr) (c : Cfg) (e : E) : TT := fun σ H Q => ∃ lk ε F b ε', Rel K CA H ε σ F ∧ ev c lk e ε = some (.p (.bool b), ε') ∧
  ∀ H' F', Rel K CA H' ε' σ F' → Po lk H F H' F' [] → Q b H'
inductive Vrs (K : PySem.W.Frag) (CA : Str → Addr) (H : Hp) (σ : L2.St) (F : Fo) : List E → List D → List V → List (List Addr) → Prop
  | nil : Vrs K CA H σ F [] [] [] []
  | cons {e : E} {d : D} {v : V} {T : List Addr} {es : List E} {ds : List D} {vs : List V} {Ts : List (List Addr)} : Vr K CA H σ e d v F T → Vrs K CA H σ F es ds vs Ts → Vrs K CA H σ F (e :: es) (d :: ds) (v :: vs) (T :: Ts)
def tA (K : PySem.W.Frag) (CA : Str → Addr) (c : Cfg) (es : List E) : TA := fun σ H Q => ∃ lk ε F ds ε', Rel K CA H ε σ F ∧ evs c lk es ε = some (ds, ε') ∧
  ∀ vs H' F' Ts, Rel K CA H' ε' σ F' → Po lk H F H' F' Ts.flatten → Vrs K CA H' σ F' es ds vs Ts → Q vs H'
/-- what an operation makes: a new tree, all else as it was -/
def Al (K : PySem.W.Frag) (CA : Str → Addr) (H : Hp) (z : D) (Q : VK) : Prop := ∀ v H' T, Same H H' → T.Nodup → (∀ a ∈ T, H a = none) → RD K CA H' z v T → Q v H'

section
variable {X : Cx} {CA : Str → Addr} {c : Cfg} {K : PySem.W.Frag} {H : Hp} {Q : VK}
theorem Al.p {x : PyData} {v : V} (h : Al K CA H (.p x) Q) (r : Rp K H v x) : Q v H := h v H [] (Same.refl H) List.nodup_nil (fun _ h => nomatch h) (.p r)
theorem same_upd {p : Addr} {o : HO} (h : H p = none) : Same H (upd H p o) := fun b u q => by rw [upd_ne (ne_of_none q h)]; exact q
theorem RpAll.rds {vs : List V} : ∀ {xs : List PyData}, RpAll K H vs xs → RDs K CA H (xs.map .p) vs [] := by
  induction vs with
  | nil => intro xs r; cases r; exact .nil
  | cons v vs ih =>
    intro xs r
    cases r with
    | cons h r => exact .cons (F := []) (G := []) (.p h) (ih r)
theorem Al.list {vs : List V} {xs : List PyData} (h : Al K CA H (.lst (xs.map .p)) Q) (r : RpAll K H vs xs) : ∀ p, H p = none → Q (.ref p) (upd H p (.lst vs)) := fun p hp =>
  h _ _ [p] (same_upd hp) (by simp) (fun a ha => by rw [List.mem_singleton.mp ha]; exact hp) (.lst upd_same (r.im (Same.imK (same_upd hp))).rds)
theorem Al.tuple {vs : List V} {xs : List PyData} (h : Al K CA H (.p (.tuple xs)) Q) (r : RpAll K H vs xs) : ∀ p, H p = none → Q (.ref p) (upd H p (.tup vs)) := fun p hp =>
  h _ _ [] (same_upd hp) List.nodup_nil (fun _ h => nomatch h) (.p (.tup (SqT.of upd_same) (r.im (Same.imK (same_upd hp)))))
theorem RpAll.append {vs ws : List V} {xs ys : List PyData} (a : RpAll K H vs xs) (b : RpAll K H ws ys) : RpAll K H (vs ++ ws) (xs ++ ys) := by
  induction vs generalizing xs with
  | nil => cases a; exact b
  | cons v vs ih => cases a with | cons h r => exact .cons h (ih r)
theorem RpAll.get {vs : List V} {xs : List PyData} (a : RpAll K H vs xs) : ∀ {i : Nat} {x : PyData}, xs[i]? = some x → ∃ v, vs[i]? = some v ∧ Rp K H v x := by
  induction vs generalizing xs with
  | nil => intro i x e; cases a; simp at e
  | cons v vs ih =>
    intro i x e
    cases a with
    | cons h r =>
      cases i with
      | zero => simp at e; subst e; exact ⟨v, rfl, h⟩
      | succ i => simpa using ih r (by simpa using e)
theorem RDs.get {ds : List D} {vs : List V} {F : List Addr} (a : RDs K CA H ds vs F) : ∀ {i : Nat} {d : D}, ds[i]? = some d → ∃ v F1 G F2, vs[i]? = some v ∧ RD K CA H d v G ∧ F = F1 ++ G ++ F2 := by
  induction ds generalizing vs F with
  | nil => intro i x e; cases a; simp at e
  | cons d ds ih =>
    intro i x e
    cases a with
    | @cons _ _ G0 _ _ G1 h r =>
      cases i with
      | zero => simp at e; subst e; exact ⟨_, [], G0, G1, rfl, h, by simp⟩
      | succ i =>
        obtain ⟨v, F1, G, F2, e1, q, ef⟩ := ih r (by simpa using e)
        exact ⟨v, G0 ++ F1, G, F2, by simpa using e1, q, by rw [ef]; simp⟩
theorem allP_map : ∀ {ds : List D}, ds.all D.isP = true → ∃ xs, allP ds = some xs ∧ ds = xs.map .p
  | [], _ => ⟨[], rfl, rfl⟩
  | .p x :: r, h => by
    obtain ⟨xs, e, q⟩ := allP_map (ds := r) (by simpa [D.isP] using h)
    exact ⟨x :: xs, by simp [allP, e], by rw [q]; rfl⟩
  | .lst _ :: _, h => by simp [D.isP] at h
  | .tup _ :: _, h => by simp [D.isP] at h
  | .dic _ :: _, h => by simp [D.isP] at h
  | .obj _ _ :: _, h => by simp [D.isP] at h

/-! ### + - * .. -/
def rAddX (K : PySem.W.Frag) : R2 := fun x y H Q => (rI0 fun i j => V.int (i + j)) x y H Q ∨ (∃ i j, x = .str i ∧ y = .str j ∧ i.length + j.length ≤ sizeLine ∧ Q (.str (i ++ j)) H) ∨ rCatA K x y H Q ∨ rCatX K x y H Q
theorem op_addX : OpR X (binaryOp .Add) (rAddX X.K) := op_add.or (op_add_str.or (op_catA.or op_catX))
theorem add_ok {x y z : D} {v w : V} {G G2 : List Addr} (h : binop .add x y = some z) (r1 : RD K CA H x v G) (r2 : RD K CA H y w G2) (q : Al K CA H z Q) : rAddX K v w H Q := by
  have lists : ∀ (xs ys : List PyData) (l b : Addr) (vs ws : List V), v = .ref l → w = .ref b → LsR K H l vs → LsR K H b ws → RpAll K H vs xs → RpAll K H ws ys → xs.length + ys.length ≤ sizeLine → Al K CA H (.lst ((xs ++ ys).map .p)) Q → rAddX K v w H Q :=
    fun xs ys l b vs ws e1 e2 h1 h2 p1 p2 hz q => by
      have l1 := p1.length
      have l2 := p2.length
      exact .inr (.inr (.inr ⟨l, b, vs, ws, e1, e2, h1, h2, by omega, q.list (p1.append p2)⟩))
  cases r1 with
  | p r1 =>
    cases r2 with
    | p r2 =>
      cases r1 with
      | int i =>
        cases r2 with
        | int j => cases h; exact .inl ⟨i, j, rfl, rfl, q.p (.int _)⟩
        | _ => cases h
      | str i =>
        cases r2 with
        | str j =>
          simp only [binop, strCat] at h
          split at h
          · rename_i hz
            cases h
            exact .inr (.inl ⟨i, j, rfl, rfl, hz, q.p (.str _)⟩)
          · cases h
        | _ => cases h
      | @tup a vs xs hs p1 =>
        cases r2 with
        | @tup b ws ys hs2 p2 =>
          simp only [binop] at h
          split at h
          · rename_i hz
            cases h
            have l1 := p1.length
            have l2 := p2.length
            refine .inr (.inr (.inl ⟨a, b, vs, ws, rfl, rfl, hs, hs2, by omega, fun e => ?_, fun e e2 => ?_, fun e e2 => q.tuple (p1.append p2)⟩))
            · subst e
              cases p1
              exact q.p (.tup hs2 p2)
            · subst e2
              cases p2
              rw [List.append_nil] at q
              exact q.p (.tup hs p1)
          · cases h
        | _ => cases h
      | @lst a vs xs hs p1 =>
        cases r2 with
        | @lst b ws ys hs2 p2 =>
          simp only [binop] at h
          split at h
          · rename_i hz
            cases h
            exact lists xs ys a b vs ws rfl rfl (.inr hs) (.inr hs2) p1 p2 hz (by rw [List.map_append]; exact q)
          · cases h
        | _ => cases h
      | _ => cases r2 <;> cases h
    | @lst b ws es F2 h2 q2 =>
      cases r1 with
      | @lst a vs xs hs p1 =>
        simp only [binop] at h
        split at h
        · rename_i hz
          split at h
          · rename_i hp
            cases h
            obtain ⟨ys, e, eq⟩ := allP_map hp
            subst eq
            exact lists xs ys a b vs ws rfl rfl (.inr hs) (.inl h2) p1 (q2.allP e).2 (by simpa using hz) (by rw [List.map_append]; exact q)
          · cases h
        · cases h
      | _ => cases h
    | _ => cases r1 <;> cases h
  | @lst a vs ds F1 h1 q1 =>
    cases r2 with
    | p r2 =>
      cases r2 with
      | @lst b ws ys hs2 p2 =>
        simp only [binop] at h
        split at h
        · rename_i hz
          split at h
          · rename_i hp
            cases h
            obtain ⟨xs, e, eq⟩ := allP_map hp
            subst eq
            exact lists xs ys a b vs ws rfl rfl (.inl h1) (.inr hs2) (q1.allP e).2 p2 (by simpa using hz) (by rw [List.map_append]; exact q)
          · cases h
        · cases h
      | _ => cases h
    | @lst b ws es F2 h2 q2 =>
      simp only [binop] at h
      split at h
      · rename_i hz
        split at h
        · rename_i hp
          cases h
          rw [Bool.and_eq_true] at hp
          obtain ⟨xs, e, eq⟩ := allP_map hp.1
          obtain ⟨ys, e2, eq2⟩ := allP_map hp.2
          subst eq eq2
          exact lists xs ys a b vs ws rfl rfl (.inl h1) (.inl h2) (q1.allP e).2 (q2.allP e2).2 (by simpa using hz) (by rw [List.map_append]; exact q)
        · cases h
      · cases h
    | _ => cases h
  | _ => cases r2 <;> cases h

def rIntX (op : BOp) : R2 := fun x y H Q => ∃ i j z, x = .int i ∧ y = .int j ∧ binop op (.p (.int i)) (.p (.int j)) = some (.p (.int z)) ∧ Q (.int z) H
theorem op_subX : OpR X (binaryOp .Sub) (rIntX .sub) := by
  intro pins s σ H x y v u Q I rx ry ⟨i, j, z, e1, e2, h, q⟩
  cases h
  exact op_sub pins s σ H x y v u Q I rx ry ⟨i, j, e1, e2, q⟩
theorem op_modX : OpR X (binaryOp .Mod) (rIntX .mod) := by
  intro pins s σ H x y v u Q I rx ry ⟨i, j, z, e1, e2, h, q⟩
  simp only [binop] at h
  split at h
  · rename_i hj
    cases h
    exact op_mod pins s σ H x y v u Q I rx ry ⟨i, j, e1, e2, hj, q⟩
  · cases h
theorem op_fdivX : OpR X (binaryOp .FloorDiv) (rIntX .fdiv) := by
  intro pins s σ H x y v u Q I rx ry ⟨i, j, z, e1, e2, h, q⟩
  simp only [binop] at h
  split at h
  · rename_i hj
    cases h
    exact op_fdiv pins s σ H x y v u Q I rx ry ⟨i, j, e1, e2, hj, q⟩
  · cases h
theorem op_powX : OpR X (binaryOp .Pow) (rIntX .pow) := by
  intro pins s σ H x y v u Q I rx ry ⟨i, j, z, e1, e2, h, q⟩
  simp only [binop] at h
  split at h
  · rename_i hj
    cases h
    exact op_pow pins s σ H x y v u Q I rx ry ⟨i, j, e1, e2, hj, q⟩
  · cases h
theorem op_mulI : OpR X (binaryOp .Mult) (rIntX .mul) := by
  intro pins s σ H x y v u Q I rx ry ⟨i, j, z, e1, e2, h, q⟩
  simp only [binop] at h
  split at h
  · rename_i hj
    cases h
    exact op_mul pins s σ H x y v u Q I rx ry ⟨i, j, e1, e2, hj.elim (fun h => .inl (by omega)) (fun h => .inr (by omega)), q⟩
  · cases h
theorem int_ok {o : BOp} {x y z : D} {v w : V} {G G2 : List Addr} (h : binop o x y = some z) (ho : o = .sub ∨ o = .mod ∨ o = .fdiv ∨ o = .pow) (r1 : RD K CA H x v G) (r2 : RD K CA H y w G2) (q : Al K CA H z Q) : rIntX o v w H Q := by
  have key : ∃ i j k, x = .p (.int i) ∧ y = .p (.int j) ∧ z = .p (.int k) := by
    rcases ho with rfl | rfl | rfl | rfl
    · unfold binop at h
      split at h <;> first | (cases h; done) | skip
      all_goals first | (rename_i i j _; cases h; exact ⟨_, _, _, rfl, rfl, rfl⟩) | (simp_all; done) | skip
      all_goals (cases h; exact ⟨_, _, _, rfl, rfl, rfl⟩)
    · unfold binop at h
      split at h <;> first | (cases h; done) | (simp_all; done) | skip
      all_goals (split at h <;> first | (cases h; exact ⟨_, _, _, rfl, rfl, rfl⟩) | (cases h; done))
    · unfold binop at h
      split at h <;> first | (cases h; done) | (simp_all; done) | skip
      all_goals (split at h <;> first | (cases h; exact ⟨_, _, _, rfl, rfl, rfl⟩) | (cases h; done))
    · unfold binop at h
      split at h <;> first | (cases h; done) | (simp_all; done) | skip
      all_goals (split at h <;> first | (cases h; exact ⟨_, _, _, rfl, rfl, rfl⟩) | (cases h; done))
  obtain ⟨i, j, k, rfl, rfl, rfl⟩ := key
  cases r1 with
  | p r1 =>
    cases r2 with
    | p r2 =>
      cases r1
      cases r2
      exact ⟨i, j, k, rfl, rfl, h, q.p (.int _)⟩
end
end Wh


set_option Elab.async false
set_option linter.all false
set_option maxRecDepth 100000
set_option maxHeartbeats 1000000
namespace Wh
open PySem PySem.Spec PyProof.Rows L2
section
variable {X : Cx} {CA : Str → Addr} {c : Cfg} {K : PySem.W.Frag} {H : Hp} {Q : VK}

def rRepTX (K : PySem.W.Frag) : R2 := fun x y H Q => ∃ l k xs, x = .ref l ∧ y = .int k ∧ SqT K H l xs ∧ 0 ≤ k ∧ k ≤ 4000 ∧ xs.length ≤ 4000 ∧
  (xs = [] ∨ k = 1 → Q (.ref l) H) ∧ (xs ≠ [] → k ≠ 1 → ∀ p, H p = none → Q (.ref p) (upd H p (.tup (List.replicate k.toNat xs).flatten)))
theorem op_repTX : OpR X (binaryOp .Mult) (rRepTX X.K) := by
  intro pins s σ H x y v u Q I rx ry h
  obtain ⟨l, k, xs, rfl, rfl, hT, h1, h2, hz, q1, q2⟩ := h
  cases rx
  obtain ⟨t, rfl⟩ := ry
  obtain ⟨its, r, ⟨⟨cls, dd, data, sl⟩, ho, hc, n, hd⟩, hs⟩ := I.tuple hT
  simp only at hc hd
  subst hc hd
  have hle : its.length = xs.length := r.length.symm
  have c0 : (decide (k < -(2 ^ 63)) || decide (k ≥ 2 ^ 63)) = false := by
    rw [decide_eq_false (by omega), decide_eq_false (by omega)] <;> rfl
  have go : ∀ {R : Result → Shared → Prop} {φ : Around → (Result → Shared → Prop) → Shared → Prop}, Meets (Builtin.«tuple.__mul__» ⟨[.ref l, .int k t], []⟩) φ → True := fun _ => trivial
  by_cases hsame : xs = [] ∨ k = 1
  · have c1 : (its.toArray.isEmpty || k == 1) = true := by
      rcases hsame with e | e
      · have : its = [] := List.eq_nil_of_length_eq_zero (by rw [hle, e]; rfl)
        rw [this]; rfl
      · rw [e]; simp
    exact wpAny_binaryOp_repeat_ref (T := "tuple") (U := "int") (by decide) ⟨_, ho, rfl⟩ (fun s' => typeIs_int s' k t) noFill_tuple_mul F.fills_int_mul F.slot_int_rmul repeat_tuple F.slot_int_index.lookup
      (call_meets F.slot_int_rmul (typeIs_int s k t) F.entry_int_rmul (F.args_int_rmul_2 _ _) (int_rmul_tuple k t l its.toArray n dd sl)
        ⟨ho, rfl, ⟨_, ho, rfl⟩, call_meets F.slot_tuple_mul ⟨_, ho, rfl⟩ F.entry_tuple_mul (F.args_tuple_mul_2 _ _) (tup_mul1 l its.toArray n dd sl k t c0 c1) ⟨ho, ⟨.ref l, H, I, rfl, q1 hsame⟩⟩⟩)
  · rw [not_or] at hsame
    have q := q2 hsame.1 hsame.2
    have hi : its.toArray.isEmpty = false := by
      cases its with
      | nil => exact absurd (List.eq_nil_of_length_eq_zero (by simpa using hle.symm)) hsame.1
      | cons a b => rfl
    have c1 : (its.toArray.isEmpty || k == 1) = false := by
      rw [hi, Bool.false_or]
      exact beq_eq_false_iff_ne.mpr hsame.2
    have hsz0 : its.toArray.size = xs.length := by rw [List.size_toArray, hle]
    by_cases hk : k = 0
    · have c2 : (decide (k ≤ 0) || its.toArray.isEmpty) = true := by rw [decide_eq_true (by omega)]; rfl
      refine wpAny_binaryOp_repeat_ref (T := "tuple") (U := "int") (by decide) ⟨_, ho, rfl⟩ (fun s' => typeIs_int s' k t) noFill_tuple_mul F.fills_int_mul F.slot_int_rmul repeat_tuple F.slot_int_index.lookup
        (call_meets F.slot_int_rmul (typeIs_int s k t) F.entry_int_rmul (F.args_int_rmul_2 _ _) (int_rmul_tuple k t l its.toArray n dd sl)
          ⟨ho, rfl, ⟨_, ho, rfl⟩, call_meets F.slot_tuple_mul ⟨_, ho, rfl⟩ F.entry_tuple_mul (F.args_tuple_mul_2 _ _) (tup_mul0 l its.toArray n dd sl k t c0 c1 c2) ⟨ho, ?_⟩⟩)
      have e0 : (List.replicate k.toNat xs).flatten = [] := by rw [hk]; rfl
      rw [e0] at q
      refine ⟨.ref s.heap.objs.size, _, I.laid (t' := s.toks) (o := .tup []) (fun b ob q => Heap.get?_push_of_some _ q) (Nat.le_refl _) ?_, rfl, q _ (I.hok.fresh (Nat.le_refl _))⟩
      exact ⟨Nat.zero_le _, [], .nil, IsTup.new _ _⟩
    · have c2 : (decide (k ≤ 0) || its.toArray.isEmpty) = false := by
        rw [hi, Bool.or_false]
        exact decide_eq_false (by omega)
      have hm0 : xs.length * k.toNat ≤ 4000 * 4000 := Nat.mul_le_mul hz (by omega)
      have hm : ((its.toArray.size : Nat) : Int) * k ≤ 16000000 := by
        rw [hsz0]
        have e1 : ((xs.length : Nat) : Int) * k = ((xs.length * k.toNat : Nat) : Int) := by rw [Int.natCast_mul, Int.toNat_of_nonneg h1]
        rw [e1]; omega
      have flen : (List.replicate k.toNat its).flatten.length ≤ sizeLine := by
        rw [PyProof.Rows.lm_len_rep_flat, hle, sizeLine_eq, Nat.mul_comm]
        omega
      have c4 : Builtin.Tuple.tupleTooMany (((its.toArray.size : Nat) : Int) * k) = false := by
        unfold Builtin.Tuple.tupleTooMany
        rw [sizeLine_eq]
        exact decide_eq_false (by omega)
      refine wpAny_binaryOp_repeat_ref (T := "tuple") (U := "int") (by decide) ⟨_, ho, rfl⟩ (fun s' => typeIs_int s' k t) noFill_tuple_mul F.fills_int_mul F.slot_int_rmul repeat_tuple F.slot_int_index.lookup
        (call_meets F.slot_int_rmul (typeIs_int s k t) F.entry_int_rmul (F.args_int_rmul_2 _ _) (int_rmul_tuple k t l its.toArray n dd sl)
          ⟨ho, rfl, ⟨_, ho, rfl⟩, call_meets F.slot_tuple_mul ⟨_, ho, rfl⟩ F.entry_tuple_mul (F.args_tuple_mul_2 _ _) (tuple_mulW l its.toArray n dd sl k t c0 c1 c2 (by omega) c4 (by rw [size_rep, List.size_toArray]; exact flen)) ⟨ho, ?_⟩⟩)
      rw [size_rep]
      refine ⟨.ref s.heap.objs.size, _, I.laid (t' := s.toks) (o := .tup (List.replicate k.toNat xs).flatten) (fun b ob q => Heap.get?_push_of_some _ q) (Nat.le_refl _) ?_, rfl, q _ (I.hok.fresh (Nat.le_refl _))⟩
      exact ⟨by rw [PyProof.Rows.lm_len_rep_flat, sizeLine_eq, Nat.mul_comm]; omega, _, r.rep k.toNat, IsTup.new _ _⟩

theorem RpAll.rep {vs : List V} {xs : List PyData} (a : RpAll K H vs xs) : ∀ k : Nat, RpAll K H (List.replicate k vs).flatten (List.replicate k xs).flatten
  | 0 => .nil
  | k + 1 => by rw [List.replicate_succ, List.replicate_succ, List.flatten_cons, List.flatten_cons]; exact a.append (RpAll.rep a k)
def rMulX (K : PySem.W.Frag) : R2 := fun x y H Q => rIntX .mul x y H Q ∨ rRep x y H Q ∨ rRepTX K x y H Q
theorem op_mulX : OpR X (binaryOp .Mult) (rMulX X.K) := op_mulI.or (op_rep.or op_repTX)
theorem mul_ok {x y z : D} {v w : V} {G G2 : List Addr} (h : binop .mul x y = some z) (r1 : RD K CA H x v G) (r2 : RD K CA H y w G2) (q : Al K CA H z Q) : rMulX K v w H Q := by
  cases r2 with
  | p r2 =>
    cases r2 with
    | int k =>
      cases r1 with
      | p r1 =>
        cases r1 with
        | int i =>
          simp only [binop] at h
          split at h
          · rename_i hz
            cases h
            exact .inl ⟨i, k, i * k, rfl, rfl, by simp only [binop]; rw [if_pos hz], q.p (.int _)⟩
          · cases h
        | @tup a vs xs hs p1 =>
          simp only [binop] at h
          split at h
          · rename_i hz
            cases h
            have l1 := p1.length
            refine .inr (.inr ⟨a, k, vs, rfl, rfl, hs, hz.2.1, hz.2.2, by omega, fun e => ?_, fun _ _ => q.tuple (p1.rep k.toNat)⟩)
            have e' : (List.replicate k.toNat xs).flatten = xs := by
              rcases e with e | e
              · have : xs = [] := List.eq_nil_of_length_eq_zero (by rw [← l1, e]; rfl)
                rw [this]; simp
              · rw [e]; simp
            rw [e'] at q
            exact q.p (.tup hs p1)
          · cases h
        | _ => cases h
      | @lst a vs ds F1 h1 q1 =>
        simp only [binop] at h
        split at h
        · rename_i hz
          cases h
          obtain ⟨xs, e, eq⟩ := allP_map hz.1
          subst eq
          have rp := (q1.allP e).2
          have l1 := rp.length
          have l2 : (xs.map D.p).length = xs.length := List.length_map ..
          refine .inr (.inl ⟨a, k, vs, rfl, rfl, h1, by omega, by omega, ?_, ?_⟩)
          · have : vs.length * k.toNat ≤ 4000 * 4000 := Nat.mul_le_mul (by omega) (by omega)
            rw [sizeLine_eq]; omega
          · refine Al.list (CA := CA) (xs := (List.replicate k.toNat xs).flatten) ?_ (rp.rep k.toNat)
            rw [List.map_flatten, List.map_replicate]
            exact q
        · cases h
      | _ => cases h
    | _ => cases r1 <;> first | (cases h; done) | (rename_i r1; cases r1 <;> cases h)
  | _ => cases r1 <;> first | (cases h; done) | (rename_i r1; cases r1 <;> cases h)

/-! ### expressions -/
variable {a b : Expr} {ea eb : E} {pos : Pos}
theorem snd_two {K : PySem.W.Frag} {lk : List Nat} {ε1 : Env} {σ : L2.St} {H H1 H2 : Hp} {F F1 F2 : Fo} {T1 T2 : List Addr} {x : D} {v : V}
    (po1 : Po lk H F H1 F1 T1) (vr1 : Vr K CA H1 σ ea x v F1 T1) (rel1 : Rel K CA H1 ε1 σ F1) (po2 : Po (lock lk ea x) H1 F1 H2 F2 T2) : Vr K CA H2 σ ea x v F2 T1 ∧ Po lk H F H2 F2 (T1 ++ T2) :=
  ⟨vr1.keep rel1.dj po1.djT po2, po1.trans (po2.mono (lock_sub _ _ _)) vr1.alive⟩
theorem snd_bin {op : Operator} {o : BOp} {r : R2} (ho : OpR X (binaryOp op) r) (hr : ∀ {x y z : D} {v w : V} {G G2 : List Addr} {H : Hp} {Q : VK}, binop o x y = some z → RD X.K CA H x v G → RD X.K CA H y w G2 → Al X.K CA H z Q → r v w H Q)
    (ha : PE X a (tE X.K CA c ea)) (hb : PE X b (tE X.K CA c eb)) : PE X (.BinOp a op b pos) (tE X.K CA c (.bin o ea eb)) := by
  refine pe_mono (pe_op ho ha hb) fun σ H Q ⟨lk, ε, F, d, ε', rel, he, q⟩ => ?_
  simp only [ev, Option.bind_eq_some_iff, Option.map_eq_some_iff] at he
  obtain ⟨⟨x, ε1⟩, h1, ⟨y, ε2⟩, h2, z, h3, e⟩ := he
  cases e
  refine ⟨lk, ε, F, x, ε1, rel, h1, fun v H1 F1 T1 rel1 po1 vr1 => ⟨lock lk ea x, ε1, F1, y, ε2, rel1, h2, fun w H2 F2 T2 rel2 po2 vr2 => ?_⟩⟩
  obtain ⟨vr1', po⟩ := snd_two po1 vr1 rel1 po2
  obtain ⟨G1, r1⟩ := vr1'.rd
  obtain ⟨G2, r2⟩ := vr2.rd
  exact hr h3 r1 r2 fun u H3 T s nd fr rd => q u H3 F2 T (rel2.same s) (po.al rel2 s nd fr) (.of_rd rfl rd)
def bopOk : BOp → Operator → Bool
  | .add, .Add => true
  | .sub, .Sub => true
  | .mul, .Mult => true
  | .fdiv, .FloorDiv => true
  | .mod, .Mod => true
  | .pow, .Pow => true
  | _, _ => false
theorem snd_binop {op : Operator} {o : BOp} (h : bopOk o op = true) (ha : PE X a (tE X.K CA c ea)) (hb : PE X b (tE X.K CA c eb)) : PE X (.BinOp a op b pos) (tE X.K CA c (.bin o ea eb)) := by
  cases o <;> cases op <;> first | (cases h; done) | skip
  · exact snd_bin op_addX add_ok ha hb
  · exact snd_bin op_subX (fun h r1 r2 q => int_ok h (.inl rfl) r1 r2 q) ha hb
  · exact snd_bin op_mulX mul_ok ha hb
  · exact snd_bin op_fdivX (fun h r1 r2 q => int_ok h (.inr (.inr (.inl rfl))) r1 r2 q) ha hb
  · exact snd_bin op_modX (fun h r1 r2 q => int_ok h (.inr (.inl rfl)) r1 r2 q) ha hb
  · exact snd_bin op_powX (fun h r1 r2 q => int_ok h (.inr (.inr (.inr rfl))) r1 r2 q) ha hb

/-! ### constants, names -/
theorem snd_cst {x : PyData} {v : V} {e : Expr} (h : PE X e (tC v)) (r : ∀ H, Rp X.K H v x) : PE X e (tE X.K CA c (.cst x)) :=
  pe_mono h fun σ H Q ⟨lk, ε, F, d, ε', rel, he, q⟩ => by
    simp only [ev] at he
    cases he
    exact q v H F [] rel Po.refl (.of_p (r H))
theorem snd_glob {y : Str} {v : V} {e : Expr} {x : PyData} (h : PE X e (tC v)) (hx : c.glob y = some x) (r : ∀ H, Rp X.K H v x) : PE X e (tE X.K CA c (.glob y)) :=
  pe_mono h fun σ H Q ⟨lk, ε, F, d, ε', rel, he, q⟩ => by
    simp only [ev, hx, Option.map_some] at he
    cases he
    exact q v H F [] rel Po.refl (.of_p (r H))
theorem snd_var {i : Nat} {e : Expr} (h : PE X e (tVar i)) : PE X e (tE X.K CA c (.var i)) :=
  pe_mono h fun σ H Q ⟨lk, ε, F, d, ε', rel, he, q⟩ => by
    simp only [ev] at he
    split at he
    · rename_i d' hd
      cases he
      obtain ⟨v, hv, r⟩ := rel.val i d hd
      refine ⟨v, hv, q v H F [] rel Po.refl ?_⟩
      cases hp : d.isP with
      | true =>
        obtain ⟨_, x, rfl, rp⟩ := r.isP hp
        exact .of_p rp
      | false => exact .inr ⟨hp, .inl ⟨i, rfl, rfl, hv, r, rel.nd i⟩⟩
    · cases he

/-! ### one operand -/
theorem snd_neg (ha : PE X a (tE X.K CA c ea)) : PE X (.UnaryOp .USub a pos) (tE X.K CA c (.neg ea)) := by
  refine pe_mono (pe_un un_neg ha) fun σ H Q ⟨lk, ε, F, d, ε', rel, he, q⟩ => ?_
  simp only [ev, Option.bind_eq_some_iff] at he
  obtain ⟨⟨x, ε1⟩, h1, he⟩ := he
  refine ⟨lk, ε, F, x, ε1, rel, h1, fun v H1 F1 T1 rel1 po1 vr1 => ?_⟩
  simp only at he
  split at he
  · rename_i i
    cases he
    obtain ⟨t, r⟩ := vr1.p
    cases r
    exact ⟨i, rfl, q _ H1 F1 [] rel1 po1.drop (.of_p (.int _))⟩
  · cases he
theorem snd_not (ha : PE X a (tE X.K CA c ea)) : PE X (.UnaryOp .Not a pos) (tE X.K CA c (.not ea)) := by
  refine pe_mono (pe_not ha) fun σ H Q ⟨lk, ε, F, d, ε', rel, he, q⟩ => ?_
  simp only [ev, Option.bind_eq_some_iff] at he
  obtain ⟨⟨x, ε1⟩, h1, he⟩ := he
  refine ⟨lk, ε, F, x, ε1, rel, h1, fun v H1 F1 T1 rel1 po1 vr1 => ?_⟩
  simp only at he
  split at he
  · rename_i k
    cases he
    obtain ⟨t, r⟩ := vr1.p
    cases r
    exact ⟨k, rfl, q _ H1 F1 [] rel1 po1.drop (.of_p (.bl _))⟩
  · cases he

/-! ### comparisons -/
def copOk : COp → CmpOp → Bool
  | .lt, .Lt => true
  | .le, .LtE => true
  | .gt, .Gt => true
  | .ge, .GtE => true
  | .eq, .Eq => true
  | .ne, .NotEq => true
  | .is, .Is => true
  | .isn, .IsNot => true
  | .isin, .In => true
  | .notin, .NotIn => true
  | _, _ => false
def rCmp (K : PySem.W.Frag) (CA : Str → Addr) (o : COp) : R2 := fun v w H Q => ∃ x y G G2 b, RD K CA H x v G ∧ RD K CA H y w G2 ∧ cmpop o x y = some b ∧ Q (.bl b) H
theorem cmp_int {f : Int → Int → Bool} {o : COp} (hf : ∀ d e b, cmpop o d e = some b → ∃ i j, d = .p (.int i) ∧ e = .p (.int j) ∧ b = f i j) {v w : V} (h : rCmp K CA o v w H Q) : (rI0 fun i j => .bl (f i j)) v w H Q := by
  obtain ⟨x, y, G, G2, b, r1, r2, e, q⟩ := h
  obtain ⟨i, j, rfl, rfl, rfl⟩ := hf x y b e
  cases r1 with
  | p r1 =>
    cases r2 with
    | p r2 =>
      cases r1
      cases r2
      exact ⟨i, j, rfl, rfl, q⟩
theorem in_cases {x y : D} {b : Bool} (e : cmpop .isin x y = some b) : (∃ i j, x = .p (.str i) ∧ y = .p (.str j) ∧ b = inStr i j) ∨ ∃ z ys, x = .p z ∧ y.ps? = some ys ∧ inSeq z ys = some b := by
  unfold cmpop at e
  split at e <;> first | (simp_all; done) | (cases e; done) | skip
  all_goals
    simp only [Option.bind_eq_some_iff] at e
    obtain ⟨ys, e1, e2⟩ := e
    exact .inr ⟨_, ys, rfl, e1, e2⟩
theorem notin_cases {x y : D} {b : Bool} (e : cmpop .notin x y = some b) : (∃ i j, x = .p (.str i) ∧ y = .p (.str j) ∧ b = !inStr i j) ∨ ∃ z ys b', x = .p z ∧ y.ps? = some ys ∧ inSeq z ys = some b' ∧ b = !b' := by
  unfold cmpop at e
  split at e <;> first | (simp_all; done) | (cases e; done) | skip
  all_goals
    simp only [Option.bind_eq_some_iff, Option.map_eq_some_iff] at e
    obtain ⟨ys, e1, b', e2, rfl⟩ := e
    exact .inr ⟨_, ys, b', rfl, e1, e2, rfl⟩
theorem cmp_ok {op : CmpOp} {o : COp} (h : copOk o op = true) (hu : X.A.units + 60 < cLine) : OpR X (compareOp op) (rCmp X.K CA o) := by
  intro pins s σ H v w vv ww Q I rv rw' hq
  cases o <;> cases op <;> first | (cases h; done) | skip
  · exact op_lt pins s σ H v w vv ww Q I rv rw' (cmp_int (fun d e b h => by unfold cmpop at h; split at h <;> first | (cases h; exact ⟨_, _, rfl, rfl, rfl⟩) | (simp_all; done) | (cases h; done)) hq)
  · exact op_le pins s σ H v w vv ww Q I rv rw' (cmp_int (fun d e b h => by unfold cmpop at h; split at h <;> first | (cases h; exact ⟨_, _, rfl, rfl, rfl⟩) | (simp_all; done) | (cases h; done)) hq)
  · exact op_gt pins s σ H v w vv ww Q I rv rw' (cmp_int (fun d e b h => by unfold cmpop at h; split at h <;> first | (cases h; exact ⟨_, _, rfl, rfl, rfl⟩) | (simp_all; done) | (cases h; done)) hq)
  · exact op_ge pins s σ H v w vv ww Q I rv rw' (cmp_int (fun d e b h => by unfold cmpop at h; split at h <;> first | (cases h; exact ⟨_, _, rfl, rfl, rfl⟩) | (simp_all; done) | (cases h; done)) hq)
  · obtain ⟨x, y, G, G2, b, r1, r2, e, q⟩ := hq
    exact op_eqX hu pins s σ H v w vv ww Q I rv rw' ⟨CA, x, y, G, G2, b, r1, r2, by simpa [cmpop] using e, q⟩
  · obtain ⟨x, y, G, G2, b, r1, r2, e, q⟩ := hq
    simp only [cmpop, Option.map_eq_some_iff] at e
    obtain ⟨b', e, rfl⟩ := e
    exact op_neX hu pins s σ H v w vv ww Q I rv rw' ⟨CA, x, y, G, G2, b', r1, r2, e, q⟩
  · obtain ⟨x, y, G, G2, b, r1, r2, e, q⟩ := hq
    have key : y = .p .none ∧ b = decide (v = .non) := by
      unfold cmpop at e
      split at e <;> first | (simp_all; done) | (cases e; done) | skip
      all_goals
        refine ⟨by simp_all, ?_⟩
        cases r1 with
        | p r1 => cases r1 <;> simp_all
        | _ => simp_all
    obtain ⟨rfl, rfl⟩ := key
    cases r2 with
    | p r2 => cases r2; exact op_isN pins s σ H v _ vv ww Q I rv rw' ⟨rfl, q⟩
  · obtain ⟨x, y, G, G2, b, r1, r2, e, q⟩ := hq
    have key : y = .p .none ∧ b = !decide (v = .non) := by
      unfold cmpop at e
      split at e <;> first | (simp_all; done) | (cases e; done) | skip
      all_goals
        refine ⟨by simp_all, ?_⟩
        cases r1 with
        | p r1 => cases r1 <;> simp_all
        | _ => simp_all
    obtain ⟨rfl, rfl⟩ := key
    cases r2 with
    | p r2 => cases r2; exact op_notN pins s σ H v _ vv ww Q I rv rw' ⟨rfl, q⟩
  · obtain ⟨x, y, G, G2, b, r1, r2, e, q⟩ := hq
    rcases in_cases e with ⟨i, j, rfl, rfl, rfl⟩ | ⟨z, ys, rfl, e1, e2⟩
    · cases r1 with
      | p r1 =>
        cases r2 with
        | p r2 =>
          cases r1
          cases r2
          exact op_in_str pins s σ H _ _ vv ww Q I rv rw' ⟨i, j, rfl, rfl, q⟩
    · cases r1 with
      | p r1 => exact op_inX hu pins s σ H _ _ vv ww Q I rv rw' ⟨CA, z, y, G2, ys, b, r1, r2, e1, e2, q⟩
  · obtain ⟨x, y, G, G2, b, r1, r2, e, q⟩ := hq
    rcases notin_cases e with ⟨i, j, rfl, rfl, rfl⟩ | ⟨z, ys, b', rfl, e1, e2, rfl⟩
    · cases r1 with
      | p r1 =>
        cases r2 with
        | p r2 =>
          cases r1
          cases r2
          exact op_notin_str pins s σ H _ _ vv ww Q I rv rw' ⟨i, j, rfl, rfl, q⟩
    · cases r1 with
      | p r1 => exact op_notinX hu pins s σ H _ _ vv ww Q I rv rw' ⟨CA, z, y, G2, ys, b', r1, r2, e1, e2, q⟩
theorem snd_cmp {op : CmpOp} {o : COp} (h : copOk o op = true) (hu : X.A.units + 60 < cLine) (hm : behindInMarks op b = false) (ha : PE X a (tE X.K CA c ea)) (hb : PE X b (tE X.K CA c eb)) : PE X (.Compare a [op] [b] pos) (tE X.K CA c (.cmp o ea eb)) := by
  refine pe_mono (pe_cmpR (cmp_ok (CA := CA) h hu) ha hb hm) fun σ H Q ⟨lk, ε, F, d, ε', rel, he, q⟩ => ?_
  simp only [ev, Option.bind_eq_some_iff, Option.map_eq_some_iff] at he
  obtain ⟨⟨x, ε1⟩, h1, ⟨y, ε2⟩, h2, z, h3, e⟩ := he
  cases e
  refine ⟨lk, ε, F, x, ε1, rel, h1, fun v H1 F1 T1 rel1 po1 vr1 => ⟨lock lk ea x, ε1, F1, y, ε2, rel1, h2, fun w H2 F2 T2 rel2 po2 vr2 => ?_⟩⟩
  obtain ⟨vr1', po⟩ := snd_two po1 vr1 rel1 po2
  obtain ⟨G1, r1⟩ := vr1'.rd
  obtain ⟨G2, r2⟩ := vr2.rd
  exact ⟨x, y, G1, G2, z, r1, r2, h3, q _ H2 F2 [] rel2 po.drop (.of_p (.bl z))⟩
theorem snd_cmp2 {op op2 : CmpOp} {o o2 : COp} {d : Expr} {ed : E} (h : copOk o op = true) (h2 : copOk o2 op2 = true) (hu : X.A.units + 60 < cLine) (hm : lastMarks [op, op2] [b, d] = false) (ha : PE X a (tE X.K CA c ea)) (hb : PE X b (tE X.K CA c eb)) (hd : PE X d (tE X.K CA c ed)) :
    PE X (.Compare a [op, op2] [b, d] pos) (tE X.K CA c (.cmp2 o o2 ea eb ed)) := by
  refine pe_mono (pe_chain (cmp_ok (CA := CA) h hu) (cmp_ok (CA := CA) h2 hu) ha hb hd hm) fun σ H Q ⟨lk, ε, F, d, ε', rel, he, q⟩ => ?_
  simp only [ev, Option.bind_eq_some_iff] at he
  obtain ⟨⟨x, ε1⟩, h1, ⟨y, ε2⟩, h2, z, h3, he⟩ := he
  refine ⟨lk, ε, F, x, ε1, rel, h1, fun v H1 F1 T1 rel1 po1 vr1 => ⟨lock lk ea x, ε1, F1, y, ε2, rel1, h2, fun w H2 F2 T2 rel2 po2 vr2 => ?_⟩⟩
  obtain ⟨vr1', po⟩ := snd_two po1 vr1 rel1 po2
  obtain ⟨G1, r1⟩ := vr1'.rd
  obtain ⟨G2, r2⟩ := vr2.rd
  refine ⟨x, y, G1, G2, z, r1, r2, h3, z, rfl, ?_⟩
  cases z with
  | false =>
    simp only [Bool.false_eq_true, if_false] at he ⊢
    cases he
    exact q _ H2 F2 [] rel2 po.drop (.of_p (.bl false))
  | true =>
    simp only [if_true, Option.bind_eq_some_iff, Option.map_eq_some_iff] at he ⊢
    obtain ⟨⟨u, ε3⟩, h4, z', h5, e⟩ := he
    cases e
    refine ⟨lock lk eb y, ε2, F2, u, ε3, rel2, h4, fun w3 H3 F3 T3 rel3 po3 vr3 => ?_⟩
    have po12 : Po lk H F H2 F2 T2 := ⟨po.kp, po.im, po.lkd, po.old, fun a ha => po.oldT a (List.mem_append_right _ ha), po2.ndT, po2.djT⟩
    obtain ⟨vr2', po'⟩ := snd_two po12 vr2 rel2 po3
    obtain ⟨G2', r2'⟩ := vr2'.rd
    obtain ⟨G3, r3⟩ := vr3.rd
    exact ⟨y, u, G2', G3, z', r2', r3, h5, q _ H3 F3 [] rel3 po'.drop (.of_p (.bl z'))⟩
end
end Wh


set_option Elab.async false
set_option linter.all false
set_option maxRecDepth 100000
set_option maxHeartbeats 1000000
namespace Wh
open PySem PySem.Spec PyProof.Rows L2
section
variable {X : Cx} {CA : Str → Addr} {c : Cfg} {K : PySem.W.Frag} {H : Hp} {Q : VK} {σ : L2.St}
variable {a b : Expr} {ea eb : E} {pos : Pos}

/-! ### tests -/
theorem w_test {e : E} {Q : Bool → Hp → Prop} (h : tT K CA c e σ H Q) : tE K CA c e σ H (fun x H' => ∃ k, x = .bl k ∧ Q k H') := by
  obtain ⟨lk, ε, F, k, ε', rel, he, q⟩ := h
  refine ⟨lk, ε, F, _, ε', rel, he, fun v H' F' T rel' po vr => ?_⟩
  obtain ⟨t, r⟩ := vr.p
  cases r
  subst t
  exact ⟨k, rfl, q H' F' rel' po⟩
theorem pt_mono {e : Expr} {t t' : TT} (h : PT X e t) (f : ∀ σ H Q, t' σ H Q → t σ H Q) : PT X e t' := ⟨fun pins s σ H Q I hw => h.run pins s σ H Q I (f σ H Q hw)⟩
theorem pw_mono {e : Expr} {t t' : TT} (h : PW X e t) (f : ∀ σ H Q, t' σ H Q → t σ H Q) : PW X e t' := ⟨fun wh pins s σ H Q I hw => h.run wh pins s σ H Q I (f σ H Q hw)⟩
theorem snd_tval {e : E} (h : PE X a (tE X.K CA c e)) (he : ∀ whole, isTrue a X.env whole = (do let v ← whole; standAt a.pos; holding [v] (truthy v))) : PT X a (tT X.K CA c e) :=
  pt_mono (pt_val h he) fun σ H Q hw => w_test hw
theorem w_cmp {o : COp} (h : tE K CA c (.cmp o ea eb) σ H Q) : tOp (rCmp K CA o) (tE K CA c ea) (tE K CA c eb) σ H Q := by
  obtain ⟨lk, ε, F, d, ε', rel, he, q⟩ := h
  simp only [ev, Option.bind_eq_some_iff, Option.map_eq_some_iff] at he
  obtain ⟨⟨x, ε1⟩, h1, ⟨y, ε2⟩, h2, z, h3, e⟩ := he
  cases e
  refine ⟨lk, ε, F, x, ε1, rel, h1, fun v H1 F1 T1 rel1 po1 vr1 => ⟨lock lk ea x, ε1, F1, y, ε2, rel1, h2, fun w H2 F2 T2 rel2 po2 vr2 => ?_⟩⟩
  obtain ⟨vr1', po⟩ := snd_two po1 vr1 rel1 po2
  obtain ⟨G1, r1⟩ := vr1'.rd
  obtain ⟨G2, r2⟩ := vr2.rd
  exact ⟨x, y, G1, G2, z, r1, r2, h3, q _ H2 F2 [] rel2 po.drop (.of_p (.bl z))⟩
theorem snd_tcmp {op : CmpOp} {o : COp} (h : copOk o op = true) (hu : X.A.units + 60 < cLine) (hm : behindInMarks op b = false) (ha : PE X a (tE X.K CA c ea)) (hb : PE X b (tE X.K CA c eb)) : PT X (.Compare a [op] [b] pos) (tT X.K CA c (.cmp o ea eb)) :=
  pt_mono (pt_cmpR (cmp_ok (CA := CA) h hu) ha hb hm) fun σ H Q hw => w_cmp (w_test hw)
theorem w_cmp2 {o o2 : COp} {ed : E} (h : tE K CA c (.cmp2 o o2 ea eb ed) σ H Q) : tChain (rCmp K CA o) (rCmp K CA o2) (tE K CA c ea) (tE K CA c eb) (tE K CA c ed) σ H Q := by
  obtain ⟨lk, ε, F, d, ε', rel, he, q⟩ := h
  simp only [ev, Option.bind_eq_some_iff] at he
  obtain ⟨⟨x, ε1⟩, h1, ⟨y, ε2⟩, h2, z, h3, he⟩ := he
  refine ⟨lk, ε, F, x, ε1, rel, h1, fun v H1 F1 T1 rel1 po1 vr1 => ⟨lock lk ea x, ε1, F1, y, ε2, rel1, h2, fun w H2 F2 T2 rel2 po2 vr2 => ?_⟩⟩
  obtain ⟨vr1', po⟩ := snd_two po1 vr1 rel1 po2
  obtain ⟨G1, r1⟩ := vr1'.rd
  obtain ⟨G2, r2⟩ := vr2.rd
  refine ⟨x, y, G1, G2, z, r1, r2, h3, z, rfl, ?_⟩
  cases z with
  | false =>
    simp only [Bool.false_eq_true, if_false] at he ⊢
    cases he
    exact q _ H2 F2 [] rel2 po.drop (.of_p (.bl false))
  | true =>
    simp only [if_true, Option.bind_eq_some_iff, Option.map_eq_some_iff] at he ⊢
    obtain ⟨⟨u, ε3⟩, h4, z', h5, e⟩ := he
    cases e
    refine ⟨lock lk eb y, ε2, F2, u, ε3, rel2, h4, fun w3 H3 F3 T3 rel3 po3 vr3 => ?_⟩
    have po12 : Po lk H F H2 F2 T2 := ⟨po.kp, po.im, po.lkd, po.old, fun a ha => po.oldT a (List.mem_append_right _ ha), po2.ndT, po2.djT⟩
    obtain ⟨vr2', po'⟩ := snd_two po12 vr2 rel2 po3
    obtain ⟨G2', r2'⟩ := vr2'.rd
    obtain ⟨G3, r3⟩ := vr3.rd
    exact ⟨y, u, G2', G3, z', r2', r3, h5, q _ H3 F3 [] rel3 po'.drop (.of_p (.bl z'))⟩
theorem snd_tcmp2 {op op2 : CmpOp} {o o2 : COp} {d : Expr} {ed : E} (h : copOk o op = true) (h2 : copOk o2 op2 = true) (hu : X.A.units + 60 < cLine) (hm : lastMarks [op, op2] [b, d] = false) (ha : PE X a (tE X.K CA c ea)) (hb : PE X b (tE X.K CA c eb)) (hd : PE X d (tE X.K CA c ed)) :
    PT X (.Compare a [op, op2] [b, d] pos) (tT X.K CA c (.cmp2 o o2 ea eb ed)) :=
  pt_mono (pt_chain (cmp_ok (CA := CA) h hu) (cmp_ok (CA := CA) h2 hu) ha hb hd hm) fun σ H Q hw => w_cmp2 (w_test hw)
theorem snd_tnot (ha : PT X a (tT X.K CA c ea)) : PT X (.UnaryOp .Not a pos) (tT X.K CA c (.not ea)) := by
  refine pt_mono (pt_not ha) fun σ H Q ⟨lk, ε, F, k, ε', rel, he, q⟩ => ?_
  simp only [ev, Option.bind_eq_some_iff] at he
  obtain ⟨⟨x, ε1⟩, h1, he⟩ := he
  simp only at he
  split at he
  · rename_i k'
    cases he
    exact ⟨lk, ε, F, k', _, rel, h1, q⟩
  · cases he

/-! ### and, or -/
inductive AllE (X : Cx) (CA : Str → Addr) (c : Cfg) : List E → List Expr → Prop
  | nil : AllE X CA c [] []
  | cons {e : E} {a : Expr} {es : List E} {as : List Expr} : PE X a (tE X.K CA c e) → AllE X CA c es as → AllE X CA c (e :: es) (a :: as)
inductive AllT (X : Cx) (CA : Str → Addr) (c : Cfg) : List E → List Expr → Prop
  | nil : AllT X CA c [] []
  | cons {e : E} {a : Expr} {es : List E} {as : List Expr} : PT X a (tT X.K CA c e) → AllT X CA c es as → AllT X CA c (e :: es) (a :: as)
theorem Po.cons {lk : List Nat} {H H1 H2 : Hp} {F F1 F2 : Fo} {T : List Addr} (p : Po lk H F H1 F1 []) (q : Po lk H1 F1 H2 F2 T) : Po lk H F H2 F2 T := by
  have := p.trans q (fun _ h => nomatch h)
  rwa [List.nil_append] at this
theorem snd_and : ∀ {es : List E} {as : List Expr}, AllE X CA c es as → es ≠ [] → PE X (.BoolOp .And as pos) (tE X.K CA c (.and es))
  | [], _, _, hn => absurd rfl hn
  | [e], _, .cons h .nil, _ => pe_mono (pe_one h) fun σ H Q ⟨lk, ε, F, d, ε', rel, he, q⟩ => by
    simp only [ev, evAnd, Option.bind_eq_some_iff] at he
    obtain ⟨⟨x, ε1⟩, h1, he⟩ := he
    simp only at he
    split at he
    · cases he
      refine ⟨lk, ε, F, _, _, rel, h1, fun v H1 F1 T1 rel1 po1 vr1 => ?_⟩
      obtain ⟨t, r⟩ := vr1.p
      subst t
      exact q v H1 F1 [] rel1 po1 (.of_p r)
    · cases he
  | e :: e2 :: es, _, .cons h (.cons h2 r), _ => pe_mono (pe_and h (snd_and (.cons h2 r) (by simp))) fun σ H Q ⟨lk, ε, F, d, ε', rel, he, q⟩ => by
    simp only [ev, evAnd, Option.bind_eq_some_iff] at he
    obtain ⟨⟨x, ε1⟩, h1, he⟩ := he
    simp only at he
    split at he
    · rename_i k
      refine ⟨lk, ε, F, _, ε1, rel, h1, fun v H1 F1 T1 rel1 po1 vr1 => ?_⟩
      obtain ⟨t, r⟩ := vr1.p
      subst t
      cases r
      refine ⟨k, rfl, ?_⟩
      cases k with
      | true =>
        simp only [if_true] at he ⊢
        exact ⟨lk, ε1, F1, d, ε', rel1, by simpa only [ev] using he, fun v H2 F2 T2 rel2 po2 vr2 => q v H2 F2 T2 rel2 (po1.cons po2) (by
          rcases vr2.cases with r | ⟨i, hr, _⟩
          · exact .of_rd rfl r
          · cases hr)⟩
      | false =>
        simp only [Bool.false_eq_true, if_false] at he ⊢
        cases he
        exact q _ H1 F1 [] rel1 po1 (.of_p (.bl false))
    · cases he
theorem snd_or : ∀ {es : List E} {as : List Expr}, AllE X CA c es as → es ≠ [] → PE X (.BoolOp .Or as pos) (tE X.K CA c (.or es))
  | [], _, _, hn => absurd rfl hn
  | [e], _, .cons h .nil, _ => pe_mono (pe_one h) fun σ H Q ⟨lk, ε, F, d, ε', rel, he, q⟩ => by
    simp only [ev, evOr, Option.bind_eq_some_iff] at he
    obtain ⟨⟨x, ε1⟩, h1, he⟩ := he
    simp only at he
    split at he
    · cases he
      refine ⟨lk, ε, F, _, _, rel, h1, fun v H1 F1 T1 rel1 po1 vr1 => ?_⟩
      obtain ⟨t, r⟩ := vr1.p
      subst t
      exact q v H1 F1 [] rel1 po1 (.of_p r)
    · cases he
  | e :: e2 :: es, _, .cons h (.cons h2 r), _ => pe_mono (pe_or h (snd_or (.cons h2 r) (by simp))) fun σ H Q ⟨lk, ε, F, d, ε', rel, he, q⟩ => by
    simp only [ev, evOr, Option.bind_eq_some_iff] at he
    obtain ⟨⟨x, ε1⟩, h1, he⟩ := he
    simp only at he
    split at he
    · rename_i k
      refine ⟨lk, ε, F, _, ε1, rel, h1, fun v H1 F1 T1 rel1 po1 vr1 => ?_⟩
      obtain ⟨t, r⟩ := vr1.p
      subst t
      cases r
      refine ⟨k, rfl, ?_⟩
      cases k with
      | false =>
        simp only [Bool.false_eq_true, if_false] at he ⊢
        exact ⟨lk, ε1, F1, d, ε', rel1, by simpa only [ev] using he, fun v H2 F2 T2 rel2 po2 vr2 => q v H2 F2 T2 rel2 (po1.cons po2) (by
          rcases vr2.cases with r | ⟨i, hr, _⟩
          · exact .of_rd rfl r
          · cases hr)⟩
      | true =>
        simp only [if_true] at he ⊢
        cases he
        exact q _ H1 F1 [] rel1 po1 (.of_p (.bl true))
    · cases he
theorem snd_tand : ∀ {es : List E} {as : List Expr}, AllT X CA c es as → es ≠ [] → PW X (.BoolOp .And as pos) (tT X.K CA c (.and es))
  | [], _, _, hn => absurd rfl hn
  | [e], _, .cons h .nil, _ => pw_mono (pw_and1 h) fun σ H Q ⟨lk, ε, F, k, ε', rel, he, q⟩ => by
    simp only [ev, evAnd, Option.bind_eq_some_iff] at he
    obtain ⟨⟨x, ε1⟩, h1, he⟩ := he
    simp only at he
    split at he
    · cases he
      exact ⟨lk, ε, F, k, ε', rel, h1, q⟩
    · cases he
  | e :: e2 :: es, _, .cons h (.cons h2 r), _ => pw_mono (pw_and h (snd_tand (.cons h2 r) (by simp))) fun σ H Q ⟨lk, ε, F, k, ε', rel, he, q⟩ => by
    simp only [ev, evAnd, Option.bind_eq_some_iff] at he
    obtain ⟨⟨x, ε1⟩, h1, he⟩ := he
    simp only at he
    split at he
    · rename_i k'
      refine ⟨lk, ε, F, k', ε1, rel, h1, fun H1 F1 rel1 po1 => ?_⟩
      cases k' with
      | true =>
        simp only [if_true] at he ⊢
        exact ⟨lk, ε1, F1, k, ε', rel1, by simpa only [ev] using he, fun H2 F2 rel2 po2 => q H2 F2 rel2 (po1.cons po2)⟩
      | false =>
        simp only [Bool.false_eq_true, if_false] at he ⊢
        cases he
        exact q H1 F1 rel1 po1
    · cases he
theorem snd_tor : ∀ {es : List E} {as : List Expr}, AllT X CA c es as → es ≠ [] → PW X (.BoolOp .Or as pos) (tT X.K CA c (.or es))
  | [], _, _, hn => absurd rfl hn
  | [e], _, .cons h .nil, _ => pw_mono (pw_or1 h) fun σ H Q ⟨lk, ε, F, k, ε', rel, he, q⟩ => by
    simp only [ev, evOr, Option.bind_eq_some_iff] at he
    obtain ⟨⟨x, ε1⟩, h1, he⟩ := he
    simp only at he
    split at he
    · cases he
      exact ⟨lk, ε, F, k, ε', rel, h1, q⟩
    · cases he
  | e :: e2 :: es, _, .cons h (.cons h2 r), _ => pw_mono (pw_or h (snd_tor (.cons h2 r) (by simp))) fun σ H Q ⟨lk, ε, F, k, ε', rel, he, q⟩ => by
    simp only [ev, evOr, Option.bind_eq_some_iff] at he
    obtain ⟨⟨x, ε1⟩, h1, he⟩ := he
    simp only at he
    split at he
    · rename_i k'
      refine ⟨lk, ε, F, k', ε1, rel, h1, fun H1 F1 rel1 po1 => ?_⟩
      cases k' with
      | false =>
        simp only [Bool.false_eq_true, if_false] at he ⊢
        exact ⟨lk, ε1, F1, k, ε', rel1, by simpa only [ev] using he, fun H2 F2 rel2 po2 => q H2 F2 rel2 (po1.cons po2)⟩
      | true =>
        simp only [if_true] at he ⊢
        cases he
        exact q H1 F1 rel1 po1
    · cases he

/-! ### a if t else b -/
theorem snd_ite {t : Expr} {et : E} (ht : PT X t (tT X.K CA c et)) (ha : PE X a (tE X.K CA c ea)) (hb : PE X b (tE X.K CA c eb)) : PE X (.IfExp t a b pos) (tE X.K CA c (.ite et ea eb)) := by
  refine pe_mono (pe_ifExp ht ha hb) fun σ H Q ⟨lk, ε, F, d, ε', rel, he, q⟩ => ?_
  simp only [ev, Option.bind_eq_some_iff] at he
  obtain ⟨⟨x, ε1⟩, h1, he⟩ := he
  simp only at he
  split at he
  · rename_i k
    refine ⟨lk, ε, F, k, ε1, rel, h1, fun H1 F1 rel1 po1 => ?_⟩
    have fin : ∀ {e : E}, ((ev c lk e ε1).bind fun x => (sink e x.1).map fun y => (y, x.2)) = some (d, ε') → tE X.K CA c e σ H1 Q := fun {e} he => by
      simp only [Option.bind_eq_some_iff, Option.map_eq_some_iff, sink] at he
      obtain ⟨⟨y, ε2⟩, h2, y', h3, e'⟩ := he
      split at h3
      · rename_i hs
        cases h3
        cases e'
        exact ⟨lk, ε1, F1, _, _, rel1, h2, fun v H2 F2 T2 rel2 po2 vr2 => q v H2 F2 T2 rel2 (po1.cons po2) (.of_rd rfl (vr2.own hs))⟩
      · cases h3
    cases k with
    | true =>
      simp only [if_true] at he ⊢
      exact fin he
    | false =>
      simp only [Bool.false_eq_true, if_false] at he ⊢
      exact fin he
  · cases he

/-! ### arguments, displays -/
def NS (x : Expr) : Prop := ∀ es env, starEach (x :: es) env = (false, eval x env) :: starEach es env
theorem Vrs.keep {K : PySem.W.Frag} {H H' : Hp} {σ : L2.St} {F F' : Fo} {es : List E} {ds : List D} {vs : List V} {Ts : List (List Addr)} (s : Same H H') (h : Vrs K CA H σ F es ds vs Ts) : Vrs K CA H' σ F es ds vs Ts := by
  induction h with
  | nil => exact .nil
  | cons h _ ih => exact .cons (h.same s) ih
theorem lockA_p {lk : List Nat} {e : E} {x : PyData} : lockA lk e (.p x) = lk := by
  cases e <;> simp [lockA, lock, Wh.D.isP]
theorem late_p {e : E} {d : D} {ε : Env} {x : PyData} (h : late e d ε = some (.p x)) : d = .p x := by
  unfold late at h
  split at h
  · exact Option.some.inj h
  · rename_i hp
    split at h
    · split at h
      · split at h
        · cases h
        · rename_i hn
          cases h
          exact absurd rfl hn
      · cases h
    · cases h
      exact absurd rfl hp
theorem snd_late {K : PySem.W.Frag} {e : E} {lk : List Nat} {ε1 ε2 : Env} {σ : L2.St} {H H1 H2 : Hp} {F F1 F2 : Fo} {T1 T2 : List Addr} {x x' : D} {v : V}
    (po1 : Po lk H F H1 F1 T1) (vr1 : Vr K CA H1 σ e x v F1 T1) (rel1 : Rel K CA H1 ε1 σ F1) (po2 : Po (lockA lk e x) H1 F1 H2 F2 T2) (rel2 : Rel K CA H2 ε2 σ F2) (hl : late e x ε2 = some x') : Vr K CA H2 σ e x' v F2 T1 ∧ Po lk H F H2 F2 (T1 ++ T2) := by
  unfold late at hl
  split at hl
  · rename_i hp
    cases hl
    have : lockA lk e x = lock lk e x := by
      cases e <;> simp [lockA, lock, hp]
    rw [this] at po2
    exact snd_two po1 vr1 rel1 po2
  · rename_i hp
    cases e with
    | var i =>
      simp only at hl
      split at hl
      · rename_i d' hd
        split at hl
        · cases hl
        · rename_i hn
          cases hl
          have po2' : Po lk H1 F1 H2 F2 T2 := po2
          rcases vr1 with ⟨y, rfl, _, _⟩ | ⟨_, ⟨j, e, rfl, s', r, n⟩ | ⟨j, nv, _⟩ | ⟨hr', r⟩⟩
          · exact absurd rfl hp
          · cases e
            obtain ⟨v', hv', rd'⟩ := rel2.val i _ hd
            rw [s'] at hv'
            cases hv'
            exact ⟨.inr ⟨by simpa using hn, .inl ⟨i, rfl, rfl, s', rd', rel2.nd i⟩⟩, po1.trans po2' (fun _ h => nomatch h)⟩
          · exact absurd rfl (nv i)
          · cases hr'
      · cases hl
    | _ =>
      cases hl
      exact snd_two po1 vr1 rel1 po2
theorem snd_args : ∀ {es : List E} {as : List Expr}, AllE X CA c es as → (∀ a ∈ as, NS a) → PA X as (tA X.K CA c es)
  | _, _, .nil, _ => ⟨fun pos pins s σ H Q I hw => (pa_nil (X := X)).run pos pins s σ H Q I (by
      obtain ⟨lk, ε, F, ds, ε', rel, he, q⟩ := hw
      simp only [evs] at he
      cases he
      exact q [] H F [] rel Po.refl .nil)⟩
  | e :: es, a :: as, .cons h r, hn => ⟨fun pos pins s σ H Q I hw => (pa_cons h (snd_args r fun b hb => hn b (List.mem_cons_of_mem _ hb)) (hn a List.mem_cons_self as X.env)).run pos pins s σ H Q I (by
      obtain ⟨lk, ε, F, ds, ε', rel, he, q⟩ := hw
      simp only [evs, Option.bind_eq_some_iff, Option.map_eq_some_iff] at he
      obtain ⟨⟨d, ε1⟩, h1, ⟨ds', ε2⟩, h2, d', hd', e'⟩ := he
      cases e'
      refine ⟨lk, ε, F, d, ε1, rel, h1, fun v H1 F1 T1 rel1 po1 vr1 => ⟨lockA lk e d, ε1, F1, ds', ε2, rel1, h2, fun vs H2 F2 Ts rel2 po2 vrs => ?_⟩⟩
      obtain ⟨vr1', po⟩ := snd_late po1 vr1 rel1 po2 rel2 hd'
      exact q (v :: vs) H2 F2 (T1 :: Ts) rel2 (by rw [List.flatten_cons]; exact po) (.cons vr1' vrs))⟩
theorem Vrs.rds {K : PySem.W.Frag} {H : Hp} {σ : L2.St} {F : Fo} {es : List E} {ds : List D} {vs : List V} {Ts : List (List Addr)} (h : Vrs K CA H σ F es ds vs Ts) (hs : sinks es ds = true) : RDs K CA H ds vs Ts.flatten := by
  induction h with
  | nil => exact .nil
  | cons h _ ih =>
    simp only [sinks, Bool.and_eq_true] at hs
    exact .cons (h.own hs.1) (ih hs.2)
theorem allP_rds {ds : List D} {vs : List V} {G : List Addr} {xs : List PyData} (h : RDs K CA H ds vs G) (e : allP ds = some xs) : G = [] ∧ RpAll K H vs xs := h.allP e
/-- a tuple of new things: data where all of them are -/
theorem mkTup_rd {ds : List D} {vs : List V} {G : List Addr} {p : Addr} (h : RDs K CA H ds vs G) (hp : H p = some (.tup vs)) : ∃ G', RD K CA H (mkTup ds) (.ref p) G' ∧ (G' = G ∨ G' = []) := by
  unfold mkTup
  cases e : allP ds with
  | none => exact ⟨G, .tup hp h, .inl rfl⟩
  | some xs => exact ⟨[], .p (.tup (SqT.of hp) (h.allP e).2), .inr rfl⟩
/-- the items as they are stored: frozen, or as they came -/
theorem frz_all {ds : List D} {vs : List V} {T : List Addr} (h : RDs K CA H ds vs T) (nd : T.Nodup) :
    FzW (fun H' => (∃ G, RDs K CA H' (ds.map (frz c)) vs G ∧ G.Nodup ∧ ∀ a ∈ G, a ∈ T) ∧ ImK H H' ∧ ∀ a, a ∉ T → H' a = H a) H := by
  cases hc : c.fz with
  | false =>
    have e : ds.map (frz c) = ds := by
      have : (frz c) = id := by funext d; simp [frz, hc]
      rw [this, List.map_id]
    rw [e]
    exact .done ⟨⟨T, h, nd, fun _ h => h⟩, ImK.refl H, fun _ _ => rfl⟩
  | true =>
    have e : ds.map (frz c) = ds.map D.fz := by
      have : (frz c) = D.fz := by funext d; simp [frz, hc]
      rw [this]
    rw [e]
    exact h.fzAll nd
theorem snd_tup {es : List E} {as : List Expr} {k : Nat} (h : AllE X CA c es as) (hn : ∀ a ∈ as, NS a) : PE X (.Tuple as k pos) (tE X.K CA c (.tup es)) := by
  refine pe_mono (pe_fz (pe_tup (snd_args h hn))) fun σ H Q ⟨lk, ε, F, d, ε', rel, he, q⟩ => ?_
  simp only [ev, Option.bind_eq_some_iff] at he
  obtain ⟨⟨ds, ε1⟩, h1, he⟩ := he
  simp only at he
  split at he
  · rename_i hs
    split at he
    · rename_i hl
      cases he
      refine ⟨lk, ε, F, ds, ε', rel, h1, fun vs H1 F1 Ts rel1 po1 vrs => ?_⟩
      have rds := vrs.rds hs
      refine ⟨by rw [← rds.length]; exact hl, fun p hp => ?_⟩
      have sm := same_upd (o := .tup vs) hp
      have rds' : RDs X.K CA (upd H1 p (.tup vs)) ds vs Ts.flatten := rds.keep (Same.imK sm) fun a ha => by
        obtain ⟨o, z⟩ := (rds.mutk a ha).some
        rw [z, sm a o z]
      have np : p ∉ Ts.flatten := fun z => by
        obtain ⟨o, e⟩ := (rds.mutk p z).some
        rw [hp] at e; cases e
      refine (frz_all (c := c) rds' po1.ndT).mono fun H3 ⟨⟨G, r3, nd, sub⟩, im, kp⟩ => ?_
      have hp3 : H3 p = some (.tup vs) := (kp p np).trans upd_same
      obtain ⟨G', r4, hg⟩ := mkTup_rd r3 hp3
      have nd' : G'.Nodup := by rcases hg with e | e <;> rw [e]; exact nd; exact List.nodup_nil
      have sub' : ∀ a ∈ G', a ∈ Ts.flatten ∨ H1 a = none := fun a ha => by
        rcases hg with e | e
        · rw [e] at ha; exact .inl (sub a ha)
        · rw [e] at ha; cases ha
      obtain ⟨po3, rel3⟩ := po1.step rel1 (H2 := H3) (fun a o e n => (kp a n).trans (sm a o e)) ((Same.imK sm).trans im) nd' sub'
      exact q _ H3 F1 G' rel3 po3 (.of_rd rfl r4)
    · cases he
  · cases he
theorem snd_lst {es : List E} {as : List Expr} (h : AllE X CA c es as) (hn : ∀ a ∈ as, NS a) : PE X (.List as pos) (tE X.K CA c (.lst es)) := by
  refine pe_mono (pe_fz (pe_lst (snd_args h hn))) fun σ H Q ⟨lk, ε, F, d, ε', rel, he, q⟩ => ?_
  simp only [ev, Option.bind_eq_some_iff] at he
  obtain ⟨⟨ds, ε1⟩, h1, he⟩ := he
  simp only at he
  split at he
  · rename_i hs
    split at he
    · rename_i hl
      cases he
      refine ⟨lk, ε, F, ds, ε', rel, h1, fun vs H1 F1 Ts rel1 po1 vrs => ?_⟩
      have rds := vrs.rds hs
      refine ⟨by rw [← rds.length]; exact hl, fun p hp => ?_⟩
      have sm := same_upd (o := .lst vs) hp
      have rds' : RDs X.K CA (upd H1 p (.lst vs)) ds vs Ts.flatten := rds.keep (Same.imK sm) fun a ha => by
        obtain ⟨o, z⟩ := (rds.mutk a ha).some
        rw [z, sm a o z]
      have np : p ∉ Ts.flatten := fun z => by
        obtain ⟨o, e⟩ := (rds.mutk p z).some
        rw [hp] at e; cases e
      refine (frz_all (c := c) rds' po1.ndT).mono fun H3 ⟨⟨G, r3, nd, sub⟩, im, kp⟩ => ?_
      have hp3 : H3 p = some (.lst vs) := (kp p np).trans upd_same
      obtain ⟨po3, rel3⟩ := po1.step rel1 (H2 := H3) (G := p :: G) (fun a o e n => (kp a n).trans (sm a o e)) ((Same.imK sm).trans im) (List.nodup_cons.mpr ⟨fun z => np (sub p z), nd⟩) (fun a ha => by
        rcases List.mem_cons.mp ha with rfl | ha
        · exact .inr hp
        · exact .inl (sub a ha))
      exact q _ H3 F1 (p :: G) rel3 po3 (.of_rd rfl (.lst hp3 r3))
    · cases he
  · cases he
end
end Wh


set_option Elab.async false
set_option linter.all false
set_option maxRecDepth 100000
set_option maxHeartbeats 1000000
namespace Wh
open PySem PySem.Spec PyProof.Rows L2
section
variable {X : Cx} {CA : Str → Addr} {c : Cfg} {K : PySem.W.Frag} {H : Hp} {Q : VK} {σ : L2.St}

/-! ### a part of a tree, changed -/
theorem RDs.lens {ds : List D} {vs : List V} {F : List Addr} (a : RDs K CA H ds vs F) : ∀ {k : Nat} {y : D}, ds[k]? = some y → ∃ v F1 G F2, vs[k]? = some v ∧ RD K CA H y v G ∧ F = F1 ++ G ++ F2 ∧
    ∀ H' z G', RD K CA H' z v G' → ImK H H' → (∀ b ∈ F1 ++ F2, H' b = H b) → RDs K CA H' (ds.set k z) vs (F1 ++ G' ++ F2) := by
  induction ds generalizing vs F with
  | nil => intro k x e; simp at e
  | cons d ds ih =>
    intro k x e
    cases a with
    | @cons _ v0 G0 _ _ G1 h r =>
      cases k with
      | zero =>
        simp at e
        subst e
        exact ⟨_, [], G0, G1, rfl, h, by simp, fun H' z G' q im kp => .cons q (r.keep im fun b hb => kp b (by simpa using hb))⟩
      | succ k =>
        obtain ⟨v, F1, G, F2, e1, q, ef, up⟩ := ih r (by simpa using e)
        refine ⟨v, G0 ++ F1, G, F2, by simpa using e1, q, by rw [ef]; simp, fun H' z G' q' im kp => ?_⟩
        have e2 : G0 ++ F1 ++ G' ++ F2 = G0 ++ (F1 ++ G' ++ F2) := by simp
        rw [e2, List.set_cons_succ]
        exact .cons (h.keep im fun b hb => kp b (by simp [hb])) (up H' z G' q' im fun b hb => kp b (by simp at hb ⊢; exact .inr hb))
theorem dicPut_hit {k : Key} {z y : D} : ∀ {ds : List (Key × D)}, dicGet ds k = some y → (dicPut ds k z).map (·.1) = ds.map (·.1)
  | (x, w) :: r, h => by
    unfold dicGet at h
    unfold dicPut
    split at h
    · rename_i e
      rw [if_pos e]; rfl
    · rename_i e
      rw [if_neg e]
      simp only [List.map_cons]
      rw [dicPut_hit h]
theorem RDk.lens {ds : List (Key × D)} {vs : List (Key × V)} {F : List Addr} (a : RDk K CA H ds vs F) : ∀ {k : Key} {y : D}, dicGet ds k = some y → ∃ v F1 G F2, valV vs k = some v ∧ RD K CA H y v G ∧ F = F1 ++ G ++ F2 ∧
    ∀ H' z G', RD K CA H' z v G' → ImK H H' → (∀ b ∈ F1 ++ F2, H' b = H b) → RDk K CA H' (dicPut ds k z) vs (F1 ++ G' ++ F2) := by
  induction ds generalizing vs F with
  | nil => intro k x e; simp [dicGet] at e
  | cons d ds ih =>
    intro k x e
    cases a with
    | @cons k0 d0 v0 G0 _ _ G1 h r =>
      unfold dicGet at e
      by_cases hk : k0 = k
      · rw [if_pos hk] at e
        cases e
        refine ⟨_, [], G0, G1, valV_pos hk, h, by simp, fun H' z G' q im kp => ?_⟩
        unfold dicPut
        rw [if_pos hk]
        exact .cons q (r.keep im fun b hb => kp b (by simpa using hb))
      · rw [if_neg hk] at e
        obtain ⟨v, F1, G, F2, e1, q, ef, up⟩ := ih r e
        refine ⟨v, G0 ++ F1, G, F2, by rw [valV_neg hk]; exact e1, q, by rw [ef]; simp, fun H' z G' q' im kp => ?_⟩
        have e2 : G0 ++ F1 ++ G' ++ F2 = G0 ++ (F1 ++ G' ++ F2) := by simp
        unfold dicPut
        rw [e2, if_neg hk]
        exact .cons (h.keep im fun b hb => kp b (by simp [hb])) (up H' z G' q' im fun b hb => kp b (by simp at hb ⊢; exact .inr hb))
theorem fldSet_hit {f : Str} {z y : D} : ∀ {ds : List (Str × D)}, ds.lookup f = some y → (fldSet f z ds).map (·.1) = ds.map (·.1)
  | (x, w) :: r, h => by
    unfold fldSet
    by_cases e : x = f
    · rw [if_pos e, e]; rfl
    · rw [if_neg e]
      have : (f == x) = false := beq_eq_false_iff_ne.mpr fun q => e q.symm
      rw [List.lookup_cons, this] at h
      simp only [List.map_cons]
      rw [fldSet_hit h]
theorem RDf.lens {ds : List (Str × D)} {vs : List (Str × V)} {F : List Addr} (a : RDf K CA H ds vs F) : ∀ {k : Str} {y : D}, ds.lookup k = some y → ∃ v F1 G F2, vs.lookup k = some v ∧ RD K CA H y v G ∧ F = F1 ++ G ++ F2 ∧
    ∀ H' z G', RD K CA H' z v G' → ImK H H' → (∀ b ∈ F1 ++ F2, H' b = H b) → RDf K CA H' (fldSet k z ds) vs (F1 ++ G' ++ F2) := by
  induction ds generalizing vs F with
  | nil => intro k x e; simp at e
  | cons d ds ih =>
    intro k x e
    cases a with
    | @cons k0 d0 v0 G0 _ _ G1 h r =>
      by_cases hk : k0 = k
      · subst hk
        rw [List.lookup_cons, beq_self_eq_true] at e
        cases e
        refine ⟨_, [], G0, G1, by rw [List.lookup_cons, beq_self_eq_true], h, by simp, fun H' z G' q im kp => ?_⟩
        unfold fldSet
        rw [if_pos rfl]
        exact .cons q (r.keep im fun b hb => kp b (by simpa using hb))
      · have nk : (k == k0) = false := beq_eq_false_iff_ne.mpr fun q => hk q.symm
        rw [List.lookup_cons, nk] at e
        obtain ⟨v, F1, G, F2, e1, q, ef, up⟩ := ih r e
        refine ⟨v, G0 ++ F1, G, F2, by rw [List.lookup_cons, nk]; exact e1, q, by rw [ef]; simp, fun H' z G' q' im kp => ?_⟩
        have e2 : G0 ++ F1 ++ G' ++ F2 = G0 ++ (F1 ++ G' ++ F2) := by simp
        unfold fldSet
        rw [e2, if_neg hk]
        exact .cons (h.keep im fun b hb => kp b (by simp [hb])) (up H' z G' q' im fun b hb => kp b (by simp at hb ⊢; exact .inr hb))

/-- one step down, by the heap -/
inductive StepV (K : PySem.W.Frag) (H : Hp) : V → St1 → V → Prop
  | lst {a : Addr} {vs : List V} {k : Nat} {v : V} : H a = some (.lst vs) → vs[k]? = some v → StepV K H (.ref a) (.ix k) v
  | tup {a : Addr} {vs : List V} {k : Nat} {v : V} : H a = some (.tup vs) → vs[k]? = some v → StepV K H (.ref a) (.ix k) v
  | dic {a : Addr} {kvs : List (Key × V)} {k : Key} {v : V} : H a = some (.dK kvs) → valV kvs k = some v → StepV K H (.ref a) (.key k) v
  | fld {a C dx : Addr} {fs : List (Str × V)} {f : Str} {v : V} : H a = some (.ins C dx fs) → Cls K C → NoAttr K C f → fs.lookup f = some v → StepV K H (.ref a) (.fld f) v
inductive AtV (K : PySem.W.Frag) (H : Hp) : V → List St1 → V → Prop
  | nil {v : V} : AtV K H v [] v
  | cons {v w u : V} {s : St1} {r : List St1} : StepV K H v s w → AtV K H w r u → AtV K H v (s :: r) u
theorem AtV.snoc {v w u : V} {s : St1} {r : List St1} (h : AtV K H v r w) (q : StepV K H w s u) : AtV K H v (r ++ [s]) u := by
  induction h with
  | nil => exact .cons q .nil
  | cons a _ ih => exact .cons a (ih q)
theorem StepV.det {v w u : V} {s : St1} (a : StepV K H v s w) (b : StepV K H v s u) : w = u := by
  cases a with
  | lst h e =>
    cases b with
    | lst h2 e2 => rw [h] at h2; cases h2; rw [e] at e2; cases e2; rfl
    | tup h2 e2 => rw [h] at h2; cases h2
  | tup h e =>
    cases b with
    | lst h2 e2 => rw [h] at h2; cases h2
    | tup h2 e2 => rw [h] at h2; cases h2; rw [e] at e2; cases e2; rfl
  | dic h e =>
    cases b with
    | dic h2 e2 => rw [h] at h2; cases h2; rw [e] at e2; cases e2; rfl
  | fld h c n e =>
    cases b with
    | fld h2 c2 n2 e2 => rw [h] at h2; cases h2; rw [e] at e2; cases e2; rfl
theorem AtV.det {v : V} {π : List St1} : ∀ {w u : V}, AtV K H v π w → AtV K H v π u → w = u := by
  induction π generalizing v with
  | nil => intro w u a b; cases a; cases b; rfl
  | cons s r ih =>
    intro w u a b
    cases a with
    | cons a1 a2 =>
      cases b with
      | cons b1 b2 =>
        have := a1.det b1
        subst this
        exact ih a2 b2
theorem AtV.unsnoc {v u : V} {π : List St1} {s : St1} : AtV K H v (π ++ [s]) u → ∃ w, AtV K H v π w ∧ StepV K H w s u := by
  induction π generalizing v with
  | nil => intro h; cases h with | cons a b => cases b; exact ⟨v, .nil, a⟩
  | cons t r ih =>
    intro h
    cases h with
    | cons a b =>
      obtain ⟨w, h1, h2⟩ := ih b
      exact ⟨w, .cons a h1, h2⟩
theorem getAt_snoc {s : St1} {y : D} : ∀ {π : List St1} {d x : D}, d.getAt π = some x → x.step s = some y → d.getAt (π ++ [s]) = some y
  | [], d, x, h, e => by simp only [D.getAt] at h; cases h; simp [D.getAt, e]
  | t :: r, d, x, h, e => by
    simp only [D.getAt, Option.bind_eq_some_iff] at h
    obtain ⟨z, h1, h2⟩ := h
    simp only [List.cons_append, D.getAt, h1, Option.bind_some]
    exact getAt_snoc h2 e
theorem pathE_get {ε : Env} : ∀ (e : E) {i : Nat} {π : List St1} {y : D}, pathE e ε = some (i, π, y) → ∃ d, ε[i]? = some (some d) ∧ d.getAt π = some y
  | .var j, i, π, y, h => by
    simp only [pathE] at h
    split at h
    · rename_i d hd
      cases h
      exact ⟨_, hd, rfl⟩
    · cases h
  | .attr a f, i, π, y, h => by
    simp only [pathE, Option.bind_eq_some_iff, Option.map_eq_some_iff] at h
    obtain ⟨⟨i', π', d'⟩, h1, x, h2, e⟩ := h
    cases e
    obtain ⟨d, h3, h4⟩ := pathE_get a h1
    exact ⟨d, h3, getAt_snoc h4 h2⟩
  | .idx a k, i, π, y, h => by
    simp only [pathE, Option.bind_eq_some_iff, Option.map_eq_some_iff] at h
    obtain ⟨⟨i', π', d'⟩, h1, kk, h2, s, h3, x, h4, e⟩ := h
    cases e
    obtain ⟨d, h5, h6⟩ := pathE_get a h1
    exact ⟨d, h5, getAt_snoc h6 h4⟩
  | .cst _, _, _, _, h => by simp [pathE] at h
  | .glob _, _, _, _, h => by simp [pathE] at h
  | .bin _ _ _, _, _, _, h => by simp [pathE] at h
  | .neg _, _, _, _, h => by simp [pathE] at h
  | .cmp _ _ _, _, _, _, h => by simp [pathE] at h
  | .cmp2 _ _ _ _ _, _, _, _, h => by simp [pathE] at h
  | .and _, _, _, _, h => by simp [pathE] at h
  | .or _, _, _, _, h => by simp [pathE] at h
  | .not _, _, _, _, h => by simp [pathE] at h
  | .ite _ _ _, _, _, _, h => by simp [pathE] at h
  | .tup _, _, _, _, h => by simp [pathE] at h
  | .lst _, _, _, _, h => by simp [pathE] at h
  | .dic _ _, _, _, _, h => by simp [pathE] at h
  | .slc _ _ _, _, _, _, h => by simp [pathE] at h
  | .rev _, _, _, _, h => by simp [pathE] at h
  | .call _ _, _, _, _, h => by simp [pathE] at h
  | .new _ _, _, _, _, h => by simp [pathE] at h
  | .meth _ _ _, _, _, _, h => by simp [pathE] at h
  | .blt _ _, _, _, _, h => by simp [pathE] at h
  | .bm _ _ _, _, _, _, h => by simp [pathE] at h
  | .mut _ _ _, _, _, _, h => by simp [pathE] at h
  | .isi _ _, _, _, _, h => by simp [pathE] at h
  | .comp _ _ _ _ _, _, _, _, h => by simp [pathE] at h
  | .rng1 _, _, _, _, h => by simp [pathE] at h
  | .rng2 _ _, _, _, _, h => by simp [pathE] at h
  | .enum _, _, _, _, h => by simp [pathE] at h
  | .zip _ _, _, _, _, h => by simp [pathE] at h
theorem nodup_part {F1 G F2 : List Addr} (h : (F1 ++ G ++ F2).Nodup) : G.Nodup ∧ (∀ a ∈ F1 ++ F2, a ∉ G) ∧ (F1 ++ F2).Nodup := by
  obtain ⟨h1, h2, h3⟩ := List.nodup_append.mp h
  obtain ⟨h4, h5, h6⟩ := List.nodup_append.mp h1
  refine ⟨h5, fun a ha hg => ?_, List.nodup_append.mpr ⟨h4, h2, fun a ha b hb => h3 a (List.mem_append_left _ ha) b hb⟩⟩
  rcases List.mem_append.mp ha with z | z
  · exact h6 a z a hg rfl
  · exact h3 a (List.mem_append_right _ hg) a z rfl
theorem nodup_swap {F1 G F2 G' : List Addr} (h : (F1 ++ F2).Nodup) (hg : G'.Nodup) (hd : ∀ a ∈ G', a ∉ F1 ++ F2) : (F1 ++ G' ++ F2).Nodup := by
  obtain ⟨h1, h2, h3⟩ := List.nodup_append.mp h
  refine List.nodup_append.mpr ⟨List.nodup_append.mpr ⟨h1, hg, fun a ha b hb e => ?_⟩, h2, fun a ha b hb e => ?_⟩
  · subst e; exact hd a hb (List.mem_append_left _ ha)
  · subst e
    rcases List.mem_append.mp ha with z | z
    · exact h3 a z a hb rfl
    · exact hd a z (List.mem_append_right _ hb)
/-- the tree at a path, and the whole with another tree there -/
theorem lens : ∀ (π : List St1) {d y : D} {v0 : V} {F : List Addr}, RD K CA H d v0 F → F.Nodup → d.getAt π = some y → ∃ v G, AtV K H v0 π v ∧ RD K CA H y v G ∧ G.Nodup ∧ (∀ a ∈ G, a ∈ F) ∧
    ∀ H' z G' d', d.putAt π z = some d' → RD K CA H' z v G' → G'.Nodup → ImK H H' → (∀ b ∈ F, b ∉ G → H' b = H b) → (∀ b ∈ G', b ∈ G ∨ b ∉ F) → ∃ F', RD K CA H' d' v0 F' ∧ F'.Nodup ∧ ∀ b ∈ F', (b ∈ F ∧ b ∉ G) ∨ b ∈ G'
  | [], d, y, v0, F, r, nd, e => by
    simp only [D.getAt] at e
    cases e
    refine ⟨v0, F, .nil, r, nd, fun _ h => h, fun H' z G' d' e' q ng im kp fr => ?_⟩
    simp only [D.putAt] at e'
    cases e'
    exact ⟨G', q, ng, fun b hb => .inr hb⟩
  | s :: π, d, y, v0, F, r, nd, e => by
    simp only [D.getAt, Option.bind_eq_some_iff] at e
    obtain ⟨x, hs, e⟩ := e
    -- the step itself
    have key : ∃ w F1 G F2 A, StepV K H v0 s w ∧ RD K CA H x w G ∧ F = A ++ (F1 ++ G ++ F2) ∧
        ∀ H' z G' d', d.put s z = some d' → RD K CA H' z w G' → ImK H H' → (∀ b ∈ A ++ (F1 ++ F2), H' b = H b) → RD K CA H' d' v0 (A ++ (F1 ++ G' ++ F2)) := by
      cases r with
      | p r => simp [D.step] at hs
      | @lst a vs ds F h r =>
        cases s with
        | ix k =>
          obtain ⟨w, F1, G, F2, e1, q, ef, up⟩ := r.lens (show ds[k]? = some x from hs)
          refine ⟨w, F1, G, F2, [a], .lst h e1, q, by rw [ef]; rfl, fun H' z G' d' ep q' im kp => ?_⟩
          simp only [D.put] at ep
          split at ep
          · cases ep
            exact .lst ((kp a (by simp)).trans h) (up H' z G' q' im fun b hb => kp b (List.mem_append_right _ hb))
          · cases ep
        | _ => simp [D.step] at hs
      | @tup a vs ds F h r =>
        cases s with
        | ix k =>
          obtain ⟨w, F1, G, F2, e1, q, ef, up⟩ := r.lens (show ds[k]? = some x from hs)
          refine ⟨w, F1, G, F2, [], .tup h e1, q, by rw [ef]; rfl, fun H' z G' d' ep q' im kp => ?_⟩
          simp only [D.put] at ep
          split at ep
          · cases ep
            exact .tup (im _ _ h trivial) (up H' z G' q' im fun b hb => kp b (List.mem_append_right _ hb))
          · cases ep
        | _ => simp [D.step] at hs
      | @dic a kvs ds F h n r =>
        cases s with
        | key k =>
          obtain ⟨w, F1, G, F2, e1, q, ef, up⟩ := r.lens (show dicGet ds k = some x from hs)
          refine ⟨w, F1, G, F2, [a], .dic h e1, q, by rw [ef]; rfl, fun H' z G' d' ep q' im kp => ?_⟩
          simp only [D.put] at ep
          cases ep
          exact .dic ((kp a (by simp)).trans h) (by rw [dicPut_hit (show dicGet ds k = some x from hs)]; exact n) (up H' z G' q' im fun b hb => kp b (List.mem_append_right _ hb))
        | _ => simp [D.step] at hs
      | @obj a dx k fs ds F h h2 cl na r =>
        cases s with
        | fld f =>
          have hs' : ds.lookup f = some x := hs
          obtain ⟨w, F1, G, F2, e1, q, ef, up⟩ := r.lens hs'
          have hf : f ∈ ds.map (·.1) := by
            obtain ⟨v', e'⟩ : ∃ v', (f, v') ∈ ds := ⟨x, PySem.mem_of_lookup hs'⟩
            exact List.mem_map.mpr ⟨_, e', rfl⟩
          refine ⟨w, F1, G, F2, [a, dx], .fld h cl (na f hf) e1, q, by rw [ef]; rfl, fun H' z G' d' ep q' im kp => ?_⟩
          simp only [D.put] at ep
          split at ep
          · cases ep
            exact .obj ((kp a (by simp)).trans h) ((kp dx (by simp)).trans h2) cl (by rw [fldSet_hit hs']; exact na) (up H' z G' q' im fun b hb => kp b (List.mem_append_right _ hb))
          · cases ep
        | _ => simp [D.step] at hs
    obtain ⟨w, F1, G, F2, A, st, q, ef, up⟩ := key
    subst ef
    obtain ⟨nA, nF, nAF⟩ := List.nodup_append.mp nd
    obtain ⟨nG, nGF, nFF⟩ := nodup_part nF
    obtain ⟨v, G1, at1, r1, n1, s1, up1⟩ := lens π q nG e
    refine ⟨v, G1, .cons st at1, r1, n1, fun a ha => ?_, fun H' z G' d' ep q' ng im kp fr => ?_⟩
    · exact List.mem_append_right _ (List.mem_append_left _ (List.mem_append_right _ (s1 a ha)))
    · simp only [D.putAt, hs, Option.bind_some, Option.bind_eq_some_iff] at ep
      obtain ⟨x', e1, e2⟩ := ep
      have inG : ∀ b ∈ G, b ∈ A ++ (F1 ++ G ++ F2) := fun b hb => List.mem_append_right _ (List.mem_append_left _ (List.mem_append_right _ hb))
      obtain ⟨F', r2, n2, s2⟩ := up1 H' z G' x' e1 q' ng im (fun b hb nb => kp b (inG b hb) nb) fun b hb => by
        rcases fr b hb with z | z
        · exact .inl z
        · exact .inr fun w => z (inG b w)
      have out : ∀ b ∈ A ++ (F1 ++ F2), b ∉ G := fun b hb hg => by
        rcases List.mem_append.mp hb with z | z
        · exact nAF b z b (List.mem_append_left _ (List.mem_append_right _ hg)) rfl
        · exact nGF b z hg
      have inF : ∀ b ∈ A ++ (F1 ++ F2), b ∈ A ++ (F1 ++ G ++ F2) := fun b hb => by
        simp only [List.mem_append] at hb ⊢
        rcases hb with z | z | z
        · exact .inl z
        · exact .inr (.inl (.inl z))
        · exact .inr (.inr z)
      have r3 := up H' x' F' d' e2 r2 im fun b hb => kp b (inF b hb) fun z => out b hb (s1 b z)
      have newF : ∀ b ∈ F', b ∉ A ++ (F1 ++ F2) := fun b hb hz => by
        rcases s2 b hb with z | z
        · exact out b hz z.1
        · rcases fr b z with w | w
          · exact out b hz (s1 b w)
          · exact w (inF b hz)
      refine ⟨_, r3, ?_, fun b hb => ?_⟩
      · refine List.nodup_append.mpr ⟨nA, nodup_swap (G := G) nFF n2 fun b hb z => newF b hb (List.mem_append_right _ z), fun a ha b hb e => ?_⟩
        subst e
        simp only [List.mem_append] at hb
        rcases hb with (z | z) | z
        · exact nAF a ha a (by simp [z]) rfl
        · exact newF a z (List.mem_append_left _ ha)
        · exact nAF a ha a (by simp [z]) rfl
      · simp only [List.mem_append] at hb
        rcases hb with z | (z | z) | z
        · exact .inl ⟨by simp [z], fun w => out b (by simp [z]) (s1 b w)⟩
        · exact .inl ⟨by simp [z], fun w => out b (by simp [z]) (s1 b w)⟩
        · rcases s2 b z with w | w
          · exact .inl ⟨inG b w.1, w.2⟩
          · exact .inr w
        · exact .inl ⟨by simp [z], fun w => out b (by simp [z]) (s1 b w)⟩
end
end Wh


set_option Elab.async false
set_option linter.all false
set_option maxRecDepth 100000
set_option maxHeartbeats 1000000
namespace Wh
open PySem PySem.Spec PyProof.Rows L2
section
variable {X : Cx} {CA : Str → Addr} {c : Cfg} {K : PySem.W.Frag} {H : Hp} {Q : VK} {σ : L2.St}
variable {a b : Expr} {ea eb : E} {pos : Pos}

/-! ### subscripts by values -/
theorem ix_dic (hu : X.A.units + 1 < cLine) : IxR X (fun x y H Q => ∃ a v, x = .ref a ∧ DGet H a y (some v) ∧ Q v H) := by
  intro value slice pins s σ H x y v u Q I rx ry ⟨a, w, e, g, q⟩ hs
  subst e
  cases rx
  exact tail_any (dict_typeIs I g) PySem.F.slot_dict_getitem.lookup (d_getItem hu I g ry fun w' s3 I3 rw' => ⟨w, H, I3, rw', q⟩) hs
def rIxX (K : PySem.W.Frag) : R2 := fun x y H Q => rIx K x y H Q ∨ ∃ a v, x = .ref a ∧ DGet H a y (some v) ∧ Q v H
theorem ix_X (hu : X.A.units + 1 < cLine) : IxR X (rIxX X.K) := ix_seq.or (ix_dic hu)
theorem atI_ix {α β : Type} {xs : List α} {ys : List β} (hl : xs.length = ys.length) {i : Int} {x : α} (h : atI xs i = some x) : ∃ j, ixN xs.length i = some j ∧ xs[j]? = some x ∧ ∀ y, ys[j]? = some y → atI ys i = some y := by
  unfold atI at h
  cases e : ixN xs.length i with
  | none => rw [e] at h; cases h
  | some j =>
    rw [e] at h
    refine ⟨j, rfl, h, fun y hy => ?_⟩
    unfold atI
    rw [← hl, e]
    exact hy
theorem kvP {v : V} {kk : PyData} {k : Key} (r : Rp K H v kk) (h : keyOf kk = some k) : v = kV k := by
  cases r <;> simp [keyOf] at h <;> subst h <;> rfl
theorem dictGet_rp {kvs : List (Key × V)} {ds : List (PyData × PyData)} (r : RpKv K H kvs ds) {k : Key} {x : PyData} (h : dictGet ds k = some x) : ∃ v, valV kvs k = some v ∧ Rp K H v x := by
  induction kvs generalizing ds with
  | nil => cases r; simp [dictGet] at h
  | cons p kvs ih =>
    cases r with
    | @cons k0 v0 _ d0 _ h0 r =>
      unfold dictGet at h
      by_cases e : k0 = k
      · have : keyOf (keyP k0) = some k := by rw [← e]; cases k0 <;> rfl
        rw [if_pos this] at h
        cases h
        exact ⟨v0, valV_pos e, h0⟩
      · have : ¬ keyOf (keyP k0) = some k := fun q => e (by cases k0 <;> simp [keyP, keyOf] at q <;> exact q)
        rw [if_neg this] at h
        obtain ⟨v, e1, e2⟩ := ih r h
        exact ⟨v, by rw [valV_neg e]; exact e1, e2⟩
theorem getIx_ok {x k z : D} {v u : V} {G G2 : List Addr} (h : getIx x k = some z) (r1 : RD K CA H x v G) (nd : G.Nodup) (r2 : RD K CA H k u G2) :
    ∃ w G', RD K CA H z w G' ∧ G'.Nodup ∧ (∀ a ∈ G', a ∈ G) ∧ ∀ Q : VK, Q w H → rIxX K v u H Q := by
  cases r1 with
  | p r1 =>
    cases r2 with
    | @p kp _ r2 =>
      cases r1 with
      | @tup a vs xs hs p1 =>
        cases r2 with
        | int i =>
          simp only [getIx, Option.map_eq_some_iff] at h
          obtain ⟨y, h, rfl⟩ := h
          obtain ⟨j, e1, e2, e3⟩ := atI_ix p1.length.symm h
          obtain ⟨w, e4, rp⟩ := p1.get e2
          exact ⟨w, [], .p rp, List.nodup_nil, fun _ h => (nomatch h), fun Q q => .inl (.inr (.inl ⟨a, vs, i, w, rfl, rfl, hs, e3 w e4, q⟩))⟩
        | _ => simp [getIx] at h
      | @lst a vs xs hs p1 =>
        cases r2 with
        | int i =>
          simp only [getIx, Option.map_eq_some_iff] at h
          obtain ⟨y, h, rfl⟩ := h
          obtain ⟨j, e1, e2, e3⟩ := atI_ix p1.length.symm h
          obtain ⟨w, e4, rp⟩ := p1.get e2
          exact ⟨w, [], .p rp, List.nodup_nil, fun _ h => (nomatch h), fun Q q => .inl (.inl ⟨a, vs, i, w, rfl, rfl, hs.sq, e3 w e4, q⟩)⟩
        | _ => simp [getIx] at h
      | str s =>
        cases r2 with
        | int i =>
          simp only [getIx] at h
          split at h
          · rename_i hl
            simp only [Option.map_eq_some_iff] at h
            obtain ⟨y, h, rfl⟩ := h
            exact ⟨_, [], .p (.str _), List.nodup_nil, fun _ h => (nomatch h), fun Q q => .inl (.inr (.inr ⟨s, i, y, rfl, rfl, hl, h, q⟩))⟩
          · cases h
        | _ => simp [getIx] at h
      | @dic a o kvs ds hs p1 =>
        have h' : ((keyOf kp).bind fun k => (dictGet ds k).map D.p) = some z := by cases r2 <;> exact h
        simp only [Option.bind_eq_some_iff, Option.map_eq_some_iff] at h'
        obtain ⟨kk, e1, y, e2, rfl⟩ := h'
        obtain ⟨w, e3, rp⟩ := dictGet_rp p1 e2
        exact ⟨w, [], .p rp, List.nodup_nil, fun _ h => (nomatch h), fun Q q => .inr ⟨a, w, rfl, .inl ⟨kvs, kk, .inr ⟨o, hs⟩, kvP r2 e1, e3.symm⟩, q⟩⟩
      | _ => cases r2 <;> simp [getIx] at h
    | _ => cases r1 <;> simp [getIx] at h
  | @lst a vs ds F h1 q1 =>
    cases r2 with
    | p r2 =>
      cases r2 with
      | int i =>
        simp only [getIx] at h
        obtain ⟨j, e1, e2, e3⟩ := atI_ix q1.length h
        obtain ⟨w, F1, G, F2, e4, rd, ef⟩ := q1.get e2
        subst ef
        have n := (nodup_part (List.nodup_cons.mp nd).2).1
        exact ⟨w, G, rd, n, fun b hb => by simp [hb], fun Q q => .inl (.inl ⟨a, vs, i, w, rfl, rfl, SqL.of h1, e3 w e4, q⟩)⟩
      | _ => simp [getIx] at h
    | _ => simp [getIx] at h
  | @tup a vs ds F h1 q1 =>
    cases r2 with
    | p r2 =>
      cases r2 with
      | int i =>
        simp only [getIx] at h
        obtain ⟨j, e1, e2, e3⟩ := atI_ix q1.length h
        obtain ⟨w, F1, G, F2, e4, rd, ef⟩ := q1.get e2
        subst ef
        have n := (nodup_part nd).1
        exact ⟨w, G, rd, n, fun b hb => by simp [hb], fun Q q => .inl (.inr (.inl ⟨a, vs, i, w, rfl, rfl, SqT.of h1, e3 w e4, q⟩))⟩
      | _ => simp [getIx] at h
    | _ => simp [getIx] at h
  | @dic a kvs ds F h1 n1 q1 =>
    cases r2 with
    | p r2 =>
      simp only [getIx, Option.bind_eq_some_iff] at h
      obtain ⟨kk, e1, e2⟩ := h
      obtain ⟨w, F1, G, F2, e3, rd, ef, _⟩ := q1.lens e2
      subst ef
      have n := (nodup_part (List.nodup_cons.mp nd).2).1
      exact ⟨w, G, rd, n, fun b hb => by simp [hb], fun Q q => .inr ⟨a, w, rfl, .inl ⟨kvs, kk, .inl h1, kvP r2 e1, e3.symm⟩, q⟩⟩
    | _ => simp [getIx] at h
  | obj => cases r2 <;> simp [getIx] at h

/-- a part of what was evaluated -/
theorem Vr.split {x : D} {v : V} {F : Fo} {T : List Addr} (h : Vr K CA H σ ea x v F T) (nd : T.Nodup) : ∃ G, RD K CA H x v G ∧ G.Nodup ∧
    ∀ (z : D) (w : V) (G' : List Addr) (e' : E), root e' = root ea → (∀ j, e' ≠ .var j) → RD K CA H z w G' → G'.Nodup → (∀ a ∈ G', a ∈ G) → ∃ T', Vr K CA H σ e' z w F T' ∧ T'.Nodup ∧ ∀ a ∈ T', a ∈ T := by
  have fin : ∀ (G : List Addr), (root ea = none → ∀ a ∈ G, a ∈ T) → (∀ i, root ea = some i → ∀ a ∈ G, a ∈ F i) → ∀ (z : D) (w : V) (G' : List Addr) (e' : E), root e' = root ea → (∀ j, e' ≠ .var j) → RD K CA H z w G' → G'.Nodup → (∀ a ∈ G', a ∈ G) → ∃ T', Vr K CA H σ e' z w F T' ∧ T'.Nodup ∧ ∀ a ∈ T', a ∈ T := by
    intro G g1 g2 z w G' e' hr hv rz nz sz
    cases hp : z.isP with
    | true =>
      obtain ⟨_, y, rfl, rp⟩ := rz.isP hp
      exact ⟨[], .of_p rp, List.nodup_nil, fun _ h => nomatch h⟩
    | false =>
      cases e : root ea with
      | none => exact ⟨G', .inr ⟨hp, .inr (.inr ⟨hr.trans e, rz⟩)⟩, nz, fun a ha => g1 e a (sz a ha)⟩
      | some i => exact ⟨[], .inr ⟨hp, .inr (.inl ⟨i, hv, hr.trans e, rfl, G', rz, nz, fun a ha => g2 i e a (sz a ha)⟩)⟩, List.nodup_nil, fun _ h => nomatch h⟩
  rcases h with ⟨x, rfl, rfl, r⟩ | ⟨hp, ⟨i, rfl, t, s', r, n⟩ | ⟨i, nv, hr, t, G, r, n, s'⟩ | ⟨hr, r⟩⟩
  · exact ⟨[], .p r, List.nodup_nil, fin [] (fun _ _ h => nomatch h) fun _ _ _ h => nomatch h⟩
  · exact ⟨F i, r, n, fin (F i) (fun e => nomatch e) fun j e a ha => by cases e; exact ha⟩
  · exact ⟨G, r, n, fin G (fun e => by rw [hr] at e; cases e) fun j e a ha => by rw [hr] at e; cases e; exact s' a ha⟩
  · exact ⟨T, r, nd, fin T (fun _ _ h => h) fun j e => by rw [hr] at e; cases e⟩
theorem Po.sub {lk : List Nat} {H H2 : Hp} {F F2 : Fo} {T T' : List Addr} (p : Po lk H F H2 F2 T) (nd : T'.Nodup) (s : ∀ a ∈ T', a ∈ T) : Po lk H F H2 F2 T' :=
  ⟨p.kp, p.im, p.lkd, p.old, fun a ha => p.oldT a (s a ha), nd, fun i a ha hm => p.djT i a ha (s a hm)⟩
theorem snd_idx (hu : X.A.units + 1 < cLine) (hs : PlainIx b) (ha : PE X a (tE X.K CA c ea)) (hb : PE X b (tE X.K CA c eb)) : PE X (.Subscript a b pos) (tE X.K CA c (.idx ea eb)) := by
  refine pe_mono (pe_ix (ix_X hu) ha hb hs) fun σ H Q ⟨lk, ε, F, d, ε', rel, he, q⟩ => ?_
  simp only [ev, Option.bind_eq_some_iff, Option.map_eq_some_iff] at he
  obtain ⟨⟨x, ε1⟩, h1, ⟨y, ε2⟩, h2, z, h3, e⟩ := he
  cases e
  refine ⟨lk, ε, F, x, ε1, rel, h1, fun v H1 F1 T1 rel1 po1 vr1 => ⟨lock lk ea x, ε1, F1, y, ε2, rel1, h2, fun w H2 F2 T2 rel2 po2 vr2 => ?_⟩⟩
  obtain ⟨vr1', po⟩ := snd_two po1 vr1 rel1 po2
  obtain ⟨G, r1, nd, sp⟩ := vr1'.split po1.ndT
  obtain ⟨G2, r2⟩ := vr2.rd
  obtain ⟨u, G', rz, nz, sz, go⟩ := getIx_ok h3 r1 nd r2
  obtain ⟨T', vr, nT, sT⟩ := sp _ u G' (.idx ea eb) rfl (fun j => nofun) rz nz sz
  exact go _ (q u H2 F2 T' rel2 (po.sub nT fun a ha => List.mem_append_left _ (sT a ha)) vr)
theorem snd_attr {f : Str} (hb : attributeBase a f X.env (eval a X.env) = eval a X.env) (ha : PE X a (tE X.K CA c ea)) : PE X (.Attribute a f pos) (tE X.K CA c (.attr ea f)) := by
  refine pe_mono (pe_fld ha hb) fun σ H Q ⟨lk, ε, F, d, ε', rel, he, q⟩ => ?_
  simp only [ev, Option.bind_eq_some_iff] at he
  obtain ⟨⟨x, ε1⟩, h1, he⟩ := he
  refine ⟨lk, ε, F, x, ε1, rel, h1, fun v H1 F1 T1 rel1 po1 vr1 => ?_⟩
  simp only at he
  split at he
  · rename_i k fs
    simp only [Option.map_eq_some_iff] at he
    obtain ⟨z, h2, e⟩ := he
    cases e
    obtain ⟨G, r1, nd, sp⟩ := vr1.split po1.ndT
    cases r1 with
    | @obj p dx _ vs _ F0 e1 e2 cl na r =>
      obtain ⟨w, A, G', B, e3, rz, ef, _⟩ := r.lens h2
      subst ef
      have hf : f ∈ fs.map (·.1) := List.mem_map.mpr ⟨_, PySem.mem_of_lookup h2, rfl⟩
      have nz := (nodup_part (List.nodup_cons.mp (List.nodup_cons.mp nd).2).2).1
      obtain ⟨T', vr, nT, sT⟩ := sp _ w G' (.attr ea f) rfl (fun j => nofun) rz nz (fun b hb => by simp [hb])
      exact ⟨p, _, dx, vs, w, rfl, e1, cl, na f hf, e3, q w H1 F1 T' rel1 (po1.sub nT sT) vr⟩
  · cases he

/-! ### slices -/
theorem cut_length {α β : Type} {xs : List α} {ys : List β} (h : xs.length = ys.length) (lo hi : Option Int) : (cut xs lo hi).length = (cut ys lo hi).length := by
  unfold cut
  rw [h]
  simp [h]
theorem RpAll.drop {vs : List V} {xs : List PyData} (r : RpAll K H vs xs) : ∀ n, RpAll K H (vs.drop n) (xs.drop n)
  | 0 => r
  | n + 1 => by
    cases r with
    | nil => exact .nil
    | cons _ r => exact RpAll.drop r n
theorem RpAll.take {vs : List V} {xs : List PyData} (r : RpAll K H vs xs) : ∀ n, RpAll K H (vs.take n) (xs.take n)
  | 0 => .nil
  | n + 1 => by
    cases r with
    | nil => exact .nil
    | cons h r => exact .cons h (RpAll.take r n)
theorem RpAll.cut {vs : List V} {xs : List PyData} (r : RpAll K H vs xs) (lo hi : Option Int) : RpAll K H (cutV vs lo hi) (Wh.cut xs lo hi) := by
  unfold cutV Wh.cut
  rw [r.length]
  exact (r.drop _).take _
theorem RpAll.reverse {vs : List V} {xs : List PyData} (r : RpAll K H vs xs) : RpAll K H vs.reverse xs.reverse := by
  induction vs generalizing xs with
  | nil => cases r; exact .nil
  | cons v vs ih =>
    cases r with
    | cons h r =>
      rw [List.reverse_cons, List.reverse_cons]
      exact (ih r).append (.cons h .nil)
theorem map_cut {xs : List PyData} (lo hi : Option Int) : (Wh.cut (xs.map D.p) lo hi) = (Wh.cut xs lo hi).map D.p := by
  unfold Wh.cut
  rw [List.length_map, List.map_take, List.map_drop]
def rSlX (K : PySem.W.Frag) : V → Option Int → Option Int → Hp → VK → Prop := fun x lo hi H Q => rSlA K x lo hi H Q ∨ rSlL K x lo hi H Q ∨ rSlS x lo hi H Q
theorem sl_X : SlR X (rSlX X.K) := sl_tupA.or (sl_list.or sl_str)
theorem slc_ok {x z : D} {v : V} {G : List Addr} {lo hi : Option Int} (h : slcV x lo hi = some z) (r : RD K CA H x v G) (q : Al K CA H z Q) : rSlX K v lo hi H Q := by
  cases r with
  | p r =>
    cases r with
    | @tup a vs xs hs p1 =>
      simp only [slcV] at h
      cases h
      have l := p1.length
      refine .inl ⟨a, vs, rfl, hs, fun e => ?_, fun _ => q.tuple (p1.cut lo hi)⟩
      have e' : Wh.cut xs lo hi = xs := by
        unfold Wh.cut
        rw [← l, e.1, e.2, Nat.sub_zero, List.drop_zero, l, List.take_length]
      rw [e'] at q
      exact q.p (.tup hs p1)
    | @lst a vs xs hs p1 =>
      simp only [slcV] at h
      cases h
      exact .inr (.inl ⟨a, vs, rfl, hs.sq, q.list (p1.cut lo hi)⟩)
    | str s =>
      simp only [slcV] at h
      split at h
      · rename_i hl
        cases h
        exact .inr (.inr ⟨s, rfl, hl, q.p (.str _)⟩)
      · cases h
    | _ => simp [slcV] at h
  | @lst a vs ds F h1 q1 =>
    simp only [slcV] at h
    split at h
    · rename_i hp
      cases h
      obtain ⟨xs, e, eq⟩ := allP_map hp
      subst eq
      rw [map_cut] at q
      exact .inr (.inl ⟨a, vs, rfl, SqL.of h1, q.list ((q1.allP e).2.cut lo hi)⟩)
    · cases h
  | _ => simp [slcV] at h
def tO (K : PySem.W.Frag) (CA : Str → Addr) (c : Cfg) (e : Option E) : TO := fun σ H Q => ∃ lk ε F o ε', Rel K CA H ε σ F ∧ evO c lk e ε = some (o, ε') ∧ ∀ H' F', Rel K CA H' ε' σ F' → Po lk H F H' F' [] → Q o H'
theorem po_mono {e : Option Expr} {t t' : TO} (h : PO X e t) (f : ∀ σ H Q, t' σ H Q → t σ H Q) : PO X e t' := ⟨fun pins s σ H Q I hw => h.run pins s σ H Q I (f σ H Q hw)⟩
theorem snd_onone : PO X none (tO X.K CA c none) := po_mono po_none fun σ H Q ⟨lk, ε, F, o, ε', rel, he, q⟩ => by
  simp only [evO] at he
  cases he
  exact q H F rel Po.refl
theorem snd_osome {e : E} (h : PE X a (tE X.K CA c e)) : PO X (some a) (tO X.K CA c (some e)) := po_mono (po_some h) fun σ H Q ⟨lk, ε, F, o, ε', rel, he, q⟩ => by
  simp only [evO] at he
  unfold optI at he
  split at he
  · rename_i i ε1 h1
    cases he
    refine ⟨lk, ε, F, _, _, rel, h1, fun v H1 F1 T1 rel1 po1 vr1 => ?_⟩
    obtain ⟨t, r⟩ := vr1.p
    subst t
    cases r
    exact ⟨i, rfl, q H1 F1 rel1 po1⟩
  · cases he
theorem snd_slc {lo hi : Option Expr} {elo ehi : Option E} {p2 : Pos} (ha : PE X a (tE X.K CA c ea)) (hl : PO X lo (tO X.K CA c elo)) (hh : PO X hi (tO X.K CA c ehi)) : PE X (.Subscript a (.Slice lo hi none p2) pos) (tE X.K CA c (.slc ea elo ehi)) := by
  refine pe_mono (pe_slice sl_X ha hl hh) fun σ H Q ⟨lk, ε, F, d, ε', rel, he, q⟩ => ?_
  simp only [ev, Option.bind_eq_some_iff, Option.map_eq_some_iff] at he
  obtain ⟨⟨x, ε1⟩, h1, ⟨l, ε2⟩, h2, ⟨u, ε3⟩, h3, z, h4, e⟩ := he
  cases e
  refine ⟨lk, ε, F, x, ε1, rel, h1, fun v H1 F1 T1 rel1 po1 vr1 => ⟨lock lk ea x, ε1, F1, l, ε2, rel1, h2, fun H2 F2 rel2 po2 => ⟨lock lk ea x, ε2, F2, u, ε3, rel2, h3, fun H3 F3 rel3 po3 => ?_⟩⟩⟩
  obtain ⟨vr1', po⟩ := snd_two po1 vr1 rel1 (po2.cons po3)
  obtain ⟨G1, r1⟩ := vr1'.rd
  exact slc_ok h4 r1 fun w H4 T s nd fr rd => q w H4 F3 T (rel3.same s) (po.al rel3 s nd fr) (.of_rd rfl rd)
theorem snd_revL {k : Nat} {p1 p2 p3 : Pos} (ha : PE X a (tE X.K CA c ea)) :
    PE X (.Subscript a (.Slice none none (some (.UnaryOp .USub (.Constant (.int 1) k p1) p2)) p3) pos) (tE X.K CA c (.rev ea)) := by
  refine pe_mono (pe_revX ha) fun σ H Q ⟨lk, ε, F, d, ε', rel, he, q⟩ => ?_
  simp only [ev, Option.bind_eq_some_iff, Option.map_eq_some_iff] at he
  obtain ⟨⟨x, ε1⟩, h1, z, h2, e⟩ := he
  cases e
  refine ⟨lk, ε, F, x, ε1, rel, h1, fun v H1 F1 T1 rel1 po1 vr1 => ?_⟩
  obtain ⟨G1, r1⟩ := vr1.rd
  have fin : Al X.K CA H1 d Q := fun w H4 T s nd fr rd => q w H4 F1 T (rel1.same s) (po1.al rel1 s nd fr) (.of_rd rfl rd)
  cases r1 with
  | p r =>
    cases r with
    | @lst p vs xs hs p1 =>
      simp only [revV] at h2
      cases h2
      exact .inl ⟨p, vs, rfl, hs.sq, fin.list p1.reverse⟩
    | @tup p vs xs hs p1 =>
      simp only [revV] at h2
      cases h2
      exact .inr ⟨p, vs, rfl, hs, fin.tuple p1.reverse⟩
    | _ => simp [revV] at h2
  | @lst p vs ds F h3 q1 =>
    simp only [revV] at h2
    split at h2
    · rename_i hp
      cases h2
      obtain ⟨xs, e, eq⟩ := allP_map hp
      subst eq
      rw [← List.map_reverse] at fin
      exact .inl ⟨p, vs, rfl, SqL.of h3, fin.list (q1.allP e).2.reverse⟩
    · cases h2
  | _ => simp [revV] at h2
end
end Wh


set_option Elab.async false
set_option linter.all false
set_option maxRecDepth 100000
set_option maxHeartbeats 1000000
namespace Wh
open PySem PySem.Spec PyProof.Rows L2
section
variable {X : Cx} {CA : Str → Addr} {c : Cfg} {K : PySem.W.Frag} {H : Hp} {Q : VK} {σ : L2.St}
variable {a b : Expr} {ea eb : E} {pos : Pos}

/-! ### paths, evaluated -/
def tL (K : PySem.W.Frag) (CA : Str → Addr) (e : E) : TE := fun σ H Q => ∃ ε F x, Rel K CA H ε σ F ∧ litK e ε = some x ∧ ∀ v, Rp K H v x → Q v H
def tP (K : PySem.W.Frag) (CA : Str → Addr) (e : E) : TE := fun σ H Q => ∃ ε F i π y, Rel K CA H ε σ F ∧ pathE e ε = some (i, π, y) ∧ ∀ v0 v, σ[i]? = some (some v0) → AtV K H v0 π v → Q v H
theorem lit_cst {x : PyData} {v : V} (h : PE X a (tC v)) (r : ∀ H, Rp X.K H v x) : PE X a (tL X.K CA (.cst x)) := pe_mono h fun σ H Q ⟨ε, F, y, rel, e, q⟩ => by
  simp only [litK] at e
  cases e
  exact q v (r H)
theorem lit_neg {i : Int} {j : Nat} {p : Pos} : PE X (.UnaryOp .USub (.Constant (.int i) j p) pos) (tL X.K CA (.neg (.cst (.int i)))) := pe_mono (pe_un un_neg pe_int) fun σ H Q ⟨ε, F, y, rel, e, q⟩ => by
  simp only [litK] at e
  cases e
  exact ⟨i, rfl, q _ (.int _)⟩
theorem lit_var {i : Nat} (h : PE X a (tVar i)) : PE X a (tL X.K CA (.var i)) := pe_mono h fun σ H Q ⟨ε, F, y, rel, e, q⟩ => by
  simp only [litK] at e
  split at e
  · rename_i x hx
    cases e
    obtain ⟨v, hv, r⟩ := rel.val i _ hx
    obtain ⟨_, x', e', rp⟩ := r.isP rfl
    cases e'
    exact ⟨v, hv, q v rp⟩
  · cases e
theorem path_var {i : Nat} (h : PE X a (tVar i)) : PE X a (tP X.K CA (.var i)) := pe_mono h fun σ H Q ⟨ε, F, j, π, y, rel, e, q⟩ => by
  simp only [pathE] at e
  split at e
  · rename_i d hd
    cases e
    obtain ⟨v, hv, r⟩ := rel.val i _ hd
    exact ⟨v, hv, q v v hv .nil⟩
  · cases e
/-- the tree at a path, by the slot's -/
theorem path_rd {ε : Env} {F : Fo} {i : Nat} {π : List St1} {y : D} {e : E} (rel : Rel K CA H ε σ F) (h : pathE e ε = some (i, π, y)) : ∃ d v0 v G, ε[i]? = some (some d) ∧ σ[i]? = some (some v0) ∧ RD K CA H d v0 (F i) ∧ AtV K H v0 π v ∧ RD K CA H y v G ∧ G.Nodup ∧ (∀ a ∈ G, a ∈ F i) ∧
    ∀ H' z G' d', d.putAt π z = some d' → RD K CA H' z v G' → G'.Nodup → ImK H H' → (∀ b ∈ F i, b ∉ G → H' b = H b) → (∀ b ∈ G', b ∈ G ∨ b ∉ F i) → ∃ F', RD K CA H' d' v0 F' ∧ F'.Nodup ∧ ∀ b ∈ F', (b ∈ F i ∧ b ∉ G) ∨ b ∈ G' := by
  obtain ⟨d, hd, hg⟩ := pathE_get e h
  obtain ⟨v0, hv, r⟩ := rel.val i d hd
  obtain ⟨v, G, at1, ry, n, s, up⟩ := lens π r (rel.nd i) hg
  exact ⟨d, v0, v, G, hd, hv, r, at1, ry, n, s, up⟩
theorem path_attr {f : Str} (hb : attributeBase a f X.env (eval a X.env) = eval a X.env) (ha : PE X a (tP X.K CA ea)) : PE X (.Attribute a f pos) (tP X.K CA (.attr ea f)) := by
  refine pe_mono (pe_fld ha hb) fun σ H Q ⟨ε, F, i, π, y, rel, h, q⟩ => ?_
  have h0 := h
  simp only [pathE, Option.bind_eq_some_iff, Option.map_eq_some_iff] at h
  obtain ⟨⟨i', π', d'⟩, h1, x, h2, e⟩ := h
  cases e
  obtain ⟨_, v0, v, G, _, hv, _, at1, _⟩ := path_rd rel h0
  obtain ⟨w, at2, st⟩ := at1.unsnoc
  refine ⟨ε, F, i', π', d', rel, h1, fun u0 u hu atu => ?_⟩
  rw [hv] at hu
  cases hu
  have := at2.det atu
  subst this
  cases st with
  | fld e1 cl na e2 => exact ⟨_, _, _, _, _, rfl, e1, cl, na, e2, q v0 v hv at1⟩
theorem path_idx (hu : X.A.units + 1 < cLine) (hs : PlainIx b) (ha : PE X a (tP X.K CA ea)) (hb : PE X b (tL X.K CA eb)) : PE X (.Subscript a b pos) (tP X.K CA (.idx ea eb)) := by
  refine pe_mono (pe_ix (ix_X hu) ha hb hs) fun σ H Q ⟨ε, F, i, π, y, rel, h, q⟩ => ?_
  have h0 := h
  simp only [pathE, Option.bind_eq_some_iff, Option.map_eq_some_iff] at h
  obtain ⟨⟨i', π', d'⟩, h1, kk, hk, s, hs', x, h2, e⟩ := h
  cases e
  obtain ⟨_, v0, v, G, _, hv, _, at1, ry, _⟩ := path_rd rel h0
  obtain ⟨_, v0', w', G', _, hv', _, at1', ry', _⟩ := path_rd rel h1
  rw [hv] at hv'
  cases hv'
  obtain ⟨w, at2, st⟩ := at1.unsnoc
  have := at2.det at1'
  subst this
  refine ⟨ε, F, i', π', d', rel, h1, fun u0 u hu atu => ?_⟩
  rw [hv] at hu
  cases hu
  have := at2.det atu
  subst this
  refine ⟨ε, F, kk, rel, hk, fun kv rk => ?_⟩
  have fin := q v0 v hv at1
  cases ry' with
  | @lst p vs ds F0 e1 r =>
    cases rk with
    | int j =>
      simp only [stepOf, Option.map_eq_some_iff] at hs'
      obtain ⟨n, hn, rfl⟩ := hs'
      cases st with
      | lst e2 e3 =>
        rw [e1] at e2
        cases e2
        exact .inl (.inl ⟨p, vs, j, v, rfl, rfl, SqL.of e1, by unfold atI; rw [← r.length, hn]; exact e3, fin⟩)
      | tup e2 e3 => rw [e1] at e2; cases e2
    | _ => simp [stepOf] at hs'
  | @tup p vs ds F0 e1 r =>
    cases rk with
    | int j =>
      simp only [stepOf, Option.map_eq_some_iff] at hs'
      obtain ⟨n, hn, rfl⟩ := hs'
      cases st with
      | lst e2 e3 => rw [e1] at e2; cases e2
      | tup e2 e3 =>
        rw [e1] at e2
        cases e2
        exact .inl (.inr (.inl ⟨p, vs, j, v, rfl, rfl, SqT.of e1, by unfold atI; rw [← r.length, hn]; exact e3, fin⟩))
    | _ => simp [stepOf] at hs'
  | @dic p kvs ds F0 e1 n r =>
    simp only [stepOf, Option.map_eq_some_iff] at hs'
    obtain ⟨k, hk', rfl⟩ := hs'
    cases st with
    | dic e2 e3 =>
      rw [e1] at e2
      cases e2
      exact .inr ⟨p, v, rfl, .inl ⟨kvs, k, .inl e1, kvP rk hk', e3.symm⟩, fin⟩
  | p r => simp [stepOf] at hs'
  | obj => simp [stepOf] at hs'

/-! ### one slot's tree changed -/
theorem Po.slot {lk : List Nat} {H H2 H3 : Hp} {F F2 : Fo} {T T' F' : List Addr} {ε2 : Env} {i : Nat} {d' : D} {v0 : V} (po : Po lk H F H2 F2 T) (rel : Rel K CA H2 ε2 σ F2) (hi : i ∉ lk) (hv : σ[i]? = some (some v0))
    (k3 : ∀ a o, H2 a = some o → a ∉ T → a ∉ F2 i → H3 a = some o) (im : ImK H2 H3) (rd : RD K CA H3 d' v0 F') (nd : F'.Nodup) (fr : ∀ a ∈ F', a ∈ F2 i ∨ a ∈ T ∨ H2 a = none)
    (ndT : T'.Nodup) (frT : ∀ a ∈ T', a ∈ F2 i ∨ a ∈ T ∨ H2 a = none) (dj : ∀ a ∈ F', a ∉ T') :
    Rel K CA H3 (ε2.set i (some d')) σ (fun j => if j = i then F' else F2 j) ∧ Po lk H F H3 (fun j => if j = i then F' else F2 j) T' := by
  have apart : ∀ {L : List Addr}, (∀ a ∈ L, a ∈ F2 i ∨ a ∈ T ∨ H2 a = none) → ∀ j, j ≠ i → ∀ a ∈ F2 j, a ∉ L := fun hL j hj a ha hl => by
    rcases hL a hl with z | z | z
    · exact hj (rel.dj j i a ha z)
    · exact po.djT j a ha z
    · obtain ⟨o, e⟩ := (rel.mutk j a ha).some
      rw [z] at e; cases e
  have old : ∀ {L : List Addr}, (∀ a ∈ L, a ∈ F2 i ∨ a ∈ T ∨ H2 a = none) → ∀ a ∈ L, (∃ j, j ∉ lk ∧ a ∈ F j) ∨ H a = none := fun hL a ha => by
    rcases hL a ha with z | z | z
    · exact po.old i hi a z
    · exact po.oldT a z
    · cases e : H a with
      | none => exact .inr rfl
      | some o =>
        by_cases w : ∃ j, j ∉ lk ∧ a ∈ F j
        · exact .inl w
        · have := po.kp a o e fun j hj hm => w ⟨j, hj, hm⟩
          rw [z] at this; cases this
  have hlt : i < ε2.length := by
    rw [← rel.len]
    exact (List.getElem?_eq_some_iff.mp hv).1
  refine ⟨⟨by rw [List.length_set]; exact rel.len, fun j d e => ?_, fun j hj => ?_, fun j k a h1 h2 => ?_, fun j => ?_⟩, ⟨fun a o h n => ?_, po.im.trans im, fun j hj => ?_, fun j hj a ha => ?_, old frT, ndT, fun j a ha hm => ?_⟩⟩
  · by_cases hj : j = i
    · subst hj
      rw [List.getElem?_set_self hlt] at e
      cases e
      exact ⟨v0, hv, by rw [if_pos rfl]; exact rd⟩
    · rw [List.getElem?_set_ne (Ne.symm hj)] at e
      obtain ⟨v, e1, q⟩ := rel.val j d e
      refine ⟨v, e1, ?_⟩
      rw [if_neg hj]
      refine q.keep im fun a ha => ?_
      obtain ⟨o, z⟩ := (q.mutk a ha).some
      rw [z]
      exact k3 a o z (po.djT j a ha) fun w => hj (rel.dj j i a ha w)
  · by_cases hj' : j = i
    · subst hj'
      exact absurd (List.getElem?_set_self hlt) (hj d')
    · rw [if_neg hj']
      exact rel.emp j fun d z => hj d (by rw [List.getElem?_set_ne (Ne.symm hj')]; exact z)
  · by_cases hj : j = i
    · by_cases hk : k = i
      · rw [hj, hk]
      · rw [if_pos hj] at h1
        rw [if_neg hk] at h2
        exact absurd h1 (apart fr k hk a h2)
    · by_cases hk : k = i
      · rw [if_neg hj] at h1
        rw [if_pos hk] at h2
        exact absurd h2 (apart fr j hj a h1)
      · rw [if_neg hj] at h1
        rw [if_neg hk] at h2
        exact rel.dj j k a h1 h2
  · by_cases hj : j = i
    · rw [if_pos hj]; exact nd
    · rw [if_neg hj]; exact rel.nd j
  · refine k3 a o (po.kp a o h n) (fun z => ?_) fun z => ?_
    · rcases po.oldT a z with ⟨j, hj, w⟩ | w
      · exact n j hj w
      · rw [h] at w; cases w
    · rcases po.old i hi a z with ⟨j, hj, w⟩ | w
      · exact n j hj w
      · rw [h] at w; cases w
  · show (if j = i then F' else F2 j) = F j
    rw [if_neg (show ¬ j = i from fun z => hi (by rw [← z]; exact hj))]; exact po.lkd j hj
  · have ha : a ∈ (if j = i then F' else F2 j) := ha
    by_cases hji : j = i
    · rw [if_pos hji] at ha; exact old fr a ha
    · rw [if_neg hji] at ha; exact po.old j hj a ha
  · have ha : a ∈ (if j = i then F' else F2 j) := ha
    by_cases hji : j = i
    · rw [if_pos hji] at ha; exact dj a ha hm
    · rw [if_neg hji] at ha; exact apart frT j hji a ha hm

/-! ### append, extend, pop -/
theorem mut_core {es : List E} {as : List Expr} {m : Str} {id ms : String} {apos cpos : Pos} {r : V → List V → Hp → VK → Prop} (he : PE X (.Call (.Attribute a m apos) as [] cpos) (tBM X.K "list" r (tP X.K CA ea) (tA X.K CA c es)))
    (go : ∀ {H : Hp} {p : Addr} {vs0 vs : List V} {ds0 ds : List D} {G0 T : List Addr} {z rz : D} {Q : VK}, H p = some (.lst vs0) → RDs X.K CA H ds0 vs0 G0 → RDs X.K CA H ds vs T → (p :: G0).Nodup → T.Nodup → (∀ a ∈ p :: G0, a ∉ T) → mutV (frz c) ms (.lst ds0) ds = some (z, rz) →
      (∀ v H3 G' R, RD X.K CA H3 z (.ref p) G' → RD X.K CA H3 rz v R → G'.Nodup → R.Nodup → (∀ a ∈ G', a ∉ R) → (∀ a ∈ G', a ∈ p :: G0 ∨ a ∈ T ∨ H a = none) → (∀ a ∈ R, a ∈ p :: G0 ∨ a ∈ T ∨ H a = none) → ImK H H3 → (∀ a o, H a = some o → a ∉ p :: G0 → a ∉ T → H3 a = some o) → Q v H3) →
      r (.ref p) vs H (fun v H1 => FzW (Q v) H1)) :
    PE X (.Call (.Attribute a m apos) as [] cpos) (tE X.K CA c (.mut ea ms es)) := by
  refine pe_mono (pe_fz he) fun σ H Q ⟨lk, ε, F, d, ε', rel, hev, q⟩ => ?_
  simp only [ev, Option.bind_eq_some_iff] at hev
  obtain ⟨⟨i, π, y⟩, hp, hev⟩ := hev
  simp only at hev
  split at hev
  · cases hev
  · rename_i hi
    simp only [Option.bind_eq_some_iff] at hev
    obtain ⟨⟨ds, ε2⟩, h2, hev⟩ := hev
    simp only at hev
    split at hev
    · rename_i hs
      simp only [Option.bind_eq_some_iff, Option.map_eq_some_iff] at hev
      obtain ⟨⟨z, rz⟩, h3, d', h4, e⟩ := hev
      cases e
      obtain ⟨d0, v0, v, G, hd0, hv0, rd0, at0, ry, nG, sG, up⟩ := path_rd rel hp
      refine ⟨ε, F, i, π, y, rel, hp, fun u0 u hu atu => ?_⟩
      rw [hv0] at hu
      cases hu
      have := at0.det atu
      subst this
      have hy : ∃ ds0, y = .lst ds0 := by
        cases y with
        | lst ds0 => exact ⟨ds0, rfl⟩
        | _ => simp [mutV] at h3
      obtain ⟨ds0, rfl⟩ := hy
      cases ry with
      | @lst p vs0 _ G0 e1 r0 =>
        refine ⟨.inl ⟨rfl, vs0, SqL.of e1⟩, i :: lk, ε, F, ds, ε2, rel, h2, fun vs H2 F2 Ts rel2 po2 vrs => ?_⟩
        have fi : F2 i = F i := po2.lkd i List.mem_cons_self
        have stay : ∀ a ∈ F i, H2 a = H a := fun a ha => po2.stay (rel.mutk i a ha) fun j hj z => hj (by rw [rel.dj j i a z ha]; exact List.mem_cons_self)
        have r0' : RDs X.K CA H2 ds0 vs0 G0 := r0.keep po2.im fun a ha => stay a (sG a (List.mem_cons_of_mem _ ha))
        have e1' : H2 p = some (.lst vs0) := (stay p (sG p List.mem_cons_self)).trans e1
        refine go e1' r0' (vrs.rds hs) nG po2.ndT (fun a ha hT => po2.djT i a (by rw [fi]; exact sG a ha) hT) h3 fun w H3 G' R rz' rr nG' nR dj fG fR im k3 => ?_
        have put : d0.putAt π z = some d' := by
          simp only [putD, hd0] at h4
          exact h4
        obtain ⟨F', rd', nF', sF'⟩ := up H3 z G' d' put rz' nG' (po2.im.trans im) (fun b hb nb => by
            obtain ⟨o, eo⟩ := (rel.mutk i b hb).some
            rw [eo]
            exact k3 b o ((stay b hb).trans eo) nb fun hT => po2.djT i b (by rw [fi]; exact hb) hT) fun b hb => by
          rcases fG b hb with w | w | w
          · exact .inl w
          · exact .inr fun hF => po2.djT i b (by rw [fi]; exact hF) w
          · refine .inr fun hF => ?_
            obtain ⟨o, eo⟩ := (rel.mutk i b hF).some
            rw [stay b hF, eo] at w; cases w
        have sub : ∀ a ∈ p :: G0, a ∈ F2 i := fun a ha => by rw [fi]; exact sG a ha
        have frF : ∀ a ∈ F', a ∈ F2 i ∨ a ∈ Ts.flatten ∨ H2 a = none := fun a ha => by
          rcases sF' a ha with w | w
          · exact .inl (by rw [fi]; exact w.1)
          · rcases fG a w with w | w | w
            · exact .inl (sub a w)
            · exact .inr (.inl w)
            · exact .inr (.inr w)
        have frR : ∀ a ∈ R, a ∈ F2 i ∨ a ∈ Ts.flatten ∨ H2 a = none := fun a ha => by
          rcases fR a ha with w | w | w
          · exact .inl (sub a w)
          · exact .inr (.inl w)
          · exact .inr (.inr w)
        have djR : ∀ a ∈ F', a ∉ R := fun a ha hR => by
          rcases sF' a ha with w | w
          · rcases fR a hR with x | x | x
            · exact w.2 x
            · exact po2.djT i a (by rw [fi]; exact w.1) x
            · obtain ⟨o, eo⟩ := (rel.mutk i a w.1).some
              rw [stay a w.1, eo] at x; cases x
          · exact dj a w hR
        obtain ⟨rel3, po3⟩ := (po2.mono fun j hj => List.mem_cons_of_mem _ hj).slot rel2 hi hv0 (H3 := H3) (T' := R) (fun a o eo nT nF => k3 a o eo (fun z => nF (sub a z)) nT) im rd' nF' frF nR frR djR
        exact q w H3 _ R rel3 po3 (.of_rd rfl rr)
    · cases hev
theorem mkF {G0 T G : List Addr} {p : Addr} (n : (p :: G0).Nodup) (g : G.Nodup) (d : ∀ a ∈ p :: G0, a ∉ T) (s : ∀ a ∈ G, a ∈ T) : (p :: (G0 ++ G)).Nodup := by
  obtain ⟨n1, n2⟩ := List.nodup_cons.mp n
  refine List.nodup_cons.mpr ⟨fun z => ?_, List.nodup_append.mpr ⟨n2, g, fun a ha b hb e => ?_⟩⟩
  · rcases List.mem_append.mp z with z | z
    · exact n1 z
    · exact d p List.mem_cons_self (s p z)
  · subst e
    exact d a (List.mem_cons_of_mem _ ha) (s a hb)
theorem RDs.append {ds es : List D} {vs ws : List V} {F G : List Addr} (a : RDs K CA H ds vs F) (b : RDs K CA H es ws G) : RDs K CA H (ds ++ es) (vs ++ ws) (F ++ G) := by
  induction ds generalizing vs F with
  | nil => cases a; exact b
  | cons d ds ih =>
    cases a with
    | cons h r =>
      rw [List.append_assoc]
      exact .cons h (ih r)
theorem frz_one {d : D} {v : V} {T : List Addr} (h : RD K CA H d v T) (nd : T.Nodup) :
    FzW (fun H' => (∃ G, RD K CA H' (frz c d) v G ∧ G.Nodup ∧ ∀ a ∈ G, a ∈ T) ∧ ImK H H' ∧ ∀ a, a ∉ T → H' a = H a) H := by
  unfold frz
  cases hc : c.fz with
  | false => exact .done ⟨⟨T, h, nd, fun _ h => h⟩, ImK.refl H, fun _ _ => rfl⟩
  | true => exact h.fz nd
theorem star_ns : ∀ {as : List Expr}, (∀ a ∈ as, NS a) → ∀ env, starEach as env = as.map fun a => (false, eval a env)
  | [], _, _ => rfl
  | a :: as, h, env => by rw [h a List.mem_cons_self as env, star_ns fun b hb => h b (List.mem_cons_of_mem _ hb)]; rfl
theorem star_any {as : List Expr} (h : ∀ a ∈ as, NS a) (env : PySem.Env) (p : Pos) : (backTo p (starEach as env)).any (·.1) = false := by
  rw [star_ns h env]
  unfold backTo
  induction as with
  | nil => rfl
  | cons a as ih => simpa using ih fun b hb => h b (List.mem_cons_of_mem _ hb)
theorem star_all {as : List Expr} (h : ∀ a ∈ as, NS a) (env : PySem.Env) (p : Pos) (hl : as.length < 28) : ((backTo p (starEach as env)).all (fun x => !x.1) && (backToKw p (keywordEach [] env)).all (fun x => x.1.isSome) && decide (as.length + ([] : List Keyword).length + (if ([] : List Keyword).isEmpty then 0 else 1) < 30)) = true := by
  have e1 : (backTo p (starEach as env)).all (fun x => !x.1) = true := by
    rw [star_ns h env]
    unfold backTo
    rw [List.all_eq_true]
    intro x hx
    simp only [List.mem_map] at hx
    obtain ⟨y, ⟨z, hz, rfl⟩, rfl⟩ := hx
    rfl
  rw [e1]
  simp [backToKw, keywordEach]
  omega
/-- a method of a built-in type, its arguments any plain ones -/
theorem bm_any {T id : String} {m : Str} {apos cpos : Pos} {es : List E} {as : List Expr} {te : TE} {r : V → List V → Hp → VK → Prop} (pa : PlainAttrs T) (slot : Slot T m id) (hty : typeOf (.builtin id) = pure (.type "method_descriptor")) (hm : MtR X id r) (ho : PE X a te)
    (h : AllE X CA c es as) (hn : ∀ a ∈ as, NS a) (h0 : as ≠ []) (hl : as.length < 28) (hbase : attributeBase a m X.env (eval a X.env) = eval a X.env) (hline : (apos.endLine == cpos.line) = true) :
    PE X (.Call (.Attribute a m apos) as [] cpos) (tBM X.K T r te (tA X.K CA c es)) := by
  cases as with
  | nil => exact absurd rfl h0
  | cons a1 as =>
    exact pe_bm pa slot hty hm ho (snd_args h hn) hbase (star_all hn _ _ hl) hline (hn a1 List.mem_cons_self as X.env) (star_any (fun b hb => hn b (List.mem_cons_of_mem _ hb)) _ _)
theorem ne_imm {p : Addr} {vs : List V} {o : HO} (h : H p = some (.lst vs)) : ImK H (upd H p o) := fun b u e i => by
  rw [upd_ne (fun z => by subst z; rw [h] at e; cases e; exact i)]; exact e
theorem snd_append {as : List Expr} {es : List E} {apos cpos : Pos} (ho : PE X a (tP X.K CA ea)) (h : AllE X CA c es as) (hn : ∀ a ∈ as, NS a) (h0 : as ≠ []) (hl : as.length < 28) (hbase : attributeBase a "append" X.env (eval a X.env) = eval a X.env) (hline : (apos.endLine == cpos.line) = true) :
    PE X (.Call (.Attribute a "append" apos) as [] cpos) (tE X.K CA c (.mut ea "append" es)) := by
  refine mut_core (id := "list.append") (bm_any PySem.F.plainAttrs_list PySem.F.slot_list_append PySem.F.type_list_append mt_append ho h hn h0 hl hbase hline) ?_
  intro H p vs0 vs ds0 ds G0 T z rz Q e1 r0 rds nG nT dT hm k
  cases rds with
  | nil => simp [mutV] at hm
  | @cons x y F1 ds' vs' F2 rx rr =>
    cases rr with
    | cons _ _ => simp [mutV] at hm
    | nil =>
      rw [List.append_nil] at nT dT k
      simp only [mutV, if_true] at hm
      split at hm
      · rename_i hz
        cases hm
        have hnp : p ∉ F1 := dT p List.mem_cons_self
        have l0 := r0.length
        refine ⟨p, vs0, y, rfl, rfl, e1, by omega, ?_⟩
        have im1 := ne_imm (o := .lst (vs0 ++ [y])) e1
        have rx1 : RD X.K CA (upd H p (.lst (vs0 ++ [y]))) x y F1 := rx.keep im1 fun a ha => upd_ne fun q => hnp (q ▸ ha)
        refine (frz_one (c := c) rx1 nT).mono fun H3 ⟨⟨G, r3, ng, sg⟩, im, kp⟩ => ?_
        have hp3 : H3 p = some (.lst (vs0 ++ [y])) := (kp p hnp).trans upd_same
        have r03 : RDs X.K CA H3 ds0 vs0 G0 := r0.keep (im1.trans im) fun a ha => by
          have na : a ≠ p := fun q => (List.nodup_cons.mp nG).1 (q ▸ ha)
          rw [kp a (dT a (List.mem_cons_of_mem _ ha)), upd_ne na]
        refine k .non H3 (p :: (G0 ++ G)) [] (.lst hp3 ?_) (.p .non) (mkF nG ng dT sg) List.nodup_nil (fun _ _ h => nomatch h) (fun a ha => ?_) (fun _ h => nomatch h) (im1.trans im) (fun a o e n1 n2 => ?_)
        · have := r03.append (.cons r3 (.nil (K := X.K) (CA := CA) (H := H3)))
          rwa [List.append_nil] at this
        · rcases List.mem_cons.mp ha with rfl | ha
          · exact .inl List.mem_cons_self
          · rcases List.mem_append.mp ha with ha | ha
            · exact .inl (List.mem_cons_of_mem _ ha)
            · exact .inr (.inl (sg a ha))
        · rw [kp a n2, upd_ne (show a ≠ p from fun q => n1 (by rw [q]; exact List.mem_cons_self))]; exact e
      · cases hm
theorem snd_extend {as : List Expr} {es : List E} {apos cpos : Pos} (ho : PE X a (tP X.K CA ea)) (h : AllE X CA c es as) (hn : ∀ a ∈ as, NS a) (h0 : as ≠ []) (hl : as.length < 28) (hbase : attributeBase a "extend" X.env (eval a X.env) = eval a X.env) (hline : (apos.endLine == cpos.line) = true) :
    PE X (.Call (.Attribute a "extend" apos) as [] cpos) (tE X.K CA c (.mut ea "extend" es)) := by
  refine mut_core (id := "list.extend") (bm_any PySem.F.plainAttrs_list PySem.F.slot_list_extend PySem.F.type_list_extend mt_extX ho h hn h0 hl hbase hline) ?_
  intro H p vs0 vs ds0 ds G0 T z rz Q e1 r0 rds nG nT dT hm k
  cases rds with
  | nil => simp [mutV] at hm
  | @cons x y F1 ds' vs' F2 rx rr =>
    cases rr with
    | cons _ _ => simp [mutV] at hm
    | nil =>
      rw [List.append_nil] at nT dT k
      simp only [mutV, if_true] at hm
      rw [if_neg (by decide)] at hm
      simp only [Option.bind_eq_some_iff] at hm
      obtain ⟨ys, hy, hm⟩ := hm
      split at hm
      · rename_i hz
        cases hm
        obtain ⟨b, ws, rfl, ra, hb⟩ := rx.ps hy
        have l0 := r0.length
        have l1 := ra.length
        refine ⟨p, b, vs0, ws, rfl, rfl, e1, hb, by omega, .done ?_⟩
        have im1 := ne_imm (o := .lst (vs0 ++ ws)) e1
        have r01 : RDs X.K CA (upd H p (.lst (vs0 ++ ws))) ds0 vs0 G0 := r0.keep im1 fun a ha => upd_ne fun q => (List.nodup_cons.mp nG).1 (q ▸ ha)
        have ra1 : RDs X.K CA (upd H p (.lst (vs0 ++ ws))) (ys.map D.p) ws [] := (ra.im im1).rds
        refine k .non _ (p :: G0) [] (.lst upd_same ?_) (.p .non) nG List.nodup_nil (fun _ _ h => nomatch h) (fun a ha => .inl ha) (fun _ h => nomatch h) im1 (fun a o e n1 n2 => ?_)
        · have := r01.append ra1
          rwa [List.append_nil] at this
        · rw [upd_ne (show a ≠ p from fun q => n1 (by rw [q]; exact List.mem_cons_self))]; exact e
      · cases hm
theorem RDs.last {ds : List D} {vs : List V} {F : List Addr} {d : D} (r : RDs K CA H ds vs F) (h : ds.getLast? = some d) : ∃ v F1 G, vs[vs.length - 1]? = some v ∧ RD K CA H d v G ∧ F = F1 ++ G ∧ RDs K CA H ds.dropLast vs.dropLast F1 := by
  induction ds generalizing vs F with
  | nil => cases h
  | cons x ds ih =>
    cases r with
    | @cons _ v G0 _ vs1 G1 hx r =>
      cases ds with
      | nil =>
        cases r
        simp at h
        subst h
        exact ⟨v, [], G0, rfl, hx, by simp, .nil⟩
      | cons x2 ds =>
        obtain ⟨w, F1, G, e1, rd, ef, rr⟩ := ih r (by simpa using h)
        cases r with
        | @cons _ v2 _ _ vs2 _ hx2 r =>
          refine ⟨w, G0 ++ F1, G, ?_, rd, by rw [ef]; simp, ?_⟩
          · simpa using e1
          · exact .cons hx rr
theorem snd_pop {apos cpos : Pos} (ho : PE X a (tP X.K CA ea)) (hbase : attributeBase a "pop" X.env (eval a X.env) = eval a X.env) (hline : (apos.endLine == cpos.line) = true) :
    PE X (.Call (.Attribute a "pop" apos) [] [] cpos) (tE X.K CA c (.mut ea "pop" [])) := by
  have base : PE X (.Call (.Attribute a "pop" apos) [] [] cpos) (tBM X.K "list" rPop (tP X.K CA ea) (tA X.K CA c [])) := by
    refine pe_mono (pe_bm0 PySem.F.plainAttrs_list PySem.F.slot_list_pop PySem.F.type_list_pop mt_pop ho hbase hline) fun σ H Q ⟨ε, F, i, π, y, rel, hp, q⟩ => ⟨ε, F, i, π, y, rel, hp, fun v0 v hv at0 => ?_⟩
    obtain ⟨ty, q⟩ := q v0 v hv at0
    refine ⟨ty, ?_⟩
    obtain ⟨lk, ε2, F2, ds, ε3, rel2, he, q⟩ := q
    simp only [evs] at he
    cases he
    exact q [] H F2 [] rel2 Po.refl .nil
  refine mut_core (id := "list.pop") base ?_
  intro H p vs0 vs ds0 ds G0 T z rz Q e1 r0 rds nG nT dT hm k
  cases rds with
  | cons _ rr => cases rr <;> simp [mutV] at hm
  | nil =>
    simp only [mutV, if_true, Option.map_eq_some_iff] at hm
    obtain ⟨d, hd, e⟩ := hm
    cases e
    obtain ⟨v, F1, G, e2, rd, ef, rr⟩ := r0.last hd
    subst ef
    refine ⟨p, vs0, v, rfl, rfl, e1, e2, .done ?_⟩
    have im1 := ne_imm (o := .lst vs0.dropLast) e1
    obtain ⟨n1, n2⟩ := List.nodup_cons.mp nG
    obtain ⟨n3, n4, n5⟩ := List.nodup_append.mp n2
    refine k v _ (p :: F1) G (.lst upd_same (rr.keep im1 fun a ha => upd_ne fun q => n1 (q ▸ List.mem_append_left _ ha))) (rd.keep im1 fun a ha => upd_ne fun q => n1 (q ▸ List.mem_append_right _ ha)) (List.nodup_cons.mpr ⟨fun q => n1 (List.mem_append_left _ q), n3⟩) n4 (fun a ha hg => ?_) (fun a ha => .inl ?_) (fun a ha => .inl ?_) im1 (fun a o e n1 n2 => ?_)
    · rcases List.mem_cons.mp ha with rfl | ha
      · exact n1 (List.mem_append_right _ hg)
      · exact n5 a ha a hg rfl
    · rcases List.mem_cons.mp ha with rfl | ha
      · exact List.mem_cons_self
      · exact List.mem_cons_of_mem _ (List.mem_append_left _ ha)
    · exact List.mem_cons_of_mem _ (List.mem_append_right _ ha)
    · rw [upd_ne (show a ≠ p from fun q => n1 (by rw [q]; exact List.mem_cons_self))]; exact e
end
end Wh


set_option Elab.async false
set_option linter.all false
set_option maxRecDepth 100000
set_option maxHeartbeats 1000000
namespace Wh
open PySem PySem.Spec PyProof.Rows L2
section
variable {X : Cx} {CA : Str → Addr} {c : Cfg} {K : PySem.W.Frag} {H : Hp} {Q : VK} {σ : L2.St}
variable {a b : Expr} {ea eb : E} {pos : Pos}

/-! ### built-in functions -/
inductive RAny (K : PySem.W.Frag) (CA : Str → Addr) (H : Hp) : List D → List V → Prop
  | nil : RAny K CA H [] []
  | cons {d : D} {v : V} {G : List Addr} {ds : List D} {vs : List V} : RD K CA H d v G → RAny K CA H ds vs → RAny K CA H (d :: ds) (v :: vs)
theorem Vrs.any {F : Fo} {es : List E} {ds : List D} {vs : List V} {Ts : List (List Addr)} (h : Vrs K CA H σ F es ds vs Ts) : RAny K CA H ds vs := by
  induction h with
  | nil => exact .nil
  | cons h _ ih =>
    obtain ⟨G, r⟩ := h.rd
    exact .cons r ih
theorem blt_core {f : String} {e : Expr} {es : List E} {r : List V → Hp → VK → Prop} (h : PE X e (tCB r (tA X.K CA c es)))
    (hr : ∀ {H : Hp} {ds : List D} {vs : List V} {z : D} {Q : VK}, RAny X.K CA H ds vs → bltV f ds = some z → Al X.K CA H z Q → r vs H Q) : PE X e (tE X.K CA c (.blt f es)) := by
  refine pe_mono h fun σ H Q ⟨lk, ε, F, d, ε', rel, he, q⟩ => ?_
  simp only [ev, Option.bind_eq_some_iff, Option.map_eq_some_iff] at he
  obtain ⟨⟨ds, ε1⟩, h1, z, h2, e⟩ := he
  cases e
  exact ⟨lk, ε, F, ds, ε1, rel, h1, fun vs H1 F1 Ts rel1 po1 vrs => hr vrs.any h2 fun w H4 T s nd fr rd => q w H4 F1 T (rel1.same s) (po1.al rel1 s nd fr) (.of_rd rfl rd)⟩
theorem one_blt {f : String} {ds : List D} {vs : List V} {z : D} (r : RAny K CA H ds vs) (h : bltV f ds = some z) (hf : f ≠ "max" ∧ f ≠ "min") : ∃ d v G, ds = [d] ∧ vs = [v] ∧ RD K CA H d v G := by
  cases r with
  | nil => simp [bltV] at h
  | cons r1 rr =>
    cases rr with
    | nil => exact ⟨_, _, _, rfl, rfl, r1⟩
    | cons r2 rr =>
      cases rr with
      | nil =>
        unfold bltV at h
        split at h <;> first | (rename_i e; cases e; done) | skip
        · rw [if_neg hf.1, if_neg hf.2] at h; cases h
        · cases h
      | cons _ _ => simp [bltV] at h
theorem len_ok {d z : D} {v : V} {G : List Addr} (r : RD K CA H d v G) (h : bltV "len" [d] = some z) (q : Al K CA H z Q) : ∃ x n, [v] = [x] ∧ LenV K x H n ∧ Q (.int n) H := by
  simp only [bltV, if_true, Option.map_eq_some_iff] at h
  obtain ⟨n, hn, rfl⟩ := h
  refine ⟨v, n, rfl, ?_, q.p (.int _)⟩
  cases r with
  | p r =>
    cases r with
    | str x =>
      simp only [lenV] at hn
      split at hn
      · rename_i hz
        cases hn
        exact ⟨hz, rfl⟩
      · cases hn
    | lst h p => cases hn; exact .inl ⟨_, h.sq, by rw [p.length]⟩
    | tup h p => cases hn; exact .inr ⟨_, h, by rw [p.length]⟩
    | _ => cases hn
  | lst h p => cases hn; exact .inl ⟨_, SqL.of h, by rw [p.length]⟩
  | tup h p => cases hn; exact .inr ⟨_, SqT.of h, by rw [p.length]⟩
  | dic => cases hn
  | obj => cases hn
theorem RpAll.ints {vs : List V} : ∀ {xs : List PyData} {is : List Int}, RpAll K H vs xs → intsOf xs = some is → vs = is.map V.int := by
  induction vs with
  | nil => intro xs is r h; cases r; cases h; rfl
  | cons v vs ih =>
    intro xs is r h
    cases r with
    | cons r1 rr =>
      cases r1 with
      | int i =>
        simp only [intsOf, Option.map_eq_some_iff] at h
        obtain ⟨js, hj, rfl⟩ := h
        rw [ih rr hj]; rfl
      | _ => simp [intsOf] at h
theorem RpAll.strs {vs : List V} : ∀ {xs : List PyData} {is : List Str}, RpAll K H vs xs → strsOf xs = some is → vs = is.map V.str := by
  induction vs with
  | nil => intro xs is r h; cases r; cases h; rfl
  | cons v vs ih =>
    intro xs is r h
    cases r with
    | cons r1 rr =>
      cases r1 with
      | str i =>
        simp only [strsOf, Option.map_eq_some_iff] at h
        obtain ⟨js, hj, rfl⟩ := h
        rw [ih rr hj]; rfl
      | _ => simp [strsOf] at h
def bltC (f : String) : Bool := ["len", "int", "abs", "tuple", "list", "sum", "repr", "max", "min"].contains f
theorem snd_blt {f : String} {es : List E} {as : List Expr} {p : Pos} (hu : X.A.units + 110 < cLine) (hgd : X.A.guards = some []) (hc : X.calm = true) (hf : bltC f = true) (hg : Gl X (Str.ofString f)) (hm : X.mg (Str.ofString f) = none)
    (h : AllE X CA c es as) (hn : ∀ a ∈ as, NS a) (h0 : as ≠ []) : PE X (.Call (.Name (Str.ofString f) p) as [] pos) (tE X.K CA c (.blt f es)) := by
  cases as with
  | nil => exact absurd rfl h0
  | cons a1 as =>
    have st : starEach (a1 :: as) X.env = (false, eval a1 X.env) :: starEach as X.env := hn a1 List.mem_cons_self as X.env
    have pl : (backTo pos (starEach as X.env)).any (·.1) = false := star_any (fun b hb => hn b (List.mem_cons_of_mem _ hb)) _ _
    have ar := snd_args h hn
    simp only [bltC, List.contains_iff_mem, List.mem_cons, List.not_mem_nil, or_false] at hf
    rcases hf with rfl | rfl | rfl | rfl | rfl | rfl | rfl | rfl | rfl
    · refine blt_core (pe_callB call_len hg hm (by rfl) ar (by decide) (by decide) st pl) fun ra hb q => ?_
      obtain ⟨d, v, G, rfl, rfl, r⟩ := one_blt ra hb (by decide)
      exact len_ok r hb q
    · refine blt_core (pe_callTy call_int1 hg hm (by rfl) ar (by decide) (by decide) st pl) fun ra hb q => ?_
      obtain ⟨d, v, G, rfl, rfl, r⟩ := one_blt ra hb (by decide)
      simp only [bltV, if_true] at hb
      rw [if_neg (by decide)] at hb
      cases r with
      | p r =>
        cases r with
        | int i => cases hb; exact .inl ⟨i, rfl, q.p (.int _)⟩
        | bl k => cases hb; exact .inr ⟨k, rfl, q.p (.int _)⟩
        | _ => cases hb
      | _ => cases hb
    · refine blt_core (pe_callB call_abs hg hm (by rfl) ar (by decide) (by decide) st pl) fun ra hb q => ?_
      obtain ⟨d, v, G, rfl, rfl, r⟩ := one_blt ra hb (by decide)
      simp only [bltV, if_true] at hb
      rw [if_neg (by decide), if_neg (by decide)] at hb
      cases r with
      | p r =>
        cases r with
        | int i => cases hb; exact ⟨i, rfl, q.p (.int _)⟩
        | _ => cases hb
      | _ => cases hb
    · refine blt_core (pe_callTy call_tuple_of hg hm (by rfl) ar (by decide) (by decide) st pl) fun ra hb q => ?_
      obtain ⟨d, v, G, rfl, rfl, r⟩ := one_blt ra hb (by decide)
      simp only [bltV, if_true] at hb
      rw [if_neg (by decide), if_neg (by decide), if_neg (by decide), Option.map_eq_some_iff] at hb
      obtain ⟨xs, hx, rfl⟩ := hb
      obtain ⟨p, vs, rfl, ra, hh⟩ := r.ps hx
      rcases hh with hh | hh
      · exact ⟨p, vs, rfl, .inl ⟨hh.sq, q.tuple ra⟩⟩
      · exact ⟨p, vs, rfl, .inr ⟨hh, q.p (.tup hh ra)⟩⟩
    · refine blt_core (pe_callTy call_list_of hg hm (by rfl) ar (by decide) (by decide) st pl) fun ra hb q => ?_
      obtain ⟨d, v, G, rfl, rfl, r⟩ := one_blt ra hb (by decide)
      simp only [bltV, if_true] at hb
      rw [if_neg (by decide), if_neg (by decide), if_neg (by decide), if_neg (by decide), Option.map_eq_some_iff] at hb
      obtain ⟨xs, hx, rfl⟩ := hb
      obtain ⟨p, vs, rfl, ra, hh⟩ := r.ps hx
      exact ⟨p, vs, rfl, hh.elim (fun h => .inl h.sq) .inr, q.list ra⟩
    · refine blt_core (pe_callB (cr_sum hc) hg hm (by rfl) ar (by decide) (by decide) st pl) fun ra hb q => ?_
      obtain ⟨d, v, G, rfl, rfl, r⟩ := one_blt ra hb (by decide)
      simp only [bltV, if_true] at hb
      rw [if_neg (by decide), if_neg (by decide), if_neg (by decide), if_neg (by decide), if_neg (by decide)] at hb
      cases r with
      | p r =>
        cases r with
        | lst h2 rb =>
          simp only [Option.map_eq_some_iff] at hb
          obtain ⟨is, hi, rfl⟩ := hb
          exact ⟨_, is, rfl, by rw [← rb.ints hi]; exact h2.sq, q.p (.int _)⟩
        | _ => cases hb
      | lst h2 rs =>
        simp only [Option.map_eq_some_iff, Option.bind_eq_some_iff] at hb
        obtain ⟨xs, hx, is, hi, rfl⟩ := hb
        exact ⟨_, is, rfl, by rw [← (rs.allP hx).2.ints hi]; exact SqL.of h2, q.p (.int _)⟩
      | _ => cases hb
    · refine blt_core (pe_callB (call_reprX hgd hu) hg hm (by rfl) ar (by decide) (by decide) st pl) fun ra hb q => ?_
      obtain ⟨d, v, G, rfl, rfl, r⟩ := one_blt ra hb (by decide)
      simp only [bltV, if_true] at hb
      rw [if_neg (by decide), if_neg (by decide), if_neg (by decide), if_neg (by decide), if_neg (by decide), if_neg (by decide)] at hb
      simp only [Option.map_eq_some_iff, reprV, Option.bind_eq_some_iff] at hb
      obtain ⟨y, ⟨x, hx, hy⟩, rfl⟩ := hb
      split at hy
      · rename_i hs
        cases hy
        simp only [Bool.and_eq_true, decide_eq_true_eq, Bool.not_eq_true'] at hs
        exact ⟨CA, d, v, G, x, rfl, r, hx, hs.1.1, hs.1.2, hs.2, q.p (.str _)⟩
      · cases hy
    · refine blt_core (pe_callB (call_max2 hc) hg hm (by rfl) ar (by decide) (by decide) st pl) fun ra hb q => ?_
      cases ra with
      | nil => simp [bltV] at hb
      | cons r1 rr =>
        cases rr with
        | nil => simp [bltV] at hb
        | cons r2 rr =>
          cases rr with
          | cons _ _ => simp [bltV] at hb
          | nil =>
            unfold bltV at hb
            split at hb <;> first | (rename_i e; cases e; done) | (cases hb; done) | skip
            rename_i i j e
            cases e
            rw [if_pos rfl] at hb
            cases hb
            cases r1 with
            | p r1 =>
              cases r2 with
              | p r2 =>
                cases r1
                cases r2
                exact ⟨i, j, rfl, q.p (.int _)⟩
    · refine blt_core (pe_callB (call_min2 hc) hg hm (by rfl) ar (by decide) (by decide) st pl) fun ra hb q => ?_
      cases ra with
      | nil => simp [bltV] at hb
      | cons r1 rr =>
        cases rr with
        | nil => simp [bltV] at hb
        | cons r2 rr =>
          cases rr with
          | cons _ _ => simp [bltV] at hb
          | nil =>
            unfold bltV at hb
            split at hb <;> first | (rename_i e; cases e; done) | (cases hb; done) | skip
            rename_i i j e
            cases e
            rw [if_neg (by decide), if_pos rfl] at hb
            cases hb
            cases r1 with
            | p r1 =>
              cases r2 with
              | p r2 =>
                cases r1
                cases r2
                exact ⟨i, j, rfl, q.p (.int _)⟩

/-! ### isinstance -/
def tyN : Ty → String
  | .int => "int" | .bool => "bool" | .str => "str" | .tuple => "tuple" | .list => "list" | .dict => "dict"
def dTy : D → Option String
  | .p .none => some "NoneType"
  | .p (.int _) => some "int"
  | .p (.bool _) => some "bool"
  | .p (.str _) => some "str"
  | .p (.tuple _) => some "tuple"
  | .p (.list _) => some "list"
  | .p (.dict _) => some "dict"
  | .lst _ => some "list"
  | .tup _ => some "tuple"
  | .dic _ => some "dict"
  | _ => none
theorem ty_of {d : D} {v : V} {G : List Addr} (r : RD K CA H d v G) (hno : ∀ c fs, d ≠ .obj c fs) : ∃ n, dTy d = some n ∧ TyX K H v (.type n) := by
  cases r with
  | p r =>
    cases r with
    | non => exact ⟨_, rfl, .base .non⟩
    | int i => exact ⟨_, rfl, .base (.int i)⟩
    | bl i => exact ⟨_, rfl, .base (.bl i)⟩
    | str i => exact ⟨_, rfl, .base (.str i)⟩
    | tup h r =>
      refine ⟨_, rfl, ?_⟩
      rcases h with (h | ⟨o, h⟩) | ⟨o, its, n, h, h1, _⟩
      · exact .base (.tup h)
      · exact .fTuple h
      · exact .kTuple h h1
    | lst h r =>
      refine ⟨_, rfl, ?_⟩
      rcases h with ⟨o, h⟩ | ⟨its, n, h, _⟩
      · exact .base (.frz h)
      · exact .kList h rfl
    | dic h r => exact ⟨_, rfl, .fDict h⟩
  | lst h r => exact ⟨_, rfl, .base (.lst h)⟩
  | tup h r => exact ⟨_, rfl, .base (.tup h)⟩
  | dic h n r => exact ⟨_, rfl, .base (.dK h)⟩
  | obj => exact absurd rfl (hno _ _)
theorem kit_dTy (d : D) (t : Ty) (n : String) (h : dTy d = some n) : kitB n (tyN t) = some (isTy t d) := by
  unfold dTy at h
  split at h <;> first | (cases h; done) | (cases h; cases t <;> simp only [isTy] <;> decide +kernel)
theorem snd_isi {t : Ty} {p p2 : Pos} (hg : Gl X "isinstance") (hm : X.mg "isinstance" = none) (hg2 : Gl X (Str.ofString (tyN t))) (hm2 : X.mg (Str.ofString (tyN t)) = none) (ha : PE X a (tE X.K CA c ea)) (hna : NS a) :
    PE X (.Call (.Name "isinstance" p) [a, .Name (Str.ofString (tyN t)) p2] [] pos) (tE X.K CA c (.isi ea [t])) := by
  have hb : PE X (.Name (Str.ofString (tyN t)) p2) (tC (.ty (tyN t))) := by
    cases t <;> exact pe_bltn hg2 hm2 (by rfl) rfl (by decide) (by decide)
  have pa : PA X [a, .Name (Str.ofString (tyN t)) p2] (tCons (tE X.K CA c ea) (tCons (tC (.ty (tyN t))) tNil)) := pa_cons ha (pa_cons hb pa_nil (by rfl)) (hna _ _)
  refine pe_mono (pe_callB call_isi hg hm (by rfl) pa (by decide) (by decide) (hna _ _) (by rfl)) fun σ H Q ⟨lk, ε, F, d, ε', rel, he, q⟩ => ?_
  simp only [ev, Option.bind_eq_some_iff] at he
  obtain ⟨⟨x, ε1⟩, h1, he⟩ := he
  have hx : (∀ c fs, x ≠ .obj c fs) ∧ d = .p (.bool (isTy t x)) ∧ ε' = ε1 := by
    cases x with
    | obj => cases he
    | _ => simp at he; exact ⟨fun _ _ z => (nomatch z), he.1.symm, he.2.symm⟩
  obtain ⟨hx, rfl, rfl⟩ := hx
  refine ⟨lk, ε, F, x, ε', rel, h1, fun v H1 F1 T rel1 po1 vr1 => ?_⟩
  obtain ⟨G, r⟩ := vr1.rd
  obtain ⟨n, hn, ty⟩ := ty_of r hx
  exact ⟨v, .ty (tyN t), .type n, .type (tyN t), isTy t x, rfl, .ty _, ty, kit_ty (kit_dTy x t n hn), q _ H1 F1 [] rel1 po1.drop (.of_p (.bl _))⟩
end
end Wh


set_option Elab.async false
set_option linter.all false
set_option maxRecDepth 100000
set_option maxHeartbeats 1000000
namespace Wh
open PySem PySem.Spec PyProof.Rows L2
section
variable {X : Cx} {CA : Str → Addr} {c : Cfg} {K : PySem.W.Frag} {H : Hp} {Q : VK} {σ : L2.St}
variable {a b : Expr} {ea eb : E} {pos : Pos}

/-! ### methods of built-in types that change nothing -/
theorem snd_join {as : List Expr} {es : List E} {apos cpos : Pos} (ho : PE X a (tE X.K CA c ea)) (h : AllE X CA c es as) (hn : ∀ a ∈ as, NS a) (h0 : as ≠ []) (hl : as.length < 28) (hbase : attributeBase a "join" X.env (eval a X.env) = eval a X.env) (hline : (apos.endLine == cpos.line) = true) :
    PE X (.Call (.Attribute a "join" apos) as [] cpos) (tE X.K CA c (.bm ea "join" es)) := by
  refine pe_mono (bm_any PySem.F.plainAttrs_str PySem.F.slot_str_join PySem.F.type_str_join mt_join ho h hn h0 hl hbase hline) fun σ H Q ⟨lk, ε, F, d, ε', rel, he, q⟩ => ?_
  simp only [ev, Option.bind_eq_some_iff, Option.map_eq_some_iff] at he
  obtain ⟨⟨x, ε1⟩, h1, ⟨ds, ε2⟩, h2, z, h3, e⟩ := he
  cases e
  refine ⟨lk, ε, F, x, ε1, rel, h1, fun v H1 F1 T1 rel1 po1 vr1 => ?_⟩
  have h3 : bmV "join" x ds = some d := h3
  have key : ∃ t y, x = .p (.str t) ∧ ds = [y] ∧ ∃ xs ys, y.ps? = some xs ∧ strsOf xs = some ys ∧ (ys.map (·.length)).sum + ys.length * t.length ≤ 16777216 ∧ d = .p (.str (Txt.join t ys)) := by
    unfold bmV at h3
    split at h3
    · skip
      rw [if_pos rfl] at h3
      simp only [Option.bind_eq_some_iff] at h3
      obtain ⟨xs, h4, ys, h5, h6⟩ := h3
      split at h6
      · rename_i hz
        cases h6
        exact ⟨_, _, rfl, rfl, xs, ys, h4, h5, hz, rfl⟩
      · cases h6
    · rw [if_neg (by decide)] at h3; cases h3
    · rw [if_neg (by decide)] at h3; cases h3
    · cases h3
  obtain ⟨t, y, rfl, rfl, xs, ys, h4, h5, hz, rfl⟩ := key
  obtain ⟨rfl, r⟩ := vr1.p
  cases r
  refine ⟨rfl, lock lk ea (.p (.str t)), ε1, F1, [y], ε2, rel1, h2, fun vs H2 F2 Ts rel2 po2 vrs => ?_⟩
  cases vrs with
  | cons vy vr =>
    cases vr
    obtain ⟨G, ry⟩ := vy.rd
    obtain ⟨p, ws, rfl, ra, hp⟩ := ry.ps h4
    refine ⟨t, p, ys, rfl, rfl, ?_, hz, q _ H2 F2 [] rel2 ((po1.drop.cons (po2.mono (lock_sub _ _ _))).drop) (.of_p (.str _))⟩
    rw [← ra.strs h5]
    exact hp.elim (fun h => .inl h.sq) .inr
theorem dicGet_val {ds : List (Key × D)} {kvs : List (Key × V)} {F : List Addr} {k : Key} (r : RDk K CA H ds kvs F) : (dicGet ds k = none → valV kvs k = none) ∧ ∀ x, dicGet ds k = some (.p x) → ∃ v, valV kvs k = some v ∧ Rp K H v x := by
  induction ds generalizing kvs F with
  | nil => cases r; exact ⟨fun _ => rfl, (fun x h => nomatch h)⟩
  | cons p ds ih =>
    cases r with
    | @cons k' d v F1 _ vs G hr rr =>
      unfold dicGet
      by_cases hk : k' = k
      · rw [if_pos hk]
        refine ⟨(fun h => nomatch h), fun x h => ?_⟩
        cases h
        obtain ⟨_, y, e, rp⟩ := hr.isP rfl
        cases e
        exact ⟨v, valV_pos hk, rp⟩
      · rw [if_neg hk, valV_neg hk]
        exact ih rr
theorem dictGet_val {kvs : List (Key × V)} {ds : List (PyData × PyData)} {k : Key} (r : RpKv K H kvs ds) : dictGet ds k = none → valV kvs k = none := by
  induction kvs generalizing ds with
  | nil => intro _; rfl
  | cons p kvs ih =>
    cases r with
    | @cons k' v _ d _ hr rr =>
      have ek : keyOf (keyP k') = some k' := by cases k' <;> rfl
      unfold dictGet
      rw [ek]
      by_cases hk : k' = k
      · rw [if_pos (by rw [hk])]; intro h; cases h
      · rw [if_neg (by simpa using hk), valV_neg hk]; exact ih rr
theorem snd_get {e1 e2 : Expr} {k1 k2 : E} {apos cpos : Pos} (hu : X.A.units + 1 < cLine) (ho : PE X a (tE X.K CA c ea)) (h1 : PE X e1 (tE X.K CA c k1)) (h2 : PE X e2 (tE X.K CA c k2)) (n1 : NS e1) (n2 : NS e2)
    (hbase : attributeBase a "get" X.env (eval a X.env) = eval a X.env) (hline : (apos.endLine == cpos.line) = true) :
    PE X (.Call (.Attribute a "get" apos) [e1, e2] [] cpos) (tE X.K CA c (.bm ea "get" [k1, k2])) := by
  have hn : ∀ a ∈ [e1, e2], NS a := fun a ha => by
    rcases List.mem_cons.mp ha with rfl | ha
    · exact n1
    · rw [List.mem_singleton.mp ha]; exact n2
  have m2 : M2 X a "get" apos e1 e2 cpos := ⟨hbase, star_all hn _ _ (by simp), hline, by rw [star_ns hn]; rfl⟩
  refine pe_mono (pe_dget2 hu ho h1 h2 m2) fun σ H Q ⟨lk, ε, F, d, ε', rel, he, q⟩ => ?_
  simp only [ev, Option.bind_eq_some_iff, Option.map_eq_some_iff] at he
  obtain ⟨⟨x, ε1⟩, h1, ⟨ds, ε2⟩, h2, z, h3, e⟩ := he
  cases e
  simp only [evs, Option.bind_eq_some_iff, Option.map_eq_some_iff] at h2
  obtain ⟨⟨y, ε3⟩, h4, ⟨ds', ε4⟩, ⟨⟨w, ε5⟩, h5, ⟨_, _⟩, e6, w', hw', e7⟩, y', hy', e8⟩ := h2
  cases e6
  cases e7
  cases e8
  have hyw : ∃ ky dw, y' = .p ky ∧ w' = .p dw := by
    unfold bmV at h3
    split at h3
    · rename_i heq; cases heq
    · rename_i heq; cases heq; exact ⟨_, _, rfl, rfl⟩
    · rename_i heq; cases heq; exact ⟨_, _, rfl, rfl⟩
    · cases h3
  obtain ⟨ky, dw, rfl, rfl⟩ := hyw
  have hy2 := late_p hy'
  have hw2 := late_p hw'
  subst hy2 hw2
  have hlk : lock (lock lk ea x) k1 (.p ky) = lock lk ea x := by simp [lock, Wh.D.isP]
  rw [lockA_p, ← hlk] at h5
  refine ⟨lk, ε, F, x, ε1, rel, h1, fun v H1 F1 T1 rel1 po1 vr1 => ?_⟩
  have hd : ∃ p, v = .ref p ∧ IsD H1 p := by
    obtain ⟨G, r⟩ := vr1.rd
    cases r with
    | p r =>
      cases r with
      | dic h _ => exact ⟨_, rfl, .inl ⟨_, .inr ⟨_, h⟩⟩⟩
      | _ => simp [bmV] at h3
    | dic h _ _ => exact ⟨_, rfl, .inl ⟨_, .inl h⟩⟩
    | _ => simp [bmV] at h3
  obtain ⟨p, rfl, isd⟩ := hd
  refine ⟨p, rfl, isd, lock lk ea x, ε1, F1, .p ky, ε3, rel1, h4, fun v2 H2 F2 T2 rel2 po2 vr2 => ⟨lock (lock lk ea x) k1 (.p ky), ε3, F2, .p dw, ε5, rel2, h5, fun v3 H3 F3 T3 rel3 po3 vr3 => ?_⟩⟩
  obtain ⟨vr2', po23⟩ := snd_two po2 vr2 rel2 po3
  obtain ⟨vr1', po⟩ := snd_two po1 vr1 rel1 po23
  obtain ⟨rfl, ry⟩ := vr2'.p
  obtain ⟨rfl, rw'⟩ := vr3.p
  obtain ⟨G, r⟩ := vr1'.rd
  cases r with
  | p r =>
    cases r with
    | dic h6 rk =>
      simp only [bmV, if_true, Option.map_eq_some_iff] at h3
      obtain ⟨k, hk, rfl⟩ := h3
      refine ⟨_, .inl ⟨_, k, .inr ⟨_, h6⟩, kvP ry hk, rfl⟩, ?_⟩
      cases e : dictGet _ k with
      | none =>
        rw [dictGet_val rk e]
        rw [e] at q
        exact q _ H3 F3 [] rel3 po.drop (.of_p rw')
      | some z =>
        obtain ⟨u, hu, ru⟩ := dictGet_rp rk e
        rw [hu]
        rw [e] at q
        exact q _ H3 F3 [] rel3 po.drop (.of_p ru)
    | _ => simp [bmV] at h3
  | dic h6 nd rk =>
    simp only [bmV, if_true, Option.bind_eq_some_iff] at h3
    obtain ⟨k, hk, h3⟩ := h3
    refine ⟨_, .inl ⟨_, k, .inl h6, kvP ry hk, rfl⟩, ?_⟩
    have g := dicGet_val (k := k) rk
    have g1 := g.1
    have g2 := g.2
    split at h3
    · rename_i e
      cases h3
      rw [g1 e]
      exact q _ H3 F3 [] rel3 po.drop (.of_p rw')
    · rename_i z e
      cases h3
      obtain ⟨u, hu, ru⟩ := g2 z e
      rw [hu]
      exact q _ H3 F3 [] rel3 po.drop (.of_p ru)
    · cases h3
  | _ => simp [bmV] at h3

/-! ### {k: v, ..} -/
inductive KeysC (X : Cx) (g : Str → Option PyData) : List E → List Expr → Prop
  | nil : KeysC X g [] []
  | cons {e : E} {k : Key} {ke : Expr} {ks : List E} {kes : List Expr} : (∀ r, cstKeys g (e :: r) = (cstKeys g r).map fun ks => k :: ks) → PE X ke (tC (kV k)) → KeysC X g ks kes → KeysC X g (e :: ks) (ke :: kes)
def trsOf (K : PySem.W.Frag) (CA : Str → Addr) (c : Cfg) : List Key → List E → List (TE × TE)
  | k :: ks, v :: vs => (tC (kV k), tE K CA c v) :: trsOf K CA c ks vs
  | _, _ => []
theorem pps_of : ∀ {ks : List E} {kes : List Expr} {vs : List E} {ves : List Expr} {kk : List Key}, KeysC X c.glob ks kes → AllE X CA c vs ves → cstKeys c.glob ks = some kk → kk.length = vs.length → PPs X pos (kes.map some) ves (trsOf X.K CA c kk vs)
  | _, _, _, _, _, .nil, .nil, hk, hl => by
    cases hk
    exact pps_nil
  | _, _, _, _, _, .nil, .cons _ _, hk, hl => by cases hk; cases hl
  | _, _, _, _, _, .cons hx hp r, h, hk, hl => by
    rw [hx] at hk
    simp only [Option.map_eq_some_iff] at hk
    obtain ⟨kk', hk, rfl⟩ := hk
    cases h with
    | nil => cases hl
    | cons h hr => exact pps_cons hp h (pps_of r hr hk (by simpa using hl))
theorem pairs_ok : ∀ {vs : List E} {kk : List Key} {lk : List Nat} {ε ε' : Env} {F : Fo} {ds : List D} {H : Hp} {Q : List (V × V) → Hp → Prop}, kk.length = vs.length → Rel K CA H ε σ F → evs c lk vs ε = some (ds, ε') →
    (∀ ws H' F' Ts, Rel K CA H' ε' σ F' → Po lk H F H' F' Ts.flatten → Vrs K CA H' σ F' vs ds ws Ts → Q ((kk.zip ws).map fun kv => (kV kv.1, kv.2)) H') → tPairs (trsOf K CA c kk vs) σ H Q
  | [], kk, lk, ε, ε', F, ds, H, Q, hl, rel, he, q => by
    cases kk with
    | cons _ _ => cases hl
    | nil =>
      simp only [evs] at he
      cases he
      exact q [] H F [] rel Po.refl .nil
  | v :: vs, [], _, _, _, _, _, _, _, hl, _, _, _ => by cases hl
  | v :: vs, k :: kk, lk, ε, ε', F, ds, H, Q, hl, rel, he, q => by
    simp only [evs, Option.bind_eq_some_iff, Option.map_eq_some_iff] at he
    obtain ⟨⟨d, ε1⟩, h1, ⟨ds', ε2⟩, h2, d', hd', e'⟩ := he
    cases e'
    refine ⟨lk, ε, F, d, ε1, rel, h1, fun w H1 F1 T1 rel1 po1 vr1 => pairs_ok (by simpa using hl) rel1 h2 fun ws H2 F2 Ts rel2 po2 vrs => ?_⟩
    obtain ⟨vr1', po⟩ := snd_late po1 vr1 rel1 po2 rel2 hd'
    exact q (w :: ws) H2 F2 (T1 :: Ts) rel2 (by rw [List.flatten_cons]; exact po) (.cons vr1' vrs)
theorem putK_new {kvs : List (Key × V)} {k : Key} {v : V} (h : k ∉ kvs.map (·.1)) : putK kvs k v = kvs ++ [(k, v)] := by
  unfold putK
  rw [if_neg]
  intro z
  rw [List.any_eq_true] at z
  obtain ⟨p, hp, e⟩ := z
  exact h (List.mem_map.mpr ⟨p, hp, by simpa using e⟩)
theorem mergeK_new : ∀ (more kvs : List (Key × V)), ((kvs ++ more).map (·.1)).Nodup → mergeK kvs more = kvs ++ more
  | [], kvs, _ => by rw [List.append_nil]; rfl
  | p :: r, kvs, h => by
    have hn : p.1 ∉ kvs.map (·.1) := fun z => by
      rw [List.map_append, List.nodup_append] at h
      exact h.2.2 p.1 z p.1 (by simp) rfl
    show mergeK (putK kvs p.1 p.2) r = _
    rw [putK_new hn, mergeK_new r (kvs ++ [(p.1, p.2)]) (by simpa using h)]
    simp
theorem zip_keys {α β : Type} : ∀ {xs : List α} {ys : List β}, xs.length = ys.length → (xs.zip ys).map (·.1) = xs
  | [], [], _ => rfl
  | x :: xs, y :: ys, h => by simp [zip_keys (xs := xs) (ys := ys) (by simpa using h)]
theorem RDs.dk : ∀ {kk : List Key} {ds : List D} {vs : List V} {F : List Addr}, kk.length = ds.length → RDs K CA H ds vs F → RDk K CA H (kk.zip ds) (kk.zip vs) F
  | [], _, _, _, hl, .nil => .nil
  | [], _, _, _, hl, .cons _ _ => by cases hl
  | _ :: _, _, _, _, hl, .nil => by cases hl
  | k :: kk, _, _, _, hl, .cons h r => .cons h (RDs.dk (by simpa using hl) r)
theorem snd_dic0 : PE X (.Dict [] [] pos) (tE X.K CA c (.dic [] [])) := by
  refine pe_mono pe_dnewK fun σ H Q ⟨lk, ε, F, d, ε', rel, he, q⟩ => ?_
  simp [ev, evs, sinks, cstKeys] at he
  obtain ⟨rfl, rfl⟩ := he
  intro p hp
  have sm := same_upd (o := .dK []) hp
  exact q _ _ F [p] (rel.same sm) (Po.refl.al rel sm (List.nodup_cons.mpr ⟨(fun z => nomatch z), List.nodup_nil⟩) fun a ha => by rw [List.mem_singleton.mp ha]; exact hp) (.of_rd rfl (.dic upd_same List.nodup_nil .nil))
theorem snd_dic {ks vs : List E} {kes ves : List Expr} (hk : KeysC X c.glob ks kes) (h : AllE X CA c vs ves) (h0 : kes ≠ []) (h15 : kes.length ≤ 15) (hl : kes.length = ves.length) : PE X (.Dict (kes.map some) ves pos) (tE X.K CA c (.dic ks vs)) := by
  have ekk : ∃ kk, cstKeys c.glob ks = some kk ∧ kk.length = kes.length := by
    clear h0 h15 hl
    induction hk with
    | nil => exact ⟨[], rfl, rfl⟩
    | @cons x k ke ks kes hx _ _ ih =>
      obtain ⟨kk, e, l⟩ := ih
      exact ⟨k :: kk, by rw [hx, e]; rfl, by simp [l]⟩
  obtain ⟨kk, ekk, lkk⟩ := ekk
  have lvs : vs.length = ves.length := by
    clear hl
    induction h with
    | nil => rfl
    | cons _ _ ih => simp [ih]
  have P := pps_of (pos := pos) hk h ekk (by omega)
  refine pe_mono (pe_disp P (by simp) (by simpa using hl) (by simpa using h0) (by simpa using h15)) fun σ H Q ⟨lk, ε, F, d, ε', rel, he, q⟩ => ?_
  simp only [ev, Option.bind_eq_some_iff] at he
  obtain ⟨⟨ds, ε1⟩, h1, he⟩ := he
  simp only at he
  split at he
  · rename_i hs
    rw [ekk, Option.bind_some] at he
    split at he
    · rename_i hcond
      obtain ⟨hlen, hnd, hk15⟩ := hcond
      cases he
      intro p hp
      have sm := same_upd (o := .dK []) hp
      refine pairs_ok (by omega) (rel.same sm) h1 fun ws H2 F2 Ts rel2 po2 vrs => ?_
      have nF : ∀ i, p ∉ F i := fun i z => by
        obtain ⟨o, e⟩ := (rel.mutk i p z).some
        rw [hp] at e; cases e
      have hp2 : H2 p = some (.dK []) := po2.kp p _ upd_same fun i _ => nF i
      have rds := vrs.rds hs
      have lws := rds.length
      have np : p ∉ Ts.flatten := fun z => by
        rcases po2.oldT p z with ⟨j, _, w⟩ | w
        · exact nF j w
        · rw [upd_same] at w; cases w
      have nF2 : ∀ i, p ∉ F2 i := fun i z => by
        by_cases hi : i ∈ lk
        · rw [po2.lkd i hi] at z; exact nF i z
        · rcases po2.old i hi p z with ⟨j, _, w⟩ | w
          · exact nF j w
          · rw [upd_same] at w; cases w
      refine ⟨hp2, kk.zip ws, rfl, by simp; omega, ?_⟩
      have ek : ((kk.zip ws).map (·.1)) = kk := zip_keys (by omega)
      rw [mergeK_new (kk.zip ws) [] (by rw [List.nil_append, ek]; exact hnd), List.nil_append]
      have po1 : Po lk H F H2 F2 Ts.flatten := by
        refine ⟨fun a o e n => po2.kp a o (sm a o e) n, (Same.imK sm).trans po2.im, po2.lkd, fun i hi a ha => ?_, fun a ha => ?_, po2.ndT, po2.djT⟩
        · rcases po2.old i hi a ha with w | w
          · exact .inl w
          · have na : a ≠ p := fun z => nF2 i (z ▸ ha)
            rw [upd_ne na] at w; exact .inr w
        · rcases po2.oldT a ha with w | w
          · exact .inl w
          · have na : a ≠ p := fun z => np (z ▸ ha)
            rw [upd_ne na] at w; exact .inr w
      have im3 : ImK H2 (upd H2 p (.dK (kk.zip ws))) := fun b o e i => by
        have nb : b ≠ p := fun z => by rw [z, hp2] at e; cases e; exact i
        rw [upd_ne nb]; exact e
      have rds3 : RDs X.K CA (upd H2 p (.dK (kk.zip ws))) ds ws Ts.flatten := rds.keep im3 fun a ha => upd_ne fun z => np (z ▸ ha)
      have po3 : Po lk H F (upd H2 p (.dK (kk.zip ws))) F2 (p :: Ts.flatten) := by
        refine ⟨fun a o e n => ?_, po1.im.trans im3, po1.lkd, po1.old, fun a ha => ?_, List.nodup_cons.mpr ⟨np, po1.ndT⟩, fun i a ha hm => ?_⟩
        · have na : a ≠ p := fun z => by rw [z, hp] at e; cases e
          rw [upd_ne na]; exact po1.kp a o e n
        · rcases List.mem_cons.mp ha with rfl | ha
          · exact .inr hp
          · exact po1.oldT a ha
        · rcases List.mem_cons.mp hm with rfl | hm
          · exact nF2 i ha
          · exact po1.djT i a ha hm
      have rel3 : Rel X.K CA (upd H2 p (.dK (kk.zip ws))) ε' σ F2 := by
        refine ⟨rel2.len, fun i d e => ?_, rel2.emp, rel2.dj, rel2.nd⟩
        obtain ⟨v, e1, r⟩ := rel2.val i d e
        exact ⟨v, e1, r.keep im3 fun a ha => upd_ne fun z => nF2 i (z ▸ ha)⟩
      refine q _ _ F2 _ rel3 po3 (.of_rd rfl (.dic upd_same ?_ (rds3.dk (by omega))))
      rw [zip_keys (by omega)]; exact hnd
    · cases he
  · cases he
end
end Wh


set_option Elab.async false
set_option linter.all false
set_option maxRecDepth 100000
set_option maxHeartbeats 2000000
/-! enumerate(t), t a tuple -/
namespace Wh
open PySem PySem.Spec PyProof.Rows L2
/-- the new iterator, the new enumerate -/
def tIt (t : Addr) : Obj := { cls := .type "tuple_iterator", data := .fields #[.ref t, .int 0 0] }
def eOb (it : Addr) : Obj := { cls := .type "enumerate", data := .fields #[.none, .bool false, .ref it, rawInt 0, .none, .none] }
theorem meets_enT (t : Addr) (items : Array Value) (dct : Option Addr) (n : Nat) (sl : Array (Option Value)) :
    Meets (Builtin.«enumerate.__new__» ⟨[.type "enumerate", .ref t], []⟩) (fun _ R s => s.heap.get? t = some { cls := .type "tuple", dict := dct, data := .seq items n, slots := sl } ∧
      R (.ok (.ret (.ref (s.heap.push (tIt t)).objs.size))) { s with heap := (s.heap.push (tIt t)).push (eOb s.heap.objs.size) }) :=
  .of_wp fun prog w A R s h => by
    obtain ⟨hp, g, d, tk, os⟩ := s
    obtain ⟨hl, h⟩ := h
    have hsub := sub_enumerate
    have hT : Heap.IsTuple (Shared.heap ⟨hp, g, d, tk, os⟩) t items := ⟨_, hl, rfl, n, rfl⟩
    wp_walk using AutoSeq1.wpAny_loadPart' hl
    refine wpAny_stack_any fun st => wpAny_pure ?_
    split
    · rename_i c _ _ _ _ _
      cases (c == Value.type "enumerate")
      · wp_walk using AutoSeq1.wpAny_loadPart' hl, wpAny_pyIter_tuple hT
        exact ⟨_, rfl, h⟩
      · wp_walk using AutoSeq1.wpAny_loadPart' hl, wpAny_pyIter_tuple hT
        exact ⟨_, rfl, h⟩
    · wp_walk using AutoSeq1.wpAny_loadPart' hl, wpAny_pyIter_tuple hT
      exact ⟨_, rfl, h⟩
section
variable {prog : Program} {w : World} {A : Around} {E : Value → Shared → Prop} {s : Shared}
theorem call_enT {t : Addr} {items : Array Value} {Q : Value → Shared → Prop} (hT : s.heap.IsTuple t items)
    (h : ∀ h', IsEnum h' (s.heap.objs.size + 1) s.heap.objs.size 0 .none → h'.IsTupleIter s.heap.objs.size t 0 → h'.objs.size = s.heap.objs.size + 2 →
      (∀ b o, s.heap.get? b = some o → h'.get? b = some o) → Q (.ref (s.heap.objs.size + 1)) { s with heap := h' }) :
    wpAny (model prog w) A (call (.type "enumerate") [.ref t]) Q E s := by
  obtain ⟨⟨c, dct, dt, sl⟩, hl, hc, n, hd⟩ := hT
  have hc : c = .type "tuple" := hc
  have hd : dt = .seq items n := hd
  subst hc hd
  refine callType_new F.called_enumerate (by decide) (F.typeCall_enumerate_1 _) (F.newCall_enumerate_1 _) (fun obj => F.args_object_init_2 obj _) F.entry_enumerate_new
    (meets_enT t items dct n sl) ⟨hl, ?_⟩
  have hz : (s.heap.push (tIt t)).objs.size = s.heap.objs.size + 1 := Heap.size_push ..
  show _ ∧ _
  rw [hz]
  have he : IsEnum ((s.heap.push (tIt t)).push (eOb s.heap.objs.size)) (s.heap.objs.size + 1) s.heap.objs.size 0 .none := by
    have := Heap.get?_push_size (s.heap.push (tIt t)) (o := eOb s.heap.objs.size) rfl
    rw [hz] at this
    exact this
  exact ⟨⟨_, he, rfl⟩, h _ he ⟨_, Heap.get?_push_of_some _ (Heap.get?_push_size _ rfl), rfl, rfl⟩ (by rw [Heap.size_push, hz]) fun b o x => Heap.get?_push_of_some _ (Heap.get?_push_of_some _ x)⟩
end
/-- the tuple at a, each item in a new pair -/
def IteT (K : PySem.W.Frag) (a : Addr) : It :=
  ⟨fun i H => ∃ (xs : List V) (x : V), SqT K H a xs ∧ xs[i]? = some x, fun i H v H' => ∃ T x, v = .ref T ∧ H T = none ∧ H' = upd H T (.tup [.int (i : Nat), x]) ∧ ∀ xs, SqT K H a xs → xs[i]? = some x, fun i H => ∃ xs : List V, SqT K H a xs ∧ xs.length ≤ i⟩
theorem it_ne {h : Heap} {it a : Addr} {i : Nat} {items : Array Value} (h1 : h.IsTupleIter it a i) (h2 : h.IsTuple a items) : a ≠ it := fun z => by
  obtain ⟨o, e, c, _⟩ := h1
  obtain ⟨o2, e2, c2, _⟩ := h2
  rw [z, e] at e2
  cases e2
  rw [c] at c2
  injection c2 with c3
  exact absurd c3 (by decide)
theorem turn_enT {P : Program} {w : World} {K : PySem.W.Frag} {elts : List Expr} {kk : Nat} {tpos : Pos} (a e it : Addr) :
    Turn P w K (.Tuple elts kk tpos) (IteT K a) [e, it] e (fun i h => (∃ old, IsEnum h e it ((i : Nat) : Int) old) ∧ h.IsTupleIter it a i ∧ e ≠ it) where
  mem := by simp
  obj := fun i h st b hb => by
    obtain ⟨⟨old, he⟩, ⟨o, ho, hc, hd⟩, _⟩ := st
    rcases (show b = e ∨ b = it by simpa using hb) with rfl | rfl
    · exact ⟨_, he, fun v q => nomatch q⟩
    · exact ⟨o, ho, fun v q => by rw [hd] at q; cases q⟩
  keep := fun i h h' ⟨⟨old, he⟩, hi, hne⟩ k => ⟨⟨old, k e (by simp) _ he⟩, hi.at fun o q => k it (by simp) o q, hne⟩
  item := by
    intro X hP hw hK hc i pins s σ H E I hf st hg
    subst hP hw hK
    obtain ⟨⟨old, he⟩, hit, hne⟩ := st
    obtain ⟨xs, x, hq, hx⟩ := hg
    obtain ⟨its, rv, p, hz⟩ := I.tuple hq
    obtain ⟨u, hu, ru⟩ := rv.get hx
    have p : s.heap.IsTuple a its.toArray := p
    have hai := it_ne hit p
    have hel : e < s.heap.objs.size := Heap.lt_size he
    have hil : it < s.heap.objs.size := by obtain ⟨_, q, _⟩ := hit; exact Heap.lt_size q
    have hea : e ≠ a := fun z => by
      obtain ⟨o2, e2, c2, _⟩ := p
      rw [← z, show s.heap.get? e = some _ from he] at e2
      cases e2
      injection c2 with c3
      exact absurd c3 (by decide)
    have hlt : i < its.toArray.size := by
      have := (List.getElem?_eq_some_iff.mp hu).1
      simpa using this
    refine wpAny_pyNext_enum_itemD (Draws.tuple (A := X.A.in1) (show X.A.in1.handled = none from I.ok.hd hc) it a hai its.toArray) he ⟨hit, p⟩ hlt hne (by simp [hne, hea]) fun x' h' tk hP ho hs' hT hsz hk => ?_
    have eu : x' = u := by
      have : its.toArray[i]? = some u := by simpa using hu
      rw [this] at hP
      cases hP
      rfl
    subst eu
    refine ⟨_, rfl, wpAny_letOwnedTupleGo_enum (s := { s with heap := h', toks := tk + 1 }) ho fun h'' he' sb => ?_⟩
    have hT2 : h''.get? s.heap.objs.size = some { cls := .type "tuple", data := .seq #[.int i tk, x'] } := (sb.2 _ (Nat.ne_of_gt hel)).trans hT
    have new : ObjOk X.prog X.w (upd H s.heap.objs.size (.tup [.int (i : Nat), x])) h'' s.heap.objs.size (.tup [.int (i : Nat), x]) :=
      ⟨by show 2 ≤ sizeLine; decide, [.int i tk, x'], .cons ⟨_, rfl⟩ (.cons ru .nil), ⟨_, hT2, rfl, _, rfl⟩⟩
    have I1 : Inv X pins σ (upd H s.heap.objs.size (.tup [.int (i : Nat), x])) { s with heap := h'', toks := tk + 1 } :=
      I.turnedNew (ch := [e, it]) (fun b ob hb q => (sb.2 b (fun z => hb (by simp [z]))).trans (hk b ob (fun z => hb (by simp [z])) (fun z => hb (by simp [z])) q)) hf (Nat.le_refl _) new
    refine ⟨.ref s.heap.objs.size, _, I1, rfl, ⟨_, x, rfl, I.hok.fresh (Nat.le_refl _), rfl, fun ys hy => by rw [I.tuple_inj hy hq]; exact hx⟩, ⟨⟨x', ?_⟩, hs'.1.at fun o q => (sb.2 it (Ne.symm hne)).trans q, hne⟩, fun b hb => ?_⟩
    · rw [show ((i + 1 : Nat) : Int) = (i : Int) + 1 by omega]
      exact he'
    · have hb' : b < s.heap.objs.size := by
        rcases (show b = e ∨ b = it by simpa using hb) with rfl | rfl
        · exact hel
        · exact hil
      rw [upd_ne (Nat.ne_of_lt hb')]
      exact (hf b hb).1
  done := by
    intro X hP hw hK hc i pins s σ H E I hf st hg
    subst hP hw hK
    obtain ⟨⟨old, he⟩, hit, hne⟩ := st
    obtain ⟨xs, hq, hx⟩ := hg
    obtain ⟨its, rv, p, hz⟩ := I.tuple hq
    have p : s.heap.IsTuple a its.toArray := p
    obtain ⟨f0, f1, f2, f3, f4, f5⟩ := hf it (by simp)
    have hl := rv.length
    have hT : s.TypeIs (.ref e) "enumerate" := ⟨_, he, rfl⟩
    unfold pyNext
    refine wpAny_bind (wpAny_attempt (wpAny_callSpecial?_slot (name := Str.ofString "__next__") hT F.slot_enumerate_next
      (wpAny_call_entry F.slot_enumerate_next hT F.entry_enumerate_next ?_ (F.args_enumerate_next_1 _))))
    show wpAny _ _ (field (.ref e) 2 >>= _) _ _ _
    refine wpAny_bind (wpAny_field he rfl (x := .ref it) rfl ?_)
    refine wpAny_bind (wpAny_nextOf_tuple_end (show X.A.in1.handled = none from I.ok.hd hc) hit p (by simp; omega) fun h' x he' hx' => ?_)
    obtain ⟨o, ho, hc'⟩ := hx'
    refine wpAny_bind (wpAny_isInstance (T := "StopIteration") (b := true) ⟨o, ho, hc'⟩ isSubtype_stop ?_)
    exact wpAny_pure ⟨rfl, I.turned (t' := s.toks) (fun b o hb q => he' b o hb q) f0 f1 f3 f4 f5⟩
  self := fun A i s Q E ⟨⟨_, he⟩, _⟩ h => wpAny_pyIter_enum he h
theorem pi_enT {X : Cx} {e : Expr} {ta : TA} {p pos tpos : Pos} {elts : List Expr} {kk : Nat} (hg : Gl X "enumerate") (hm : X.mg "enumerate" = none) (ha : PA X [e] ta) (hs : starEach [e] X.env = [(false, eval e X.env)]) :
    PI X (.Tuple elts kk tpos) (.Call (.Name "enumerate" p) [e] [] pos) (fun σ H R => ta σ H fun vs H1 => ∃ a xs, vs = [.ref a] ∧ SqT X.K H1 a xs ∧ R (IteT X.K a) H1) := by
  refine ⟨fun pins s σ H R I h => ?_⟩
  refine Call_ (ld_blt I hg hm boot_enumerate (PyProof.Rows.callWith_type1 (thn (ha.run pos pins s σ H _ I h) fun us s1 ⟨vs, H1, I1, r1, a, xs, ex, hq, q⟩ => ?_) hs rfl))
  subst ex
  cases r1 with
  | cons r rr =>
    cases rr
    cases r
    obtain ⟨its, rv, p', hz⟩ := I1.tuple hq
    refine call_enT (show s1.heap.IsTuple a its.toArray from p') fun h' he hit hsz hk => wpAny_pyIter_enum he ?_
    have I2 : Inv X pins σ H1 { s1 with heap := h' } := I1.kept (t' := s1.toks) hk
    refine ⟨s1.heap.objs.size + 1, [s1.heap.objs.size + 1, s1.heap.objs.size], _, _, H1, rfl, I2, turn_enT a (s1.heap.objs.size + 1) s1.heap.objs.size, ⟨⟨.none, he⟩, hit, Nat.succ_ne_self _⟩, fun b hb => ?_, q⟩
    have hle : s1.heap.objs.size ≤ b := by
      rcases (show b = s1.heap.objs.size + 1 ∨ b = s1.heap.objs.size by simpa using hb) with rfl | rfl
      · exact Nat.le_add_right _ _
      · exact Nat.le_refl _
    exact I1.fpOk hle (I1.hok.fresh hle)
end Wh


set_option Elab.async false
set_option linter.all false
set_option maxRecDepth 100000
set_option maxHeartbeats 1000000
namespace Wh
open PySem PySem.Spec PyProof.Rows L2
section
variable {X : Cx} {CA : Str → Addr} {c : Cfg} {K : PySem.W.Frag} {H : Hp} {Q : VK} {σ : L2.St}
variable {a b : Expr} {ea eb : E} {pos : Pos}

/-! ### what is walked -/
/-- J yields xs for as long as the slots lk are locked -/
def Src (K : PySem.W.Frag) (lk : List Nat) (H : Hp) (F : Fo) (J : It) (xs : List PyData) : Prop :=
  ∀ H' F', Po lk H F H' F' [] → ∀ i, (∀ x, xs[i]? = some x → J.go i H' ∧ ∀ v H'', J.yld i H' v H'' → Same H' H'' ∧ Rp K H'' v x) ∧ (xs.length ≤ i → J.stop i H')
theorem Src.step {lk : List Nat} {H H1 : Hp} {F F1 : Fo} {J : It} {xs : List PyData} (s : Src K lk H F J xs) (p : Po lk H F H1 F1 []) : Src K lk H1 F1 J xs := fun H' F' q => s H' F' (p.cons q)
def tI (K : PySem.W.Frag) (CA : Str → Addr) (c : Cfg) (e : E) : TI := fun σ H R => ∃ lk ε F xs lk' ε', Rel K CA H ε σ F ∧ evIt c lk e ε = some (xs, lk', ε') ∧
  ∀ J H' F', Rel K CA H' ε' σ F' → Po lk H F H' F' [] → (∀ i ∈ lk, i ∈ lk') → Src K lk' H' F' J xs → R J H'
theorem pi_mono {tg it : Expr} {t t' : TI} (h : PI X tg it t) (f : ∀ σ H Q, t' σ H Q → t σ H Q) : PI X tg it t' := ⟨fun pins s σ H Q I hw => h.run pins s σ H Q I (f σ H Q hw)⟩

/-- a list that stays while the slots lk are locked -/
def LsK (K : PySem.W.Frag) (lk : List Nat) (H : Hp) (F : Fo) (p : Addr) (vs : List V) : Prop := (H p = some (.lst vs) ∧ ∀ i, i ∉ lk → p ∉ F i) ∨ FzL K H p vs
theorem LsK.kept {lk : List Nat} {H H' : Hp} {F F' : Fo} {p : Addr} {vs : List V} (h : LsK K lk H F p vs) (po : Po lk H F H' F' []) : LsR K H' p vs := by
  rcases h with ⟨h, n⟩ | h
  · exact .inl (po.kp p _ h n)
  · exact .inr (po.im.fzL h)
theorem LsK.mono {lk lk2 : List Nat} {H : Hp} {F : Fo} {p : Addr} {vs : List V} (h : LsK K lk H F p vs) (s : ∀ i ∈ lk, i ∈ lk2) : LsK K lk2 H F p vs := by
  rcases h with ⟨h, n⟩ | h
  · exact .inl ⟨h, fun i hi => n i fun z => hi (s i z)⟩
  · exact .inr h
theorem LsK.sq {lk : List Nat} {H : Hp} {F : Fo} {p : Addr} {vs : List V} (h : LsK K lk H F p vs) : SqL K H p vs := h.elim (fun h => SqL.of h.1) (·.sq)
/-- behind a step under those locks -/
theorem LsK.step {lk : List Nat} {H H' : Hp} {F F' : Fo} {p : Addr} {vs : List V} {T : List Addr} (h : LsK K lk H F p vs) (po : Po lk H F H' F' T) : LsK K lk H' F' p vs := by
  rcases h with ⟨h, n⟩ | h
  · refine .inl ⟨po.kp p _ h n, fun i hi hm => ?_⟩
    rcases po.old i hi p hm with ⟨j, hj, w⟩ | w
    · exact n j hj w
    · rw [h] at w; cases w
  · exact .inr (po.im.fzL h)
/-- a list at p, seen through J as the items zs -/
theorem src_list {lk : List Nat} {F : Fo} {p : Addr} {vs : List V} {xs zs : List PyData} {J : It} (h : LsK K lk H F p vs) (r : RpAll K H vs xs) (hl : zs.length = xs.length)
    (hgo : ∀ i H', i < vs.length → LsR K H' p vs → J.go i H') (hst : ∀ i H', vs.length ≤ i → LsR K H' p vs → J.stop i H')
    (hy : ∀ i H' v H'' w x z, LsR K H' p vs → vs[i]? = some w → Rp K H' w x → xs[i]? = some x → zs[i]? = some z → J.yld i H' v H'' → Same H' H'' ∧ Rp K H'' v z) : Src K lk H F J zs := by
  intro H' F' po i
  have l' := h.kept po
  have r' := r.im po.im
  have lr := r.length
  refine ⟨fun z hz => ?_, fun hi => hst i H' (by omega) l'⟩
  have hi : i < zs.length := (List.getElem?_eq_some_iff.mp hz).1
  have hx : xs[i]? = some xs[i] := List.getElem?_eq_getElem (by omega)
  obtain ⟨w, hw, rw'⟩ := r'.get hx
  exact ⟨hgo i H' (by omega) l', fun v H'' y => hy i H' v H'' w _ z l' hw rw' hx hz y⟩
theorem src_tup {lk : List Nat} {F : Fo} {p : Addr} {vs : List V} {xs : List PyData} (h : SqT K H p vs) (r : RpAll K H vs xs) : Src K lk H F (Itt K p) xs := by
  intro H' F' po i
  have l' := po.im.sqT h
  have r' := r.im po.im
  have lr := r.length
  refine ⟨fun z hz => ?_, fun hi => ⟨vs, l', by omega⟩⟩
  obtain ⟨w, hw, rw'⟩ := r'.get hz
  refine ⟨⟨vs, w, l', hw⟩, fun v H'' y => ?_⟩
  obtain ⟨e, y⟩ := y
  subst e
  have := y vs l'
  rw [hw] at this
  cases this
  exact ⟨Same.refl _, rw'⟩
theorem enumL_get : ∀ (xs : List PyData) (k i : Nat) (z : PyData), (enumL k xs)[i]? = some z → ∃ x, xs[i]? = some x ∧ z = .tuple [.int ((k + i : Nat) : Int), x]
  | [], _, _, _, h => by simp [enumL] at h
  | x :: xs, k, 0, z, h => by simp [enumL] at h; exact ⟨x, rfl, h.symm⟩
  | x :: xs, k, i + 1, z, h => by
    have h' : (enumL (k + 1) xs)[i]? = some z := by simpa [enumL] using h
    obtain ⟨y, hy, e⟩ := enumL_get xs (k + 1) i z h'
    exact ⟨y, by simpa using hy, by rw [e, show k + 1 + i = k + (i + 1) by omega]⟩
theorem enumL_len : ∀ (xs : List PyData) (k : Nat), (enumL k xs).length = xs.length
  | [], _ => rfl
  | x :: xs, k => by simp [enumL, enumL_len xs]

theorem Vr.ls {lk : List Nat} {e : E} {x : D} {v : V} {F : Fo} {T : List Addr} {xs : List PyData} (vr : Vr K CA H σ e x v F T) (djF : ∀ (i j : Nat) (a : Addr), a ∈ F i → a ∈ F j → i = j) (djT : ∀ i, ∀ a ∈ F i, a ∉ T) (h : x.ls? = some xs) :
    ∃ p vs, v = .ref p ∧ LsK K (lock lk e x) H F p vs ∧ RpAll K H vs xs := by
  cases x with
  | p y =>
    obtain ⟨_, r⟩ := vr.p
    cases r with
    | lst h2 ra => cases h; exact ⟨_, _, rfl, .inr h2, ra⟩
    | _ => cases h
  | lst ds =>
    have lk' : ∀ j, root e = some j → j ∈ lock lk e (.lst ds) := fun j hr => by unfold lock; rw [hr]; exact List.mem_cons_self
    have fin : ∀ {G : List Addr}, RD K CA H (.lst ds) v G → (∀ i, i ∉ lock lk e (.lst ds) → ∀ p ∈ G, p ∉ F i) → ∃ p vs, v = .ref p ∧ LsK K (lock lk e (.lst ds)) H F p vs ∧ RpAll K H vs xs := fun r n => by
      cases r with
      | lst h2 rs => exact ⟨_, _, rfl, .inl ⟨h2, fun i hi => n i hi _ List.mem_cons_self⟩, (rs.allP h).2⟩
    rcases vr with ⟨y, e, _⟩ | ⟨hx, ⟨j, rfl, t, _, r, _⟩ | ⟨j, nv, hr, t, G, r, n, s⟩ | ⟨hr, r⟩⟩
    · cases e
    · exact fin r fun i hi p hp hm => hi (by rw [djF i j p hm hp]; exact lk' j rfl)
    · exact fin r fun i hi p hp hm => hi (by rw [djF i j p hm (s p hp)]; exact lk' j hr)
    · exact fin r fun i hi p hp hm => djT i p hm hp
  | _ => cases h
theorem ps_ls {x : D} {xs : List PyData} (h : x.ps? = some xs) : x.ls? = some xs ∨ x = .p (.tuple xs) := by
  cases x with
  | p y =>
    cases y with
    | list ys => exact .inl h
    | tuple ys => cases h; exact .inr rfl
    | _ => cases h
  | lst ds => exact .inl h
  | _ => cases h
/-- over the list, the tuple or the text that l comes to -/
theorem pi_val {tg l : Expr} {tl : TE} (hl : PE X l tl) : PI X tg l (fun σ H R => tl σ H fun v H1 => (∃ a xs, v = .ref a ∧ SqL X.K H1 a xs ∧ R (Itl X.K a) H1) ∨ (∃ a xs, v = .ref a ∧ SqT X.K H1 a xs ∧ R (Itt X.K a) H1) ∨ ∃ x, v = .str x ∧ R (Its x) H1) := by
  refine ⟨fun pins s σ H R I h => thn (hl.run pins s σ H _ I h) fun v s1 ⟨y, H1, I1, r1, q1⟩ => ?_⟩
  rcases q1 with ⟨a, xs, e, hq, q⟩ | ⟨a, xs, e, hq, q⟩ | ⟨x, e, q⟩
  · subst e
    cases r1
    obtain ⟨its, _, p, _⟩ := I1.list hq
    exact wpAny_pyIter_list p.isList (pi_one (tk := s1.toks) I1 _ (turn_list a _) ⟨_, Heap.get?_push_size _ rfl, rfl, rfl⟩ q)
  · subst e
    cases r1
    obtain ⟨its, _, p, _⟩ := I1.tuple hq
    exact wpAny_pyIter_tuple (show s1.heap.IsTuple a its.toArray from p) (pi_one (tk := s1.toks) I1 _ (turn_tuple a _) ⟨_, Heap.get?_push_size _ rfl, rfl, rfl⟩ q)
  · subst e
    obtain ⟨t, rfl⟩ := r1
    cases ha : x.cps.all (· < 128)
    · exact wpAny_pyIter_wide ha (pi_one (tk := s1.toks) I1 _ (turn_str _ x t "str_iterator" (.inr rfl)) ⟨_, Heap.get?_push_size _ rfl, rfl, rfl⟩ q)
    · exact wpAny_pyIter_ascii ha (pi_one (tk := s1.toks) I1 _ (turn_str _ x t "str_ascii_iterator" (.inl rfl)) ⟨_, Heap.get?_push_size _ rfl, rfl, rfl⟩ q)
theorem src_str {lk : List Nat} {F : Fo} {x : Str} : Src K lk H F (Its x) (strL x) := by
  intro H' F' po i
  have hl : (strL x).length = x.cps.size := by simp [strL]
  refine ⟨fun z hz => ?_, fun hi => by rw [hl] at hi; exact hi⟩
  have hi : i < x.cps.size := by rw [← hl]; exact (List.getElem?_eq_some_iff.mp hz).1
  refine ⟨hi, fun v H'' y => ?_⟩
  obtain ⟨e, c, hc, ev⟩ := y
  subst e ev
  have e2 : (strL x)[i]? = some (.str ⟨#[c]⟩) := by simp [strL, hc]
  rw [hz] at e2
  cases e2
  exact ⟨Same.refl _, .str _⟩
theorem src_range {lk : List Nat} {F : Fo} {lo : Int} {n : Nat} : Src K lk H F (Itr lo n) (rngL lo n) := by
  intro H' F' po i
  have hl : (rngL lo n).length = n := by simp [rngL]
  refine ⟨fun z hz => ?_, fun hi => by rw [hl] at hi; exact hi⟩
  have hi : i < n := by rw [← hl]; exact (List.getElem?_eq_some_iff.mp hz).1
  refine ⟨hi, fun v H'' y => ?_⟩
  obtain ⟨e, ev⟩ := y
  subst e ev
  have e2 : (rngL lo n)[i]? = some (.int (lo + (i : Int))) := by simp [rngL, hi]
  rw [hz] at e2
  cases e2
  exact ⟨Same.refl _, .int _⟩
theorem itl_y {p : Addr} {vs : List V} {i : Nat} {H' H'' : Hp} {v w : V} {z : PyData} (l : LsR K H' p vs) (hw : vs[i]? = some w) (r : Rp K H' w z) (y : (Itl K p).yld i H' v H'') : Same H' H'' ∧ Rp K H'' v z := by
  obtain ⟨e, y⟩ := y
  subst e
  have := y vs l.sq
  rw [hw] at this
  cases this
  exact ⟨Same.refl _, r⟩
def isItB : E → Bool
  | .rng1 _ => true | .rng2 _ _ => true | .enum _ => true | .zip _ _ => true | _ => false
theorem itLk_val {e : E} (hb : isItB e = false) (lk : List Nat) (x : D) : itLk lk e x = lock lk e x := by
  cases e <;> first | (cases hb; done) | rfl
theorem itV_cases {lk lk' : List Nat} {e : E} {x : D} {xs : List PyData} (h : itV lk e x = some (xs, lk')) : (∃ s, x = .p (.str s) ∧ xs = strL s ∧ lk' = lk) ∨ (x.ps? = some xs ∧ lk' = itLk lk e x) := by
  unfold itV at h
  split at h
  · cases h; exact .inl ⟨_, rfl, rfl, rfl⟩
  · simp only [Option.map_eq_some_iff] at h
    obtain ⟨ys, hy, e⟩ := h
    cases e
    exact .inr ⟨hy, rfl⟩
theorem snd_itv {tg : Expr} (hb : isItB ea = false) (ha : PE X a (tE X.K CA c ea)) : PI X tg a (tI X.K CA c ea) := by
  refine pi_mono (pi_val ha) fun σ H R ⟨lk, ε, F, xs, lk', ε', rel, he, q⟩ => ?_
  simp only [evIt, Option.bind_eq_some_iff, Option.map_eq_some_iff] at he
  obtain ⟨⟨x, ε1⟩, h1, ⟨ys, lk2⟩, h2, e⟩ := he
  cases e
  refine ⟨lk, ε, F, x, ε1, rel, h1, fun v H1 F1 T rel1 po1 vr1 => ?_⟩
  rcases itV_cases h2 with ⟨s, rfl, rfl, rfl⟩ | ⟨hy, e⟩
  · obtain ⟨rfl, r⟩ := vr1.p
    cases r
    exact .inr (.inr ⟨s, rfl, q _ H1 F1 rel1 po1.drop (fun _ h => h) src_str⟩)
  · rw [itLk_val hb] at e
    subst e
    rcases ps_ls hy with hl | rfl
    · obtain ⟨p, vs, rfl, l, ra⟩ := vr1.ls (lk := lk) rel1.dj po1.djT hl
      refine .inl ⟨p, vs, rfl, l.sq, q _ H1 F1 rel1 po1.drop (lock_sub _ _ _) (src_list l ra rfl (fun i H' hi l' => ⟨vs, vs[i], l'.sq, List.getElem?_eq_getElem hi⟩) (fun i H' hi l' => ⟨vs, l'.sq, hi⟩) fun i H' v H'' w x z l' hw rw' hx hz y => ?_)⟩
      rw [hx] at hz
      cases hz
      exact itl_y l' hw rw' y
    · obtain ⟨rfl, r⟩ := vr1.p
      cases r with
      | tup hs ra => exact .inr (.inl ⟨_, _, rfl, hs, q _ H1 F1 rel1 po1.drop (show ∀ i ∈ lk, i ∈ lock lk ea (.p (.tuple ys)) from lock_sub _ _ _) (src_tup hs ra)⟩)
theorem snd_rng1 {tg : Expr} {p : Pos} (hg : Gl X "range") (hm : X.mg "range" = none) (ha : PE X a (tE X.K CA c ea)) (hn : NS a) : PI X tg (.Call (.Name "range" p) [a] [] pos) (tI X.K CA c (.rng1 ea)) := by
  refine pi_mono (pi_range1 hg hm (pa_cons ha pa_nil (hn _ _)) (hn _ _)) fun σ H R ⟨lk, ε, F, xs, lk', ε', rel, he, q⟩ => ?_
  simp only [evIt, ev, Option.bind_eq_some_iff, Option.map_eq_some_iff] at he
  obtain ⟨⟨z, ε0⟩, ⟨⟨x, ε1⟩, h1, he⟩, ⟨ys, lk2⟩, hv, e⟩ := he
  simp only at he
  split at he
  · rename_i j
    split at he
    · rename_i hj
      cases he
      simp only [itV, D.ps?, Option.map_some, itLk, lock, D.isP, if_true] at hv
      cases hv
      cases e
      refine ⟨lk, ε, F, _, _, rel, h1, fun v H1 F1 T rel1 po1 vr1 => ?_⟩
      obtain ⟨rfl, r⟩ := vr1.p
      cases r
      exact ⟨j, rfl, hj.1, hj.2, q _ H1 F1 rel1 po1.drop (fun _ h => h) src_range⟩
    · cases he
  · cases he
theorem snd_rng2 {tg : Expr} {p : Pos} (hg : Gl X "range") (hm : X.mg "range" = none) (ha : PE X a (tE X.K CA c ea)) (hb : PE X b (tE X.K CA c eb)) (hn : NS a) (hn2 : NS b) : PI X tg (.Call (.Name "range" p) [a, b] [] pos) (tI X.K CA c (.rng2 ea eb)) := by
  refine pi_mono (pi_range2 hg hm (pa_cons ha (pa_cons hb pa_nil (hn2 _ _)) (hn _ _)) (by rw [hn, hn2]; rfl) (by rw [hn2]; rfl)) fun σ H R ⟨lk, ε, F, xs, lk', ε', rel, he, q⟩ => ?_
  simp only [evIt, ev, Option.bind_eq_some_iff, Option.map_eq_some_iff] at he
  obtain ⟨⟨z, ε0⟩, ⟨⟨x, ε1⟩, h1, ⟨y, ε2⟩, h2, he⟩, ⟨ys, lk2⟩, hv, e⟩ := he
  simp only at he
  split at he
  · rename_i i j
    split at he
    · rename_i hj
      cases he
      simp only [itV, D.ps?, Option.map_some, itLk, lock, D.isP, if_true] at hv
      cases hv
      cases e
      refine ⟨lk, ε, F, _, ε1, rel, h1, fun v H1 F1 T rel1 po1 vr1 => ⟨_, ε1, F1, _, _, rel1, h2, fun w H2 F2 T2 rel2 po2 vr2 => ?_⟩⟩
      obtain ⟨vr1', po⟩ := snd_two po1 vr1 rel1 po2
      obtain ⟨rfl, r⟩ := vr1'.p
      obtain ⟨rfl, r2⟩ := vr2.p
      cases r
      cases r2
      exact ⟨i, j, rfl, ⟨hj.1.1, hj.1.2, hj.2.1, hj.2.2⟩, q _ H2 F2 rel2 po.drop (fun _ h => h) src_range⟩
    · cases he
  · cases he
theorem pi_or {tg it : Expr} {t u : TI} (h1 : PI X tg it t) (h2 : PI X tg it u) : PI X tg it (fun σ H R => t σ H R ∨ u σ H R) := ⟨fun pins s σ H R I hw => hw.elim (h1.run pins s σ H R I) (h2.run pins s σ H R I)⟩
theorem es_cases {x : D} {xs : List PyData} (h : x.es? = some xs) : x.ls? = some xs ∨ x = .p (.tuple xs) := by
  cases x with
  | p y =>
    cases y with
    | list ys => exact .inl h
    | tuple ys => cases h; exact .inr rfl
    | _ => cases h
  | lst ds => exact .inl h
  | _ => cases h
theorem snd_enum {p tpos : Pos} {elts : List Expr} {kk : Nat} (hg : Gl X "enumerate") (hm : X.mg "enumerate" = none) (ha : PE X a (tE X.K CA c ea)) (hn : NS a) : PI X (.Tuple elts kk tpos) (.Call (.Name "enumerate" p) [a] [] pos) (tI X.K CA c (.enum ea)) := by
  refine pi_mono (pi_or (pi_enum hg hm (pa_cons ha pa_nil (hn _ _)) (hn _ _)) (pi_enT hg hm (pa_cons ha pa_nil (hn _ _)) (hn _ _))) fun σ H R ⟨lk, ε, F, xs, lk', ε', rel, he, q⟩ => ?_
  simp only [evIt, ev, Option.bind_eq_some_iff, Option.map_eq_some_iff] at he
  obtain ⟨⟨z, ε0⟩, ⟨⟨x, ε1⟩, h1, ds, hd, e0⟩, ⟨ys, lk2⟩, hv, e⟩ := he
  cases e0
  simp only [itV, D.ps?, Option.map_some, itLk] at hv
  cases hv
  cases e
  rcases es_cases hd with hd | rfl
  case inr =>
    refine .inr ⟨lk, ε, F, _, ε1, rel, h1, fun v H1 F1 T rel1 po1 vr1 => ?_⟩
    obtain ⟨rfl, r⟩ := vr1.p
    cases r with
    | @tup p vs _ hs ra =>
      refine ⟨p, vs, rfl, hs, q _ H1 F1 rel1 po1.drop (fun i hi => List.mem_append_right _ hi) fun H' F' po i => ?_⟩
      have l' := po.im.sqT hs
      have r' := ra.im po.im
      have lr := ra.length
      refine ⟨fun z hz => ?_, fun hi => ⟨vs, l', by rw [enumL_len] at hi; omega⟩⟩
      obtain ⟨x', hx', rfl⟩ := enumL_get _ _ _ _ hz
      obtain ⟨w, hw, rw'⟩ := r'.get hx'
      refine ⟨⟨vs, w, l', hw⟩, fun v H'' y => ?_⟩
      obtain ⟨T, u, rfl, hT, rfl, hu⟩ := y
      have e := hu vs l'
      rw [hw] at e
      cases e
      have sm := same_upd (o := .tup [.int (i : Int), w]) hT
      rw [Nat.zero_add]
      exact ⟨sm, .tup (SqT.of upd_same) (.cons (.int _) (.cons (rw'.im (Same.imK sm)) .nil))⟩
  refine .inl ⟨lk, ε, F, x, ε1, rel, h1, fun v H1 F1 T rel1 po1 vr1 => ?_⟩
  obtain ⟨p, vs, rfl, l0, ra⟩ := vr1.ls (lk := lk) rel1.dj po1.djT hd
  have l := l0.mono (lk2 := (root ea).toList ++ lk) fun i hi => by
    unfold lock at hi
    split at hi
    · exact List.mem_append_right _ hi
    · split at hi
      · rename_i j hj
        rw [hj]
        exact hi
      · exact List.mem_append_right _ hi
  refine ⟨p, vs, rfl, l.sq, q _ H1 F1 rel1 po1.drop (fun i hi => List.mem_append_right _ hi) (src_list l ra (enumL_len _ _) (fun i H' hi l' => ⟨vs, vs[i], l'.sq, List.getElem?_eq_getElem hi⟩) (fun i H' hi l' => ⟨vs, l'.sq, hi⟩) fun i H' v H'' w x z l' hw rw' hx hz y => ?_)⟩
  obtain ⟨T, u, rfl, hT, rfl, hu⟩ := y
  obtain ⟨x', hx', rfl⟩ := enumL_get _ _ _ _ hz
  rw [hx] at hx'
  cases hx'
  have e := hu vs l'.sq
  rw [hw] at e
  cases e
  have sm := same_upd (o := .tup [.int (i : Int), w]) hT
  rw [Nat.zero_add]
  exact ⟨sm, .tup (SqT.of upd_same) (.cons (.int _) (.cons (rw'.im (Same.imK sm)) .nil))⟩
end
end Wh


set_option Elab.async false
set_option linter.all false
set_option maxRecDepth 100000
set_option maxHeartbeats 1000000
namespace Wh
open PySem PySem.Spec PyProof.Rows L2
section
variable {X : Cx} {CA : Str → Addr} {c : Cfg} {K : PySem.W.Frag} {H : Hp} {Q : VK} {σ : L2.St}
variable {a b : Expr} {ea eb : E} {pos : Pos}

/-! ### a slot set -/
theorem Rel.set {ε : Env} {F : Fo} {i : Nat} {d : D} {v : V} {G : List Addr} (rel : Rel K CA H ε σ F) (r : RD K CA H d v G) (nd : G.Nodup) (dj : ∀ j, j ≠ i → ∀ a ∈ F j, a ∉ G) (hi : i < σ.length) :
    Rel K CA H (ε.set i (some d)) (σ.set i (some v)) (fun j => if j = i then G else F j) := by
  have hi' : i < ε.length := by rw [← rel.len]; exact hi
  refine ⟨by simp [rel.len], fun j e he => ?_, fun j hj => ?_, fun j k a h1 h2 => ?_, fun j => ?_⟩
  · by_cases hji : j = i
    · subst hji
      rw [List.getElem?_set_self hi'] at he
      cases he
      exact ⟨v, List.getElem?_set_self hi, by rw [if_pos rfl]; exact r⟩
    · rw [List.getElem?_set_ne (Ne.symm hji)] at he
      obtain ⟨w, e1, q⟩ := rel.val j e he
      exact ⟨w, by rw [List.getElem?_set_ne (Ne.symm hji)]; exact e1, by rw [if_neg hji]; exact q⟩
  · by_cases hji : j = i
    · subst hji
      exact absurd (List.getElem?_set_self hi') (hj d)
    · rw [if_neg hji]
      exact rel.emp j fun e z => hj e (by rw [List.getElem?_set_ne (Ne.symm hji)]; exact z)
  · by_cases hji : j = i
    · by_cases hki : k = i
      · rw [hji, hki]
      · rw [if_pos hji] at h1
        rw [if_neg hki] at h2
        exact absurd h1 (dj k hki a h2)
    · by_cases hki : k = i
      · rw [if_neg hji] at h1
        rw [if_pos hki] at h2
        exact absurd h2 (dj j hji a h1)
      · rw [if_neg hji] at h1
        rw [if_neg hki] at h2
        exact rel.dj j k a h1 h2
  · by_cases hji : j = i
    · rw [if_pos hji]; exact nd
    · rw [if_neg hji]; exact rel.nd j
theorem Po.set {lk : List Nat} {H H1 : Hp} {F F1 : Fo} {T G T' : List Addr} {i : Nat} (p : Po lk H F H1 F1 T) (hi : i ∉ lk) (sG : ∀ a ∈ G, a ∈ T) (sT : ∀ a ∈ T', a ∈ T) (nT : T'.Nodup) (dj : ∀ a ∈ G, a ∉ T') : Po lk H F H1 (fun j => if j = i then G else F1 j) T' := by
  refine ⟨p.kp, p.im, fun j hj => ?_, fun j hj a ha => ?_, fun a ha => p.oldT a (sT a ha), nT, fun j a ha hm => ?_⟩
  · have : j ≠ i := fun e => hi (e ▸ hj)
    show (if j = i then G else F1 j) = F j
    rw [if_neg this]; exact p.lkd j hj
  · have ha : a ∈ (if j = i then G else F1 j) := ha
    by_cases hji : j = i
    · rw [if_pos hji] at ha; exact p.oldT a (sG a ha)
    · rw [if_neg hji] at ha; exact p.old j hj a ha
  · have ha : a ∈ (if j = i then G else F1 j) := ha
    by_cases hji : j = i
    · rw [if_pos hji] at ha; exact dj a ha hm
    · rw [if_neg hji] at ha; exact p.djT j a ha (sT a hm)

/-! ### patterns -/
mutual
def Pt.slots : Pt → List Nat
  | .var i => [i]
  | .tup ts => slotss ts
def slotss : List Pt → List Nat
  | [] => []
  | t :: ts => t.slots ++ slotss ts
end
def Off (sl : List Nat) (σ σ' : L2.St) : Prop := σ'.length = σ.length ∧ ∀ i, i ∉ sl → σ'[i]? = σ[i]?
theorem Off.refl (sl : List Nat) (σ : L2.St) : Off sl σ σ := ⟨rfl, fun _ _ => rfl⟩
theorem Off.trans {sl : List Nat} {σ1 σ2 σ3 : L2.St} (a : Off sl σ1 σ2) (b : Off sl σ2 σ3) : Off sl σ1 σ3 := ⟨b.1.trans a.1, fun i hi => (b.2 i hi).trans (a.2 i hi)⟩
theorem Off.mono {sl sl2 : List Nat} {σ1 σ2 : L2.St} (a : Off sl σ1 σ2) (h : ∀ i ∈ sl, i ∈ sl2) : Off sl2 σ1 σ2 := ⟨a.1, fun i hi => a.2 i fun z => hi (h i z)⟩
theorem Off.set {sl : List Nat} {σ : L2.St} {i : Nat} {v : Option V} (h : i ∈ sl) : Off sl σ (σ.set i v) := ⟨by simp, fun j hj => List.getElem?_set_ne (show i ≠ j from fun e => hj (by rw [← e]; exact h))⟩
def tG (K : PySem.W.Frag) (CA : Str → Addr) (t : Pt) : TG := fun v σ H Q => ∃ lk ε F x ε', Rel K CA H ε σ F ∧ Rp K H v x ∧ bindP lk t x ε = some ε' ∧ ∀ σ' F', Rel K CA H ε' σ' F' → Po lk H F H F' [] → Off t.slots σ σ' → Q σ' H
def tGs (K : PySem.W.Frag) (CA : Str → Addr) (ts : List Pt) : TGs := fun vs σ H Q => ∃ lk ε F xs ε', Rel K CA H ε σ F ∧ RpAll K H vs xs ∧ bindPs lk ts xs ε = some ε' ∧ ∀ σ' F', Rel K CA H ε' σ' F' → Po lk H F H F' [] → Off (slotss ts) σ σ' → Q σ' H
theorem pg_mono {tg : Expr} {t t' : TG} (h : PG X tg t) (f : ∀ v σ H Q, t' v σ H Q → t v σ H Q) : PG X tg t' := ⟨fun pins s σ H v u Q I r hw => h.run pins s σ H v u Q I r (f v σ H Q hw)⟩
theorem pgs_mono {tg : List Expr} {t t' : TGs} (h : PGs X tg t) (f : ∀ v σ H Q, t' v σ H Q → t v σ H Q) : PGs X tg t' := ⟨fun pins s σ H v u Q I r hw => h.run pins s σ H v u Q I r (f v σ H Q hw)⟩
theorem snd_gname {tg : Expr} {i : Nat} (h : PG X tg (gName i)) (hi : i < X.N.length) : PG X tg (tG X.K CA (.var i)) := by
  refine ⟨fun pins s σ H v u Q I r ⟨lk, ε, F, x, ε', rel, rx, hb, q⟩ => h.run pins s σ H v u Q I r ?_⟩
  simp only [bindP] at hb
  split at hb
  · cases hb
  · rename_i hl
    cases hb
    have il : i < σ.length := by rw [I.len]; exact hi
    exact q _ _ (rel.set (.p rx) List.nodup_nil (fun j _ a _ h => nomatch h) il) (Po.refl.set hl (fun _ h => nomatch h) (fun _ h => h) List.nodup_nil (fun _ h => nomatch h)) (Off.set (by simp [Pt.slots]))
theorem snd_gnil : PGs X [] (tGs X.K CA []) := pgs_mono pgs_nil fun vs σ H Q ⟨lk, ε, F, xs, ε', rel, rx, hb, q⟩ => by
  cases rx with
  | nil =>
    simp only [bindPs] at hb
    cases hb
    exact ⟨rfl, q σ F rel Po.refl (Off.refl _ _)⟩
  | cons _ _ => simp [bindPs] at hb
theorem snd_gcons {e : Expr} {es : List Expr} {t : Pt} {ts : List Pt} (h1 : PG X e (tG X.K CA t)) (h2 : PGs X es (tGs X.K CA ts)) (hs : (assignEach (e :: es) X.env).map (·.2) = assign e X.env :: (assignEach es X.env).map (·.2)) : PGs X (e :: es) (tGs X.K CA (t :: ts)) := by
  refine pgs_mono (pgs_cons h1 h2 hs) fun vs σ H Q ⟨lk, ε, F, xs, ε', rel, rx, hb, q⟩ => ?_
  cases rx with
  | nil => simp [bindPs] at hb
  | @cons v vs x xs hx rr =>
    simp only [bindPs, Option.bind_eq_some_iff] at hb
    obtain ⟨ε1, b1, b2⟩ := hb
    refine ⟨v, vs, rfl, lk, ε, F, x, ε1, rel, hx, b1, fun σ1 F1 rel1 po1 o1 => ⟨lk, ε1, F1, xs, ε', rel1, rr, b2, fun σ2 F2 rel2 po2 o2 => ?_⟩⟩
    refine q σ2 F2 rel2 (po1.cons po2) ((o1.mono ?_).trans (o2.mono ?_))
    · intro i hi; simp [slotss, hi]
    · intro i hi; simp [slotss, hi]
theorem snd_gtup {es : List Expr} {k : Nat} {ts : List Pt} (hc : X.calm = true) (h : PGs X es (tGs X.K CA ts)) (hl : es.length = ts.length) (hn : (assignEach es X.env).length = es.length) (hst : (assignEach es X.env).findIdx? (·.1) = none) : PG X (.Tuple es k pos) (tG X.K CA (.tup ts)) := by
  refine pg_mono (pg_tup hc h (hn.trans hl) hst) fun v σ H Q ⟨lk, ε, F, x, ε', rel, rx, hb, q⟩ => ?_
  cases rx with
  | tup hs ra =>
    simp only [bindP] at hb
    have len : ∀ {ts : List Pt} {xs : List PyData} {ε ε' : Env}, bindPs lk ts xs ε = some ε' → xs.length = ts.length := by
      intro ts
      induction ts with
      | nil => intro xs ε ε' h; cases xs with | nil => rfl | cons _ _ => simp [bindPs] at h
      | cons t ts ih =>
        intro xs ε ε' h
        cases xs with
        | nil => simp [bindPs] at h
        | cons x xs =>
          simp only [bindPs, Option.bind_eq_some_iff] at h
          obtain ⟨_, _, h⟩ := h
          simp [ih h]
    exact ⟨_, _, rfl, hs, by rw [ra.length, len hb], lk, ε, F, _, ε', rel, ra, hb, q⟩
  | _ => simp [bindP] at hb

/-! ### statements -/
def lkN (n : Nat) (lk : List Nat) : List Nat := lk.filter (· < n)
def Kp (keep : List Nat) (σ σ' : L2.St) : Prop := ∀ i ∈ keep, σ'[i]? = σ[i]?
/-- what is wanted behind a statement that ends so -/
def Cont (K : PySem.W.Frag) (CA : Str → Addr) (np : Nat) (keep : List Nat) (lk : List Nat) (H : Hp) (F : Fo) (σ : L2.St) (fl : Fl) (ε' : Env) (D : Ends) : Prop := match fl with
  | .next => ∀ σ' H' F', Rel K CA H' ε' σ' F' → Po lk H F H' F' [] → Kp keep σ σ' → D.nx σ' H'
  | .brk => ∀ σ' H' F', Rel K CA H' ε' σ' F' → Po lk H F H' F' [] → Kp keep σ σ' → D.bk σ' H'
  | .cont => ∀ σ' H' F', Rel K CA H' ε' σ' F' → Po lk H F H' F' [] → Kp keep σ σ' → D.ct σ' H'
  | .ret d => ∀ v σ' H' F' T, Rel K CA H' (ε'.take np) (σ'.take np) F' → Po (lkN np lk) H F H' F' T → RD K CA H' d v T → Kp keep σ σ' → D.rt v H'
def tS (K : PySem.W.Frag) (CA : Str → Addr) (c : Cfg) (keep : List Nat) (s : S) : TS := fun D σ H => ∃ lk ε F fl ε', Rel K CA H ε σ F ∧ exS c lk s ε = some (fl, ε') ∧ Cont K CA c.np keep lk H F σ fl ε' D
def tSs (K : PySem.W.Frag) (CA : Str → Addr) (c : Cfg) (keep : List Nat) (s : List S) : TS := fun D σ H => ∃ lk ε F fl ε', Rel K CA H ε σ F ∧ exSs c lk s ε = some (fl, ε') ∧ Cont K CA c.np keep lk H F σ fl ε' D
theorem Kp.refl {keep : List Nat} (σ : L2.St) : Kp keep σ σ := fun _ _ => rfl
theorem Kp.trans {keep : List Nat} {a b d : L2.St} (x : Kp keep a b) (y : Kp keep b d) : Kp keep a d := fun i hi => (y i hi).trans (x i hi)
theorem Off.kp {sl keep : List Nat} {σ σ' : L2.St} (o : Off sl σ σ') (h : ∀ i ∈ sl, i ∉ keep) : Kp keep σ σ' := fun i hi => o.2 i fun z => h i z hi
theorem lkN_mono {n : Nat} {lk lk2 : List Nat} (h : ∀ i ∈ lk, i ∈ lk2) : ∀ i ∈ lkN n lk, i ∈ lkN n lk2 := fun i hi => by
  simp only [lkN, List.mem_filter] at hi ⊢
  exact ⟨h i hi.1, hi.2⟩
theorem lkN_sub {n : Nat} {lk : List Nat} : ∀ i ∈ lkN n lk, i ∈ lk := fun i hi => (List.mem_filter.mp hi).1
/-- behind a step -/
theorem Cont.adv {np : Nat} {keep lk : List Nat} {H H1 : Hp} {F F1 : Fo} {σ σ1 : L2.St} {fl : Fl} {ε' : Env} {D : Ends} (h : Cont K CA np keep lk H F σ fl ε' D) (p : Po lk H F H1 F1 []) (k : Kp keep σ σ1) : Cont K CA np keep lk H1 F1 σ1 fl ε' D := by
  cases fl with
  | next => exact fun σ' H' F' r po kp => h σ' H' F' r (p.cons po) (k.trans kp)
  | brk => exact fun σ' H' F' r po kp => h σ' H' F' r (p.cons po) (k.trans kp)
  | cont => exact fun σ' H' F' r po kp => h σ' H' F' r (p.cons po) (k.trans kp)
  | ret d => exact fun v σ' H' F' T r po rd kp => h v σ' H' F' T r ((p.mono lkN_sub).cons po) rd (k.trans kp)
theorem Cont.lk {np : Nat} {keep lk lk2 : List Nat} {H : Hp} {F : Fo} {σ : L2.St} {fl : Fl} {ε' : Env} {D : Ends} (h : Cont K CA np keep lk H F σ fl ε' D) (s : ∀ i ∈ lk, i ∈ lk2) : Cont K CA np keep lk2 H F σ fl ε' D := by
  cases fl with
  | next => exact fun σ' H' F' r po kp => h σ' H' F' r (po.mono s) kp
  | brk => exact fun σ' H' F' r po kp => h σ' H' F' r (po.mono s) kp
  | cont => exact fun σ' H' F' r po kp => h σ' H' F' r (po.mono s) kp
  | ret d => exact fun v σ' H' F' T r po rd kp => h v σ' H' F' T r (po.mono (lkN_mono s)) rd kp
theorem ps_mono {st : Stmt} {t t' : TS} (h : PS X st t) (f : ∀ D σ H, t' D σ H → t D σ H) : PS X st t' := ⟨fun pins s σ H D I hw => h.run pins s σ H D I (f D σ H hw)⟩
theorem pss_mono {st : List Stmt} {t t' : TS} (h : PSs X st t) (f : ∀ D σ H, t' D σ H → t D σ H) : PSs X st t' := ⟨fun pins s σ H D I hw => h.run pins s σ H D I (f D σ H hw)⟩
variable {keep : List Nat}
theorem s_pass : PS X (.Pass pos) (tS X.K CA c keep .pass) := ps_mono ps_pass fun D σ H ⟨lk, ε, F, fl, ε', rel, he, q⟩ => by
  simp only [exS] at he; cases he
  exact q σ H F rel Po.refl (Kp.refl _)
theorem s_brk : PS X (.Break pos) (tS X.K CA c keep .brk) := ps_mono ps_break fun D σ H ⟨lk, ε, F, fl, ε', rel, he, q⟩ => by
  simp only [exS] at he; cases he
  exact q σ H F rel Po.refl (Kp.refl _)
theorem s_cont : PS X (.Continue pos) (tS X.K CA c keep .cont) := ps_mono ps_continue fun D σ H ⟨lk, ε, F, fl, ε', rel, he, q⟩ => by
  simp only [exS] at he; cases he
  exact q σ H F rel Po.refl (Kp.refl _)
theorem s_expr (h : PE X a (tE X.K CA c ea)) (hs : swapsWith a none pos.line X.env = pure false) : PS X (.Expr a pos) (tS X.K CA c keep (.expr ea)) := ps_mono (ps_expr h hs) fun D σ H ⟨lk, ε, F, fl, ε', rel, he, q⟩ => by
  simp only [exS, Option.map_eq_some_iff] at he
  obtain ⟨⟨d, ε1⟩, h1, e⟩ := he
  cases e
  exact ⟨lk, ε, F, d, ε1, rel, h1, fun v H1 F1 T rel1 po1 vr1 => q σ H1 F1 rel1 po1.drop (Kp.refl _)⟩
theorem s_nil : PSs X [] (tSs X.K CA c keep []) := pss_mono pss_nil fun D σ H ⟨lk, ε, F, fl, ε', rel, he, q⟩ => by
  simp only [exSs] at he; cases he
  exact q σ H F rel Po.refl (Kp.refl _)
theorem s_cons {st : Stmt} {sts : List Stmt} {s : S} {ss : List S} (h1 : PS X st (tS X.K CA c keep s)) (h2 : PSs X sts (tSs X.K CA c keep ss)) : PSs X (st :: sts) (tSs X.K CA c keep (s :: ss)) := by
  refine pss_mono (pss_cons h1 h2) fun D σ H ⟨lk, ε, F, fl, ε', rel, he, q⟩ => ?_
  simp only [exSs, Option.bind_eq_some_iff] at he
  obtain ⟨⟨f1, ε1⟩, h3, he⟩ := he
  refine ⟨lk, ε, F, f1, ε1, rel, h3, ?_⟩
  cases f1 with
  | next => exact fun σ1 H1 F1 rel1 po1 k1 => ⟨lk, ε1, F1, fl, ε', rel1, he, q.adv po1 k1⟩
  | brk => simp only at he; cases he; exact q
  | cont => simp only at he; cases he; exact q
  | ret d => simp only at he; cases he; exact q
theorem s_ite {t : Expr} {et : E} {as bs : List Stmt} {sa sb : List S} (ht : PT X t (tT X.K CA c et)) (ha : PSs X as (tSs X.K CA c keep sa)) (hb : PSs X bs (tSs X.K CA c keep sb)) : PS X (.If t as bs pos) (tS X.K CA c keep (.ite et sa sb)) := by
  refine ps_mono (ps_if ht ha hb) fun D σ H ⟨lk, ε, F, fl, ε', rel, he, q⟩ => ?_
  simp only [exS, Option.bind_eq_some_iff] at he
  obtain ⟨⟨x, ε1⟩, h1, he⟩ := he
  simp only at he
  split at he
  · rename_i k
    refine ⟨lk, ε, F, k, ε1, rel, h1, fun H1 F1 rel1 po1 => ?_⟩
    cases k with
    | true => exact ⟨lk, ε1, F1, fl, ε', rel1, he, q.adv po1 (Kp.refl _)⟩
    | false => exact ⟨lk, ε1, F1, fl, ε', rel1, he, q.adv po1 (Kp.refl _)⟩
  · cases he
theorem s_while {t : Expr} {et : E} {bs : List Stmt} {sb : List S} (hp : PassesOwn (model X.prog X.w) X.A X.env X.xe) (ht : PT X t (tT X.K CA c et)) (hb : PSs X bs (tSs X.K CA c keep sb)) : PS X (.While t bs [] pos) (tS X.K CA c keep (.whl et sb)) := by
  refine ps_mono (ps_while hp ht hb) fun D σ H ⟨lk, ε, F, fl, ε', rel, he, q⟩ => ?_
  simp only [exS] at he
  refine ⟨fun m σ1 H1 => ∃ ε1 F1, Rel X.K CA H1 ε1 σ1 F1 ∧ whileLoop (fun ε => (ev c lk et ε).bind fun (x, ε1) => match x with | .p (.bool k) => some (k, ε1) | _ => none) (fun ε => exSs c lk sb ε) m ε1 = some (fl, ε') ∧ Cont X.K CA c.np keep lk H1 F1 σ1 fl ε' D, ⟨c.fuel, ε, F, rel, he, q⟩, ?_⟩
  rintro m σ1 H1 ⟨ε1, F1, rel1, he1, q1⟩
  cases m with
  | zero => simp [whileLoop] at he1
  | succ m =>
    simp only [whileLoop, Option.bind_eq_some_iff] at he1
    obtain ⟨⟨k, ε2⟩, ⟨⟨x, ε3⟩, h1, h2⟩, h3⟩ := he1
    simp only at h2
    split at h2
    · cases h2
      refine ⟨lk, ε1, F1, k, ε2, rel1, h1, fun H2 F2 rel2 po2 => ?_⟩
      have q2 := q1.adv po2 (Kp.refl _)
      cases k with
      | false =>
        simp only [Bool.false_eq_true, if_false] at h3 ⊢
        cases h3
        exact q2 σ1 H2 F2 rel2 Po.refl (Kp.refl _)
      | true =>
        simp only [if_true, Option.bind_eq_some_iff] at h3 ⊢
        obtain ⟨⟨f1, ε4⟩, h4, h5⟩ := h3
        refine ⟨_, fun σ' H' n => ⟨m, Nat.lt_succ_self m, n⟩, lk, ε2, F2, f1, ε4, rel2, h4, ?_⟩
        cases f1 with
        | next => exact fun σ3 H3 F3 rel3 po3 k3 => ⟨ε4, F3, rel3, h5, q2.adv po3 k3⟩
        | cont => exact fun σ3 H3 F3 rel3 po3 k3 => ⟨ε4, F3, rel3, h5, q2.adv po3 k3⟩
        | brk => simp only at h5; cases h5; exact q2
        | ret d => simp only at h5; cases h5; exact q2
    · cases h2
theorem s_for {tg it : Expr} {t : Pt} {ei : E} {bs : List Stmt} {sb : List S} (hp : PassesOwn (model X.prog X.w) X.A X.env X.xe) (hc : X.calm = true) (hi : PI X tg it (tI X.K CA c ei)) (hg : PG X tg (tG X.K CA t)) (hk : ∀ i ∈ t.slots, i ∉ keep) (hb : PSs X bs (tSs X.K CA c keep sb)) (hs : ∀ x, foldedSetIterable it X.env x = pure x) :
    PS X (.For tg it bs [] pos) (tS X.K CA c keep (.for_ t ei sb)) := by
  refine ps_mono (ps_for hp hc hi hg hb hs) fun D σ H ⟨lk, ε, F, fl, ε', rel, he, q⟩ => ?_
  simp only [exS, Option.bind_eq_some_iff] at he
  obtain ⟨⟨xs, lk', ε1⟩, h1, he⟩ := he
  refine ⟨lk, ε, F, xs, lk', ε1, rel, h1, fun J H1 F1 rel1 po1 hlk src => ?_⟩
  have q1 := (q.adv po1 (Kp.refl _)).lk hlk
  refine ⟨fun i m σ2 H2 => m = xs.length - i ∧ i ≤ xs.length ∧ ∃ ε2 F2, Rel X.K CA H2 ε2 σ2 F2 ∧ forLoop (fun x ε => (bindP lk' t x ε).bind fun ε2 => exSs c lk' sb ε2) (xs.drop i) ε2 = some (fl, ε') ∧ Cont X.K CA c.np keep lk' H2 F2 σ2 fl ε' D ∧ Src X.K lk' H2 F2 J xs,
    ⟨xs.length, rfl, Nat.zero_le _, ε1, F1, rel1, by rw [List.drop_zero]; exact he, q1, src⟩, ?_⟩
  rintro i m σ2 H2 ⟨rfl, hle, ε2, F2, rel2, he2, q2, src2⟩
  obtain ⟨s1, s2⟩ := src2 H2 F2 Po.refl i
  by_cases hlt : i < xs.length
  · have hx : xs[i]? = some xs[i] := List.getElem?_eq_getElem hlt
    obtain ⟨go, yl⟩ := s1 _ hx
    rw [List.drop_eq_getElem_cons hlt] at he2
    simp only [forLoop, Option.bind_eq_some_iff] at he2
    obtain ⟨⟨f1, ε3⟩, ⟨ε4, hb1, hb2⟩, h5⟩ := he2
    refine .inr ⟨go, _, fun σ' H' n => ⟨xs.length - (i + 1), by omega, rfl, hlt, n⟩, fun v H3 y => ?_⟩
    obtain ⟨sm, rp⟩ := yl v H3 y
    have po3 : Po lk' H2 F2 H3 F2 [] := (Po.refl (F := F2)).al rel2 sm List.nodup_nil (fun _ h => nomatch h)
    refine ⟨lk', ε2, F2, _, ε4, rel2.same sm, rp, hb1, fun σ4 F4 rel4 po4 o4 => ?_⟩
    have po := po3.cons po4
    have q4 := q2.adv po (o4.kp hk)
    refine ⟨lk', ε4, F4, f1, ε3, rel4, hb2, ?_⟩
    cases f1 with
    | next => exact fun σ5 H5 F5 rel5 po5 k5 => ⟨ε3, F5, rel5, h5, q4.adv po5 k5, src2.step (po.cons po5)⟩
    | cont => exact fun σ5 H5 F5 rel5 po5 k5 => ⟨ε3, F5, rel5, h5, q4.adv po5 k5, src2.step (po.cons po5)⟩
    | brk => simp only at h5; cases h5; exact q4
    | ret d => simp only at h5; cases h5; exact q4
  · have e : i = xs.length := by omega
    subst e
    rw [List.drop_length] at he2
    simp only [forLoop] at he2
    cases he2
    exact .inl ⟨s2 (Nat.le_refl _), q2 σ2 H2 F2 rel2 Po.refl (Kp.refl _)⟩
end
end Wh


set_option Elab.async false
set_option linter.all false
set_option maxRecDepth 100000
set_option maxHeartbeats 1000000
namespace Wh
open PySem PySem.Spec PyProof.Rows L2
section
variable {X : Cx} {CA : Str → Addr} {c : Cfg} {K : PySem.W.Frag} {H : Hp} {Q : VK} {σ : L2.St}
variable {a b : Expr} {ea eb : E} {pos : Pos} {keep : List Nat}

theorem set_slot {lk : List Nat} {H H1 : Hp} {F F1 : Fo} {T G T' : List Addr} {ε1 : Env} {i : Nat} {d : D} {v : V} (po : Po lk H F H1 F1 T) (rel : Rel K CA H1 ε1 σ F1) (hi : i ∉ lk) (r : RD K CA H1 d v G) (nd : G.Nodup) (sG : ∀ a ∈ G, a ∈ T) (sT : ∀ a ∈ T', a ∈ T) (nT : T'.Nodup) (dj : ∀ a ∈ G, a ∉ T') :
    ∃ F', Rel K CA H1 (ε1.set i (some d)) (σ.set i (some v)) F' ∧ Po lk H F H1 F' T' := by
  by_cases hl : i < σ.length
  · exact ⟨_, rel.set r nd (fun j _ a ha hg => po.djT j a ha (sG a hg)) hl, po.set hi sG sT nT dj⟩
  · refine ⟨F1, ?_, po.sub nT sT⟩
    have e1 : σ.set i (some v) = σ := List.set_eq_of_length_le (by omega)
    have e2 : ε1.set i (some d) = ε1 := List.set_eq_of_length_le (by have := rel.len; omega)
    rw [e1, e2]; exact rel
theorem sink_vr {e : E} {d d' : D} {v : V} {F : Fo} {T : List Addr} (h : sink e d = some d') (vr : Vr K CA H σ e d v F T) : d' = d ∧ RD K CA H d v T := by
  unfold sink at h
  split at h
  · rename_i hs
    cases h
    exact ⟨rfl, vr.own hs⟩
  · cases h
/-- name = e -/
theorem asg_var {i : Nat} {te : TE} {st : Stmt} (h : PS X st (tAsg te (gName i))) (ht : ∀ σ H Q, tE X.K CA c ea σ H Q → te σ H Q) (hk : i ∉ keep) : PS X st (tS X.K CA c keep (.asg (.pt (.var i)) ea)) := by
  refine ps_mono h fun D σ H ⟨lk, ε, F, fl, ε', rel, he, q⟩ => ht _ _ _ ?_
  simp only [exS, Option.bind_eq_some_iff, Option.map_eq_some_iff, asgT] at he
  obtain ⟨⟨d, ε1⟩, h1, ε2, ⟨d', hs, hb⟩, e⟩ := he
  cases e
  simp only [bindD] at hb
  split at hb
  · cases hb
  · rename_i hi
    cases hb
    refine ⟨lk, ε, F, d, ε1, rel, h1, fun v H1 F1 T rel1 po1 vr1 => ?_⟩
    obtain ⟨rfl, r⟩ := sink_vr hs vr1
    obtain ⟨F', rel', po'⟩ := set_slot (T' := []) po1 rel1 hi r po1.ndT (fun _ h => h) (fun _ h => nomatch h) List.nodup_nil (fun _ _ h => nomatch h)
    exact q _ H1 F' rel' po' ((Off.set (sl := [i]) (by simp)).kp fun j hj => by rw [List.mem_singleton.mp hj]; exact hk)
/-- a, b, .. = e -/
theorem asg_tup {ts : List Pt} {st : Stmt} {g : TG} (h : PS X st (tAsg (tE X.K CA c ea) g)) (h1 : ∀ v σ H Q, tG X.K CA (.tup ts) v σ H Q → g v σ H Q) (h2 : ∀ i j, ts = [.var i, .var j] → ∀ v σ H Q, gTup X.K 2 (gCons (gName i) (gCons (gName j) gNil)) v σ H Q ∨ gLst X.K 2 (gCons (gName i) (gCons (gName j) gNil)) v σ H Q → g v σ H Q) (hk : ∀ i ∈ (Pt.tup ts).slots, i ∉ keep) :
    PS X st (tS X.K CA c keep (.asg (.pt (.tup ts)) ea)) := by
  refine ps_mono h fun D σ H ⟨lk, ε, F, fl, ε', rel, he, q⟩ => ?_
  simp only [exS, Option.bind_eq_some_iff, Option.map_eq_some_iff, asgT] at he
  obtain ⟨⟨d, ε1⟩, h3, ε2, ⟨d', hs, hb⟩, e⟩ := he
  cases e
  refine ⟨lk, ε, F, d, ε1, rel, h3, fun v H1 F1 T rel1 po1 vr1 => ?_⟩
  obtain ⟨rfl, r⟩ := sink_vr hs vr1
  unfold bindD at hb
  split at hb
  · rename_i heq; cases heq
  · rename_i x _
    obtain ⟨rfl, rx⟩ := vr1.p
    refine h1 _ _ _ _ ⟨lk, ε1, F1, x, _, rel1, rx, hb, fun σ' F' rel' po' o => ?_⟩
    exact q σ' H1 F' rel' (po1.cons po') (o.kp hk)
  · rename_i i j d1 d2 heq
    cases heq
    split at hb
    · cases hb
    · rename_i hl
      cases hb
      cases r with
      | @tup p vs _ G e1 rs =>
        cases rs with
        | @cons _ v1 G1 _ _ _ r1 rs =>
          cases rs with
          | @cons _ v2 G2 _ _ _ r2 rs =>
            cases rs
            rw [List.append_nil] at po1
            obtain ⟨n1, n2, n3⟩ := List.nodup_append.mp po1.ndT
            refine h2 i j rfl _ _ _ _ (.inl ⟨p, [v1, v2], rfl, SqT.of e1, rfl, v1, [v2], rfl, v2, [], rfl, rfl, ?_⟩)
            obtain ⟨F', rel', po'⟩ := set_slot (T' := G2) po1 rel1 (fun z => hl (.inl z)) r1 n1 (fun a ha => List.mem_append_left _ ha) (fun a ha => List.mem_append_right _ ha) n2 (fun a ha hb => n3 a ha a hb rfl)
            obtain ⟨F'', rel'', po''⟩ := set_slot (T' := []) po' rel' (fun z => hl (.inr z)) r2 n2 (fun _ h => h) (fun _ h => nomatch h) List.nodup_nil (fun _ _ h => nomatch h)
            refine q _ H1 F'' rel'' po'' (((Off.set (sl := (Pt.tup [.var i, .var j]).slots) (by simp [Pt.slots, slotss])).trans (Off.set (by simp [Pt.slots, slotss]))).kp hk)
  · rename_i i j d1 d2 heq
    cases heq
    split at hb
    · cases hb
    · rename_i hl
      cases hb
      cases r with
      | @lst p vs _ G e1 rs =>
        cases rs with
        | @cons _ v1 G1 _ _ _ r1 rs =>
          cases rs with
          | @cons _ v2 G2 _ _ _ r2 rs =>
            cases rs
            rw [List.append_nil] at po1
            obtain ⟨n1, n2, n3⟩ := List.nodup_append.mp (List.nodup_cons.mp po1.ndT).2
            refine h2 i j rfl _ _ _ _ (.inr ⟨p, [v1, v2], rfl, SqL.of e1, rfl, v1, [v2], rfl, v2, [], rfl, rfl, ?_⟩)
            obtain ⟨F', rel', po'⟩ := set_slot (T' := G2) po1 rel1 (fun z => hl (.inl z)) r1 n1 (fun a ha => List.mem_cons_of_mem _ (List.mem_append_left _ ha)) (fun a ha => List.mem_cons_of_mem _ (List.mem_append_right _ ha)) n2 (fun a ha hb => n3 a ha a hb rfl)
            obtain ⟨F'', rel'', po''⟩ := set_slot (T' := []) po' rel' (fun z => hl (.inr z)) r2 n2 (fun _ h => h) (fun _ h => nomatch h) List.nodup_nil (fun _ _ h => nomatch h)
            refine q _ H1 F'' rel'' po'' (((Off.set (sl := (Pt.tup [.var i, .var j]).slots) (by simp [Pt.slots, slotss])).trans (Off.set (by simp [Pt.slots, slotss]))).kp hk)
  · cases hb
theorem s_par {i j : Nat} {x y : Str} {px py pt : Pos} {kt k2 : Nat} {pt2 : Pos} (hc : X.calm = true) (hN : X.N.Nodup) (hi : X.N[i]? = some x) (hj : X.N[j]? = some y) (hij : i ≠ j) (hx : X.env.scope.names.lookup x = some .local) (hy : X.env.scope.names.lookup y = some .local)
    (ha : PE X a (tE X.K CA c ea)) (hb : PE X b (tE X.K CA c eb)) (na : NS a) (nb : NS b) (hw : swappedStores [.Tuple [.Name x px, .Name y py] kt pt] (.Tuple [a, b] k2 pt2) X.env = pure (some [x, y])) (hki : i ∉ keep) (hkj : j ∉ keep) :
    PS X (.Assign [.Tuple [.Name x px, .Name y py] kt pt] (.Tuple [a, b] k2 pt2) pos) (tS X.K CA c keep (.par i j ea eb)) := by
  have hn : ∀ e ∈ [a, b], NS e := fun e he => by
    rcases List.mem_cons.mp he with rfl | he
    · exact na
    · rw [List.mem_singleton.mp he]; exact nb
  refine ps_mono (ps_par hc hN hi hj hij hx hy (snd_args (.cons ha (.cons hb .nil)) hn) hw) fun D σ H ⟨lk, ε, F, fl, ε', rel, he, q⟩ => ?_
  simp only [exS, Option.bind_eq_some_iff] at he
  obtain ⟨⟨ds, ε1⟩, h1, he⟩ := he
  simp only at he
  split at he
  · rename_i hs
    split at he
    · rename_i d1 d2
      split at he
      · cases he
      · rename_i hl
        cases he
        refine ⟨lk, ε, F, _, ε1, rel, h1, fun vs H1 F1 Ts rel1 po1 vrs => ?_⟩
        have rds := vrs.rds hs
        have po1 := po1
        generalize Ts.flatten = T at rds po1
        cases rds with
        | @cons _ v1 G1 _ _ _ r1 rs =>
          cases rs with
          | @cons _ v2 G2 _ _ _ r2 rs =>
            cases rs
            rw [List.append_nil] at po1
            obtain ⟨n1, n2, n3⟩ := List.nodup_append.mp po1.ndT
            refine ⟨v1, v2, rfl, ?_⟩
            obtain ⟨F', rel', po'⟩ := set_slot (T' := G2) po1 rel1 (fun z => hl (.inl z)) r1 n1 (fun a ha => List.mem_append_left _ ha) (fun a ha => List.mem_append_right _ ha) n2 (fun a ha hb => n3 a ha a hb rfl)
            obtain ⟨F'', rel'', po''⟩ := set_slot (T' := []) po' rel' (fun z => hl (.inr (.inl z))) r2 n2 (fun _ h => h) (fun _ h => nomatch h) List.nodup_nil (fun _ _ h => nomatch h)
            exact q _ H1 F'' rel'' po'' (((Off.set (sl := [i, j]) (by simp)).trans (Off.set (by simp))).kp fun k hk => by
              rcases List.mem_cons.mp hk with rfl | hk
              · exact hki
              · rw [List.mem_singleton.mp hk]; exact hkj)
    · cases he
  · cases he
/-- name op= e -/
def augOk : BOp → Operator → Bool
  | .add, .Add => true
  | .sub, .Sub => true
  | _, _ => false
def rAugX (o : BOp) : TIp := fun v w H Q => ∃ x y z, (∀ K : PySem.W.Frag, True) ∧ augV o (.p x) (.p y) = some z ∧ (match x, v with | .int i, .int j => i = j | .str i, .str j => i = j | _, _ => False) ∧ (match y, w with | .int i, .int j => i = j | .str i, .str j => i = j | _, _ => False) ∧ Q (match z with | .int k => .int k | .str k => .str k | _ => .non) H
theorem ip_X {op : Operator} {o : BOp} (h : augOk o op = true) : PIp X op (rAugX o) := by
  intro pins s σ H v w u u2 Q I r1 r2 ⟨x, y, z, _, ha, hv, hw, q⟩
  cases o <;> cases op <;> first | (cases h; done) | skip
  · unfold augV at ha
    split at ha
    · rename_i i j _ e1 e2
      cases e1
      cases e2
      cases ha
      cases v with
      | int i' =>
        cases w with
        | int j' =>
          simp only at hv hw
          subst hv hw
          exact ip_add pins s σ H _ _ u u2 Q I r1 r2 ⟨_, _, rfl, rfl, q⟩
        | _ => exact hw.elim
      | _ => exact hv.elim
    · rename_i e _ _; cases e
    · rename_i i j _ e1 e2
      cases e1
      cases e2
      simp only [strCat, Option.map_eq_some_iff] at ha
      obtain ⟨t, ht, rfl⟩ := ha
      split at ht
      · rename_i hz
        cases ht
        cases v with
        | str i' =>
          cases w with
          | str j' =>
            simp only at hv hw
            subst hv hw
            exact in_addS pins s σ H _ _ u u2 Q I r1 r2 ⟨_, _, rfl, rfl, hz, q⟩
          | _ => exact hw.elim
        | _ => exact hv.elim
      · cases ht
    · cases ha
  · unfold augV at ha
    split at ha
    · rename_i e _ _; cases e
    · rename_i i j _ e1 e2
      cases e1
      cases e2
      cases ha
      cases v with
      | int i' =>
        cases w with
        | int j' =>
          simp only at hv hw
          subst hv hw
          exact ip_sub pins s σ H _ _ u u2 Q I r1 r2 ⟨_, _, rfl, rfl, q⟩
        | _ => exact hw.elim
      | _ => exact hv.elim
    · rename_i e _ _; cases e
    · cases ha
end
end Wh


set_option Elab.async false
set_option linter.all false
set_option maxRecDepth 100000
set_option maxHeartbeats 1000000
namespace Wh
open PySem PySem.Spec PyProof.Rows L2
section
variable {X : Cx} {CA : Str → Addr} {c : Cfg} {K : PySem.W.Frag} {H : Hp} {Q : VK} {σ : L2.St}
variable {a b : Expr} {ea eb : E} {pos : Pos} {keep : List Nat}

theorem s_aug {i : Nat} {x : Str} {op : Operator} {o : BOp} {pos' : Pos} (ho : augOk o op = true) (hN : X.N.Nodup) (hi : X.N[i]? = some x) (hx : Loc X.env.scope x) (hf : X.fn x = true ∨ X.env.scope.names.lookup x = some .local) (he : PE X a (tE X.K CA c ea)) (hk : i ∉ keep) :
    PS X (.AugAssign (.Name x pos') op a pos) (tS X.K CA c keep (.aug i o ea)) := by
  refine ps_mono (ps_aug hN hi hx he (ip_X ho) hf) fun D σ H ⟨lk, ε, F, fl, ε', rel, he, q⟩ => ?_
  simp only [exS] at he
  split at he
  · rename_i x0 hx0
    simp only [Option.bind_eq_some_iff] at he
    obtain ⟨⟨y, ε1⟩, h1, he⟩ := he
    simp only at he
    split at he
    · cases he
    · rename_i hl
      simp only [Option.map_eq_some_iff] at he
      obtain ⟨z, hz, e⟩ := he
      cases e
      obtain ⟨v, hv, r⟩ := rel.val i _ hx0
      refine ⟨v, hv, lk, ε, F, y, ε1, rel, h1, fun w H1 F1 T rel1 po1 vr1 => ?_⟩
      obtain ⟨_, x', ex, rx⟩ := r.isP rfl
      cases ex
      have hy : ∃ y', y = .p y' := by
        unfold augV at hz
        split at hz <;> first | exact ⟨_, rfl⟩ | cases hz
      obtain ⟨y', rfl⟩ := hy
      obtain ⟨rfl, ry⟩ := vr1.p
      have fin : ∀ (u : V), Rp X.K H1 u z → D.nx (σ.set i (some u)) H1 := fun u ru => by
        obtain ⟨F', rel', po'⟩ := set_slot (T' := []) po1 rel1 hl (.p ru) List.nodup_nil (fun _ h => nomatch h) (fun _ h => h) List.nodup_nil (fun _ h => nomatch h)
        exact q _ H1 F' rel' po' ((Off.set (sl := [i]) (by simp)).kp fun j hj => by rw [List.mem_singleton.mp hj]; exact hk)
      refine ⟨x0, y', z, fun _ => trivial, hz, ?_, ?_, ?_⟩
      · cases rx <;> first | rfl | (exfalso; revert hz; cases o <;> simp [augV])
      · cases ry <;> first | rfl | (exfalso; revert hz; cases o <;> cases x0 <;> simp [augV])
      · unfold augV at hz
        split at hz
        · cases hz; exact fin _ (.int _)
        · cases hz; exact fin _ (.int _)
        · simp only [Option.map_eq_some_iff] at hz
          obtain ⟨t, _, rfl⟩ := hz
          exact fin _ (.str _)
        · cases hz
  · cases he

/-! ### return -/
def cutF (n : Nat) (F : Fo) : Fo := fun j => if j < n then F j else []
theorem Rel.take {ε : Env} {F : Fo} (n : Nat) (r : Rel K CA H ε σ F) : Rel K CA H (ε.take n) (σ.take n) (cutF n F) := by
  refine ⟨by simp [r.len], fun i d e => ?_, fun i h => ?_, fun i j a h1 h2 => ?_, fun i => ?_⟩
  · rw [List.getElem?_take] at e
    split at e
    · rename_i hi
      obtain ⟨v, e1, q⟩ := r.val i d e
      exact ⟨v, by rw [List.getElem?_take, if_pos hi]; exact e1, by unfold cutF; rw [if_pos hi]; exact q⟩
    · cases e
  · unfold cutF
    split
    · rename_i hi
      exact r.emp i fun d z => h d (by rw [List.getElem?_take, if_pos hi]; exact z)
    · rfl
  · unfold cutF at h1 h2
    split at h1
    · split at h2
      · exact r.dj i j a h1 h2
      · cases h2
    · cases h1
  · unfold cutF
    split
    · exact r.nd i
    · exact List.nodup_nil
theorem Po.take {lk : List Nat} {H H1 : Hp} {F F1 : Fo} {T : List Addr} (n : Nat) (p : Po lk H F H1 F1 T) : Po (lkN n lk) H F H1 (cutF n F1) T := by
  refine ⟨fun a o h q => p.kp a o h fun i hi => q i fun z => hi (lkN_sub i z), p.im, fun i hi => ?_, fun i hi a ha => ?_, fun a ha => ?_, p.ndT, fun i a ha hm => ?_⟩
  · have h := List.mem_filter.mp hi
    show (if i < n then F1 i else []) = F i
    rw [if_pos (by simpa using h.2)]
    exact p.lkd i h.1
  · have ha : a ∈ (if i < n then F1 i else []) := ha
    split at ha
    · rename_i hn
      have hl : i ∉ lk := fun z => hi (List.mem_filter.mpr ⟨z, by simpa using hn⟩)
      rcases p.old i hl a ha with ⟨j, hj, w⟩ | w
      · exact .inl ⟨j, fun z => hj (lkN_sub j z), w⟩
      · exact .inr w
    · cases ha
  · rcases p.oldT a ha with ⟨j, hj, w⟩ | w
    · exact .inl ⟨j, fun z => hj (lkN_sub j z), w⟩
    · exact .inr w
  · have ha : a ∈ (if i < n then F1 i else []) := ha
    split at ha
    · exact p.djT i a ha hm
    · cases ha
/-- a local's tree leaves its slot -/
theorem Po.takeL {lk : List Nat} {H H1 : Hp} {F F1 : Fo} {ε : Env} {n i : Nat} (p : Po lk H F H1 F1 []) (r : Rel K CA H1 ε σ F1) (hi : n ≤ i) : Po (lkN n lk) H F H1 (cutF n F1) (F1 i) := by
  have t := p.take n
  refine ⟨t.kp, t.im, t.lkd, t.old, fun a ha => ?_, r.nd i, fun j a ha hm => ?_⟩
  · by_cases hl : i ∈ lk
    · rw [p.lkd i hl] at ha
      exact .inl ⟨i, fun z => by have := (List.mem_filter.mp z).2; simp at this; omega, ha⟩
    · rcases p.old i hl a ha with ⟨j, hj, w⟩ | w
      · exact .inl ⟨j, fun z => hj (lkN_sub j z), w⟩
      · exact .inr w
  · have ha : a ∈ (if j < n then F1 j else []) := ha
    split at ha
    · have := r.dj j i a ha hm
      omega
    · cases ha
theorem retV_cases {e : E} {d d' : D} (h : retV c e d = some d') : d' = frz c d ∧ ((d.isP || (root e).isNone) = true ∨ ∃ i, e = .var i ∧ c.np ≤ i) := by
  unfold retV at h
  by_cases hc : (d.isP || (root e).isNone) = true
  · rw [hc, Bool.true_or, if_pos rfl] at h
    cases h
    exact ⟨rfl, .inl hc⟩
  · rw [Bool.not_eq_true] at hc
    rw [hc, Bool.false_or] at h
    cases e with
    | var i =>
      by_cases hi : c.np ≤ i
      · simp only [hi, decide_true, if_true] at h
        cases h
        exact ⟨rfl, .inr ⟨i, rfl, hi⟩⟩
      · simp [hi] at h
    | _ => simp at h
theorem s_ret (h : PE X a (tE X.K CA c ea)) : PS X (.Return (some a) pos) (tS X.K CA c keep (.ret ea)) := by
  refine ps_mono (ps_ret (pe_fz h)) fun D σ H ⟨lk, ε, F, fl, ε', rel, he, q⟩ => ?_
  simp only [exS, Option.bind_eq_some_iff, Option.map_eq_some_iff] at he
  obtain ⟨⟨d, ε1⟩, h1, d', hr, e⟩ := he
  cases e
  refine ⟨lk, ε, F, d, ε1, rel, h1, fun v H1 F1 T rel1 po1 vr1 => ?_⟩
  have fin : ∀ T', RD X.K CA H1 d v T' → T'.Nodup → Po (lkN c.np lk) H F H1 (cutF c.np F1) T' → FzW (D.rt v) H1 := fun T' r nd po => by
    obtain ⟨rfl, _⟩ := retV_cases hr
    refine (frz_one (c := c) r nd).mono fun H3 ⟨⟨G, r3, ng, sg⟩, im, kp⟩ => ?_
    obtain ⟨po3, rel3⟩ := po.step (rel1.take c.np) (H2 := H3) (G := G) (fun a o e n => (kp a n).trans e) im ng (fun a ha => .inl (sg a ha))
    exact q v σ H3 _ G rel3 po3 r3 (Kp.refl _)
  by_cases hs : (d.isP || (root ea).isNone) = true
  · exact fin T (vr1.own hs) po1.ndT (po1.take c.np)
  · have hv : ∃ i, ea = .var i ∧ c.np ≤ i := (retV_cases hr).2.resolve_left hs
    obtain ⟨i, rfl, hi⟩ := hv
    rcases vr1 with ⟨x, rfl, rfl, r⟩ | ⟨hp, ⟨j, e, rfl, s', r, n⟩ | ⟨j, nv, _⟩ | ⟨hr', r⟩⟩
    · exact absurd rfl hs
    · cases e
      exact fin (F1 i) r n (po1.takeL rel1 hi)
    · exact absurd rfl (nv i)
    · cases hr'
theorem s_retn : PS X (.Return none pos) (tS X.K CA c keep .retn) := by
  refine ps_mono ps_retN fun D σ H ⟨lk, ε, F, fl, ε', rel, he, q⟩ => ?_
  simp only [exS] at he
  cases he
  exact q .non σ H _ [] (rel.take c.np) (Po.refl.take c.np) (.p .non) (Kp.refl _)

/-! ### a[i] = e of a list -/
theorem RDs.setv {d : D} {v : V} {T : List Addr} (rd : RD K CA H d v T) (nT : T.Nodup) : ∀ {ds : List D} {vs : List V} {F : List Addr} {n : Nat}, RDs K CA H ds vs F → F.Nodup → (∀ a ∈ F, a ∉ T) → n < ds.length → ∃ F', RDs K CA H (ds.set n d) (vs.set n v) F' ∧ F'.Nodup ∧ ∀ b ∈ F', b ∈ F ∨ b ∈ T
  | _, _, _, n, .nil, _, _, hn => by simp at hn
  | _, _, _, n, .cons (F := F1) (G := F2) h r, nd, dj, hn => by
    obtain ⟨n1, n2, n3⟩ := List.nodup_append.mp nd
    cases n with
    | zero =>
      refine ⟨T ++ F2, .cons rd r, List.nodup_append.mpr ⟨nT, n2, fun a ha b hb e => ?_⟩, fun b hb => ?_⟩
      · subst e; exact dj a (List.mem_append_right _ hb) ha
      · rcases List.mem_append.mp hb with h | h
        · exact .inr h
        · exact .inl (List.mem_append_right _ h)
    | succ n =>
      obtain ⟨F', r', nd', s'⟩ := RDs.setv rd nT r n2 (fun a ha => dj a (List.mem_append_right _ ha)) (by simpa using hn)
      refine ⟨F1 ++ F', .cons h r', List.nodup_append.mpr ⟨n1, nd', fun a ha b hb e => ?_⟩, fun b hb => ?_⟩
      · subst e
        rcases s' a hb with w | w
        · exact n3 a ha a w rfl
        · exact dj a (List.mem_append_left _ ha) w
      · rcases List.mem_append.mp hb with h | h
        · exact .inl (List.mem_append_left _ h)
        · rcases s' b h with w | w
          · exact .inl (List.mem_append_right _ w)
          · exact .inr w
/-- o[i] = v of a list or a dict -/
def rSetX : TSet := fun o i v H Q => rSetL o i v H Q ∨ rSetD o i v H Q
theorem set_X (hu : X.A.units + 1 < cLine) : PSet X rSetX := by
  intro pins s σ H o i v ov iv u Q I ro ri rv h
  exact h.elim (set_list pins s σ H o i v ov iv u Q I ro ri rv) (set_dict hu pins s σ H o i v ov iv u Q I ro ri rv)
theorem RDk.keys : ∀ {ds : List (Key × D)} {vs : List (Key × V)} {F : List Addr}, RDk K CA H ds vs F → vs.map (·.1) = ds.map (·.1)
  | _, _, _, .nil => rfl
  | _, _, _, .cons _ r => by simp [RDk.keys r]
theorem putK_hit {k : Key} {v w : V} {vs : List (Key × V)} (h : k ∉ vs.map (·.1)) : putK ((k, v) :: vs) k w = (k, w) :: vs := by
  unfold putK
  rw [if_pos (by simp)]
  simp only [List.map_cons, if_true]
  congr 1
  induction vs with
  | nil => rfl
  | cons p vs ih =>
    simp only [List.map_cons, List.mem_cons, not_or] at h
    simp only [List.map_cons, ih h.2]
    rw [if_neg (Ne.symm h.1)]
theorem putK_miss {x k : Key} {v w : V} {vs : List (Key × V)} (h : x ≠ k) : putK ((x, v) :: vs) k w = (x, v) :: putK vs k w := by
  unfold putK
  simp only [List.any_cons, h, decide_false, Bool.false_or, List.map_cons, if_false, List.cons_append]
  split <;> rfl
theorem dicPut_mem {k : Key} {d : D} : ∀ {ds : List (Key × D)} {x : Key}, x ∈ (dicPut ds k d).map (·.1) → x ∈ ds.map (·.1) ∨ x = k
  | [], x, h => by simp [dicPut] at h; exact .inr h
  | (y, e) :: ds, x, h => by
    unfold dicPut at h
    split at h
    · exact .inl (by simpa using h)
    · simp only [List.map_cons, List.mem_cons] at h ⊢
      rcases h with h | h
      · exact .inl (.inl h)
      · rcases dicPut_mem h with h | h
        · exact .inl (.inr h)
        · exact .inr h
theorem dicPut_nd {k : Key} {d : D} : ∀ {ds : List (Key × D)}, (ds.map (·.1)).Nodup → ((dicPut ds k d).map (·.1)).Nodup
  | [], _ => by simp [dicPut]
  | (y, e) :: ds, h => by
    simp only [List.map_cons, List.nodup_cons] at h
    unfold dicPut
    split
    · simpa using h
    · rename_i hne
      simp only [List.map_cons, List.nodup_cons]
      refine ⟨fun z => ?_, dicPut_nd h.2⟩
      rcases dicPut_mem z with z | z
      · exact h.1 z
      · exact hne z
theorem RDk.putv {k : Key} {d : D} {v : V} {T : List Addr} (rd : RD K CA H d v T) (nT : T.Nodup) : ∀ {ds : List (Key × D)} {vs : List (Key × V)} {F : List Addr}, RDk K CA H ds vs F → F.Nodup → (∀ a ∈ F, a ∉ T) → (ds.map (·.1)).Nodup → ∃ F', RDk K CA H (dicPut ds k d) (putK vs k v) F' ∧ F'.Nodup ∧ ∀ b ∈ F', b ∈ F ∨ b ∈ T
  | _, _, _, .nil, _, _, _ => ⟨T ++ [], .cons rd .nil, by simpa using nT, fun b hb => .inr (by simpa using hb)⟩
  | _, _, _, .cons (k := x) (v := v0) (F := F1) (ds := ds) (vs := vs) (G := F2) h r, nd, dj, kn => by
    obtain ⟨n1, n2, n3⟩ := List.nodup_append.mp nd
    simp only [List.map_cons, List.nodup_cons] at kn
    by_cases e : x = k
    · subst e
      have hk : x ∉ vs.map (·.1) := by rw [RDk.keys r]; exact kn.1
      refine ⟨T ++ F2, ?_, List.nodup_append.mpr ⟨nT, n2, fun a ha b hb e => ?_⟩, fun b hb => ?_⟩
      · rw [putK_hit hk]
        unfold dicPut
        rw [if_pos rfl]
        exact .cons rd r
      · subst e; exact dj a (List.mem_append_right _ hb) ha
      · rcases List.mem_append.mp hb with h | h
        · exact .inr h
        · exact .inl (List.mem_append_right _ h)
    · obtain ⟨F', r', nd', s'⟩ := RDk.putv (k := k) rd nT r n2 (fun a ha => dj a (List.mem_append_right _ ha)) kn.2
      refine ⟨F1 ++ F', ?_, List.nodup_append.mpr ⟨n1, nd', fun a ha b hb e => ?_⟩, fun b hb => ?_⟩
      · rw [putK_miss e]
        unfold dicPut
        rw [if_neg e]
        exact .cons h r'
      · subst e
        rcases s' a hb with w | w
        · exact n3 a ha a w rfl
        · exact dj a (List.mem_append_left _ ha) w
      · rcases List.mem_append.mp hb with h | h
        · exact .inl (List.mem_append_left _ h)
        · rcases s' b h with w | w
          · exact .inl (List.mem_append_right _ w)
          · exact .inr w
theorem sub_core {eo ek : E} {lk : List Nat} {ε1 ε2 : Env} {σ : L2.St} {H H1 : Hp} {F F1 : Fo} {T : List Addr} {d' : D} {w : V} {Q : L2.St → Hp → Prop} (he : subT c lk eo ek d' ε1 = some ε2) (rel1 : Rel X.K CA H1 ε1 σ F1) (po1 : Po lk H F H1 F1 T) (rdT : RD X.K CA H1 d' w T) (q : ∀ H3 F3, Rel X.K CA H3 ε2 σ F3 → Po lk H F H3 F3 [] → ImK H1 H3 → Q σ H3) : gSub (tP X.K CA eo) (tE X.K CA c ek) rSetX w σ H1 Q := by
  simp only [subT, Option.bind_eq_some_iff] at he
  obtain ⟨⟨i, π, y⟩, hp, he⟩ := he
  simp only at he
  split at he
  · cases he
  · rename_i hi
    simp only [Option.bind_eq_some_iff] at he
    obtain ⟨⟨kv, ε3⟩, h2, he⟩ := he
    simp only at he
    split at he
    · rename_i kk
      simp only [Option.bind_eq_some_iff, Option.map_eq_some_iff] at he
      obtain ⟨s, hst, y', hy', dd, hput, e⟩ := he
      subst e
      split at hst
      · rename_i ds0
        obtain ⟨d0, v0, v, G, hd0, hv0, rd0, at0, ry, nG, sG, up⟩ := path_rd rel1 hp
        refine ⟨ε1, F1, i, π, _, rel1, hp, fun u0 u hu atu => ?_⟩
        rw [hv0] at hu
        cases hu
        have := at0.det atu
        subst this
        refine ⟨i :: lk, ε1, F1, _, ε3, rel1, h2, fun kvv H2 F2 T2 rel2 po2 vr2 => ?_⟩
        obtain ⟨rfl, rk⟩ := vr2.p
        have hk : ∃ k n, kk = .int k ∧ ixN ds0.length k = some n ∧ s = .ix n := by
          simp only [stepOf] at hst
          cases kk with
          | int k =>
            simp only [Option.map_eq_some_iff] at hst
            obtain ⟨n, hn, rfl⟩ := hst
            exact ⟨k, n, rfl, hn, rfl⟩
          | _ => cases hst
        obtain ⟨k, n, rfl, hn, rfl⟩ := hk
        cases rk
        cases ry with
        | @lst p vs0 _ G0 e1 r0 =>
          have hnlt : n < ds0.length := by
            simp only [Wh.D.put] at hy'
            split at hy'
            · assumption
            · cases hy'
          simp only [Wh.D.put, if_pos hnlt] at hy'
          cases hy'
          have fi : F2 i = F1 i := po2.lkd i List.mem_cons_self
          have stay : ∀ a ∈ F1 i, H2 a = H1 a := fun a ha => po2.stay (rel1.mutk i a ha) fun j hj z => hj (by rw [rel1.dj j i a z ha]; exact List.mem_cons_self)
          have r0' : RDs X.K CA H2 ds0 vs0 G0 := r0.keep po2.im fun a ha => stay a (sG a (List.mem_cons_of_mem _ ha))
          have e1' : H2 p = some (.lst vs0) := (stay p (sG p List.mem_cons_self)).trans e1
          have rdT2 : RD X.K CA H2 d' w T := rdT.keep po2.im fun a ha => po2.stay (rdT.mutk a ha) fun j _ z => po1.djT j a z ha
          refine .inl ⟨p, vs0, k, n, rfl, rfl, e1', by rw [← r0.length]; exact hn, ?_⟩
          have im3 := ne_imm (o := .lst (vs0.set n w)) e1'
          obtain ⟨np, nG0⟩ := List.nodup_cons.mp nG
          have pT : p ∉ T := fun z => po1.djT i p (sG p List.mem_cons_self) z
          have dT : ∀ a ∈ G0, a ∉ T := fun a ha z => po1.djT i a (sG a (List.mem_cons_of_mem _ ha)) z
          obtain ⟨G1, rs, nG1, sG1⟩ := RDs.setv rdT2 po1.ndT r0' nG0 dT hnlt
          have pG1 : p ∉ G1 := fun z => (sG1 p z).elim np pT
          have rs3 : RDs X.K CA (upd H2 p (.lst (vs0.set n w))) (ds0.set n d') (vs0.set n w) G1 := rs.keep im3 fun a ha => upd_ne fun z => pG1 (z ▸ ha)
          have po := po1.trans (po2.mono fun j hj => List.mem_cons_of_mem _ hj) fun a ha => by
            obtain ⟨o, z⟩ := (rdT.mutk a ha).some
            rw [z]; simp
          rw [List.append_nil] at po
          have put : d0.putAt π (.lst (ds0.set n d')) = some dd := by
            simp only [putD, hd0] at hput
            exact hput
          obtain ⟨F', rd', nF', sF'⟩ := up _ _ (p :: G1) dd put (.lst upd_same rs3) (List.nodup_cons.mpr ⟨pG1, nG1⟩) (po2.im.trans im3) (fun b hb nb => by
              rw [upd_ne (show b ≠ p from fun z => nb (by rw [z]; exact List.mem_cons_self))]
              exact stay b hb) fun b hb => by
            rcases List.mem_cons.mp hb with rfl | hb
            · exact .inl List.mem_cons_self
            · rcases sG1 b hb with w | w
              · exact .inl (List.mem_cons_of_mem _ w)
              · exact .inr fun z => po1.djT i b z w
          obtain ⟨rel3, po3⟩ := po.slot rel2 hi hv0 (H3 := upd H2 p (.lst (vs0.set n w))) (T' := []) (fun a o eo nT nF => by
              rw [upd_ne (show a ≠ p from fun z => nF (by rw [z, fi]; exact sG p List.mem_cons_self))]; exact eo) im3 rd' nF' (fun a ha => by
              rcases sF' a ha with w | w
              · exact .inl (by rw [fi]; exact w.1)
              · rcases List.mem_cons.mp w with rfl | w
                · exact .inl (by rw [fi]; exact sG _ List.mem_cons_self)
                · rcases sG1 a w with w | w
                  · exact .inl (by rw [fi]; exact sG a (List.mem_cons_of_mem _ w))
                  · exact .inr (.inl w)) List.nodup_nil (fun _ h => nomatch h) (fun _ _ h => nomatch h)
          exact q _ _ rel3 po3 (po2.im.trans im3)
      · rename_i ds0
        split at hst
        · rename_i hlen
          obtain ⟨d0, v0, v, G, hd0, hv0, rd0, at0, ry, nG, sG, up⟩ := path_rd rel1 hp
          refine ⟨ε1, F1, i, π, _, rel1, hp, fun u0 u hu atu => ?_⟩
          rw [hv0] at hu
          cases hu
          have := at0.det atu
          subst this
          refine ⟨i :: lk, ε1, F1, _, ε3, rel1, h2, fun kvv H2 F2 T2 rel2 po2 vr2 => ?_⟩
          obtain ⟨rfl, rk⟩ := vr2.p
          simp only [stepOf, Option.map_eq_some_iff] at hst
          obtain ⟨k, hk, rfl⟩ := hst
          have ekv : kvv = kV k := by
            cases rk <;> simp only [keyOf] at hk <;> cases hk <;> rfl
          subst ekv
          cases ry with
          | @dic p vs0 _ G0 e1 nk r0 =>
            simp only [Wh.D.put] at hy'
            cases hy'
            have fi : F2 i = F1 i := po2.lkd i List.mem_cons_self
            have stay : ∀ a ∈ F1 i, H2 a = H1 a := fun a ha => po2.stay (rel1.mutk i a ha) fun j hj z => hj (by rw [rel1.dj j i a z ha]; exact List.mem_cons_self)
            have r0' : RDk X.K CA H2 ds0 vs0 G0 := r0.keep po2.im fun a ha => stay a (sG a (List.mem_cons_of_mem _ ha))
            have e1' : H2 p = some (.dK vs0) := (stay p (sG p List.mem_cons_self)).trans e1
            have rdT2 : RD X.K CA H2 d' w T := rdT.keep po2.im fun a ha => po2.stay (rdT.mutk a ha) fun j _ z => po1.djT j a z ha
            have hl0 : vs0.length < sizeLine := by
              have := congrArg List.length r0.keys
              simp only [List.length_map] at this
              simp only [sizeLine]
              omega
            refine .inr ⟨p, _, rfl, DPut.k e1' hl0, ?_⟩
            have im3 : ImK H2 (upd H2 p (.dK (putK vs0 k w))) := fun b o e i => by
              have nb : b ≠ p := fun z => by rw [z, e1'] at e; cases e; exact i
              rw [upd_ne nb]; exact e
            obtain ⟨np, nG0⟩ := List.nodup_cons.mp nG
            have pT : p ∉ T := fun z => po1.djT i p (sG p List.mem_cons_self) z
            have dT : ∀ a ∈ G0, a ∉ T := fun a ha z => po1.djT i a (sG a (List.mem_cons_of_mem _ ha)) z
            obtain ⟨G1, rs, nG1, sG1⟩ := RDk.putv (k := k) rdT2 po1.ndT r0' nG0 dT nk
            have pG1 : p ∉ G1 := fun z => (sG1 p z).elim np pT
            have rs3 : RDk X.K CA (upd H2 p (.dK (putK vs0 k w))) (dicPut ds0 k d') (putK vs0 k w) G1 := rs.keep im3 fun a ha => upd_ne fun z => pG1 (z ▸ ha)
            have po := po1.trans (po2.mono fun j hj => List.mem_cons_of_mem _ hj) fun a ha => by
              obtain ⟨o, z⟩ := (rdT.mutk a ha).some
              rw [z]; simp
            rw [List.append_nil] at po
            have put : d0.putAt π (.dic (dicPut ds0 k d')) = some dd := by
              simp only [putD, hd0] at hput
              exact hput
            obtain ⟨F', rd', nF', sF'⟩ := up _ _ (p :: G1) dd put (.dic upd_same (dicPut_nd nk) rs3) (List.nodup_cons.mpr ⟨pG1, nG1⟩) (po2.im.trans im3) (fun b hb nb => by
                rw [upd_ne (show b ≠ p from fun z => nb (by rw [z]; exact List.mem_cons_self))]
                exact stay b hb) fun b hb => by
              rcases List.mem_cons.mp hb with rfl | hb
              · exact .inl List.mem_cons_self
              · rcases sG1 b hb with w | w
                · exact .inl (List.mem_cons_of_mem _ w)
                · exact .inr fun z => po1.djT i b z w
            obtain ⟨rel3, po3⟩ := po.slot rel2 hi hv0 (H3 := upd H2 p (.dK (putK vs0 k w))) (T' := []) (fun a o eo nT nF => by
                rw [upd_ne (show a ≠ p from fun z => nF (by rw [z, fi]; exact sG p List.mem_cons_self))]; exact eo) im3 rd' nF' (fun a ha => by
                rcases sF' a ha with w | w
                · exact .inl (by rw [fi]; exact w.1)
                · rcases List.mem_cons.mp w with rfl | w
                  · exact .inl (by rw [fi]; exact sG _ List.mem_cons_self)
                  · rcases sG1 a w with w | w
                    · exact .inl (by rw [fi]; exact sG a (List.mem_cons_of_mem _ w))
                    · exact .inr (.inl w)) List.nodup_nil (fun _ h => nomatch h) (fun _ _ h => nomatch h)
            exact q _ _ rel3 po3 (po2.im.trans im3)
        · cases hst
      · cases hst
    · cases he
theorem s_sub {o k : Expr} {eo ek : E} {st : Stmt} (h : PS X st (tAsg (tE X.K CA c ea) (gSub (tP X.K CA eo) (tE X.K CA c ek) rSetX))) : PS X st (tS X.K CA c keep (.asg (.sub eo ek) ea)) := by
  refine ps_mono h fun D σ H ⟨lk, ε, F, fl, ε', rel, he, q⟩ => ?_
  simp only [exS, Option.bind_eq_some_iff, Option.map_eq_some_iff, asgT] at he
  obtain ⟨⟨d, ε1⟩, h1, ε2, ⟨d', hs, he⟩, e⟩ := he
  cases e
  refine ⟨lk, ε, F, d, ε1, rel, h1, fun w H1 F1 T rel1 po1 vr1 => ?_⟩
  obtain ⟨ed, rdT⟩ := sink_vr hs vr1
  subst ed
  exact sub_core he rel1 po1 rdT fun H3 F3 r3 p3 _ => q σ H3 F3 r3 p3 (Kp.refl _)
theorem s_subs {eo ek eo2 ek2 : E} {st : Stmt} (h : PS X st (tAsg (tE X.K CA c ea) (gTup X.K 2 (gCons (gSub (tP X.K CA eo) (tE X.K CA c ek) rSetX) (gCons (gSub (tP X.K CA eo2) (tE X.K CA c ek2) rSetX) gNil))))) : PS X st (tS X.K CA c keep (.asg (.subs eo ek eo2 ek2) ea)) := by
  refine ps_mono h fun D σ H ⟨lk, ε, F, fl, ε', rel, he, q⟩ => ?_
  simp only [exS, Option.bind_eq_some_iff, Option.map_eq_some_iff, asgT] at he
  obtain ⟨⟨d, ε1⟩, h1, ε2, he, e⟩ := he
  cases e
  refine ⟨lk, ε, F, d, ε1, rel, h1, fun w H1 F1 T rel1 po1 vr1 => ?_⟩
  simp only at he
  split at he
  · rename_i x y
    simp only [Option.bind_eq_some_iff] at he
    obtain ⟨ε3, e1, e2⟩ := he
    obtain ⟨rfl, rx⟩ := vr1.p
    cases rx with
    | tup hq ra =>
      cases ra with
      | cons r1 ra =>
        cases ra with
        | cons r2 ra =>
          cases ra
          refine ⟨_, _, rfl, hq, rfl, _, _, rfl, sub_core e1 rel1 po1 (.p r1) fun H3 F3 r3 p3 im => ?_⟩
          exact ⟨_, _, rfl, sub_core e2 r3 p3 (.p (r2.im im)) fun H4 F4 r4 p4 _ => ⟨rfl, q σ H4 F4 r4 p4 (Kp.refl _)⟩⟩
  · cases he
end
end Wh


set_option Elab.async false
set_option linter.all false
set_option maxRecDepth 100000
set_option maxHeartbeats 1000000
namespace Wh
open PySem PySem.Spec PyProof.Rows L2
section
variable {X : Cx} {CA : Str → Addr} {c : Cfg} {K : PySem.W.Frag} {H : Hp} {Q : VK} {σ : L2.St}
variable {a b : Expr} {ea eb : E} {pos : Pos} {keep : List Nat}
/-! ### o.f = e, o.f op= e -/
theorem RDf.len : ∀ {ds : List (Str × D)} {vs : List (Str × V)} {F : List Addr}, RDf K CA H ds vs F → vs.length = ds.length
  | _, _, _, .nil => rfl
  | _, _, _, .cons _ r => by simp [RDf.len r]
theorem fldSet_keys {f : Str} {d : D} : ∀ {ds : List (Str × D)} {g : Str}, g ∈ (fldSet f d ds).map (·.1) → g ∈ ds.map (·.1) ∨ g = f
  | [], g, h => by simp [fldSet] at h; exact .inr h
  | (x, e) :: ds, g, h => by
    unfold fldSet at h
    split at h
    · rename_i e'
      simp only [List.map_cons, List.mem_cons] at h ⊢
      rcases h with h | h
      · exact .inr h
      · exact .inl (.inr h)
    · simp only [List.map_cons, List.mem_cons] at h ⊢
      rcases h with h | h
      · exact .inl (.inl h)
      · rcases fldSet_keys h with h | h
        · exact .inl (.inr h)
        · exact .inr h
theorem RDf.putv {f : Str} {d : D} {v : V} {T : List Addr} (rd : RD K CA H d v T) (nT : T.Nodup) : ∀ {ds : List (Str × D)} {vs : List (Str × V)} {F : List Addr}, RDf K CA H ds vs F → F.Nodup → (∀ a ∈ F, a ∉ T) → ∃ F', RDf K CA H (fldSet f d ds) (putF f v vs) F' ∧ F'.Nodup ∧ ∀ b ∈ F', b ∈ F ∨ b ∈ T
  | _, _, _, .nil, _, _ => ⟨T ++ [], .cons rd .nil, by simpa using nT, fun b hb => .inr (by simpa using hb)⟩
  | _, _, _, .cons (f := x) (v := v0) (F := F1) (ds := ds) (vs := vs) (G := F2) h r, nd, dj => by
    obtain ⟨n1, n2, n3⟩ := List.nodup_append.mp nd
    by_cases e : x = f
    · subst e
      refine ⟨T ++ F2, ?_, List.nodup_append.mpr ⟨nT, n2, fun a ha b hb e => ?_⟩, fun b hb => ?_⟩
      · unfold fldSet putF
        rw [if_pos rfl, if_pos rfl]
        exact .cons rd r
      · subst e; exact dj a (List.mem_append_right _ hb) ha
      · rcases List.mem_append.mp hb with h | h
        · exact .inr h
        · exact .inl (List.mem_append_right _ h)
    · obtain ⟨F', r', nd', s'⟩ := RDf.putv (f := f) rd nT r n2 (fun a ha => dj a (List.mem_append_right _ ha))
      refine ⟨F1 ++ F', ?_, List.nodup_append.mpr ⟨n1, nd', fun a ha b hb e => ?_⟩, fun b hb => ?_⟩
      · unfold fldSet putF
        rw [if_neg e, if_neg e]
        exact .cons h r'
      · subst e
        rcases s' a hb with w | w
        · exact n3 a ha a w rfl
        · exact dj a (List.mem_append_left _ ha) w
      · rcases List.mem_append.mp hb with h | h
        · exact .inl (List.mem_append_left _ h)
        · rcases s' b h with w | w
          · exact .inl (List.mem_append_right _ w)
          · exact .inr w
/-- what stands where the path leads, and what a store there does -/
theorem fld_core {f k : Str} {lk : List Nat} {ε1 ε3 : Env} {H H1 H2 : Hp} {F F1 F2 : Fo} {T : List Addr} {i : Nat} {π : List St1} {ds0 : List (Str × D)} {dd d' : D} {w v0 v : V} {d0 : D} {G : List Addr}
    (po1 : Po lk H F H1 F1 T) (rel1 : Rel K CA H1 ε1 σ F1) (hi : i ∉ lk) (rel2 : Rel K CA H2 ε3 σ F2) (po2 : Po (i :: lk) H1 F1 H2 F2 []) (rdT : RD K CA H1 d' w T) (hlen : ds0.length < 1000) (hput : d0.putAt π (.obj k (fldSet f d' ds0)) = some dd)
    (hv0 : σ[i]? = some (some v0)) (ry : RD K CA H1 (.obj k ds0) v G) (nG : G.Nodup) (sG : ∀ a ∈ G, a ∈ F1 i)
    (up : ∀ H' z G' d', d0.putAt π z = some d' → RD K CA H' z v G' → G'.Nodup → ImK H1 H' → (∀ b ∈ F1 i, b ∉ G → H' b = H1 b) → (∀ b ∈ G', b ∈ G ∨ b ∉ F1 i) → ∃ F', RD K CA H' d' v0 F' ∧ F'.Nodup ∧ ∀ b ∈ F', (b ∈ F1 i ∧ b ∉ G) ∨ b ∈ G')
    (hna : (∀ g ∈ ds0.map (·.1), NoAttr K (CA k) g) → NoAttr K (CA k) f) :
    ∃ p dx fs, v = .ref p ∧ H1 p = some (.ins (CA k) dx fs) ∧ Cls K (CA k) ∧ NoAttr K (CA k) f ∧ RDf K CA H1 ds0 fs (G.drop 2) ∧ H2 p = some (.ins (CA k) dx fs) ∧ fs.length < 1000 ∧
      ∃ F3, Rel K CA (upd H2 p (.ins (CA k) dx (putF f w fs))) (ε3.set i (some dd)) σ F3 ∧ Po lk H F (upd H2 p (.ins (CA k) dx (putF f w fs))) F3 [] := by
  cases ry with
  | @obj p dx _ fs _ G0 e1 e2 cl na r0 =>
    have fi : F2 i = F1 i := po2.lkd i List.mem_cons_self
    have stay : ∀ a ∈ F1 i, H2 a = H1 a := fun a ha => po2.stay (rel1.mutk i a ha) fun j hj z => hj (by rw [rel1.dj j i a z ha]; exact List.mem_cons_self)
    obtain ⟨np, nG1⟩ := List.nodup_cons.mp nG
    obtain ⟨ndx, nG0⟩ := List.nodup_cons.mp nG1
    have hdp : dx ≠ p := fun z => np (by rw [← z]; exact List.mem_cons_self)
    have npG0 : p ∉ G0 := fun z => np (List.mem_cons_of_mem _ z)
    have sG0 : ∀ a ∈ G0, a ∈ F1 i := fun a ha => sG a (List.mem_cons_of_mem _ (List.mem_cons_of_mem _ ha))
    have sp : p ∈ F1 i := sG p List.mem_cons_self
    have sdx : dx ∈ F1 i := sG dx (List.mem_cons_of_mem _ List.mem_cons_self)
    have r0' : RDf K CA H2 ds0 fs G0 := r0.keep po2.im fun a ha => stay a (sG0 a ha)
    have e1' : H2 p = some (.ins (CA k) dx fs) := (stay p sp).trans e1
    have e2' : H2 dx = some (.own p) := (stay dx sdx).trans e2
    have rdT2 : RD K CA H2 d' w T := rdT.keep po2.im fun a ha => po2.stay (rdT.mutk a ha) fun j _ z => po1.djT j a z ha
    have im3 : ImK H2 (upd H2 p (.ins (CA k) dx (putF f w fs))) := fun b o e i => by
      have nb : b ≠ p := fun z => by rw [z, e1'] at e; cases e; exact i
      rw [upd_ne nb]; exact e
    have pT : p ∉ T := fun z => po1.djT i p sp z
    have dxT : dx ∉ T := fun z => po1.djT i dx sdx z
    have dT : ∀ a ∈ G0, a ∉ T := fun a ha z => po1.djT i a (sG0 a ha) z
    obtain ⟨G1, rs, nG1', sG1⟩ := RDf.putv (f := f) rdT2 po1.ndT r0' nG0 dT
    have pG1 : p ∉ G1 := fun z => (sG1 p z).elim npG0 pT
    have dxG1 : dx ∉ G1 := fun z => (sG1 dx z).elim ndx dxT
    have rs3 : RDf K CA (upd H2 p (.ins (CA k) dx (putF f w fs))) (fldSet f d' ds0) (putF f w fs) G1 := rs.keep im3 fun a ha => upd_ne fun z => pG1 (z ▸ ha)
    have po := po1.trans (po2.mono fun j hj => List.mem_cons_of_mem _ hj) fun a ha => by
      obtain ⟨o, z⟩ := (rdT.mutk a ha).some
      rw [z]; simp
    rw [List.append_nil] at po
    have naf := hna na
    have ry3 : RD K CA (upd H2 p (.ins (CA k) dx (putF f w fs))) (.obj k (fldSet f d' ds0)) (.ref p) (p :: dx :: G1) := .obj upd_same (by rw [upd_ne hdp]; exact e2') cl (fun g hg => by
      rcases fldSet_keys hg with h | h
      · exact na g h
      · rw [h]; exact naf) rs3
    obtain ⟨F', rd', nF', sF'⟩ := up _ _ (p :: dx :: G1) dd hput ry3 (List.nodup_cons.mpr ⟨fun z => (List.mem_cons.mp z).elim (fun q => hdp q.symm) pG1, List.nodup_cons.mpr ⟨dxG1, nG1'⟩⟩) (po2.im.trans im3) (fun b hb nb => by
        rw [upd_ne (show b ≠ p from fun z => nb (by rw [z]; exact List.mem_cons_self))]
        exact stay b hb) fun b hb => by
      rcases List.mem_cons.mp hb with rfl | hb
      · exact .inl List.mem_cons_self
      · rcases List.mem_cons.mp hb with rfl | hb
        · exact .inl (List.mem_cons_of_mem _ List.mem_cons_self)
        · rcases sG1 b hb with w | w
          · exact .inl (List.mem_cons_of_mem _ (List.mem_cons_of_mem _ w))
          · exact .inr fun z => po1.djT i b z w
    obtain ⟨rel3, po3⟩ := po.slot rel2 hi hv0 (H3 := upd H2 p (.ins (CA k) dx (putF f w fs))) (T' := []) (fun a o eo nT nF => by
        rw [upd_ne (show a ≠ p from fun z => nF (by rw [z, fi]; exact sp))]; exact eo) im3 rd' nF' (fun a ha => by
        rcases sF' a ha with w | w
        · exact .inl (by rw [fi]; exact w.1)
        · rcases List.mem_cons.mp w with rfl | w
          · exact .inl (by rw [fi]; exact sp)
          · rcases List.mem_cons.mp w with rfl | w
            · exact .inl (by rw [fi]; exact sdx)
            · rcases sG1 a w with w | w
              · exact .inl (by rw [fi]; exact sG0 a w)
              · exact .inr (.inl w)) List.nodup_nil (fun _ h => nomatch h) (fun _ _ h => nomatch h)
    exact ⟨p, dx, fs, rfl, e1, cl, naf, r0, e1', by rw [r0.len]; exact hlen, _, rel3, po3⟩
theorem s_attr {o : Expr} {eo : E} {f : Str} {p' : Pos} (hat : ∀ k f, c.attr k f = true → NoAttr X.K (CA k) f) (ho : PE X o (tP X.K CA eo)) (he : PE X a (tE X.K CA c ea)) (hs : swapsWith a (some (.Attribute o f p')) pos.line X.env = pure false) : PS X (.Assign [.Attribute o f p'] a pos) (tS X.K CA c keep (.asg (.attr eo f) ea)) := by
  refine ps_mono (ps_fld ho he hs) fun D σ H ⟨lk, ε, F, fl, ε', rel, he, q⟩ => ?_
  simp only [exS, Option.bind_eq_some_iff, Option.map_eq_some_iff, asgT] at he
  obtain ⟨⟨d, ε1⟩, h1, ε2, ⟨d', hs, ⟨i, π, y⟩, hp, he⟩, e⟩ := he
  cases e
  simp only at he
  split at he
  · cases he
  · rename_i hc
    simp only [Option.bind_eq_some_iff, Option.map_eq_some_iff] at he
    obtain ⟨y', hy', dd, hput, rfl⟩ := he
    refine ⟨lk, ε, F, d, ε1, rel, h1, fun w H1 F1 T rel1 po1 vr1 => ?_⟩
    obtain ⟨rfl, rdT⟩ := sink_vr hs vr1
    obtain ⟨d0, v0, v, G, hd0, hv0, rd0, at0, ry, nG, sG, up⟩ := path_rd rel1 hp
    refine ⟨ε1, F1, i, π, _, rel1, hp, fun u0 u hu atu => ?_⟩
    rw [hv0] at hu
    cases hu
    have := at0.det atu
    subst this
    cases y with
    | obj k ds0 =>
      simp only [Wh.D.put] at hy'
      split at hy'
      · rename_i hlen
        cases hy'
        have hi : i ∉ lk := fun z => hc (.inl z)
        have put : d0.putAt π (.obj k (fldSet f d' ds0)) = some dd := by
          simp only [putD, hd0] at hput
          exact hput
        obtain ⟨p, dx, fs, rfl, g1, g2, g3, _, g4, g5, F3, g6, g7⟩ := fld_core (f := f) po1 rel1 hi rel1 Po.refl rdT hlen put hv0 ry nG sG up (fun na => by
          have hc2 : ¬ (newFld c (.obj k ds0) f = true) := fun z => hc (.inr z)
          simp only [newFld, Bool.and_eq_true, Option.isNone_iff_eq_none, Bool.not_eq_true', not_and, Bool.not_eq_false] at hc2
          cases hl : ds0.lookup f with
          | some z => exact na f (List.mem_map.mpr ⟨_, PySem.mem_of_lookup hl, rfl⟩)
          | none => exact hat k f (hc2 hl))
        exact ⟨p, _, dx, fs, rfl, g1, g2, g3, g5, q σ _ F3 g6 g7 (Kp.refl _)⟩
      · cases hy'
    | _ => simp [Wh.D.put] at hy'
theorem s_auga {o : Expr} {eo : E} {f : Str} {p' : Pos} {op : Operator} {ob : BOp} (hop : augOk ob op = true) (ho : PE X o (tP X.K CA eo)) (he : PE X a (tE X.K CA c ea)) : PS X (.AugAssign (.Attribute o f p') op a pos) (tS X.K CA c keep (.auga eo f ob ea)) := by
  refine ps_mono (ps_fldaug ho he (ip_X hop)) fun D σ H ⟨lk, ε, F, fl, ε', rel, he, q⟩ => ?_
  simp only [exS, Option.bind_eq_some_iff] at he
  obtain ⟨⟨i, π, y⟩, hp, he⟩ := he
  simp only at he
  split at he
  · cases he
  · rename_i hi
    simp only [Option.bind_eq_some_iff] at he
    obtain ⟨x0, hst, he⟩ := he
    split at he
    · rename_i hisp
      simp only [Option.bind_eq_some_iff, Option.map_eq_some_iff] at he
      obtain ⟨⟨yv, ε2⟩, h2, z, hz, y', hy', dd, hput, e⟩ := he
      cases e
      obtain ⟨d0, v0, v, G, hd0, hv0, rd0, at0, ry, nG, sG, up⟩ := path_rd rel hp
      refine ⟨ε, F, i, π, _, rel, hp, fun u0 u hu atu => ?_⟩
      rw [hv0] at hu
      cases hu
      have := at0.det atu
      subst this
      cases y with
      | obj k ds0 =>
        simp only [Wh.D.put] at hy'
        split at hy'
        · rename_i hlen
          cases hy'
          have put : d0.putAt π (.obj k (fldSet f (.p z) ds0)) = some dd := by
            simp only [putD, hd0] at hput
            exact hput
          have hst : ds0.lookup f = some x0 := hst
          obtain ⟨x, rfl⟩ : ∃ x, x0 = .p x := by cases x0 <;> first | exact ⟨_, rfl⟩ | cases hisp
          have hf : f ∈ ds0.map (·.1) := List.mem_map.mpr ⟨_, PySem.mem_of_lookup hst, rfl⟩
          have hy2 : ∃ y2, yv = .p y2 := by
            cases yv with
            | p y2 => exact ⟨y2, rfl⟩
            | _ => exfalso; revert hz; cases ob <;> cases x <;> simp [augV]
          obtain ⟨y2, rfl⟩ := hy2
          have ry0 := ry
          cases ry0 with
          | @obj p dx _ fs _ G0 e1 e2 cl na r0 =>
            obtain ⟨vx, _, _, _, e3, rx, _, _⟩ := r0.lens hst
            obtain ⟨_, x', ex, rx⟩ := rx.isP rfl
            cases ex
            refine ⟨p, _, dx, fs, vx, rfl, e1, cl, na f hf, e3, i :: lk, ε, F, _, ε2, rel, h2, fun w H2 F2 T2 rel2 po2 vr2 => ?_⟩
            obtain ⟨rfl, rw2⟩ := vr2.p
            have fin : ∀ u : V, Rp X.K H u z → ∃ dx' fs', H2 p = some (.ins (CA k) dx' fs') ∧ fs'.length < 1000 ∧ D.nx σ (upd H2 p (.ins (CA k) dx' (putF f u fs'))) := fun u ru => by
              obtain ⟨p2, dx2, fs2, ep, g1, g2, g3, _, g4, g5, F3, g6, g7⟩ := fld_core (f := f) Po.refl rel hi rel2 po2 (.p ru) hlen put hv0 ry nG sG up (fun na => na f hf)
              cases ep
              exact ⟨dx2, fs2, g4, g5, q σ _ F3 g6 g7 (Kp.refl _)⟩
            refine ⟨x, y2, z, fun _ => trivial, hz, ?_, ?_, ?_⟩
            · cases rx <;> first | rfl | (exfalso; revert hz; cases ob <;> simp [augV])
            · cases rw2 <;> first | rfl | (exfalso; revert hz; cases ob <;> cases x <;> simp [augV])
            · unfold augV at hz
              split at hz
              · cases hz; exact fin _ (.int _)
              · cases hz; exact fin _ (.int _)
              · simp only [Option.map_eq_some_iff] at hz
                obtain ⟨t, _, rfl⟩ := hz
                exact fin _ (.str _)
              · cases hz
        · cases hy'
      | _ => simp [Wh.D.put] at hy'
    · cases he
end
end Wh


set_option Elab.async false
set_option linter.all false
set_option maxRecDepth 100000
set_option maxHeartbeats 1000000
namespace Wh
open PySem PySem.Spec PyProof.Rows L2
section
variable {X : Cx} {CA : Str → Addr} {c : Cfg} {K : PySem.W.Frag} {H : Hp} {Q : VK} {σ : L2.St}

/-! ### slots forgotten -/
theorem wipeE_len (ε : Env) : ∀ vs, (wipeE ε vs).length = ε.length
  | [] => rfl
  | v :: vs => by simp [wipeE, wipeE_len ε vs]
theorem wipeE_out {ε : Env} {i : Nat} : ∀ {vs : List Nat}, i ∉ vs → (wipeE ε vs)[i]? = ε[i]?
  | [], _ => rfl
  | v :: vs, h => by
    simp only [List.mem_cons, not_or] at h
    unfold wipeE
    rw [List.getElem?_set_ne (Ne.symm h.1), wipeE_out h.2]
theorem wipeE_in {ε : Env} {i : Nat} : ∀ {vs : List Nat}, i ∈ vs → ∀ d, (wipeE ε vs)[i]? ≠ some (some d)
  | [], h, _ => nomatch h
  | v :: vs, h, d => by
    unfold wipeE
    by_cases e : v = i
    · subst e
      intro z
      by_cases hl : v < (wipeE ε vs).length
      · rw [List.getElem?_set_self hl] at z; cases z
      · rw [List.getElem?_eq_none (by simp; omega)] at z; cases z
    · rw [List.getElem?_set_ne e]
      rcases List.mem_cons.mp h with rfl | h
      · exact absurd rfl e
      · exact wipeE_in h d
theorem wipe_in {σ : L2.St} {i : Nat} : ∀ {vs : List Nat}, i ∈ vs → i < σ.length → (wipe σ vs)[i]? = some none
  | [], h, _ => nomatch h
  | v :: vs, h, hl => by
    unfold wipe
    by_cases e : v = i
    · subst e
      exact List.getElem?_set_self (by rw [wipe_length]; exact hl)
    · rw [List.getElem?_set_ne e]
      rcases List.mem_cons.mp h with rfl | h
      · exact absurd rfl e
      · exact wipe_in h hl
theorem backE_len (ε0 ε : Env) : ∀ vs, (backE ε0 ε vs).length = ε.length
  | [] => rfl
  | v :: vs => by simp [backE, backE_len ε0 ε vs]
theorem backE_out {ε0 ε : Env} {i : Nat} : ∀ {vs : List Nat}, i ∉ vs → (backE ε0 ε vs)[i]? = ε[i]?
  | [], _ => rfl
  | v :: vs, h => by
    simp only [List.mem_cons, not_or] at h
    unfold backE
    rw [List.getElem?_set_ne (Ne.symm h.1), backE_out h.2]
theorem backE_in {ε0 ε : Env} {i : Nat} {d : D} : ∀ {vs : List Nat}, i ∈ vs → (backE ε0 ε vs)[i]? = some (some d) → ε0[i]? = some (some d)
  | [], h, _ => nomatch h
  | v :: vs, h, e => by
    unfold backE at e
    by_cases q : v = i
    · subst q
      by_cases hl : v < (backE ε0 ε vs).length
      · rw [List.getElem?_set_self hl] at e
        cases z : ε0[v]? with
        | none => rw [z] at e; cases e
        | some o => rw [z] at e; simpa using e
      · rw [List.getElem?_eq_none (by simp; omega)] at e; cases e
    · rw [List.getElem?_set_ne q] at e
      rcases List.mem_cons.mp h with rfl | h
      · exact absurd rfl q
      · exact backE_in h e
def wipeF (F : Fo) (vs : List Nat) : Fo := fun j => if j ∈ vs then [] else F j
theorem Rel.wipe {ε : Env} {F : Fo} (vs : List Nat) (r : Rel K CA H ε σ F) : Rel K CA H (wipeE ε vs) (wipe σ vs) (wipeF F vs) := by
  refine ⟨by rw [wipeE_len, wipe_length]; exact r.len, fun i d e => ?_, fun i h => ?_, fun i j a h1 h2 => ?_, fun i => ?_⟩
  · by_cases hi : i ∈ vs
    · exact absurd e (wipeE_in hi d)
    · rw [wipeE_out hi] at e
      obtain ⟨v, e1, q⟩ := r.val i d e
      exact ⟨v, by rw [wipe_out hi]; exact e1, by unfold wipeF; rw [if_neg hi]; exact q⟩
  · unfold wipeF
    split
    · rfl
    · rename_i hi
      exact r.emp i fun d z => h d (by rw [wipeE_out hi]; exact z)
  · unfold wipeF at h1 h2
    split at h1
    · cases h1
    · split at h2
      · cases h2
      · exact r.dj i j a h1 h2
  · unfold wipeF
    split
    · exact List.nodup_nil
    · exact r.nd i
theorem Po.wipe {lk vs : List Nat} {H H1 : Hp} {F F1 : Fo} {T : List Addr} (p : Po lk H F H1 F1 T) (h : ∀ v ∈ vs, v ∉ lk) : Po lk H F H1 (wipeF F1 vs) T := by
  refine ⟨p.kp, p.im, fun i hi => ?_, fun i hi a ha => ?_, p.oldT, p.ndT, fun i a ha => ?_⟩
  · show (if i ∈ vs then [] else F1 i) = F i
    rw [if_neg (fun z => h i z hi)]; exact p.lkd i hi
  · have ha : a ∈ (if i ∈ vs then [] else F1 i) := ha
    split at ha
    · cases ha
    · exact p.old i hi a ha
  · have ha : a ∈ (if i ∈ vs then [] else F1 i) := ha
    split at ha
    · cases ha
    · exact p.djT i a ha
theorem wipe_off {vs sl : List Nat} {σ σ' : L2.St} (o : Off sl (wipe σ vs) σ') (h : ∀ i ∈ sl, i ∈ vs) : wipe σ' vs = wipe σ vs := by
  have len : σ'.length = σ.length := by rw [o.1, wipe_length]
  apply List.ext_getElem?
  intro i
  by_cases hi : i ∈ vs
  · by_cases hl : i < σ.length
    · rw [wipe_in hi hl, wipe_in hi (by omega)]
    · rw [List.getElem?_eq_none (by rw [wipe_length]; omega), List.getElem?_eq_none (by rw [wipe_length]; omega)]
  · rw [wipe_out hi, o.2 i fun z => hi (h i z)]
theorem Po.grow {lk : List Nat} {H H2 H3 : Hp} {F F2 : Fo} {T : List Addr} (p : Po lk H F H2 F2 T) (s : Same H2 H3) : Po lk H F H3 F2 T :=
  ⟨fun a o h n => s _ _ (p.kp a o h n), p.im.trans (Same.imK s), p.lkd, p.old, p.oldT, p.ndT, p.djT⟩

/-! ### a comprehension -/
def tCd (K : PySem.W.Frag) (CA : Str → Addr) (c : Cfg) (e : Option E) : TT := fun σ H Q => ∃ lk ε F b ε', Rel K CA H ε σ F ∧ evC c lk e ε = some (b, ε') ∧ ∀ H' F', Rel K CA H' ε' σ F' → Po lk H F H' F' [] → Q b H'
theorem pts_mono {ifs : List Expr} {t t' : TT} (h : PTs X ifs t) (f : ∀ σ H Q, t' σ H Q → t σ H Q) : PTs X ifs t' := ⟨fun pins s σ H Q I hw => h.run pins s σ H Q I (f σ H Q hw)⟩
theorem cd_none : PTs X [] (tCd X.K CA c none) := pts_mono pts_nil fun σ H Q ⟨lk, ε, F, b, ε', rel, he, q⟩ => by
  simp only [evC] at he
  cases he
  exact q H F rel Po.refl
theorem cd_some {a : Expr} {e : E} (h : PT X a (tT X.K CA c e)) : PTs X [a] (tCd X.K CA c (some e)) := pts_mono (pts_one h) fun σ H Q ⟨lk, ε, F, b, ε', rel, he, q⟩ => by
  simp only [evC, Option.bind_eq_some_iff] at he
  obtain ⟨⟨x, ε1⟩, h1, he⟩ := he
  simp only at he
  split at he
  · cases he
    exact ⟨lk, ε, F, _, _, rel, h1, q⟩
  · cases he
def tEz (K : PySem.W.Frag) (CA : Str → Addr) (c : Cfg) (e : E) : TE := fun σ H Q => tE K CA c e σ H fun v H1 => FzW (Q v) H1
theorem RDs.snoc {ds : List D} {vs : List V} {F G : List Addr} {d : D} {v : V} (a : RDs K CA H ds vs F) (b : RD K CA H d v G) : RDs K CA H (ds ++ [d]) (vs ++ [v]) (F ++ G) := by
  have := a.append (.cons b (.nil (K := K) (CA := CA) (H := H)))
  rwa [List.append_nil] at this
theorem lc_w {elt it : E} {tg : Pt} {cond : Option E} {own : List Nat} (hsl : ∀ i ∈ tg.slots, i ∈ own) (h : tE K CA c (.comp elt tg it cond own) σ H Q) : tLc (tI K CA c it) (tG K CA tg) (tCd K CA c cond) (tEz K CA c elt) own σ H Q := by
  obtain ⟨lk, ε, F, d, ε', rel, he, q⟩ := h
  simp only [ev, Option.bind_eq_some_iff] at he
  obtain ⟨⟨xs, lk', ε1⟩, h1', he⟩ := he
  have h1 : evIt c lk it ε = some (xs, lk', ε1) := by
    simp only [evIt, Option.bind_eq_some_iff]
    exact h1'
  simp only at he
  split at he
  · rename_i hown
    simp only [Option.bind_eq_some_iff] at he
    obtain ⟨⟨ds, εe⟩, h2, he⟩ := he
    simp only at he
    split at he
    · rename_i hsz
      cases he
      have ho : ∀ v ∈ own, v ∉ lk' ∧ ∀ d, ε1[v]? = some (some d) → d.isP = true := fun v hv => by
        have := List.all_eq_true.mp hown v hv
        simp only [ownOk, Bool.and_eq_true, Bool.not_eq_true', decide_eq_false_iff_not] at this
        refine ⟨this.1, fun d e => ?_⟩
        have t2 := this.2
        rw [e] at t2
        exact t2
      refine ⟨lk, ε, F, xs, lk', ε1, rel, h1, fun J H1 F1 rel1 po1 hlk src D hD => ?_⟩
      have F1own : ∀ v ∈ own, F1 v = [] := fun v hv => by
        by_cases z : ∃ d, ε1[v]? = some (some d)
        · obtain ⟨d, z⟩ := z
          obtain ⟨w, _, r⟩ := rel1.val v d z
          exact (r.isP ((ho v hv).2 d z)).1
        · exact rel1.emp v fun d e => z ⟨d, e⟩
      have sm := same_upd (o := .lst []) hD
      have wF : wipeF F1 own = F1 := by
        funext j
        unfold wipeF
        split
        · rename_i hj; exact (F1own j hj).symm
        · rfl
      have relw : Rel K CA (upd H1 D (.lst [])) (wipeE ε1 own) (wipe σ own) F1 := by
        have := (rel1.same sm).wipe own
        rwa [wF] at this
      have pow : Po lk' H1 F1 (upd H1 D (.lst [])) F1 [D] := (Po.refl (F := F1)).al rel1 sm (by simp) (fun a ha => by rw [List.mem_singleton.mp ha]; exact hD)
      refine ⟨fun i m H2 => m = xs.length - i ∧ i ≤ xs.length ∧ ∃ ε2 F2 acc ds1 ds2 G, Rel K CA H2 ε2 (wipe σ own) F2 ∧ (∀ v ∈ own, ∀ d, ε2[v]? ≠ some (some d)) ∧
        compLoop (fun x ε => (bindP lk' tg x (wipeE ε own)).bind fun ε2 => (evC c lk' cond ε2).bind fun (b, ε3) =>
          if b then (ev c lk' elt ε3).bind fun (d, ε4) => (sink elt d).map fun d => (some (frz c d), wipeE ε4 own) else some (none, wipeE ε3 own)) (xs.drop i) ε2 = some (ds2, εe) ∧ ds1 ++ ds2 = ds ∧ H2 D = some (.lst acc) ∧ RDs K CA H2 ds1 acc G ∧ Po lk' H1 F1 H2 F2 (D :: G),
        ⟨xs.length, rfl, Nat.zero_le _, wipeE ε1 own, F1, [], [], ds, [], relw, fun v hv d => wipeE_in hv d, by rw [List.drop_zero]; exact h2, rfl, upd_same, .nil, pow⟩, ?_⟩
      rintro i m H2 ⟨rfl, hle, ε2, F2, acc, ds1, ds2, G, rel2, wp2, he2, hds, hacc, rds, po2⟩
      obtain ⟨s1, s2⟩ := src H2 F2 po2.drop i
      by_cases hlt : i < xs.length
      · have hx : xs[i]? = some xs[i] := List.getElem?_eq_getElem hlt
        obtain ⟨go, yl⟩ := s1 _ hx
        rw [List.drop_eq_getElem_cons hlt] at he2
        simp only [compLoop, Option.bind_eq_some_iff, Option.map_eq_some_iff] at he2
        obtain ⟨⟨o, ε6⟩, ⟨ε4, hb1, ⟨b, ε5⟩, hb2, hb3⟩, ⟨ds3, _⟩, h5, e5⟩ := he2
        cases e5
        refine .inr ⟨go, _, fun H' n => ⟨xs.length - (i + 1), by omega, rfl, hlt, n⟩, fun v H3 y => ?_⟩
        obtain ⟨sm3, rp⟩ := yl v H3 y
        have rel3 : Rel K CA H3 (wipeE ε2 own) (wipe σ own) (wipeF F2 own) := by
          have := (rel2.same sm3).wipe own
          have e : L2.wipe (L2.wipe σ own) own = L2.wipe σ own := wipe_off (Off.refl [] _) (fun _ h => nomatch h)
          rwa [e] at this
        have po3 : Po lk' H1 F1 H3 (wipeF F2 own) (D :: G) := (po2.grow sm3).wipe fun v hv => (ho v hv).1
        refine ⟨lk', _, _, _, ε4, rel3, rp, hb1, fun σ4 F4 rel4 po4 o4 => ?_⟩
        have e4 := wipe_off o4 hsl
        refine ⟨e4, lk', ε4, F4, b, ε5, rel4, hb2, fun H5 F5 rel5 po5 => ?_⟩
        have po35 : Po lk' H3 (wipeF F2 own) H5 F5 [] := po4.cons po5
        have alD : ∀ a ∈ D :: G, H3 a ≠ none := fun a ha => by
          rcases List.mem_cons.mp ha with rfl | ha
          · rw [sm3 _ _ hacc]; simp
          · obtain ⟨o, z⟩ := (rds.mutk a ha).some
            rw [sm3 a o z]; simp
        have rds3 : RDs K CA H3 ds1 acc G := rds.keep (Same.imK sm3) fun a ha => by
          obtain ⟨o, z⟩ := (rds.mutk a ha).some
          rw [z, sm3 a o z]
        -- what is beside the slots stays through such steps
        have over : ∀ {H' : Hp} {F' : Fo} {T' : List Addr}, Po lk' H3 (wipeF F2 own) H' F' T' → H' D = some (.lst acc) ∧ RDs K CA H' ds1 acc G ∧ Po lk' H1 F1 H' F' ((D :: G) ++ T') := fun {H' F' T'} po => by
          refine ⟨po.kp D _ (sm3 _ _ hacc) fun j _ z => po3.djT j D z List.mem_cons_self, rds3.keep po.im fun a ha => ?_, po3.trans po alD⟩
          exact po.stay (rds3.mutk a ha) fun j _ z => po3.djT j a z (List.mem_cons_of_mem _ ha)
        cases b with
        | false =>
          simp only [Bool.false_eq_true, if_false] at hb3 ⊢
          cases hb3
          obtain ⟨hD5, rds5, po15⟩ := over po35
          rw [List.append_nil] at po15
          have rel5' := rel5.wipe own
          rw [e4] at rel5'
          exact ⟨_, _, acc, ds1, ds3, G, rel5', fun v hv d => wipeE_in hv d, h5, hds, hD5, rds5, po15.wipe fun v hv => (ho v hv).1⟩
        | true =>
          simp only [if_true, Option.bind_eq_some_iff, Option.map_eq_some_iff] at hb3 ⊢
          obtain ⟨⟨d, ε7⟩, h7, d', hs, e7⟩ := hb3
          cases e7
          refine ⟨lk', ε5, F5, d, ε7, rel5, h7, fun w H7 F7 T rel7 po7 vr7 => ?_⟩
          obtain ⟨ed, rdT⟩ := sink_vr hs vr7
          subst ed
          obtain ⟨hD7, rds7, po17⟩ := over (po35.cons po7)
          refine (frz_one (c := c) rdT po7.ndT).mono fun H8 ⟨⟨G8, r8, n8, s8⟩, im8, kp8⟩ => ?_
          obtain ⟨n1, n2, n3⟩ := List.nodup_append.mp po17.ndT
          have nDT : ∀ a ∈ D :: G, a ∉ T := fun a ha z => n3 a ha a z rfl
          have hD8 : H8 D = some (.lst acc) := (kp8 D (nDT D List.mem_cons_self)).trans hD7
          have rds8 : RDs K CA H8 ds1 acc G := rds7.keep im8 fun a ha => kp8 a (nDT a (List.mem_cons_of_mem _ ha))
          obtain ⟨po18, rel8⟩ := po17.step rel7 (H2 := H8) (G := (D :: G) ++ G8) (fun a o e n => (kp8 a fun z => n (List.mem_append_right _ z)).trans e) im8 (List.nodup_append.mpr ⟨n1, n8, fun a ha b hb e => nDT a ha (by rw [e]; exact s8 b hb)⟩) (fun a ha => by
            rcases List.mem_append.mp ha with h | h
            · exact .inl (List.mem_append_left _ h)
            · exact .inl (List.mem_append_right _ (s8 a h)))
          refine ⟨acc, hD8, ?_, ?_⟩
          · have l1 := rds8.length
            have : ds.length = ds1.length + ([frz c d'] ++ ds3).length := by rw [← hds, List.length_append]; rfl
            simp at this
            omega
          · have im9 := ne_imm (o := .lst (acc ++ [w])) hD8
            have nD : ∀ {L : List Addr}, (∀ a ∈ L, a ∈ G ++ G8) → ∀ a ∈ L, a ≠ D := fun hL a ha z => by
              subst z
              have nd := po18.ndT
              rw [List.cons_append] at nd
              exact (List.nodup_cons.mp nd).1 (hL _ ha)
            have rds9 : RDs K CA (upd H8 D (.lst (acc ++ [w]))) (ds1 ++ [frz c d']) (acc ++ [w]) (G ++ G8) :=
              (rds8.keep im9 fun a ha => upd_ne (nD (L := G) (fun a h => List.mem_append_left _ h) a ha)).snoc (r8.keep im9 fun a ha => upd_ne (nD (L := G8) (fun a h => List.mem_append_right _ h) a ha))
            obtain ⟨po19, rel9⟩ := po18.step rel8 (H2 := upd H8 D (.lst (acc ++ [w]))) (G := D :: (G ++ G8)) (fun a o e n => by
                rw [upd_ne (show a ≠ D from fun z => n (by rw [z]; exact List.mem_cons_self))]; exact e) im9 (by have := po18.ndT; rwa [List.cons_append] at this) (fun a ha => .inl (by rw [List.cons_append]; exact ha))
            have rel9' := rel9.wipe own
            rw [e4] at rel9'
            exact ⟨_, _, acc ++ [w], ds1 ++ [frz c d'], ds3, G ++ G8, rel9', fun v hv d => wipeE_in hv d, h5, by rw [List.append_assoc]; exact hds, upd_same, rds9, po19.wipe fun v hv => (ho v hv).1⟩
      · have e : i = xs.length := by omega
        subst e
        rw [List.drop_length] at he2
        simp only [compLoop] at he2
        cases he2
        rw [List.append_nil] at hds
        subst hds
        refine .inl ⟨s2 (Nat.le_refl _), q _ H2 F2 (D :: G) ?_ (po1.cons (po2.mono hlk)) (.of_rd rfl (.lst hacc rds))⟩
        have F2own : ∀ v ∈ own, F2 v = [] := fun v hv => rel2.emp v (wp2 v hv)
        refine ⟨?_, fun j d e => ?_, fun j hj => ?_, rel2.dj, rel2.nd⟩
        · rw [backE_len, ← rel2.len, wipe_length]
        · by_cases hj : j ∈ own
          · have e0 := backE_in hj e
            obtain ⟨w, e1, r⟩ := rel1.val j d e0
            refine ⟨w, e1, ?_⟩
            obtain ⟨_, x, rfl, rx⟩ := r.isP ((ho j hj).2 d e0)
            rw [F2own j hj]
            exact .p (rx.im po2.im)
          · rw [backE_out hj] at e
            obtain ⟨w, e1, r⟩ := rel2.val j d e
            rw [wipe_out hj] at e1
            exact ⟨w, e1, r⟩
        · by_cases hj' : j ∈ own
          · exact F2own j hj'
          · exact rel2.emp j fun d z => hj d (by rw [backE_out hj']; exact z)
    · cases he
  · cases he
end
end Wh


set_option Elab.async false
set_option linter.all false
set_option maxRecDepth 100000
set_option maxHeartbeats 1000000
/-! Calls of defs, by values; the caller has no guard open. -/
namespace Wh
open PySem PySem.Spec PyProof.Rows L2

def NoX : CXT := fun _ _ _ _ _ _ => False
structure FnG (P : Program) (w : World) (K : PySem.W.Frag) (mg : Str → Option Value) (base : Heap) (k : Nat) (f : Addr) (fd : FuncData) (ps : List Str) (sp : Sp) : Prop where
  len : ∀ vs H Q E, sp vs H Q E → vs.length = ps.length
  run : ∀ (A : Around) (outer : List PySem.Env) (s : Shared) (H : Hp) (args : Args) (us : List Value) (vs : List V) (Q : VK) (E : XK), Room k A → A.guards = some [] → Env0 P w K mg base A outer s H → BindsTo s fd args (ps.zip us) → Vals vs us → sp vs H Q E →
    codeAny (model P w) A (.call (.ref f) args) (CR NoX outer P w H s Q E) s
section
variable {X : Cx} {k : Nat} {f C : Addr} {fd : FuncData} {ps : List Str} {sp : Sp} {E0 : XK} {x m : Str} {p pos apos : Pos} {e o : Expr} {es : List Expr} {ta : TE} {t : TA}
theorem runG {pins : List (Addr × Obj)} {σ : L2.St} {H : Hp} {s : Shared} {Q : VK} {us : List Value} {vs : List V} (F : FnG X.prog X.w X.K X.mg X.base k f fd ps sp) (hr : Room k X.A) (hgd : X.A.guards = some []) (hb : Binds X.K fd ps [])
    (I : Inv X pins σ H s) (r : Vals vs us) (h : sp vs H Q E0) : wpAny (model X.prog X.w) X.A (call (.ref f) us) (EP X pins σ Q) X.xe s := by
  have hl : us.length = ps.length := by rw [← r.length]; exact F.len _ _ _ _ h
  have hb' : BindsTo s fd ⟨us, []⟩ (ps.zip us) := by
    have := hb s us I.kIn (by rw [List.append_nil]; exact hl)
    rwa [List.append_nil] at this
  refine wpAny_call (codeAny_mono (F.run X.A X.stack s H ⟨us, []⟩ us vs Q E0 hr hgd I.env0 hb' r h) fun z s' hq => ?_)
  match z, hq with
  | .ok (.ret u), hq => exact I.after hq
theorem pe_callG (F : FnG X.prog X.w X.K X.mg X.base k f fd ps sp) (hr : Room k X.A) (hgd : X.A.guards = some []) (hg : Gl X x) (hm : X.mg x = some (.ref f)) (hk : PySem.W.keepIn X.K (.ref f) = true) (hb : Binds X.K fd ps [])
    (ha : PA X (e :: es) t) (hdb : (x == ("__debug__" : Str)) = false) (he : starEach (e :: es) X.env = (false, eval e X.env) :: starEach es X.env) (hpl : (backTo pos (starEach es X.env)).any (·.1) = false) :
    PE X (.Call (.Name x p) (e :: es) [] pos) (fun σ H Q => t σ H fun vs H1 => sp vs H1 Q E0) :=
  ⟨fun pins s σ H Q I h => wpAny_Call_Name_kw (ld_glob I hg hm (PySem.W.callWith_K (h₀ := X.base) I.ok.mod.kin hk (thn (ha.run pos pins s σ H _ I h) fun us s1 ⟨vs, H1, I1, r, q⟩ => ⟨I1.kIn, runG F hr hgd hb I1 r q⟩) he hpl) hdb)⟩
theorem pe_callG0 (F : FnG X.prog X.w X.K X.mg X.base k f fd ps sp) (hr : Room k X.A) (hgd : X.A.guards = some []) (hg : Gl X x) (hm : X.mg x = some (.ref f)) (hk : PySem.W.keepIn X.K (.ref f) = true) (hb : Binds X.K fd ps [])
    (hdb : (x == ("__debug__" : Str)) = false) : PE X (.Call (.Name x p) [] [] pos) (fun σ H Q => sp [] H Q E0) :=
  ⟨fun pins s σ H Q I h => wpAny_Call_Name_kw (ld_glob I hg hm (PySem.W.callWith_K0 I.kIn hk (runG (us := []) F hr hgd hb I .nil h)) hdb)⟩
end
/-- a def by its body -/
theorem fnG {P : Program} {w : World} {K : PySem.W.Frag} {mg : Str → Option Value} {base : Heap} {k : Nat} {f : Addr} {name qual : Str} {params : Arguments} {body : List Stmt} {scope : Scope} {dV kV doc pm cdv ct oc : Value} {an od : Option Addr}
    {osl : Array (Option Value)} {N ps : List Str} {sp : Sp} (lk : K.lookup f = some ⟨oc, od, .func (PySem.W.fnOf name qual params body scope dV kV doc pm an cdv ct), osl⟩) (hcd : PySem.W.codeIn K cdv qual = true) (S : FnScope N ps scope)
    (len : ∀ vs H Q E, sp vs H Q E → vs.length = ps.length)
    (hbody : ∀ (A : Around) (outer : List PySem.Env) (s : Shared) (H : Hp) (vs : List V) (Q : VK) (E : XK), Room k (A.deeper (envOfC qual scope s.heap.objs.size f cdv)) → A.guards = some [] → sp vs H Q E →
      ∃ t, PSs (cxOf NoX P w K mg base N qual scope f cdv A outer s H E) body t ∧ t { nx := fun _ H' => Q .non H', rt := Q } (start N vs) H) :
    FnG P w K mg base (k + 1) f (PySem.W.fnOf name qual params body scope dV kV doc pm an cdv ct) ps sp := by
  refine ⟨len, fun A outer s H args us vs Q E hr hgd e0 hb r hsp => ?_⟩
  have keep : ∀ b o, base.get? b = some o → s.heap.get? b = some o := fun b o q => (e0.bs b o q).1
  have KX : K.In s.heap := e0.mod.kin.keeps keep
  have kinds : ∀ y ∈ ps.zip us, scope.names.lookup y.1 = some .local ∨ (scope.names.lookup y.1 = some .cell ∧ ((cellsFrom (s.heap.objs.size + 1) scope.names []).lookup y.1).isSome = true) := fun y hy =>
    (S.par y.1 (List.of_mem_zip hy).1).imp id fun q => ⟨q, PySem.W.cellsFrom_some _ _ _ (.inl q)⟩
  refine codeAny_call_function hr.depth (KX _ _ lk) rfl S.co S.gen rfl (PySem.W.codeRec_of KX hcd) (hb _ _ _ _ ?_)
  refine wpAny_newFunctionEnv_cells S.kind kinds fun env he s1 x => ?_
  subst he
  refine ⟨(e0.mod.nolimit.keeps keep).keeps x.toInCall.keep, codeAny_func ?_⟩
  obtain ⟨t, ht, hq⟩ := hbody A outer s H vs Q E (hr.deeper _) hgd hsp
  have I := inv_start (CX := NoX) (E := E) S hr.hd e0 (len _ _ _ _ hsp) r x
  refine wpAny_mono (ht.run [] s1 (start N vs) H _ I hq) (fun fl s' hs => ?_) fun e s' hs => hs
  match fl, hs with
  | .ret u, ⟨v, σ', H', J, rv, q⟩ => exact ⟨v, H', J.os, J.bare, J.base, J.hok, rv, q⟩
  | .next, ⟨σ', H', J, q⟩ => exact ⟨.non, H', J.os, J.bare, J.base, J.hok, rfl, q⟩
  | .brk, ⟨_, _, _, q⟩ => exact q.elim
  | .cont, ⟨_, _, _, q⟩ => exact q.elim

/-! ### what a def promises -/
def spF (T : Tab) (K : PySem.W.Frag) (CA : Str → Addr) (n : Nat) (f : Str) (np : Nat) : Sp := fun vs H Q E => vs.length = np ∧ ∃ fl ds F r ds', Rel K CA H (ds.map some) (vs.map some) F ∧ callF T n f fl ds = some (r, ds') ∧
  ∀ v H' F' Tr, ds'.length = ds.length → (∀ i d d' w, ds[i]? = some d → d.isP = false → ds'[i]? = some d' → vs[i]? = some w → RD K CA H' d' w (F' i)) → (∀ i j a, a ∈ F' i → a ∈ F' j → i = j) → (∀ i, (F' i).Nodup) →
    Po (lksOf 0 fl) H F H' F' Tr → RD K CA H' r v Tr → Q v H'

/-! ### the body at its start -/
theorem map_some_get {α : Type} {xs : List α} {i : Nat} : (xs.map some)[i]? = (xs[i]?).map some := by simp
theorem Rel.start {K : PySem.W.Frag} {CA : Str → Addr} {H : Hp} {ds : List D} {vs : List V} {F : Fo} (r : Rel K CA H (ds.map some) (vs.map some) F) (n : Nat) : Rel K CA H (ds.map some ++ List.replicate n none) (vs.map some ++ List.replicate n none) F := by
  have hl : ds.length = vs.length := by have := r.len; simpa using this.symm
  have key : ∀ {i : Nat} {d : D}, (ds.map some ++ List.replicate n none)[i]? = some (some d) → (ds.map some)[i]? = some (some d) := fun {i d} e => by
    by_cases hi : i < ds.length
    · rw [List.getElem?_append_left (by simpa using hi)] at e; exact e
    · rw [List.getElem?_append_right (by simpa using hi), List.getElem?_replicate] at e
      split at e <;> cases e
  refine ⟨by simp [hl], fun i d e => ?_, fun i h => ?_, r.dj, r.nd⟩
  · obtain ⟨v, e1, q⟩ := r.val i d (key e)
    refine ⟨v, ?_, q⟩
    have hi : i < vs.length := by
      have := (List.getElem?_eq_some_iff.mp e1).1
      simpa using this
    rw [List.getElem?_append_left (by simpa using hi)]; exact e1
  · refine r.emp i fun d e => h d ?_
    have hi : i < ds.length := by
      have := (List.getElem?_eq_some_iff.mp e).1
      simpa using this
    rw [List.getElem?_append_left (by simpa using hi)]; exact e
theorem ends_take : ∀ {n : Nat} {ε : Env} {ds : List D}, ends n ε = some ds → ε.take n = ds.map some ∧ ds.length = n
  | 0, ε, ds, h => by simp [ends] at h; subst h; simp
  | n + 1, [], ds, h => by simp [ends] at h
  | n + 1, none :: ε, ds, h => by simp [ends] at h
  | n + 1, some d :: ε, ds, h => by
    simp only [ends, Option.map_eq_some_iff] at h
    obtain ⟨ds', h, rfl⟩ := h
    obtain ⟨h1, h2⟩ := ends_take h
    simp [h1, h2]
theorem lksOf_mem : ∀ {bs : List Bool} {k i : Nat}, i ∈ lksOf k bs ↔ k ≤ i ∧ bs[i - k]? = some true
  | [], k, i => by simp [lksOf]
  | b :: bs, k, i => by
    unfold lksOf
    have ih := @lksOf_mem bs (k + 1) i
    by_cases e : i = k
    · subst e
      cases b with
      | true => simp
      | false =>
        simp only [Bool.false_eq_true, if_false]
        rw [ih]
        simp
        omega
    · have sh : k < i → (b :: bs)[i - k]? = bs[i - (k + 1)]? := fun h => by
        rw [show i - k = (i - (k + 1)) + 1 by omega, List.getElem?_cons_succ]
      cases b with
      | true =>
        simp only [if_true, List.mem_cons, ih]
        constructor
        · rintro (h | ⟨h1, h2⟩)
          · exact absurd h e
          · exact ⟨by omega, by rw [sh (by omega)]; exact h2⟩
        · rintro ⟨h1, h2⟩
          exact .inr ⟨by omega, by rw [← sh (by omega)]; exact h2⟩
      | false =>
        simp only [Bool.false_eq_true, if_false, ih]
        constructor
        · rintro ⟨h1, h2⟩
          exact ⟨by omega, by rw [sh (by omega)]; exact h2⟩
        · rintro ⟨h1, h2⟩
          exact ⟨by omega, by rw [← sh (by omega)]; exact h2⟩
def cfgOf (T : Tab) (n : Nat) (F : Fn) : Cfg := { call := callF T n, mkc := fun k => callF T (n - 1) (k ++ Str.ofString ".__init__"), glob := T.glob, attr := T.attr, np := F.np, fz := F.fz, fuel := 1000000 }
def keepOf (F : Fn) : List Nat := (List.range F.np).filter fun i => !F.asgd.contains i
theorem callF_succ {T : Tab} {n : Nat} {f : Str} {fl : List Bool} {ds : List D} {F : Fn} (hF : T.fn f = some F) {r : D} {ds' : List D} (h : callF T (n + 1) f fl ds = some (r, ds')) :
    ds.length = F.np ∧ (∀ i ∈ F.asgd, ∀ d, ds[i]? = some d → d.isP = true) ∧ ∃ g ε', exSs (cfgOf T n F) (lksOf 0 fl) F.body (ds.map some ++ List.replicate (F.ns - F.np) none) = some (g, ε') ∧ ends F.np ε' = some ds' ∧ ((g = .next ∧ r = .p .none) ∨ g = .ret r) := by
  simp only [callF_s, callW, hF, Option.bind_some] at h
  split at h
  · rename_i hc
    obtain ⟨h1, h2⟩ := hc
    refine ⟨h1, fun i hi d e => ?_, ?_⟩
    · have := List.all_eq_true.mp h2 i hi
      rw [e] at this
      exact this
    · simp only [Option.bind_eq_some_iff] at h
      obtain ⟨⟨g, ε'⟩, h3, h4⟩ := h
      refine ⟨g, ε', h3, ?_⟩
      cases g with
      | next =>
        simp only [Option.map_eq_some_iff] at h4
        obtain ⟨_, h5, e⟩ := h4
        cases e
        exact ⟨h5, .inl ⟨rfl, rfl⟩⟩
      | ret d =>
        simp only [Option.map_eq_some_iff] at h4
        obtain ⟨_, h5, e⟩ := h4
        cases e
        exact ⟨h5, .inr rfl⟩
      | brk => cases h4
      | cont => cases h4
  · cases h
/-- the body's reading does what the def promises -/
theorem body_ok {T : Tab} {K : PySem.W.Frag} {CA : Str → Addr} {n : Nat} {f : Str} {F : Fn} {N : List Str} {vs : List V} {H : Hp} {Q : VK} {E : XK} (hF : T.fn f = some F) (hN : N.length = F.ns) (hnp : F.np ≤ F.ns) (h : spF T K CA (n + 1) f F.np vs H Q E) :
    tSs K CA (cfgOf T n F) (keepOf F) F.body { nx := fun _ H' => Q .non H', rt := Q } (L2.start N vs) H := by
  obtain ⟨hl, fl, ds, Fo, r, ds', rel, hc, q⟩ := h
  obtain ⟨h1, h2, g, ε', h3, h4, h5⟩ := callF_succ hF hc
  have e0 : L2.start N vs = vs.map some ++ List.replicate (F.ns - F.np) none := by unfold L2.start; rw [hN, hl]
  rw [e0]
  obtain ⟨t1, t2⟩ := ends_take h4
  have hlv : vs.length = F.np := hl
  have lkn : lkN F.np (lksOf 0 fl) = lkN F.np (lksOf 0 fl) := rfl
  have fin : ∀ v (σ' : L2.St) H' F' Tr, Rel K CA H' (ε'.take F.np) (σ'.take F.np) F' → Po (lkN F.np (lksOf 0 fl)) H Fo H' F' Tr → RD K CA H' r v Tr → Kp (keepOf F) (vs.map some ++ List.replicate (F.ns - F.np) none) σ' → Q v H' := by
    intro v σ' H' F' Tr rel' po rd kp
    have emF : ∀ i, F.np ≤ i → Fo i = [] := fun i hi => rel.emp i fun d z => by
      have := (List.getElem?_eq_some_iff.mp z).1
      simp at this
      omega
    have emF' : ∀ i, F.np ≤ i → F' i = [] := fun i hi => rel'.emp i fun d z => by
      rw [List.getElem?_take, if_neg (by omega)] at z
      cases z
    refine q v H' F' Tr (by omega) (fun i d d' w e1 e2 e3 e4 => ?_) rel'.dj rel'.nd ?_ rd
    · have hi : i < F.np := by
        have := (List.getElem?_eq_some_iff.mp e1).1
        omega
      have ev : (ε'.take F.np)[i]? = some (some d') := by rw [t1, map_some_get, e3]; rfl
      obtain ⟨u, eu, ru⟩ := rel'.val i d' ev
      have na : i ∉ F.asgd := fun z => by
        have := h2 i z d e1
        rw [e2] at this; cases this
      have hk : i ∈ keepOf F := List.mem_filter.mpr ⟨List.mem_range.mpr hi, by simpa using na⟩
      have ks := kp i hk
      rw [List.getElem?_take, if_pos hi, ks, List.getElem?_append_left (by simpa [hlv] using hi), map_some_get, e4] at eu
      cases eu
      exact ru
    · refine ⟨fun a o ha hn => po.kp a o ha fun i hi hm => ?_, po.im, fun i hi => ?_, fun i hi a ha => ?_, fun a ha => ?_, po.ndT, po.djT⟩
      · by_cases hl : i ∈ lksOf 0 fl
        · have : ¬ i < F.np := fun z => hi (List.mem_filter.mpr ⟨hl, by simpa using z⟩)
          rw [emF i (by omega)] at hm; cases hm
        · exact hn i hl hm
      · by_cases hp : i < F.np
        · exact po.lkd i (List.mem_filter.mpr ⟨hi, by simpa using hp⟩)
        · rw [emF i (by omega), emF' i (by omega)]
      · rcases po.old i (fun z => hi (lkN_sub i z)) a ha with ⟨j, hj, w⟩ | w
        · refine .inl ⟨j, fun z => ?_, w⟩
          by_cases hp : j < F.np
          · exact hj (List.mem_filter.mpr ⟨z, by simpa using hp⟩)
          · rw [emF j (by omega)] at w; cases w
        · exact .inr w
      · rcases po.oldT a ha with ⟨j, hj, w⟩ | w
        · refine .inl ⟨j, fun z => ?_, w⟩
          by_cases hp : j < F.np
          · exact hj (List.mem_filter.mpr ⟨z, by simpa using hp⟩)
          · rw [emF j (by omega)] at w; cases w
        · exact .inr w
  refine ⟨lksOf 0 fl, _, Fo, g, ε', rel.start _, h3, ?_⟩
  rcases h5 with ⟨rfl, rfl⟩ | rfl
  · intro σ' H' F' rel' po kp
    exact fin .non σ' H' _ [] (rel'.take F.np) (po.take F.np) (.p .non) kp
  · intro v σ' H' F' Tr rel' po rd kp
    exact fin v σ' H' F' Tr rel' po rd kp
end Wh


set_option Elab.async false
set_option linter.all false
set_option maxRecDepth 100000
set_option maxHeartbeats 1000000
namespace Wh
open PySem PySem.Spec PyProof.Rows L2
section
variable {X : Cx} {CA : Str → Addr} {c : Cfg} {K : PySem.W.Frag} {H : Hp} {Q : VK} {σ : L2.St}

/-! ### arguments, one by one -/
theorem Vrs.each {F : Fo} {es : List E} {ds : List D} {vs : List V} {Ts : List (List Addr)} (h : Vrs K CA H σ F es ds vs Ts) : es.length = ds.length ∧ vs.length = ds.length ∧ ∀ (k : Nat) (d : D), ds[k]? = some d → ∃ e v T, es[k]? = some e ∧ vs[k]? = some v ∧ Ts[k]? = some T ∧ Vr K CA H σ e d v F T := by
  induction h with
  | nil => exact ⟨rfl, rfl, fun k d e => by simp at e⟩
  | cons h _ ih =>
    obtain ⟨l1, l2, ih⟩ := ih
    refine ⟨by simp [l1], by simp [l2], fun k d e => ?_⟩
    cases k with
    | zero => simp at e; subst e; exact ⟨_, _, _, rfl, rfl, rfl, h⟩
    | succ k =>
      have e' : _ := ih k d (by simpa using e)
      obtain ⟨e1, v1, T1, q1, q2, q3, q4⟩ := e'
      exact ⟨e1, v1, T1, by simpa using q1, by simpa using q2, by simpa using q3, q4⟩
theorem mem_flat {Ts : List (List Addr)} {k : Nat} {T : List Addr} (h : Ts[k]? = some T) {a : Addr} (ha : a ∈ T) : a ∈ Ts.flatten := List.mem_flatten.mpr ⟨T, List.mem_of_getElem? h, ha⟩
theorem flat_dj : ∀ {Ts : List (List Addr)} {k j : Nat} {T T' : List Addr}, Ts.flatten.Nodup → Ts[k]? = some T → Ts[j]? = some T' → ∀ a, a ∈ T → a ∈ T' → k = j
  | [], k, _, _, _, _, h, _, _, _, _ => by simp at h
  | S :: Ts, k, j, T, T', nd, h1, h2, a, ha, hb => by
    rw [List.flatten_cons, List.nodup_append] at nd
    cases k with
    | zero =>
      cases j with
      | zero => rfl
      | succ j =>
        simp at h1
        subst h1
        exact absurd rfl (nd.2.2 a ha a (mem_flat (by simpa using h2) hb))
    | succ k =>
      cases j with
      | zero =>
        simp at h2
        subst h2
        exact absurd rfl (nd.2.2 a hb a (mem_flat (by simpa using h1) ha))
      | succ j => exact congrArg (· + 1) (flat_dj (Ts := Ts) (k := k) (j := j) nd.2.1 (by simpa using h1) (by simpa using h2) a ha hb)
theorem flat_nd : ∀ {Ts : List (List Addr)} {k : Nat} {T : List Addr}, Ts.flatten.Nodup → Ts[k]? = some T → T.Nodup
  | [], k, _, _, h => by simp at h
  | S :: Ts, k, T, nd, h1 => by
    rw [List.flatten_cons, List.nodup_append] at nd
    cases k with
    | zero => simp at h1; subst h1; exact nd.1
    | succ k => exact flat_nd nd.2.1 (by simpa using h1)
theorem imp_mem : ∀ {es : List E} {ds : List D} {k i : Nat} {e : E} {d : D}, es[k]? = some e → ds[k]? = some d → d.isP = false → root e = some i → i ∈ impRoots es ds
  | [], _, k, _, _, _, h, _, _, _ => by simp at h
  | _ :: _, [], k, _, _, _, _, h, _, _ => by simp at h
  | e0 :: es, d0 :: ds, k, i, e, d, h1, h2, hp, hr => by
    unfold impRoots
    cases k with
    | zero =>
      simp at h1 h2
      subst h1 h2
      simp [hp, hr]
    | succ k => exact List.mem_append_right _ (imp_mem (by simpa using h1) (by simpa using h2) hp hr)
theorem imp_inj : ∀ {es : List E} {ds : List D} {k j i : Nat} {e e' : E} {d d' : D}, (impRoots es ds).Nodup → es[k]? = some e → ds[k]? = some d → d.isP = false → root e = some i → es[j]? = some e' → ds[j]? = some d' → d'.isP = false → root e' = some i → k = j
  | [], _, k, _, _, _, _, _, _, _, h, _, _, _, _, _, _, _ => by simp at h
  | _ :: _, [], k, _, _, _, _, _, _, _, _, h, _, _, _, _, _, _ => by simp at h
  | e0 :: es, d0 :: ds, k, j, i, e, e', d, d', nd, h1, h2, hp, hr, g1, g2, gp, gr => by
    unfold impRoots at nd
    rw [List.nodup_append] at nd
    cases k with
    | zero =>
      cases j with
      | zero => rfl
      | succ j =>
        simp at h1 h2
        subst h1 h2
        exact absurd rfl (nd.2.2 i (by simp [hp, hr]) i (imp_mem (by simpa using g1) (by simpa using g2) gp gr))
    | succ k =>
      cases j with
      | zero =>
        simp at g1 g2
        subst g1 g2
        exact absurd rfl (nd.2.2 i (by simp [gp, gr]) i (imp_mem (by simpa using h1) (by simpa using h2) hp hr))
      | succ j => exact congrArg (· + 1) (imp_inj (es := es) (ds := ds) (k := k) (j := j) (i := i) nd.2.1 (by simpa using h1) (by simpa using h2) hp hr (by simpa using g1) (by simpa using g2) gp gr)
theorem lks_at : ∀ {lk : List Nat} {es : List E} {ds : List D} {k : Nat} {e : E} {d : D}, es[k]? = some e → ds[k]? = some d → (argLks lk es ds)[k]? = some (argLk lk e d)
  | _, [], _, k, _, _, h, _ => by simp at h
  | _, _ :: _, [], k, _, _, _, h => by simp at h
  | lk, e0 :: es, d0 :: ds, k, e, d, h1, h2 => by
    unfold argLks
    cases k with
    | zero => simp at h1 h2; subst h1 h2; rfl
    | succ k => simpa using lks_at (lk := lk) (es := es) (ds := ds) (by simpa using h1) (by simpa using h2)
/-- slot s is the open argument k -/
def Ar (lk : List Nat) (es : List E) (ds : List D) (s k : Nat) : Prop := es[k]? = some (.var s) ∧ (∃ d, ds[k]? = some d ∧ d.isP = false) ∧ s ∉ lk
theorem wback_len : ∀ (lk : List Nat) (es : List E) (ds ds' : List D) (ε : Env), (wback lk es ds ds' ε).length = ε.length
  | _, [], _, _, _ => by simp [wback]
  | _, _ :: _, [], _, _ => by simp [wback]
  | _, _ :: _, _ :: _, [], _ => by simp [wback]
  | lk, e :: es, d :: ds, d' :: ds', ε => by
    unfold wback
    rw [wback_len lk es ds ds']
    split
    · rfl
    · cases e with
      | var i => simp only; split <;> simp
      | _ => rfl
theorem wback_no : ∀ {lk : List Nat} {es : List E} {ds ds' : List D} {ε : Env} {s : Nat}, (∀ k, ¬ Ar lk es ds s k) → (wback lk es ds ds' ε)[s]? = ε[s]?
  | _, [], _, _, _, _, _ => by simp [wback]
  | _, _ :: _, [], _, _, _, _ => by simp [wback]
  | _, _ :: _, _ :: _, [], _, _, _ => by simp [wback]
  | lk, e :: es, d :: ds, d' :: ds', ε, s, h => by
    unfold wback
    rw [wback_no fun k q => h (k + 1) ⟨by simpa using q.1, by simpa using q.2.1, q.2.2⟩]
    split
    · rfl
    · rename_i hp
      cases e with
      | var i =>
        simp only
        split
        · rfl
        · rename_i hi
          have : i ≠ s := fun q => h 0 ⟨by rw [q]; rfl, ⟨d, rfl, by simpa using hp⟩, by rw [← q]; exact hi⟩
          exact List.getElem?_set_ne this
      | _ => rfl
theorem wback_yes : ∀ {lk : List Nat} {es : List E} {ds ds' : List D} {ε : Env} {s k : Nat} {d' : D}, (impRoots es ds).Nodup → Ar lk es ds s k → ds'[k]? = some d' → s < ε.length → (wback lk es ds ds' ε)[s]? = some (some d')
  | _, [], _, _, _, _, _, _, _, h, _, _ => by simp [Ar] at h
  | _, _ :: _, [], _, _, _, _, _, _, h, _, _ => by simp [Ar] at h
  | _, _ :: _, _ :: _, [], _, _, _, _, _, _, h, _ => by simp at h
  | lk, e :: es, d :: ds, d0 :: ds', ε, s, k, d', nd, h, hd, hl => by
    unfold wback
    cases k with
    | zero =>
      obtain ⟨h1, ⟨d1, h2, h3⟩, h4⟩ := h
      simp at h1 h2 hd
      subst h1 h2 hd
      rw [wback_no]
      · simp only [h3, Bool.false_eq_true, if_false, if_neg h4]
        exact List.getElem?_set_self hl
      · rintro k ⟨g1, ⟨d2, g2, g3⟩, g4⟩
        have := imp_inj (k := 0) (j := k + 1) nd rfl rfl h3 rfl (by simpa using g1) (by simpa using g2) g3 rfl
        cases this
    | succ k =>
      have nd' : (impRoots es ds).Nodup := by
        unfold impRoots at nd
        rw [List.nodup_append] at nd
        exact nd.2.1
      refine wback_yes nd' ⟨by simpa using h.1, by simpa using h.2.1, h.2.2⟩ (by simpa using hd) ?_
      split
      · exact hl
      · cases e with
        | var i => simp only; split <;> simpa using hl
        | _ => exact hl

/-- the tree of argument k -/
structure ArgAt (K : PySem.W.Frag) (CA : Str → Addr) (H : Hp) (σ : L2.St) (F : Fo) (es : List E) (ds : List D) (vs : List V) (Ts : List (List Addr)) (k : Nat) (G : List Addr) : Prop where
  out : ds[k]? = none → G = []
  at_ : ∀ d, ds[k]? = some d → ∃ e v T, es[k]? = some e ∧ vs[k]? = some v ∧ Ts[k]? = some T ∧ RD K CA H d v G ∧ G.Nodup ∧ (d.isP = true → G = []) ∧
    (d.isP = false → (∃ i, e = .var i ∧ G = F i ∧ σ[i]? = some (some v)) ∨ (∃ i, (∀ j, e ≠ .var j) ∧ root e = some i ∧ ∀ a ∈ G, a ∈ F i) ∨ (root e = none ∧ G = T))
theorem Vrs.args {F : Fo} {es : List E} {ds : List D} {vs : List V} {Ts : List (List Addr)} (h : Vrs K CA H σ F es ds vs Ts) (nd : Ts.flatten.Nodup) (k : Nat) : ∃ G, ArgAt K CA H σ F es ds vs Ts k G := by
  obtain ⟨l1, l2, each1⟩ := h.each
  cases hd : ds[k]? with
  | none => exact ⟨[], fun _ => rfl, (fun d e => by rw [hd] at e; cases e)⟩
  | some d =>
    obtain ⟨e, v, T, h1, h2, h3, vr⟩ := each1 k d hd
    have pack : ∀ G, RD K CA H d v G → G.Nodup → (d.isP = true → G = []) → (d.isP = false → (∃ i, e = .var i ∧ G = F i ∧ σ[i]? = some (some v)) ∨ (∃ i, (∀ j, e ≠ .var j) ∧ root e = some i ∧ ∀ a ∈ G, a ∈ F i) ∨ (root e = none ∧ G = T)) → ∃ G, ArgAt K CA H σ F es ds vs Ts k G :=
      fun G r n p q => ⟨G, (fun z => by rw [hd] at z; cases z), fun d' e' => by
        rw [hd] at e'
        cases e'
        exact ⟨e, v, T, h1, h2, h3, r, n, p, q⟩⟩
    rcases vr with ⟨x, rfl, rfl, r⟩ | ⟨hp, ⟨i, rfl, t, s, r, n⟩ | ⟨i, nv, hr, t, G, r, n, s⟩ | ⟨hr, r⟩⟩
    · exact pack [] (.p r) List.nodup_nil (fun _ => rfl) fun z => nomatch z
    · exact pack (F i) r n (fun z => by rw [hp] at z; cases z) fun _ => .inl ⟨i, rfl, rfl, s⟩
    · exact pack G r n (fun z => by rw [hp] at z; cases z) fun _ => .inr (.inl ⟨i, nv, hr, s⟩)
    · exact pack T r (flat_nd nd h3) (fun z => by rw [hp] at z; cases z) fun _ => .inr (.inr ⟨hr, rfl⟩)

/-- THE CALL, from the caller's side -/
theorem call_core {lk : List Nat} {H0 : Hp} {F0 F : Fo} {ε1 : Env} {es : List E} {ds : List D} {vs : List V} {Ts : List (List Addr)} (rel : Rel K CA H ε1 σ F) (po0 : Po lk H0 F0 H F Ts.flatten) (vrs : Vrs K CA H σ F es ds vs Ts) (imp : (impRoots es ds).Nodup) :
    ∃ Fa, Rel K CA H (ds.map some) (vs.map some) Fa ∧
      ∀ H' F' Tr R ds', ds'.length = ds.length → (∀ i d d' w, ds[i]? = some d → d.isP = false → ds'[i]? = some d' → vs[i]? = some w → RD K CA H' d' w (F' i)) → (∀ i j a, a ∈ F' i → a ∈ F' j → i = j) → (∀ i, (F' i).Nodup) →
        Po (lksOf 0 (argLks lk es ds)) H Fa H' F' Tr → R.Nodup → (∀ a ∈ R, (∃ j, j ∉ lksOf 0 (argLks lk es ds) ∧ a ∈ Fa j) ∨ H a = none) → (∀ k, (∃ s, Ar lk es ds s k) → ∀ a ∈ F' k, a ∉ R) →
        ∃ Fn, Rel K CA H' (wback lk es ds ds' ε1) σ Fn ∧ Po lk H0 F0 H' Fn R := by
  obtain ⟨l1, l2, _⟩ := vrs.each
  have hA := vrs.args po0.ndT
  let Fa : Fo := fun k => Classical.choose (hA k)
  have hF : ∀ k, ArgAt K CA H σ F es ds vs Ts k (Fa k) := fun k => Classical.choose_spec (hA k)
  -- where an argument's object lies
  have own : ∀ k a, a ∈ Fa k → ∃ e d, es[k]? = some e ∧ ds[k]? = some d ∧ d.isP = false ∧ ((∃ i, root e = some i ∧ a ∈ F i) ∨ (root e = none ∧ ∃ T, Ts[k]? = some T ∧ a ∈ T)) := fun k a ha => by
    cases hd : ds[k]? with
    | none => rw [(hF k).out hd] at ha; cases ha
    | some d =>
      obtain ⟨e, v, T, h1, h2, h3, r, n, p, q⟩ := (hF k).at_ d hd
      cases hp : d.isP with
      | true => rw [p hp] at ha; cases ha
      | false =>
        refine ⟨e, d, h1, rfl, hp, ?_⟩
        rcases q hp with ⟨i, rfl, eg, _⟩ | ⟨i, _, hr, s⟩ | ⟨hr, eg⟩
        · rw [eg] at ha; exact .inl ⟨i, rfl, ha⟩
        · exact .inl ⟨i, hr, s a ha⟩
        · rw [eg] at ha; exact .inr ⟨hr, T, h3, ha⟩
  -- an open argument: a slot's tree, or one of its own
  have opn : ∀ k a, k ∉ lksOf 0 (argLks lk es ds) → a ∈ Fa k → (∃ s, Ar lk es ds s k ∧ a ∈ F s) ∨ a ∈ Ts.flatten := fun k a hk ha => by
    obtain ⟨e, d, h1, h2, hp, q⟩ := own k a ha
    have hl : argLk lk e d = false := by
      cases z : argLk lk e d with
      | false => rfl
      | true => exact absurd (lksOf_mem.mpr ⟨Nat.zero_le _, by rw [Nat.sub_zero, lks_at h1 h2, z]⟩) hk
    rcases q with ⟨i, hr, hm⟩ | ⟨hr, T, hT, hm⟩
    · unfold argLk at hl
      rw [hp] at hl
      simp only [Bool.false_eq_true, if_false] at hl
      cases e with
      | var j =>
        simp only [root] at hr
        cases hr
        exact .inl ⟨i, ⟨h1, ⟨d, h2, hp⟩, by simpa using hl⟩, hm⟩
      | _ => simp [hr] at hl
    · exact .inr (mem_flat hT hm)
  have aFlat : ∀ s a, a ∈ F s → a ∉ Ts.flatten := po0.djT
  refine ⟨Fa, ⟨by simp [l2], fun i d e => ?_, fun i h => ?_, fun i j a h1 h2 => ?_, fun i => ?_⟩, ?_⟩
  · rw [map_some_get] at e
    cases hd : ds[i]? with
    | none => rw [hd] at e; cases e
    | some d' =>
      rw [hd] at e
      cases e
      obtain ⟨_, v, _, _, h2, _, r, _⟩ := (hF i).at_ d hd
      exact ⟨v, by rw [map_some_get, h2]; rfl, r⟩
  · refine (hF i).out ?_
    cases hd : ds[i]? with
    | none => rfl
    | some d => exact absurd (by rw [map_some_get, hd]; rfl) (h d)
  · obtain ⟨e, d, g1, g2, gp, gq⟩ := own i a h1
    obtain ⟨e', d', k1, k2, kp, kq⟩ := own j a h2
    rcases gq with ⟨s, hr, hm⟩ | ⟨hr, T, hT, hm⟩
    · rcases kq with ⟨s', hr', hm'⟩ | ⟨hr', T', hT', hm'⟩
      · have := rel.dj s s' a hm hm'
        subst this
        exact imp_inj imp g1 g2 gp hr k1 k2 kp hr'
      · exact absurd (mem_flat hT' hm') (aFlat s a hm)
    · rcases kq with ⟨s', hr', hm'⟩ | ⟨hr', T', hT', hm'⟩
      · exact absurd (mem_flat hT hm) (aFlat s' a hm')
      · exact flat_dj po0.ndT hT hT' a hm hm'
  · cases hd : ds[i]? with
    | none => rw [(hF i).out hd]; exact List.nodup_nil
    | some d =>
      obtain ⟨_, _, _, _, _, _, _, n, _⟩ := (hF i).at_ d hd
      exact n
  intro H' F' Tr R ds' hl' rdk djF' ndF' po hR1 hR2 hR3
  have uniq : ∀ s k k', Ar lk es ds s k → Ar lk es ds s k' → k = k' := fun s k k' ⟨a1, ⟨d1, a2, a3⟩, _⟩ ⟨b1, ⟨d2, b2, b3⟩, _⟩ => imp_inj imp a1 a2 a3 rfl b1 b2 b3 rfl
  classical
  let Fn : Fo := fun s => if h : ∃ k, Ar lk es ds s k then F' (Classical.choose h) else F s
  have hy : ∀ s k, Ar lk es ds s k → Fn s = F' k := fun s k h => by
    have z : ∃ k, Ar lk es ds s k := ⟨k, h⟩
    show (if h : ∃ k, Ar lk es ds s k then F' (Classical.choose h) else F s) = _
    rw [dif_pos z, uniq s _ k (Classical.choose_spec z) h]
  have hn : ∀ s, (∀ k, ¬ Ar lk es ds s k) → Fn s = F s := fun s h => by
    show (if h : ∃ k, Ar lk es ds s k then F' (Classical.choose h) else F s) = _
    rw [dif_neg (fun ⟨k, z⟩ => h k z)]
  -- an open argument is not locked in the call
  have arOpen : ∀ s k, Ar lk es ds s k → k ∉ lksOf 0 (argLks lk es ds) := fun s k ⟨a1, ⟨d1, a2, a3⟩, a4⟩ z => by
    have := (lksOf_mem.mp z).2
    rw [Nat.sub_zero, lks_at a1 a2] at this
    unfold argLk at this
    rw [a3] at this
    simp [a4] at this
  -- an object of another slot is in no open argument
  have apart : ∀ s, (∀ k, ¬ Ar lk es ds s k) → ∀ a ∈ F s, ¬ ((∃ j, j ∉ lksOf 0 (argLks lk es ds) ∧ a ∈ Fa j) ∨ H a = none) := fun s h a ha z => by
    rcases z with ⟨j, hj, hm⟩ | z
    · rcases opn j a hj hm with ⟨s', ar, hm'⟩ | hm'
      · have := rel.dj s s' a ha hm'
        subst this
        exact h j ar
      · exact aFlat s a ha hm'
    · obtain ⟨o, e⟩ := (rel.mutk s a ha).some
      rw [z] at e; cases e
  have back : ∀ a, ((∃ j, j ∉ lksOf 0 (argLks lk es ds) ∧ a ∈ Fa j) ∨ H a = none) → (∃ j, j ∉ lk ∧ a ∈ F0 j) ∨ H0 a = none := fun a z => by
    rcases z with ⟨j, hj, hm⟩ | z
    · rcases opn j a hj hm with ⟨s', ar, hm'⟩ | hm'
      · exact po0.old s' ar.2.2 a hm'
      · exact po0.oldT a hm'
    · cases e : H0 a with
      | none => exact .inr rfl
      | some o =>
        by_cases w : ∃ j, j ∉ lk ∧ a ∈ F0 j
        · exact .inl w
        · have := po0.kp a o e fun i hi hm => w ⟨i, hi, hm⟩
          rw [z] at this; cases this
  have inSlot : ∀ s k, Ar lk es ds s k → ∃ v d', vs[k]? = some v ∧ σ[s]? = some (some v) ∧ ds'[k]? = some d' ∧ RD K CA H' d' v (F' k) := fun s k ar => by
    obtain ⟨a1, ⟨d1, a2, a3⟩, a4⟩ := ar
    obtain ⟨e, v, T, h1, h2, h3, r, n, p, q⟩ := (hF k).at_ d1 a2
    rw [a1] at h1
    cases h1
    have hk : k < ds'.length := by
      rw [hl']
      exact (List.getElem?_eq_some_iff.mp a2).1
    refine ⟨v, ds'[k], h2, ?_, List.getElem?_eq_getElem hk, rdk k d1 _ v a2 a3 (List.getElem?_eq_getElem hk) h2⟩
    rcases q a3 with ⟨i, e, _, hs⟩ | ⟨i, nv, _⟩ | ⟨hr, _⟩
    · cases e; exact hs
    · exact absurd rfl (nv s)
    · cases hr
  refine ⟨Fn, ⟨by rw [wback_len]; exact rel.len, fun s d e => ?_, fun s h => ?_, fun s t a h1 h2 => ?_, fun s => ?_⟩, ⟨fun a o ha hn' => ?_, po0.im.trans po.im, fun s hs => ?_, fun s hs a ha => ?_, fun a ha => back a (hR2 a ha), hR1, fun s a ha hm => ?_⟩⟩
  · by_cases z : ∃ k, Ar lk es ds s k
    · obtain ⟨k, ar⟩ := z
      obtain ⟨v, d', hv, hs, hd', r⟩ := inSlot s k ar
      have hl : s < ε1.length := by rw [← rel.len]; exact (List.getElem?_eq_some_iff.mp hs).1
      rw [wback_yes imp ar hd' hl] at e
      cases e
      exact ⟨v, hs, by rw [hy s k ar]; exact r⟩
    · have z' : ∀ k, ¬ Ar lk es ds s k := fun k q => z ⟨k, q⟩
      rw [wback_no z'] at e
      obtain ⟨v, e1, r⟩ := rel.val s d e
      refine ⟨v, e1, ?_⟩
      rw [hn s z']
      exact r.keep po.im fun a ha => po.stay (r.mutk a ha) fun j hj hm => apart s z' a ha (.inl ⟨j, hj, hm⟩)
  · by_cases z : ∃ k, Ar lk es ds s k
    · obtain ⟨k, ar⟩ := z
      obtain ⟨v, d', hv, hs, hd', r⟩ := inSlot s k ar
      have hl : s < ε1.length := by rw [← rel.len]; exact (List.getElem?_eq_some_iff.mp hs).1
      exact absurd (wback_yes imp ar hd' hl) (h d')
    · have z' : ∀ k, ¬ Ar lk es ds s k := fun k q => z ⟨k, q⟩
      rw [hn s z']
      exact rel.emp s fun d q => h d (by rw [wback_no z']; exact q)
  · by_cases z : ∃ k, Ar lk es ds s k
    · obtain ⟨k, ar⟩ := z
      rw [hy s k ar] at h1
      by_cases y : ∃ j, Ar lk es ds t j
      · obtain ⟨j, ar'⟩ := y
        rw [hy t j ar'] at h2
        have := djF' k j a h1 h2
        subst this
        have e1 := ar.1
        rw [ar'.1] at e1
        cases e1
        rfl
      · have y' : ∀ k, ¬ Ar lk es ds t k := fun k q => y ⟨k, q⟩
        rw [hn t y'] at h2
        exact (apart t y' a h2 (po.old k (arOpen s k ar) a h1)).elim
    · have z' : ∀ k, ¬ Ar lk es ds s k := fun k q => z ⟨k, q⟩
      rw [hn s z'] at h1
      by_cases y : ∃ j, Ar lk es ds t j
      · obtain ⟨j, ar'⟩ := y
        rw [hy t j ar'] at h2
        exact (apart s z' a h1 (po.old j (arOpen t j ar') a h2)).elim
      · have y' : ∀ k, ¬ Ar lk es ds t k := fun k q => y ⟨k, q⟩
        rw [hn t y'] at h2
        exact rel.dj s t a h1 h2
  · by_cases z : ∃ k, Ar lk es ds s k
    · obtain ⟨k, ar⟩ := z
      rw [hy s k ar]; exact ndF' k
    · rw [hn s fun k q => z ⟨k, q⟩]; exact rel.nd s
  · refine po.kp a o (po0.kp a o ha hn') fun j hj hm => ?_
    rcases back a (.inl ⟨j, hj, hm⟩) with ⟨i, hi, w⟩ | w
    · exact hn' i hi w
    · rw [ha] at w; cases w
  · rw [hn s fun k ar => ar.2.2 hs]; exact po0.lkd s hs
  · by_cases z : ∃ k, Ar lk es ds s k
    · obtain ⟨k, ar⟩ := z
      rw [hy s k ar] at ha
      exact back a (po.old k (arOpen s k ar) a ha)
    · rw [hn s fun k q => z ⟨k, q⟩] at ha
      exact po0.old s hs a ha
  · by_cases z : ∃ k, Ar lk es ds s k
    · obtain ⟨k, ar⟩ := z
      rw [hy s k ar] at ha
      exact hR3 k ⟨s, ar⟩ a ha hm
    · have z' : ∀ k, ¬ Ar lk es ds s k := fun k q => z ⟨k, q⟩
      rw [hn s z'] at ha
      exact apart s z' a ha (hR2 a hm)
/-- f(..), a def -/
theorem snd_call {T : Tab} {n np : Nat} {f : Str} {e : Expr} {es : List E} {E0 : XK} (hcall : c.call = callF T n) (hlen : ∀ fl ds r, callF T n f fl ds = some r → ds.length = np) (h : PE X e (fun σ H Q => tA X.K CA c es σ H fun vs H1 => spF T X.K CA n f np vs H1 Q E0)) : PE X e (tE X.K CA c (.call f es)) := by
  refine pe_mono h fun σ H Q ⟨lk, ε, F, d, ε', rel, he, q⟩ => ?_
  simp only [ev, Option.bind_eq_some_iff, callWith] at he
  obtain ⟨⟨ds, ε1⟩, h1, he⟩ := he
  simp only at he
  split at he
  · rename_i himp
    simp only [Option.map_eq_some_iff] at he
    obtain ⟨⟨r, ds'⟩, h2, e2⟩ := he
    cases e2
    refine ⟨lk, ε, F, ds, ε1, rel, h1, fun vs H1 F1 Ts rel1 po1 vrs => ?_⟩
    obtain ⟨Fa, relA, go⟩ := call_core rel1 po1 vrs himp
    rw [hcall] at h2
    refine ⟨by rw [vrs.each.2.1]; exact hlen _ _ _ h2, argLks lk es ds, ds, Fa, r, ds', relA, h2, fun v H' F' Tr hl' rdk djF ndF po rd => ?_⟩
    obtain ⟨Fn, relN, poN⟩ := go H' F' Tr Tr ds' hl' rdk djF ndF po po.ndT po.oldT (fun k _ a ha => po.djT k a ha)
    exact q v H' Fn Tr relN poN (.of_rd rfl rd)
  · cases he
end
end Wh


set_option Elab.async false
set_option linter.all false
set_option maxRecDepth 100000
set_option maxHeartbeats 1000000
/-! Methods and new instances of own classes, by values; the caller has no guard open. -/
namespace Wh
open PySem PySem.Spec PyProof.Rows L2
/-- a method's name in the table -/
def methN (k m : Str) : Str := k ++ Str.ofString "." ++ m
section
variable {X : Cx} {k : Nat} {f C : Addr} {fd : FuncData} {ps : List Str} {sp : Sp} {E0 : XK} {x m : Str} {p pos apos : Pos} {e o : Expr} {es as : List Expr} {ta : TE} {t : TA}
def plOf (o : Expr) (env : PySem.Env) : Sem Bool := do return (← importBound o env).getD true
theorem meth_tree {env : PySem.Env} (hb : attributeBase o m env (eval o env) = eval o env) (hn : ∀ a ∈ as, NS a) (hl : as.length < 28) (hline : (apos.endLine == pos.line) = true) :
    eval (.Call (.Attribute o m apos) as [] pos) env = (do
      let ov ← eval o env
      standAt apos.atName
      let (g, first) ← holding [ov] (getMethod ov m (plOf o env))
      PySem.callWith pos g first (backTo pos (starEach as env)) (backToKw pos (keywordEach [] env))) := mcall_of hb fun ov => by
  have hf : methodCallForm (as.length + ([] : List Keyword).length) (backTo pos (starEach as env)) (backToKw pos (keywordEach [] env)) = true := star_all hn env pos hl
  unfold methodCall
  rw [hf]
  have hp : methodCallPos true o env apos pos = pure pos := by unfold methodCallPos; simp [hline]
  have hc : calleeOf true o env ov m = getMethod ov m (plOf o env) := rfl
  rw [hp, hc]
  simp only [pure_bind]
/-- what is asked of the object and its method before the arguments are looked at -/
def atMeth (X : Cx) (k : Nat) (m : Str) (x : V) (H : Hp) (q : Sp → Prop) : Prop := ∃ a C dx fs g fd ps sp, x = .ref a ∧ H a = some (.ins C dx fs) ∧ Cls X.K C ∧ Meth X.K C m g ∧ FnG X.prog X.w X.K X.mg X.base k g fd ps sp ∧ Binds X.K fd ps [] ∧ fs.lookup m = none ∧ q sp
theorem pe_methG (he : PE X o ta) (hr : Room k X.A) (hgd : X.A.guards = some []) (ha : PA X (e :: es) t) (hb : attributeBase o m X.env (eval o X.env) = eval o X.env) (hn : ∀ a ∈ e :: es, NS a) (hl : (e :: es).length < 28) (hline : (apos.endLine == pos.line) = true) :
    PE X (.Call (.Attribute o m apos) (e :: es) [] pos) (fun σ H Q => ta σ H fun x H1 => atMeth X k m x H1 fun sp => t σ H1 fun vs H2 => sp (x :: vs) H2 Q E0) := by
  refine ⟨fun pins s σ H Q I h => ?_⟩
  refine PySem.W.methodCall_KW (pl := plOf o X.env) (thn (he.run pins s σ H _ I h) fun u s1 ⟨x, H1, I1, rx, a, C, dx, fs, g, fd, ps, sp, ex, ea, c, hm, F, hbd, l, q⟩ => ?_) (meth_tree hb hn hl hline)
  subst ex
  obtain rfl : u = Value.ref a := rx
  refine getmeth_ok I1 ea c hm l ?_
  exact PySem.W.callWith_K (first := [.ref a]) (h₀ := X.base) I.ok.mod.kin hm.kp (thn (ha.run pos pins s1 σ H1 _ I1 q) fun us s2 ⟨vs, H2, I2, r, q2⟩ => ⟨I2.kIn, runG (us := .ref a :: us) (vs := .ref a :: vs) F hr hgd hbd I2 (.cons rfl r) q2⟩) (hn e List.mem_cons_self es X.env) (star_any (fun b hb => hn b (List.mem_cons_of_mem _ hb)) _ _)
theorem pe_methG0 (he : PE X o ta) (hr : Room k X.A) (hgd : X.A.guards = some []) (hb : attributeBase o m X.env (eval o X.env) = eval o X.env) (hline : (apos.endLine == pos.line) = true) :
    PE X (.Call (.Attribute o m apos) [] [] pos) (fun σ H Q => ta σ H fun x H1 => atMeth X k m x H1 fun sp => sp [x] H1 Q E0) := by
  refine ⟨fun pins s σ H Q I h => ?_⟩
  refine PySem.W.methodCall_KW (pl := plOf o X.env) (thn (he.run pins s σ H _ I h) fun u s1 ⟨x, H1, I1, rx, a, C, dx, fs, g, fd, ps, sp, ex, ea, c, hm, F, hbd, l, q⟩ => ?_) (meth_tree (as := []) hb (fun a ha => absurd ha (by simp)) (by decide) hline)
  subst ex
  obtain rfl : u = Value.ref a := rx
  refine getmeth_ok I1 ea c hm l ?_
  exact PySem.W.callWith_K0 (first := [.ref a]) I1.kIn hm.kp (runG (us := [.ref a]) (vs := [.ref a]) F hr hgd hbd I1 (.cons rfl .nil) q)
/-! ### a new instance -/
theorem make_guards {A : Around} (h : A.guards = some []) (us : List Value) (kw : List (Str × Value)) : (A.under (.builtin "type.__call__" ⟨.ref C :: us, kw⟩)).guards = some [] := by
  have hg : ¬ "type.__call__" ∈ guardIds := by decide
  simp [Around.under, h, Code.guards, Code.isGuard, pushGuards, hg]
def rMake (C : Addr) (sp : Sp) (vs : List V) (H : Hp) (Q : VK) (E : XK) : Prop := ∀ x dx, H x = none → H dx = none → dx ≠ x → sp (.ref x :: vs) (upd (upd H dx (.own x)) x (.ins C dx [])) (fun v H2 => v = .non ∧ Q (.ref x) H2) E
theorem makeG {pins : List (Addr × Obj)} {σ : L2.St} {H : Hp} {s : Shared} {Q : VK} {us : List Value} {vs : List V} (M : Mk X.K C f) (F : FnG X.prog X.w X.K X.mg X.base k f fd ps sp) (hr : Room (k + 1) X.A) (hgd : X.A.guards = some []) (hb : Binds X.K fd ps [])
    (I : Inv X pins σ H s) (r : Vals vs us) (h : rMake C sp vs H Q E0) : wpAny (model X.prog X.w) X.A (call (.ref C) us) (EP X pins σ Q) X.xe s := by
  have hq := h (s.heap.objs.size + 1) s.heap.objs.size (I.hok.fresh (Nat.le_succ _)) (I.hok.fresh (Nat.le_refl _)) (Nat.ne_of_lt (Nat.lt_succ_self _))
  have I2 := Inv.made (C := C) I
  have r2 : Vals (V.ref (s.heap.objs.size + 1) :: vs) (Value.ref (s.heap.objs.size + 1) :: us) := .cons rfl r
  have hl : (Value.ref (s.heap.objs.size + 1) :: us).length = ps.length := by
    rw [← r2.length]; exact F.len _ _ _ _ hq
  have hb' := hb _ (Value.ref (s.heap.objs.size + 1) :: us) I2.kIn (by rw [List.append_nil]; exact hl)
  rw [List.append_nil] at hb'
  refine wpAny_call (make_map (f := f) I.kIn M.makes M.init (beq_iff_eq.mp M.fn) (codeAny_mono (F.run _ X.stack _ _ ⟨Value.ref (s.heap.objs.size + 1) :: us, []⟩ (Value.ref (s.heap.objs.size + 1) :: us) _ _ E0 (hr.make C us []) (make_guards hgd us []) (I2.env0.make C us []) hb' r2 hq) fun z s' hq' => ?_))
  match z, hq' with
  | .ok (.ret u), hq' =>
    obtain ⟨v, H', I3, rv, ev, q3⟩ := I2.after hq'
    subst ev
    exact ⟨rv, ⟨V.ref (s.heap.objs.size + 1), H', I3, rfl, q3⟩⟩
theorem pe_makeG (M : Mk X.K C f) (F : FnG X.prog X.w X.K X.mg X.base k f fd ps sp) (hr : Room (k + 1) X.A) (hgd : X.A.guards = some []) (hg : Gl X x) (hm : X.mg x = some (.ref C)) (hb : Binds X.K fd ps []) (ha : PA X (e :: es) t) (hdb : (x == ("__debug__" : Str)) = false) (hn : ∀ a ∈ e :: es, NS a) :
    PE X (.Call (.Name x p) (e :: es) [] pos) (fun σ H Q => t σ H fun vs H1 => rMake C sp vs H1 Q E0) :=
  ⟨fun pins s σ H Q I h => wpAny_Call_Name_kw (ld_glob I hg hm (PySem.W.callWith_K (h₀ := X.base) I.ok.mod.kin M.kp (thn (ha.run pos pins s σ H _ I h) fun us s1 ⟨vs, H1, I1, r, q⟩ => ⟨I1.kIn, makeG M F hr hgd hb I1 r q⟩) (hn e List.mem_cons_self es X.env) (star_any (fun b hb => hn b (List.mem_cons_of_mem _ hb)) _ _)) hdb)⟩
theorem pe_makeG0 (M : Mk X.K C f) (F : FnG X.prog X.w X.K X.mg X.base k f fd ps sp) (hr : Room (k + 1) X.A) (hgd : X.A.guards = some []) (hg : Gl X x) (hm : X.mg x = some (.ref C)) (hb : Binds X.K fd ps []) (hdb : (x == ("__debug__" : Str)) = false) :
    PE X (.Call (.Name x p) [] [] pos) (fun σ H Q => rMake C sp [] H Q E0) :=
  ⟨fun pins s σ H Q I h => wpAny_Call_Name_kw (ld_glob I hg hm (PySem.W.callWith_K0 I.kIn M.kp (makeG (us := []) M F hr hgd hb I .nil h)) hdb)⟩
end
section
variable {X : Cx} {CA : Str → Addr} {c : Cfg} {K : PySem.W.Frag} {H : Hp} {Q : VK} {σ : L2.St} {a : Expr} {ea : E}
theorem RDf.names : ∀ {ds : List (Str × D)} {vs : List (Str × V)} {F : List Addr}, RDf K CA H ds vs F → vs.map (·.1) = ds.map (·.1)
  | _, _, _, .nil => rfl
  | _, _, _, .cons _ r => by simp [RDf.names r]
theorem Vrs.alive {F : Fo} {es : List E} {ds : List D} {vs : List V} {Ts : List (List Addr)} (h : Vrs K CA H σ F es ds vs Ts) : ∀ a ∈ Ts.flatten, H a ≠ none := by
  induction h with
  | nil => intro a ha; simp at ha
  | cons h _ ih =>
    intro a ha
    rw [List.flatten_cons] at ha
    rcases List.mem_append.mp ha with ha | ha
    · exact h.alive a ha
    · exact ih a ha
theorem Vrs.same {H' : Hp} {F : Fo} {es : List E} {ds : List D} {vs : List V} {Ts : List (List Addr)} (h : Vrs K CA H σ F es ds vs Ts) (s : Same H H') : Vrs K CA H' σ F es ds vs Ts := by
  induction h with
  | nil => exact .nil
  | cons h _ ih => exact .cons (h.same s) ih
theorem lookup_no {α : Type} {m : Str} : ∀ {l : List (Str × α)}, m ∉ l.map (·.1) → l.lookup m = none
  | [], _ => rfl
  | (y, b) :: r, h => by
    simp only [List.map_cons, List.mem_cons, not_or] at h
    rw [List.lookup_cons, beq_eq_false_iff_ne.mpr h.1]
    exact lookup_no h.2
/-- o.m(..), m a method -/
theorem snd_meth {T : Tab} {n : Nat} {m : Str} {e : Expr} {es : List E} {E0 : XK} (hcall : c.call = callF T n)
    (hmeth : ∀ k F, T.fn (methN k m) = some F → ∃ g fd ps, FnG X.prog X.w X.K X.mg X.base n g fd ps (spF T X.K CA n (methN k m) F.np) ∧ Meth X.K (CA k) m g ∧ Binds X.K fd ps [])
    (hfn : ∀ f fl ds r, callF T n f fl ds = some r → ∃ F, T.fn f = some F ∧ ds.length = F.np)
    (h : PE X e (fun σ H Q => tE X.K CA c ea σ H fun x H1 => atMeth X n m x H1 fun sp => tA X.K CA c es σ H1 fun vs H2 => sp (x :: vs) H2 Q E0)) : PE X e (tE X.K CA c (.meth ea m es)) := by
  refine pe_mono h fun σ H Q ⟨lk, ε, F, d, ε', rel, he, q⟩ => ?_
  simp only [ev, Option.bind_eq_some_iff] at he
  obtain ⟨⟨x, ε1⟩, h1, he⟩ := he
  refine ⟨lk, ε, F, x, ε1, rel, h1, fun v H1 F1 T1 rel1 po1 vr1 => ?_⟩
  simp only at he
  split at he
  · rename_i k fs
    simp only [Option.bind_eq_some_iff] at he
    obtain ⟨⟨ds, ε2⟩, h2, he⟩ := he
    simp only [callWith] at he
    split at he
    · rename_i himp
      simp only [Option.map_eq_some_iff] at he
      obtain ⟨⟨r, ds'⟩, h3, e3⟩ := he
      cases e3
      rw [hcall] at h3
      obtain ⟨Fm, hFm, hlm⟩ := hfn _ _ _ _ h3
      obtain ⟨g, fd, ps, FG, mth, bnd⟩ := hmeth k Fm hFm
      obtain ⟨G, r1, nd, _⟩ := vr1.split po1.ndT
      cases r1 with
      | @obj pa dx _ vs0 _ F0 e1 e2 cl na r0 =>
        have hno : vs0.lookup m = none := by
          refine lookup_no fun z => ?_
          rw [r0.names] at z
          have := na m z
          unfold NoAttr at this
          rw [mth.at_] at this
          cases this
        refine ⟨pa, CA k, dx, vs0, g, fd, ps, _, rfl, e1, cl, mth, FG, bnd, hno, lock lk ea (.obj k fs), ε1, F1, ds, ε2, rel1, h2, fun ws H2 F2 Ts rel2 po2 vrs => ?_⟩
        obtain ⟨vr1', po⟩ := snd_two po1 vr1 rel1 po2
        obtain ⟨Fa, relA, go⟩ := call_core (es := ea :: es) (ds := .obj k fs :: ds) (vs := .ref pa :: ws) (Ts := T1 :: Ts) rel2 (by rw [List.flatten_cons]; exact po) (.cons vr1' vrs) himp
        refine ⟨by rw [← hlm]; simp [vrs.each.2.1], _, _, Fa, r, ds', relA, h3, fun v H' F' Tr hl' rdk djF ndF poC rd => ?_⟩
        obtain ⟨Fn, relN, poN⟩ := go H' F' Tr Tr ds' hl' rdk djF ndF poC poC.ndT poC.oldT (fun k _ a ha => poC.djT k a ha)
        exact q v H' Fn Tr relN poN (.of_rd rfl rd)
    · cases he
  · cases he
/-- C(..), a new instance -/
theorem snd_new {T : Tab} {n np : Nat} {k : Str} {e : Expr} {es : List E} {E0 : XK} (hmk : c.mkc k = callF T n (methN k (Str.ofString "__init__"))) (hlen : ∀ fl ds r, callF T n (methN k (Str.ofString "__init__")) fl ds = some r → ds.length = np) (cl : Cls X.K (CA k))
    (h : PE X e (fun σ H Q => tA X.K CA c es σ H fun vs H1 => rMake (CA k) (spF T X.K CA n (methN k (Str.ofString "__init__")) np) vs H1 Q E0)) : PE X e (tE X.K CA c (.new k es)) := by
  refine pe_mono h fun σ H Q ⟨lk, ε, F, d, ε', rel, he, q⟩ => ?_
  simp only [ev, Option.bind_eq_some_iff] at he
  obtain ⟨⟨ds, ε1⟩, h1, he⟩ := he
  simp only at he
  split at he
  · rename_i himp
    simp only [Option.bind_eq_some_iff] at he
    obtain ⟨⟨r, ds'⟩, h2, he⟩ := he
    simp only at he
    split at he
    · rename_i ob dss heq1 heq2
      cases he
      rw [hmk] at h2
      refine ⟨lk, ε, F, ds, ε1, rel, h1, fun vs H1 F1 Ts rel1 po1 vrs => ?_⟩
      intro x dx hx hdx hne
      have hnx : x ≠ dx := fun z => hne z.symm
      have sm1 : Same H1 (upd H1 dx (.own x)) := same_upd hdx
      have hx2 : (upd H1 dx (.own x)) x = none := by rw [upd_ne hnx]; exact hx
      have sm2 : Same (upd H1 dx (.own x)) (upd (upd H1 dx (.own x)) x (.ins (CA k) dx [])) := same_upd hx2
      have sm : Same H1 (upd (upd H1 dx (.own x)) x (.ins (CA k) dx [])) := fun b u z => sm2 b u (sm1 b u z)
      have alv := vrs.alive
      have rel2 := rel1.same sm
      have vrs2 : Vrs X.K CA (upd (upd H1 dx (.own x)) x (.ins (CA k) dx [])) σ F1 es ds vs Ts := vrs.same sm
      have vr0 : Vr X.K CA (upd (upd H1 dx (.own x)) x (.ins (CA k) dx [])) σ (.cst .none) (.obj k []) (.ref x) F1 [x, dx] := .of_rd rfl (.obj upd_same (by rw [upd_ne hne]; exact upd_same) cl (fun f hf => nomatch hf) .nil)
      have fr : ∀ a ∈ [x, dx], H1 a = none := fun a ha => by
        rcases List.mem_cons.mp ha with rfl | ha
        · exact hx
        · rw [List.mem_singleton.mp ha]; exact hdx
      have po' : Po lk H F (upd (upd H1 dx (.own x)) x (.ins (CA k) dx [])) F1 ([x, dx] :: Ts).flatten := by
        rw [List.flatten_cons]
        refine ⟨fun a o h n => sm _ _ (po1.kp a o h n), po1.im.trans (Same.imK sm), po1.lkd, po1.old, fun a ha => ?_, List.nodup_append.mpr ⟨by simp [hnx], po1.ndT, fun a ha b hb e => ?_⟩, fun i a ha hm => ?_⟩
        · rcases List.mem_append.mp ha with ha | ha
          · cases e : H a with
            | none => exact .inr rfl
            | some o =>
              by_cases z : ∃ j, j ∉ lk ∧ a ∈ F j
              · exact .inl z
              · have := po1.kp a o e fun i hi hm => z ⟨i, hi, hm⟩
                rw [fr a ha] at this; cases this
          · exact po1.oldT a ha
        · subst e; exact alv a hb (fr a ha)
        · rcases List.mem_append.mp hm with hm | hm
          · obtain ⟨o, e⟩ := (rel1.mutk i a ha).some
            rw [fr a hm] at e; cases e
          · exact po1.djT i a ha hm
      obtain ⟨Fa, relA, go⟩ := call_core (es := .cst .none :: es) (ds := .obj k [] :: ds) (vs := .ref x :: vs) (Ts := [x, dx] :: Ts) rel2 po' (.cons vr0 vrs2) himp
      refine ⟨by rw [← hlen _ _ _ h2]; simp [vrs.each.2.1], false :: argLks lk es ds, .obj k [] :: ds, Fa, _, _, relA, h2, fun v H' F' Tr hl' rdk djF ndF poC rd => ?_⟩
      have h0 : 0 ∉ lksOf 0 (false :: argLks lk es ds) := fun z => by
        have := (lksOf_mem.mp z).2
        simp at this
      obtain ⟨Fn, relN, poN⟩ := go H' F' Tr (F' 0) _ hl' rdk djF ndF poC (ndF 0) (poC.old 0 h0) (fun j ⟨s, ar⟩ a ha h0' => by
        have := djF j 0 a ha h0'
        subst this
        have := ar.1
        simp at this)
      refine ⟨?_, q (.ref x) H' Fn (F' 0) relN poN (.of_rd rfl (rdk 0 (.obj k []) _ (.ref x) rfl rfl rfl rfl))⟩
      cases rd with
      | p r => cases r; rfl
    · cases he
  · cases he
end
end Wh


set_option Elab.async false
set_option maxRecDepth 100000
set_option maxHeartbeats 4000000
set_option linter.all false
namespace Wh
open PySem PySem.Spec PyProof.Rows L2
def shp : Expr → Bool
  | .Name .. => true | .Constant .. => true | .BinOp .. => true | .UnaryOp .. => true | .BoolOp .. => true | .Compare .. => true | .IfExp .. => true
  | .Tuple .. => true | .List .. => true | .Dict .. => true | .Subscript .. => true | .Attribute .. => true | .Call .. => true | .ListComp .. => true | _ => false
theorem shp_ns {x : Expr} (h : shp x = true) : NS x := by
  cases x <;> first | (cases h; done) | (intro es env; rfl) | (intro es env; simp only [starEach])
theorem shp_bm {x : Expr} (h : shp x = true) (op : CmpOp) : behindInMarks op x = false := by
  cases x <;> first | (cases h; done) | rfl
theorem shp_ix {x : Expr} (h : shp x = true) : PlainIx x := by
  cases x <;> first | (cases h; done) | (intro o i; rfl)
theorem shp_fs {x : Expr} (h : shp x = true) (env : PySem.Env) (v : Value) : foldedSetIterable x env v = pure v := by
  cases x <;> first | (cases h; done) | rfl
def attrB : Expr → Bool
  | .Call _ [] [] _ => false
  | _ => true
theorem attr_ok {x : Expr} (h : attrB x = true) (f : Str) (env : PySem.Env) (w : Sem Value) : attributeBase x f env w = w := by
  unfold attributeBase
  cases x <;> first | rfl | skip
  rename_i fn as ks p
  cases fn <;> first | rfl | skip
  cases as <;> first | rfl | skip
  cases ks <;> first | rfl | skip
  cases h
def tvB : Expr → Bool
  | .Name .. => true | .Constant .. => true | .BinOp .. => true | .Tuple .. => true | .List .. => true | .Dict .. => true | .Subscript .. => true | .Attribute .. => true | .Call .. => true | .ListComp .. => true | .UnaryOp .USub _ _ => true | _ => false
theorem tv_ok {x : Expr} (h : tvB x = true) (env : PySem.Env) (whole : Sem Value) : isTrue x env whole = (do let v ← whole; standAt x.pos; holding [v] (truthy v)) := by
  cases x <;> first | (cases h; done) | rfl | (simp only [isTrue]; done) | skip
  all_goals (rename_i op _ _; cases op <;> first | (cases h; done) | rfl | simp only [isTrue])
theorem sw_ok {x : Expr} (h : shp x = true) (hl : ∀ a b c d, x ≠ .ListComp a b c d) (t : Option Expr) (l : Nat) (env : PySem.Env) : swapsWith x t l env = pure false := by
  cases x <;> first | (cases h; done) | (exact absurd rfl (hl _ _ _ _)) | rfl

/-! ### the check: an erased term is what the text says -/
structure Gm where
  N : List Str
  sc : Scope
  cel : Str → Bool
def bltN (f : String) : Bool := ["len", "int", "abs", "tuple", "list", "sum", "repr", "max", "min", "isinstance", "range", "enumerate", "zip", "str", "bool", "dict"].contains f
/-- the places of a dot -/
def dotsL : List Nat → List (List Nat × List Nat)
  | [] => []
  | c :: r => (if c = 46 then [([], r)] else []) ++ (dotsL r).map fun (a, b) => (c :: a, b)
def dots (f : Str) : List (Str × Str) := (dotsL f.cps.toList).map fun (a, b) => (⟨a.toArray⟩, ⟨b.toArray⟩)
structure GEnv (P : Program) (w : World) (K : PySem.W.Frag) (mg : Str → Option Value) (base : Heap) (T : Tab) (CA : Str → Addr) (n : Nat) : Prop where
  call : ∀ f F, dots f = [] → T.fn f = some F → ∃ a fd ps, FnG P w K mg base n a fd ps (spF T K CA n f F.np) ∧ mg f = some (.ref a) ∧ PySem.W.keepIn K (.ref a) = true ∧ Binds K fd ps []
  meth : ∀ k m F, T.fn (methN k m) = some F → ∃ a fd ps, FnG P w K mg base n a fd ps (spF T K CA n (methN k m) F.np) ∧ Cls K (CA k) ∧ Meth K (CA k) m a ∧ Binds K fd ps []
  make : ∀ k F, T.fn (methN k (Str.ofString "__init__")) = some F → ∃ a fd ps, FnG P w K mg base (n - 1) a fd ps (spF T K CA (n - 1) (methN k (Str.ofString "__init__")) F.np) ∧ Cls K (CA k) ∧ Mk K (CA k) a ∧ mg k = some (.ref (CA k)) ∧ Binds K fd ps []
  attr : ∀ k f, T.attr k f = true → NoAttr K (CA k) f
  glob : ∀ x d, T.glob x = some d → ∃ v u, mg x = some u ∧ RelV v u ∧ ∀ H, Rp K H v d
  blt : ∀ f, bltN f = true → mg (Str.ofString f) = none
structure XG (T : Tab) (CA : Str → Addr) (n : Nat) (c : Cfg) (G : Gm) (X : Cx) : Prop where
  N : X.N = G.N
  sc : X.env.scope = G.sc
  cel : ∀ x, G.cel x = true → X.fn x = true
  calm : X.calm = true
  nd : X.N.Nodup
  gd : X.A.guards = some []
  room : Room n X.A
  pass : PassesOwn (model X.prog X.w) X.A X.env X.xe
  ge : GEnv X.prog X.w X.K X.mg X.base T CA n
  call : c.call = callF T n
  glob : c.glob = T.glob
  mkc : c.mkc = fun k => callF T (n - 1) (methN k (Str.ofString "__init__"))
  attr : c.attr = T.attr

def visB (G : Gm) (x : Str) : Bool := (match G.sc.names.lookup x with | some .local => true | some .cell => true | some .free => true | _ => false) && !(x == ("__debug__" : Str)) && !(x == ("__classdict__" : Str))
def glB (G : Gm) (x : Str) : Bool := decide (G.sc.names.lookup x = some .globalImplicit) && !(x == ("__debug__" : Str))
def storB (G : Gm) (i : Nat) (x : Str) : Bool := decide (G.N[i]? = some x) && (match G.sc.names.lookup x with | some .local => true | some .cell => G.cel x | _ => false)
def cstB : PyData → Const → Bool
  | .none, .none => true
  | .bool a, .bool b => a == b
  | .int a, .int b => decide (a = b)
  | .str a, .str b => decide (a = b)
  | _, _ => false
def noI : E → Bool
  | .ite _ _ _ => false
  | _ => true
def keysB (T : Tab) (G : Gm) : List E → List (Option Expr) → Bool
  | [], [] => true
  | .cst x :: ks, some (.Constant k _ _) :: kes => cstB x k && (keyOf x).isSome && keysB T G ks kes
  | .glob y :: ks, some (.Name x _) :: kes => decide (y = x) && glB G x && ((T.glob y).bind keyOf).isSome && keysB T G ks kes
  | _, _ => false
def litB (G : Gm) : E → Expr → Bool
  | .cst x, .Constant k _ _ => cstB x k
  | .neg (.cst (.int i)), .UnaryOp .USub (.Constant (.int j) _ _) _ => decide (i = j)
  | .var i, .Name x _ => decide (G.N[i]? = some x) && visB G x
  | _, _ => false
def pathB (G : Gm) : E → Expr → Bool
  | .var i, x => (match x with | .Name x _ => decide (G.N[i]? = some x) && visB G x | _ => false)
  | .attr a f, x => (match x with | .Attribute a' f' _ => decide (f = f') && attrB a' && pathB G a a' | _ => false)
  | .idx a k, x => (match x with | .Subscript a' k' _ => shp k' && litB G k k' && pathB G a a' | _ => false)
  | _, _ => false
mutual
def ptB (G : Gm) : Pt → Expr → Bool
  | .var i, x => (match x with | .Name y _ => storB G i y | _ => false)
  | .tup ts, x => (match x with | .Tuple es _ _ => ptsB G ts es | _ => false)
def ptsB (G : Gm) : List Pt → List Expr → Bool
  | [], es => es.isEmpty
  | t :: ts, es => (match es with | e :: es => ptB G t e && ptsB G ts es | [] => false)
end
def isTupB : Expr → Bool
  | .Tuple .. => true
  | _ => false
def blkG (G : Gm) (scope : Scope) : Gm := { N := G.N, sc := relS scope G.sc, cel := fun y => decide (scope.names.lookup y = some .cell) }
def ownL (G : Gm) (own : List Nat) : List (Str × Nat) := own.map fun v => ((G.N[v]?).getD ⟨#[]⟩, v)
mutual
def chkE (T : Tab) : E → Gm → Expr → Bool
  | .cst y, G, x => (match x with | .Constant k _ _ => cstB y k | _ => false)
  | .var i, G, x => (match x with | .Name x _ => decide (G.N[i]? = some x) && visB G x | _ => false)
  | .glob y, G, x => (match x with | .Name x _ => decide (y = x) && glB G x && (T.glob y).isSome | _ => false)
  | .bin o a b, G, x => (match x with | .BinOp a' op b' _ => bopOk o op && chkE T a G a' && chkE T b G b' | _ => false)
  | .neg a, G, x => (match x with | .UnaryOp .USub a' _ => chkE T a G a' | _ => false)
  | .not a, G, x => (match x with | .UnaryOp .Not a' _ => noI a && chkE T a G a' | _ => false)
  | .cmp o a b, G, x => (match x with | .Compare a' [op] [b'] _ => copOk o op && shp b' && chkE T a G a' && chkE T b G b' | _ => false)
  | .cmp2 o o2 a b d, G, x => (match x with | .Compare a' [op, op2] [b', d'] _ => copOk o op && copOk o2 op2 && shp d' && chkE T a G a' && chkE T b G b' && chkE T d G d' | _ => false)
  | .and es, G, x => (match x with | .BoolOp .And as _ => !es.isEmpty && es.all noI && chkEs T es G as | _ => false)
  | .or es, G, x => (match x with | .BoolOp .Or as _ => !es.isEmpty && es.all noI && chkEs T es G as | _ => false)
  | .ite t a b, G, x => (match x with | .IfExp t' a' b' _ => noI t && chkE T t G t' && chkE T a G a' && chkE T b G b' | _ => false)
  | .tup es, G, x => (match x with | .Tuple as _ _ => as.all shp && chkEs T es G as | _ => false)
  | .lst es, G, x => (match x with | .List as _ => as.all shp && chkEs T es G as | _ => false)
  | .dic ks vs, G, x => (match x with | .Dict keys as _ => (ks.isEmpty && vs.isEmpty && keys.isEmpty && as.isEmpty) || keysB T G ks keys && !keys.isEmpty && decide (keys.length ≤ 15) && decide (keys.length = as.length) && chkEs T vs G as | _ => false)
  | .idx a i, G, x => (match x with | .Subscript a' i' _ => shp i' && chkE T a G a' && chkE T i G i' | _ => false)
  | .slc a lo hi, G, x => (match x with | .Subscript a' (.Slice lo' hi' none _) _ => chkE T a G a' && chkO T lo G lo' && chkO T hi G hi' | _ => false)
  | .rev a, G, x => (match x with | .Subscript a' (.Slice none none (some (.UnaryOp .USub (.Constant (.int 1) _ _) _)) _) _ => chkE T a G a' | _ => false)
  | .attr a f, G, x => (match x with | .Attribute a' f' _ => decide (f = f') && attrB a' && chkE T a G a' | _ => false)
  | .call f es, G, x => (match x with | .Call (.Name y _) as [] _ => decide (f = y) && glB G y && (T.fn f).isSome && (dots f).isEmpty && as.all shp && chkEs T es G as | _ => false)
  | .new f es, G, x => (match x with | .Call (.Name y _) as [] _ => decide (f = y) && glB G y && (T.fn (methN f (Str.ofString "__init__"))).isSome && as.all shp && chkEs T es G as | _ => false)
  | .meth a m es, G, x => (match x with | .Call (.Attribute a' m' apos) as [] cpos => decide (m = m') && attrB a' && (apos.endLine == cpos.line) && as.all shp && decide (as.length < 28) && chkE T a G a' && chkEs T es G as | _ => false)
  | .blt f es, G, x => (match x with | .Call (.Name y _) as [] _ => decide (Str.ofString f = y) && glB G y && bltC f && !as.isEmpty && as.all shp && chkEs T es G as | _ => false)
  | .bm a m es, G, x => (match x with | .Call (.Attribute a' m' apos) as [] cpos => decide (Str.ofString m = m') && attrB a' && (apos.endLine == cpos.line) && as.all shp && chkE T a G a' && chkEs T es G as &&
        ((decide (m = "join") && !as.isEmpty && decide (as.length < 28)) || (decide (m = "get") && decide (as.length = 2))) | _ => false)
  | .mut a m es, G, x => (match x with | .Call (.Attribute a' m' apos) as [] cpos => decide (Str.ofString m = m') && attrB a' && (apos.endLine == cpos.line) && as.all shp && pathB G a a' && chkEs T es G as &&
        (((decide (m = "append") || decide (m = "extend")) && !as.isEmpty && decide (as.length < 28)) || (decide (m = "pop") && as.isEmpty)) | _ => false)
  | .isi a ts, G, x => (match ts, x with | [t], .Call (.Name y _) [a', .Name z _] [] _ => decide (y = Str.ofString "isinstance") && glB G y && decide (z = Str.ofString (tyN t)) && glB G z && shp a' && chkE T a G a' | _, _ => false)
  | .comp elt tg it cond own, G, x => (match x with | .ListComp elt' [⟨tg', it', ifs, 0⟩] scope _ => blkC G.N G.sc scope (ownL G own) && tg.slots.all (fun i => decide (i ∈ own)) && shp it' && chkI T it G tg' it' && ptB (blkG G scope) tg tg' && chkC T cond (blkG G scope) ifs && chkE T elt (blkG G scope) elt' | _ => false)
  | _, _, _ => false
def chkEs (T : Tab) : List E → Gm → List Expr → Bool
  | [], _, as => as.isEmpty
  | e :: es, G, as => (match as with | a :: as => chkE T e G a && chkEs T es G as | [] => false)
def chkO (T : Tab) : Option E → Gm → Option Expr → Bool
  | none, _, x => x.isNone
  | some e, G, x => (match x with | some a => chkE T e G a | none => false)
def chkC (T : Tab) : Option E → Gm → List Expr → Bool
  | none, _, x => x.isEmpty
  | some e, G, x => (match x with | [a] => noI e && chkE T e G a | _ => false)
def chkI (T : Tab) : E → Gm → Expr → Expr → Bool
  | .rng1 a, G, _, x => (match x with | .Call (.Name y _) [a'] [] _ => decide (y = Str.ofString "range") && glB G y && shp a' && chkE T a G a' | _ => false)
  | .rng2 a b, G, _, x => (match x with | .Call (.Name y _) [a', b'] [] _ => decide (y = Str.ofString "range") && glB G y && shp a' && shp b' && chkE T a G a' && chkE T b G b' | _ => false)
  | .enum a, G, tg, x => (match x with | .Call (.Name y _) [a'] [] _ => isTupB tg && decide (y = Str.ofString "enumerate") && glB G y && shp a' && chkE T a G a' | _ => false)
  | .zip _ _, _, _, _ => false
  | .var i, G, _, x => (match x with | .Name x _ => decide (G.N[i]? = some x) && visB G x | _ => false)
  | .glob y, G, _, x => (match x with | .Name x _ => decide (y = x) && glB G x && (T.glob y).isSome | _ => false)
  | .lst es, G, _, x => (match x with | .List as _ => as.all shp && chkEs T es G as | _ => false)
  | .tup es, G, _, x => (match x with | .Tuple as _ _ => as.all shp && chkEs T es G as | _ => false)
  | .idx a i, G, _, x => (match x with | .Subscript a' i' _ => shp i' && chkE T a G a' && chkE T i G i' | _ => false)
  | .slc a lo hi, G, _, x => (match x with | .Subscript a' (.Slice lo' hi' none _) _ => chkE T a G a' && chkO T lo G lo' && chkO T hi G hi' | _ => false)
  | .rev a, G, _, x => (match x with | .Subscript a' (.Slice none none (some (.UnaryOp .USub (.Constant (.int 1) _ _) _)) _) _ => chkE T a G a' | _ => false)
  | .attr a f, G, _, x => (match x with | .Attribute a' f' _ => decide (f = f') && attrB a' && chkE T a G a' | _ => false)
  | .call f es, G, _, x => (match x with | .Call (.Name y _) as [] _ => decide (f = y) && glB G y && (T.fn f).isSome && (dots f).isEmpty && as.all shp && chkEs T es G as | _ => false)
  | .meth a m es, G, _, x => (match x with | .Call (.Attribute a' m' apos) as [] cpos => decide (m = m') && attrB a' && (apos.endLine == cpos.line) && as.all shp && decide (as.length < 28) && chkE T a G a' && chkEs T es G as | _ => false)
  | .bin o a b, G, _, x => (match x with | .BinOp a' op b' _ => bopOk o op && chkE T a G a' && chkE T b G b' | _ => false)
  | .cst y, G, _, x => (match x with | .Constant k _ _ => cstB y k | _ => false)
  | _, _, _, _ => false
end
end Wh


set_option Elab.async false
set_option linter.all false
set_option maxRecDepth 100000
set_option maxHeartbeats 4000000
namespace Wh
open PySem PySem.Spec PyProof.Rows L2
section
variable {T : Tab} {CA : Str → Addr} {n : Nat} {c : Cfg} {G : Gm} {X : Cx}
theorem XG.vis (g : XG T CA n c G X) {x : Str} (h : visB G x = true) : Vis X.env.scope x ∧ (x == ("__debug__" : Str)) = false ∧ (x == ("__classdict__" : Str)) = false := by
  unfold visB at h
  simp only [Bool.and_eq_true, Bool.not_eq_true'] at h
  obtain ⟨⟨h1, h2⟩, h3⟩ := h
  refine ⟨?_, h2, h3⟩
  unfold Vis
  rw [g.sc]
  split at h1 <;> first | (rename_i e; exact .inl e) | (rename_i e; exact .inr (.inl e)) | (rename_i e; exact .inr (.inr e)) | cases h1
theorem XG.gl (g : XG T CA n c G X) {x : Str} (h : glB G x = true) : Gl X x ∧ (x == ("__debug__" : Str)) = false := by
  unfold glB at h
  simp only [Bool.and_eq_true, Bool.not_eq_true', decide_eq_true_eq] at h
  refine ⟨?_, h.2⟩
  show X.env.scope.names.lookup x = _
  rw [g.sc]; exact h.1
theorem XG.var (g : XG T CA n c G X) {i : Nat} {x : Str} {p : Pos} (h : (decide (G.N[i]? = some x) && visB G x) = true) : PE X (.Name x p) (tVar i) := by
  simp only [Bool.and_eq_true, decide_eq_true_eq] at h
  obtain ⟨v, d1, d2⟩ := g.vis h.2
  exact pe_var (by rw [g.N]; exact h.1) v d1 d2
theorem XG.un (g : XG T CA n c G X) : X.A.units + 110 < cLine := by have := g.room.un; omega
theorem cst_ok {x : PyData} {k : Const} {j : Nat} {p : Pos} (h : cstB x k = true) : ∃ v, PE X (.Constant k j p) (tC v) ∧ (∀ H, Rp X.K H v x) ∧ ∀ kk, keyOf x = some kk → v = kV kk := by
  unfold cstB at h
  split at h
  · exact ⟨_, pe_non, fun _ => .non, fun kk e => by cases e⟩
  · rw [beq_iff_eq] at h; subst h; exact ⟨_, pe_bl, fun _ => .bl _, fun kk e => by cases e⟩
  · rw [decide_eq_true_eq] at h; subst h; exact ⟨_, pe_int, fun _ => .int _, fun kk e => by cases e; rfl⟩
  · rw [decide_eq_true_eq] at h; subst h; exact ⟨_, pe_str, fun _ => .str _, fun kk e => by cases e; rfl⟩
  · cases h
theorem keys_ok (g : XG T CA n c G X) : ∀ (ks : List E) (keys : List (Option Expr)), keysB T G ks keys = true → ∃ kes, keys = kes.map some ∧ KeysC X c.glob ks kes
  | [], keys, h => by
    cases keys with
    | nil => exact ⟨[], rfl, .nil⟩
    | cons _ _ => simp [keysB] at h
  | k :: ks, keys, h => by
    cases k with
    | cst x =>
      cases keys with
      | nil => simp [keysB] at h
      | cons o keys =>
        cases o with
        | none => simp [keysB] at h
        | some y =>
          cases y with
          | Constant k j p =>
            simp only [keysB, Bool.and_eq_true] at h
            obtain ⟨⟨h1, h2⟩, h3⟩ := h
            obtain ⟨kes, e, r⟩ := keys_ok g ks keys h3
            obtain ⟨kk, hk⟩ := Option.isSome_iff_exists.mp h2
            obtain ⟨v, pv, _, ev⟩ := cst_ok (X := X) (j := j) (p := p) h1
            rw [ev kk hk] at pv
            exact ⟨.Constant k j p :: kes, by rw [e]; rfl, .cons (fun r => by simp [cstKeys, hk]) pv r⟩
          | _ => simp [keysB] at h
    | glob y =>
      cases keys with
      | nil => simp [keysB] at h
      | cons o keys =>
        cases o with
        | none => simp [keysB] at h
        | some z =>
          cases z with
          | Name x p =>
            simp only [keysB, Bool.and_eq_true, decide_eq_true_eq] at h
            obtain ⟨⟨⟨rfl, h1⟩, h2⟩, h3⟩ := h
            obtain ⟨kes, e, r⟩ := keys_ok g ks keys h3
            obtain ⟨kk, hk⟩ := Option.isSome_iff_exists.mp h2
            obtain ⟨d, hd, hk⟩ := Option.bind_eq_some_iff.mp hk
            obtain ⟨v, u, hm, rv, rp⟩ := g.ge.glob _ d hd
            have pv := pe_glob (pos := p) (g.gl h1).1 hm rv (g.gl h1).2
            have ev : v = kV kk := by
              have := rp fun _ => none
              cases this <;> simp only [keyOf] at hk <;> cases hk <;> rfl
            rw [ev] at pv
            exact ⟨.Name y p :: kes, by rw [e]; rfl, .cons (fun r => by simp [cstKeys, g.glob, hd, hk]) pv r⟩
          | _ => simp [keysB] at h
    | _ => cases keys <;> simp [keysB] at h
theorem lit_ok (g : XG T CA n c G X) {e : E} {x : Expr} (h : litB G e x = true) : PE X x (tL X.K CA e) := by
  unfold litB at h
  split at h
  · obtain ⟨v, pv, rv, _⟩ := cst_ok (X := X) h
    exact lit_cst pv rv
  · rw [decide_eq_true_eq] at h; subst h; exact lit_neg
  · exact lit_var (g.var h)
  · cases h
theorem path_ok (g : XG T CA n c G X) : ∀ (e : E) (x : Expr), pathB G e x = true → PE X x (tP X.K CA e)
  | .var i, x, h => by
    simp only [pathB] at h
    split at h
    · exact path_var (g.var h)
    · cases h
  | .attr a f, x, h => by
    simp only [pathB] at h
    split at h
    · rename_i a' f' p
      simp only [Bool.and_eq_true, decide_eq_true_eq] at h
      obtain ⟨⟨rfl, h2⟩, h3⟩ := h
      exact path_attr (attr_ok h2 _ _ _) (path_ok g a a' h3)
    · cases h
  | .idx a k, x, h => by
    simp only [pathB] at h
    split at h
    · rename_i a' k' p
      simp only [Bool.and_eq_true] at h
      obtain ⟨⟨h1, h2⟩, h3⟩ := h
      exact path_idx (by have := g.un; omega) (shp_ix h1) (path_ok g a a' h3) (lit_ok g h2)
    · cases h
  | .cst _, x, h => by simp [pathB] at h
  | .glob _, x, h => by simp [pathB] at h
  | .bin _ _ _, x, h => by simp [pathB] at h
  | .neg _, x, h => by simp [pathB] at h
  | .cmp _ _ _, x, h => by simp [pathB] at h
  | .cmp2 _ _ _ _ _, x, h => by simp [pathB] at h
  | .and _, x, h => by simp [pathB] at h
  | .or _, x, h => by simp [pathB] at h
  | .not _, x, h => by simp [pathB] at h
  | .ite _ _ _, x, h => by simp [pathB] at h
  | .tup _, x, h => by simp [pathB] at h
  | .lst _, x, h => by simp [pathB] at h
  | .dic _ _, x, h => by simp [pathB] at h
  | .slc _ _ _, x, h => by simp [pathB] at h
  | .rev _, x, h => by simp [pathB] at h
  | .call _ _, x, h => by simp [pathB] at h
  | .new _ _, x, h => by simp [pathB] at h
  | .meth _ _ _, x, h => by simp [pathB] at h
  | .blt _ _, x, h => by simp [pathB] at h
  | .bm _ _ _, x, h => by simp [pathB] at h
  | .mut _ _ _, x, h => by simp [pathB] at h
  | .isi _ _, x, h => by simp [pathB] at h
  | .comp _ _ _ _ _, x, h => by simp [pathB] at h
  | .rng1 _, x, h => by simp [pathB] at h
  | .rng2 _ _, x, h => by simp [pathB] at h
  | .enum _, x, h => by simp [pathB] at h
  | .zip _ _, x, h => by simp [pathB] at h
theorem stor_ok (g : XG T CA n c G X) {i : Nat} {x : Str} (h : storB G i x = true) : X.N[i]? = some x ∧ Loc X.env.scope x ∧ (X.fn x = true ∨ X.env.scope.names.lookup x = some .local) := by
  unfold storB at h
  simp only [Bool.and_eq_true, decide_eq_true_eq] at h
  obtain ⟨h1, h2⟩ := h
  rw [g.N, g.sc]
  split at h2
  · rename_i e; exact ⟨h1, .inl e, .inr e⟩
  · rename_i e; exact ⟨h1, .inr e, .inl (g.cel x h2)⟩
  · cases h2
mutual
theorem pt_ok (g : XG T CA n c G X) : ∀ (t : Pt) (x : Expr), ptB G t x = true → PG X x (tG X.K CA t)
  | .var i, x, h => by
    simp only [ptB] at h
    split at h
    · obtain ⟨h1, h2, h3⟩ := stor_ok g h
      exact snd_gname (pg_name g.nd h1 h2 h3) (List.getElem?_eq_some_iff.mp h1).1
    · cases h
  | .tup ts, x, h => by
    simp only [ptB] at h
    split at h
    · obtain ⟨q, l1, l2, l3⟩ := pts_ok g ts _ h
      exact snd_gtup g.calm q l1 l2 l3
    · cases h
theorem pts_ok (g : XG T CA n c G X) : ∀ (ts : List Pt) (es : List Expr), ptsB G ts es = true → PGs X es (tGs X.K CA ts) ∧ es.length = ts.length ∧ (assignEach es X.env).length = es.length ∧ (assignEach es X.env).findIdx? (·.1) = none
  | [], es, h => by
    simp only [ptsB, List.isEmpty_iff] at h
    subst h
    exact ⟨snd_gnil, rfl, rfl, rfl⟩
  | t :: ts, es, h => by
    simp only [ptsB] at h
    split at h
    · rename_i e es
      rw [Bool.and_eq_true] at h
      obtain ⟨q, l1, l2, l3⟩ := pts_ok g ts _ h.2
      have he : ∀ es, assignEach (e :: es) X.env = (false, assign e X.env) :: assignEach es X.env := by
        intro es
        have h1 := h.1
        cases t with
        | var i =>
          simp only [ptB] at h1
          split at h1
          · rfl
          · cases h1
        | tup ts =>
          simp only [ptB] at h1
          split at h1
          · rfl
          · cases h1
      refine ⟨snd_gcons (pt_ok g t e h.1) q (by rw [he]; rfl), by simp [l1], by rw [he]; simp [l2], by rw [he]; simp [List.findIdx?_cons, l3]⟩
    · cases h
end
theorem blk_ok (g : XG T CA n c G X) (scope : Scope) (s : Shared) (H : Hp) (C : Addr) (cl : List (Str × Addr)) (fp : List Addr) : XG T CA n c (blkG G scope) (X.blk s H scope (compEnvC scope cl C X.env) fp) := by
  refine ⟨g.N, ?_, fun x h => ?_, g.calm, g.nd, g.gd, g.room, PassesOwn.never, g.ge, g.call, g.glob, g.mkc, g.attr⟩
  · show relabel scope X.env = relS scope G.sc
    rw [← g.sc]
    rfl
  · have h : decide (scope.names.lookup x = some .cell) = true := h
    show (scope.names.lookup x == some .cell) = true
    rw [beq_iff_eq]
    simpa using h
theorem own_back (G : Gm) (own : List Nat) : (ownL G own).map (·.2) = own := by
  unfold ownL
  rw [List.map_map]
  exact List.map_id'' (fun _ => rfl) _
theorem ns_all {as : List Expr} (h : as.all shp = true) : ∀ a ∈ as, NS a := fun a ha => shp_ns (List.all_eq_true.mp h a ha)
end
end Wh


set_option Elab.async false
set_option linter.all false
set_option maxRecDepth 100000
set_option maxHeartbeats 4000000
namespace Wh
open PySem PySem.Spec PyProof.Rows L2
section
variable {T : Tab} {CA : Str → Addr} {n : Nat} {c : Cfg}
theorem chkI_E {e : E} {G : Gm} {tg x : Expr} (hb : isItB e = false) (h : chkI T e G tg x = true) : chkE T e G x = true := by
  cases e <;> first | (cases hb; done) | (simp only [chkI] at h; cases h; done) | (simp only [chkI] at h; simp only [chkE]; exact h)
theorem len_callF {T : Tab} {n : Nat} {f : Str} {F : Fn} (hF : T.fn f = some F) : ∀ fl ds r, callF T n f fl ds = some r → ds.length = F.np := by
  intro fl ds r h
  cases n with
  | zero => simp [callF] at h
  | succ n =>
    obtain ⟨r, ds'⟩ := r
    exact (callF_succ hF h).1
theorem tE_mono {X : Cx} {e : E} {σ : L2.St} {H : Hp} {Q Q' : VK} (h : tE X.K CA c e σ H Q) (q : ∀ v H1, Q v H1 → Q' v H1) : tE X.K CA c e σ H Q' := by
  obtain ⟨lk, ε, F, d, ε', rel, he, w⟩ := h
  exact ⟨lk, ε, F, d, ε', rel, he, fun v H1 F1 T1 r1 p1 v1 => q _ _ (w v H1 F1 T1 r1 p1 v1)⟩
theorem fn_callF {T : Tab} {n : Nat} : ∀ f fl ds r, callF T n f fl ds = some r → ∃ F, T.fn f = some F ∧ ds.length = F.np := by
  intro f fl ds r hr
  cases hF : T.fn f with
  | none =>
    cases n with
    | zero => simp [callF] at hr
    | succ n => simp [callF_s, callW, hF] at hr
  | some F => exact ⟨F, rfl, len_callF hF fl ds r hr⟩
structure Both (T : Tab) (CA : Str → Addr) (n : Nat) (c : Cfg) (e : E) (G : Gm) (x : Expr) : Prop where
  pe : ∀ {X : Cx}, XG T CA n c G X → PE X x (tE X.K CA c e)
  pt : noI e = true → ∀ {X : Cx}, XG T CA n c G X → PT X x (tT X.K CA c e)
theorem Both.tv {e : E} {G : Gm} {x : Expr} (ht : tvB x = true) (h : ∀ {X : Cx}, XG T CA n c G X → PE X x (tE X.K CA c e)) : Both T CA n c e G x := ⟨h, fun _ {X} g => snd_tval (h g) (tv_ok ht _)⟩
theorem and3 {a b d : Bool} (h : (a && b && d) = true) : a = true ∧ b = true ∧ d = true := by
  simp only [Bool.and_eq_true] at h
  exact ⟨h.1.1, h.1.2, h.2⟩
theorem allE_of {X : Cx} {es : List E} {as : List Expr} (h : AllE X CA c es as) : AllE X CA c es as := h
mutual
theorem snd : ∀ (e : E) (G : Gm) (x : Expr), chkE T e G x = true → Both T CA n c e G x
  | .cst y, G, x, h => by
    simp only [chkE] at h
    split at h
    · exact .tv rfl fun {X} g => by
        obtain ⟨v, pv, rv, _⟩ := cst_ok (X := X) h
        exact snd_cst pv rv
    · cases h
  | .var i, G, x, h => by
    simp only [chkE] at h
    split at h
    · exact .tv rfl fun g => snd_var (g.var h)
    · cases h
  | .glob y, G, x, h => by
    simp only [chkE] at h
    split at h
    · rename_i z p
      simp only [Bool.and_eq_true, decide_eq_true_eq] at h
      obtain ⟨⟨rfl, h2⟩, h3⟩ := h
      refine .tv rfl fun {X} g => ?_
      obtain ⟨d, hd⟩ := Option.isSome_iff_exists.mp h3
      obtain ⟨v, u, hm, r, rp⟩ := g.ge.glob _ d hd
      exact snd_glob (pe_glob (g.gl h2).1 hm r (g.gl h2).2) (by rw [g.glob]; exact hd) rp
    · cases h
  | .bin o a b, G, x, h => by
    simp only [chkE] at h
    split at h
    · obtain ⟨h1, h2, h3⟩ := and3 h
      exact .tv rfl fun g => snd_binop h1 ((snd a G _ h2).pe g) ((snd b G _ h3).pe g)
    · cases h
  | .neg a, G, x, h => by
    simp only [chkE] at h
    split at h
    · exact .tv rfl fun g => snd_neg ((snd a G _ h).pe g)
    · cases h
  | .not a, G, x, h => by
    simp only [chkE] at h
    split at h
    · rw [Bool.and_eq_true] at h
      exact ⟨fun g => snd_not ((snd a G _ h.2).pe g), fun _ {X} g => snd_tnot ((snd a G _ h.2).pt h.1 g)⟩
    · cases h
  | .cmp o a b, G, x, h => by
    simp only [chkE] at h
    split at h
    · simp only [Bool.and_eq_true] at h
      obtain ⟨⟨⟨h1, h2⟩, h3⟩, h4⟩ := h
      exact ⟨fun g => snd_cmp h1 (by have := g.un; omega) (shp_bm h2 _) ((snd a G _ h3).pe g) ((snd b G _ h4).pe g), fun _ {X} g => snd_tcmp h1 (by have := g.un; omega) (shp_bm h2 _) ((snd a G _ h3).pe g) ((snd b G _ h4).pe g)⟩
    · cases h
  | .cmp2 o o2 a b d, G, x, h => by
    simp only [chkE] at h
    split at h
    · simp only [Bool.and_eq_true] at h
      obtain ⟨⟨⟨⟨⟨h1, h1'⟩, h2⟩, h3⟩, h4⟩, h5⟩ := h
      exact ⟨fun g => snd_cmp2 h1 h1' (by have := g.un; omega) (shp_bm h2 _) ((snd a G _ h3).pe g) ((snd b G _ h4).pe g) ((snd d G _ h5).pe g), fun _ {X} g => snd_tcmp2 h1 h1' (by have := g.un; omega) (shp_bm h2 _) ((snd a G _ h3).pe g) ((snd b G _ h4).pe g) ((snd d G _ h5).pe g)⟩
    · cases h
  | .and es, G, x, h => by
    simp only [chkE] at h
    split at h
    · obtain ⟨h1, h2, h3⟩ := and3 h
      have h0 : es ≠ [] := by intro z; rw [z] at h1; cases h1
      exact ⟨fun g => snd_and (sndAll es G _ h3 g).1 h0, fun _ {X} g => (snd_tand ((sndAll es G _ h3 g).2 h2) h0).pt⟩
    · cases h
  | .or es, G, x, h => by
    simp only [chkE] at h
    split at h
    · obtain ⟨h1, h2, h3⟩ := and3 h
      have h0 : es ≠ [] := by intro z; rw [z] at h1; cases h1
      exact ⟨fun g => snd_or (sndAll es G _ h3 g).1 h0, fun _ {X} g => (snd_tor ((sndAll es G _ h3 g).2 h2) h0).pt⟩
    · cases h
  | .ite t a b, G, x, h => by
    simp only [chkE] at h
    split at h
    · simp only [Bool.and_eq_true] at h
      obtain ⟨⟨⟨h1, h2⟩, h3⟩, h4⟩ := h
      exact ⟨fun g => snd_ite ((snd t G _ h2).pt h1 g) ((snd a G _ h3).pe g) ((snd b G _ h4).pe g), fun z => nomatch z⟩
    · cases h
  | .tup es, G, x, h => by
    simp only [chkE] at h
    split at h
    · rw [Bool.and_eq_true] at h
      exact .tv rfl fun g => snd_tup (sndAll es G _ h.2 g).1 (ns_all h.1)
    · cases h
  | .lst es, G, x, h => by
    simp only [chkE] at h
    split at h
    · rw [Bool.and_eq_true] at h
      exact .tv rfl fun g => snd_lst (sndAll es G _ h.2 g).1 (ns_all h.1)
    · cases h
  | .dic ks vs, G, x, h => by
    simp only [chkE] at h
    split at h
    · simp only [Bool.or_eq_true, Bool.and_eq_true, decide_eq_true_eq, List.isEmpty_iff] at h
      rcases h with ⟨⟨⟨rfl, rfl⟩, rfl⟩, rfl⟩ | h
      · exact .tv rfl fun {X} g => snd_dic0
      obtain ⟨⟨⟨⟨h1, h2⟩, h3⟩, h4⟩, h5⟩ := h
      refine .tv rfl fun {X} g => ?_
      obtain ⟨kes, rfl, hk⟩ := keys_ok g _ _ h1
      exact snd_dic hk (sndAll vs G _ h5 g).1 (by rintro rfl; cases h2) (by simpa using h3) (by simpa using h4)
    · cases h
  | .idx a i, G, x, h => by
    simp only [chkE] at h
    split at h
    · obtain ⟨h1, h2, h3⟩ := and3 h
      exact .tv rfl fun g => snd_idx (by have := g.un; omega) (shp_ix h1) ((snd a G _ h2).pe g) ((snd i G _ h3).pe g)
    · cases h
  | .slc a lo hi, G, x, h => by
    simp only [chkE] at h
    split at h
    · obtain ⟨h1, h2, h3⟩ := and3 h
      exact .tv rfl fun g => snd_slc ((snd a G _ h1).pe g) (sndO lo G _ h2 g) (sndO hi G _ h3 g)
    · cases h
  | .rev a, G, x, h => by
    simp only [chkE] at h
    split at h
    · exact .tv rfl fun g => snd_revL ((snd a G _ h).pe g)
    · cases h
  | .attr a f, G, x, h => by
    simp only [chkE] at h
    split at h
    · obtain ⟨h1, h2, h3⟩ := and3 h
      rw [decide_eq_true_eq] at h1
      subst h1
      exact .tv rfl fun g => snd_attr (attr_ok h2 _ _ _) ((snd a G _ h3).pe g)
    · cases h
  | .call f es, G, x, h => by
    simp only [chkE] at h
    split at h
    · rename_i y p as pos
      simp only [Bool.and_eq_true, decide_eq_true_eq] at h
      obtain ⟨⟨⟨⟨⟨rfl, h2⟩, h3⟩, hdt⟩, h4⟩, h5⟩ := h
      refine .tv rfl fun {X} g => ?_
      obtain ⟨F, hF⟩ := Option.isSome_iff_exists.mp h3
      obtain ⟨a, fd, ps, hf, hm, hk, hb⟩ := g.ge.call f F (List.isEmpty_iff.mp hdt) hF
      have al := (sndAll es G _ h5 g).1
      have ar := snd_args al (ns_all h4)
      refine snd_call (E0 := fun _ _ _ => False) g.call (len_callF hF) ?_
      cases as with
      | nil =>
        refine pe_mono (pe_callG0 (E0 := fun _ _ _ => False) hf g.room g.gd (g.gl h2).1 hm hk hb (g.gl h2).2) fun σ H Q hw => ?_
        cases al
        obtain ⟨lk, ε, F, ds, ε', rel, he, q⟩ := hw
        simp only [evs] at he
        cases he
        exact q [] H F [] rel Po.refl .nil
      | cons a1 as => exact pe_callG hf g.room g.gd (g.gl h2).1 hm hk hb ar (g.gl h2).2 (ns_all h4 a1 List.mem_cons_self as X.env) (star_any (fun b hb => ns_all h4 b (List.mem_cons_of_mem _ hb)) _ _)
    · cases h
  | .blt f es, G, x, h => by
    simp only [chkE] at h
    split at h
    · simp only [Bool.and_eq_true, decide_eq_true_eq] at h
      obtain ⟨⟨⟨⟨⟨rfl, h2⟩, h3⟩, h4⟩, h5⟩, h6⟩ := h
      refine .tv rfl fun {X} g => ?_
      have hn : bltN f = true := by
        simp only [bltC, bltN, List.contains_iff_mem, List.mem_cons, List.not_mem_nil, or_false] at h3 ⊢
        rcases h3 with h | h | h | h | h | h | h | h | h <;> simp [h]
      exact snd_blt g.un g.gd g.calm h3 (g.gl h2).1 (g.ge.blt f hn) (sndAll es G _ h6 g).1 (ns_all h5) (by rintro rfl; cases h4)
    · cases h
  | .bm a m es, G, x, h => by
    simp only [chkE] at h
    split at h
    · rename_i a' m' apos as cpos
      simp only [Bool.and_eq_true, decide_eq_true_eq, Bool.or_eq_true] at h
      obtain ⟨⟨⟨⟨⟨⟨rfl, h2⟩, h3⟩, h4⟩, h5⟩, h6⟩, h7⟩ := h
      refine .tv rfl fun {X} g => ?_
      rcases h7 with ⟨⟨rfl, h8⟩, h9⟩ | ⟨rfl, h8⟩
      · exact snd_join ((snd a G _ h5).pe g) (sndAll es G _ h6 g).1 (ns_all h4) (by rintro rfl; cases h8) h9 (attr_ok h2 _ _ _) h3
      · match as, h8, (sndAll es G _ h6 g).1, h4 with
        | [e1, e2], _, .cons p1 (.cons p2 .nil), h4 =>
          exact snd_get (by have := g.un; omega) ((snd a G _ h5).pe g) p1 p2 (ns_all h4 e1 (by simp)) (ns_all h4 e2 (by simp)) (attr_ok h2 _ _ _) h3
    · cases h
  | .mut a m es, G, x, h => by
    simp only [chkE] at h
    split at h
    · rename_i a' m' apos as cpos
      simp only [Bool.and_eq_true, decide_eq_true_eq, Bool.or_eq_true] at h
      obtain ⟨⟨⟨⟨⟨⟨rfl, h2⟩, h3⟩, h4⟩, h5⟩, h6⟩, h7⟩ := h
      refine .tv rfl fun {X} g => ?_
      have ap := attr_ok h2
      rcases h7 with ⟨⟨h8 | h8, h9⟩, h10⟩ | ⟨rfl, h8⟩
      · subst h8
        exact snd_append (path_ok g a a' h5) (sndAll es G _ h6 g).1 (ns_all h4) (by rintro rfl; cases h9) h10 (ap _ _ _) h3
      · subst h8
        exact snd_extend (path_ok g a a' h5) (sndAll es G _ h6 g).1 (ns_all h4) (by rintro rfl; cases h9) h10 (ap _ _ _) h3
      · rw [List.isEmpty_iff] at h8
        subst h8
        have al := (sndAll es G _ h6 g).1
        cases al
        exact snd_pop (path_ok g a a' h5) (ap _ _ _) h3
    · cases h
  | .isi a ts, G, x, h => by
    simp only [chkE] at h
    split at h
    · simp only [Bool.and_eq_true, decide_eq_true_eq] at h
      obtain ⟨⟨⟨⟨⟨rfl, h2⟩, rfl⟩, h4⟩, h5⟩, h6⟩ := h
      rename_i t _ a' _ _
      refine .tv rfl fun {X} g => ?_
      exact snd_isi (g.gl h2).1 (g.ge.blt "isinstance" (by decide)) (g.gl h4).1 (g.ge.blt (tyN t) (by cases t <;> decide)) ((snd a G _ h6).pe g) (shp_ns h5)
    · cases h
  | .comp elt tg it cond own, G, x, h => by
    simp only [chkE] at h
    split at h
    · rename_i elt' tg' it' ifs scope pos
      simp only [Bool.and_eq_true] at h
      obtain ⟨⟨⟨⟨⟨⟨h1, h2⟩, h3⟩, h4⟩, h5⟩, h6⟩, h7⟩ := h
      refine .tv rfl fun {X} g => ?_
      have ok : BlkOk X.N X.env.scope scope (ownL G own) := by rw [g.N, g.sc]; exact blkOk_by h1
      have pe := pe_lc (pos := pos) (g := tG X.K CA tg) (tt := tCd X.K CA c cond) (te := tEz X.K CA c elt) g.calm g.nd (sndI it G tg' it' h4 g) ok (fun s H C cl fp => pt_ok (blk_ok g scope s H C cl fp) tg tg' h5) (fun s H C cl fp => sndC cond _ _ h6 (blk_ok g scope s H C cl fp))
        (fun s H C cl fp => pe_fz ((snd elt _ _ h7).pe (blk_ok g scope s H C cl fp))) (shp_fs h3 _)
      rw [own_back] at pe
      exact pe_mono pe fun σ H Q hw => lc_w (fun i hi => by simpa using List.all_eq_true.mp h2 i hi) hw
    · cases h
  | .new k es, G, x, h => by
    simp only [chkE] at h
    split at h
    · rename_i y p as pos
      simp only [Bool.and_eq_true, decide_eq_true_eq] at h
      obtain ⟨⟨⟨⟨rfl, h2⟩, h3⟩, h4⟩, h5⟩ := h
      refine .tv rfl fun {X} g => ?_
      obtain ⟨F, hF⟩ := Option.isSome_iff_exists.mp h3
      obtain ⟨a, fd, ps, hf, hcl, hM, hm, hb⟩ := g.ge.make k F hF
      by_cases hn : n = 0
      · refine ⟨fun pins s σ H Q I ⟨lk, ε, F, d, ε', rel, he, q⟩ => ?_⟩
        simp [ev, g.mkc, hn, callF] at he
      · have hroom : Room (n - 1 + 1) X.A := by rw [Nat.sub_add_cancel (by omega)]; exact g.room
        have al := (sndAll es G _ h5 g).1
        have ar := snd_args al (ns_all h4)
        refine snd_new (n := n - 1) (E0 := fun _ _ _ => False) (by rw [g.mkc]) (len_callF hF) hcl ?_
        cases as with
        | nil =>
          refine pe_mono (pe_makeG0 (E0 := fun _ _ _ => False) hM hf hroom g.gd (g.gl h2).1 hm hb (g.gl h2).2) fun σ H Q hw => ?_
          cases al
          obtain ⟨lk, ε, F, ds, ε', rel, he, q⟩ := hw
          simp only [evs] at he
          cases he
          exact q [] H F [] rel Po.refl .nil
        | cons a1 as => exact pe_makeG hM hf hroom g.gd (g.gl h2).1 hm hb ar (g.gl h2).2 (ns_all h4)
    · cases h
  | .meth a m es, G, x, h => by
    simp only [chkE] at h
    split at h
    · rename_i a' m' apos as cpos
      simp only [Bool.and_eq_true, decide_eq_true_eq] at h
      obtain ⟨⟨⟨⟨⟨⟨rfl, h2⟩, h3⟩, h4⟩, h5⟩, h6⟩, h7⟩ := h
      refine .tv rfl fun {X} g => ?_
      have al := (sndAll es G _ h7 g).1
      have ar := snd_args al (ns_all h4)
      have pa := (snd a G _ h6).pe g
      have hb := attr_ok h2 m X.env (eval a' X.env)
      refine snd_meth (E0 := fun _ _ _ => False) g.call (fun k F hF => by
        obtain ⟨f, fd, ps, q1, q2, q3, q4⟩ := g.ge.meth k m F hF
        exact ⟨f, fd, ps, q1, q3, q4⟩) fn_callF ?_
      cases as with
      | nil =>
        refine pe_mono (pe_methG0 (E0 := fun _ _ _ => False) pa g.room g.gd hb h3) fun σ H Q hw => ?_
        cases al
        refine tE_mono hw fun x H1 ⟨a1, C, dx, fs, f, fd, ps, sp, q1, q2, q3, q4, q5, q6, q7, q8⟩ => ⟨a1, C, dx, fs, f, fd, ps, sp, q1, q2, q3, q4, q5, q6, q7, ?_⟩
        obtain ⟨lk, ε, F, ds, ε', rel, he, q⟩ := q8
        simp only [evs] at he
        cases he
        exact q [] H1 F [] rel Po.refl .nil
      | cons a1 as => exact pe_methG pa g.room g.gd ar hb (ns_all h4) h5 h3
    · cases h
  | .rng1 _, _, _, h => by simp [chkE] at h
  | .rng2 _ _, _, _, h => by simp [chkE] at h
  | .enum _, _, _, h => by simp [chkE] at h
  | .zip _ _, _, _, h => by simp [chkE] at h
termination_by e => (sizeOf e, 0)
theorem sndAll : ∀ (es : List E) (G : Gm) (as : List Expr), chkEs T es G as = true → ∀ {X : Cx}, XG T CA n c G X → AllE X CA c es as ∧ (es.all noI = true → AllT X CA c es as)
  | [], G, as, h => by
    simp only [chkEs, List.isEmpty_iff] at h
    subst h
    exact fun _ => ⟨.nil, fun _ => .nil⟩
  | e :: es, G, as, h => by
    simp only [chkEs] at h
    split at h
    · rw [Bool.and_eq_true] at h
      intro g
      have p := (snd e G _ h.1).pe g
      have t := fun q => (snd e G _ h.1).pt q g
      obtain ⟨r1, r2⟩ := sndAll es G _ h.2 g
      refine ⟨.cons p r1, fun ha => ?_⟩
      simp only [List.all_cons, Bool.and_eq_true] at ha
      exact .cons (t ha.1) (r2 ha.2)
    · cases h
termination_by es => (sizeOf es, 0)
theorem sndO : ∀ (o : Option E) (G : Gm) (x : Option Expr), chkO T o G x = true → ∀ {X : Cx}, XG T CA n c G X → PO X x (tO X.K CA c o)
  | none, G, x, h => by
    simp only [chkO, Option.isNone_iff_eq_none] at h
    subst h
    exact fun _ => snd_onone
  | some e, G, x, h => by
    simp only [chkO] at h
    split at h
    · exact fun g => snd_osome ((snd e G _ h).pe g)
    · cases h
termination_by o => (sizeOf o, 0)
theorem sndC : ∀ (o : Option E) (G : Gm) (x : List Expr), chkC T o G x = true → ∀ {X : Cx}, XG T CA n c G X → PTs X x (tCd X.K CA c o)
  | none, G, x, h => by
    simp only [chkC, List.isEmpty_iff] at h
    subst h
    exact fun _ => cd_none
  | some e, G, x, h => by
    simp only [chkC] at h
    split at h
    · rw [Bool.and_eq_true] at h
      exact fun g => cd_some ((snd e G _ h.2).pt h.1 g)
    · cases h
termination_by o => (sizeOf o, 0)
theorem sndI : ∀ (e : E) (G : Gm) (tg x : Expr), chkI T e G tg x = true → ∀ {X : Cx}, XG T CA n c G X → PI X tg x (tI X.K CA c e)
  | .rng1 a, G, tg, x, h => by
    simp only [chkI] at h
    split at h
    · simp only [Bool.and_eq_true, decide_eq_true_eq] at h
      obtain ⟨⟨⟨rfl, h2⟩, h3⟩, h4⟩ := h
      exact fun g => snd_rng1 (g.gl h2).1 (g.ge.blt "range" (by decide)) ((snd a G _ h4).pe g) (shp_ns h3)
    · cases h
  | .rng2 a b, G, tg, x, h => by
    simp only [chkI] at h
    split at h
    · simp only [Bool.and_eq_true, decide_eq_true_eq] at h
      obtain ⟨⟨⟨⟨⟨rfl, h2⟩, h3⟩, h4⟩, h5⟩, h6⟩ := h
      exact fun g => snd_rng2 (g.gl h2).1 (g.ge.blt "range" (by decide)) ((snd a G _ h5).pe g) ((snd b G _ h6).pe g) (shp_ns h3) (shp_ns h4)
    · cases h
  | .enum a, G, tg, x, h => by
    simp only [chkI] at h
    split at h
    · simp only [Bool.and_eq_true, decide_eq_true_eq] at h
      obtain ⟨⟨⟨⟨h1, rfl⟩, h2⟩, h3⟩, h4⟩ := h
      cases tg <;> first | (cases h1; done) | exact fun g => snd_enum (g.gl h2).1 (g.ge.blt "enumerate" (by decide)) ((snd a G _ h4).pe g) (shp_ns h3)
    · cases h
  | .zip _ _, G, tg, x, h => by simp [chkI] at h
  | .cst a, G, tg, x, h => fun g => snd_itv rfl ((snd _ G x (chkI_E rfl h)).pe g)
  | .var a, G, tg, x, h => fun g => snd_itv rfl ((snd _ G x (chkI_E rfl h)).pe g)
  | .glob a, G, tg, x, h => fun g => snd_itv rfl ((snd _ G x (chkI_E rfl h)).pe g)
  | .bin o a b, G, tg, x, h => fun g => snd_itv rfl ((snd _ G x (chkI_E rfl h)).pe g)
  | .lst es, G, tg, x, h => fun g => snd_itv rfl ((snd _ G x (chkI_E rfl h)).pe g)
  | .tup es, G, tg, x, h => fun g => snd_itv rfl ((snd _ G x (chkI_E rfl h)).pe g)
  | .idx a i, G, tg, x, h => fun g => snd_itv rfl ((snd _ G x (chkI_E rfl h)).pe g)
  | .slc a lo hi, G, tg, x, h => fun g => snd_itv rfl ((snd _ G x (chkI_E rfl h)).pe g)
  | .rev a, G, tg, x, h => fun g => snd_itv rfl ((snd _ G x (chkI_E rfl h)).pe g)
  | .attr a f, G, tg, x, h => fun g => snd_itv rfl ((snd _ G x (chkI_E rfl h)).pe g)
  | .call f es, G, tg, x, h => fun g => snd_itv rfl ((snd _ G x (chkI_E rfl h)).pe g)
  | .meth a m es, G, tg, x, h => fun g => snd_itv rfl ((snd _ G x (chkI_E rfl h)).pe g)
  | .neg _, G, tg, x, h => by simp [chkI] at h
  | .cmp _ _ _, G, tg, x, h => by simp [chkI] at h
  | .cmp2 _ _ _ _ _, G, tg, x, h => by simp [chkI] at h
  | .and _, G, tg, x, h => by simp [chkI] at h
  | .or _, G, tg, x, h => by simp [chkI] at h
  | .not _, G, tg, x, h => by simp [chkI] at h
  | .ite _ _ _, G, tg, x, h => by simp [chkI] at h
  | .dic _ _, G, tg, x, h => by simp [chkI] at h
  | .new _ _, G, tg, x, h => by simp [chkI] at h
  | .blt _ _, G, tg, x, h => by simp [chkI] at h
  | .bm _ _ _, G, tg, x, h => by simp [chkI] at h
  | .mut _ _ _, G, tg, x, h => by simp [chkI] at h
  | .isi _ _, G, tg, x, h => by simp [chkI] at h
  | .comp _ _ _ _ _, G, tg, x, h => by simp [chkI] at h
termination_by e => (sizeOf e, 1)
end
end
end Wh


set_option Elab.async false
set_option linter.all false
set_option maxRecDepth 100000
set_option maxHeartbeats 4000000
namespace Wh
open PySem PySem.Spec PyProof.Rows L2
def notS : Expr → Bool
  | .Starred .. => false
  | _ => true
theorem sw_par {x y : Str} {px py pt : Pos} {kt k2 : Nat} {pt2 : Pos} {a b : Expr} {env : PySem.Env} (hk : env.scope.kind = .function) (hx : env.scope.names.lookup x = some .local) (hy : env.scope.names.lookup y = some .local) (hl : py.line = px.line) (hxy : x ≠ y)
    (ha : shp a = true) (hb : shp b = true) (hf : (foldedForSure 8 a && foldedForSure 8 b) = false) (hc : (constantsAlone 8 a && constantsAlone 8 b) = false) :
    swappedStores [.Tuple [.Name x px, .Name y py] kt pt] (.Tuple [a, b] k2 pt2) env = pure (some [x, y]) := by
  have hbk : env.blockKind = .function := by unfold Env.blockKind; rw [hk]; rfl
  have kx : env.kindOf x = some .local := hx
  have ky : env.kindOf y = some .local := hy
  have ed : ([x, y] : List Str).eraseDups.length = 2 := by
    have h : (y == x) = false := by simpa using Ne.symm hxy
    simp [List.eraseDups_cons, h]
  unfold swappedStores
  simp [hbk, kx, ky, hl, ed, hf, hc, Expr.pos]
  intro h
  exfalso
  rcases h with h | h
  · cases a <;> first | (cases ha; done) | (cases h; done)
  · cases b <;> first | (cases hb; done) | (cases h; done)
theorem sw_not {tg x : Expr} {env : PySem.Env} (h : isTupB x = false) : swappedStores [tg] x env = pure none := by
  unfold swappedStores
  cases x <;> first | (cases h; done) | (cases tg <;> rfl)
theorem sw_fold {tg : Expr} {vs : List Expr} {k : Nat} {p : Pos} {env : PySem.Env} (h : vs.all (foldedForSure 8) = true) : swappedStores [tg] (.Tuple vs k p) env = pure none := by
  unfold swappedStores
  cases tg <;> first | rfl | skip
  all_goals (simp only [h, if_true]; repeat' (first | rfl | split))

def lcB : Expr → Bool
  | .ListComp .. => true
  | _ => false
theorem lcB_no {x : Expr} (h : lcB x = false) : ∀ a b c d, x ≠ .ListComp a b c d := by rintro a b c d rfl; cases h
def offB (keep sl : List Nat) : Bool := sl.all fun i => !decide (i ∈ keep)
theorem off_ok {keep sl : List Nat} (h : offB keep sl = true) : ∀ i ∈ sl, i ∉ keep := fun i hi => by
  have := List.all_eq_true.mp h i hi
  simpa using this
def fnK (G : Gm) : Bool := match G.sc.kind with | .function => true | _ => false
def locB (G : Gm) : Expr → Bool
  | .Name y _ => decide (G.sc.names.lookup y = some .local)
  | _ => false
/-- a target that is no local name: nothing is swapped -/
def notLoc (G : Gm) (es : List Expr) : Bool := es.any fun e => !locB G e
theorem sw_cellLC {elt : Expr} {gs : List Comprehension} {scope : Scope} {pos py : Pos} {y : Str} {l : Nat} {env : PySem.Env} (hy : env.scope.names.lookup y = some .cell) : swapsWith (.ListComp elt gs scope pos) (some (.Name y py)) l env = pure false := by
  have ky : env.kindOf y = some .cell := hy
  have kc : (NameKind.cell == NameKind.local) = false := rfl
  unfold swapsWith
  simp [ky, kc]
theorem sw_notLoc {G : Gm} {es vs : List Expr} {k k2 : Nat} {p p2 : Pos} {env : PySem.Env} (hs : env.scope = G.sc) (h : notLoc G es = true) : swappedStores [.Tuple es k p] (.Tuple vs k2 p2) env = pure none := by
  have fm : ∀ (l : Nat) (es : List Expr), notLoc G es = true → (es.filterMap fun
      | .Name id pos => if env.kindOf id == some .local && pos.line == l then some id else none
      | _ => none).length ≠ es.length := by
    intro l es
    induction es with
    | nil => intro h; cases h
    | cons e es ih =>
      intro h
      have le : (es.filterMap fun
          | .Name id pos => if env.kindOf id == some .local && pos.line == l then some id else none
          | _ => none).length ≤ es.length := List.length_filterMap_le _ _
      simp only [notLoc, List.any_cons, Bool.or_eq_true] at h
      rcases h with h | h
      · cases e with
        | Name id pos =>
          have hk : (env.kindOf id == some .local) = false := by
            simp only [locB, Bool.not_eq_true', decide_eq_false_iff_not] at h
            show (env.scope.names.lookup id == some .local) = false
            rw [hs]
            simpa using h
          simp only [List.filterMap_cons, hk, Bool.false_and, Bool.false_eq_true, if_false, List.length_cons]
          omega
        | _ =>
          simp only [List.filterMap_cons, List.length_cons]
          omega
      · have := ih (by simpa [notLoc] using h)
        simp only [List.filterMap_cons, List.length_cons]
        split
        · omega
        · rw [List.length_cons]
          omega
  unfold swappedStores
  simp only []
  split
  · rfl
  · split
    · rfl
    · split
      · rfl
      · rename_i hn
        exfalso
        apply hn
        have := fm ((es.head?.map (·.pos.line)).getD 0) es h
        simp only [Bool.or_eq_true, bne_iff_ne, ne_eq]
        exact .inl this
mutual
def chkS (T : Tab) (keep : List Nat) (G : Gm) : S → Stmt → Bool
  | .expr e, x => (match x with | .Expr a _ => shp a && !lcB a && chkE T e G a | _ => false)
  | .asg (.pt (.var i)) e, x => (match x with
      | .Assign [.Name y py] a _ => storB G i y && offB keep [i] && shp a && chkE T e G a && (!lcB a || (match a with
          | .ListComp _ _ scope p => decide (G.sc.names.lookup y = some .cell) || (fnK G && decide (G.sc.names.lookup y = some .local) && (py.line == p.line) && !(scope.names.any fun (n, k) => n == y && (k == .local || k == .cell)))
          | _ => false))
      | _ => false)
  | .asg (.pt (.tup ts)) e, x => (match x with
      | .Assign [.Tuple es k p] a _ => ptB G (.tup ts) (.Tuple es k p) && offB keep (slotss ts) && shp a && chkE T e G a && (!isTupB a || (match a with | .Tuple vs _ _ => vs.all (foldedForSure 8) | _ => false) || notLoc G es)
      | _ => false)
  | .asg (.sub o k) e, x => (match x with
      | .Assign [.Subscript o' k' _] a _ => pathB G o o' && shp k' && chkE T k G k' && shp a && !lcB a && chkE T e G a
      | _ => false)
  | .asg (.subs o k o2 k2) e, x => (match x with
      | .Assign [.Tuple [.Subscript o' k' p1, .Subscript o2' k2' p2] kk p3] a _ => pathB G o o' && shp k' && chkE T k G k' && pathB G o2 o2' && shp k2' && chkE T k2 G k2' && shp a && !lcB a && chkE T e G a && (!isTupB a || notLoc G [.Subscript o' k' p1, .Subscript o2' k2' p2])
      | _ => false)
  | .asg (.attr o f) e, x => (match x with
      | .Assign [.Attribute o' f' _] a _ => decide (f = f') && pathB G o o' && shp a && !lcB a && chkE T e G a
      | _ => false)
  | .par i j a b, x => (match x with
      | .Assign [.Tuple [.Name y py, .Name z pz] _ _] (.Tuple [a', b'] _ _) _ => fnK G && decide (G.N[i]? = some y) && decide (G.N[j]? = some z) && decide (i ≠ j) && decide (y ≠ z) && decide (G.sc.names.lookup y = some .local) && decide (G.sc.names.lookup z = some .local) && decide (pz.line = py.line) &&
          shp a' && shp b' && !(foldedForSure 8 a' && foldedForSure 8 b') && !(constantsAlone 8 a' && constantsAlone 8 b') && offB keep [i, j] && chkE T a G a' && chkE T b G b'
      | _ => false)
  | .aug i o e, x => (match x with | .AugAssign (.Name y _) op a _ => augOk o op && storB G i y && offB keep [i] && chkE T e G a | _ => false)
  | .auga o f b e, x => (match x with | .AugAssign (.Attribute o' f' _) op a _ => decide (f = f') && augOk b op && pathB G o o' && chkE T e G a | _ => false)
  | .ite t a b, x => (match x with | .If t' as bs _ => noI t && chkE T t G t' && chkSs T keep G a as && chkSs T keep G b bs | _ => false)
  | .whl t b, x => (match x with | .While t' bs [] _ => noI t && chkE T t G t' && chkSs T keep G b bs | _ => false)
  | .for_ t it b, x => (match x with | .For tg it' bs [] _ => chkI T it G tg it' && ptB G t tg && offB keep t.slots && shp it' && chkSs T keep G b bs | _ => false)
  | .ret e, x => (match x with | .Return (some a) _ => chkE T e G a | _ => false)
  | .retn, x => (match x with | .Return none _ => true | _ => false)
  | .pass, x => (match x with | .Pass _ => true | _ => false)
  | .brk, x => (match x with | .Break _ => true | _ => false)
  | .cont, x => (match x with | .Continue _ => true | _ => false)
def chkSs (T : Tab) (keep : List Nat) (G : Gm) : List S → List Stmt → Bool
  | [], as => as.isEmpty
  | s :: ss, as => (match as with | a :: as => chkS T keep G s a && chkSs T keep G ss as | [] => false)
end
theorem sole_tup {es : List Expr} {k : Nat} {p : Pos} {x : Expr} (l : Nat) (env : PySem.Env) : swapsWithSole [.Tuple es k p] x l env = pure false := by
  cases x <;> rfl
theorem sole_ok {t x : Expr} (h : shp x = true) (hl : lcB x = false) (l : Nat) (env : PySem.Env) : swapsWithSole [t] x l env = pure false := sw_ok h (lcB_no hl) (some t) l env
section
variable {T : Tab} {CA : Str → Addr} {n : Nat} {c : Cfg} {keep : List Nat} {G : Gm} {X : Cx}
theorem pg_or {tg : Expr} {t u : TG} (h1 : PG X tg t) (h2 : PG X tg u) : PG X tg (fun v σ H Q => t v σ H Q ∨ u v σ H Q) := ⟨fun pins s σ H v w Q I r hw => hw.elim (h1.run pins s σ H v w Q I r) (h2.run pins s σ H v w Q I r)⟩
theorem fn_kind (g : XG T CA n c G X) (h : fnK G = true) : X.env.scope.kind = .function := by
  rw [g.sc]
  unfold fnK at h
  split at h
  · assumption
  · cases h
mutual
theorem stm : ∀ (s : S) (x : Stmt), chkS T keep G s x = true → XG T CA n c G X → PS X x (tS X.K CA c keep s)
  | .expr e, x, h, g => by
    simp only [chkS] at h
    split at h
    · obtain ⟨h1, h2, h3⟩ := and3 h
      exact s_expr ((snd e G _ h3).pe g) (sw_ok h1 (lcB_no (by simpa using h2)) _ _ _)
    · cases h
  | .asg t e, x, h, g => by
    cases t with
    | pt t =>
      cases t with
      | var i =>
        simp only [chkS] at h
        split at h
        · rename_i y py a p
          simp only [Bool.and_eq_true] at h
          obtain ⟨⟨⟨⟨h1, h2⟩, h3⟩, h4⟩, h5⟩ := h
          obtain ⟨s1, s2, s3⟩ := stor_ok g h1
          have hk : i ∉ keep := off_ok h2 i (by simp)
          cases hl : lcB a with
          | false => exact asg_var (ps_set g.nd s1 s2 ((snd e G _ h4).pe g) (sw_ok h3 (lcB_no hl) _ _ _) s3) (fun _ _ _ q => q) hk
          | true =>
            rw [hl] at h5
            simp only [Bool.not_true, Bool.false_or] at h5
            split at h5
            · rename_i elt' gens scope pos
              simp only [Bool.or_eq_true, Bool.and_eq_true, decide_eq_true_eq, Bool.not_eq_true'] at h5
              rcases h5 with h5 | ⟨⟨⟨k1, k2⟩, k3⟩, k4⟩
              · exact asg_var (ps_set g.nd s1 s2 ((snd e G _ h4).pe g) (sw_cellLC (by rw [g.sc]; exact h5)) s3) (fun _ _ _ q => q) hk
              have loc : X.env.scope.names.lookup y = some .local := by rw [g.sc]; exact k2
              cases e with
              | comp elt tg it cond own =>
                simp only [chkE] at h4
                split at h4
                · rename_i elt'' tg' it' ifs scope' pos' heq
                  cases heq
                  simp only [Bool.and_eq_true] at h4
                  obtain ⟨⟨⟨⟨⟨⟨m1, m2⟩, m3⟩, m4⟩, m5⟩, m6⟩, m7⟩ := h4
                  have ok : BlkOk X.N X.env.scope scope (ownL G own) := by rw [g.N, g.sc]; exact blkOk_by m1
                  have pe := ps_setLc (pos := pos) (spos := p) (py := py) (g := tG X.K CA tg) (tt := tCd X.K CA c cond) (te := tEz X.K CA c elt) g.calm g.nd s1 loc (sw_true (fn_kind g k1) loc k3 k4) (sndI it G tg' it' m4 g) ok (fun s H C cl fp => pt_ok (blk_ok g scope s H C cl fp) tg tg' m5) (fun s H C cl fp => sndC cond _ _ m6 (blk_ok g scope s H C cl fp))
                    (fun s H C cl fp => pe_fz ((snd elt _ _ m7).pe (blk_ok g scope s H C cl fp))) (shp_fs m3 _)
                  rw [own_back] at pe
                  exact asg_var pe (fun σ H Q hw => lc_w (fun i hi => by simpa using List.all_eq_true.mp m2 i hi) hw) hk
                · cases h4
              | _ => simp [chkE] at h4
            · cases h5
        · cases h
      | tup ts =>
        simp only [chkS] at h
        split at h
        · rename_i es k p a p2
          simp only [Bool.and_eq_true] at h
          obtain ⟨⟨⟨⟨h1, h2⟩, h3⟩, h5⟩, h6⟩ := h
          have pg := pt_ok g (.tup ts) _ h1
          have hw : swappedStores [.Tuple es k p] a X.env = pure none := by
            cases ht : isTupB a with
            | false => exact sw_not ht
            | true =>
              rw [ht] at h6
              simp only [Bool.not_true, Bool.false_or, Bool.or_eq_true] at h6
              cases a with
              | Tuple vs k2 p3 => exact h6.elim (fun z => sw_fold z) fun z => sw_notLoc g.sc z
              | _ => cases ht
          have pe := (snd e G _ h5).pe g
          have hk := off_ok h2
          by_cases hij : ∃ i j, ts = [.var i, .var j]
          · obtain ⟨i, j, rfl⟩ := hij
            have pg2 : PG X (.Tuple es k p) (fun v σ H Q => gTup X.K 2 (gCons (gName i) (gCons (gName j) gNil)) v σ H Q ∨ gLst X.K 2 (gCons (gName i) (gCons (gName j) gNil)) v σ H Q) := by
              simp only [ptB, ptsB] at h1
              split at h1
              · rename_i e1 es1
                rw [Bool.and_eq_true] at h1
                obtain ⟨q1, h1⟩ := h1
                split at h1
                · rename_i e2 es2
                  rw [Bool.and_eq_true] at h1
                  obtain ⟨q2, h1⟩ := h1
                  rw [List.isEmpty_iff] at h1
                  subst h1
                  split at q1
                  · split at q2
                    · obtain ⟨a1, a2, a3⟩ := stor_ok g q1
                      obtain ⟨b1, b2, b3⟩ := stor_ok g q2
                      exact pg_or (pg_tup g.calm (pgs_cons (pg_name g.nd a1 a2 a3) (pgs_cons (pg_name g.nd b1 b2 b3) pgs_nil rfl) rfl) rfl rfl) (pg_lst g.calm (pgs_cons (pg_name g.nd a1 a2 a3) (pgs_cons (pg_name g.nd b1 b2 b3) pgs_nil rfl) rfl) rfl rfl)
                    · cases q2
                  · cases q1
                · cases h1
              · cases h1
            exact asg_tup (ps_asg pe (pg_or pg pg2) (sole_tup _ _) hw rfl) (fun v σ H Q q => .inl q) (fun i' j' e v σ H Q q => by cases e; exact .inr q) hk
          · exact asg_tup (ps_asg pe pg (sole_tup _ _) hw rfl) (fun v σ H Q q => q) (fun i j e => absurd ⟨i, j, e⟩ hij) hk
        · cases h
    | sub o k =>
      simp only [chkS] at h
      split at h
      · rename_i o' k' p a p2
        simp only [Bool.and_eq_true] at h
        obtain ⟨⟨⟨⟨⟨h1, h2⟩, h3⟩, h4⟩, h5⟩, h6⟩ := h
        have hl : lcB a = false := by simpa using h5
        refine s_sub (o := o') (k := k') (ps_asg ((snd e G _ h6).pe g) (pg_sub (path_ok g o o' h1) ((snd k G _ h3).pe g) (set_X (by have := g.un; omega)) ?_) (sole_ok h4 hl _ _) ?_ rfl)
        · intro v
          cases k' <;> first | (cases h2; done) | rfl
        · unfold swappedStores
          cases a <;> rfl
      · cases h
    | attr o f =>
      simp only [chkS] at h
      split at h
      · simp only [Bool.and_eq_true, decide_eq_true_eq] at h
        obtain ⟨⟨⟨⟨rfl, h1⟩, h2⟩, h3⟩, h4⟩ := h
        exact s_attr (fun k f hk => g.ge.attr k f (by rw [← g.attr]; exact hk)) (path_ok g o _ h1) ((snd e G _ h4).pe g) (sw_ok h2 (lcB_no (by simpa using h3)) _ _ _)
      · cases h
    | subs o k o2 k2 =>
      simp only [chkS] at h
      split at h
      · rename_i o' k' p1 o2' k2' p2 kk p3 a p4
        simp only [Bool.and_eq_true] at h
        obtain ⟨⟨⟨⟨⟨⟨⟨⟨⟨h1, h2⟩, h3⟩, h4⟩, h5⟩, h6⟩, h7⟩, h8⟩, h9⟩, h10⟩ := h
        have hl : lcB a = false := by simpa using h8
        have hw : swappedStores [.Tuple [.Subscript o' k' p1, .Subscript o2' k2' p2] kk p3] a X.env = pure none := by
          cases ht : isTupB a with
          | false => exact sw_not ht
          | true =>
            rw [ht] at h10
            simp only [Bool.not_true, Bool.false_or] at h10
            cases a with
            | Tuple vs k2 p3 => exact sw_notLoc g.sc h10
            | _ => cases ht
        refine s_subs (ps_asg ((snd e G _ h9).pe g) (pg_tup g.calm (pgs_cons (pg_sub (path_ok g o o' h1) ((snd k G _ h3).pe g) (set_X (by have := g.un; omega)) ?_) (pgs_cons (pg_sub (path_ok g o2 o2' h4) ((snd k2 G _ h6).pe g) (set_X (by have := g.un; omega)) ?_) pgs_nil rfl) rfl) rfl rfl) (sole_ok h7 hl _ _) hw rfl)
        · intro v
          cases k' <;> first | (cases h2; done) | rfl
        · intro v
          cases k2' <;> first | (cases h5; done) | rfl
      · cases h
  | .par i j a b, x, h, g => by
    simp only [chkS] at h
    split at h
    · rename_i y py z pz _ _ a' b' _ _ _
      simp only [Bool.and_eq_true, decide_eq_true_eq, Bool.not_eq_true'] at h
      obtain ⟨⟨⟨⟨⟨⟨⟨⟨⟨⟨⟨⟨⟨⟨k0, k1⟩, k2⟩, k3⟩, k4⟩, k5⟩, k6⟩, k7⟩, k8⟩, k9⟩, k10⟩, k11⟩, k12⟩, k13⟩, k14⟩ := h
      have ly : X.env.scope.names.lookup y = some .local := by rw [g.sc]; exact k5
      have lz : X.env.scope.names.lookup z = some .local := by rw [g.sc]; exact k6
      exact s_par g.calm g.nd (by rw [g.N]; exact k1) (by rw [g.N]; exact k2) k3 ly lz ((snd a G _ k13).pe g) ((snd b G _ k14).pe g) (shp_ns k8) (shp_ns k9) (sw_par (fn_kind g k0) ly lz k7 k4 k8 k9 k10 k11) (off_ok k12 i (by simp)) (off_ok k12 j (by simp))
    · cases h
  | .aug i o e, x, h, g => by
    simp only [chkS] at h
    split at h
    · simp only [Bool.and_eq_true] at h
      obtain ⟨⟨⟨h1, h2⟩, h3⟩, h4⟩ := h
      obtain ⟨s1, s2, s3⟩ := stor_ok g h2
      exact s_aug h1 g.nd s1 s2 s3 ((snd e G _ h4).pe g) (off_ok h3 i (by simp))
    · cases h
  | .auga o f b e, x, h, g => by
    simp only [chkS] at h
    split at h
    · simp only [Bool.and_eq_true, decide_eq_true_eq] at h
      obtain ⟨⟨⟨rfl, h1⟩, h2⟩, h3⟩ := h
      exact s_auga h1 (path_ok g o _ h2) ((snd e G _ h3).pe g)
    · cases h
  | .ite t a b, x, h, g => by
    simp only [chkS] at h
    split at h
    · simp only [Bool.and_eq_true] at h
      obtain ⟨⟨⟨h1, h2⟩, h3⟩, h4⟩ := h
      exact s_ite ((snd t G _ h2).pt h1 g) (stms a _ h3 g) (stms b _ h4 g)
    · cases h
  | .whl t b, x, h, g => by
    simp only [chkS] at h
    split at h
    · obtain ⟨h1, h2, h3⟩ := and3 h
      exact s_while g.pass ((snd t G _ h2).pt h1 g) (stms b _ h3 g)
    · cases h
  | .for_ t it b, x, h, g => by
    simp only [chkS] at h
    split at h
    · simp only [Bool.and_eq_true] at h
      obtain ⟨⟨⟨⟨h1, h2⟩, h3⟩, h4⟩, h5⟩ := h
      exact s_for g.pass g.calm (sndI it G _ _ h1 g) (pt_ok g t _ h2) (off_ok h3) (stms b _ h5 g) (shp_fs h4 _)
    · cases h
  | .ret e, x, h, g => by
    simp only [chkS] at h
    split at h
    · exact s_ret ((snd e G _ h).pe g)
    · cases h
  | .retn, x, h, g => by
    simp only [chkS] at h
    split at h
    · exact s_retn
    · cases h
  | .pass, x, h, g => by
    simp only [chkS] at h
    split at h
    · exact s_pass
    · cases h
  | .brk, x, h, g => by
    simp only [chkS] at h
    split at h
    · exact s_brk
    · cases h
  | .cont, x, h, g => by
    simp only [chkS] at h
    split at h
    · exact s_cont
    · cases h
theorem stms : ∀ (ss : List S) (xs : List Stmt), chkSs T keep G ss xs = true → XG T CA n c G X → PSs X xs (tSs X.K CA c keep ss)
  | [], xs, h, g => by
    simp only [chkSs, List.isEmpty_iff] at h
    subst h
    exact s_nil
  | s :: ss, xs, h, g => by
    simp only [chkSs] at h
    split at h
    · rw [Bool.and_eq_true] at h
      exact s_cons (stm s _ h.1 g) (stms ss _ h.2 g)
    · cases h
end
end
end Wh


set_option Elab.async false
set_option linter.all false
set_option maxRecDepth 100000
set_option maxHeartbeats 4000000
namespace Wh
open PySem PySem.Spec PyProof.Rows L2

/-- a def of the text, checked against its erased form: a module's def, or a class's method -/
structure DefOk (K : PySem.W.Frag) (mg : Str → Option Value) (T : Tab) (CA : Str → Addr) (f : Str) (F : Fn) : Prop where
  ex : ∃ (a : Addr) (name qual : Str) (params : Arguments) (body : List Stmt) (scope : Scope) (dV kV doc pm cdv ct oc : Value) (an od : Option Addr) (osl : Array (Option Value)) (N ps : List Str),
    K.lookup a = some ⟨oc, od, .func (PySem.W.fnOf name qual params body scope dV kV doc pm an cdv ct), osl⟩ ∧ PySem.W.codeIn K cdv qual = true ∧ FnScope N ps scope ∧ ((dots f = [] → mg f = some (.ref a)) ∧ (∀ k m, f = methN k m → Cls K (CA k) ∧ Meth K (CA k) m a) ∧
      (∀ k, f = methN k (Str.ofString "__init__") → Mk K (CA k) a ∧ mg k = some (.ref (CA k)))) ∧ PySem.W.keepIn K (.ref a) = true ∧
    Binds K (PySem.W.fnOf name qual params body scope dV kV doc pm an cdv ct) ps [] ∧ ps.length = F.np ∧ N.length = F.ns ∧ F.np ≤ F.ns ∧ chkSs T (keepOf F) ⟨N, scope, fun _ => true⟩ F.body body = true
theorem fnG_ok {P : Program} {w : World} {K : PySem.W.Frag} {mg : Str → Option Value} {base : Heap} {T : Tab} {CA : Str → Addr} {n : Nat} {f : Str} {F : Fn} {a : Addr} {name qual : Str} {params : Arguments} {body : List Stmt} {scope : Scope} {dV kV doc pm cdv ct oc : Value} {an od : Option Addr} {osl : Array (Option Value)} {N ps : List Str}
    (ge : GEnv P w K mg base T CA n) (hF : T.fn f = some F) (lk : K.lookup a = some ⟨oc, od, .func (PySem.W.fnOf name qual params body scope dV kV doc pm an cdv ct), osl⟩) (hcd : PySem.W.codeIn K cdv qual = true) (S : FnScope N ps scope)
    (hps : ps.length = F.np) (hN : N.length = F.ns) (hnp : F.np ≤ F.ns) (hc : chkSs T (keepOf F) ⟨N, scope, fun _ => true⟩ F.body body = true) :
    FnG P w K mg base (n + 1) a (PySem.W.fnOf name qual params body scope dV kV doc pm an cdv ct) ps (spF T K CA (n + 1) f F.np) := by
  refine fnG lk hcd S (fun vs H Q E h => by rw [hps]; exact h.1) fun A outer s H vs Q E hr hgd h => ?_
  refine ⟨tSs K CA (cfgOf T n F) (keepOf F) F.body, ?_, body_ok hF hN hnp h⟩
  refine stms (CA := CA) (n := n) (c := cfgOf T n F) F.body body hc ⟨rfl, rfl, fun _ _ => rfl, rfl, S.nd, hgd, hr, ?_, ge, rfl, rfl, rfl, rfl⟩
  exact PassesOwn.leaving
/-- a def does what its erased form says, so deep -/
def Does (P : Program) (w : World) (K : PySem.W.Frag) (mg : Str → Option Value) (base : Heap) (T : Tab) (CA : Str → Addr) (n : Nat) (f : Str) (F : Fn) : Prop := ∃ a fd ps, FnG P w K mg base n a fd ps (spF T K CA n f F.np) ∧ ((dots f = [] → mg f = some (.ref a)) ∧ (∀ k m, f = methN k m → Cls K (CA k) ∧ Meth K (CA k) m a) ∧
      (∀ k, f = methN k (Str.ofString "__init__") → Mk K (CA k) a ∧ mg k = some (.ref (CA k)))) ∧ PySem.W.keepIn K (.ref a) = true ∧ Binds K fd ps []
theorem does_0 {P : Program} {w : World} {K : PySem.W.Frag} {mg : Str → Option Value} {base : Heap} {T : Tab} {CA : Str → Addr} {f : Str} {F : Fn} (hd : DefOk K mg T CA f F) : Does P w K mg base T CA 0 f F := by
  obtain ⟨a, name, qual, params, body, scope, dV, kV, doc, pm, cdv, ct, oc, an, od, osl, N, ps, lk, hcd, S, hm, hk, hb, hps, hN, hnp, hc⟩ := hd.ex
  refine ⟨a, _, ps, ⟨fun vs H Q E h => ?_, fun A outer s H args us vs Q E _ _ _ _ _ h => ?_⟩, hm, hk, hb⟩
  · obtain ⟨_, _, _, _, _, _, _, h, _⟩ := h
    simp [callF] at h
  · obtain ⟨_, _, _, _, _, _, _, h, _⟩ := h
    simp [callF] at h
theorem genv_of {P : Program} {w : World} {K : PySem.W.Frag} {mg : Str → Option Value} {base : Heap} {T : Tab} {CA : Str → Addr} {n : Nat} (glob : ∀ x d, T.glob x = some d → ∃ v u, mg x = some u ∧ RelV v u ∧ ∀ H, Rp K H v d) (blt : ∀ f, bltN f = true → mg (Str.ofString f) = none)
    (attr : ∀ k f, T.attr k f = true → NoAttr K (CA k) f) (h : ∀ f F, T.fn f = some F → Does P w K mg base T CA n f F) (h1 : ∀ f F, T.fn f = some F → Does P w K mg base T CA (n - 1) f F) : GEnv P w K mg base T CA n := by
  refine ⟨fun f F hdt hF => ?_, fun k m F hF => ?_, fun k F hF => ?_, attr, glob, blt⟩
  · obtain ⟨a, fd, ps, q1, ⟨q2, _, _⟩, q3, q4⟩ := h f F hF
    exact ⟨a, fd, ps, q1, q2 hdt, q3, q4⟩
  · obtain ⟨a, fd, ps, q1, ⟨_, q2, _⟩, q3, q4⟩ := h _ F hF
    exact ⟨a, fd, ps, q1, (q2 k m rfl).1, (q2 k m rfl).2, q4⟩
  · obtain ⟨a, fd, ps, q1, ⟨_, q2, q5⟩, q3, q4⟩ := h1 _ F hF
    exact ⟨a, fd, ps, q1, (q2 k _ rfl).1, (q5 k rfl).1, (q5 k rfl).2, q4⟩
theorem does {P : Program} {w : World} {K : PySem.W.Frag} {mg : Str → Option Value} {base : Heap} {T : Tab} {CA : Str → Addr} (hd : ∀ f F, T.fn f = some F → DefOk K mg T CA f F)
    (glob : ∀ x d, T.glob x = some d → ∃ v u, mg x = some u ∧ RelV v u ∧ ∀ H, Rp K H v d) (blt : ∀ f, bltN f = true → mg (Str.ofString f) = none) (attr : ∀ k f, T.attr k f = true → NoAttr K (CA k) f) : ∀ n, (∀ f F, T.fn f = some F → Does P w K mg base T CA n f F) ∧ (∀ f F, T.fn f = some F → Does P w K mg base T CA (n - 1) f F)
  | 0 => ⟨fun f F hF => does_0 (hd f F hF), fun f F hF => does_0 (hd f F hF)⟩
  | n + 1 => by
    have ih := does (P := P) (w := w) (base := base) hd glob blt attr n
    refine ⟨fun f F hF => ?_, ih.1⟩
    obtain ⟨a, name, qual, params, body, scope, dV, kV, doc, pm, cdv, ct, oc, an, od, osl, N, ps, lk, hcd, S, hm, hk, hb, hps, hN, hnp, hc⟩ := (hd f F hF).ex
    exact ⟨a, _, ps, fnG_ok (genv_of glob blt attr ih.1 ih.2) hF lk hcd S hps hN hnp hc, hm, hk, hb⟩
theorem genv {P : Program} {w : World} {K : PySem.W.Frag} {mg : Str → Option Value} {base : Heap} {T : Tab} {CA : Str → Addr} (hd : ∀ f F, T.fn f = some F → DefOk K mg T CA f F)
    (glob : ∀ x d, T.glob x = some d → ∃ v u, mg x = some u ∧ RelV v u ∧ ∀ H, Rp K H v d) (blt : ∀ f, bltN f = true → mg (Str.ofString f) = none) (attr : ∀ k f, T.attr k f = true → NoAttr K (CA k) f) (n : Nat) : GEnv P w K mg base T CA n :=
  genv_of glob blt attr (does hd glob blt attr n).1 (does hd glob blt attr n).2
end Wh


set_option Elab.async false
set_option linter.all false
set_option maxRecDepth 100000
set_option maxHeartbeats 4000000
namespace Wh
open PySem PySem.Spec PyProof.Rows L2

/-- the law's call, from the machine's side: nothing is tracked but the script, and that is frozen -/
theorem callG {P : Program} {w : World} {K : PySem.W.Frag} {mg mb : Str → Option Value} {k : Nat} {fa a : Addr} {fd : FuncData} {x : Str} {sp : Sp} {s1 : Shared} {vs : List Value} {ns : List Int}
    (KX : K.In s1.heap) (hns : s1.heap.Ns mainGlobals mg) (hb : s1.heap.Ns builtinsNs mb) (hbb : ∀ x : Str, x ≠ "__name__" → mb x = bootBuiltins x) (hlim : s1.heap.NoLimit) (hg : s1.gens = #[])
    (ha : s1.heap.get? a = some { cls := .type "list", data := .seq vs.toArray }) (hi : IntsAre vs ns) (hl : ns.length ≤ sizeLine) (hr : Room k callerA)
    (F : ∀ base : Heap, K.In base → base.Ns mainGlobals mg → FnG P w K mg base k fa fd [x] sp) (hbind : ∀ (s : Shared) (u : Value), BindsTo s fd ⟨[u], []⟩ [(x, u)])
    (hsp : ∀ H : Hp, FzL K H a (ns.map V.int) → sp [.ref a] H (fun v _ => v = .bl true) fun _ _ _ => False) :
    codeAny (model P w) callerA (.call (.ref fa) ⟨[.ref a], []⟩) (fun r s' => r = .ok (.ret (.bool true)) ∧ OldK s1.heap s'.heap ∧ s'.os = s1.os ∧ AllBare s'.gens) s1 := by
  have rv := vals_ints hi
  have nofr : ∀ b : Addr, b ∉ frs ([] : List PySem.Env) := fun b z => nomatch z
  have key : ∀ H : Hp, FzL K H a (ns.map V.int) → HOk P w H s1.heap → (∀ b u, H b = some u → b = a ∧ ∃ o xs, u = .frz o (.lst xs)) → (H a ≠ none → K.lookup a = none) →
      codeAny (model P w) callerA (.call (.ref fa) ⟨[.ref a], []⟩) (fun r s' => r = .ok (.ret (.bool true)) ∧ OldK s1.heap s'.heap ∧ s'.os = s1.os ∧ AllBare s'.gens) s1 := by
    intro H hS hok hA hK
    have free : ∀ {b : Addr} {o : Obj}, s1.heap.get? b = some o → o.data ≠ .seq vs.toArray → H b = none := fun {b o} e d => by
      cases q : H b with
      | none => rfl
      | some u =>
        obtain ⟨rfl, _⟩ := hA b u q
        rw [ha] at e
        cases e
        exact absurd rfl d
    have nsOf : ∀ {b : Addr} {m : Str → Option Value}, s1.heap.Ns b m → (hidT s1.heap H).Ns b m := fun {b m} ⟨o, es, ep, e, d, r⟩ => ⟨o, es, ep, hidT_get e (free e (by rw [d]; exact fun z => nomatch z)), d, r⟩
    have kin : K.In (hidT s1.heap H) := fun b o e => hidT_get (KX b o e) (by
      cases q : H b with
      | none => rfl
      | some u =>
        obtain ⟨rfl, _⟩ := hA b u q
        rw [hK (by rw [q]; exact fun z => nomatch z)] at e
        cases e)
    have md : Mod K mg (hidT s1.heap H) := ⟨kin, nsOf hns, ⟨mb, nsOf hb, hbb⟩, by
      obtain ⟨mc, h1, h2⟩ := hlim
      exact ⟨mc, nsOf h1, h2⟩⟩
    have e0 : Env0 P w K mg (hidT s1.heap H) callerA [] s1 H := ⟨rfl, md, fun b o e => of_hidT e, Nat.le_of_eq (hidT_size _ _), trivial, fun b z => absurd z (nofr b), hok, .of_eq hg⟩
    refine codeAny_mono ((F _ kin (nsOf hns)).run callerA [] s1 H ⟨[.ref a], []⟩ [.ref a] [.ref a] _ _ hr rfl e0 (hbind s1 (.ref a)) (.cons rfl .nil) (hsp H hS)) fun r s' h => ?_
    match r, h with
    | .ok (.ret u), ⟨v, H', os, bare, un, hok', r', q⟩ =>
      have q' : v = .bl true := q
      subst q'
      obtain rfl : u = Value.bool true := r'
      refine ⟨rfl, OldK.of_keep fun b o e => ?_, os, bare⟩
      cases z : H b with
      | none => exact un.keep b o e z (nofr b) (by simp)
      | some u =>
        obtain ⟨rfl, ob, xs, rfl⟩ := hA b u z
        obtain ⟨e1, _⟩ := hok b _ z
        obtain ⟨e2, _⟩ := hok' b _ (un.frzs b ob _ z)
        rw [e] at e1
        cases e1
        exact e2
  have lv := hi.length
  cases hk : K.lookup a with
  | some o =>
    have e := KX a o hk
    rw [ha] at e
    cases e
    exact key (fun _ => none) (.inr ⟨vs.toArray, _, hk, by rw [List.size_toArray, lv]; exact hl, by simpa using rv⟩) (fun b u z => nomatch (show (none : Option HO) = some u from z)) (fun b u z => nomatch (show (none : Option HO) = some u from z)) fun z => absurd rfl z
  | none =>
    have one : ∀ b u, (if b = a then some (HO.frz { cls := .type "list", data := .seq vs.toArray } (.lst (ns.map V.int))) else none) = some u → b = a ∧ u = .frz { cls := .type "list", data := .seq vs.toArray } (.lst (ns.map V.int)) := fun b u z => by
      by_cases q : b = a
      · rw [if_pos q] at z
        cases z
        exact ⟨q, rfl⟩
      · rw [if_neg q] at z
        cases z
    refine key (fun b => if b = a then some (.frz { cls := .type "list", data := .seq vs.toArray } (.lst (ns.map V.int))) else none) (.inl ⟨_, if_pos rfl⟩) (fun b u z => ?_) (fun b u z => ?_) fun _ => hk
    · obtain ⟨rfl, rfl⟩ := one b u z
      exact ⟨ha, by rw [List.length_map]; exact hl, vs, _, rv, ha⟩
    · obtain ⟨rfl, rfl⟩ := one b u z
      exact ⟨rfl, _, _, rfl⟩
theorem walkG {l : PySem.W.OpenLaw} {n k : Nat} {q : Program} {loose : List Str} {XP : (Str → Option Value) → Heap → Prop} {YP : World → Heap → Prop} {d : DefRec} {x : Str} (hn : l.most = some n) (hn2 : n ≤ sizeLine) (hdf : d.params.defaults = []) (hr : Room k callerA)
    (F : ∀ (w : World) (mg : Str → Option Value) (fa : Addr) (h : Heap), YP w h → h.Ns mainGlobals mg → mg d.name = some (.ref fa) → ∃ (K : PySem.W.Frag) (fd : FuncData) (sp : Sp), K.In h ∧ (∀ (s : Shared) (u : Value), BindsTo s fd ⟨[u], []⟩ [(x, u)]) ∧
        (∀ (H : Hp) (a : Addr) (ns : List Int), ns.length ≤ n → FzL K H a (ns.map V.int) → sp [.ref a] H (fun v _ => v = .bl true) fun _ _ _ => False) ∧
        ∀ base : Heap, K.In base → base.Ns mainGlobals mg → FnG l.prog w K mg base k fa fd [x] sp) :
    PySem.W.WalkO q loose XP YP l.row.toRowW d [] (fun f vs => PySem.call f vs) := by
  refine Att.attach_call hn hdf fun w s0 s1 mg mb fa o pm cd doc a vs ns G Y ho hd hcd hmg hobj hints hlen hg => ?_
  obtain ⟨K, fd, sp, KX, hb, hsp, hF⟩ := F w mg fa _ Y G.T.g hmg
  exact callG KX G.T.g G.T.b G.T.builtins G.T.nolimit hg hobj hints (Nat.le_trans hlen hn2) hr hF hb fun H hS => hsp H a ns hlen hS

/-! ### the table's facts by names -/
def topName (s : Stmt) : Str := match s with
  | .FunctionDef n _ _ _ _ _ _ _ _ _ => n
  | _ => ⟨#[]⟩
def scB (N ps : List Str) (sc : Scope) : Bool := (match sc.kind with | .function => true | _ => false) && !sc.isCoroutine && !sc.isGenerator && decide N.Nodup && decide (N.take ps.length = ps) &&
  (ps.all fun x => match sc.names.lookup x with | some .local => true | some .cell => true | _ => false) && sc.names.all fun y => match y.2 with | .free => false | _ => true
theorem scB_ok {N ps : List Str} {sc : Scope} (h : scB N ps sc = true) : FnScope N ps sc := by
  simp only [scB, Bool.and_eq_true, decide_eq_true_eq, Bool.not_eq_true', List.all_eq_true] at h
  obtain ⟨⟨⟨⟨⟨⟨h1, h2⟩, h3⟩, h4⟩, h5⟩, h6⟩, h7⟩ := h
  refine ⟨?_, h2, h3, h4, h5, fun x hx => ?_, fun y hy e => ?_⟩
  · split at h1
    · assumption
    · cases h1
  · have := h6 x hx
    split at this
    · rename_i e; exact .inl e
    · rename_i e; exact .inr e
    · cases this
  · have := h7 y hy
    rw [e] at this
    cases this
/-- one def: its name, its place at the top, its names, its erased form; its class, if it is a method -/
structure Df where
  name : Str
  at_ : Nat
  N : List Str
  fn : Fn
  cls : Option Str := none
def Df.key (top : Nat → Stmt) (d : Df) : Str × Option Str := match d.cls with
  | none => (topName (top d.at_), none)
  | some k => (k, some (topName (top d.at_)))
def Df.qual (top : Nat → Stmt) (d : Df) : Str := match d.cls with
  | none => topName (top d.at_)
  | some k => methN k (topName (top d.at_))
def dOf (top : Nat → Stmt) (d : Df) : He.DefD := ⟨d.key top, topName (top d.at_), d.qual top, defArgs (top d.at_), defBody (top d.at_), defScope (top d.at_), [], []⟩
def psOf (s : Stmt) : List Str := (defArgs s).args.map (·.arg)
def Df.dt (top : Nat → Stmt) (d : Df) : Bool := match d.cls with
  | none => (dots d.name).isEmpty
  | some k => decide (dots d.name = [(k, topName (top d.at_))])
def Df.ok (T : Tab) (top : Nat → Stmt) (d : Df) : Bool := decide (d.qual top = d.name) && d.dt top && scB d.N (psOf (top d.at_)) (defScope (top d.at_)) && decide ((psOf (top d.at_)).length = d.fn.np) && decide (d.N.length = d.fn.ns) && decide (d.fn.np ≤ d.fn.ns) &&
  chkSs T (keepOf d.fn) ⟨d.N, defScope (top d.at_), fun _ => true⟩ d.fn.body (defBody (top d.at_))
theorem dotsL_at (b : List Nat) : ∀ a : List Nat, (a, b) ∈ dotsL (a ++ 46 :: b)
  | [] => by simp [dotsL]
  | c :: a => by
    simp only [List.cons_append, dotsL]
    exact List.mem_append_right _ (List.mem_map.mpr ⟨(a, b), dotsL_at b a, rfl⟩)
theorem meth_dots (k m : Str) : (k, m) ∈ dots (methN k m) := by
  have e : (methN k m).cps.toList = k.cps.toList ++ 46 :: m.cps.toList := by
    have h : (methN k m).cps = k.cps ++ (Str.ofString ".").cps ++ m.cps := rfl
    rw [h]
    have h2 : (Str.ofString ".").cps.toList = [46] := by decide
    simp [h2]
  unfold dots
  rw [e]
  exact List.mem_map.mpr ⟨(k.cps.toList, m.cps.toList), dotsL_at _ _, rfl⟩
abbrev FunOf (K : PySem.W.Frag) (top : Nat → Stmt) (d : Df) (fd : FuncData) : Prop := FunD K (topName (top d.at_)) (d.qual top) (defArgs (top d.at_)) (defBody (top d.at_)) (defScope (top d.at_)) [] [] (He.fAd K (d.key top)) fd
theorem Df.def_ok {K : PySem.W.Frag} {mg : Str → Option Value} {T : Tab} {CA : Str → Addr} {top : Nat → Stmt} {d : Df} {fd : FuncData} (h : d.ok T top = true) (F : FunOf K top d fd)
    (h0 : d.cls = none → mg d.name = some (.ref (He.fAd K (d.key top)))) (h1 : ∀ k, d.cls = some k → Cls K (CA k) ∧ Meth K (CA k) (topName (top d.at_)) (He.fAd K (d.key top)) ∧ (topName (top d.at_) = Str.ofString "__init__" → Mk K (CA k) (He.fAd K (d.key top)) ∧ mg k = some (.ref (CA k))))
    (hb : Binds K fd (psOf (top d.at_)) []) : DefOk K mg T CA d.name d.fn := by
  simp only [Df.ok, Bool.and_eq_true, decide_eq_true_eq] at h
  obtain ⟨⟨⟨⟨⟨⟨_, h7⟩, h2⟩, h3⟩, h4⟩, h5⟩, h6⟩ := h
  have kp := F.kp
  obtain ⟨oc, od, dV, kV, doc, pm, an, cdv, ct, osl, rfl, lk, hcd, _, _⟩ := F.ex
  refine ⟨⟨_, _, _, _, _, _, _, _, _, _, _, _, _, _, _, _, d.N, psOf (top d.at_), lk, hcd, scB_ok h2, ?_, kp, hb, h3, h4, h5, h6⟩⟩
  unfold Df.dt at h7
  cases hc : d.cls with
  | none =>
    rw [hc] at h7
    have h7 : dots d.name = [] := List.isEmpty_iff.mp h7
    refine ⟨fun _ => h0 hc, fun k m e => ?_, fun k e => ?_⟩
    · have := meth_dots k m
      rw [← e, h7] at this
      cases this
    · have := meth_dots k (Str.ofString "__init__")
      rw [← e, h7] at this
      cases this
  | some k0 =>
    rw [hc] at h7
    have h7 : dots d.name = [(k0, topName (top d.at_))] := of_decide_eq_true h7
    obtain ⟨q1, q2, q3⟩ := h1 k0 hc
    refine ⟨fun z => ?_, fun k m e => ?_, fun k e => ?_⟩
    · rw [h7] at z; cases z
    · have := meth_dots k m
      rw [← e, h7] at this
      cases List.mem_singleton.mp this
      exact ⟨q1, q2⟩
    · have := meth_dots k (Str.ofString "__init__")
      rw [← e, h7] at this
      have := List.mem_singleton.mp this
      simp only [Prod.mk.injEq] at this
      obtain ⟨rfl, e2⟩ := this
      exact q3 e2.symm
end Wh


set_option Elab.async false
set_option linter.all false
set_option maxRecDepth 100000
set_option maxHeartbeats 4000000
/-! What the head must tell of a text: its defs, its constants, the names that it leaves free. -/
namespace Wh
open PySem PySem.Spec PyProof.Rows L2
mutual
/-- the module's value u stands for the data d -/
def datB (K : PySem.W.Frag) : PyData → Value → Bool
  | .none, u => (match u with | .none => true | _ => false)
  | .bool b, u => (match u with | .bool c => b == c | _ => false)
  | .int i, u => (match u with | .int j _ => decide (i = j) | _ => false)
  | .str x, u => (match u with | .str y _ => decide (x = y) | _ => false)
  | .tuple ds, u => (match u with
    | .ref a => (match K.lookup a with
      | some ⟨.type c, _, .seq its _, _⟩ => decide (c = "tuple") && (decide (its.size ≤ sizeLine) && datBs K ds its.toList)
      | _ => false)
    | _ => false)
  | .list ds, u => (match u with
    | .ref a => (match K.lookup a with
      | some ⟨.type c, none, .seq its _, ⟨[]⟩⟩ => decide (c = "list") && (decide (its.size ≤ sizeLine) && datBs K ds its.toList)
      | _ => false)
    | _ => false)
  | _, _ => false
def datBs (K : PySem.W.Frag) : List PyData → List Value → Bool
  | [], us => us.isEmpty
  | d :: ds, us => (match us with | u :: us => datB K d u && datBs K ds us | [] => false)
end
mutual
theorem datB_ok {K : PySem.W.Frag} : ∀ (d : PyData) (u : Value), datB K d u = true → ∃ v, RelV v u ∧ ∀ H, Rp K H v d
  | .none, u, h => by
    simp only [datB] at h
    split at h
    · exact ⟨.non, rfl, fun _ => .non⟩
    · cases h
  | .bool b, u, h => by
    simp only [datB] at h
    split at h
    · rw [beq_iff_eq] at h; subst h; exact ⟨.bl b, rfl, fun _ => .bl b⟩
    · cases h
  | .int i, u, h => by
    simp only [datB] at h
    split at h
    · rw [decide_eq_true_eq] at h; subst h; exact ⟨.int i, ⟨_, rfl⟩, fun _ => .int i⟩
    · cases h
  | .str x, u, h => by
    simp only [datB] at h
    split at h
    · rw [decide_eq_true_eq] at h; subst h; exact ⟨.str x, ⟨_, rfl⟩, fun _ => .str x⟩
    · cases h
  | .tuple ds, u, h => by
    simp only [datB] at h
    split at h
    · split at h
      · rename_i a _ c _ its n _ e
        simp only [Bool.and_eq_true, decide_eq_true_eq] at h
        obtain ⟨rfl, h2, h3⟩ := h
        obtain ⟨vs, rv, ra⟩ := datBs_ok ds _ h3
        exact ⟨.ref a, rfl, fun H => .tup (.inr ⟨_, its, n, e, rfl, rfl, h2, rv⟩) (ra H)⟩
      · cases h
    · cases h
  | .list ds, u, h => by
    simp only [datB] at h
    split at h
    · split at h
      · rename_i a _ c its n e
        simp only [Bool.and_eq_true, decide_eq_true_eq] at h
        obtain ⟨rfl, h2, h3⟩ := h
        obtain ⟨vs, rv, ra⟩ := datBs_ok ds _ h3
        exact ⟨.ref a, rfl, fun H => .lst (.inr ⟨its, n, e, h2, rv⟩) (ra H)⟩
      · cases h
    · cases h
  | .dict _, u, h => by simp [datB] at h
theorem datBs_ok {K : PySem.W.Frag} : ∀ (ds : List PyData) (us : List Value), datBs K ds us = true → ∃ vs, Vals vs us ∧ ∀ H, RpAll K H vs ds
  | [], us, h => by
    simp only [datBs, List.isEmpty_iff] at h
    subst h
    exact ⟨[], .nil, fun _ => .nil⟩
  | d :: ds, us, h => by
    simp only [datBs] at h
    split at h
    · rw [Bool.and_eq_true] at h
      obtain ⟨v, r1, r2⟩ := datB_ok d _ h.1
      obtain ⟨vs, q1, q2⟩ := datBs_ok ds _ h.2
      exact ⟨v :: vs, .cons r1 q1, fun H => .cons (r2 H) (q2 H)⟩
    · cases h
end
def gloB (K : PySem.W.Frag) (p : Str × PyData) : Bool := match PySem.W.nsIn K mainGlobals p.1 with
  | some (some u) => datB K p.2 u
  | _ => false

def clsBody (s : Stmt) : List Stmt := match s with
  | .ClassDef _ _ _ body _ _ _ _ _ _ _ => body
  | _ => []
/-- the i-th statement; from 1000 on: a class's -/
def topAt (body : List Stmt) (i : Nat) : Stmt := if i < 1000 then body.getD i (.Pass ⟨0, 0, 0, 0⟩) else (clsBody (body.getD (i / 1000 - 1) (.Pass ⟨0, 0, 0, 0⟩))).getD (i % 1000) (.Pass ⟨0, 0, 0, 0⟩)
/-- a text: where its statements stand, its defs, its constants -/
structure Txt1 where
  top : Nat → Stmt
  ds : List Df
  glo : List (Str × PyData)
  cls : List (Str × List Str) := []
def freeN : List Str := [("len" : Str), "int", "abs", "tuple", "list", "sum", "repr", "max", "min", "isinstance", "range", "enumerate", "zip", "str", "bool", "dict"]
def Txt1.fd (t : Txt1) (d : Df) : He.Fa := match d.cls with
  | none => .glo d.name
  | some k => .meth k (topName (t.top d.at_))
def clsFa (p : Str × List Str) : List He.Fa := .glo p.1 :: .cls p.1 :: .mkr p.1 :: p.2.map (.noat p.1)
def Txt1.fa (t : Txt1) : List He.Fa := t.ds.map t.fd ++ (freeN.map .free ++ t.cls.flatMap clsFa)
def Txt1.fn (t : Txt1) : List He.DefD := t.ds.map (dOf t.top)
def Txt1.tab (t : Txt1) : Tab := { fn := fun f => (t.ds.map fun d => (d.name, d.fn)).lookup f, glob := fun x => t.glo.lookup x, attr := fun k f => match t.cls.lookup k with | some fs => fs.contains f | none => false }
/-- methods are of classes that are told -/
def Txt1.clsB (t : Txt1) : Bool := t.ds.all fun d => match d.cls with
  | none => true
  | some k => (t.cls.lookup k).isSome
def Txt1.obs (t : Txt1) (K : PySem.W.Frag) : He.AlD := ((He.obsD t.fa t.fn K).1 && t.glo.all (gloB K), (He.obsD t.fa t.fn K).2)
def Txt1.says (t : Txt1) (K : PySem.W.Frag) : Prop := t.obs K = (true, t.fn.map He.DefD.val)
def Txt1.obsG (t : Txt1) (n : Nat) (g : Addr → Option Obj) : He.AlD := t.obs (He.frG g (He.asD g n))
def Txt1.hook (t : Txt1) (n : Nat) : PySem.W.Hook where
  α := He.AlD
  obs := fun s => t.obsG n s.heap.get?
  val := fun _ => (true, t.fn.map He.DefD.val)
  says := fun _ h => ∃ K : PySem.W.Frag, K.In h ∧ t.says K
  of := fun _ _ e => ⟨_, He.frG_in, e⟩
  keeps := fun _ _ _ ⟨K, hK, q⟩ z => ⟨K, hK.keeps z, q⟩
theorem Txt1.obs_eq {t : Txt1} {n : Nat} (s : PySem.W.SharedT) : t.obsG n (HandSHeadRun.getT s) = (t.hook n).obs s.abs := by
  have e : HandSHeadRun.getT s = s.abs.heap.get? := funext fun a => HandSHeadRun.getT_eq s a
  show t.obsG n (HandSHeadRun.getT s) = t.obsG n s.abs.heap.get?
  rw [e]
theorem lookup_mem {α : Type} : ∀ {l : List (Str × α)} {x : Str} {a : α}, l.lookup x = some a → (x, a) ∈ l
  | [], _, _, h => by cases h
  | (y, b) :: r, x, a, h => by
    rw [List.lookup_cons] at h
    split at h
    · rename_i e
      rw [beq_iff_eq] at e
      cases h
      subst e
      exact List.mem_cons_self
    · exact List.mem_cons_of_mem _ (lookup_mem h)
def BindD (top : Nat → Stmt) (d : Df) : Prop := ∀ (K : PySem.W.Frag) (fd : FuncData), FunOf K top d fd → Binds K fd (psOf (top d.at_)) []
section
variable {t : Txt1} {P : Program} {w : World} {K : PySem.W.Frag} {h : Heap} {mg : Str → Option Value}
theorem Txt1.split (c : t.says K) : He.SaysD t.fa t.fn K ∧ t.glo.all (gloB K) = true := by
  have c1 : ((He.obsD t.fa t.fn K).1 && t.glo.all (gloB K)) = true := congrArg (fun z : He.AlD => z.1) c
  have c2 : (He.obsD t.fa t.fn K).2 = t.fn.map He.DefD.val := congrArg (fun z : He.AlD => z.2) c
  rw [Bool.and_eq_true] at c1
  exact ⟨Prod.ext c1.1 c2, c1.2⟩
theorem Txt1.fact (c : t.says K) {f : He.Fa} (hf : f ∈ t.fa) : f.ok K = true := by
  obtain ⟨i, hi, e⟩ := List.getElem_of_mem hf
  exact (Txt1.split c).1.fact i (by rw [List.getElem?_eq_getElem hi, e])
theorem Txt1.def_ (c : t.says K) {d : Df} (hd : d ∈ t.ds) : ∃ fd, FunOf K t.top d fd := by
  obtain ⟨i, hi, e⟩ := List.getElem_of_mem hd
  have hi' : t.fn[i]? = some (dOf t.top d) := by
    unfold Txt1.fn
    rw [List.getElem?_map, List.getElem?_eq_getElem hi, e]
    rfl
  exact (Txt1.split c).1.def_ i hi'
theorem Txt1.cfact (c : t.says K) {p : Str × List Str} (hp : p ∈ t.cls) {f : He.Fa} (hf : f ∈ clsFa p) : f.ok K = true :=
  Txt1.fact c (List.mem_append_right _ (List.mem_append_right _ (List.mem_flatMap.mpr ⟨p, hp, hf⟩)))
/-- all defs of the text do what their erased forms say, at every depth -/
theorem Txt1.genv {base : Heap} (c : t.says K) (X : K.In h) (G : h.Ns mainGlobals mg) (ok : (t.clsB && t.ds.all (Df.ok t.tab t.top)) = true) (hb : ∀ d ∈ t.ds, BindD t.top d) (n : Nat) : GEnv P w K mg base t.tab (He.ga K) n := by
  rw [Bool.and_eq_true] at ok
  obtain ⟨okc, ok⟩ := ok
  refine Wh.genv (fun f F hF => ?_) (fun x d hx => ?_) (fun f hf => ?_) (fun k f hk => ?_) n
  · have hm := lookup_mem (show (t.ds.map fun d => (d.name, d.fn)).lookup f = some F from hF)
    obtain ⟨d, hd, e⟩ := List.mem_map.mp hm
    cases e
    obtain ⟨fd, FD⟩ := Txt1.def_ c hd
    have okd := List.all_eq_true.mp ok d hd
    have fct : (t.fd d).ok K = true := Txt1.fact c (List.mem_append_left _ (List.mem_map.mpr ⟨d, hd, rfl⟩))
    refine Df.def_ok okd FD (fun hc => ?_) (fun k hc => ?_) (hb d hd K fd FD)
    · have q : d.qual t.top = d.name := by
        simp only [Df.ok, Bool.and_eq_true, decide_eq_true_eq] at okd
        exact okd.1.1.1.1.1.1
      unfold Txt1.fd at fct
      rw [hc] at fct
      rw [He.glo_ok X G fct]
      unfold Df.qual at q
      unfold Df.key
      rw [hc] at q ⊢
      rw [← q]
      rfl
    · have okk := List.all_eq_true.mp okc d hd
      rw [hc] at okk
      obtain ⟨fs, hfs⟩ := Option.isSome_iff_exists.mp okk
      have hp := lookup_mem hfs
      unfold Txt1.fd at fct
      rw [hc] at fct
      have ek : He.fAd K (d.key t.top) = He.ma K (He.ga K k) (topName (t.top d.at_)) := by
        unfold Df.key
        rw [hc]
        rfl
      rw [ek]
      refine ⟨He.cls_ok (Txt1.cfact c hp (by simp [clsFa])), He.meth_ok fct, fun ei => ?_⟩
      rw [ei]
      exact ⟨He.mkr_ok (Txt1.cfact c hp (by simp [clsFa])), He.glo_ok X G (Txt1.cfact c hp (by simp [clsFa]))⟩
  · have hm := lookup_mem (show t.glo.lookup x = some d from hx)
    have q := List.all_eq_true.mp (Txt1.split c).2 (x, d) hm
    unfold gloB at q
    split at q
    · rename_i u e
      obtain ⟨v, r1, r2⟩ := datB_ok d u q
      exact ⟨v, u, PySem.W.mg_of X G e, r1, r2⟩
    · cases q
  · refine He.free_ok X G (Txt1.fact c (List.mem_append_right _ (List.mem_append_left _ (List.mem_map.mpr ⟨Str.ofString f, ?_, rfl⟩))))
    simp only [bltN, List.contains_iff_mem, List.mem_cons, List.not_mem_nil, or_false] at hf
    unfold freeN
    rcases hf with rfl | rfl | rfl | rfl | rfl | rfl | rfl | rfl | rfl | rfl | rfl | rfl | rfl | rfl | rfl | rfl <;> simp
  · have hk : (match t.cls.lookup k with | some fs => fs.contains f | none => false) = true := hk
    split at hk
    · rename_i fs hfs
      have hp := lookup_mem hfs
      refine He.noat_ok (Txt1.cfact c hp ?_)
      simp only [clsFa, List.mem_cons, List.mem_map]
      exact .inr (.inr (.inr ⟨f, by simpa using hk, rfl⟩))
    · cases hk
/-- the law, by its value -/
theorem Txt1.law {l : PySem.W.OpenLaw} {q : Program} {loose : List Str} {XP : (Str → Option Value) → Heap → Prop} {d : DefRec} {x : Str} {m n most : Nat} {dl : Df} (ok : (t.clsB && t.ds.all (Df.ok t.tab t.top)) = true) (hb : ∀ d ∈ t.ds, BindD t.top d) (hn : l.most = some most) (hn2 : most ≤ sizeLine) (hdf : d.params.defaults = []) (hr : Room (n + 1) callerA)
    (hlb : ∀ (K : PySem.W.Frag) (fd : FuncData), FunOf K t.top dl fd → ∀ (s : Shared) (u : Value), BindsTo s fd ⟨[u], []⟩ [(x, u)])
    (hdl : dl ∈ t.ds) (hcls : dl.cls = none) (hF : t.tab.fn dl.name = some dl.fn) (hname : d.name = dl.name) (hps : psOf (t.top dl.at_) = [x])
    (law : ∀ ns : List Int, ns.length ≤ most → ∃ ds', callF t.tab (n + 1) dl.name [] [.p (.list (ns.map .int))] = some (.p (.bool true), ds')) :
    PySem.W.WalkO q loose XP (t.hook m).says l.row.toRowW d [] (fun f vs => PySem.call f vs) := by
  refine walkG (k := n + 1) (x := x) hn hn2 hdf hr fun w mg fa h Y G hmg => ?_
  obtain ⟨K, KX, c⟩ := Y
  have g : ∀ base, GEnv l.prog w K mg base t.tab (He.ga K) n := fun base => Txt1.genv c KX G ok hb n
  obtain ⟨fd, FD⟩ := Txt1.def_ c hdl
  have ok2 := (Bool.and_eq_true _ _ ▸ ok).2
  have hfd : t.fd dl = .glo dl.name := by unfold Txt1.fd; rw [hcls]
  have hglo : mg dl.name = some (.ref (He.ga K dl.name)) := He.glo_ok KX G (by rw [← hfd]; exact Txt1.fact c (List.mem_append_left _ (List.mem_map.mpr ⟨dl, hdl, rfl⟩)))
  have eN : topName (t.top dl.at_) = dl.name := by
    have := List.all_eq_true.mp ok2 dl hdl
    simp only [Df.ok, Bool.and_eq_true, decide_eq_true_eq] at this
    have q := this.1.1.1.1.1.1
    unfold Df.qual at q
    rw [hcls] at q
    exact q
  rw [hname, hglo] at hmg
  cases hmg
  -- the law's own promise
  have hnp : dl.fn.np = 1 := by
    have := List.all_eq_true.mp ok2 dl hdl
    simp only [Df.ok, Bool.and_eq_true, decide_eq_true_eq] at this
    rw [← this.1.1.1.2, hps]
    rfl
  refine ⟨K, fd, spF t.tab K (He.ga K) (n + 1) dl.name dl.fn.np, KX, hlb K fd FD, fun H a ns hl hS => ?_, fun base kb gb => ?_⟩
  · obtain ⟨ds', hc⟩ := law ns hl
    have ra : RpAll K H (ns.map V.int) (ns.map PyData.int) := by
      clear hc hl hS
      induction ns with
      | nil => exact .nil
      | cons i ns ih => exact .cons (.int i) ih
    refine ⟨by rw [hnp]; rfl, [], [.p (.list (ns.map .int))], fun _ => [], _, ds', ⟨rfl, fun i d e => ?_, fun _ _ => rfl, fun _ _ _ z => (nomatch z), fun _ => List.nodup_nil⟩, hc, fun v H' F' Tr _ _ _ _ _ rd => ?_⟩
    · cases i with
      | zero =>
        cases e
        exact ⟨.ref a, rfl, .p (.lst hS ra)⟩
      | succ i => simp at e
    · cases rd with
      | p r => cases r; rfl
  · have q := List.all_eq_true.mp ok2 dl hdl
    simp only [Df.ok, Bool.and_eq_true, decide_eq_true_eq] at q
    obtain ⟨⟨⟨⟨⟨⟨q1, q0⟩, q2⟩, q3⟩, q4⟩, q5⟩, q6⟩ := q
    obtain ⟨oc, od, dV, kV, doc, pm, an, cdv, ct, osl, rfl, lk, hcd, _, _⟩ := FD.ex
    have e : He.fAd K (dl.key t.top) = He.ga K dl.name := by unfold Df.key; rw [hcls, eN]; rfl
    rw [e] at lk
    rw [← hps]
    exact fnG_ok (g base) hF lk hcd (scB_ok q2) q3 q4 q5 q6
end
end Wh


set_option Elab.async false
set_option linter.all false
set_option maxRecDepth 100000
set_option maxHeartbeats 4000000
/-! Evaluation by simp (printed by genev.py). -/
namespace Wh
open PySem PySem.Spec PyProof.Rows L2
/-- a tag that keeps simp out of a continuation -/
inductive HideT {α : Type} (a : α) : Type | mk
def _root_.Option.bH {α β : Type} (o : Option α) (f : α → Option β) (h : HideT f := .mk) : Option β := o.bind f
def _root_.Option.mH {α β : Type} (o : Option α) (f : α → β) (h : HideT f := .mk) : Option β := o.map f
@[simp] theorem bH_some {α β : Type} {a : α} {f : α → Option β} {h : HideT f} : (some a).bH f h = f a := rfl
@[simp] theorem mH_some {α β : Type} {a : α} {f : α → β} {h : HideT f} : (some a).mH f h = some (f a) := rfl
@[simp] theorem bH_none {α β : Type} {f : α → Option β} {h : HideT f} : (none : Option α).bH f h = none := rfl
@[simp] theorem mH_none {α β : Type} {f : α → β} {h : HideT f} : (none : Option α).mH f h = none := rfl
def compH (f : PyData → Env → Option (Option D × Env)) (xs : List PyData) (ε : Env) (h : HideT f := .mk) : Option (List D × Env) := compLoop f xs ε
def forH (f : PyData → Env → Option (Fl × Env)) (xs : List PyData) (ε : Env) (h : HideT f := .mk) : Option (Fl × Env) := forLoop f xs ε
def whileH (c : Env → Option (Bool × Env)) (f : Env → Option (Fl × Env)) (n : Nat) (ε : Env) (h : HideT c := .mk) (h2 : HideT f := .mk) : Option (Fl × Env) := whileLoop c f n ε
def cfgK (T : Tab) (n np : Nat) (fz : Bool) : Cfg := { call := callF T n, mkc := fun k => callF T (n - 1) (k ++ Str.ofString ".__init__"), glob := T.glob, attr := T.attr, np := np, fz := fz, fuel := 1000000 }
theorem run_eq {T : Tab} {n : Nat} {f : Str} {fl : List Bool} {ds : List D} {F : Fn} (hF : T.fn f = some F) : callF T (n + 1) f fl ds = if ds.length = F.np ∧ (F.asgd.all fun i => (ds[i]?.map D.isP).getD true) then
      (exSs (cfgK T n F.np F.fz) (lksOf 0 fl) F.body (ds.map some ++ List.replicate (F.ns - F.np) none)).bH fun (r, ε) =>
        match r with
        | .next => (ends F.np ε).mH fun ds => (.p .none, ds)
        | .ret d => (ends F.np ε).mH fun ds => (d, ds)
        | _ => none
    else none := by
  simp only [callF_s, callW, hF, Option.bind_some]
  rfl
@[simp] theorem fz_p (x : PyData) : (D.p x).fz = .p x := by simp [D.fz, D.toP]
@[simp] theorem frz_p (c : Cfg) (x : PyData) : frz c (.p x) = .p x := by simp [frz]
@[simp] theorem isP_p (x : PyData) : (D.p x).isP = true := rfl
@[simp] theorem isP_lst (x : List D) : (D.lst x).isP = false := rfl
@[simp] theorem isP_dic (x : List (Key × D)) : (D.dic x).isP = false := rfl
@[simp] theorem isP_tup (x : List D) : (D.tup x).isP = false := rfl
@[simp] theorem isP_obj (c : Str) (x : List (Str × D)) : (D.obj c x).isP = false := rfl
@[simp] theorem lock_p (lk : List Nat) (e : E) (x : PyData) : lock lk e (.p x) = lk := by simp [lock]
@[simp] theorem retV_p (c : Cfg) (e : E) (x : PyData) : retV c e (.p x) = some (.p x) := by simp [retV]
@[simp] theorem sink_p (e : E) (x : PyData) : sink e (.p x) = some (.p x) := by simp [sink]
@[simp] theorem ends_0 (ε : Env) : ends 0 ε = some [] := by cases ε <;> rfl
@[simp] theorem ends_s (n : Nat) (d : D) (ε : Env) : ends (n + 1) (some d :: ε) = (ends n ε).mH fun ds => d :: ds := rfl
@[simp] theorem cfg_call (T : Tab) (n np : Nat) (fz : Bool) : (cfgK T n np fz).call = callF T n := rfl
@[simp] theorem cfg_glob (T : Tab) (n np : Nat) (fz : Bool) : (cfgK T n np fz).glob = T.glob := rfl
@[simp] theorem cfg_np (T : Tab) (n np : Nat) (fz : Bool) : (cfgK T n np fz).np = np := rfl
@[simp] theorem cfg_fuel (T : Tab) (n np : Nat) (fz : Bool) : (cfgK T n np fz).fuel = 1000000 := rfl
@[simp] theorem cfg_fz (T : Tab) (n np : Nat) (fz : Bool) : (cfgK T n np fz).fz = fz := rfl
@[simp] theorem sinks_nil (ds : List D) : sinks [] ds = true := by cases ds <;> rfl
@[simp] theorem sinks_p (e : E) (es : List E) (x : PyData) (ds : List D) : sinks (e :: es) (.p x :: ds) = sinks es ds := by simp [sinks]
@[simp] theorem mkTup_nil : mkTup [] = .p (.tuple []) := rfl
theorem allP_map2 (xs : List PyData) : allP (xs.map .p) = some xs := by
  induction xs with
  | nil => rfl
  | cons x xs ih => simp [allP, ih]

@[simp] theorem v_cst {c : Cfg} {lk : List Nat} {ε : Env} {x : PyData} : ev c lk (.cst x) ε = some (.p x, ε) := by simp only [ev] <;> rfl
@[simp] theorem v_var {c : Cfg} {lk : List Nat} {ε : Env} {i : Nat} : ev c lk (.var i) ε = match ε[i]? with | some (some d) => some (d, ε) | _ => none := by simp only [ev] <;> rfl
@[simp] theorem v_glob {c : Cfg} {lk : List Nat} {ε : Env} {x : Str} : ev c lk (.glob x) ε = (c.glob x).mH fun v => (.p v, ε) := by simp only [ev] <;> rfl
@[simp] theorem v_bin {c : Cfg} {lk : List Nat} {ε : Env} {o : BOp} {a b : E} : ev c lk (.bin o a b) ε = (ev c lk a ε).bH fun (x, ε1) => (ev c (lock lk a x) b ε1).bH fun (y, ε2) => (binop o x y).mH fun z => (z, ε2) := by simp only [ev] <;> rfl
@[simp] theorem v_neg {c : Cfg} {lk : List Nat} {ε : Env} {a : E} : ev c lk (.neg a) ε = (ev c lk a ε).bH fun (x, ε1) => match x with | .p (.int i) => some (.p (.int (-i)), ε1) | _ => none := by simp only [ev] <;> rfl
@[simp] theorem v_cmp {c : Cfg} {lk : List Nat} {ε : Env} {o : COp} {a b : E} : ev c lk (.cmp o a b) ε = (ev c lk a ε).bH fun (x, ε1) => (ev c (lock lk a x) b ε1).bH fun (y, ε2) => (cmpop o x y).mH fun z => (.p (.bool z), ε2) := by simp only [ev] <;> rfl
@[simp] theorem v_cmp2 {c : Cfg} {lk : List Nat} {ε : Env} {o o2 : COp} {a b d : E} : ev c lk (.cmp2 o o2 a b d) ε = (ev c lk a ε).bH fun (x, ε1) => (ev c (lock lk a x) b ε1).bH fun (y, ε2) => (cmpop o x y).bH fun z => if z then (ev c (lock lk b y) d ε2).bH fun (w, ε3) => (cmpop o2 y w).mH fun z => (.p (.bool z), ε3) else some (.p (.bool false), ε2) := by simp only [ev] <;> rfl
@[simp] theorem v_and {c : Cfg} {lk : List Nat} {ε : Env} {es : List E} : ev c lk (.and es) ε = evAnd c lk es ε := by simp only [ev] <;> rfl
@[simp] theorem v_or {c : Cfg} {lk : List Nat} {ε : Env} {es : List E} : ev c lk (.or es) ε = evOr c lk es ε := by simp only [ev] <;> rfl
@[simp] theorem v_not {c : Cfg} {lk : List Nat} {ε : Env} {a : E} : ev c lk (.not a) ε = (ev c lk a ε).bH fun (x, ε1) => match x with | .p (.bool b) => some (.p (.bool !b), ε1) | _ => none := by simp only [ev] <;> rfl
@[simp] theorem v_ite {c : Cfg} {lk : List Nat} {ε : Env} {t a b : E} : ev c lk (.ite t a b) ε = (ev c lk t ε).bH fun (x, ε1) => match x with | .p (.bool k) => if k then (ev c lk a ε1).bH fun (y, ε2) => (sink a y).mH fun y => (y, ε2) else (ev c lk b ε1).bH fun (y, ε2) => (sink b y).mH fun y => (y, ε2) | _ => none := by simp only [ev] <;> rfl
@[simp] theorem v_tup {c : Cfg} {lk : List Nat} {ε : Env} {es : List E} : ev c lk (.tup es) ε = (evs c lk es ε).bH fun (ds, ε1) => if sinks es ds then (if ds.length ≤ sizeLine then some (mkTup (ds.map (frz c)), ε1) else none) else none := by simp only [ev] <;> rfl
@[simp] theorem v_lst {c : Cfg} {lk : List Nat} {ε : Env} {es : List E} : ev c lk (.lst es) ε = (evs c lk es ε).bH fun (ds, ε1) => if sinks es ds then (if ds.length ≤ sizeLine then some (.lst (ds.map (frz c)), ε1) else none) else none := by simp only [ev] <;> rfl
@[simp] theorem v_dic {c : Cfg} {lk : List Nat} {ε : Env} {ks vs : List E} : ev c lk (.dic ks vs) ε = (evs c lk vs ε).bH fun (ds, ε1) => if sinks vs ds then (cstKeys c.glob ks).bH fun kk => if kk.length = ds.length ∧ kk.Nodup ∧ kk.length ≤ 15 then some (.dic (kk.zip ds), ε1) else none else none := by simp only [ev] <;> rfl
@[simp] theorem v_idx {c : Cfg} {lk : List Nat} {ε : Env} {a i : E} : ev c lk (.idx a i) ε = (ev c lk a ε).bH fun (x, ε1) => (ev c (lock lk a x) i ε1).bH fun (k, ε2) => (getIx x k).mH fun z => (z, ε2) := by simp only [ev] <;> rfl
@[simp] theorem v_slc {c : Cfg} {lk : List Nat} {ε : Env} {a : E} {lo hi : Option E} : ev c lk (.slc a lo hi) ε = (ev c lk a ε).bH fun (x, ε1) => (evO c (lock lk a x) lo ε1).bH fun (l, ε2) => (evO c (lock lk a x) hi ε2).bH fun (h, ε3) => (slcV x l h).mH fun z => (z, ε3) := by simp only [ev] <;> rfl
@[simp] theorem v_rev {c : Cfg} {lk : List Nat} {ε : Env} {a : E} : ev c lk (.rev a) ε = (ev c lk a ε).bH fun (x, ε1) => (revV x).mH fun z => (z, ε1) := by simp only [ev] <;> rfl
@[simp] theorem v_attr {c : Cfg} {lk : List Nat} {ε : Env} {a : E} {f : Str} : ev c lk (.attr a f) ε = (ev c lk a ε).bH fun (x, ε1) => match x with | .obj _ fs => (fs.lookup f).mH fun z => (z, ε1) | _ => none := by simp only [ev] <;> rfl
@[simp] theorem v_call {c : Cfg} {lk : List Nat} {ε : Env} {f : Str} {es : List E} : ev c lk (.call f es) ε = (evs c lk es ε).bH fun (ds, ε1) => callWith (c.call f) lk es ds ε1 := by simp only [ev] <;> rfl
@[simp] theorem v_blt {c : Cfg} {lk : List Nat} {ε : Env} {f : String} {es : List E} : ev c lk (.blt f es) ε = (evs c lk es ε).bH fun (ds, ε1) => (bltV f ds).mH fun z => (z, ε1) := by simp only [ev] <;> rfl
@[simp] theorem v_bm {c : Cfg} {lk : List Nat} {ε : Env} {a : E} {m : String} {es : List E} : ev c lk (.bm a m es) ε = (ev c lk a ε).bH fun (x, ε1) => (evs c (lock lk a x) es ε1).bH fun (ds, ε2) => (bmV m x ds).mH fun z => (z, ε2) := by simp only [ev] <;> rfl
@[simp] theorem v_mut {c : Cfg} {lk : List Nat} {ε : Env} {a : E} {m : String} {es : List E} : ev c lk (.mut a m es) ε = (pathE a ε).bH fun (i, π, y) => if i ∈ lk then none else (evs c (i :: lk) es ε).bH fun (ds, ε2) => if sinks es ds then (mutV (frz c) m y ds).bH fun (z, r) => (putD ε i π z).mH fun d' => (r, ε2.set i (some d')) else none := by simp only [ev] <;> rfl
@[simp] theorem v_isi {c : Cfg} {lk : List Nat} {ε : Env} {a : E} {ts : List Ty} : ev c lk (.isi a ts) ε = (ev c lk a ε).bH fun (x, ε1) => match x with | .obj _ _ => none | x => some (.p (.bool (ts.any fun t => isTy t x)), ε1) := by simp only [ev] <;> rfl
@[simp] theorem v_comp {c : Cfg} {lk : List Nat} {ε : Env} {elt it : E} {tg : Pt} {cond : Option E} {own : List Nat} : ev c lk (.comp elt tg it cond own) ε = (evIt c lk it ε).bH fun (xs, lk', ε1) => if own.all (ownOk lk' ε1) then
      (compH (fun x ε => (bindP lk' tg x (wipeE ε own)).bH fun ε2 => (evC c lk' cond ε2).bH fun (b, ε3) =>
          if b then (ev c lk' elt ε3).bH fun (d, ε4) => (sink elt d).mH fun d => (some (frz c d), wipeE ε4 own) else some (none, wipeE ε3 own)) xs (wipeE ε1 own)).bH fun (ds, ε2) => if ds.length ≤ sizeLine then some (.lst ds, backE ε1 ε2 own) else none
      else none := by simp only [ev, evIt] <;> rfl <;> rfl
@[simp] theorem v_rng1 {c : Cfg} {lk : List Nat} {ε : Env} {a : E} : ev c lk (.rng1 a) ε = (ev c lk a ε).bH fun (x, ε1) => match x with | .p (.int j) => if -(2 ^ 62) ≤ j ∧ j < 2 ^ 62 then some (.p (.list (rngL 0 j.toNat)), ε1) else none | _ => none := by simp only [ev] <;> rfl
@[simp] theorem v_rng2 {c : Cfg} {lk : List Nat} {ε : Env} {a b : E} : ev c lk (.rng2 a b) ε = (ev c lk a ε).bH fun (x, ε1) => (ev c (lock lk a x) b ε1).bH fun (y, ε2) => match x, y with | .p (.int i), .p (.int j) => if (-(2 ^ 62) ≤ i ∧ i < 2 ^ 62) ∧ -(2 ^ 62) ≤ j ∧ j < 2 ^ 62 then some (.p (.list (rngL i (j - i).toNat)), ε2) else none | _, _ => none := by simp only [ev] <;> rfl
@[simp] theorem v_enum {c : Cfg} {lk : List Nat} {ε : Env} {a : E} : ev c lk (.enum a) ε = (ev c lk a ε).bH fun (x, ε1) => x.es?.mH fun ds => (.p (.list (enumL 0 ds)), ε1) := by simp only [ev] <;> rfl
@[simp] theorem v_zip {c : Cfg} {lk : List Nat} {ε : Env} {a b : E} : ev c lk (.zip a b) ε = (ev c lk a ε).bH fun (x, ε1) => (ev c (lock lk a x) b ε1).bH fun (y, ε2) => (zipV x y).mH fun xs => (.p (.list xs), ε2) := by simp only [ev] <;> rfl
@[simp] theorem vs_nil {c : Cfg} {lk : List Nat} {ε : Env} : evs c lk [] ε = some ([], ε) := by simp only [evs] <;> rfl
@[simp] theorem vs_cons {c : Cfg} {lk : List Nat} {ε : Env} {e : E} {es : List E} : evs c lk (e :: es) ε = (ev c lk e ε).bH fun (d, ε1) => (evs c (lockA lk e d) es ε1).bH fun (ds, ε2) => (late e d ε2).mH fun d' => (d' :: ds, ε2) := by simp only [evs] <;> rfl
@[simp] theorem vo_none {c : Cfg} {lk : List Nat} {ε : Env} : evO c lk none ε = some (none, ε) := by simp only [evO]
@[simp] theorem vo_some {c : Cfg} {lk : List Nat} {ε : Env} {e : E} : evO c lk (some e) ε = optI (ev c lk e ε) := by simp only [evO]
@[simp] theorem optI_int {i : Int} {ε : Env} : optI (some (.p (.int i), ε)) = some (some i, ε) := by simp only [optI]
@[simp] theorem vc_none {c : Cfg} {lk : List Nat} {ε : Env} : evC c lk none ε = some (true, ε) := by simp only [evC] <;> rfl
@[simp] theorem vc_some {c : Cfg} {lk : List Nat} {ε : Env} {e : E} : evC c lk (some e) ε = (ev c lk e ε).bH fun (x, ε1) => match x with | .p (.bool b) => some (b, ε1) | _ => none := by simp only [evC] <;> rfl
@[simp] theorem va_one {c : Cfg} {lk : List Nat} {ε : Env} {e : E} : evAnd c lk [e] ε = (ev c lk e ε).bH fun (x, ε1) => match x with | .p (.bool b) => some (.p (.bool b), ε1) | _ => none := by simp only [evAnd] <;> rfl
@[simp] theorem va_cons {c : Cfg} {lk : List Nat} {ε : Env} {e e2 : E} {es : List E} : evAnd c lk (e :: e2 :: es) ε = (ev c lk e ε).bH fun (x, ε1) => match x with | .p (.bool b) => if b then evAnd c lk (e2 :: es) ε1 else some (.p (.bool false), ε1) | _ => none := by rw [evAnd] <;> first | rfl | simp
@[simp] theorem vr_one {c : Cfg} {lk : List Nat} {ε : Env} {e : E} : evOr c lk [e] ε = (ev c lk e ε).bH fun (x, ε1) => match x with | .p (.bool b) => some (.p (.bool b), ε1) | _ => none := by simp only [evOr] <;> rfl
@[simp] theorem vr_cons {c : Cfg} {lk : List Nat} {ε : Env} {e e2 : E} {es : List E} : evOr c lk (e :: e2 :: es) ε = (ev c lk e ε).bH fun (x, ε1) => match x with | .p (.bool b) => if b then some (.p (.bool true), ε1) else evOr c lk (e2 :: es) ε1 | _ => none := by rw [evOr] <;> first | rfl | simp
@[simp] theorem x_nil {c : Cfg} {lk : List Nat} {ε : Env} : exSs c lk [] ε = some (.next, ε) := by simp only [exSs]
@[simp] theorem x_cons {c : Cfg} {lk : List Nat} {ε : Env} {s : S} {r : List S} : exSs c lk (s :: r) ε = (exS c lk s ε).bH fun (fl, ε1) => match fl with | .next => exSs c lk r ε1 | fl => some (fl, ε1) := by simp only [exSs] <;> rfl
@[simp] theorem x_pass {c : Cfg} {lk : List Nat} {ε : Env}  : exS c lk (.pass) ε = some (.next, ε) := by simp only [exS] <;> rfl
@[simp] theorem x_brk {c : Cfg} {lk : List Nat} {ε : Env}  : exS c lk (.brk) ε = some (.brk, ε) := by simp only [exS] <;> rfl
@[simp] theorem x_cont {c : Cfg} {lk : List Nat} {ε : Env}  : exS c lk (.cont) ε = some (.cont, ε) := by simp only [exS] <;> rfl
@[simp] theorem x_retn {c : Cfg} {lk : List Nat} {ε : Env}  : exS c lk (.retn) ε = some (.ret (.p .none), ε) := by simp only [exS] <;> rfl
@[simp] theorem x_expr {c : Cfg} {lk : List Nat} {ε : Env} {e : E} : exS c lk (.expr e) ε = (ev c lk e ε).mH fun (_, ε1) => (.next, ε1) := by simp only [exS] <;> rfl
@[simp] theorem x_asg {c : Cfg} {lk : List Nat} {ε : Env} {t : Tg} {e : E} : exS c lk (.asg t e) ε = (ev c lk e ε).bH fun (d, ε1) => (asgT c lk e t d ε1).mH fun ε2 => (.next, ε2) := by simp only [exS] <;> rfl
@[simp] theorem x_par {c : Cfg} {lk : List Nat} {ε : Env} {i j : Nat} {a b : E} : exS c lk (.par i j a b) ε = (evs c lk [a, b] ε).bH fun (ds, ε1) => if sinks [a, b] ds then match ds with | [x, y] => if i ∈ lk ∨ j ∈ lk ∨ i = j then none else some (.next, (ε1.set i (some x)).set j (some y)) | _ => none else none := by simp only [exS] <;> rfl
@[simp] theorem x_aug {c : Cfg} {lk : List Nat} {ε : Env} {i : Nat} {o : BOp} {e : E} : exS c lk (.aug i o e) ε = match ε[i]? with | some (some (.p x)) => (ev c lk e ε).bH fun (y, ε1) => if i ∈ lk then none else (augV o (.p x) y).mH fun z => (.next, ε1.set i (some (.p z))) | _ => none := by simp only [exS] <;> rfl
@[simp] theorem x_auga {c : Cfg} {lk : List Nat} {ε : Env} {a e : E} {f : Str} {o : BOp} : exS c lk (.auga a f o e) ε = (pathE a ε).bH fun (i, π, y) => if i ∈ lk then none else (y.step (.fld f)).bH fun v => if v.isP then (ev c (i :: lk) e ε).bH fun (w, ε2) => (augV o v w).bH fun z => (y.put (.fld f) (.p z)).bH fun y' => (putD ε i π y').mH fun d' => (.next, ε2.set i (some d')) else none := by simp only [exS] <;> rfl
@[simp] theorem x_ite {c : Cfg} {lk : List Nat} {ε : Env} {t : E} {a b : List S} : exS c lk (.ite t a b) ε = (ev c lk t ε).bH fun (x, ε1) => match x with | .p (.bool k) => if k then exSs c lk a ε1 else exSs c lk b ε1 | _ => none := by simp only [exS] <;> rfl
@[simp] theorem x_whl {c : Cfg} {lk : List Nat} {ε : Env} {t : E} {b : List S} : exS c lk (.whl t b) ε = whileH (fun ε => (ev c lk t ε).bH fun (x, ε1) => match x with | .p (.bool k) => some (k, ε1) | _ => none) (fun ε => exSs c lk b ε) c.fuel ε := by simp only [exS] <;> rfl
@[simp] theorem x_for {c : Cfg} {lk : List Nat} {ε : Env} {t : Pt} {it : E} {b : List S} : exS c lk (.for_ t it b) ε = (evIt c lk it ε).bH fun (xs, lk', ε1) => forH (fun x ε => (bindP lk' t x ε).bH fun ε2 => exSs c lk' b ε2) xs ε1 := by simp only [exS] <;> rfl
@[simp] theorem x_ret {c : Cfg} {lk : List Nat} {ε : Env} {e : E} : exS c lk (.ret e) ε = (ev c lk e ε).bH fun (d, ε1) => (retV c e d).mH fun d => (.ret d, ε1) := by simp only [exS] <;> rfl
@[simp] theorem t_pt {c : Cfg} {lk : List Nat} {ε : Env} {e : E} {t : Pt} {d : D} : asgT c lk e (.pt t) d ε = (sink e d).bH fun d => bindD lk t d ε := by simp only [asgT] <;> rfl
@[simp] theorem t_sub {c : Cfg} {lk : List Nat} {ε : Env} {e a k : E} {d : D} : asgT c lk e (.sub a k) d ε = (sink e d).bH fun d => (pathE a ε).bH fun (i, π, y) => if i ∈ lk then none else (ev c (i :: lk) k ε).bH fun (kv, ε2) => match kv with | .p kk => (match y with | .lst _ => stepOf y kk | .dic kvs => if kvs.length < 1000 then stepOf y kk else none | _ => none).bH fun s => (y.put s d).bH fun y' => (putD ε i π y').mH fun d' => ε2.set i (some d') | _ => none := by simp only [asgT] <;> rfl
@[simp] theorem t_attr {c : Cfg} {lk : List Nat} {ε : Env} {e a : E} {f : Str} {d : D} : asgT c lk e (.attr a f) d ε = (sink e d).bH fun d => (pathE a ε).bH fun (i, π, y) => if i ∈ lk ∨ newFld c y f then none else (y.put (.fld f) d).bH fun y' => (putD ε i π y').mH fun d' => ε.set i (some d') := by simp only [asgT] <;> rfl
@[simp] theorem d_var {lk : List Nat} {ε : Env} {i : Nat} {d : D} : bindD lk (.var i) d ε = if i ∈ lk then none else some (ε.set i (some d)) := by simp only [bindD]
@[simp] theorem d_tup {lk : List Nat} {ε : Env} {ts : List Pt} {x : PyData} : bindD lk (.tup ts) (.p x) ε = bindP lk (.tup ts) x ε := by rw [bindD]; intro i; exact fun h => nomatch h
@[simp] theorem d_tup2 {lk : List Nat} {ε : Env} {i j : Nat} {d e : D} : bindD lk (.tup [.var i, .var j]) (.tup [d, e]) ε = if i ∈ lk ∨ j ∈ lk then none else some ((ε.set i (some d)).set j (some e)) := by simp only [bindD]
@[simp] theorem d_lst2 {lk : List Nat} {ε : Env} {i j : Nat} {d e : D} : bindD lk (.tup [.var i, .var j]) (.lst [d, e]) ε = if i ∈ lk ∨ j ∈ lk then none else some ((ε.set i (some d)).set j (some e)) := by simp only [bindD]
@[simp] theorem p_var {lk : List Nat} {ε : Env} {i : Nat} {x : PyData} : bindP lk (.var i) x ε = if i ∈ lk then none else some (ε.set i (some (.p x))) := by simp only [bindP]
@[simp] theorem p_tup {lk : List Nat} {ε : Env} {ts : List Pt} {xs : List PyData} : bindP lk (.tup ts) (.tuple xs) ε = bindPs lk ts xs ε := by simp only [bindP]
@[simp] theorem ps_nil {lk : List Nat} {ε : Env} : bindPs lk [] [] ε = some ε := by simp only [bindPs] <;> rfl
@[simp] theorem ps_cons {lk : List Nat} {ε : Env} {t : Pt} {ts : List Pt} {x : PyData} {xs : List PyData} : bindPs lk (t :: ts) (x :: xs) ε = (bindP lk t x ε).bH fun ε1 => bindPs lk ts xs ε1 := by simp only [bindPs] <;> rfl
@[simp] theorem it_eq {c : Cfg} {lk : List Nat} {ε : Env} {e : E} : evIt c lk e ε = (ev c lk e ε).bH fun (x, ε1) => (itV lk e x).mH fun (xs, lk') => (xs, lk', ε1) := by rfl
@[simp] theorem itV_s {lk : List Nat} {e : E} {s : Str} : itV lk e (.p (.str s)) = some (strL s, lk) := by rfl
@[simp] theorem itV_t {lk : List Nat} {e : E} {xs : List PyData} : itV lk e (.p (.tuple xs)) = some (xs, itLk lk e (.p (.tuple xs))) := by rfl
@[simp] theorem itV_l {lk : List Nat} {e : E} {xs : List PyData} : itV lk e (.p (.list xs)) = some (xs, itLk lk e (.p (.list xs))) := by rfl
@[simp] theorem itV_d {lk : List Nat} {e : E} {ds : List D} : itV lk e (.lst ds) = (allP ds).mH fun xs => (xs, itLk lk e (.lst ds)) := by rfl
@[simp] theorem pa_var {i : Nat} {ε : Env} : pathE (.var i) ε = match ε[i]? with | some (some d) => some (i, [], d) | _ => none := by simp only [pathE] <;> rfl
@[simp] theorem pa_attr {a : E} {f : Str} {ε : Env} : pathE (.attr a f) ε = (pathE a ε).bH fun (i, π, d) => (d.step (.fld f)).mH fun x => (i, π ++ [.fld f], x) := by simp only [pathE] <;> rfl
@[simp] theorem pa_idx {a k : E} {ε : Env} : pathE (.idx a k) ε = (pathE a ε).bH fun (i, π, d) => (litK k ε).bH fun k => (stepOf d k).bH fun s => (d.step s).mH fun x => (i, π ++ [s], x) := by simp only [pathE] <;> rfl
@[simp] theorem wipe_nil {ε : Env} : wipeE ε [] = ε := by rfl
@[simp] theorem wipe_cons {ε : Env} {v : Nat} {vs : List Nat} : wipeE ε (v :: vs) = (wipeE ε vs).set v none := by rfl
@[simp] theorem back_nil {ε0 ε : Env} : backE ε0 ε [] = ε := by rfl
@[simp] theorem back_cons {ε0 ε : Env} {v : Nat} {vs : List Nat} : backE ε0 ε (v :: vs) = (backE ε0 ε vs).set v (ε0[v]?.getD none) := by rfl
@[simp] theorem k_lt {i j : Int} : cmpop .lt (.p (.int i)) (.p (.int j)) = some (decide (i < j)) := by rfl
@[simp] theorem k_le {i j : Int} : cmpop .le (.p (.int i)) (.p (.int j)) = some (decide (i ≤ j)) := by rfl
@[simp] theorem k_gt {i j : Int} : cmpop .gt (.p (.int i)) (.p (.int j)) = some (decide (j < i)) := by rfl
@[simp] theorem k_ge {i j : Int} : cmpop .ge (.p (.int i)) (.p (.int j)) = some (decide (j ≤ i)) := by rfl
@[simp] theorem k_eq {d e : D} : cmpop .eq d e = eqD d e := by rfl
@[simp] theorem k_ne {d e : D} : cmpop .ne d e = (eqD d e).map (!·) := by rfl
@[simp] theorem k_isNone  : cmpop .is (.p .none) (.p .none) = some true := by rfl
@[simp] theorem k_isInt {i : Int} : cmpop .is (.p (.int i)) (.p .none) = some false := by rfl
@[simp] theorem k_isStr {i : Str} : cmpop .is (.p (.str i)) (.p .none) = some false := by rfl
@[simp] theorem k_isTup {xs : List PyData} : cmpop .is (.p (.tuple xs)) (.p .none) = some false := by rfl
@[simp] theorem k_isnNone  : cmpop .isn (.p .none) (.p .none) = some false := by rfl
@[simp] theorem k_isnInt {i : Int} : cmpop .isn (.p (.int i)) (.p .none) = some true := by rfl
@[simp] theorem k_isnStr {i : Str} : cmpop .isn (.p (.str i)) (.p .none) = some true := by rfl
@[simp] theorem k_isnTup {xs : List PyData} : cmpop .isn (.p (.tuple xs)) (.p .none) = some true := by rfl
@[simp] theorem k_inS {x y : Str} : cmpop .isin (.p (.str x)) (.p (.str y)) = some (inStr x y) := by rfl
@[simp] theorem k_ninS {x y : Str} : cmpop .notin (.p (.str x)) (.p (.str y)) = some (!inStr x y) := by rfl
@[simp] theorem k_inT {x : PyData} {ys : List PyData} : cmpop .isin (.p x) (.p (.tuple ys)) = inSeq x ys := by cases x <;> rfl
@[simp] theorem k_ninT {x : PyData} {ys : List PyData} : cmpop .notin (.p x) (.p (.tuple ys)) = (inSeq x ys).map (!·) := by cases x <;> rfl
@[simp] theorem k_inL {x : PyData} {ds : List D} : cmpop .isin (.p x) (.lst ds) = (allP ds).bH fun ys => inSeq x ys := by cases x <;> rfl
@[simp] theorem k_ninL {x : PyData} {ds : List D} : cmpop .notin (.p x) (.lst ds) = (allP ds).bH fun ys => (inSeq x ys).map (!·) := by cases x <;> rfl
@[simp] theorem k_inLp {x : PyData} {ys : List PyData} : cmpop .isin (.p x) (.p (.list ys)) = inSeq x ys := by cases x <;> rfl
@[simp] theorem k_ninLp {x : PyData} {ys : List PyData} : cmpop .notin (.p x) (.p (.list ys)) = (inSeq x ys).map (!·) := by cases x <;> rfl
@[simp] theorem eqD_p {x y : PyData} : eqD (.p x) (.p y) = eqS 50 x y := by simp [eqD, D.toP]
@[simp] theorem eqS_ii {n : Nat} {i j : Int} : eqS n (.int i) (.int j) = some (decide (i = j)) := by cases n <;> simp [eqS, eq0, PyData.eqv] <;> rfl
@[simp] theorem eqS_ss {n : Nat} {i j : Str} : eqS n (.str i) (.str j) = some (decide (i = j)) := by cases n <;> simp [eqS, eq0, PyData.eqv] <;> rfl
@[simp] theorem eqS_tt0 {n : Nat} : eqS (n + 1) (.tuple []) (.tuple []) = some true := by rfl
@[simp] theorem eqS_tt1 {n : Nat} {x : PyData} {xs : List PyData} : eqS (n + 1) (.tuple (x :: xs)) (.tuple []) = some false := by rfl
@[simp] theorem eqS_tt2 {n : Nat} {x : PyData} {xs : List PyData} : eqS (n + 1) (.tuple []) (.tuple (x :: xs)) = some false := by rfl
@[simp] theorem b_add {i j : Int} : binop .add (.p (.int i)) (.p (.int j)) = some (.p (.int (i + j))) := by rfl
@[simp] theorem b_sub {i j : Int} : binop .sub (.p (.int i)) (.p (.int j)) = some (.p (.int (i - j))) := by rfl
@[simp] theorem ix_t {xs : List PyData} {i : Int} : getIx (.p (.tuple xs)) (.p (.int i)) = (atI xs i).map .p := by rfl
@[simp] theorem ix_l {xs : List PyData} {i : Int} : getIx (.p (.list xs)) (.p (.int i)) = (atI xs i).map .p := by rfl
@[simp] theorem ix_d {ds : List D} {i : Int} : getIx (.lst ds) (.p (.int i)) = atI ds i := by rfl
@[simp] theorem bl_len {d : D} : bltV "len" [d] = (lenV d).mH fun (n : Nat) => D.p (.int (n : Int)) := by rfl
@[simp] theorem bl_int {i : Int} : bltV "int" [.p (.int i)] = some (.p (.int i)) := by rfl
@[simp] theorem bl_intb {b : Bool} : bltV "int" [.p (.bool b)] = some (.p (.int (if b then 1 else 0))) := by rfl
@[simp] theorem bl_abs {i : Int} : bltV "abs" [.p (.int i)] = some (.p (.int (if i < 0 then -i else i))) := by rfl
@[simp] theorem bl_tuple {d : D} : bltV "tuple" [d] = d.ps?.mH fun xs => .p (.tuple xs) := by rfl
@[simp] theorem bl_list {d : D} : bltV "list" [d] = d.ps?.mH fun xs => .lst (xs.map .p) := by rfl
@[simp] theorem bl_suml {ds : List D} : bltV "sum" [.lst ds] = (allP ds).bH fun xs => (intsOf xs).mH fun is => .p (.int is.sum) := by rfl
@[simp] theorem bl_sump {xs : List PyData} : bltV "sum" [.p (.list xs)] = (intsOf xs).mH fun is => .p (.int is.sum) := by rfl
@[simp] theorem bl_repr {d : D} : bltV "repr" [d] = (reprV d).mH fun x => .p (.str x) := by rfl
@[simp] theorem len_t {xs : List PyData} : lenV (.p (.tuple xs)) = some xs.length := by rfl
@[simp] theorem len_l {xs : List PyData} : lenV (.p (.list xs)) = some xs.length := by rfl
@[simp] theorem len_d {xs : List D} : lenV (.lst xs) = some xs.length := by rfl
@[simp] theorem ps_t {xs : List PyData} : (D.p (.tuple xs)).ps? = some xs := by rfl
@[simp] theorem ps_l {xs : List PyData} : (D.p (.list xs)).ps? = some xs := by rfl
@[simp] theorem ps_d {ds : List D} : (D.lst ds).ps? = allP ds := by rfl
@[simp] theorem rev_t {xs : List PyData} : revV (.p (.tuple xs)) = some (.p (.tuple xs.reverse)) := by rfl
@[simp] theorem rev_l {xs : List PyData} : revV (.p (.list xs)) = some (.lst (xs.reverse.map .p)) := by rfl
@[simp] theorem allP_nil  : allP [] = some [] := by rfl
@[simp] theorem allP_cons {x : PyData} {r : List D} : allP (.p x :: r) = (allP r).mH fun xs => x :: xs := by rfl
@[simp] theorem allP_mp {xs : List PyData} : allP (xs.map .p) = some xs := by exact allP_map2 xs
@[simp] theorem late_p1 {e : E} {x : PyData} {ε : Env} : late e (.p x) ε = some (.p x) := by simp [late]
theorem late_v {i : Nat} {d : D} {ε : Env} (h : d.isP = false) : late (.var i) d ε = match ε[i]? with | some (some d1) => if d1.isP then none else some d1 | _ => none := by simp [late, h] <;> rfl
@[simp] theorem late_vl {i : Nat} {ε : Env} {ds : List D} : late (.var i) (.lst ds) ε = match ε[i]? with | some (some d1) => if d1.isP then none else some d1 | _ => none := by exact late_v rfl
@[simp] theorem late_vo {i : Nat} {ε : Env} {c : Str} {ds : List (Str × D)} : late (.var i) (.obj c ds) ε = match ε[i]? with | some (some d1) => if d1.isP then none else some d1 | _ => none := by exact late_v rfl
@[simp] theorem late_vd {i : Nat} {ε : Env} {ds : List (Key × D)} : late (.var i) (.dic ds) ε = match ε[i]? with | some (some d1) => if d1.isP then none else some d1 | _ => none := by exact late_v rfl
@[simp] theorem late_vt {i : Nat} {ε : Env} {ds : List D} : late (.var i) (.tup ds) ε = match ε[i]? with | some (some d1) => if d1.isP then none else some d1 | _ => none := by exact late_v rfl
@[simp] theorem lkA_var {lk : List Nat} {i : Nat} {d : D} : lockA lk (.var i) d = lk := by rfl
@[simp] theorem late_cst {x : PyData} {d : D} {ε : Env} : late (.cst x) d ε = some d := by simp [late]
@[simp] theorem lkA_cst {lk : List Nat} {x : PyData} {d : D} : lockA lk (.cst x) d = lock lk (.cst x) d := by rfl
@[simp] theorem late_glob {x : Str} {d : D} {ε : Env} : late (.glob x) d ε = some d := by simp [late]
@[simp] theorem lkA_glob {lk : List Nat} {x : Str} {d : D} : lockA lk (.glob x) d = lock lk (.glob x) d := by rfl
@[simp] theorem late_call {f : Str} {es : List E} {d : D} {ε : Env} : late (.call f es) d ε = some d := by simp [late]
@[simp] theorem lkA_call {lk : List Nat} {f : Str} {es : List E} {d : D} : lockA lk (.call f es) d = lock lk (.call f es) d := by rfl
@[simp] theorem late_lst {es : List E} {d : D} {ε : Env} : late (.lst es) d ε = some d := by simp [late]
@[simp] theorem lkA_lst {lk : List Nat} {es : List E} {d : D} : lockA lk (.lst es) d = lock lk (.lst es) d := by rfl
@[simp] theorem late_tup {es : List E} {d : D} {ε : Env} : late (.tup es) d ε = some d := by simp [late]
@[simp] theorem lkA_tup {lk : List Nat} {es : List E} {d : D} : lockA lk (.tup es) d = lock lk (.tup es) d := by rfl
@[simp] theorem late_dic {ks es : List E} {d : D} {ε : Env} : late (.dic ks es) d ε = some d := by simp [late]
@[simp] theorem lkA_dic {lk : List Nat} {ks es : List E} {d : D} : lockA lk (.dic ks es) d = lock lk (.dic ks es) d := by rfl
@[simp] theorem late_bin {o : BOp} {a b : E} {d : D} {ε : Env} : late (.bin o a b) d ε = some d := by simp [late]
@[simp] theorem lkA_bin {lk : List Nat} {o : BOp} {a b : E} {d : D} : lockA lk (.bin o a b) d = lock lk (.bin o a b) d := by rfl
@[simp] theorem late_neg {a : E} {d : D} {ε : Env} : late (.neg a) d ε = some d := by simp [late]
@[simp] theorem lkA_neg {lk : List Nat} {a : E} {d : D} : lockA lk (.neg a) d = lock lk (.neg a) d := by rfl
@[simp] theorem late_not {a : E} {d : D} {ε : Env} : late (.not a) d ε = some d := by simp [late]
@[simp] theorem lkA_not {lk : List Nat} {a : E} {d : D} : lockA lk (.not a) d = lock lk (.not a) d := by rfl
@[simp] theorem late_cmp {o : COp} {a b : E} {d : D} {ε : Env} : late (.cmp o a b) d ε = some d := by simp [late]
@[simp] theorem lkA_cmp {lk : List Nat} {o : COp} {a b : E} {d : D} : lockA lk (.cmp o a b) d = lock lk (.cmp o a b) d := by rfl
@[simp] theorem late_cmp2 {o o2 : COp} {a b d1 : E} {d : D} {ε : Env} : late (.cmp2 o o2 a b d1) d ε = some d := by simp [late]
@[simp] theorem lkA_cmp2 {lk : List Nat} {o o2 : COp} {a b d1 : E} {d : D} : lockA lk (.cmp2 o o2 a b d1) d = lock lk (.cmp2 o o2 a b d1) d := by rfl
@[simp] theorem late_slc {a : E} {l h : Option E} {d : D} {ε : Env} : late (.slc a l h) d ε = some d := by simp [late]
@[simp] theorem lkA_slc {lk : List Nat} {a : E} {l h : Option E} {d : D} : lockA lk (.slc a l h) d = lock lk (.slc a l h) d := by rfl
@[simp] theorem late_rev {a : E} {d : D} {ε : Env} : late (.rev a) d ε = some d := by simp [late]
@[simp] theorem lkA_rev {lk : List Nat} {a : E} {d : D} : lockA lk (.rev a) d = lock lk (.rev a) d := by rfl
@[simp] theorem late_comp {e i : E} {t : Pt} {c : Option E} {o : List Nat} {d : D} {ε : Env} : late (.comp e t i c o) d ε = some d := by simp [late]
@[simp] theorem lkA_comp {lk : List Nat} {e i : E} {t : Pt} {c : Option E} {o : List Nat} {d : D} : lockA lk (.comp e t i c o) d = lock lk (.comp e t i c o) d := by rfl
@[simp] theorem late_new {f : Str} {es : List E} {d : D} {ε : Env} : late (.new f es) d ε = some d := by simp [late]
@[simp] theorem lkA_new {lk : List Nat} {f : Str} {es : List E} {d : D} : lockA lk (.new f es) d = lock lk (.new f es) d := by rfl
@[simp] theorem late_meth {a : E} {f : Str} {es : List E} {d : D} {ε : Env} : late (.meth a f es) d ε = some d := by simp [late]
@[simp] theorem lkA_meth {lk : List Nat} {a : E} {f : Str} {es : List E} {d : D} : lockA lk (.meth a f es) d = lock lk (.meth a f es) d := by rfl
@[simp] theorem late_mut {a : E} {f : String} {es : List E} {d : D} {ε : Env} : late (.mut a f es) d ε = some d := by simp [late]
@[simp] theorem lkA_mut {lk : List Nat} {a : E} {f : String} {es : List E} {d : D} : lockA lk (.mut a f es) d = lock lk (.mut a f es) d := by rfl
@[simp] theorem late_ite {a b c : E} {d : D} {ε : Env} : late (.ite a b c) d ε = some d := by simp [late]
@[simp] theorem lkA_ite {lk : List Nat} {a b c : E} {d : D} : lockA lk (.ite a b c) d = lock lk (.ite a b c) d := by rfl
@[simp] theorem late_blt {f : String} {es : List E} {d : D} {ε : Env} : late (.blt f es) d ε = some d := by simp [late]
@[simp] theorem lkA_blt {lk : List Nat} {f : String} {es : List E} {d : D} : lockA lk (.blt f es) d = lock lk (.blt f es) d := by rfl
@[simp] theorem late_bm {a : E} {f : String} {es : List E} {d : D} {ε : Env} : late (.bm a f es) d ε = some d := by simp [late]
@[simp] theorem lkA_bm {lk : List Nat} {a : E} {f : String} {es : List E} {d : D} : lockA lk (.bm a f es) d = lock lk (.bm a f es) d := by rfl
@[simp] theorem late_and {es : List E} {d : D} {ε : Env} : late (.and es) d ε = some d := by simp [late]
@[simp] theorem lkA_and {lk : List Nat} {es : List E} {d : D} : lockA lk (.and es) d = lock lk (.and es) d := by rfl
@[simp] theorem late_or {es : List E} {d : D} {ε : Env} : late (.or es) d ε = some d := by simp [late]
@[simp] theorem lkA_or {lk : List Nat} {es : List E} {d : D} : lockA lk (.or es) d = lock lk (.or es) d := by rfl
@[simp] theorem late_idx {a i : E} {d : D} {ε : Env} : late (.idx a i) d ε = some d := by simp [late]
@[simp] theorem lkA_idx {lk : List Nat} {a i : E} {d : D} : lockA lk (.idx a i) d = lock lk (.idx a i) d := by rfl
@[simp] theorem late_attr {a : E} {f : Str} {d : D} {ε : Env} : late (.attr a f) d ε = some d := by simp [late]
@[simp] theorem lkA_attr {lk : List Nat} {a : E} {f : Str} {d : D} : lockA lk (.attr a f) d = lock lk (.attr a f) d := by rfl
@[simp] theorem late_isi {a : E} {ts : List Ty} {d : D} {ε : Env} : late (.isi a ts) d ε = some d := by simp [late]
@[simp] theorem lkA_isi {lk : List Nat} {a : E} {ts : List Ty} {d : D} : lockA lk (.isi a ts) d = lock lk (.isi a ts) d := by rfl
@[simp] theorem late_rng1 {a : E} {d : D} {ε : Env} : late (.rng1 a) d ε = some d := by simp [late]
@[simp] theorem lkA_rng1 {lk : List Nat} {a : E} {d : D} : lockA lk (.rng1 a) d = lock lk (.rng1 a) d := by rfl
@[simp] theorem late_rng2 {a b : E} {d : D} {ε : Env} : late (.rng2 a b) d ε = some d := by simp [late]
@[simp] theorem lkA_rng2 {lk : List Nat} {a b : E} {d : D} : lockA lk (.rng2 a b) d = lock lk (.rng2 a b) d := by rfl
@[simp] theorem late_enum {a : E} {d : D} {ε : Env} : late (.enum a) d ε = some d := by simp [late]
@[simp] theorem lkA_enum {lk : List Nat} {a : E} {d : D} : lockA lk (.enum a) d = lock lk (.enum a) d := by rfl
@[simp] theorem late_zip {a b : E} {d : D} {ε : Env} : late (.zip a b) d ε = some d := by simp [late]
@[simp] theorem lkA_zip {lk : List Nat} {a b : E} {d : D} : lockA lk (.zip a b) d = lock lk (.zip a b) d := by rfl
@[simp] theorem t_subT {c : Cfg} {lk : List Nat} {ε : Env} {a k : E} {d : D} : subT c lk a k d ε = (pathE a ε).bH fun (i, π, y) => if i ∈ lk then none else (ev c (i :: lk) k ε).bH fun (kv, ε2) => match kv with | .p kk => (match y with | .lst _ => stepOf y kk | .dic kvs => if kvs.length < 1000 then stepOf y kk else none | _ => none).bH fun s => (y.put s d).bH fun y' => (putD ε i π y').mH fun d' => ε2.set i (some d') | _ => none := by rfl
@[simp] theorem t_subs {c : Cfg} {lk : List Nat} {ε : Env} {e a k a2 k2 : E} {x y : PyData} : asgT c lk e (.subs a k a2 k2) (.p (.tuple [x, y])) ε = (subT c lk a k (.p x) ε).bH fun ε1 => subT c lk a2 k2 (.p y) ε1 := by simp only [asgT] <;> rfl
end Wh


set_option Elab.async false
set_option linter.all false
set_option maxRecDepth 100000
set_option maxHeartbeats 4000000
/-! Weakest preconditions over the evaluator; loops. -/
namespace Wh
open PySem PySem.Spec PyProof.Rows L2
def W {α : Type} (o : Option α) (Q : α → Prop) (h : HideT Q := .mk) : Prop := ∃ a, o = some a ∧ Q a
section
variable {α β : Type} {Q R : α → Prop} {a : α} {o : Option α} {hh : HideT Q}
@[simp] theorem W_some : W (some a) Q hh ↔ Q a := Iff.intro (fun h => h.elim fun b hb => (Option.some.inj hb.1) ▸ hb.2) (fun q => ⟨a, rfl, q⟩)
@[simp] theorem W_none : W (none : Option α) Q hh ↔ False := ⟨fun ⟨_, h, _⟩ => (nomatch h), False.elim⟩
@[simp] theorem W_bind {f : β → Option α} {o : Option β} : W (o.bind f) Q hh ↔ W o fun b => W (f b) Q := by
  cases o <;> simp
@[simp] theorem W_bH {f : β → Option α} {o : Option β} {h : HideT f} : W (o.bH f h) Q hh ↔ W o fun b => W (f b) Q := by
  cases o <;> simp
@[simp] theorem W_map {f : β → α} {o : Option β} : W (o.map f) Q hh ↔ W o fun b => Q (f b) := by
  cases o <;> simp
@[simp] theorem W_mH {f : β → α} {o : Option β} {h : HideT f} : W (o.mH f h) Q hh ↔ W o fun b => Q (f b) := by
  cases o <;> simp
@[simp] theorem W_ite {c : Prop} [Decidable c] {x y : Option α} : W (if c then x else y) Q hh ↔ (c → W x Q) ∧ (¬ c → W y Q) := by
  by_cases h : c <;> simp [h] <;> exact Iff.rfl
theorem W.mono (h : W o Q) (k : ∀ a, Q a → R a) : W o R := h.elim fun a h => ⟨a, h.1, k a h.2⟩
theorem W.eq {b : α} (h : W o fun a => a = b) : o = some b := by
  obtain ⟨a, h, e⟩ := h
  rw [h, e]
theorem W.of (h : o = some a) (q : Q a) : W o Q := ⟨a, h, q⟩
end
/-- an invariant that simp leaves alone -/
def KeepC (I : List D → Env → Prop) (ds : List D) (ε : Env) (h : HideT I := .mk) : Prop := I ds ε
def KeepF (I : List PyData → Env → Prop) (r : List PyData) (ε : Env) (h : HideT I := .mk) : Prop := I r ε
def NextW (I : Nat → Env → Prop) (m : Nat) (ε : Env) (h : HideT I := .mk) : Prop := ∃ m', m' < m ∧ I m' ε
theorem KeepC.mk {I : List D → Env → Prop} {ds : List D} {ε : Env} {h : HideT I} (x : I ds ε) : KeepC I ds ε h := x
theorem KeepF.mk {I : List PyData → Env → Prop} {ds : List PyData} {ε : Env} {h : HideT I} (x : I ds ε) : KeepF I ds ε h := x
theorem NextW.mk {I : Nat → Env → Prop} {m : Nat} {ε : Env} {h : HideT I} (m' : Nat) (hm : m' < m) (x : I m' ε) : NextW I m ε h := ⟨m', hm, x⟩
theorem W_comp {Q : List D × Env → Prop} {f : PyData → Env → Option (Option D × Env)} {h : HideT f} {hh : HideT Q} (I : List D → Env → Prop) : ∀ (xs : List PyData) (ε : Env) (ds0 : List D), I ds0 ε →
    (∀ x ∈ xs, ∀ ds ε, I ds ε → W (f x ε) fun r => KeepC I (ds ++ r.1.toList) r.2) → (∀ ds ε, I (ds0 ++ ds) ε → Q (ds, ε)) → W (compH f xs ε h) Q hh
  | [], ε, ds0, hi, _, hq => by
    rw [compH, compLoop, W_some]
    exact hq [] ε (by simpa using hi)
  | x :: xs, ε, ds0, hi, ht, hq => by
    rw [compH, compLoop, W_bind]
    refine (ht x (by simp) ds0 ε hi).mono fun r hr => ?_
    rw [W_map]
    refine W_comp (h := h) I xs r.2 _ hr (fun y hy => ht y (by simp [hy])) fun ds ε' h => ?_
    exact hq _ _ (by simpa using h)
theorem comp_eq {f : PyData → Env → Option (Option D × Env)} {h : HideT f} {ε : Env} (g : PyData → Option D) : ∀ (xs : List PyData), (∀ x ∈ xs, f x ε = some (g x, ε)) → compH f xs ε h = some (xs.filterMap g, ε)
  | [], _ => rfl
  | x :: xs, hx => by
    rw [compH, compLoop, hx x (by simp), Option.bind_some]
    have ih := comp_eq (h := h) g xs fun y hy => hx y (by simp [hy])
    simp only [compH] at ih
    simp only [ih]
    cases e : g x <;> simp [e]
theorem comp_map {f : PyData → Env → Option (Option D × Env)} {h : HideT f} {ε : Env} (g : PyData → D) (xs : List PyData) (hx : ∀ x ∈ xs, f x ε = some (some (g x), ε)) : compH f xs ε h = some (xs.map g, ε) := by
  rw [comp_eq (fun x => some (g x)) xs hx]
  simp
theorem comp_filter {f : PyData → Env → Option (Option D × Env)} {h : HideT f} {ε : Env} (p : PyData → Bool) (xs : List PyData) (hx : ∀ x ∈ xs, f x ε = some (if p x then some (.p x) else none, ε)) : compH f xs ε h = some ((xs.filter p).map .p, ε) := by
  rw [comp_eq (fun x => if p x then some (.p x) else none) xs hx]
  congr 2
  clear hx
  induction xs with
  | nil => rfl
  | cons x xs ih => cases e : p x <;> simp [e, ih]
theorem comp_mapP {f : PyData → Env → Option (Option D × Env)} {h : HideT f} {ε : Env} (g : PyData → PyData) {xs : List PyData} (hx : ∀ x ∈ xs, f x ε = some (some (.p (g x)), ε)) : compH f xs ε h = some ((xs.map g).map .p, ε) := by
  rw [comp_map (fun x => .p (g x)) xs hx]
  simp
theorem W_for {Q : Fl × Env → Prop} {f : PyData → Env → Option (Fl × Env)} {h : HideT f} {hh : HideT Q} (I : List PyData → Env → Prop) : ∀ (xs : List PyData) (ε : Env), I xs ε →
    (∀ x r ε, I (x :: r) ε → W (f x ε) fun a => match a.1 with | .next => KeepF I r a.2 | .cont => KeepF I r a.2 | .brk => Q (.next, a.2) | .ret d => Q (.ret d, a.2)) → (∀ ε, I [] ε → Q (.next, ε)) → W (forH f xs ε h) Q hh
  | [], ε, hi, _, hq => by
    rw [forH, forLoop, W_some]
    exact hq ε hi
  | x :: xs, ε, hi, ht, hq => by
    rw [forH, forLoop, W_bind]
    refine (ht x xs ε hi).mono fun a ha => ?_
    obtain ⟨fl, ε1⟩ := a
    cases fl with
    | next => exact W_for (h := h) (hh := hh) I xs ε1 ha ht hq
    | cont => exact W_for (h := h) (hh := hh) I xs ε1 ha ht hq
    | brk => exact W_some.2 ha
    | ret d => exact W_some.2 ha
theorem for_step {f : PyData → Env → Option (Fl × Env)} {h : HideT f} {x : PyData} {xs : List PyData} {ε ε' : Env} (hx : f x ε = some (.next, ε')) : forH f (x :: xs) ε h = forH f xs ε' h := by
  rw [forH, forLoop, hx, Option.bind_some]
  rfl
theorem for_nil {f : PyData → Env → Option (Fl × Env)} {h : HideT f} {ε : Env} : forH f [] ε h = some (.next, ε) := rfl
theorem W_while {Q : Fl × Env → Prop} {c : Env → Option (Bool × Env)} {f : Env → Option (Fl × Env)} {h1 : HideT c} {h2 : HideT f} {hh : HideT Q} (I : Nat → Env → Prop)
    (ht : ∀ m ε, I m ε → W (c ε) fun b => if b.1 then W (f b.2) fun a => match a.1 with | .next => NextW I m a.2 | .cont => NextW I m a.2 | .brk => Q (.next, a.2) | .ret d => Q (.ret d, a.2) else Q (.next, b.2)) : ∀ (fuel m : Nat) (ε : Env), m < fuel → I m ε → W (whileH c f fuel ε h1 h2) Q hh
  | 0, m, ε, hm, _ => absurd hm (Nat.not_lt_zero m)
  | n + 1, m, ε, hm, hi => by
    rw [whileH, whileLoop, W_bind]
    refine (ht m ε hi).mono fun b hb => ?_
    obtain ⟨b, ε1⟩ := b
    cases b with
    | false => simpa using hb
    | true =>
      simp only [if_true, W_bind] at hb ⊢
      refine hb.mono fun a ha => ?_
      obtain ⟨fl, ε2⟩ := a
      cases fl with
      | next => obtain ⟨m', h1, h2⟩ := ha; exact W_while (h1 := .mk) (h2 := .mk) (hh := hh) I ht n m' ε2 (by omega) h2
      | cont => obtain ⟨m', h1, h2⟩ := ha; exact W_while (h1 := .mk) (h2 := .mk) (hh := hh) I ht n m' ε2 (by omega) h2
      | brk => exact W_some.2 ha
      | ret d => exact W_some.2 ha
theorem run_at {T : Tab} {m : Nat} {f : Str} {fl : List Bool} {ds : List D} {F : Fn} (hF : T.fn f = some F) (hm : 1 ≤ m) : callF T m f fl ds = if ds.length = F.np ∧ (F.asgd.all fun i => (ds[i]?.map D.isP).getD true) then
      (exSs (cfgK T (m - 1) F.np F.fz) (lksOf 0 fl) F.body (ds.map some ++ List.replicate (F.ns - F.np) none)).bH fun (r, ε) =>
        match r with
        | .next => (ends F.np ε).mH fun ds => (.p .none, ds)
        | .ret d => (ends F.np ε).mH fun ds => (d, ds)
        | _ => none
    else none := by
  obtain ⟨n, rfl⟩ : ∃ n, m = n + 1 := ⟨m - 1, by omega⟩
  rw [run_eq hF, Nat.add_sub_cancel]
  all_goals rfl
@[simp] theorem lks_nil {i : Nat} : lksOf i [] = [] := rfl
@[simp] theorem lks_f {i : Nat} {bs : List Bool} : lksOf i (false :: bs) = lksOf (i + 1) bs := rfl
@[simp] theorem lks_t {i : Nat} {bs : List Bool} : lksOf i (true :: bs) = i :: lksOf (i + 1) bs := rfl
/-! calls -/
@[simp] theorem cw_eq {f : List Bool → List D → Option (D × List D)} {lk : List Nat} {es : List E} {ds : List D} {ε : Env} : callWith f lk es ds ε = if (impRoots es ds).Nodup then (f (argLks lk es ds) ds).mH fun (r, ds') => (r, wback lk es ds ds' ε) else none := rfl
@[simp] theorem ir_nil {ds : List D} : impRoots [] ds = [] := by cases ds <;> rfl
@[simp] theorem ir_p {e : E} {es : List E} {x : PyData} {ds : List D} : impRoots (e :: es) (.p x :: ds) = impRoots es ds := by simp [impRoots]
@[simp] theorem ir_l {e : E} {es : List E} {x : List D} {ds : List D} : impRoots (e :: es) (.lst x :: ds) = (root e).toList ++ impRoots es ds := by simp [impRoots]
@[simp] theorem ir_o {e : E} {es : List E} {c : Str} {x : List (Str × D)} {ds : List D} : impRoots (e :: es) (.obj c x :: ds) = (root e).toList ++ impRoots es ds := by simp [impRoots]
@[simp] theorem ir_d {e : E} {es : List E} {x : List (Key × D)} {ds : List D} : impRoots (e :: es) (.dic x :: ds) = (root e).toList ++ impRoots es ds := by simp [impRoots]
@[simp] theorem al_nil {lk : List Nat} {ds : List D} : argLks lk [] ds = [] := by cases ds <;> rfl
@[simp] theorem al_p {lk : List Nat} {e : E} {es : List E} {x : PyData} {ds : List D} : argLks lk (e :: es) (.p x :: ds) = false :: argLks lk es ds := by simp [argLks, argLk]
@[simp] theorem al_l {lk : List Nat} {e : E} {es : List E} {x : List D} {ds : List D} : argLks lk (e :: es) (.lst x :: ds) = argLk lk e (.lst x) :: argLks lk es ds := by simp [argLks]
@[simp] theorem al_o {lk : List Nat} {e : E} {es : List E} {c : Str} {x : List (Str × D)} {ds : List D} : argLks lk (e :: es) (.obj c x :: ds) = argLk lk e (.obj c x) :: argLks lk es ds := by simp [argLks]
@[simp] theorem al_d {lk : List Nat} {e : E} {es : List E} {x : List (Key × D)} {ds : List D} : argLks lk (e :: es) (.dic x :: ds) = argLk lk e (.dic x) :: argLks lk es ds := by simp [argLks]
@[simp] theorem alv_l {lk : List Nat} {i : Nat} {x : List D} : argLk lk (.var i) (.lst x) = decide (i ∈ lk) := by simp [argLk]
@[simp] theorem alv_o {lk : List Nat} {i : Nat} {c : Str} {x : List (Str × D)} : argLk lk (.var i) (.obj c x) = decide (i ∈ lk) := by simp [argLk]
@[simp] theorem alv_d {lk : List Nat} {i : Nat} {x : List (Key × D)} : argLk lk (.var i) (.dic x) = decide (i ∈ lk) := by simp [argLk]
@[simp] theorem rt_var {i : Nat} : root (.var i) = some i := rfl
@[simp] theorem rt_attr {a : E} {f : Str} : root (.attr a f) = root a := rfl
@[simp] theorem rt_idx {a i : E} : root (.idx a i) = root a := rfl
@[simp] theorem wb_nil {lk : List Nat} {ds ds' : List D} {ε : Env} : wback lk [] ds ds' ε = ε := by cases ds <;> rfl
@[simp] theorem wb_p {lk : List Nat} {e : E} {es : List E} {x : PyData} {d' : D} {ds ds' : List D} {ε : Env} : wback lk (e :: es) (.p x :: ds) (d' :: ds') ε = wback lk es ds ds' ε := by simp [wback]
@[simp] theorem wb_l {lk : List Nat} {i : Nat} {es : List E} {x : List D} {d' : D} {ds ds' : List D} {ε : Env} : wback lk (.var i :: es) (.lst x :: ds) (d' :: ds') ε = wback lk es ds ds' (if i ∈ lk then ε else ε.set i (some d')) := by simp [wback]
@[simp] theorem wb_o {lk : List Nat} {i : Nat} {es : List E} {c : Str} {x : List (Str × D)} {d' : D} {ds ds' : List D} {ε : Env} : wback lk (.var i :: es) (.obj c x :: ds) (d' :: ds') ε = wback lk es ds ds' (if i ∈ lk then ε else ε.set i (some d')) := by simp [wback]
@[simp] theorem wb_d {lk : List Nat} {i : Nat} {es : List E} {x : List (Key × D)} {d' : D} {ds ds' : List D} {ε : Env} : wback lk (.var i :: es) (.dic x :: ds) (d' :: ds') ε = wback lk es ds ds' (if i ∈ lk then ε else ε.set i (some d')) := by simp [wback]
@[simp] theorem sl_lit {n : Nat} : (no_index (OfNat.ofNat n : Nat) ≤ sizeLine) ↔ (OfNat.ofNat n : Nat) ≤ 16777216 := Iff.rfl
@[simp] theorem sl_1 : 1 ≤ sizeLine := by decide
@[simp] theorem itk_var {lk : List Nat} {i : Nat} {d : D} : itLk lk (.var i) d = lock lk (.var i) d := rfl
@[simp] theorem itk_call {lk : List Nat} {f : Str} {es : List E} {d : D} : itLk lk (.call f es) d = lock lk (.call f es) d := rfl
@[simp] theorem itk_idx {lk : List Nat} {a i : E} {d : D} : itLk lk (.idx a i) d = lock lk (.idx a i) d := rfl
@[simp] theorem itk_lst {lk : List Nat} {es : List E} {d : D} : itLk lk (.lst es) d = lock lk (.lst es) d := rfl
@[simp] theorem itk_tup {lk : List Nat} {es : List E} {d : D} : itLk lk (.tup es) d = lock lk (.tup es) d := rfl
@[simp] theorem itk_attr {lk : List Nat} {a : E} {f : Str} {d : D} : itLk lk (.attr a f) d = lock lk (.attr a f) d := rfl
@[simp] theorem itk_bin {lk : List Nat} {o : BOp} {a b : E} {d : D} : itLk lk (.bin o a b) d = lock lk (.bin o a b) d := rfl
@[simp] theorem itk_rng1 {lk : List Nat} {a : E} {d : D} : itLk lk (.rng1 a) d = lock lk (.rng1 a) d := rfl
@[simp] theorem itk_rng2 {lk : List Nat} {a b : E} {d : D} : itLk lk (.rng2 a b) d = lock lk (.rng2 a b) d := rfl
@[simp] theorem itk_slc {lk : List Nat} {a : E} {l h : Option E} {d : D} : itLk lk (.slc a l h) d = lock lk (.slc a l h) d := rfl
@[simp] theorem itk_comp {lk : List Nat} {e i : E} {t : Pt} {c : Option E} {o : List Nat} {d : D} : itLk lk (.comp e t i c o) d = lock lk (.comp e t i c o) d := rfl
@[simp] theorem itk_meth {lk : List Nat} {a : E} {f : Str} {es : List E} {d : D} : itLk lk (.meth a f es) d = lock lk (.meth a f es) d := rfl
@[simp] theorem itk_ite {lk : List Nat} {a b c : E} {d : D} : itLk lk (.ite a b c) d = lock lk (.ite a b c) d := rfl
@[simp] theorem itk_blt {lk : List Nat} {f : String} {es : List E} {d : D} : itLk lk (.blt f es) d = lock lk (.blt f es) d := rfl
@[simp] theorem itk_glob {lk : List Nat} {x : Str} {d : D} : itLk lk (.glob x) d = lock lk (.glob x) d := rfl
@[simp] theorem itk_enum {lk : List Nat} {a : E} {d : D} : itLk lk (.enum a) d = (root a).toList ++ lk := rfl
@[simp] theorem itk_zip {lk : List Nat} {a b : E} {d : D} : itLk lk (.zip a b) d = (root a).toList ++ ((root b).toList ++ lk) := rfl
@[simp] theorem rt_cst {x : PyData} : root (.cst x) = none := rfl
@[simp] theorem rt_glob {x : Str} : root (.glob x) = none := rfl
@[simp] theorem rt_call {f : Str} {es : List E} : root (.call f es) = none := rfl
@[simp] theorem rt_lst {es : List E} : root (.lst es) = none := rfl
@[simp] theorem rt_tup {es : List E} : root (.tup es) = none := rfl
@[simp] theorem rt_dic {ks es : List E} : root (.dic ks es) = none := rfl
@[simp] theorem rt_bin {o : BOp} {a b : E} : root (.bin o a b) = none := rfl
@[simp] theorem rt_cmp {o : COp} {a b : E} : root (.cmp o a b) = none := rfl
@[simp] theorem rt_slc {a : E} {l h : Option E} : root (.slc a l h) = none := rfl
@[simp] theorem rt_rev {a : E} : root (.rev a) = none := rfl
@[simp] theorem rt_comp {e i : E} {t : Pt} {c : Option E} {o : List Nat} : root (.comp e t i c o) = none := rfl
@[simp] theorem rt_new {f : Str} {es : List E} : root (.new f es) = none := rfl
@[simp] theorem rt_meth {a : E} {f : Str} {es : List E} : root (.meth a f es) = none := rfl
@[simp] theorem rt_mut {a : E} {f : String} {es : List E} : root (.mut a f es) = none := rfl
@[simp] theorem rt_ite {a b c : E} : root (.ite a b c) = none := rfl
@[simp] theorem rt_blt {f : String} {es : List E} : root (.blt f es) = none := rfl
@[simp] theorem rt_bm {a : E} {f : String} {es : List E} : root (.bm a f es) = none := rfl
@[simp] theorem rt_and {es : List E} : root (.and es) = none := rfl
@[simp] theorem rt_or {es : List E} : root (.or es) = none := rfl
@[simp] theorem sinks_l {e : E} {es : List E} {x : List D} {ds : List D} : sinks (e :: es) (.lst x :: ds) = ((root e).isNone && sinks es ds) := by simp [sinks]
@[simp] theorem sinks_o {e : E} {es : List E} {c : Str} {x : List (Str × D)} {ds : List D} : sinks (e :: es) (.obj c x :: ds) = ((root e).isNone && sinks es ds) := by simp [sinks]
@[simp] theorem sinks_d {e : E} {es : List E} {x : List (Key × D)} {ds : List D} : sinks (e :: es) (.dic x :: ds) = ((root e).isNone && sinks es ds) := by simp [sinks]
@[simp] theorem sink_l {e : E} {x : List D} : sink e (.lst x) = if (root e).isNone then some (.lst x) else none := by simp [sink]
@[simp] theorem sink_o {e : E} {c : Str} {x : List (Str × D)} : sink e (.obj c x) = if (root e).isNone then some (.obj c x) else none := by simp [sink]
@[simp] theorem sink_d {e : E} {x : List (Key × D)} : sink e (.dic x) = if (root e).isNone then some (.dic x) else none := by simp [sink]
@[simp] theorem lock_l {lk : List Nat} {e : E} {x : List D} : lock lk e (.lst x) = (root e).toList ++ lk := by simp [lock]; cases root e <;> rfl
@[simp] theorem lock_o {lk : List Nat} {e : E} {c : Str} {x : List (Str × D)} : lock lk e (.obj c x) = (root e).toList ++ lk := by simp [lock]; cases root e <;> rfl
@[simp] theorem lock_d {lk : List Nat} {e : E} {x : List (Key × D)} : lock lk e (.dic x) = (root e).toList ++ lk := by simp [lock]; cases root e <;> rfl
@[simp] theorem putD_eq {ε : Env} {i : Nat} {π : List St1} {v : D} : putD ε i π v = match ε[i]? with | some (some d) => d.putAt π v | _ => none := rfl
@[simp] theorem putAt_nil {d v : D} : d.putAt [] v = some v := rfl
@[simp] theorem putAt_cons {d v : D} {s : St1} {r : List St1} : d.putAt (s :: r) v = (d.step s).bH fun x => (x.putAt r v).bH fun y => d.put s y := rfl
@[simp] theorem mkTup_def {ds : List D} : mkTup ds = match allP ds with | some xs => .p (.tuple xs) | none => .tup ds := rfl
@[simp] theorem wbn_lst {lk : List Nat} {es1 : List E} {es : List E} {d d' : D} {ds ds' : List D} {ε : Env} : wback lk ((.lst es1) :: es) (d :: ds) (d' :: ds') ε = wback lk es ds ds' ε := by simp [wback]
@[simp] theorem aln_lst {lk : List Nat} {es1 : List E} {d : D} : argLk lk (.lst es1) d = false := by simp [argLk, root]
@[simp] theorem wbn_comp {lk : List Nat} {e1 i1 : E} {t1 : Pt} {c1 : Option E} {o1 : List Nat} {es : List E} {d d' : D} {ds ds' : List D} {ε : Env} : wback lk ((.comp e1 t1 i1 c1 o1) :: es) (d :: ds) (d' :: ds') ε = wback lk es ds ds' ε := by simp [wback]
@[simp] theorem aln_comp {lk : List Nat} {e1 i1 : E} {t1 : Pt} {c1 : Option E} {o1 : List Nat} {d : D} : argLk lk (.comp e1 t1 i1 c1 o1) d = false := by simp [argLk, root]
@[simp] theorem wbn_bin {lk : List Nat} {o1 : BOp} {a1 b1 : E} {es : List E} {d d' : D} {ds ds' : List D} {ε : Env} : wback lk ((.bin o1 a1 b1) :: es) (d :: ds) (d' :: ds') ε = wback lk es ds ds' ε := by simp [wback]
@[simp] theorem aln_bin {lk : List Nat} {o1 : BOp} {a1 b1 : E} {d : D} : argLk lk (.bin o1 a1 b1) d = false := by simp [argLk, root]
@[simp] theorem wbn_slc {lk : List Nat} {a1 : E} {l1 h1 : Option E} {es : List E} {d d' : D} {ds ds' : List D} {ε : Env} : wback lk ((.slc a1 l1 h1) :: es) (d :: ds) (d' :: ds') ε = wback lk es ds ds' ε := by simp [wback]
@[simp] theorem aln_slc {lk : List Nat} {a1 : E} {l1 h1 : Option E} {d : D} : argLk lk (.slc a1 l1 h1) d = false := by simp [argLk, root]
@[simp] theorem wbn_rev {lk : List Nat} {a1 : E} {es : List E} {d d' : D} {ds ds' : List D} {ε : Env} : wback lk ((.rev a1) :: es) (d :: ds) (d' :: ds') ε = wback lk es ds ds' ε := by simp [wback]
@[simp] theorem aln_rev {lk : List Nat} {a1 : E} {d : D} : argLk lk (.rev a1) d = false := by simp [argLk, root]
@[simp] theorem wbn_blt {lk : List Nat} {f1 : String} {es1 : List E} {es : List E} {d d' : D} {ds ds' : List D} {ε : Env} : wback lk ((.blt f1 es1) :: es) (d :: ds) (d' :: ds') ε = wback lk es ds ds' ε := by simp [wback]
@[simp] theorem aln_blt {lk : List Nat} {f1 : String} {es1 : List E} {d : D} : argLk lk (.blt f1 es1) d = false := by simp [argLk, root]
@[simp] theorem wbn_call {lk : List Nat} {f1 : Str} {es1 : List E} {es : List E} {d d' : D} {ds ds' : List D} {ε : Env} : wback lk ((.call f1 es1) :: es) (d :: ds) (d' :: ds') ε = wback lk es ds ds' ε := by simp [wback]
@[simp] theorem aln_call {lk : List Nat} {f1 : Str} {es1 : List E} {d : D} : argLk lk (.call f1 es1) d = false := by simp [argLk, root]
@[simp] theorem wbn_dic {lk : List Nat} {k1 es1 : List E} {es : List E} {d d' : D} {ds ds' : List D} {ε : Env} : wback lk ((.dic k1 es1) :: es) (d :: ds) (d' :: ds') ε = wback lk es ds ds' ε := by simp [wback]
@[simp] theorem aln_dic {lk : List Nat} {k1 es1 : List E} {d : D} : argLk lk (.dic k1 es1) d = false := by simp [argLk, root]
@[simp] theorem wbn_ite {lk : List Nat} {a1 b1 c1 : E} {es : List E} {d d' : D} {ds ds' : List D} {ε : Env} : wback lk ((.ite a1 b1 c1) :: es) (d :: ds) (d' :: ds') ε = wback lk es ds ds' ε := by simp [wback]
@[simp] theorem aln_ite {lk : List Nat} {a1 b1 c1 : E} {d : D} : argLk lk (.ite a1 b1 c1) d = false := by simp [argLk, root]
@[simp] theorem wbn_tup {lk : List Nat} {es1 : List E} {es : List E} {d d' : D} {ds ds' : List D} {ε : Env} : wback lk ((.tup es1) :: es) (d :: ds) (d' :: ds') ε = wback lk es ds ds' ε := by simp [wback]
@[simp] theorem aln_tup {lk : List Nat} {es1 : List E} {d : D} : argLk lk (.tup es1) d = false := by simp [argLk, root]
/-! types -/
def tInt : PyData → Bool | .int _ => true | .bool _ => true | _ => false
def tBool : PyData → Bool | .bool _ => true | _ => false
def tStr : PyData → Bool | .str _ => true | _ => false
def tTup : PyData → Bool | .tuple _ => true | _ => false
def tLst : PyData → Bool | .list _ => true | _ => false
def tDic : PyData → Bool | .dict _ => true | _ => false
@[simp] theorem ty_i {x : PyData} : isTy .int (.p x) = tInt x := by cases x <;> rfl
@[simp] theorem ty_b {x : PyData} : isTy .bool (.p x) = tBool x := by cases x <;> rfl
@[simp] theorem ty_s {x : PyData} : isTy .str (.p x) = tStr x := by cases x <;> rfl
@[simp] theorem ty_t {x : PyData} : isTy .tuple (.p x) = tTup x := by cases x <;> rfl
@[simp] theorem ty_l {x : PyData} : isTy .list (.p x) = tLst x := by cases x <;> rfl
@[simp] theorem ty_d {x : PyData} : isTy .dict (.p x) = tDic x := by cases x <;> rfl
@[simp] theorem tInt_n  : tInt (.none) = false := rfl
@[simp] theorem tBool_n  : tBool (.none) = false := rfl
@[simp] theorem tStr_n  : tStr (.none) = false := rfl
@[simp] theorem tTup_n  : tTup (.none) = false := rfl
@[simp] theorem tLst_n  : tLst (.none) = false := rfl
@[simp] theorem tDic_n  : tDic (.none) = false := rfl
@[simp] theorem tInt_b {b : Bool} : tInt (.bool b) = true := rfl
@[simp] theorem tBool_b {b : Bool} : tBool (.bool b) = true := rfl
@[simp] theorem tStr_b {b : Bool} : tStr (.bool b) = false := rfl
@[simp] theorem tTup_b {b : Bool} : tTup (.bool b) = false := rfl
@[simp] theorem tLst_b {b : Bool} : tLst (.bool b) = false := rfl
@[simp] theorem tDic_b {b : Bool} : tDic (.bool b) = false := rfl
@[simp] theorem tInt_i {i : Int} : tInt (.int i) = true := rfl
@[simp] theorem tBool_i {i : Int} : tBool (.int i) = false := rfl
@[simp] theorem tStr_i {i : Int} : tStr (.int i) = false := rfl
@[simp] theorem tTup_i {i : Int} : tTup (.int i) = false := rfl
@[simp] theorem tLst_i {i : Int} : tLst (.int i) = false := rfl
@[simp] theorem tDic_i {i : Int} : tDic (.int i) = false := rfl
@[simp] theorem tInt_s {s : Str} : tInt (.str s) = false := rfl
@[simp] theorem tBool_s {s : Str} : tBool (.str s) = false := rfl
@[simp] theorem tStr_s {s : Str} : tStr (.str s) = true := rfl
@[simp] theorem tTup_s {s : Str} : tTup (.str s) = false := rfl
@[simp] theorem tLst_s {s : Str} : tLst (.str s) = false := rfl
@[simp] theorem tDic_s {s : Str} : tDic (.str s) = false := rfl
@[simp] theorem tInt_t {xs : List PyData} : tInt (.tuple xs) = false := rfl
@[simp] theorem tBool_t {xs : List PyData} : tBool (.tuple xs) = false := rfl
@[simp] theorem tStr_t {xs : List PyData} : tStr (.tuple xs) = false := rfl
@[simp] theorem tTup_t {xs : List PyData} : tTup (.tuple xs) = true := rfl
@[simp] theorem tLst_t {xs : List PyData} : tLst (.tuple xs) = false := rfl
@[simp] theorem tDic_t {xs : List PyData} : tDic (.tuple xs) = false := rfl
@[simp] theorem tInt_l {xs : List PyData} : tInt (.list xs) = false := rfl
@[simp] theorem tBool_l {xs : List PyData} : tBool (.list xs) = false := rfl
@[simp] theorem tStr_l {xs : List PyData} : tStr (.list xs) = false := rfl
@[simp] theorem tTup_l {xs : List PyData} : tTup (.list xs) = false := rfl
@[simp] theorem tLst_l {xs : List PyData} : tLst (.list xs) = true := rfl
@[simp] theorem tDic_l {xs : List PyData} : tDic (.list xs) = false := rfl
@[simp] theorem tInt_d {xs : List (PyData × PyData)} : tInt (.dict xs) = false := rfl
@[simp] theorem tBool_d {xs : List (PyData × PyData)} : tBool (.dict xs) = false := rfl
@[simp] theorem tStr_d {xs : List (PyData × PyData)} : tStr (.dict xs) = false := rfl
@[simp] theorem tTup_d {xs : List (PyData × PyData)} : tTup (.dict xs) = false := rfl
@[simp] theorem tLst_d {xs : List (PyData × PyData)} : tLst (.dict xs) = false := rfl
@[simp] theorem tDic_d {xs : List (PyData × PyData)} : tDic (.dict xs) = true := rfl

theorem toNat_inj : ∀ {a b : List Char}, a.map Char.toNat = b.map Char.toNat → a = b
  | [], [], _ => rfl
  | [], _ :: _, h => by simp at h
  | _ :: _, [], h => by simp at h
  | x :: xs, y :: ys, h => by
    simp only [List.map_cons, List.cons.injEq] at h
    rw [toNat_inj h.2, Char.ext (UInt32.toNat_inj.1 h.1)]
@[simp] theorem ofS_inj {a b : String} : Str.ofString a = Str.ofString b ↔ a = b := by
  refine ⟨fun h => ?_, fun h => by rw [h]⟩
  rw [Str.ofString_eq_toList, Str.ofString_eq_toList] at h
  have h2 : a.toList.map Char.toNat = b.toList.map Char.toNat := by simpa using h
  exact String.toList_inj.1 (toNat_inj h2)
@[simp] theorem eqD_n0 : eqD (.lst []) (.lst []) = some true := rfl
@[simp] theorem eqD_n1 {d : D} {ds : List D} : eqD (.lst (d :: ds)) (.lst []) = some false := rfl
@[simp] theorem eqD_nil {xs : List PyData} : eqD (.lst (xs.map .p)) (.lst []) = some xs.isEmpty := by
  cases xs <;> simp [eqD, toPs, eqS, eqL]
theorem toPs_map (xs : List PyData) : toPs (xs.map .p) = some xs := by
  induction xs with
  | nil => rfl
  | cons x xs ih => simp [toPs, D.toP, ih]
@[simp] theorem fz_lst {xs : List PyData} : (D.lst (xs.map .p)).fz = .p (.list xs) := by simp [D.fz, D.toP, toPs_map]
@[simp] theorem fz_lst0 : (D.lst []).fz = .p (.list []) := by simp [D.fz, D.toP, toPs]
theorem inStr_one (c : Nat) (y : Str) : inStr ⟨#[c]⟩ y = decide (c ∈ y.cps.toList) := StrLaws.found_one y c
end Wh


set_option Elab.async false
set_option linter.all false
set_option maxRecDepth 100000
/-! core terms that laws share (printed by genc.py) -/
namespace Wh.C
open PySem L2 Wh
def c_is_whole : Fn := ⟨3, 3, [], true, [.ret (.and [(.isi (.var 0) [.int]), (.not (.isi (.var 0) [.bool])), (.cmp2 .le .le (.var 1) (.var 0) (.var 2))])]⟩
def c_is_name_k00 : Fn := ⟨1, 2, [], true, [.ite (.or [(.not (.isi (.var 0) [.str])), (.not (.cmp2 .le .le (.cst (.int 1)) (.blt "len" [(.var 0)]) (.glob "MAX_NAME"))), (.cmp .notin (.idx (.var 0) (.cst (.int 0))) (.glob "LETTERS"))]) [.ret (.cst (.bool false))] [],
  .ret (.and [(.cmp .eq (.comp (.var 1) (.var 1) (.var 0) (some (.cmp .notin (.var 1) (.glob "SIGNS"))) [1]) (.lst [])), (.cmp .notin (.var 0) (.glob "KEPT"))])]⟩
def c_is_expression : Fn := ⟨2, 2, [], true, [.ite (.cmp .eq (.var 1) (.cst (.int 0))) [.ret (.cst (.bool false))] [],
  .ite (.not (.isi (.var 0) [.tuple])) [.ret (.or [(.call "is_name" [(.var 0)]), (.call "is_whole" [(.var 0), (.bin .sub (.cst (.int 0)) (.glob "MOST_NUMBER")), (.glob "MOST_NUMBER")])])] [],
  .ite (.or [(.cmp .ne (.blt "len" [(.var 0)]) (.cst (.int 3))), (.not (.isi (.idx (.var 0) (.cst (.int 0))) [.str])), (.not (.call "is_expression" [(.idx (.var 0) (.cst (.int 2))), (.bin .sub (.var 1) (.cst (.int 1)))]))]) [.ret (.cst (.bool false))] [],
  .ite (.cmp .eq (.idx (.var 0) (.cst (.int 0))) (.cst (.str "times"))) [.ret (.call "is_whole" [(.idx (.var 0) (.cst (.int 1))), (.bin .sub (.cst (.int 0)) (.glob "MOST_FACTOR")), (.glob "MOST_FACTOR")])] [],
  .ret (.and [(.cmp .isin (.idx (.var 0) (.cst (.int 0))) (.tup [(.cst (.str "plus")), (.cst (.str "minus"))])), (.call "is_expression" [(.idx (.var 0) (.cst (.int 1))), (.bin .sub (.var 1) (.cst (.int 1)))])])]⟩
def c_is_rest : Fn := ⟨1, 1, [], true, [.ite (.or [(.cmp .ne (.blt "len" [(.var 0)]) (.cst (.int 4))), (.not (.call "is_expression" [(.idx (.var 0) (.cst (.int 1))), (.glob "MAX_DEEP")])), (.not (.call "is_whole" [(.idx (.var 0) (.cst (.int 2))), (.cst (.int 2)), (.glob "MAX_BY")]))]) [.ret (.cst (.bool false))] [],
  .ret (.call "is_whole" [(.idx (.var 0) (.cst (.int 3))), (.cst (.int 0)), (.bin .sub (.idx (.var 0) (.cst (.int 2))) (.cst (.int 1)))])]⟩
def c_is_test : Fn := ⟨2, 2, [], true, [.ite (.or [(.not (.isi (.var 0) [.tuple])), (.cmp .eq (.blt "len" [(.var 0)]) (.cst (.int 0))), (.not (.isi (.idx (.var 0) (.cst (.int 0))) [.str]))]) [.ret (.cst (.bool false))] [],
  .ite (.cmp .eq (.idx (.var 0) (.cst (.int 0))) (.cst (.str "less"))) [.ret (.and [(.cmp .eq (.blt "len" [(.var 0)]) (.cst (.int 3))), (.call "is_expression" [(.idx (.var 0) (.cst (.int 1))), (.glob "MAX_DEEP")]), (.call "is_expression" [(.idx (.var 0) (.cst (.int 2))), (.glob "MAX_DEEP")])])] [],
  .ite (.cmp .eq (.idx (.var 0) (.cst (.int 0))) (.cst (.str "rest"))) [.ret (.call "is_rest" [(.var 0)])] [],
  .ret (.and [(.cmp .eq (.idx (.var 0) (.cst (.int 0))) (.cst (.str "not"))), (.cmp .eq (.blt "len" [(.var 0)]) (.cst (.int 2))), (.cmp .gt (.var 1) (.cst (.int 0))), (.call "is_test" [(.idx (.var 0) (.cst (.int 1))), (.bin .sub (.var 1) (.cst (.int 1)))])])]⟩
def c_are_blocks : Fn := ⟨1, 2, [], true, [.ret (.cmp .eq (.comp (.var 1) (.var 1) (.var 0) (some (.not (.isi (.var 1) [.tuple]))) [1]) (.lst []))]⟩
def c_is_statement : Fn := ⟨1, 1, [], true, [.ite (.or [(.not (.isi (.var 0) [.tuple])), (.cmp .eq (.blt "len" [(.var 0)]) (.cst (.int 0))), (.not (.isi (.idx (.var 0) (.cst (.int 0))) [.str]))]) [.ret (.cst (.bool false))] [],
  .ite (.cmp .eq (.idx (.var 0) (.cst (.int 0))) (.cst (.str "set"))) [.ret (.and [(.cmp .eq (.blt "len" [(.var 0)]) (.cst (.int 3))), (.call "is_name" [(.idx (.var 0) (.cst (.int 1)))]), (.call "is_expression" [(.idx (.var 0) (.cst (.int 2))), (.glob "MAX_DEEP")])])] [],
  .ite (.cmp .eq (.idx (.var 0) (.cst (.int 0))) (.cst (.str "pay"))) [.ret (.and [(.cmp .eq (.blt "len" [(.var 0)]) (.cst (.int 2))), (.call "is_expression" [(.idx (.var 0) (.cst (.int 1))), (.glob "MAX_DEEP")])])] [],
  .ite (.cmp .eq (.idx (.var 0) (.cst (.int 0))) (.cst (.str "if"))) [.ret (.and [(.cmp .eq (.blt "len" [(.var 0)]) (.cst (.int 4))), (.call "is_test" [(.idx (.var 0) (.cst (.int 1))), (.glob "MAX_NOTS")]), (.call "are_blocks" [(.slc (.var 0) (some (.cst (.int 2))) none)])])] [],
  .ite (.cmp .eq (.idx (.var 0) (.cst (.int 0))) (.cst (.str "repeat"))) [.ret (.and [(.cmp .eq (.blt "len" [(.var 0)]) (.cst (.int 3))), (.call "is_whole" [(.idx (.var 0) (.cst (.int 1))), (.cst (.int 1)), (.glob "MAX_TIMES")]), (.call "are_blocks" [(.slc (.var 0) (some (.cst (.int 2))) none)])])] [],
  .ret (.cmp .eq (.var 0) (.tup [(.cst (.str "stop"))]))]⟩
def c_blocks_of : Fn := ⟨1, 1, [], true, [.ret (.ite (.cmp .isin (.idx (.var 0) (.cst (.int 0))) (.tup [(.cst (.str "if")), (.cst (.str "repeat"))])) (.blt "list" [(.slc (.var 0) (some (.cst (.int 2))) none)]) (.lst []))]⟩
def c_items_within : Fn := ⟨2, 5, [], true, [.asg (.pt (.var 2)) (.lst []),
  .for_ (.var 3) (.call "blocks_of" [(.var 0)]) [.expr (.mut (.var 2) "extend" [(.comp (.tup [(.bin .add (.var 1) (.cst (.int 1))), (.var 4)]) (.var 4) (.var 3) none [4])])],
  .ret (.rev (.var 2))]⟩
def c_rows_of : Fn := ⟨1, 6, [], true, [.par 1 2 (.rev (.comp (.tup [(.cst (.int 0)), (.var 5)]) (.var 5) (.var 0) none [5])) (.lst []),
  .whl (.cmp .ne (.var 1) (.lst [])) [.asg (.pt (.tup [(.var 3), (.var 4)])) (.mut (.var 1) "pop" []),
    .expr (.mut (.var 2) "append" [(.tup [(.var 3), (.var 4)])]),
    .expr (.mut (.var 1) "extend" [(.call "items_within" [(.var 4), (.var 3)])])],
  .ret (.var 2)]⟩
def c_order_error : Fn := ⟨1, 5, [], true, [.par 1 2 (.rev (.comp (.tup [(.cst (.int 0)), (.var 4)]) (.var 4) (.var 0) none [4])) (.cst (.int 0)),
  .whl (.cmp .ne (.var 1) (.lst [])) [.asg (.pt (.tup [(.var 3), (.var 4)])) (.mut (.var 1) "pop" []),
    .ite (.cmp .gt (.var 3) (.glob "MAX_NEST")) [.ret (.tup [(.var 2), (.cst (.str "nest"))])] [],
    .ite (.not (.call "is_statement" [(.var 4)])) [.ret (.tup [(.var 2), (.cst (.str "statement"))])] [],
    .expr (.mut (.var 1) "extend" [(.call "items_within" [(.var 4), (.var 3)])]),
    .aug 2 .add (.cst (.int 1))],
  .ret (.cst .none)]⟩
def c_bare : Fn := ⟨1, 1, [0], true, [.whl (.cmp .eq (.idx (.var 0) (.cst (.int 0))) (.cst (.str "not"))) [.asg (.pt (.var 0)) (.idx (.var 0) (.cst (.int 1)))],
  .ret (.var 0)]⟩
def c_own_count : Fn := ⟨2, 2, [], true, [.ite (.cmp .eq (.var 1) (.cst (.str "weight"))) [.ret (.cst (.int 1))] [],
  .ret (.blt "int" [(.and [(.cmp .eq (.idx (.var 0) (.cst (.int 0))) (.cst (.str "if"))), (.cmp .eq (.idx (.call "bare" [(.idx (.var 0) (.cst (.int 1)))]) (.cst (.int 0))) (.var 1))])])]⟩
def c_counted : Fn := ⟨2, 6, [], true, [.asg (.pt (.var 2)) (.cst (.int 0)),
  .for_ (.var 3) (.var 0) [.asg (.pt (.var 4)) (.blt "sum" [(.comp (.call "counted" [(.var 5), (.var 1)]) (.var 5) (.call "blocks_of" [(.var 3)]) none [5])]),
    .aug 2 .add (.bin .add (.call "own_count" [(.var 3), (.var 1)]) (.bin .mul (.var 4) (.ite (.cmp .eq (.idx (.var 3) (.cst (.int 0))) (.cst (.str "repeat"))) (.idx (.var 3) (.cst (.int 1))) (.cst (.int 1)))))],
  .ret (.var 2)]⟩
def c_weight : Fn := ⟨1, 1, [], true, [.ret (.call "counted" [(.var 0), (.cst (.str "weight"))])]⟩
def c_program_error : Fn := ⟨1, 2, [], true, [.ite (.not (.isi (.var 0) [.tuple])) [.ret (.tup [(.cst .none), (.cst (.str "program"))])] [],
  .asg (.pt (.var 1)) (.call "order_error" [(.var 0)]),
  .ite (.cmp .isn (.var 1) (.cst .none)) [.ret (.var 1)] [],
  .ite (.cmp .gt (.blt "len" [(.call "rows_of" [(.var 0)])]) (.glob "MAX_PLACES")) [.ret (.tup [(.cst .none), (.cst (.str "places"))])] [],
  .ite (.cmp .gt (.call "weight" [(.var 0)]) (.glob "MAX_WEIGHT")) [.ret (.tup [(.cst .none), (.cst (.str "weight"))])] [],
  .ite (.cmp .gt (.call "counted" [(.var 0), (.cst (.str "rest"))]) (.glob "MAX_RESTS")) [.ret (.tup [(.cst .none), (.cst (.str "rests"))])] [],
  .ret (.ite (.cmp .gt (.call "counted" [(.var 0), (.cst (.str "less"))]) (.glob "MAX_COMPARINGS")) (.tup [(.cst .none), (.cst (.str "comparings"))]) (.cst .none))]⟩
def c_places_in : Fn := ⟨1, 2, [], true, [.ret (.bin .add (.cst (.int 1)) (.blt "sum" [(.comp (.call "block_places" [(.var 1)]) (.var 1) (.call "blocks_of" [(.var 0)]) none [1])]))]⟩
def c_block_places : Fn := ⟨1, 2, [], true, [.ret (.blt "sum" [(.comp (.call "places_in" [(.var 1)]) (.var 1) (.var 0) none [1])])]⟩
def c_value_of : Fn := ⟨2, 5, [], true, [.ite (.isi (.var 0) [.str]) [.ret (.bm (.var 1) "get" [(.var 0), (.cst (.int 0))])] [],
  .ite (.isi (.var 0) [.int]) [.ret (.var 0)] [],
  .asg (.pt (.tup [(.var 2), (.var 3), (.var 4)])) (.var 0),
  .ite (.cmp .eq (.var 2) (.cst (.str "times"))) [.ret (.bin .mul (.var 3) (.call "value_of" [(.var 4), (.var 1)]))] [],
  .ite (.cmp .eq (.var 2) (.cst (.str "plus"))) [.ret (.bin .add (.call "value_of" [(.var 3), (.var 1)]) (.call "value_of" [(.var 4), (.var 1)]))] [],
  .ret (.bin .sub (.call "value_of" [(.var 3), (.var 1)]) (.call "value_of" [(.var 4), (.var 1)]))]⟩
def c_is_true : Fn := ⟨2, 2, [], true, [.ite (.cmp .eq (.idx (.var 0) (.cst (.int 0))) (.cst (.str "not"))) [.ret (.not (.call "is_true" [(.idx (.var 0) (.cst (.int 1))), (.var 1)]))] [],
  .ite (.cmp .eq (.idx (.var 0) (.cst (.int 0))) (.cst (.str "rest"))) [.ret (.cmp .eq (.bin .mod (.call "value_of" [(.idx (.var 0) (.cst (.int 1))), (.var 1)]) (.idx (.var 0) (.cst (.int 2)))) (.idx (.var 0) (.cst (.int 3))))] [],
  .ret (.cmp .lt (.call "value_of" [(.idx (.var 0) (.cst (.int 1))), (.var 1)]) (.call "value_of" [(.idx (.var 0) (.cst (.int 2))), (.var 1)]))]⟩
def c_run : Fn := ⟨2, 3, [], true, [.asg (.pt (.var 2)) (.new "Course" [(.var 1)]),
  .expr (.meth (.var 2) "go" [(.var 0), (.cst (.int 0))]),
  .ret (.tup [(.attr (.var 2) "total"), (.blt "tuple" [(.attr (.var 2) "places")])])]⟩
def c_sign_of : Fn := ⟨1, 1, [], true, [.ret (.bin .sub (.blt "int" [(.cmp .gt (.var 0) (.cst (.int 0)))]) (.blt "int" [(.cmp .lt (.var 0) (.cst (.int 0)))]))]⟩
def c_sign : Fn := ⟨2, 2, [], true, [.ret (.call "sign_of" [(.idx (.call "run" [(.var 0), (.var 1)]) (.cst (.int 0)))])]⟩
def c_family_error : Fn := ⟨1, 4, [], true, [.ite (.not (.isi (.var 0) [.tuple])) [.ret (.tup [(.cst .none), (.cst (.str "family"))])] [],
  .ite (.not (.cmp2 .le .le (.cst (.int 1)) (.blt "len" [(.var 0)]) (.glob "MAX_FAMILY"))) [.ret (.tup [(.cst .none), (.cst (.str "many"))])] [],
  .for_ (.tup [(.var 1), (.var 2)]) (.enum (.var 0)) [.asg (.pt (.var 3)) (.call "program_error" [(.var 2)]),
    .ite (.cmp .isn (.var 3) (.cst .none)) [.ret (.tup [(.var 1), (.var 3)])] []],
  .ret (.cst .none)]⟩
def c_signs_at : Fn := ⟨2, 3, [], true, [.ret (.blt "tuple" [(.comp (.call "sign" [(.var 2), (.var 1)]) (.var 2) (.var 0) none [2])])]⟩
def c_is_integer : Fn := ⟨1, 1, [], true, [.ret (.and [(.isi (.var 0) [.int]), (.not (.isi (.var 0) [.bool]))])]⟩
def c_heard_error : Fn := ⟨1, 3, [], true, [.ite (.not (.isi (.var 0) [.tuple])) [.ret (.tup [(.cst .none), (.cst (.str "heard"))])] [],
  .for_ (.tup [(.var 1), (.var 2)]) (.enum (.var 0)) [.ite (.not (.call "is_heard_pair" [(.var 2)])) [.ret (.tup [(.var 1), (.cst (.str "pair"))])] []],
  .ret (.ite (.cmp .gt (.blt "len" [(.var 0)]) (.glob "MAX_HEARD")) (.tup [(.cst .none), (.cst (.str "many"))]) (.cst .none))]⟩
def c_wrong_of : Fn := ⟨2, 4, [], true, [.ret (.blt "len" [(.comp (.var 2) (.tup [(.var 2), (.var 3)]) (.var 1) (some (.cmp .ne (.call "sign" [(.var 0), (.var 2)]) (.var 3))) [2, 3])])]⟩
def c_left : Fn := ⟨3, 5, [], true, [.ret (.blt "tuple" [(.comp (.var 3) (.tup [(.var 3), (.var 4)]) (.enum (.var 0)) (some (.cmp .le (.call "wrong_of" [(.var 4), (.var 1)]) (.var 2))) [3, 4])])]⟩
def c__law_deck : Fn := ⟨1, 2, [], false, [.ret (.lst [(.comp (.blt "abs" [(.var 1)]) (.var 1) (.slc (.var 0) none (some (.cst (.int 63)))) none [1]), (.cst (.int 0))])]⟩
def c__law_draw_k00 : Fn := ⟨2, 5, [], true, [.asg (.sub (.var 0) (.cst (.int 1))) (.bin .add (.idx (.var 0) (.cst (.int 1))) (.cst (.int 1))),
  .asg (.pt (.tup [(.var 2), (.var 3)])) (.tup [(.cst (.int 0)), (.neg (.cst (.int 1)))]),
  .ite (.cmp .gt (.blt "len" [(.idx (.var 0) (.cst (.int 0)))]) (.cst (.int 0))) [.asg (.pt (.var 3)) (.bin .mod (.blt "int" [(.idx (.var 0) (.cst (.int 1)))]) (.blt "len" [(.idx (.var 0) (.cst (.int 0)))])),
    .asg (.pt (.var 2)) (.idx (.idx (.var 0) (.cst (.int 0))) (.var 3))] [],
  .ite (.cmp .ge (.var 2) (.bin .pow (.cst (.int 10)) (.cst (.int 18)))) [.asg (.sub (.idx (.var 0) (.cst (.int 0))) (.var 3)) (.bin .fdiv (.blt "int" [(.var 2)]) (.var 1)),
    .ret (.bin .mod (.blt "int" [(.var 2)]) (.var 1))] [],
  .asg (.pt (.var 4)) (.bin .add (.bin .add (.bin .mod (.blt "int" [(.var 2)]) (.cst (.int 2147483563))) (.bin .mul (.cst (.int 8117)) (.idx (.var 0) (.cst (.int 1))))) (.cst (.int 3))),
  .ret (.bin .mod (.blt "int" [(.bin .mod (.blt "int" [(.bin .pow (.var 4) (.cst (.int 5)))]) (.cst (.int 2147483629)))]) (.var 1))]⟩
def c__law_draw_k30 : Fn := ⟨2, 5, [], true, [.asg (.sub (.var 0) (.cst (.int 1))) (.bin .add (.idx (.var 0) (.cst (.int 1))) (.cst (.int 1))),
  .asg (.pt (.tup [(.var 2), (.var 3)])) (.tup [(.cst (.int 0)), (.neg (.cst (.int 1)))]),
  .ite (.cmp .gt (.blt "len" [(.idx (.var 0) (.cst (.int 0)))]) (.cst (.int 0))) [.asg (.pt (.var 3)) (.bin .mod (.blt "int" [(.idx (.var 0) (.cst (.int 1)))]) (.blt "len" [(.idx (.var 0) (.cst (.int 0)))])),
    .asg (.pt (.var 2)) (.idx (.idx (.var 0) (.cst (.int 0))) (.var 3))] [],
  .ite (.cmp .ge (.var 2) (.bin .pow (.cst (.int 10)) (.cst (.int 18)))) [.asg (.sub (.idx (.var 0) (.cst (.int 0))) (.var 3)) (.bin .fdiv (.blt "int" [(.var 2)]) (.var 1)),
    .ret (.bin .mod (.blt "int" [(.var 2)]) (.var 1))] [],
  .asg (.pt (.var 4)) (.bin .add (.bin .add (.bin .mod (.blt "int" [(.var 2)]) (.cst (.int 2147483543))) (.bin .mul (.cst (.int 9311)) (.idx (.var 0) (.cst (.int 1))))) (.cst (.int 7))),
  .ret (.bin .mod (.blt "int" [(.bin .mod (.blt "int" [(.bin .pow (.var 4) (.cst (.int 5)))]) (.cst (.int 2147483587)))]) (.var 1))]⟩
def c__law_one : Fn := ⟨2, 2, [], true, [.ret (.idx (.var 1) (.call "_law_draw" [(.var 0), (.blt "len" [(.var 1)])]))]⟩
def c__law_value_k14 : Fn := ⟨2, 4, [], true, [.ite (.isi (.var 1) [.int]) [.ret (.var 1)] [],
  .ite (.isi (.var 1) [.str]) [.ret (.bm (.var 0) "get" [(.var 1), (.cst (.int 0))])] [],
  .ite (.cmp .eq (.idx (.var 1) (.cst (.int 0))) (.cst (.str "times"))) [.ret (.bin .mul (.idx (.var 1) (.cst (.int 1))) (.call "_law_value" [(.var 0), (.idx (.var 1) (.cst (.int 2)))]))] [],
  .par 2 3 (.call "_law_value" [(.var 0), (.idx (.var 1) (.cst (.int 1)))]) (.call "_law_value" [(.var 0), (.idx (.var 1) (.cst (.int 2)))]),
  .ret (.ite (.cmp .eq (.idx (.var 1) (.cst (.int 0))) (.cst (.str "plus"))) (.bin .add (.var 2) (.var 3)) (.bin .sub (.var 2) (.var 3)))]⟩
def c__law_value_k25 : Fn := ⟨2, 4, [], true, [.ite (.isi (.var 0) [.int]) [.ret (.var 0)] [],
  .ite (.isi (.var 0) [.str]) [.ret (.bm (.var 1) "get" [(.var 0), (.cst (.int 0))])] [],
  .asg (.pt (.var 2)) (.call "_law_value" [(.idx (.var 0) (.cst (.int 2))), (.var 1)]),
  .ite (.cmp .eq (.idx (.var 0) (.cst (.int 0))) (.cst (.str "times"))) [.ret (.bin .mul (.idx (.var 0) (.cst (.int 1))) (.var 2))] [],
  .asg (.pt (.var 3)) (.call "_law_value" [(.idx (.var 0) (.cst (.int 1))), (.var 1)]),
  .ret (.ite (.cmp .eq (.idx (.var 0) (.cst (.int 0))) (.cst (.str "plus"))) (.bin .add (.var 3) (.var 2)) (.bin .sub (.var 3) (.var 2)))]⟩
def c_NoPlace_init : Fn := ⟨2, 2, [], true, [.expr (.meth (.glob "LookupError") "__init__" [(.var 0), (.cst (.str "NoPlace"))]),
  .asg (.attr (.var 0) "place") (.var 1)]⟩
def c_Course_init : Fn := ⟨2, 2, [], true, [.asg (.attr (.var 0) "names") (.dic [(.glob "INPUT")] [(.var 1)]),
  .asg (.attr (.var 0) "total") (.cst (.int 0)),
  .asg (.attr (.var 0) "places") (.lst []),
  .asg (.attr (.var 0) "is_stopped") (.cst (.bool false))]⟩
def c_Course_parts : Fn := ⟨3, 3, [], true, [.ite (.cmp .eq (.idx (.var 1) (.cst (.int 0))) (.cst (.str "repeat"))) [.ret (.bin .mul (.lst [(.tup [(.idx (.var 1) (.cst (.int 2))), (.bin .add (.var 2) (.cst (.int 1)))])]) (.idx (.var 1) (.cst (.int 1))))] [],
  .ite (.call "is_true" [(.idx (.var 1) (.cst (.int 1))), (.attr (.var 0) "names")]) [.ret (.lst [(.tup [(.idx (.var 1) (.cst (.int 2))), (.bin .add (.var 2) (.cst (.int 1)))])])] [],
  .ret (.lst [(.tup [(.idx (.var 1) (.cst (.int 3))), (.bin .add (.bin .add (.var 2) (.cst (.int 1))) (.call "block_places" [(.idx (.var 1) (.cst (.int 2)))]))])])]⟩
def c_Course_do : Fn := ⟨3, 5, [], true, [.expr (.mut (.attr (.var 0) "places") "append" [(.var 2)]),
  .ite (.cmp .eq (.idx (.var 1) (.cst (.int 0))) (.cst (.str "set"))) [.asg (.sub (.attr (.var 0) "names") (.idx (.var 1) (.cst (.int 1)))) (.call "value_of" [(.idx (.var 1) (.cst (.int 2))), (.attr (.var 0) "names")])] [.ite (.cmp .eq (.idx (.var 1) (.cst (.int 0))) (.cst (.str "pay"))) [.auga (.var 0) "total" .add (.call "value_of" [(.idx (.var 1) (.cst (.int 1))), (.attr (.var 0) "names")])] [.ite (.cmp .eq (.idx (.var 1) (.cst (.int 0))) (.cst (.str "stop"))) [.asg (.attr (.var 0) "is_stopped") (.cst (.bool true))] [.for_ (.tup [(.var 3), (.var 4)]) (.meth (.var 0) "parts" [(.var 1), (.var 2)]) [.expr (.meth (.var 0) "go" [(.var 3), (.var 4)])]]]]]⟩
def c_Course_go : Fn := ⟨3, 4, [2], true, [.for_ (.var 3) (.var 1) [.ite (.not (.attr (.var 0) "is_stopped")) [.expr (.meth (.var 0) "do" [(.var 3), (.var 2)])] [],
    .aug 2 .add (.call "places_in" [(.var 3)])]]⟩
def c__law_test_k22 : Fn := ⟨4, 9, [], true, [.par 4 5 (.bin .sub (.call "_law_draw" [(.var 0), (.cst (.int 5))]) (.cst (.int 2))) (.tup []),
  .ite (.and [(.cmp .eq (.call "_law_draw" [(.var 0), (.cst (.int 2))]) (.cst (.int 0))), (.cmp .ge (.idx (.var 2) (.cst (.int 2))) (.var 3))]) [.asg (.sub (.var 2) (.cst (.int 2))) (.bin .sub (.idx (.var 2) (.cst (.int 2))) (.var 3)),
    .asg (.pt (.var 6)) (.bin .add (.cst (.int 2)) (.call "_law_draw" [(.var 0), (.cst (.int 5))])),
    .asg (.pt (.var 5)) (.tup [(.cst (.str "rest")), (.call "_law_expression" [(.var 0), (.var 1), (.cst (.int 3))]), (.var 6), (.call "_law_draw" [(.var 0), (.var 6)])])] [.ite (.cmp .ge (.idx (.var 2) (.cst (.int 3))) (.var 3)) [.asg (.sub (.var 2) (.cst (.int 3))) (.bin .sub (.idx (.var 2) (.cst (.int 3))) (.var 3)),
      .asg (.pt (.var 7)) (.call "_law_expression" [(.var 0), (.var 1), (.cst (.int 3))]),
      .asg (.pt (.var 5)) (.tup [(.cst (.str "less")), (.var 7), (.call "_law_one" [(.var 0), (.lst [(.bin .sub (.call "_law_draw" [(.var 0), (.cst (.int 41))]) (.cst (.int 20))), (.call "_law_expression" [(.var 0), (.var 1), (.cst (.int 3))])])])])] []],
  .for_ (.var 8) (.rng1 (.ite (.cmp .ne (.var 5) (.tup [])) (.blt "max" [(.cst (.int 0)), (.var 4)]) (.cst (.int 0)))) [.asg (.pt (.var 5)) (.tup [(.cst (.str "not")), (.var 5)])],
  .ret (.var 5)]⟩
def c__law_test_k30 : Fn := ⟨4, 10, [], true, [.asg (.pt (.tup [(.var 4), (.var 5), (.var 6)])) (.tup [(.bin .sub (.call "_law_draw" [(.var 0), (.cst (.int 5))]) (.cst (.int 2))), (.call "_law_draw" [(.var 0), (.cst (.int 2))]), (.tup [])]),
  .ite (.and [(.or [(.cmp .eq (.var 5) (.cst (.int 0))), (.cmp .lt (.idx (.var 2) (.cst (.int 3))) (.var 3))]), (.cmp .ge (.idx (.var 2) (.cst (.int 2))) (.var 3))]) [.asg (.sub (.var 2) (.cst (.int 2))) (.bin .sub (.idx (.var 2) (.cst (.int 2))) (.var 3)),
    .asg (.pt (.var 7)) (.bin .add (.cst (.int 2)) (.call "_law_draw" [(.var 0), (.cst (.int 5))])),
    .asg (.pt (.var 6)) (.tup [(.cst (.str "rest")), (.call "_law_expression" [(.var 0), (.var 1), (.cst (.int 3))]), (.var 7), (.call "_law_draw" [(.var 0), (.var 7)])])] [.ite (.cmp .ge (.idx (.var 2) (.cst (.int 3))) (.var 3)) [.asg (.sub (.var 2) (.cst (.int 3))) (.bin .sub (.idx (.var 2) (.cst (.int 3))) (.var 3)),
      .asg (.pt (.var 8)) (.call "_law_one" [(.var 0), (.lst [(.cst (.str "n")), (.call "_law_expression" [(.var 0), (.var 1), (.cst (.int 2))])])]),
      .asg (.pt (.var 6)) (.tup [(.cst (.str "less")), (.var 8), (.call "_law_one" [(.var 0), (.lst [(.bin .sub (.call "_law_draw" [(.var 0), (.cst (.int 41))]) (.cst (.int 20))), (.call "_law_expression" [(.var 0), (.var 1), (.cst (.int 2))])])])])] []],
  .for_ (.var 9) (.rng1 (.ite (.and [(.cmp .gt (.var 4) (.cst (.int 0))), (.cmp .ne (.var 6) (.tup []))]) (.var 4) (.cst (.int 0)))) [.asg (.pt (.var 6)) (.tup [(.cst (.str "not")), (.var 6)])],
  .ret (.var 6)]⟩
def c__law_block_k22 : Fn := ⟨5, 9, [], true, [.ite (.cmp .gt (.var 4) (.cst (.int 3))) [.ret (.tup [])] [],
  .par 5 6 (.bin .add (.call "_law_draw" [(.var 0), (.cst (.int 4))]) (.blt "int" [(.cmp .eq (.var 4) (.cst (.int 0)))])) (.lst []),
  .for_ (.var 7) (.rng1 (.var 5)) [.expr (.mut (.var 6) "append" [(.call "_law_row" [(.var 0), (.var 1), (.var 2), (.var 3), (.var 4)])])],
  .ret (.blt "tuple" [(.comp (.var 8) (.var 8) (.var 6) (some (.cmp .ne (.var 8) (.tup []))) [8])])]⟩
def c__law_statement_k21 : Fn := ⟨2, 10, [], true, [.asg (.pt (.tup [(.var 2), (.var 3)])) (.comp (.call "_law_deep" [(.var 0), (.var 1), (.bin .add (.cst (.int 1)) (.call "_law_draw" [(.var 0), (.cst (.int 4))]))]) (.var 6) (.rng1 (.cst (.int 2))) none [6]),
  .asg (.pt (.var 4)) (.bin .add (.cst (.int 1)) (.call "_law_draw" [(.var 0), (.cst (.int 7))])),
  .asg (.pt (.var 5)) (.call "_law_one" [(.var 0), (.lst [(.tup [(.cst (.str "rest")), (.var 2), (.var 4), (.call "_law_draw" [(.var 0), (.var 4)])]), (.tup [(.cst (.str "less")), (.var 2), (.var 3)])])]),
  .for_ (.var 6) (.rng1 (.blt "max" [(.cst (.int 0)), (.bin .sub (.call "_law_draw" [(.var 0), (.cst (.int 6))]) (.cst (.int 2)))])) [.asg (.pt (.var 5)) (.tup [(.cst (.str "not")), (.var 5)])],
  .asg (.pt (.var 7)) (.call "_law_one" [(.var 0), (.bin .add (.var 1) (.lst [(.bin .add (.idx (.var 1) (.cst (.int 1))) (.cst (.str "ab")))]))]),
  .asg (.pt (.var 8)) (.blt "tuple" [(.slc (.lst [(.tup [(.cst (.str "pay")), (.var 2)]), (.tup [(.cst (.str "stop"))]), (.tup [(.cst (.str "set")), (.var 7), (.var 3)])]) none (some (.call "_law_draw" [(.var 0), (.cst (.int 4))])))]),
  .asg (.pt (.var 9)) (.lst [(.tup [(.cst (.str "set")), (.var 7), (.var 2)]), (.tup [(.cst (.str "pay")), (.var 2)]), (.tup [(.cst (.str "stop"))]), (.tup [(.cst (.str "if")), (.var 5), (.var 8), (.tup [])]), (.tup [(.cst (.str "if")), (.var 5), (.tup []), (.var 8)])]),
  .asg (.pt (.var 9)) (.bin .add (.var 9) (.lst [(.tup [(.cst (.str "if")), (.var 5), (.var 8), (.var 8)]), (.tup [(.cst (.str "repeat")), (.bin .add (.cst (.int 1)) (.call "_law_draw" [(.var 0), (.cst (.int 3))])), (.var 8)])])),
  .ret (.call "_law_one" [(.var 0), (.bin .add (.var 9) (.lst [(.tup [(.cst (.str "repeat")), (.call "_law_draw" [(.var 0), (.cst (.int 10))]), (.var 8)])]))])]⟩
def c__law_program_k22 : Fn := ⟨2, 5, [], true, [.par 2 3 (.lst [(.cst (.int 24)), (.cst (.int 30)), (.cst (.int 2)), (.cst (.int 2))]) (.tup []),
  .for_ (.var 4) (.rng1 (.bin .add (.cst (.int 1)) (.call "_law_draw" [(.var 0), (.cst (.int 4))]))) [.asg (.pt (.var 3)) (.bin .add (.var 3) (.call "_law_block" [(.var 0), (.var 1), (.var 2), (.cst (.int 1)), (.cst (.int 0))]))],
  .ite (.or [(.cmp .lt (.idx (.var 2) (.cst (.int 0))) (.cst (.int 1))), (.cmp .lt (.idx (.var 2) (.cst (.int 1))) (.cst (.int 1))), (.cmp .eq (.call "_law_draw" [(.var 0), (.cst (.int 4))]) (.cst (.int 0)))]) [.ret (.var 3)] [],
  .ret (.bin .add (.var 3) (.tup [(.tup [(.cst (.str "pay")), (.call "_law_expression" [(.var 0), (.var 1), (.cst (.int 2))])])]))]⟩
def c__law_program_k30 : Fn := ⟨2, 5, [], true, [.par 2 3 (.lst [(.cst (.int 10)), (.cst (.int 14)), (.cst (.int 2)), (.cst (.int 2))]) (.tup []),
  .ite (.cmp .eq (.call "_law_draw" [(.var 0), (.cst (.int 2))]) (.cst (.int 0))) [.asg (.pt (.var 3)) (.tup [(.tup [(.cst (.str "set")), (.idx (.var 1) (.cst (.int 1))), (.tup [(.cst (.str "plus")), (.cst (.str "n")), (.bin .sub (.call "_law_draw" [(.var 0), (.cst (.int 41))]) (.cst (.int 20)))])])])] [],
  .for_ (.var 4) (.rng1 (.bin .add (.cst (.int 1)) (.call "_law_draw" [(.var 0), (.cst (.int 2))]))) [.asg (.pt (.var 3)) (.bin .add (.var 3) (.call "_law_block" [(.var 0), (.var 1), (.var 2), (.cst (.int 1)), (.cst (.int 0))]))],
  .ret (.bin .add (.var 3) (.tup [(.tup [(.cst (.str "pay")), (.call "_law_expression" [(.var 0), (.var 1), (.cst (.int 2))])])]))]⟩
def c__law_names_k21 : Fn := ⟨1, 9, [], true, [.asg (.pt (.var 1)) (.cst (.str "abcdefghijklmnopqrstuvwxyz")),
  .asg (.pt (.var 2)) (.bin .add (.var 1) (.cst (.str "0123456789"))),
  .asg (.pt (.var 3)) (.lst [(.cst (.str "turns")), (.cst (.str "items")), (.cst (.str "total")), (.cst (.str "plus")), (.cst (.str "less")), (.cst (.str "times")), (.cst (.str "minus")), (.cst (.str "worth")), (.cst (.str "signs")), (.cst (.str "rows")), (.cst (.str "none")), (.cst (.str "place"))]),
  .par 4 5 (.call "_law_draw" [(.var 0), (.cst (.int 60))]) (.call "_law_one" [(.var 0), (.lst [(.cst (.int 0)), (.cst (.int 1)), (.cst (.int 2)), (.cst (.int 3)), (.cst (.int 5)), (.cst (.int 6)), (.cst (.int 7))])]),
  .ite (.cmp .lt (.var 4) (.cst (.int 10))) [.ret (.bin .add (.lst [(.cst (.str "n"))]) (.slc (.var 3) (some (.var 4)) (some (.bin .add (.var 4) (.cst (.int 3))))))] [],
  .asg (.pt (.var 6)) (.bm (.cst (.str "")) "join" [(.comp (.call "_law_one" [(.var 0), (.var 1)]) (.var 8) (.rng1 (.var 5)) none [8])]),
  .asg (.pt (.var 7)) (.bm (.cst (.str "")) "join" [(.comp (.call "_law_one" [(.var 0), (.var 2)]) (.var 8) (.rng1 (.call "_law_draw" [(.var 0), (.bin .sub (.cst (.int 8)) (.var 5))])) none [8])]),
  .ret (.bin .add (.lst [(.cst (.str "n"))]) (.comp (.bin .add (.bin .add (.var 6) (.idx (.cst (.str "qvz")) (.var 8))) (.var 7)) (.var 8) (.rng1 (.cst (.int 3))) none [8]))]⟩
def c__law_names_k30 : Fn := ⟨1, 9, [], true, [.asg (.pt (.var 1)) (.cst (.str "abcdefgijkmoquvwxyz")),
  .asg (.pt (.tup [(.var 2), (.var 3)])) (.tup [(.bin .add (.var 1) (.cst (.str "0123456789"))), (.call "_law_one" [(.var 0), (.lst [(.cst (.int 0)), (.cst (.int 1)), (.cst (.int 2)), (.cst (.int 3)), (.cst (.int 5)), (.cst (.int 6)), (.cst (.int 7))])])]),
  .ite (.cmp .eq (.call "_law_draw" [(.var 0), (.cst (.int 6))]) (.cst (.int 0))) [.par 4 5 (.call "_law_draw" [(.var 0), (.cst (.int 5))]) (.lst [(.cst (.str "turns")), (.cst (.str "items")), (.cst (.str "total")), (.cst (.str "number")), (.cst (.str "names")), (.cst (.str "place")), (.cst (.str "rows"))]),
    .ret (.bin .add (.lst [(.cst (.str "n"))]) (.slc (.var 5) (some (.var 4)) (some (.bin .add (.var 4) (.cst (.int 3))))))] [],
  .asg (.pt (.var 6)) (.bm (.cst (.str "")) "join" [(.comp (.call "_law_one" [(.var 0), (.var 1)]) (.var 8) (.rng1 (.var 3)) none [8])]),
  .asg (.pt (.var 7)) (.bm (.cst (.str "")) "join" [(.comp (.call "_law_one" [(.var 0), (.var 2)]) (.var 8) (.rng1 (.call "_law_draw" [(.var 0), (.bin .sub (.cst (.int 8)) (.var 3))])) none [8])]),
  .ret (.bin .add (.lst [(.cst (.str "n"))]) (.comp (.bin .add (.bin .add (.var 6) (.idx (.cst (.str "qvz")) (.var 8))) (.var 7)) (.var 8) (.rng1 (.cst (.int 3))) none [8]))]⟩
def c__law_family_k28 : Fn := ⟨2, 4, [], true, [.asg (.pt (.var 2)) (.comp (.call "_law_program" [(.var 0), (.var 1)]) (.var 3) (.rng1 (.bin .add (.cst (.int 1)) (.call "_law_draw" [(.var 0), (.cst (.int 4))]))) none [3]),
  .ite (.cmp .eq (.call "_law_draw" [(.var 0), (.cst (.int 2))]) (.cst (.int 0))) [.expr (.mut (.var 2) "append" [(.call "_law_one" [(.var 0), (.bin .add (.var 2) (.lst [(.tup [])]))])])] [],
  .ret (.blt "tuple" [(.var 2)])]⟩
def c__law_family_k30 : Fn := ⟨3, 6, [], true, [.asg (.pt (.var 3)) (.lst [(.call "_law_little" [(.var 0), (.var 1)])]),
  .for_ (.var 4) (.rng1 (.call "_law_draw" [(.var 0), (.var 2)])) [.asg (.pt (.var 5)) (.call "_law_draw" [(.var 0), (.cst (.int 6))]),
    .ite (.cmp .eq (.var 5) (.cst (.int 0))) [.expr (.mut (.var 3) "append" [(.call "_law_one" [(.var 0), (.var 3)])])] [.ite (.cmp .eq (.var 5) (.cst (.int 1))) [.expr (.mut (.var 3) "append" [(.bin .add (.slc (.call "_law_one" [(.var 0), (.var 3)]) none (some (.cst (.int 14)))) (.tup [(.tup [(.cst (.str "pay")), (.bin .sub (.call "_law_draw" [(.var 0), (.cst (.int 3))]) (.cst (.int 1)))])]))])] [.expr (.mut (.var 3) "append" [(.call "_law_little" [(.var 0), (.var 1)])])]]],
  .ret (.blt "tuple" [(.var 3)])]⟩
def c__law_parts_k21 : Fn := ⟨1, 1, [], true, [.ret (.ite (.cmp .isin (.idx (.var 0) (.cst (.int 0))) (.tup [(.cst (.str "if")), (.cst (.str "repeat"))])) (.slc (.var 0) (some (.cst (.int 2))) none) (.tup []))]⟩
def c__law_is_name_k21 : Fn := ⟨1, 3, [], true, [.ite (.or [(.not (.isi (.var 0) [.str])), (.not (.cmp2 .le .le (.cst (.int 1)) (.blt "len" [(.var 0)]) (.cst (.int 8)))), (.cmp .isin (.idx (.var 0) (.cst (.int 0))) (.cst (.str "0123456789")))]) [.ret (.cst (.bool false))] [],
  .ite (.cmp .ne (.comp (.var 2) (.var 2) (.var 0) (some (.cmp .notin (.var 2) (.cst (.str "abcdefghijklmnopqrstuvwxyz0123456789")))) [2]) (.lst [])) [.ret (.cst (.bool false))] [],
  .asg (.pt (.var 1)) (.lst [(.cst (.str "box")), (.cst (.str "set")), (.cst (.str "pay")), (.cst (.str "stop")), (.cst (.str "if")), (.cst (.str "else")), (.cst (.str "repeat")), (.cst (.str "pass")), (.cst (.str "rest")), (.cst (.str "of")), (.cst (.str "not")), (.cst (.str "program"))]),
  .ret (.cmp .notin (.var 0) (.var 1))]⟩
def c__law_is_rest_k21 : Fn := ⟨1, 1, [], true, [.ite (.or [(.not (.call "_law_is_expression" [(.idx (.var 0) (.cst (.int 1))), (.cst (.int 3))])), (.not (.call "_law_whole" [(.idx (.var 0) (.cst (.int 2))), (.cst (.int 2)), (.cst (.int 6))]))]) [.ret (.cst (.bool false))] [],
  .ret (.call "_law_whole" [(.idx (.var 0) (.cst (.int 3))), (.cst (.int 0)), (.bin .sub (.idx (.var 0) (.cst (.int 2))) (.cst (.int 1)))])]⟩
def c__law_is_test_k21 : Fn := ⟨2, 2, [], true, [.ite (.or [(.not (.isi (.var 0) [.tuple])), (.cmp .eq (.var 0) (.tup [])), (.not (.isi (.idx (.var 0) (.cst (.int 0))) [.str]))]) [.ret (.cst (.bool false))] [],
  .ite (.cmp .ne (.blt "len" [(.var 0)]) (.bm (.dic [(.cst (.str "less")), (.cst (.str "rest")), (.cst (.str "not"))] [(.cst (.int 3)), (.cst (.int 4)), (.cst (.int 2))]) "get" [(.idx (.var 0) (.cst (.int 0))), (.cst (.int 0))])) [.ret (.cst (.bool false))] [],
  .ite (.cmp .eq (.idx (.var 0) (.cst (.int 0))) (.cst (.str "not"))) [.ret (.and [(.cmp .gt (.var 1) (.cst (.int 0))), (.call "_law_is_test" [(.idx (.var 0) (.cst (.int 1))), (.bin .sub (.var 1) (.cst (.int 1)))])])] [],
  .ite (.cmp .eq (.idx (.var 0) (.cst (.int 0))) (.cst (.str "rest"))) [.ret (.call "_law_is_rest" [(.var 0)])] [],
  .ret (.and [(.call "_law_is_expression" [(.idx (.var 0) (.cst (.int 1))), (.cst (.int 3))]), (.call "_law_is_expression" [(.idx (.var 0) (.cst (.int 2))), (.cst (.int 3))])])]⟩
def c__law_bent_k21 : Fn := ⟨3, 5, [], true, [.ite (.or [(.cmp .eq (.var 2) (.cst (.int 0))), (.not (.isi (.var 1) [.tuple])), (.cmp .eq (.var 1) (.tup [])), (.cmp .eq (.call "_law_draw" [(.var 0), (.cst (.int 6))]) (.cst (.int 0)))]) [.ret (.call "_law_odd" [(.var 0)])] [],
  .par 3 4 (.call "_law_draw" [(.var 0), (.blt "len" [(.var 1)])]) (.call "_law_draw" [(.var 0), (.cst (.int 12))]),
  .ite (.cmp .eq (.var 4) (.cst (.int 0))) [.ret (.bin .add (.slc (.var 1) none (some (.var 3))) (.slc (.var 1) (some (.bin .add (.var 3) (.cst (.int 1)))) none))] [],
  .ite (.cmp .eq (.var 4) (.cst (.int 1))) [.ret (.bin .add (.bin .add (.slc (.var 1) none (some (.var 3))) (.slc (.var 1) (some (.var 3)) (some (.bin .add (.var 3) (.cst (.int 1)))))) (.slc (.var 1) (some (.var 3)) none))] [],
  .ite (.cmp .eq (.var 4) (.cst (.int 2))) [.ret (.blt "list" [(.var 1)])] [],
  .ret (.bin .add (.bin .add (.slc (.var 1) none (some (.var 3))) (.tup [(.call "_law_bent" [(.var 0), (.idx (.var 1) (.var 3)), (.bin .sub (.var 2) (.cst (.int 1)))])])) (.slc (.var 1) (some (.bin .add (.var 3) (.cst (.int 1)))) none))]⟩
def c__law_bent_k22 : Fn := ⟨3, 5, [], true, [.ite (.or [(.cmp .eq (.var 2) (.cst (.int 0))), (.not (.isi (.var 1) [.tuple])), (.cmp .eq (.var 1) (.tup [])), (.cmp .eq (.call "_law_draw" [(.var 0), (.cst (.int 9))]) (.cst (.int 0)))]) [.ret (.call "_law_odd" [(.var 0)])] [],
  .par 3 4 (.call "_law_draw" [(.var 0), (.blt "len" [(.var 1)])]) (.call "_law_draw" [(.var 0), (.cst (.int 14))]),
  .ite (.cmp .eq (.var 4) (.cst (.int 0))) [.ret (.bin .add (.slc (.var 1) none (some (.var 3))) (.slc (.var 1) (some (.bin .add (.var 3) (.cst (.int 1)))) none))] [],
  .ite (.cmp .eq (.var 4) (.cst (.int 1))) [.ret (.bin .add (.bin .add (.slc (.var 1) none (some (.var 3))) (.slc (.var 1) (some (.var 3)) (some (.bin .add (.var 3) (.cst (.int 1)))))) (.slc (.var 1) (some (.var 3)) none))] [],
  .ite (.cmp .eq (.var 4) (.cst (.int 2))) [.ret (.blt "list" [(.var 1)])] [],
  .ite (.cmp .eq (.var 4) (.cst (.int 3))) [.ret (.bin .add (.slc (.var 1) (some (.var 3)) none) (.slc (.var 1) none (some (.var 3))))] [],
  .ret (.bin .add (.bin .add (.slc (.var 1) none (some (.var 3))) (.tup [(.call "_law_bent" [(.var 0), (.idx (.var 1) (.var 3)), (.bin .sub (.var 2) (.cst (.int 1)))])])) (.slc (.var 1) (some (.bin .add (.var 3) (.cst (.int 1)))) none))]⟩
def c__law_deep_k21 : Fn := ⟨3, 6, [], true, [.asg (.pt (.var 3)) (.call "_law_one" [(.var 0), (.bin .add (.var 1) (.lst [(.cst (.int 7)), (.neg (.cst (.int 99)))]))]),
  .for_ (.var 4) (.rng1 (.bin .sub (.var 2) (.cst (.int 1)))) [.asg (.pt (.var 5)) (.call "_law_one" [(.var 0), (.bin .add (.var 1) (.lst [(.cst (.int 0)), (.cst (.int 99))]))]),
    .asg (.pt (.var 3)) (.call "_law_one" [(.var 0), (.lst [(.tup [(.cst (.str "plus")), (.var 3), (.var 5)]), (.tup [(.cst (.str "minus")), (.var 5), (.var 3)]), (.tup [(.cst (.str "times")), (.neg (.cst (.int 9))), (.var 3)])])])],
  .ret (.var 3)]⟩
def c__law_counts_k21 : Fn := ⟨1, 9, [], true, [.asg (.pt (.var 1)) (.lst [(.cst (.int 0)), (.cst (.int 0)), (.cst (.int 0)), (.cst (.int 0))]),
  .for_ (.var 2) (.var 0) [.asg (.pt (.var 3)) (.ite (.cmp .eq (.idx (.var 2) (.cst (.int 0))) (.cst (.str "if"))) (.idx (.var 2) (.cst (.int 1))) (.tup [(.cst (.str "none"))])),
    .whl (.cmp .eq (.idx (.var 3) (.cst (.int 0))) (.cst (.str "not"))) [.asg (.pt (.var 3)) (.idx (.var 3) (.cst (.int 1)))],
    .asg (.pt (.var 4)) (.lst [(.cst (.int 1)), (.cst (.int 1)), (.blt "int" [(.cmp .eq (.idx (.var 3) (.cst (.int 0))) (.cst (.str "rest")))]), (.blt "int" [(.cmp .eq (.idx (.var 3) (.cst (.int 0))) (.cst (.str "less")))])]),
    .for_ (.var 5) (.call "_law_parts" [(.var 2)]) [.asg (.pt (.tup [(.var 6), (.var 7)])) (.tup [(.call "_law_counts" [(.var 5)]), (.ite (.cmp .eq (.idx (.var 2) (.cst (.int 0))) (.cst (.str "repeat"))) (.idx (.var 2) (.cst (.int 1))) (.cst (.int 1)))]),
      .asg (.pt (.var 4)) (.bin .add (.lst [(.bin .add (.idx (.var 4) (.cst (.int 0))) (.idx (.var 6) (.cst (.int 0))))]) (.comp (.bin .add (.idx (.var 4) (.var 8)) (.bin .mul (.var 7) (.idx (.var 6) (.var 8)))) (.var 8) (.rng2 (.cst (.int 1)) (.cst (.int 4))) none [8]))],
    .asg (.pt (.var 1)) (.comp (.bin .add (.idx (.var 1) (.var 8)) (.idx (.var 4) (.var 8))) (.var 8) (.rng1 (.cst (.int 4))) none [8])],
  .ret (.var 1)]⟩
def c__law_error_k21 : Fn := ⟨1, 11, [], true, [.ite (.not (.isi (.var 0) [.tuple])) [.ret (.tup [(.cst .none), (.cst (.str "program"))])] [],
  .par 1 2 (.rev (.comp (.tup [(.cst (.int 0)), (.var 10)]) (.var 10) (.var 0) none [10])) (.cst (.int 0)),
  .whl (.cmp .ne (.var 1) (.lst [])) [.asg (.pt (.tup [(.var 3), (.var 4)])) (.mut (.var 1) "pop" []),
    .ite (.cmp .gt (.var 3) (.cst (.int 3))) [.ret (.tup [(.var 2), (.cst (.str "nest"))])] [],
    .ite (.not (.call "_law_is_statement" [(.var 4)])) [.ret (.tup [(.var 2), (.cst (.str "statement"))])] [],
    .asg (.pt (.var 5)) (.lst []),
    .for_ (.var 6) (.call "_law_parts" [(.var 4)]) [.expr (.mut (.var 5) "extend" [(.comp (.tup [(.bin .add (.var 3) (.cst (.int 1))), (.var 10)]) (.var 10) (.var 6) none [10])])],
    .expr (.mut (.var 1) "extend" [(.rev (.var 5))]),
    .asg (.pt (.var 2)) (.bin .add (.var 2) (.cst (.int 1)))],
  .asg (.pt (.var 7)) (.call "_law_counts" [(.var 0)]),
  .for_ (.tup [(.var 8), (.var 9)]) (.enum (.lst [(.cst (.str "places")), (.cst (.str "weight")), (.cst (.str "rests")), (.cst (.str "comparings"))])) [.ite (.cmp .gt (.idx (.var 7) (.var 8)) (.idx (.lst [(.cst (.int 24)), (.cst (.int 30)), (.cst (.int 2)), (.cst (.int 2))]) (.var 8))) [.ret (.tup [(.cst .none), (.var 9)])] []],
  .ret (.cst .none)]⟩
def c__law_family_error_k28 : Fn := ⟨1, 5, [], true, [.ite (.not (.isi (.var 0) [.tuple])) [.ret (.tup [(.cst .none), (.cst (.str "family"))])] [],
  .ite (.not (.cmp2 .le .le (.cst (.int 1)) (.blt "len" [(.var 0)]) (.cst (.int 5)))) [.ret (.tup [(.cst .none), (.cst (.str "many"))])] [],
  .asg (.pt (.var 1)) (.comp (.tup [(.var 3), (.call "_law_error" [(.idx (.var 0) (.var 3))])]) (.var 3) (.rng1 (.blt "len" [(.var 0)])) none [3]),
  .asg (.pt (.var 2)) (.comp (.var 4) (.var 4) (.var 1) (some (.cmp .isn (.idx (.var 4) (.cst (.int 1))) (.cst .none))) [4]),
  .ret (.ite (.cmp .ne (.var 2) (.lst [])) (.idx (.var 2) (.cst (.int 0))) (.cst .none))]⟩
def c__law_number : Fn := ⟨1, 3, [], true, [.par 1 2 (.call "_law_draw" [(.var 0), (.cst (.int 5))]) (.call "_law_one" [(.var 0), (.lst [(.cst (.int 1)), (.neg (.cst (.int 1)))])]),
  .ite (.cmp .lt (.var 1) (.cst (.int 4))) [.ret (.bin .mul (.var 2) (.call "_law_draw" [(.var 0), (.cst (.int 40))]))] [],
  .ret (.bin .mul (.var 2) (.bin .add (.bin .mul (.bin .pow (.cst (.int 10)) (.cst (.int 50))) (.call "_law_draw" [(.var 0), (.bin .pow (.cst (.int 10)) (.cst (.int 9)))])) (.call "_law_draw" [(.var 0), (.bin .pow (.cst (.int 10)) (.cst (.int 9)))])))]⟩
def c__law_heard_k39 : Fn := ⟨3, 8, [], true, [.par 3 4 (.call "_law_one" [(.var 0), (.var 1)]) (.lst []),
  .for_ (.var 5) (.rng1 (.var 2)) [.asg (.pt (.var 6)) (.call "_law_number" [(.var 0)]),
    .asg (.pt (.var 7)) (.ite (.cmp .gt (.call "_law_draw" [(.var 0), (.cst (.int 4))]) (.cst (.int 0))) (.call "_law_sign" [(.var 3), (.var 6)]) (.bin .sub (.call "_law_draw" [(.var 0), (.cst (.int 3))]) (.cst (.int 1)))),
    .expr (.mut (.var 4) "append" [(.tup [(.var 6), (.var 7)])])],
  .ret (.blt "tuple" [(.var 4)])]⟩
def c__law_due_k39 : Fn := ⟨1, 3, [], true, [.ite (.not (.isi (.var 0) [.tuple])) [.ret (.tup [(.cst .none), (.cst (.str "heard"))])] [],
  .for_ (.var 1) (.rng1 (.blt "len" [(.var 0)])) [.asg (.pt (.var 2)) (.idx (.var 0) (.var 1)),
    .ite (.or [(.not (.isi (.var 2) [.tuple])), (.cmp .ne (.blt "len" [(.var 2)]) (.cst (.int 2))), (.isi (.idx (.var 2) (.cst (.int 0))) [.bool]), (.not (.isi (.idx (.var 2) (.cst (.int 0))) [.int]))]) [.ret (.tup [(.var 1), (.cst (.str "pair"))])] [],
    .ite (.or [(.isi (.idx (.var 2) (.cst (.int 1))) [.bool]), (.not (.isi (.idx (.var 2) (.cst (.int 1))) [.int])), (.not (.cmp2 .le .le (.neg (.cst (.int 1))) (.idx (.var 2) (.cst (.int 1))) (.cst (.int 1))))]) [.ret (.tup [(.var 1), (.cst (.str "pair"))])] []],
  .ret (.ite (.cmp .gt (.blt "len" [(.var 0)]) (.cst (.int 40))) (.tup [(.cst .none), (.cst (.str "many"))]) (.cst .none))]⟩
def c__law_plain_k22 : Fn := ⟨2, 4, [], true, [.par 2 3 (.call "_law_draw" [(.var 0), (.cst (.int 12))]) (.call "_law_one" [(.var 0), (.var 1)]),
  .ite (.cmp .lt (.var 2) (.cst (.int 4))) [.ret (.tup [(.cst (.str "set")), (.var 3), (.call "_law_expression" [(.var 0), (.var 1), (.cst (.int 3))])])] [],
  .ite (.cmp .eq (.var 2) (.cst (.int 4))) [.ret (.tup [(.cst (.str "set")), (.var 3), (.var 3)])] [],
  .ite (.and [(.cmp .eq (.var 2) (.cst (.int 5))), (.cmp .eq (.call "_law_draw" [(.var 0), (.cst (.int 2))]) (.cst (.int 0)))]) [.ret (.tup [(.cst (.str "stop"))])] [],
  .ret (.tup [(.cst (.str "pay")), (.call "_law_expression" [(.var 0), (.var 1), (.cst (.int 3))])])]⟩
def c__law_is_true_k30 : Fn := ⟨2, 2, [], true, [.ite (.cmp .eq (.idx (.var 1) (.cst (.int 0))) (.cst (.str "not"))) [.ret (.not (.call "_law_is_true" [(.var 0), (.idx (.var 1) (.cst (.int 1)))]))] [],
  .ite (.cmp .eq (.idx (.var 1) (.cst (.int 0))) (.cst (.str "rest"))) [.ret (.cmp .eq (.bin .mod (.blt "int" [(.call "_law_value" [(.var 0), (.idx (.var 1) (.cst (.int 1)))])]) (.idx (.var 1) (.cst (.int 2)))) (.idx (.var 1) (.cst (.int 3))))] [],
  .ret (.cmp .lt (.call "_law_value" [(.var 0), (.idx (.var 1) (.cst (.int 1)))]) (.call "_law_value" [(.var 0), (.idx (.var 1) (.cst (.int 2)))]))]⟩
def c__law_sign_k25 : Fn := ⟨1, 1, [], true, [.ret (.ite (.cmp .lt (.var 0) (.cst (.int 0))) (.neg (.cst (.int 1))) (.blt "int" [(.cmp .gt (.var 0) (.cst (.int 0)))]))]⟩
def c__law_sign_k30 : Fn := ⟨2, 8, [], true, [.asg (.pt (.tup [(.var 2), (.var 3), (.var 4)])) (.tup [(.dic [(.cst (.str "n"))] [(.var 1)]), (.cst (.int 0)), (.blt "list" [(.rev (.var 0))])]),
  .for_ (.var 5) (.rng1 (.cst (.int 200))) [.ite (.cmp .eq (.var 4) (.lst [])) [.ret (.bin .sub (.blt "int" [(.cmp .gt (.var 3) (.cst (.int 0)))]) (.blt "int" [(.cmp .lt (.var 3) (.cst (.int 0)))]))] [],
    .asg (.pt (.var 6)) (.mut (.var 4) "pop" []),
    .ite (.cmp .eq (.idx (.var 6) (.cst (.int 0))) (.cst (.str "set"))) [.asg (.sub (.var 2) (.idx (.var 6) (.cst (.int 1)))) (.call "_law_value" [(.var 2), (.idx (.var 6) (.cst (.int 2)))])] [.ite (.cmp .eq (.idx (.var 6) (.cst (.int 0))) (.cst (.str "pay"))) [.asg (.pt (.var 3)) (.bin .add (.var 3) (.call "_law_value" [(.var 2), (.idx (.var 6) (.cst (.int 1)))]))] [.ite (.cmp .eq (.idx (.var 6) (.cst (.int 0))) (.cst (.str "if"))) [.expr (.mut (.var 4) "extend" [(.rev (.ite (.call "_law_is_true" [(.var 2), (.idx (.var 6) (.cst (.int 1)))]) (.idx (.var 6) (.cst (.int 2))) (.idx (.var 6) (.cst (.int 3)))))])] [.ite (.cmp .eq (.idx (.var 6) (.cst (.int 0))) (.cst (.str "repeat"))) [.for_ (.var 7) (.rng1 (.idx (.var 6) (.cst (.int 1)))) [.expr (.mut (.var 4) "extend" [(.rev (.idx (.var 6) (.cst (.int 2))))])]] [.asg (.pt (.var 4)) (.lst [])]]]]],
  .ret (.cst .none)]⟩
def c__law_signs_k30 : Fn := ⟨2, 3, [], true, [.ret (.blt "tuple" [(.comp (.call "_law_sign" [(.var 2), (.var 1)]) (.var 2) (.var 0) none [2])])]⟩
def c__law_odd_k21 : Fn := ⟨1, 2, [], true, [.asg (.pt (.var 1)) (.lst [(.cst .none), (.cst (.bool true)), (.cst (.bool false)), (.cst (.int 0)), (.cst (.int 1)), (.cst (.int 6)), (.cst (.int 7)), (.cst (.int 8)), (.cst (.int 9)), (.neg (.cst (.int 9))), (.neg (.cst (.int 10))), (.cst (.int 99)), (.neg (.cst (.int 99))), (.cst (.int 100)), (.bin .pow (.cst (.int 10)) (.cst (.int 50))), (.cst (.str "")), (.cst (.str "n")), (.cst (.str "pay")), (.cst (.str "of")), (.cst (.str "box")), (.cst (.str "stop"))]),
  .asg (.pt (.var 1)) (.bin .add (.var 1) (.lst [(.cst (.str "a1")), (.cst (.str "1a")), (.cst (.str "Ab")), (.cst (.str "a_")), (.cst (.str "a\n")), (.cst (.str "a{")), (.cst (.str "abcdefgh")), (.cst (.str "abcdefghi")), (.cst (.str "plus")), (.cst (.str "times")), (.tup []), (.lst []), (.dic [] []), (.tup [(.cst (.int 1))])])),
  .asg (.pt (.var 1)) (.bin .add (.var 1) (.lst [(.tup [(.cst (.str "plus")), (.cst (.int 1)), (.cst (.int 2))]), (.lst [(.cst (.str "plus")), (.cst (.int 1)), (.cst (.int 2))]), (.tup [(.cst (.str "times")), (.cst (.int 2)), (.cst (.str "n"))]), (.tup [(.cst (.str "times")), (.cst (.str "n")), (.cst (.int 2))]), (.tup [(.cst (.str "times")), (.cst (.int 10)), (.cst (.int 1))]), (.tup [(.cst (.str "stop"))])])),
  .asg (.pt (.var 1)) (.bin .add (.var 1) (.lst [(.tup [(.cst (.str "not")), (.tup [(.cst (.str "less")), (.cst (.str "n")), (.cst (.int 1))])]), (.tup [(.cst (.str "less")), (.cst (.int 1))]), (.tup [(.cst (.str "pay")), (.cst (.int 1))]), (.tup [(.tup [(.cst (.str "pay")), (.cst (.int 1))])]), (.dic [(.cst (.str "n"))] [(.cst (.int 1))]), (.tup [(.cst (.str "stop")), (.cst (.str "x"))]), (.lst [(.cst (.str "stop"))])])),
  .asg (.pt (.var 1)) (.bin .add (.var 1) (.lst [(.tup [(.cst (.str "rest")), (.cst (.str "n")), (.cst (.int 6)), (.cst (.int 5))]), (.tup [(.cst (.str "rest")), (.cst (.str "n")), (.cst (.int 6)), (.cst (.int 6))]), (.tup [(.cst (.str "rest")), (.cst (.str "n")), (.cst (.int 7)), (.cst (.int 0))]), (.tup [(.cst (.str "rest")), (.cst (.str "n")), (.cst (.int 1)), (.cst (.int 0))]), (.tup [(.cst (.str "minus")), (.cst (.str "n"))])])),
  .ret (.call "_law_one" [(.var 0), (.bin .add (.var 1) (.lst [(.tup [(.cst (.str "repeat")), (.cst (.int 1)), (.tup [])]), (.tup [(.cst (.str "repeat")), (.cst (.int 2)), (.lst [])]), (.tup [(.cst (.str "set")), (.cst (.str "n"))]), (.tup [(.cst (.str "rest")), (.cst (.str "n")), (.cst (.int 2)), (.cst (.bool true))])]))])]⟩
def c__law_odd_k22 : Fn := ⟨1, 4, [], true, [.asg (.pt (.var 1)) (.lst [(.cst .none), (.cst (.bool true)), (.cst (.int 0)), (.cst (.int 9)), (.neg (.cst (.int 100))), (.bin .pow (.cst (.int 10)) (.cst (.int 50))), (.cst (.str "")), (.cst (.str "n")), (.cst (.str "pay")), (.cst (.str "Ab")), (.cst (.str "a_")), (.cst (.str "abcdefghi")), (.tup []), (.lst []), (.dic [] []), (.tup [(.cst (.int 1))]), (.tup [(.cst (.str "pay"))])]),
  .asg (.pt (.var 1)) (.bin .add (.var 1) (.lst [(.lst [(.cst (.str "stop"))]), (.tup [(.cst (.str "stop"))]), (.tup [(.tup [(.cst (.str "stop"))])]), (.tup [(.tup [(.cst (.str "Stop"))])]), (.tup [(.cst (.str "pay")), (.tup [(.cst (.str "plus")), (.cst (.int 1))])]), (.tup [(.cst (.str "repeat")), (.cst (.int 2)), (.lst [])])])),
  .asg (.pt (.var 2)) (.tup [(.cst (.str "if")), (.tup [(.cst (.str "less")), (.cst (.int 1)), (.cst (.str "n"))]), (.tup []), (.tup [(.tup [(.cst (.str "stop"))])])]),
  .for_ (.var 3) (.rng1 (.bin .add (.cst (.int 1)) (.call "_law_draw" [(.var 0), (.cst (.int 2))]))) [.asg (.pt (.var 2)) (.call "_law_one" [(.var 0), (.lst [(.tup [(.cst (.str "if")), (.tup [(.cst (.str "less")), (.cst (.int 1)), (.cst (.str "n"))]), (.tup [(.var 2)]), (.tup [])]), (.tup [(.cst (.str "repeat")), (.cst (.int 1)), (.tup [(.var 2)])])])])],
  .ret (.call "_law_one" [(.var 0), (.bin .add (.var 1) (.lst [(.var 2), (.tup [(.cst (.str "repeat")), (.cst (.int 8)), (.tup [(.var 2), (.var 2)])]), (.tup [(.cst (.str "stop")), (.cst (.str "x"))]), (.dic [(.cst (.str "n"))] [(.cst (.int 1))]), (.tup [(.cst (.str "set")), (.cst (.str "n")), (.cst (.str "n"))])]))])]⟩
def c__law_whole_k21 : Fn := ⟨3, 3, [], true, [.ret (.and [(.isi (.var 0) [.int]), (.not (.isi (.var 0) [.bool])), (.cmp2 .le .le (.var 1) (.var 0) (.var 2))])]⟩
def c__law_is_expression : Fn := ⟨2, 2, [], true, [.ite (.not (.isi (.var 0) [.tuple])) [.ret (.and [(.cmp .gt (.var 1) (.cst (.int 0))), (.or [(.call "_law_is_name" [(.var 0)]), (.call "_law_whole" [(.var 0), (.neg (.cst (.int 99))), (.cst (.int 99))])])])] [],
  .ite (.or [(.cmp .eq (.var 1) (.cst (.int 0))), (.cmp .ne (.blt "len" [(.var 0)]) (.cst (.int 3))), (.not (.isi (.idx (.var 0) (.cst (.int 0))) [.str]))]) [.ret (.cst (.bool false))] [],
  .ite (.cmp .eq (.idx (.var 0) (.cst (.int 0))) (.cst (.str "times"))) [.ret (.and [(.call "_law_whole" [(.idx (.var 0) (.cst (.int 1))), (.neg (.cst (.int 9))), (.cst (.int 9))]), (.call "_law_is_expression" [(.idx (.var 0) (.cst (.int 2))), (.bin .sub (.var 1) (.cst (.int 1)))])])] [],
  .ite (.cmp .notin (.idx (.var 0) (.cst (.int 0))) (.lst [(.cst (.str "plus")), (.cst (.str "minus"))])) [.ret (.cst (.bool false))] [],
  .ret (.and [(.call "_law_is_expression" [(.idx (.var 0) (.cst (.int 1))), (.bin .sub (.var 1) (.cst (.int 1)))]), (.call "_law_is_expression" [(.idx (.var 0) (.cst (.int 2))), (.bin .sub (.var 1) (.cst (.int 1)))])])]⟩
def c__law_is_statement : Fn := ⟨1, 2, [], true, [.ite (.or [(.not (.isi (.var 0) [.tuple])), (.cmp .eq (.var 0) (.tup [])), (.not (.isi (.idx (.var 0) (.cst (.int 0))) [.str]))]) [.ret (.cst (.bool false))] [],
  .ite (.cmp .ne (.blt "len" [(.var 0)]) (.bm (.dic [(.cst (.str "set")), (.cst (.str "pay")), (.cst (.str "stop")), (.cst (.str "if")), (.cst (.str "repeat"))] [(.cst (.int 3)), (.cst (.int 2)), (.cst (.int 1)), (.cst (.int 4)), (.cst (.int 3))]) "get" [(.idx (.var 0) (.cst (.int 0))), (.cst (.int 0))])) [.ret (.cst (.bool false))] [],
  .ite (.cmp .eq (.idx (.var 0) (.cst (.int 0))) (.cst (.str "set"))) [.ret (.and [(.call "_law_is_name" [(.idx (.var 0) (.cst (.int 1)))]), (.call "_law_is_expression" [(.idx (.var 0) (.cst (.int 2))), (.cst (.int 3))])])] [],
  .ite (.cmp .eq (.idx (.var 0) (.cst (.int 0))) (.cst (.str "pay"))) [.ret (.call "_law_is_expression" [(.idx (.var 0) (.cst (.int 1))), (.cst (.int 3))])] [],
  .ite (.and [(.cmp .eq (.idx (.var 0) (.cst (.int 0))) (.cst (.str "if"))), (.not (.call "_law_is_test" [(.idx (.var 0) (.cst (.int 1))), (.cst (.int 2))]))]) [.ret (.cst (.bool false))] [],
  .ite (.and [(.cmp .eq (.idx (.var 0) (.cst (.int 0))) (.cst (.str "repeat"))), (.not (.call "_law_whole" [(.idx (.var 0) (.cst (.int 1))), (.cst (.int 1)), (.cst (.int 8))]))]) [.ret (.cst (.bool false))] [],
  .ret (.cmp .eq (.comp (.var 1) (.var 1) (.call "_law_parts" [(.var 0)]) (some (.not (.isi (.var 1) [.tuple]))) [1]) (.lst []))]⟩
def c__law_edges_right : Fn := ⟨0, 7, [], true, [.for_ (.var 0) (.rng2 (.cst (.int 2)) (.cst (.int 7))) [.asg (.pt (.var 1)) (.comp (.tup [(.cst (.str "if")), (.tup [(.cst (.str "rest")), (.cst (.str "n")), (.var 0), (.var 3)]), (.tup []), (.tup [])]) (.var 3) (.lst [(.var 0), (.neg (.cst (.int 1))), (.bin .sub (.var 0) (.cst (.int 1))), (.cst (.int 0))]) none [3]),
    .ite (.cmp .ne (.blt "repr" [(.comp (.call "program_error" [(.tup [(.var 4)])]) (.var 4) (.var 1) none [4])]) (.blt "repr" [(.bin .add (.bin .mul (.lst [(.tup [(.cst (.int 0)), (.cst (.str "statement"))])]) (.cst (.int 2))) (.bin .mul (.lst [(.cst .none)]) (.cst (.int 2))))])) [.ret (.cst (.bool false))] []],
  .asg (.pt (.var 1)) (.comp (.tup [(.cst (.str "pay")), (.tup [(.cst (.str "times")), (.var 5), (.cst (.str "n"))])]) (.var 5) (.lst [(.neg (.cst (.int 10))), (.cst (.int 10)), (.neg (.cst (.int 9))), (.cst (.int 9))]) none [5]),
  .ite (.cmp .ne (.blt "repr" [(.comp (.call "program_error" [(.tup [(.var 4)])]) (.var 4) (.var 1) none [4])]) (.blt "repr" [(.bin .add (.bin .mul (.lst [(.tup [(.cst (.int 0)), (.cst (.str "statement"))])]) (.cst (.int 2))) (.bin .mul (.lst [(.cst .none)]) (.cst (.int 2))))])) [.ret (.cst (.bool false))] [],
  .asg (.pt (.var 2)) (.comp (.call "program_error" [(.tup [(.tup [(.cst (.str "pay")), (.var 6)])])]) (.var 6) (.lst [(.cst (.int 0)), (.cst (.bool false)), (.cst (.int 0))]) none [6]),
  .ret (.cmp .eq (.blt "repr" [(.var 2)]) (.blt "repr" [(.lst [(.cst .none), (.tup [(.cst (.int 0)), (.cst (.str "statement"))]), (.cst .none)])]))]⟩
def c__law_expression_k22 : Fn := ⟨3, 6, [], true, [.asg (.pt (.var 3)) (.ite (.cmp .gt (.var 2) (.cst (.int 1))) (.call "_law_draw" [(.var 0), (.cst (.int 7))]) (.call "_law_draw" [(.var 0), (.cst (.int 4))])),
  .ite (.cmp .eq (.var 3) (.cst (.int 0))) [.ret (.call "_law_one" [(.var 0), (.lst [(.cst (.int 0)), (.cst (.int 1)), (.cst (.int 2)), (.neg (.cst (.int 1))), (.cst (.int 3)), (.neg (.cst (.int 5))), (.cst (.int 99)), (.neg (.cst (.int 99))), (.bin .sub (.call "_law_draw" [(.var 0), (.cst (.int 199))]) (.cst (.int 99)))])])] [],
  .ite (.cmp .lt (.var 3) (.cst (.int 4))) [.ret (.call "_law_one" [(.var 0), (.var 1)])] [],
  .ite (.cmp .eq (.var 3) (.cst (.int 6))) [.asg (.pt (.var 4)) (.call "_law_one" [(.var 0), (.lst [(.neg (.cst (.int 9))), (.neg (.cst (.int 4))), (.neg (.cst (.int 3))), (.neg (.cst (.int 2))), (.neg (.cst (.int 1))), (.cst (.int 0)), (.cst (.int 2)), (.cst (.int 3)), (.cst (.int 9))])]),
    .ret (.tup [(.cst (.str "times")), (.var 4), (.call "_law_expression" [(.var 0), (.var 1), (.bin .sub (.var 2) (.cst (.int 1)))])])] [],
  .asg (.pt (.var 5)) (.call "_law_expression" [(.var 0), (.var 1), (.bin .sub (.var 2) (.cst (.int 1)))]),
  .ret (.tup [(.idx (.lst [(.cst (.str "plus")), (.cst (.str "minus"))]) (.bin .mod (.blt "int" [(.var 3)]) (.cst (.int 2)))), (.var 5), (.call "_law_expression" [(.var 0), (.var 1), (.bin .sub (.var 2) (.cst (.int 1)))])])]⟩
def c__law_expression_k30 : Fn := ⟨3, 6, [], true, [.asg (.pt (.var 3)) (.ite (.cmp .gt (.var 2) (.cst (.int 1))) (.call "_law_draw" [(.var 0), (.cst (.int 7))]) (.call "_law_draw" [(.var 0), (.cst (.int 4))])),
  .ite (.cmp .eq (.var 3) (.cst (.int 0))) [.ret (.call "_law_one" [(.var 0), (.lst [(.cst (.int 0)), (.cst (.int 1)), (.cst (.int 2)), (.neg (.cst (.int 1))), (.cst (.int 3)), (.neg (.cst (.int 5))), (.cst (.int 99)), (.neg (.cst (.int 99))), (.bin .sub (.call "_law_draw" [(.var 0), (.cst (.int 199))]) (.cst (.int 99)))])])] [],
  .ite (.cmp .lt (.var 3) (.cst (.int 4))) [.ret (.call "_law_one" [(.var 0), (.bin .add (.var 1) (.lst [(.cst (.str "n")), (.cst (.str "n"))]))])] [],
  .ite (.cmp .eq (.var 3) (.cst (.int 6))) [.asg (.pt (.var 4)) (.call "_law_one" [(.var 0), (.lst [(.neg (.cst (.int 9))), (.neg (.cst (.int 4))), (.neg (.cst (.int 3))), (.neg (.cst (.int 2))), (.neg (.cst (.int 1))), (.cst (.int 0)), (.cst (.int 2)), (.cst (.int 3)), (.cst (.int 6))])]),
    .ret (.tup [(.cst (.str "times")), (.var 4), (.call "_law_expression" [(.var 0), (.var 1), (.bin .sub (.var 2) (.cst (.int 1)))])])] [],
  .asg (.pt (.var 5)) (.call "_law_expression" [(.var 0), (.var 1), (.bin .sub (.var 2) (.cst (.int 1)))]),
  .ret (.tup [(.idx (.lst [(.cst (.str "plus")), (.cst (.str "minus"))]) (.bin .mod (.blt "int" [(.var 3)]) (.cst (.int 2)))), (.var 5), (.call "_law_expression" [(.var 0), (.var 1), (.bin .sub (.var 2) (.cst (.int 1)))])])]⟩
def c__law_row_k22 : Fn := ⟨5, 9, [], true, [.ite (.or [(.cmp .lt (.idx (.var 2) (.cst (.int 0))) (.cst (.int 1))), (.cmp .lt (.idx (.var 2) (.cst (.int 1))) (.var 3))]) [.ret (.tup [])] [],
  .asg (.subs (.var 2) (.cst (.int 0)) (.var 2) (.cst (.int 1))) (.tup [(.bin .sub (.idx (.var 2) (.cst (.int 0))) (.cst (.int 1))), (.bin .sub (.idx (.var 2) (.cst (.int 1))) (.var 3))]),
  .asg (.pt (.var 5)) (.call "_law_draw" [(.var 0), (.cst (.int 9))]),
  .asg (.pt (.var 6)) (.ite (.cmp .lt (.var 5) (.cst (.int 3))) (.call "_law_test" [(.var 0), (.var 1), (.var 2), (.var 3)]) (.tup [])),
  .ite (.cmp .ne (.var 6) (.tup [])) [.asg (.pt (.var 7)) (.call "_law_block" [(.var 0), (.var 1), (.var 2), (.var 3), (.bin .add (.var 4) (.cst (.int 1)))]),
    .ret (.tup [(.cst (.str "if")), (.var 6), (.var 7), (.call "_law_block" [(.var 0), (.var 1), (.var 2), (.var 3), (.bin .add (.var 4) (.cst (.int 1)))])])] [],
  .ite (.or [(.cmp .eq (.var 5) (.cst (.int 3))), (.cmp .eq (.var 5) (.cst (.int 4)))]) [.asg (.pt (.var 8)) (.call "_law_one" [(.var 0), (.lst [(.cst (.int 1)), (.cst (.int 1)), (.cst (.int 2)), (.cst (.int 2)), (.cst (.int 3)), (.cst (.int 4)), (.cst (.int 8))])]),
    .ret (.tup [(.cst (.str "repeat")), (.var 8), (.call "_law_block" [(.var 0), (.var 1), (.var 2), (.bin .mul (.var 3) (.var 8)), (.bin .add (.var 4) (.cst (.int 1)))])])] [],
  .ret (.call "_law_plain" [(.var 0), (.var 1)])]⟩
def c__law_row_k30 : Fn := ⟨5, 10, [], true, [.ite (.or [(.cmp .lt (.idx (.var 2) (.cst (.int 0))) (.cst (.int 1))), (.cmp .lt (.idx (.var 2) (.cst (.int 1))) (.var 3))]) [.ret (.tup [])] [],
  .asg (.subs (.var 2) (.cst (.int 0)) (.var 2) (.cst (.int 1))) (.tup [(.bin .sub (.idx (.var 2) (.cst (.int 0))) (.cst (.int 1))), (.bin .sub (.idx (.var 2) (.cst (.int 1))) (.var 3))]),
  .par 5 6 (.call "_law_draw" [(.var 0), (.cst (.int 9))]) (.call "_law_one" [(.var 0), (.var 1)]),
  .ite (.cmp .lt (.var 5) (.cst (.int 3))) [.asg (.pt (.var 7)) (.call "_law_test" [(.var 0), (.var 1), (.var 2), (.var 3)]),
    .ite (.cmp .ne (.var 7) (.tup [])) [.asg (.pt (.var 8)) (.call "_law_block" [(.var 0), (.var 1), (.var 2), (.var 3), (.bin .add (.var 4) (.cst (.int 1)))]),
      .ret (.tup [(.cst (.str "if")), (.var 7), (.var 8), (.call "_law_block" [(.var 0), (.var 1), (.var 2), (.var 3), (.bin .add (.var 4) (.cst (.int 1)))])])] []] [],
  .ite (.cmp .eq (.var 5) (.cst (.int 3))) [.asg (.pt (.var 9)) (.call "_law_one" [(.var 0), (.lst [(.cst (.int 1)), (.cst (.int 2)), (.cst (.int 2)), (.cst (.int 3)), (.cst (.int 4)), (.cst (.int 8))])]),
    .ret (.tup [(.cst (.str "repeat")), (.var 9), (.call "_law_block" [(.var 0), (.var 1), (.var 2), (.bin .mul (.var 3) (.var 9)), (.bin .add (.var 4) (.cst (.int 1)))])])] [],
  .ite (.cmp .lt (.var 5) (.cst (.int 6))) [.ret (.tup [(.cst (.str "set")), (.var 6), (.call "_law_expression" [(.var 0), (.var 1), (.cst (.int 3))])])] [],
  .ite (.and [(.cmp .eq (.var 5) (.cst (.int 6))), (.cmp .eq (.call "_law_draw" [(.var 0), (.cst (.int 3))]) (.cst (.int 0)))]) [.ret (.tup [(.cst (.str "stop"))])] [],
  .ret (.tup [(.cst (.str "pay")), (.call "_law_expression" [(.var 0), (.var 1), (.cst (.int 3))])])]⟩
def c__law_part : Fn := ⟨1, 4, [], true, [.asg (.pt (.var 1)) (.bin .add (.bin .mul (.lst [(.tup [(.cst (.str "pay")), (.cst (.int 1))])]) (.call "_law_draw" [(.var 0), (.cst (.int 9))])) (.bin .mul (.lst [(.tup [(.cst (.str "set")), (.cst (.str "a")), (.cst (.str "n"))])]) (.call "_law_draw" [(.var 0), (.cst (.int 3))]))),
  .asg (.pt (.var 1)) (.bin .add (.var 1) (.bin .mul (.lst [(.tup [(.cst (.str "if")), (.tup [(.cst (.str "less")), (.cst (.str "a")), (.cst (.str "n"))]), (.tup []), (.tup [])])]) (.call "_law_draw" [(.var 0), (.cst (.int 3))]))),
  .asg (.pt (.var 1)) (.bin .add (.var 1) (.bin .mul (.lst [(.tup [(.cst (.str "if")), (.tup [(.cst (.str "not")), (.tup [(.cst (.str "rest")), (.cst (.str "a")), (.cst (.int 2)), (.cst (.int 1))])]), (.tup [(.tup [(.cst (.str "pay")), (.cst (.str "a"))])]), (.tup [])])]) (.call "_law_draw" [(.var 0), (.cst (.int 3))]))),
  .asg (.pt (.var 2)) (.blt "tuple" [(.var 1)]),
  .for_ (.var 3) (.rng1 (.call "_law_draw" [(.var 0), (.cst (.int 4))])) [.asg (.pt (.var 2)) (.tup [(.tup [(.cst (.str "repeat")), (.call "_law_one" [(.var 0), (.lst [(.cst (.int 1)), (.cst (.int 1)), (.cst (.int 2)), (.cst (.int 2)), (.cst (.int 3)), (.cst (.int 8))])]), (.var 2)])]),
    .ite (.cmp .eq (.call "_law_draw" [(.var 0), (.cst (.int 4))]) (.cst (.int 0))) [.asg (.pt (.var 2)) (.tup [(.tup [(.cst (.str "if")), (.tup [(.cst (.str "less")), (.cst (.int 1)), (.cst (.str "n"))]), (.tup []), (.var 2)])])] []],
  .ret (.var 2)]⟩
def c__law_up_to : Fn := ⟨1, 7, [], true, [.par 1 2 (.call "_law_draw" [(.var 0), (.cst (.int 5))]) (.call "_law_draw" [(.var 0), (.cst (.int 2))]),
  .par 3 4 (.bin .mul (.tup [(.tup [(.cst (.str "pay")), (.cst (.int 1))])]) (.bin .add (.cst (.int 5)) (.var 2))) (.call "_law_one" [(.var 0), (.lst [(.cst (.int 1)), (.cst (.int 2))])]),
  .ite (.cmp .eq (.var 1) (.cst (.int 0))) [.ret (.bin .mul (.tup [(.tup [(.cst (.str "pay")), (.cst (.int 1))])]) (.bin .add (.cst (.int 24)) (.var 2)))] [],
  .ite (.cmp .eq (.var 1) (.cst (.int 1))) [.ret (.bin .add (.tup [(.tup [(.cst (.str "repeat")), (.cst (.int 4)), (.bin .mul (.tup [(.tup [(.cst (.str "pay")), (.cst (.int 1))])]) (.cst (.int 6)))])]) (.var 3))] [],
  .ite (.cmp .eq (.var 1) (.cst (.int 2))) [.ret (.tup [(.tup [(.cst (.str "repeat")), (.bin .add (.bin .fdiv (.cst (.int 2)) (.var 4)) (.var 2)), (.bin .mul (.tup [(.tup [(.cst (.str "if")), (.tup [(.cst (.str "not")), (.tup [(.cst (.str "rest")), (.cst (.str "n")), (.cst (.int 2)), (.cst (.int 0))])]), (.tup []), (.tup [])])]) (.var 4))])])] [],
  .ite (.cmp .eq (.var 1) (.cst (.int 3))) [.ret (.tup [(.tup [(.cst (.str "repeat")), (.bin .add (.bin .fdiv (.cst (.int 2)) (.var 4)) (.var 2)), (.bin .mul (.tup [(.tup [(.cst (.str "if")), (.tup [(.cst (.str "less")), (.cst (.str "n")), (.cst (.int 2))]), (.tup [(.tup [(.cst (.str "stop"))])]), (.tup [])])]) (.var 4))])])] [],
  .asg (.pt (.var 5)) (.tup [(.tup [(.cst (.str "stop"))])]),
  .for_ (.var 6) (.rng1 (.bin .add (.cst (.int 3)) (.var 2))) [.asg (.pt (.var 5)) (.tup [(.tup [(.cst (.str "pay")), (.cst (.int 1))]), (.tup [(.cst (.str "repeat")), (.cst (.int 1)), (.var 5)])])],
  .ret (.var 5)]⟩
def c__law_rows_k24 : Fn := ⟨3, 6, [], true, [.asg (.pt (.var 3)) (.lst []),
  .for_ (.var 4) (.var 0) [.expr (.mut (.var 3) "append" [(.tup [(.bin .add (.var 1) (.blt "len" [(.var 3)])), (.var 2), (.var 4)])]),
    .for_ (.var 5) (.call "_law_parts" [(.var 4)]) [.expr (.mut (.var 3) "extend" [(.call "_law_rows" [(.var 5), (.bin .add (.var 1) (.blt "len" [(.var 3)])), (.bin .add (.var 2) (.cst (.int 1)))])])]],
  .ret (.var 3)]⟩
def c__law_weight : Fn := ⟨1, 5, [], true, [.asg (.pt (.var 1)) (.cst (.int 0)),
  .for_ (.var 2) (.var 0) [.asg (.pt (.var 3)) (.blt "sum" [(.comp (.call "_law_weight" [(.var 4)]) (.var 4) (.call "_law_parts" [(.var 2)]) none [4])]),
    .asg (.pt (.var 1)) (.bin .add (.bin .add (.var 1) (.cst (.int 1))) (.bin .mul (.var 3) (.ite (.cmp .eq (.idx (.var 2) (.cst (.int 0))) (.cst (.str "repeat"))) (.idx (.var 2) (.cst (.int 1))) (.cst (.int 1)))))],
  .ret (.var 1)]⟩
def c__law_true : Fn := ⟨2, 2, [], true, [.ite (.cmp .eq (.idx (.var 0) (.cst (.int 0))) (.cst (.str "not"))) [.ret (.not (.call "_law_true" [(.idx (.var 0) (.cst (.int 1))), (.var 1)]))] [],
  .ite (.cmp .eq (.idx (.var 0) (.cst (.int 0))) (.cst (.str "rest"))) [.ret (.cmp .eq (.bin .mod (.blt "int" [(.bin .sub (.call "_law_value" [(.idx (.var 0) (.cst (.int 1))), (.var 1)]) (.idx (.var 0) (.cst (.int 3))))]) (.idx (.var 0) (.cst (.int 2)))) (.cst (.int 0)))] [],
  .ret (.cmp .lt (.call "_law_value" [(.idx (.var 0) (.cst (.int 1))), (.var 1)]) (.call "_law_value" [(.idx (.var 0) (.cst (.int 2))), (.var 1)]))]⟩
def c__law_size : Fn := ⟨1, 3, [], true, [.ret (.blt "sum" [(.comp (.bin .add (.cst (.int 1)) (.blt "sum" [(.comp (.call "_law_size" [(.var 2)]) (.var 2) (.call "_law_parts" [(.var 1)]) none [2])])) (.var 1) (.var 0) none [1])])]⟩
def c__law_go : Fn := ⟨3, 8, [2], true, [.for_ (.var 3) (.var 1) [.expr (.mut (.idx (.var 0) (.cst (.str "places"))) "append" [(.var 2)]),
    .asg (.pt (.var 4)) (.lst []),
    .ite (.cmp .eq (.idx (.var 3) (.cst (.int 0))) (.cst (.str "stop"))) [.ret (.cst (.bool true))] [],
    .ite (.cmp .eq (.idx (.var 3) (.cst (.int 0))) (.cst (.str "repeat"))) [.asg (.pt (.var 4)) (.bin .mul (.lst [(.tup [(.idx (.var 3) (.cst (.int 2))), (.bin .add (.var 2) (.cst (.int 1)))])]) (.idx (.var 3) (.cst (.int 1))))] [.ite (.cmp .eq (.idx (.var 3) (.cst (.int 0))) (.cst (.str "if"))) [.asg (.pt (.var 5)) (.call "_law_true" [(.idx (.var 3) (.cst (.int 1))), (.idx (.var 0) (.cst (.str "names")))]),
        .asg (.pt (.var 4)) (.lst [(.ite (.var 5) (.tup [(.idx (.var 3) (.cst (.int 2))), (.bin .add (.var 2) (.cst (.int 1)))]) (.tup [(.idx (.var 3) (.cst (.int 3))), (.bin .add (.bin .add (.var 2) (.cst (.int 1))) (.call "_law_size" [(.idx (.var 3) (.cst (.int 2)))]))]))])] [.ite (.cmp .eq (.idx (.var 3) (.cst (.int 0))) (.cst (.str "set"))) [.asg (.sub (.idx (.var 0) (.cst (.str "names"))) (.idx (.var 3) (.cst (.int 1)))) (.call "_law_value" [(.idx (.var 3) (.cst (.int 2))), (.idx (.var 0) (.cst (.str "names")))])] [.asg (.sub (.var 0) (.cst (.str "total"))) (.bin .add (.idx (.var 0) (.cst (.str "total"))) (.call "_law_value" [(.idx (.var 3) (.cst (.int 1))), (.idx (.var 0) (.cst (.str "names")))]))]]],
    .for_ (.tup [(.var 6), (.var 7)]) (.var 4) [.ite (.call "_law_go" [(.var 0), (.var 6), (.var 7)]) [.ret (.cst (.bool true))] []],
    .asg (.pt (.var 2)) (.bin .add (.var 2) (.call "_law_size" [(.tup [(.var 3)])]))],
  .ret (.cst (.bool false))]⟩
def c__law_run : Fn := ⟨2, 3, [], true, [.asg (.pt (.var 2)) (.dic [(.cst (.str "names")), (.cst (.str "total")), (.cst (.str "places"))] [(.dic [(.cst (.str "n"))] [(.var 1)]), (.cst (.int 0)), (.lst [])]),
  .expr (.call "_law_go" [(.var 2), (.var 0), (.cst (.int 0))]),
  .ret (.tup [(.idx (.var 2) (.cst (.str "total"))), (.blt "tuple" [(.idx (.var 2) (.cst (.str "places")))])])]⟩
def c_with_blocks : Fn := ⟨2, 2, [], true, [.ret (.ite (.cmp .isin (.idx (.var 0) (.cst (.int 0))) (.tup [(.cst (.str "if")), (.cst (.str "repeat"))])) (.bin .add (.slc (.var 0) none (some (.cst (.int 2)))) (.blt "tuple" [(.var 1)])) (.var 0))]⟩
def c_contrary_of : Fn := ⟨1, 1, [], true, [.ret (.tup [(.cst (.str "times")), (.neg (.cst (.int 1))), (.var 0)])]⟩
def c_contrary_statement : Fn := ⟨1, 2, [], true, [.ite (.cmp .eq (.idx (.var 0) (.cst (.int 0))) (.cst (.str "pay"))) [.ret (.tup [(.cst (.str "pay")), (.call "contrary_of" [(.idx (.var 0) (.cst (.int 1)))])])] [],
  .ret (.call "with_blocks" [(.var 0), (.comp (.call "contrary" [(.var 1)]) (.var 1) (.call "blocks_of" [(.var 0)]) none [1])])]⟩
def c_contrary : Fn := ⟨1, 2, [], true, [.ret (.blt "tuple" [(.comp (.call "contrary_statement" [(.var 1)]) (.var 1) (.var 0) none [1])])]⟩
def c__law_contrary : Fn := ⟨1, 4, [], true, [.asg (.pt (.var 1)) (.lst []),
  .for_ (.var 2) (.var 0) [.ite (.cmp .eq (.idx (.var 2) (.cst (.int 0))) (.cst (.str "pay"))) [.expr (.mut (.var 1) "append" [(.tup [(.cst (.str "pay")), (.tup [(.cst (.str "times")), (.neg (.cst (.int 1))), (.idx (.var 2) (.cst (.int 1)))])])])] [.ite (.cmp .isin (.idx (.var 2) (.cst (.int 0))) (.tup [(.cst (.str "if")), (.cst (.str "repeat"))])) [.expr (.mut (.var 1) "append" [(.bin .add (.slc (.var 2) none (some (.cst (.int 2)))) (.blt "tuple" [(.comp (.call "_law_contrary" [(.var 3)]) (.var 3) (.call "_law_parts" [(.var 2)]) none [3])]))])] [.expr (.mut (.var 1) "append" [(.var 2)])]]],
  .ret (.blt "tuple" [(.var 1)])]⟩
def c__law_shallow : Fn := ⟨1, 4, [], true, [.asg (.pt (.var 1)) (.lst []),
  .for_ (.var 2) (.var 0) [.ite (.and [(.cmp .eq (.idx (.var 2) (.cst (.int 0))) (.cst (.str "pay"))), (.isi (.idx (.var 2) (.cst (.int 1))) [.tuple])]) [.expr (.mut (.var 1) "append" [(.tup [(.cst (.str "pay")), (.bin .add (.slc (.idx (.var 2) (.cst (.int 1))) none (some (.cst (.int 1)))) (.blt "tuple" [(.comp (.ite (.isi (.var 3) [.tuple]) (.cst (.int 1)) (.var 3)) (.var 3) (.slc (.idx (.var 2) (.cst (.int 1))) (some (.cst (.int 1))) none) none [3])]))])])] [.ite (.cmp .isin (.idx (.var 2) (.cst (.int 0))) (.tup [(.cst (.str "if")), (.cst (.str "repeat"))])) [.expr (.mut (.var 1) "append" [(.bin .add (.slc (.var 2) none (some (.cst (.int 2)))) (.blt "tuple" [(.comp (.call "_law_shallow" [(.var 3)]) (.var 3) (.call "_law_parts" [(.var 2)]) none [3])]))])] [.expr (.mut (.var 1) "append" [(.var 2)])]]],
  .ret (.blt "tuple" [(.var 1)])]⟩
def c_is_program : Fn := ⟨1, 1, [], true, [.ret (.cmp .is (.call "program_error" [(.var 0)]) (.cst .none))]⟩
def c_changes_of : Fn := ⟨1, 1, [], true, [.ite (.cmp .eq (.idx (.var 0) (.cst (.int 0))) (.cst (.str "if"))) [.ret (.lst [(.tup []), (.tup [(.tup [(.cst (.str "if")), (.idx (.var 0) (.cst (.int 1))), (.idx (.var 0) (.cst (.int 3))), (.idx (.var 0) (.cst (.int 2)))])])])] [],
  .ite (.cmp .eq (.idx (.var 0) (.cst (.int 0))) (.cst (.str "pay"))) [.ret (.lst [(.tup []), (.tup [(.tup [(.cst (.str "pay")), (.call "contrary_of" [(.idx (.var 0) (.cst (.int 1)))])])])])] [],
  .ite (.cmp .eq (.idx (.var 0) (.cst (.int 0))) (.cst (.str "repeat"))) [.ret (.lst [(.tup []), (.tup [(.tup [(.cst (.str "repeat")), (.cst (.int 1)), (.idx (.var 0) (.cst (.int 2)))])])])] [],
  .ite (.cmp .eq (.idx (.var 0) (.cst (.int 0))) (.cst (.str "set"))) [.ret (.lst [(.tup []), (.tup [(.tup [(.cst (.str "set")), (.idx (.var 0) (.cst (.int 1))), (.tup [(.cst (.str "plus")), (.idx (.var 0) (.cst (.int 2))), (.cst (.int 1))])])])])] [],
  .ret (.lst [(.tup [])])]⟩
def c_changed : Fn := ⟨3, 5, [1], true, [.asg (.pt (.var 3)) (.lst []),
  .for_ (.var 4) (.var 0) [.ite (.cmp .eq (.var 1) (.cst (.int 0))) [.expr (.mut (.var 3) "extend" [(.var 2)])] [.ite (.cmp2 .lt .lt (.cst (.int 0)) (.var 1) (.call "places_in" [(.var 4)])) [.expr (.mut (.var 3) "append" [(.call "changed_within" [(.var 4), (.bin .sub (.var 1) (.cst (.int 1))), (.var 2)])])] [.expr (.mut (.var 3) "append" [(.var 4)])]],
    .aug 1 .sub (.call "places_in" [(.var 4)])],
  .ret (.blt "tuple" [(.var 3)])]⟩
def c_changed_within : Fn := ⟨3, 5, [1], true, [.asg (.pt (.var 3)) (.lst []),
  .for_ (.var 4) (.call "blocks_of" [(.var 0)]) [.expr (.mut (.var 3) "append" [(.call "changed" [(.var 4), (.var 1), (.var 2)])]),
    .aug 1 .sub (.call "block_places" [(.var 4)])],
  .ret (.call "with_blocks" [(.var 0), (.var 3)])]⟩
def c_mutants : Fn := ⟨1, 8, [], true, [.asg (.pt (.var 1)) (.lst []),
  .for_ (.tup [(.var 2), (.tup [(.var 3), (.var 4)])]) (.enum (.call "rows_of" [(.var 0)])) [.asg (.pt (.var 5)) (.comp (.call "changed" [(.var 0), (.var 2), (.var 6)]) (.var 6) (.call "changes_of" [(.var 4)]) none [6]),
    .expr (.mut (.var 1) "extend" [(.comp (.var 7) (.var 7) (.var 5) (some (.call "is_program" [(.var 7)])) [7])])],
  .ret (.blt "tuple" [(.var 1)])]⟩
def c__law_new : Fn := ⟨2, 2, [], true, [.ite (.or [(.cmp .eq (.var 1) (.cst (.int 0))), (.cmp .eq (.idx (.var 0) (.cst (.int 0))) (.cst (.str "stop")))]) [.ret (.tup [])] [],
  .ite (.cmp .eq (.idx (.var 0) (.cst (.int 0))) (.cst (.str "if"))) [.ret (.tup [(.tup [(.cst (.str "if")), (.idx (.var 0) (.cst (.int 1))), (.idx (.var 0) (.cst (.int 3))), (.idx (.var 0) (.cst (.int 2)))])])] [],
  .ite (.cmp .eq (.idx (.var 0) (.cst (.int 0))) (.cst (.str "pay"))) [.ret (.tup [(.tup [(.cst (.str "pay")), (.tup [(.cst (.str "times")), (.neg (.cst (.int 1))), (.idx (.var 0) (.cst (.int 1)))])])])] [],
  .ret (.ite (.cmp .eq (.idx (.var 0) (.cst (.int 0))) (.cst (.str "repeat"))) (.tup [(.tup [(.cst (.str "repeat")), (.cst (.int 1)), (.idx (.var 0) (.cst (.int 2)))])]) (.tup [(.tup [(.cst (.str "set")), (.idx (.var 0) (.cst (.int 1))), (.tup [(.cst (.str "plus")), (.idx (.var 0) (.cst (.int 2))), (.cst (.int 1))])])]))]⟩
def c__law_replaced : Fn := ⟨3, 8, [1], true, [.asg (.pt (.var 3)) (.tup []),
  .for_ (.var 4) (.var 0) [.par 5 6 (.bin .sub (.var 1) (.cst (.int 1))) (.lst []),
    .for_ (.var 7) (.call "_law_parts" [(.var 4)]) [.expr (.mut (.var 6) "append" [(.call "_law_replaced" [(.var 7), (.var 5), (.var 2)])]),
      .asg (.pt (.var 5)) (.bin .sub (.var 5) (.call "_law_size" [(.var 7)]))],
    .ite (.cmp .eq (.var 1) (.cst (.int 0))) [.asg (.pt (.var 3)) (.bin .add (.var 3) (.call "_law_new" [(.var 4), (.var 2)]))] [.asg (.pt (.var 3)) (.bin .add (.var 3) (.ite (.cmp .ne (.var 6) (.lst [])) (.tup [(.bin .add (.slc (.var 4) none (some (.cst (.int 2)))) (.blt "tuple" [(.var 6)]))]) (.tup [(.var 4)])))],
    .asg (.pt (.var 1)) (.bin .sub (.var 1) (.call "_law_size" [(.tup [(.var 4)])]))],
  .ret (.var 3)]⟩
def c__law_words : Fn := ⟨1, 4, [], true, [.asg (.pt (.var 1)) (.lst []),
  .for_ (.var 2) (.var 0) [.expr (.mut (.var 1) "append" [(.idx (.var 2) (.cst (.int 0)))]),
    .for_ (.var 3) (.call "_law_parts" [(.var 2)]) [.expr (.mut (.var 1) "extend" [(.call "_law_words" [(.var 3)])])]],
  .ret (.var 1)]⟩
def c__law_mutants : Fn := ⟨1, 6, [], true, [.asg (.pt (.var 1)) (.lst []),
  .for_ (.tup [(.var 2), (.var 3)]) (.enum (.call "_law_words" [(.var 0)])) [.for_ (.var 4) (.rng1 (.ite (.cmp .eq (.var 3) (.cst (.str "stop"))) (.cst (.int 1)) (.cst (.int 2)))) [.asg (.pt (.var 5)) (.call "_law_replaced" [(.var 0), (.var 2), (.var 4)]),
      .ite (.cmp .is (.call "_law_error" [(.var 5)]) (.cst .none)) [.expr (.mut (.var 1) "append" [(.var 5)])] []]],
  .ret (.blt "tuple" [(.var 1)])]⟩
def c__law_wrong_k28 : Fn := ⟨2, 3, [], true, [.asg (.pt (.var 2)) (.lst [(.cst .none), (.cst (.int 0)), (.cst (.str "stop")), (.lst []), (.dic [] []), (.blt "list" [(.var 1)]), (.bin .add (.var 1) (.tup [(.tup [(.cst (.str "stop")), (.cst (.int 1))])])), (.bin .add (.tup [(.tup [(.cst (.str "pay")), (.cst (.int 100))])]) (.var 1)), (.tup [(.cst (.str "stop"))])]),
  .asg (.pt (.var 2)) (.bin .add (.var 2) (.lst [(.tup [(.tup [(.cst (.str "set")), (.cst (.str "box")), (.cst (.int 1))])]), (.bin .mul (.tup [(.tup [(.cst (.str "pay")), (.cst (.int 1))])]) (.cst (.int 25))), (.tup [(.tup [(.cst (.str "repeat")), (.cst (.int 8)), (.bin .mul (.tup [(.tup [(.cst (.str "pay")), (.cst (.int 1))])]) (.cst (.int 4)))])]), (.var 1)])),
  .asg (.pt (.var 2)) (.bin .add (.var 2) (.lst [(.tup [(.tup [(.cst (.str "repeat")), (.cst (.int 3)), (.tup [(.tup [(.cst (.str "if")), (.tup [(.cst (.str "less")), (.cst (.str "n")), (.cst (.int 1))]), (.tup []), (.tup [])])])])]), (.tup [(.tup [(.cst (.str "if")), (.tup [(.cst (.str "rest")), (.cst (.str "n")), (.cst (.int 2)), (.cst (.int 2))]), (.tup []), (.tup [])])])])),
  .ret (.call "_law_one" [(.var 0), (.var 2)])]⟩
def c__law_other : Fn := ⟨1, 3, [], true, [.ite (.not (.isi (.var 0) [.tuple])) [.ret (.var 0)] [],
  .ite (.cmp .eq (.idx (.var 0) (.cst (.int 0))) (.cst (.str "times"))) [.ret (.tup [(.cst (.str "times")), (.idx (.var 0) (.cst (.int 1))), (.call "_law_other" [(.idx (.var 0) (.cst (.int 2)))])])] [],
  .par 1 2 (.call "_law_other" [(.idx (.var 0) (.cst (.int 1)))]) (.call "_law_other" [(.idx (.var 0) (.cst (.int 2)))]),
  .ite (.and [(.cmp .eq (.idx (.var 0) (.cst (.int 0))) (.cst (.str "minus"))), (.isi (.var 2) [.int])]) [.ret (.tup [(.cst (.str "plus")), (.var 1), (.bin .sub (.cst (.int 0)) (.var 2))])] [],
  .ite (.and [(.cmp .eq (.idx (.var 0) (.cst (.int 0))) (.cst (.str "minus"))), (.cmp .eq (.idx (.var 2) (.cst (.int 0))) (.cst (.str "times")))]) [.ret (.tup [(.cst (.str "plus")), (.var 1), (.tup [(.cst (.str "times")), (.bin .sub (.cst (.int 0)) (.idx (.var 2) (.cst (.int 1)))), (.idx (.var 2) (.cst (.int 2)))])])] [],
  .ret (.ite (.cmp .eq (.idx (.var 0) (.cst (.int 0))) (.cst (.str "plus"))) (.tup [(.idx (.var 0) (.cst (.int 0))), (.var 2), (.var 1)]) (.tup [(.idx (.var 0) (.cst (.int 0))), (.var 1), (.var 2)]))]⟩
def c__law_test_other : Fn := ⟨1, 1, [], true, [.ite (.cmp .eq (.idx (.var 0) (.cst (.int 0))) (.cst (.str "not"))) [.ret (.idx (.var 0) (.cst (.int 1)))] [],
  .ite (.and [(.cmp .eq (.idx (.var 0) (.cst (.int 0))) (.cst (.str "rest"))), (.cmp .eq (.idx (.var 0) (.cst (.int 2))) (.cst (.int 2)))]) [.ret (.tup [(.cst (.str "rest")), (.call "_law_other" [(.idx (.var 0) (.cst (.int 1)))]), (.cst (.int 2)), (.bin .sub (.cst (.int 1)) (.idx (.var 0) (.cst (.int 3))))])] [],
  .ite (.cmp .eq (.idx (.var 0) (.cst (.int 0))) (.cst (.str "rest"))) [.ret (.tup [(.cst (.str "not")), (.tup [(.cst (.str "rest")), (.call "_law_other" [(.idx (.var 0) (.cst (.int 1)))]), (.idx (.var 0) (.cst (.int 2))), (.idx (.var 0) (.cst (.int 3)))])])] [],
  .ret (.tup [(.cst (.str "not")), (.tup [(.cst (.str "less")), (.call "_law_other" [(.idx (.var 0) (.cst (.int 1)))]), (.call "_law_other" [(.idx (.var 0) (.cst (.int 2)))])])])]⟩
def c__law_row_other : Fn := ⟨2, 5, [], true, [.ite (.cmp .eq (.idx (.var 0) (.cst (.int 0))) (.cst (.str "if"))) [.par 2 3 (.call "_law_rows_other" [(.idx (.var 0) (.cst (.int 2))), (.var 1)]) (.call "_law_rows_other" [(.idx (.var 0) (.cst (.int 3))), (.var 1)]),
    .ret (.tup [(.tup [(.cst (.str "if")), (.call "_law_test_other" [(.idx (.var 0) (.cst (.int 1)))]), (.var 3), (.var 2)])])] [],
  .ite (.cmp .eq (.idx (.var 0) (.cst (.int 0))) (.cst (.str "repeat"))) [.asg (.pt (.var 4)) (.call "_law_rows_other" [(.idx (.var 0) (.cst (.int 2))), (.var 1)]),
    .ret (.ite (.var 1) (.bin .mul (.var 4) (.idx (.var 0) (.cst (.int 1)))) (.tup [(.tup [(.cst (.str "repeat")), (.idx (.var 0) (.cst (.int 1))), (.var 4)])]))] [],
  .ite (.and [(.cmp .eq (.idx (.var 0) (.cst (.int 0))) (.cst (.str "pay"))), (.isi (.idx (.var 0) (.cst (.int 1))) [.tuple]), (.cmp .eq (.idx (.idx (.var 0) (.cst (.int 1))) (.cst (.int 0))) (.cst (.str "plus")))]) [.ret (.tup [(.tup [(.cst (.str "pay")), (.call "_law_other" [(.idx (.idx (.var 0) (.cst (.int 1))) (.cst (.int 1)))])]), (.tup [(.cst (.str "pay")), (.call "_law_other" [(.idx (.idx (.var 0) (.cst (.int 1))) (.cst (.int 2)))])])])] [],
  .ite (.cmp .isin (.idx (.var 0) (.cst (.int 0))) (.tup [(.cst (.str "pay")), (.cst (.str "set"))])) [.ret (.tup [(.bin .add (.slc (.var 0) none (some (.neg (.cst (.int 1))))) (.tup [(.call "_law_other" [(.idx (.var 0) (.neg (.cst (.int 1))))])]))])] [],
  .ret (.tup [(.var 0)])]⟩
def c__law_rows_other : Fn := ⟨2, 4, [], true, [.asg (.pt (.var 2)) (.tup []),
  .for_ (.var 3) (.var 0) [.asg (.pt (.var 2)) (.bin .add (.var 2) (.call "_law_row_other" [(.var 3), (.var 1)]))],
  .ret (.var 2)]⟩
def c__law_with_more : Fn := ⟨2, 4, [], true, [.asg (.pt (.var 2)) (.call "_law_draw" [(.var 0), (.bin .add (.blt "len" [(.var 1)]) (.cst (.int 1)))]),
  .asg (.pt (.var 3)) (.lst [(.tup [(.cst (.str "set")), (.cst (.str "spare1")), (.cst (.str "n"))]), (.tup [(.cst (.str "repeat")), (.cst (.int 3)), (.tup [])]), (.tup [(.cst (.str "repeat")), (.cst (.int 1)), (.tup [(.tup [(.cst (.str "set")), (.cst (.str "spare1")), (.cst (.int 1))])])]), (.tup [(.cst (.str "pay")), (.cst (.int 0))])]),
  .asg (.pt (.var 3)) (.bin .add (.var 3) (.lst [(.tup [(.cst (.str "pay")), (.cst (.str "spare1"))]), (.tup [(.cst (.str "if")), (.tup [(.cst (.str "less")), (.cst (.int 1)), (.cst (.int 0))]), (.tup [(.tup [(.cst (.str "stop"))])]), (.tup [])])])),
  .asg (.pt (.var 3)) (.bin .add (.var 3) (.lst [(.tup [(.cst (.str "if")), (.tup [(.cst (.str "not")), (.tup [(.cst (.str "rest")), (.cst (.int 1)), (.cst (.int 2)), (.cst (.int 0))])]), (.tup []), (.tup [(.tup [(.cst (.str "pay")), (.cst (.int 1))])])])])),
  .ret (.bin .add (.bin .add (.bin .add (.bin .mul (.tup [(.tup [(.cst (.str "set")), (.cst (.str "n")), (.cst (.str "n"))])]) (.call "_law_draw" [(.var 0), (.cst (.int 2))])) (.slc (.var 1) none (some (.var 2)))) (.tup [(.call "_law_one" [(.var 0), (.var 3)])])) (.slc (.var 1) (some (.var 2)) none))]⟩
def c__law_renamed : Fn := ⟨2, 4, [], true, [.ite (.isi (.var 0) [.str]) [.ret (.bm (.var 1) "get" [(.var 0), (.var 0)])] [],
  .ite (.not (.isi (.var 0) [.tuple])) [.ret (.var 0)] [],
  .asg (.pt (.var 2)) (.ite (.and [(.cmp .ne (.var 0) (.tup [])), (.isi (.idx (.var 0) (.cst (.int 0))) [.str])]) (.slc (.var 0) none (some (.cst (.int 1)))) (.tup [])),
  .ret (.bin .add (.var 2) (.blt "tuple" [(.comp (.call "_law_renamed" [(.var 3), (.var 1)]) (.var 3) (.slc (.var 0) (some (.blt "len" [(.var 2)])) none) none [3])]))]⟩
def c__law_alike : Fn := ⟨3, 6, [], true, [.ite (.cmp .isn (.call "program_error" [(.var 2)]) (.cst .none)) [.ret (.cst (.bool true))] [],
  .for_ (.var 3) (.comp (.call "_law_number" [(.var 0)]) (.var 5) (.rng1 (.cst (.int 4))) none [5]) [.asg (.pt (.var 4)) (.lst [(.idx (.call "run" [(.var 1), (.var 3)]) (.cst (.int 0))), (.call "sign" [(.var 1), (.var 3)])]),
    .ite (.cmp .ne (.blt "repr" [(.lst [(.idx (.call "run" [(.var 2), (.var 3)]) (.cst (.int 0))), (.call "sign" [(.var 2), (.var 3)])])]) (.blt "repr" [(.var 4)])) [.ret (.cst (.bool false))] []],
  .ret (.cst (.bool true))]⟩
def c__law_little : Fn := ⟨2, 12, [], true, [.par 2 3 (.bin .sub (.call "_law_draw" [(.var 0), (.cst (.int 13))]) (.cst (.int 6))) (.bin .sub (.call "_law_draw" [(.var 0), (.cst (.int 13))]) (.cst (.int 6))),
  .asg (.pt (.tup [(.var 4), (.var 5), (.var 6)])) (.comp (.bin .sub (.call "_law_draw" [(.var 0), (.cst (.int 3))]) (.cst (.int 1))) (.var 11) (.rng1 (.cst (.int 3))) none [11]),
  .par 7 8 (.call "_law_draw" [(.var 0), (.cst (.int 8))]) (.bin .add (.cst (.int 2)) (.call "_law_draw" [(.var 0), (.cst (.int 5))])),
  .par 9 10 (.tup [(.cst (.str "less")), (.cst (.str "n")), (.var 2)]) (.tup [(.cst (.str "rest")), (.cst (.str "n")), (.var 8), (.call "_law_draw" [(.var 0), (.var 8)])]),
  .ite (.cmp .eq (.var 7) (.cst (.int 0))) [.ret (.tup [(.tup [(.cst (.str "pay")), (.tup [(.cst (.str "minus")), (.cst (.str "n")), (.var 2)])])])] [],
  .ite (.cmp .eq (.var 7) (.cst (.int 1))) [.ret (.tup [(.tup [(.cst (.str "if")), (.var 9), (.tup [(.tup [(.cst (.str "pay")), (.var 4)])]), (.tup [(.tup [(.cst (.str "pay")), (.var 5)])])])])] [],
  .ite (.cmp .eq (.var 7) (.cst (.int 2))) [.ret (.tup [(.tup [(.cst (.str "if")), (.var 10), (.tup [(.tup [(.cst (.str "pay")), (.var 4)])]), (.tup [(.tup [(.cst (.str "pay")), (.tup [(.cst (.str "minus")), (.var 2), (.cst (.str "n"))])])])])])] [],
  .ite (.cmp .eq (.var 7) (.cst (.int 3))) [.ret (.tup [(.tup [(.cst (.str "if")), (.var 9), (.tup [(.tup [(.cst (.str "pay")), (.var 4)])]), (.tup [(.tup [(.cst (.str "if")), (.tup [(.cst (.str "less")), (.cst (.str "n")), (.var 3)]), (.tup [(.tup [(.cst (.str "pay")), (.var 5)])]), (.tup [(.tup [(.cst (.str "pay")), (.var 6)])])])])])])] [],
  .ite (.cmp .eq (.var 7) (.cst (.int 4))) [.ret (.tup [(.tup [(.cst (.str "set")), (.idx (.var 1) (.cst (.int 1))), (.tup [(.cst (.str "plus")), (.cst (.str "n")), (.var 2)])]), (.tup [(.cst (.str "repeat")), (.cst (.int 2)), (.tup [(.tup [(.cst (.str "pay")), (.idx (.var 1) (.cst (.int 1)))])])]), (.tup [(.cst (.str "pay")), (.var 4)])])] [],
  .ite (.cmp .eq (.var 7) (.cst (.int 5))) [.ret (.tup [(.tup [(.cst (.str "if")), (.var 10), (.tup [(.tup [(.cst (.str "if")), (.var 9), (.tup [(.tup [(.cst (.str "pay")), (.var 4)])]), (.tup [])])]), (.tup [])])])] [],
  .ret (.ite (.cmp .eq (.var 7) (.cst (.int 6))) (.tup [(.tup [(.cst (.str "pay")), (.var 4)])]) (.call "_law_program" [(.var 0), (.var 1)]))]⟩
def c_is_heard_pair : Fn := ⟨1, 1, [], true, [.ite (.or [(.not (.isi (.var 0) [.tuple])), (.cmp .ne (.blt "len" [(.var 0)]) (.cst (.int 2)))]) [.ret (.cst (.bool false))] [],
  .ret (.and [(.call "is_integer" [(.idx (.var 0) (.cst (.int 0)))]), (.call "is_integer" [(.idx (.var 0) (.cst (.int 1)))]), (.cmp2 .le .le (.neg (.cst (.int 1))) (.idx (.var 0) (.cst (.int 1))) (.cst (.int 1)))])]⟩
end Wh.C


set_option Elab.async false
set_option linter.all false
set_option maxRecDepth 100000
set_option maxHeartbeats 4000000
namespace Wh
open PySem PySem.Spec PyProof.Rows L2 Wh.C
/-- the defs and constants of module programs that program_error reaches -/
structure HP (T : Tab) : Prop where
  is_whole : T.fn "is_whole" = some c_is_whole
  is_name : T.fn "is_name" = some c_is_name_k00
  is_expression : T.fn "is_expression" = some c_is_expression
  is_rest : T.fn "is_rest" = some c_is_rest
  is_test : T.fn "is_test" = some c_is_test
  are_blocks : T.fn "are_blocks" = some c_are_blocks
  is_statement : T.fn "is_statement" = some c_is_statement
  blocks_of : T.fn "blocks_of" = some c_blocks_of
  items_within : T.fn "items_within" = some c_items_within
  rows_of : T.fn "rows_of" = some c_rows_of
  order_error : T.fn "order_error" = some c_order_error
  bare : T.fn "bare" = some c_bare
  own_count : T.fn "own_count" = some c_own_count
  counted : T.fn "counted" = some c_counted
  weight : T.fn "weight" = some c_weight
  program_error : T.fn "program_error" = some c_program_error
  MAX_NAME : T.glob "MAX_NAME" = some (.int 8)
  LETTERS : T.glob "LETTERS" = some (.str "abcdefghijklmnopqrstuvwxyz")
  SIGNS : T.glob "SIGNS" = some (.str "abcdefghijklmnopqrstuvwxyz0123456789")
  KEPT : T.glob "KEPT" = some (.tuple [.str "box", .str "set", .str "pay", .str "stop", .str "if", .str "else", .str "repeat", .str "pass", .str "rest", .str "of", .str "not", .str "program"])
  MOST_NUMBER : T.glob "MOST_NUMBER" = some (.int 99)
  MOST_FACTOR : T.glob "MOST_FACTOR" = some (.int 9)
  MAX_DEEP : T.glob "MAX_DEEP" = some (.int 3)
  MAX_BY : T.glob "MAX_BY" = some (.int 6)
  MAX_NOTS : T.glob "MAX_NOTS" = some (.int 2)
  MAX_TIMES : T.glob "MAX_TIMES" = some (.int 8)
  MAX_NEST : T.glob "MAX_NEST" = some (.int 3)
  MAX_PLACES : T.glob "MAX_PLACES" = some (.int 24)
  MAX_WEIGHT : T.glob "MAX_WEIGHT" = some (.int 30)
  MAX_RESTS : T.glob "MAX_RESTS" = some (.int 2)
  MAX_COMPARINGS : T.glob "MAX_COMPARINGS" = some (.int 2)
variable {T : Tab}
def isWhole (v : PyData) (a b : Int) : Bool := match v with
  | .int i => decide (a ≤ i) && decide (i ≤ b)
  | _ => false
theorem s_is_whole (H : HP T) (v : PyData) (a b : Int) {m : Nat} (hm : 1 ≤ m) : callF T m "is_whole" [false, false, false] [.p v, .p (.int a), .p (.int b)] = some (.p (.bool (isWhole v a b)), [.p v, .p (.int a), .p (.int b)]) := by
  rw [run_at H.is_whole hm]
  cases v <;> simp [c_is_whole, isWhole]
  rename_i i
  by_cases h : a ≤ i <;> simp [h]
def keptS : List Str := ["box", "set", "pay", "stop", "if", "else", "repeat", "pass", "rest", "of", "not", "program"]
def isKept (s : Str) : Bool := keptS.any fun x => decide (x = s)
def letters : Str := "abcdefghijklmnopqrstuvwxyz"
def signs : Str := "abcdefghijklmnopqrstuvwxyz0123456789"
def nameOk (s : Str) : Bool := match s.cps.toList with
  | [] => false
  | c :: r => decide (r.length + 1 ≤ 8) && decide (c ∈ letters.cps.toList) && (c :: r).all (fun d => decide (d ∈ signs.cps.toList)) && !isKept s
def isName (v : PyData) : Bool := match v with
  | .str s => nameOk s
  | _ => false
theorem inSeq_kept (s : Str) : inSeq (.str s) (keptS.map .str) = some (isKept s) := by
  simp [inSeq, inL, keptS, isKept]
theorem len_s {s : Str} (h : s.length ≤ sizeLine) : lenV (.p (.str s)) = some s.length := by simp [lenV, h]
theorem ix_s {s : Str} {i : Int} (h : s.length ≤ sizeLine) : getIx (.p (.str s)) (.p (.int i)) = (atI s.cps.toList i).map fun c => .p (.str ⟨#[c]⟩) := by simp [getIx, h]
theorem strL_eq (s : Str) : strL s = s.cps.toList.map fun c => PyData.str ⟨#[c]⟩ := rfl
theorem ix_n {α : Type} {xs : List α} {i : Nat} (h : i < xs.length) : atI xs (i : Int) = xs[i]? := by
  simp only [atI, ixN]
  rw [if_pos (by omega), if_pos (by omega)]
  rfl
@[simp] theorem at0 {α : Type} {x : α} {xs : List α} : atI (x :: xs) 0 = some x := ix_n (i := 0) (by simp)
@[simp] theorem at1 {α : Type} {x y : α} {xs : List α} : atI (x :: y :: xs) 1 = some y := ix_n (i := 1) (by simp)
@[simp] theorem at2 {α : Type} {x y z : α} {xs : List α} : atI (x :: y :: z :: xs) 2 = some z := ix_n (i := 2) (by simp)
@[simp] theorem at3 {α : Type} {x y z w : α} {xs : List α} : atI (x :: y :: z :: w :: xs) 3 = some w := ix_n (i := 3) (by simp)
def notSign (x : PyData) : Bool := match x with
  | .str s => !inStr s signs
  | _ => true
theorem notSign_eq (c : Nat) : notSign (.str ⟨#[c]⟩) = !decide (c ∈ signs.cps.toList) := by simp [notSign, inStr_one]
theorem s_is_name (H : HP T) (v : PyData) (hv : ∀ s, v = .str s → s.length ≤ sizeLine) {m : Nat} (hm : 1 ≤ m) : callF T m "is_name" [false] [.p v] = some (.p (.bool (isName v)), [.p v]) := by
  rw [run_at H.is_name hm]
  apply W.eq
  cases v with
  | str s =>
    have hs := hv s rfl
    have hl : s.length = s.cps.toList.length := by simp [Str.length]
    cases e : s.cps.toList with
    | nil => 
      simp [c_is_name_k00, isName, nameOk, lksOf, isTy, len_s hs, H.MAX_NAME, hl, e]
    | cons c r =>
      have hK := H.KEPT
      rw [show [PyData.str "box", .str "set", .str "pay", .str "stop", .str "if", .str "else", .str "repeat", .str "pass", .str "rest", .str "of", .str "not", .str "program"] = keptS.map .str from rfl] at hK
      simp [c_is_name_k00, lksOf, isTy, len_s hs, H.MAX_NAME, H.LETTERS, H.SIGNS, hK, hl, e, ix_s hs, inStr_one, inSeq_kept, strL_eq, ownOk, isName, nameOk]
      refine ⟨fun h1 => ⟨fun h2 => by omega, fun h2 => ⟨fun h3 => ?_, fun h3 => by simp [letters, h3]⟩⟩, by omega⟩
      rw [comp_filter notSign]
      · have hf : (List.filter notSign (PyData.str { cps := #[c] } :: List.map (fun c => PyData.str { cps := #[c] }) r)).length ≤ sizeLine :=
          Nat.le_trans (List.length_filter_le _ _) (by simp [sizeLine]; omega)
        have h4 : r.length ≤ 7 := by omega
        simp [hK, inSeq_kept, lock, root, hf, notSign_eq, e, letters, h3, h4]
        refine ⟨?_, ?_⟩
        · intro a b
          simp [a]
          intro _ x hx
          exact b x hx
        · intro a b c
          obtain ⟨x, h1, h2⟩ := a b
          exact absurd (c x h1) h2
      · intro x hx
        have hx : ∃ c, x = .str ⟨#[c]⟩ := by
          simp at hx
          rcases hx with h | ⟨d, _, h⟩
          · exact ⟨c, h⟩
          · exact ⟨d, h.symm⟩
        obtain ⟨d, rfl⟩ := hx
        simp [H.SIGNS, inStr_one, notSign_eq, signs]
        by_cases hd : d ∈ (Str.ofString "abcdefghijklmnopqrstuvwxyz0123456789").cps <;> simp [hd]
  | _ => simp [c_is_name_k00, isName, lksOf, isTy]

mutual
/-- its texts (and lists, tuples) are short -/
def sm : PyData → Bool
  | .str s => decide (s.length ≤ sizeLine)
  | .list xs => smAll xs
  | .tuple xs => smAll xs
  | _ => true
def smAll : List PyData → Bool
  | [] => true
  | x :: xs => sm x && smAll xs
end
theorem smAll_iff {xs : List PyData} : smAll xs = true ↔ ∀ x ∈ xs, sm x = true := by
  induction xs with
  | nil => simp [smAll]
  | cons x xs ih => simp [smAll, ih]
@[simp] theorem sm_tup {xs : List PyData} : sm (.tuple xs) = true ↔ ∀ x ∈ xs, sm x = true := by simp [sm, smAll_iff]
@[simp] theorem sm_lst {xs : List PyData} : sm (.list xs) = true ↔ ∀ x ∈ xs, sm x = true := by simp [sm, smAll_iff]
theorem sm_str {v : PyData} (h : sm v = true) : ∀ s, v = .str s → s.length ≤ sizeLine := by
  intro s e
  subst e
  simpa [sm] using h
def isExpr : Nat → PyData → Bool
  | 0, _ => false
  | k + 1, v => match v with
    | .tuple [.str w, a, b] => if w = "times" then isWhole a (-9) 9 && isExpr k b else (decide (w = "plus") || decide (w = "minus")) && (isExpr k a && isExpr k b)
    | .tuple _ => false
    | v => isName v || isWhole v (-99) 99
theorem inSeq2 {s a b : Str} : inSeq (.str s) [.str a, .str b] = some (decide (a = s) || decide (b = s)) := by simp [inSeq, inL]
theorem s_is_expression (H : HP T) : ∀ (k : Nat) (v : PyData), sm v = true → ∀ {m : Nat}, k + 2 ≤ m → callF T m "is_expression" [false, false] [.p v, .p (.int (k : Int))] = some (.p (.bool (isExpr k v)), [.p v, .p (.int (k : Int))])
  | 0, v, hv, m, hm => by
    rw [run_at H.is_expression (by omega)]
    apply W.eq
    simp [c_is_expression, isExpr]
  | k + 1, v, hv, m, hm => by
    rw [run_at H.is_expression (by omega)]
    apply W.eq
    have ih := fun v hv => s_is_expression H k v hv (m := m - 1) (by omega)
    have hw := fun v a b => s_is_whole H v a b (m := m - 1) (by omega)
    have hk : (k : Int) + 1 ≠ 0 := by omega
    cases v with
    | tuple xs =>
      rcases xs with _ | ⟨a, _ | ⟨b, _ | ⟨c, _ | ⟨d, r⟩⟩⟩⟩
      · simp [c_is_expression, isExpr, hk]
      · simp [c_is_expression, isExpr, hk]
      · simp [c_is_expression, isExpr, hk]
      · simp at hv
        have ha := ih b hv.2.1
        have hb := ih c hv.2.2
        cases a with
        | str w => 
          simp [c_is_expression, hk, ha, hb, hw, isExpr, H.MOST_FACTOR, inSeq2, mkTup]
          by_cases h1 : w = "times"
          · subst h1
            simp
            cases isExpr k c <;> simp
          · by_cases h2 : w = "plus"
            · subst h2
              simp
              cases isExpr k c <;> simp
            · by_cases h3 : w = "minus"
              · subst h3
                simp
                cases isExpr k c <;> simp
              · simp [h1, h2, h3, Ne.symm h2, Ne.symm h3]
        | _ => simp [c_is_expression, isExpr, hk]
      · have h4 : ¬ (r.length : Int) + 1 + 1 + 1 + 1 = 3 := by omega
        simp [c_is_expression, isExpr, hk, h4]
    | _ => 
      simp [c_is_expression, isExpr, hk, s_is_name H _ (sm_str hv) (m := m - 1) (by omega), hw, H.MOST_NUMBER]
      try (cases isName _ <;> simp)

theorem s_is_expr3 (H : HP T) (v : PyData) (hv : sm v = true) {m : Nat} (hm : 5 ≤ m) : callF T m "is_expression" [false, false] [.p v, .p (.int 3)] = some (.p (.bool (isExpr 3 v)), [.p v, .p (.int 3)]) := s_is_expression H 3 v hv hm
def isRestT : List PyData → Bool
  | [_, e, .int b, r] => isExpr 3 e && (decide (2 ≤ b) && decide (b ≤ 6)) && isWhole r 0 (b - 1)
  | _ => false
@[simp] theorem len0 {n : Nat} : ((n : Int) + 1 = 0) = False := by
  simp
  omega
theorem lenL {n : Nat} : ∀ k : Int, k ≤ 4 → ((n : Int) + 1 + 1 + 1 + 1 + 1 = k) = False := by
  intro k hk
  simp
  omega
@[simp] theorem isWhole_int {i a b : Int} : isWhole (.int i) a b = (decide (a ≤ i) && decide (i ≤ b)) := rfl
theorem s_is_rest (H : HP T) (xs : List PyData) (hv : ∀ x ∈ xs, sm x = true) {m : Nat} (hm : 6 ≤ m) : callF T m "is_rest" [false] [.p (.tuple xs)] = some (.p (.bool (isRestT xs)), [.p (.tuple xs)]) := by
  rw [run_at H.is_rest (by omega)]
  apply W.eq
  have he := fun v hv => s_is_expr3 H v hv (m := m - 1) (by omega)
  have hw := fun v a b => s_is_whole H v a b (m := m - 1) (by omega)
  rcases xs with _ | ⟨a, _ | ⟨b, _ | ⟨c, _ | ⟨d, _ | ⟨e, r⟩⟩⟩⟩⟩
  · simp [c_is_rest, isRestT]
  · simp [c_is_rest, isRestT]
  · simp [c_is_rest, isRestT]
  · simp [c_is_rest, isRestT]
  · simp at hv
    simp [c_is_rest, he b hv.2.1, hw, H.MAX_DEEP, H.MAX_BY]
    cases c with
    | int b =>
      simp [isRestT, isWhole_int, hw]
      cases isExpr 3 _ <;> simp
      by_cases h2 : 2 ≤ b <;> simp [h2]
      by_cases h3 : b ≤ 6 <;> simp [h3]
      omega
    | _ => simp [isRestT, isWhole]
  · simp [c_is_rest, isRestT, lenL]
def two3 : List PyData → Bool
  | [a, b] => isExpr 3 a && isExpr 3 b
  | _ => false
def one1 (f : PyData → Bool) : List PyData → Bool
  | [t] => f t
  | _ => false
def testBy (f : PyData → Bool) (v : PyData) : Bool := match v with
  | .tuple (.str w :: xs) => if w = "less" then two3 xs else if w = "rest" then isRestT (.str w :: xs) else if w = "not" then one1 f xs else false
  | _ => false
def isTest : Nat → PyData → Bool
  | 0 => testBy fun _ => false
  | k + 1 => testBy (isTest k)
theorem s_is_test (H : HP T) : ∀ (k : Nat) (v : PyData), sm v = true → ∀ {m : Nat}, k + 7 ≤ m → callF T m "is_test" [false, false] [.p v, .p (.int (k : Int))] = some (.p (.bool (isTest k v)), [.p v, .p (.int (k : Int))]) := by
  intro k
  induction k with
  | zero => 
    intro v hv m hm
    rw [run_at H.is_test (by omega)]
    apply W.eq
    have he := fun v hv => s_is_expr3 H v hv (m := m - 1) (by omega)
    have ih : (0 : Int) < 0 → False := by omega
    cases v with
    | tuple xs =>
      simp at hv
      have hr := s_is_rest H xs hv (m := m - 1) (by omega)
      rcases xs with _ | ⟨a, xs⟩
      · simp [c_is_test, isTest, testBy]
      · cases a with
        | str w =>
          by_cases h1 : w = "less"
          · subst h1
            rcases xs with _ | ⟨a, _ | ⟨b, _ | ⟨c, _ | ⟨d, r⟩⟩⟩⟩
            · simp [c_is_test, isTest, testBy, two3]
            · simp [c_is_test, isTest, testBy, two3]
            · simp at hv
              simp [c_is_test, isTest, testBy, two3, he a hv.2.1, he b hv.2.2, H.MAX_DEEP]
              cases isExpr 3 a <;> simp
            · simp [c_is_test, isTest, testBy, two3]
            · simp [c_is_test, isTest, testBy, lenL, two3]
          · by_cases h2 : w = "rest"
            · subst h2
              simp [c_is_test, isTest, testBy, hr]
            · by_cases h3 : w = "not"
              · subst h3
                rcases xs with _ | ⟨a, _ | ⟨b, _ | ⟨c, _ | ⟨d, r⟩⟩⟩⟩
                · simp [c_is_test, isTest, testBy, one1]
                · simp at hv
                  simp [c_is_test, isTest, testBy, one1]
                · simp [c_is_test, isTest, testBy, one1]
                · simp [c_is_test, isTest, testBy, one1]
                · simp [c_is_test, isTest, testBy, lenL, one1]
              · simp [c_is_test, isTest, testBy, h1, h2, h3]
        | _ => simp [c_is_test, isTest, testBy]
    | _ => simp [c_is_test, isTest, testBy]
  | succ k ih =>
    intro v hv m hm
    rw [run_at H.is_test (by omega)]
    apply W.eq
    have he := fun v hv => s_is_expr3 H v hv (m := m - 1) (by omega)
    have ih := fun v hv => ih v hv (m := m - 1) (by omega)
    have hk : (0 : Int) < (k : Int) + 1 := by omega
    cases v with
    | tuple xs =>
      simp at hv
      have hr := s_is_rest H xs hv (m := m - 1) (by omega)
      rcases xs with _ | ⟨a, xs⟩
      · simp [c_is_test, isTest, testBy]
      · cases a with
        | str w =>
          by_cases h1 : w = "less"
          · subst h1
            rcases xs with _ | ⟨a, _ | ⟨b, _ | ⟨c, _ | ⟨d, r⟩⟩⟩⟩
            · simp [c_is_test, isTest, testBy, two3]
            · simp [c_is_test, isTest, testBy, two3]
            · simp at hv
              simp [c_is_test, isTest, testBy, two3, he a hv.2.1, he b hv.2.2, H.MAX_DEEP]
              cases isExpr 3 a <;> simp
            · simp [c_is_test, isTest, testBy, two3]
            · simp [c_is_test, isTest, testBy, lenL, two3]
          · by_cases h2 : w = "rest"
            · subst h2
              simp [c_is_test, isTest, testBy, hr]
            · by_cases h3 : w = "not"
              · subst h3
                rcases xs with _ | ⟨a, _ | ⟨b, _ | ⟨c, _ | ⟨d, r⟩⟩⟩⟩
                · simp [c_is_test, isTest, testBy, one1]
                · simp at hv
                  simp [c_is_test, isTest, testBy, one1, ih a hv.2, hk]
                · simp [c_is_test, isTest, testBy, one1]
                · simp [c_is_test, isTest, testBy, one1]
                · simp [c_is_test, isTest, testBy, lenL, one1]
              · simp [c_is_test, isTest, testBy, h1, h2, h3]
        | _ => simp [c_is_test, isTest, testBy]
    | _ => simp [c_is_test, isTest, testBy]
end Wh


set_option Elab.async false
set_option linter.all false
set_option maxRecDepth 100000
set_option maxHeartbeats 4000000
namespace Wh
open PySem PySem.Spec PyProof.Rows L2 Wh.C
variable {T : Tab}
/-! ### blocks -/
theorem comp_filter' {f : PyData → Env → Option (Option D × Env)} {h : HideT f} {ε : Env} (p : PyData → Bool) {xs : List PyData} (hx : ∀ x, f x ε = some (if p x then some (.p x) else none, ε)) : compH f xs ε h = some ((xs.filter p).map .p, ε) := comp_filter p xs fun x _ => hx x
theorem s_are_blocks (H : HP T) (xs : List PyData) (hl : xs.length ≤ sizeLine) {m : Nat} (hm : 1 ≤ m) : callF T m "are_blocks" [false] [.p (.tuple xs)] = some (.p (.bool (xs.all tTup)), [.p (.tuple xs)]) := by
  rw [run_at H.are_blocks (by omega)]
  apply W.eq
  simp [c_are_blocks, ownOk]
  rw [comp_filter' (fun x => !tTup x)]
  · have : (xs.filter (fun x => !tTup x)).length ≤ sizeLine := Nat.le_trans (List.length_filter_le _ _) hl
    simp [this, lock, root]
    rw [Bool.eq_iff_iff]
    simp
  · intro x
    cases h : tTup x <;> simp [h]
theorem cut2 {α : Type} {a b : α} {r : List α} : cut (a :: b :: r) (some 2) none = r := by
  have : HT.sIx (a :: b :: r).length 0 (some 2) = 2 := by
    rw [show (some (2 : Int)) = some ((2 : Nat) : Int) from rfl, HT.sIx_nat]
    simp
  unfold cut
  rw [this, HT.sIx_none]
  simp
theorem cut2_1 {α : Type} {a : α} : cut [a] (some 2) none = [] := by
  have : HT.sIx [a].length 0 (some 2) = 1 := by
    rw [show (some (2 : Int)) = some ((2 : Nat) : Int) from rfl, HT.sIx_nat]
    simp
  unfold cut
  rw [this, HT.sIx_none]
  simp
@[simp] theorem sl_t {xs : List PyData} {lo hi : Option Int} : slcV (.p (.tuple xs)) lo hi = some (.p (.tuple (cut xs lo hi))) := rfl
/-! ### statements -/
def st2 : List PyData → Bool
  | [x, e] => isName x && isExpr 3 e
  | _ => false
def st1 : List PyData → Bool
  | [e] => isExpr 3 e
  | _ => false
def st3 : List PyData → Bool
  | [t, y, n] => isTest 2 t && (tTup y && tTup n)
  | _ => false
def stR : List PyData → Bool
  | [k, b] => isWhole k 1 8 && tTup b
  | _ => false
def isStmt (v : PyData) : Bool := match v with
  | .tuple (.str w :: xs) => if w = "set" then st2 xs else if w = "pay" then st1 xs else if w = "if" then st3 xs else if w = "repeat" then stR xs else if w = "stop" then xs.isEmpty else false
  | _ => false
theorem s_is_test2 (H : HP T) (v : PyData) (hv : sm v = true) {m : Nat} (hm : 9 ≤ m) : callF T m "is_test" [false, false] [.p v, .p (.int 2)] = some (.p (.bool (isTest 2 v)), [.p v, .p (.int 2)]) := s_is_test H 2 v hv hm
theorem eqS_stop {w : Str} {xs : List PyData} : eqS 50 (.tuple (.str w :: xs)) (.tuple [.str "stop"]) = some (decide (w = "stop") && xs.isEmpty) := by
  show eqL (eqS 49) _ _ = _
  cases xs <;> simp [eqL]
theorem s_is_statement (H : HP T) (v : PyData) (hv : sm v = true) {m : Nat} (hm : 10 ≤ m) : callF T m "is_statement" [false] [.p v] = some (.p (.bool (isStmt v)), [.p v]) := by
  rw [run_at H.is_statement (by omega)]
  apply W.eq
  have he := fun v hv => s_is_expr3 H v hv (m := m - 1) (by omega)
  have ht := fun v hv => s_is_test2 H v hv (m := m - 1) (by omega)
  have hw := fun v a b => s_is_whole H v a b (m := m - 1) (by omega)
  have hn := fun v hv => s_is_name H v hv (m := m - 1) (by omega)
  have hb := fun xs hl => s_are_blocks H xs hl (m := m - 1) (by omega)
  cases v with
  | tuple xs =>
    simp at hv
    rcases xs with _ | ⟨a, xs⟩
    · simp [c_is_statement, isStmt]
    · cases a with
      | str w =>
        by_cases h1 : w = "set"
        · subst h1
          rcases xs with _ | ⟨a, _ | ⟨b, _ | ⟨c, _ | ⟨d, r⟩⟩⟩⟩
          · simp [c_is_statement, isStmt, st2]
          · simp [c_is_statement, isStmt, st2]
          · simp at hv
            simp [c_is_statement, isStmt, st2, hn a (sm_str hv.2.1), he b hv.2.2, H.MAX_DEEP]
            cases isName a <;> simp
          · simp [c_is_statement, isStmt, st2]
          · simp [c_is_statement, isStmt, st2, lenL]
        · by_cases h2 : w = "pay"
          · subst h2
            rcases xs with _ | ⟨a, _ | ⟨b, _ | ⟨c, _ | ⟨d, r⟩⟩⟩⟩
            · simp [c_is_statement, isStmt, st1]
            · simp at hv
              simp [c_is_statement, isStmt, st1, he a hv.2, H.MAX_DEEP]
            · simp [c_is_statement, isStmt, st1]
            · simp [c_is_statement, isStmt, st1]
            · simp [c_is_statement, isStmt, st1, lenL]
          · by_cases h3 : w = "if"
            · subst h3
              rcases xs with _ | ⟨a, _ | ⟨b, _ | ⟨c, _ | ⟨d, r⟩⟩⟩⟩
              · simp [c_is_statement, isStmt, st3]
              · simp [c_is_statement, isStmt, st3]
              · simp [c_is_statement, isStmt, st3]
              · simp at hv
                simp [c_is_statement, isStmt, st3, ht a hv.2.1, hb, H.MAX_NOTS, cut2]
                cases isTest 2 a <;> simp
              · simp [c_is_statement, isStmt, st3, lenL]
            · by_cases h4 : w = "repeat"
              · subst h4
                rcases xs with _ | ⟨a, _ | ⟨b, _ | ⟨c, _ | ⟨d, r⟩⟩⟩⟩
                · simp [c_is_statement, isStmt, stR]
                · simp [c_is_statement, isStmt, stR]
                · simp at hv
                  simp [c_is_statement, isStmt, stR, hw, hb, H.MAX_TIMES, cut2]
                  cases isWhole a 1 8 <;> simp
                · simp [c_is_statement, isStmt, stR]
                · simp [c_is_statement, isStmt, stR, lenL]
              · simp [c_is_statement, isStmt, h1, h2, h3, h4, mkTup, eqS_stop]
      | _ => simp [c_is_statement, isStmt]
  | _ => simp [c_is_statement, isStmt]

/-! ### the walk of the statements -/
def tItems (v : PyData) : List PyData := match v with
  | .tuple xs => xs
  | _ => []
def blks (v : PyData) : List PyData := match v with
  | .tuple (.str w :: xs) => if w = "if" ∨ w = "repeat" then xs.tail else []
  | _ => []
theorem s_blocks_of (H : HP T) (w : Str) (xs : List PyData) {m : Nat} (hm : 1 ≤ m) : callF T m "blocks_of" [false] [.p (.tuple (.str w :: xs))] = some (.p (.list (blks (.tuple (.str w :: xs)))), [.p (.tuple (.str w :: xs))]) := by
  rw [run_at H.blocks_of (by omega)]
  apply W.eq
  have hc : cut (PyData.str w :: xs) (some 2) none = xs.tail := by
    cases xs with
    | nil => rw [cut2_1]; rfl
    | cons => rw [cut2]; rfl
  simp [c_blocks_of, mkTup, inSeq2, hc, sink, root, retV, frz, blks]
  by_cases h1 : w = "if"
  · subst h1
    simp [← List.map_tail]
  · by_cases h2 : w = "repeat"
    · subst h2
      simp [← List.map_tail]
    · simp [h1, h2, Ne.symm h1, Ne.symm h2]
def enc (x : Int × PyData) : PyData := .tuple [.int x.1, x.2]
def kids (d : Int) (v : PyData) : List (Int × PyData) := (blks v).flatMap fun b => (tItems b).map fun o => (d + 1, o)
mutual
def sz : PyData → Nat
  | .tuple xs => 1 + szAll xs
  | .list xs => 1 + szAll xs
  | _ => 1
def szAll : List PyData → Nat
  | [] => 0
  | x :: xs => sz x + szAll xs
end
@[simp] theorem sz_tup {xs : List PyData} : sz (.tuple xs) = 1 + szAll xs := by simp [sz]
@[simp] theorem szAll_nil : szAll [] = 0 := by simp [szAll]
@[simp] theorem szAll_cons {x : PyData} {xs : List PyData} : szAll (x :: xs) = sz x + szAll xs := by simp [szAll]
@[simp] theorem szAll_app {xs ys : List PyData} : szAll (xs ++ ys) = szAll xs + szAll ys := by
  induction xs with
  | nil => simp
  | cons x xs ih => simp [ih]; omega
theorem sz_pos (v : PyData) : 1 ≤ sz v := by cases v <;> simp [sz]
theorem szAll_len (xs : List PyData) : xs.length ≤ szAll xs := by
  induction xs with
  | nil => simp
  | cons x xs ih => have := sz_pos x; simp; omega
def szs (st : List (Int × PyData)) : Nat := szAll (st.map (·.2))
theorem blks_cases (v : PyData) : blks v = [] ∨ ∃ w t xs, v = .tuple (.str w :: t :: xs) ∧ blks v = xs := by
  cases v with
  | tuple xs =>
    rcases xs with _ | ⟨a, xs⟩
    · exact .inl rfl
    · cases a with
      | str w =>
        by_cases h : w = "if" ∨ w = "repeat"
        · rcases xs with _ | ⟨t, xs⟩
          · left; simp [blks]
          · right; exact ⟨w, t, xs, rfl, by simp [blks, h]⟩
        · left; simp [blks, h]
      | _ => exact .inl rfl
  | _ => exact .inl rfl
theorem szs_kids (d : Int) (v : PyData) : szs (kids d v) < sz v := by
  have hb : ∀ bs : List PyData, szs (bs.flatMap fun b => (tItems b).map fun o => (d + 1, o)) ≤ szAll bs := by
    intro bs
    induction bs with
    | nil => simp [szs]
    | cons b bs ih =>
      simp [szs] at ih ⊢
      have : szAll (List.map (fun x => x.2) (List.map (fun o => (d + 1, o)) (tItems b))) ≤ sz b := by
        cases b <;> simp [tItems, Function.comp_def]
      simp at this
      omega
  have h2 : szAll (blks v) < sz v := by
    rcases blks_cases v with h | ⟨w, t, xs, rfl, h⟩
    · rw [h]; have := sz_pos v; simp; omega
    · rw [h]; simp; omega
  exact Nat.lt_of_le_of_lt (hb (blks v)) h2
theorem sm_kids {d : Int} {v : PyData} (hv : sm v = true) : ∀ x ∈ kids d v, sm x.2 = true := by
  intro x hx
  simp [kids] at hx
  obtain ⟨b, hb, o, ho, rfl⟩ := hx
  have h1 : sm b = true := by
    rcases blks_cases v with h | ⟨w, t, xs, rfl, h⟩
    · simp [h] at hb
    · rw [h] at hb
      simp at hv
      exact hv.2.2 b hb
  cases b with
  | tuple ys => simp [tItems] at ho; simp at h1; exact h1 o ho
  | _ => simp [tItems] at ho
end Wh


set_option Elab.async false
set_option linter.all false
set_option maxRecDepth 100000
set_option maxHeartbeats 4000000
namespace Wh
open PySem PySem.Spec PyProof.Rows L2 Wh.C
variable {T : Tab}
theorem comp_map' {f : PyData → Env → Option (Option D × Env)} {h : HideT f} {ε : Env} (g : PyData → D) {xs : List PyData} (hx : ∀ x, f x ε = some (some (g x), ε)) : compH f xs ε h = some (xs.map g, ε) := comp_map g xs fun x _ => hx x
theorem isStmt_form {v : PyData} (h : isStmt v = true) : ∃ w xs, v = .tuple (.str w :: xs) := by
  cases v with
  | tuple xs =>
    rcases xs with _ | ⟨a, xs⟩
    · simp [isStmt] at h
    · cases a with
      | str w => exact ⟨w, xs, rfl⟩
      | _ => simp [isStmt] at h
  | _ => simp [isStmt] at h
theorem blks_tup {v : PyData} (h : isStmt v = true) : ∀ b ∈ blks v, tTup b = true := by
  obtain ⟨w, xs, rfl⟩ := isStmt_form h
  intro b hb
  simp only [blks] at hb
  by_cases h1 : w = "if"
  · subst h1
    rcases xs with _ | ⟨a, _ | ⟨b, _ | ⟨c, _ | ⟨d, r⟩⟩⟩⟩ <;> simp [isStmt, st3] at h hb
    rcases hb with rfl | rfl
    · exact h.2.1
    · exact h.2.2
  · by_cases h2 : w = "repeat"
    · subst h2
      rcases xs with _ | ⟨a, _ | ⟨b, _ | ⟨c, _ | ⟨d, r⟩⟩⟩⟩ <;> simp [isStmt, stR] at h hb
      subst hb
      exact h.2
    · simp [h1, h2] at hb
theorem tTup_form {b : PyData} (h : tTup b = true) : ∃ xs, b = .tuple xs := by
  cases b with
  | tuple xs => exact ⟨xs, rfl⟩
  | _ => simp at h
def kidsE (d : Int) (bs : List PyData) : List PyData := bs.flatMap fun b => (tItems b).map fun o => .tuple [.int (d + 1), o]
theorem kidsE_eq (d : Int) (v : PyData) : kidsE d (blks v) = (kids d v).map enc := by
  simp [kidsE, kids, List.map_flatMap, Function.comp_def, enc]
theorem mem_sz {xs : List PyData} {x : PyData} (h : x ∈ xs) : sz x ≤ szAll xs := by
  induction xs with
  | nil => simp at h
  | cons y ys ih =>
    simp at h ⊢
    rcases h with rfl | h
    · omega
    · have := ih h; omega
@[simp] theorem mut_ext {f : D → D} {ds : List D} {x : D} : mutV f "extend" (.lst ds) [x] = x.ps?.bH fun ys => if ds.length + ys.length ≤ sizeLine then some (.lst (ds ++ ys.map .p), .p .none) else none := rfl
@[simp] theorem mut_app {f : D → D} {ds : List D} {x : D} : mutV f "append" (.lst ds) [x] = if ds.length < sizeLine then some (.lst (ds ++ [f x]), .p .none) else none := rfl
@[simp] theorem mut_pop {f : D → D} {ds : List D} : mutV f "pop" (.lst ds) [] = ds.getLast?.mH fun d => (.lst ds.dropLast, d) := rfl
@[simp] theorem revV_m {xs : List PyData} : revV (.lst (xs.map .p)) = some (.lst (xs.reverse.map .p)) := by simp [revV, D.isP]
theorem s_items_within (H : HP T) (v : PyData) (d : Int) (hs : isStmt v = true) (hz : sz v ≤ 1000000) {m : Nat} (hm : 2 ≤ m) : callF T m "items_within" [false, false] [.p v, .p (.int d)] = some (.p (.list ((kids d v).map enc).reverse), [.p v, .p (.int d)]) := by
  rw [run_at H.items_within (by omega)]
  apply W.eq
  obtain ⟨w, xs, hv⟩ := isStmt_form hs
  have hb := s_blocks_of H w xs (m := m - 1) (by omega)
  rw [← hv] at hb
  have hlen : (kidsE d (blks v)).length ≤ 1000000 := by
    rw [kidsE_eq, List.length_map]
    have h1 := szs_kids d v
    have h2 := szAll_len ((kids d v).map (·.2))
    simp only [List.length_map] at h2
    simp only [szs] at h1
    omega
  simp [c_items_within, hb]
  refine W_for (fun bs ε => ∃ found x3, ε = [some (.p v), some (.p (.int d)), some (.lst (found.map .p)), x3, none] ∧ found ++ kidsE d bs = kidsE d (blks v) ∧ (∀ b ∈ bs, tTup b = true)) _ _ ⟨[], none, by simp, by simp, blks_tup hs⟩ ?_ ?_
  · rintro x r ε ⟨found, x3, rfl, h1, h2⟩
    obtain ⟨ys, rfl⟩ := tTup_form (h2 x (by simp))
    simp [ownOk]
    rw [comp_mapP (fun o => .tuple [.int (d + 1), o])]
    · have h6 : found ++ ys.map (fun o => PyData.tuple [PyData.int (d + 1), o]) ++ kidsE d r = kidsE d (blks v) := by
        rw [← h1]
        simp [kidsE, tItems]
      have h3 : found.length + ys.length ≤ 1000000 := by
        have := congrArg List.length h6
        simp only [List.length_append, List.length_map] at this
        omega
      generalize hzs : ys.map (fun o => PyData.tuple [PyData.int (d + 1), o]) = zs at h6
      have hl : zs.length = ys.length := by rw [← hzs, List.length_map]
      have h4 : zs.length ≤ sizeLine := by simp [sizeLine]; omega
      have h5 : found.length + zs.length ≤ sizeLine := by simp [sizeLine]; omega
      simp [h4, h5]
      refine .mk ⟨found ++ zs, some (.p (.tuple ys)), by simp, h6, fun b hb => h2 b (by simp [hb])⟩
    · intro o _
      simp [mkTup]
  · rintro ε ⟨found, x3, rfl, h1, h2⟩
    simp [kidsE] at h1
    rw [show (kids d v).map enc = found from by rw [← kidsE_eq, h1]; rfl]
    simp [revV_m, retV, root, frz, ← List.map_reverse]

/-! ### order_error -/
def stkD (st : List (Int × PyData)) : D := .lst ((st.map enc).reverse.map .p)
@[simp] theorem stk_pop {f : D → D} {x : Int × PyData} {st : List (Int × PyData)} : mutV f "pop" (stkD (x :: st)) [] = some (stkD st, .p (enc x)) := by
  simp only [stkD, mut_pop, List.map_cons, List.reverse_cons, List.map_append, List.map_nil]
  rw [List.getLast?_concat, List.dropLast_concat]
  rfl
theorem stk_ext {f : D → D} {ks st : List (Int × PyData)} (h : st.length + ks.length ≤ sizeLine) : mutV f "extend" (stkD st) [.p (.list (ks.map enc).reverse)] = some (stkD (ks ++ st), .p .none) := by
  simp only [stkD, mut_ext, ps_l, bH_some, List.length_map, List.length_reverse, h, if_true]
  simp
@[simp] theorem stk_eq {st : List (Int × PyData)} : eqD (stkD st) (.lst []) = some st.isEmpty := by
  simp only [stkD, eqD_nil]
  cases st <;> simp
@[simp] theorem stk_isP {st : List (Int × PyData)} : (stkD st).isP = false := rfl
@[simp] theorem stk_lock {lk : List Nat} {e : E} {st : List (Int × PyData)} : lock lk e (stkD st) = (root e).toList ++ lk := by simp [stkD]
@[simp] theorem stk_late {i : Nat} {ε : Env} {st : List (Int × PyData)} : late (.var i) (stkD st) ε = match ε[i]? with | some (some d1) => if d1.isP then none else some d1 | _ => none := late_v rfl
@[simp] theorem stk_sinks {e : E} {es : List E} {st : List (Int × PyData)} {ds : List D} : sinks (e :: es) (stkD st :: ds) = ((root e).isNone && sinks es ds) := by simp [stkD]
def ordErr : Nat → List (Int × PyData) → Int → PyData
  | 0, _, _ => .none
  | _ + 1, [], _ => .none
  | n + 1, (d, v) :: st, pl => if 3 < d then .tuple [.int pl, .str "nest"] else if isStmt v then ordErr n (kids d v ++ st) (pl + 1) else .tuple [.int pl, .str "statement"]
theorem szs_app (a b : List (Int × PyData)) : szs (a ++ b) = szs a + szs b := by simp [szs]
theorem szs_cons (a : Int × PyData) (b : List (Int × PyData)) : szs (a :: b) = sz a.2 + szs b := by simp [szs]
theorem szs_len (a : List (Int × PyData)) : a.length ≤ szs a := by
  have := szAll_len (a.map (·.2))
  simpa [szs] using this
theorem s_order_error (H : HP T) (xs : List PyData) (hx : ∀ x ∈ xs, sm x = true) (hz : szAll xs ≤ 900000) {m : Nat} (hm : 11 ≤ m) : callF T m "order_error" [false] [.p (.tuple xs)] = some (.p (ordErr 1000000 (xs.map fun x => (0, x)) 0), [.p (.tuple xs)]) := by
  rw [run_at H.order_error (by omega)]
  apply W.eq
  have hst := fun v hv => s_is_statement H v hv (m := m - 1) (by omega)
  have hit := fun v d hs hz => s_items_within H v d hs hz (m := m - 1) (by omega)
  simp [c_order_error, ownOk]
  rw [comp_mapP (fun o => .tuple [.int 0, o])]
  · have hl : xs.length ≤ sizeLine := by
      have := szAll_len xs
      simp [sizeLine]; omega
    generalize hr : ordErr 1000000 (xs.map fun x => (0, x)) 0 = r
    have h0 : D.lst (List.map D.p (List.map (fun o => PyData.tuple [PyData.int 0, o]) xs)).reverse = stkD (xs.map fun x => (0, x)) := by
      simp [stkD, enc, Function.comp_def]
    have h1 : (List.map (fun o => PyData.tuple [PyData.int 0, o]) xs).length ≤ sizeLine := by simpa using hl
    generalize List.map (fun o => PyData.tuple [PyData.int 0, o]) xs = zs at h0 h1
    simp [h1, h0]
    have hz0 : szs (xs.map fun x => ((0 : Int), x)) = szAll xs := by simp [szs, Function.comp_def]
    refine W_while (fun k ε => ∃ st pl x3 x4 N, ε = [some (.p (.tuple xs)), some (stkD st), some (.p (.int pl)), x3, x4] ∧ szs st = k ∧ k ≤ 900000 ∧ k < N ∧ ordErr N st pl = r ∧ ∀ x ∈ st, sm x.2 = true) ?_ 1000000 (szAll xs) _ (by omega) ⟨_, 0, none, none, 1000000, rfl, hz0, by omega, by omega, hr, by simpa using hx⟩
    rintro k ε ⟨st, pl, x3, x4, N, rfl, h2, h3, h4, h5, h6⟩
    rcases st with _ | ⟨⟨d, v⟩, st⟩
    · simp
      obtain ⟨N, rfl⟩ : ∃ N', N = N' + 1 := ⟨N - 1, by omega⟩
      simp [ordErr] at h5
      exact h5
    · obtain ⟨N, rfl⟩ : ∃ N', N = N' + 1 := ⟨N - 1, by omega⟩
      simp [ordErr] at h5
      have hv := h6 (d, v) (by simp)
      simp only [szs_cons] at h2
      simp [enc, H.MAX_NEST]
      refine ⟨fun hd => ?_, fun hd => ?_⟩
      · rw [if_pos hd] at h5
        exact h5
      · simp [hst v hv]
        rw [if_neg (by omega)] at h5
        have hk := szs_kids d v
        refine ⟨fun hs => ?_, fun hs => ?_⟩
        · rw [hs] at h5
          simpa using h5
        · have hl1 := szs_len st
          have hl2 := szs_len (kids d v)
          simp only [] at hv
          rw [hs] at h5
          simp [hit v d hs (by omega), stk_ext (f := frz (cfgK T (m - 1) 1 true)) (ks := kids d v) (st := st) (by simp [sizeLine]; omega), augV]
          refine .mk (szs (kids d v ++ st)) (by rw [szs_app]; omega) ⟨_, _, _, _, N, rfl, rfl, by rw [szs_app]; omega, by rw [szs_app]; omega, by simpa using h5, ?_⟩
          intro a hab
          rcases List.mem_append.1 hab with hab | hab
          · exact sm_kids hv a hab
          · exact h6 a (by simp [hab])
  · intro o _
    simp [mkTup]
end Wh


set_option Elab.async false
set_option linter.all false
set_option maxRecDepth 100000
set_option maxHeartbeats 4000000
namespace Wh
open PySem PySem.Spec PyProof.Rows L2 Wh.C
variable {T : Tab}
/-! ### statements that lie at most so deep -/
def okS : Nat → PyData → Bool
  | 0, _ => false
  | k + 1, v => isStmt v && (blks v).all fun b => (tItems b).all (okS k)
theorem okS_succ {k : Nat} {v : PyData} : okS (k + 1) v = true ↔ isStmt v = true ∧ ∀ b ∈ blks v, ∀ x ∈ tItems b, okS k x = true := by
  simp [okS]
theorem ordErr_none : ∀ (N : Nat) (st : List (Int × PyData)) (pl : Int), szs st < N → (∀ x ∈ st, 0 ≤ x.1) → ordErr N st pl = .none → ∀ x ∈ st, okS (4 - x.1).toNat x.2 = true
  | 0, st, pl, h, _, _ => by omega
  | N + 1, [], pl, _, _, _ => by simp
  | N + 1, (d, v) :: st, pl, h, h0, he => by
    simp only [ordErr] at he
    have hd := h0 (d, v) (by simp)
    simp only [] at hd
    by_cases h1 : 3 < d
    · simp [h1] at he
    · rw [if_neg h1] at he
      by_cases h2 : isStmt v = true
      · rw [if_pos h2] at he
        have hk := szs_kids d v
        have ih := ordErr_none N (kids d v ++ st) (pl + 1) (by rw [szs_app]; rw [szs_cons] at h; simp only [] at h; omega) (by
          intro x hx
          rcases List.mem_append.1 hx with hx | hx
          · simp [kids] at hx
            obtain ⟨_, _, _, _, rfl⟩ := hx
            simp; omega
          · exact h0 x (by simp [hx])) he
        intro x hx
        rcases List.mem_cons.1 hx with rfl | hx
        · simp only []
          rw [show (4 - d).toNat = (4 - (d + 1)).toNat + 1 by omega, okS_succ]
          refine ⟨h2, fun b hb o ho => ?_⟩
          exact ih (d + 1, o) (List.mem_append.2 (.inl (by simp [kids]; exact ⟨b, hb, ho⟩)))
        · exact ih x (List.mem_append.2 (.inr hx))
      · simp [h2] at he
def rowsL : Nat → Int → PyData → List PyData
  | 0, _, _ => []
  | k + 1, d, v => enc (d, v) :: (blks v).flatMap fun b => (tItems b).flatMap (rowsL k (d + 1))
theorem rowsL_len : ∀ (k : Nat) (d : Int) (v : PyData), (rowsL k d v).length ≤ sz v
  | 0, _, _ => by simp [rowsL]
  | k + 1, d, v => by
    have h1 : ∀ xs : List PyData, (xs.flatMap (rowsL k (d + 1))).length ≤ szAll xs := by
      intro xs
      induction xs with
      | nil => simp
      | cons x xs ih =>
        have := rowsL_len k (d + 1) x
        simp only [List.flatMap_cons, List.length_append, szAll_cons]
        omega
    have h2 : ∀ bs : List PyData, (bs.flatMap fun b => (tItems b).flatMap (rowsL k (d + 1))).length ≤ szAll bs := by
      intro bs
      induction bs with
      | nil => simp
      | cons x xs ih =>
        have h3 := h1 (tItems x)
        have h4 : szAll (tItems x) ≤ sz x := by cases x <;> simp [tItems]
        simp only [List.flatMap_cons, List.length_append, szAll_cons]
        omega
    have h5 : szAll (blks v) < sz v := by
      rcases blks_cases v with h | ⟨w, t, xs, rfl, h⟩
      · rw [h]; have := sz_pos v; simp; omega
      · rw [h]; simp; omega
    have := h2 (blks v)
    simp only [rowsL, List.length_cons]
    omega
def rowsAll (st : List (Int × PyData)) : List PyData := st.flatMap fun x => rowsL (4 - x.1).toNat x.1 x.2
theorem rowsAll_kids (d : Int) (v : PyData) (st : List (Int × PyData)) (hd : d ≤ 3) : rowsAll ((d, v) :: st) = enc (d, v) :: rowsAll (kids d v ++ st) := by
  simp only [rowsAll, List.flatMap_cons, List.flatMap_append]
  rw [show (4 - d).toNat = (4 - (d + 1)).toNat + 1 by omega]
  simp [rowsL, kids, List.flatMap_assoc, List.flatMap_map]
theorem rowsAll_len (st : List (Int × PyData)) : (rowsAll st).length ≤ szs st := by
  induction st with
  | nil => simp [rowsAll]
  | cons x st ih =>
    have := rowsL_len (4 - x.1).toNat x.1 x.2
    simp only [rowsAll, List.flatMap_cons, List.length_append] at ih ⊢
    rw [szs_cons]
    omega
theorem okS_lt {d : Int} {v : PyData} (h : okS (4 - d).toNat v = true) : d ≤ 3 ∧ isStmt v = true ∧ ∀ x ∈ kids d v, okS (4 - x.1).toNat x.2 = true := by
  by_cases hd : d ≤ 3
  · rw [show (4 - d).toNat = (4 - (d + 1)).toNat + 1 by omega, okS_succ] at h
    refine ⟨hd, h.1, ?_⟩
    intro x hx
    simp [kids] at hx
    obtain ⟨b, hb, o, ho, rfl⟩ := hx
    exact h.2 b hb o ho
  · rw [show (4 - d).toNat = 0 by omega] at h
    simp [okS] at h
def rowsP (xs : List PyData) : List PyData := xs.flatMap (rowsL 4 0)
theorem s_rows_of (H : HP T) (xs : List PyData) (hx : ∀ x ∈ xs, okS 4 x = true) (hz : szAll xs ≤ 900000) {m : Nat} (hm : 11 ≤ m) : callF T m "rows_of" [false] [.p (.tuple xs)] = some (.p (.list (rowsP xs)), [.p (.tuple xs)]) := by
  rw [run_at H.rows_of (by omega)]
  apply W.eq
  have hit := fun v d hs hz => s_items_within H v d hs hz (m := m - 1) (by omega)
  simp [c_rows_of, ownOk]
  rw [comp_mapP (fun o => .tuple [.int 0, o])]
  · have hl : xs.length ≤ sizeLine := by
      have := szAll_len xs
      simp [sizeLine]; omega
    have hr : rowsAll (xs.map fun x => ((0 : Int), x)) = rowsP xs := by simp [rowsAll, rowsP, List.flatMap_map]
    have hrl : (rowsP xs).length ≤ 900000 := by
      rw [← hr]
      refine Nat.le_trans (rowsAll_len _) ?_
      simpa [szs, Function.comp_def] using hz
    generalize rowsP xs = r at hr hrl
    have h0 : D.lst (List.map D.p (List.map (fun o => PyData.tuple [PyData.int 0, o]) xs)).reverse = stkD (xs.map fun x => (0, x)) := by
      simp [stkD, enc, Function.comp_def]
    have h1 : (List.map (fun o => PyData.tuple [PyData.int 0, o]) xs).length ≤ sizeLine := by simpa using hl
    generalize List.map (fun o => PyData.tuple [PyData.int 0, o]) xs = zs at h0 h1
    simp [h1, h0]
    have hz0 : szs (xs.map fun x => ((0 : Int), x)) = szAll xs := by simp [szs, Function.comp_def]
    refine W_while (fun k ε => ∃ st found x3 x4, ε = [some (.p (.tuple xs)), some (stkD st), some (.lst (found.map .p)), x3, x4, none] ∧ szs st = k ∧ k ≤ 900000 ∧ found ++ rowsAll st = r ∧ ∀ x ∈ st, okS (4 - x.1).toNat x.2 = true) ?_ 1000000 (szAll xs) _ (by omega) ⟨_, [], none, none, rfl, hz0, by omega, by simpa using hr, by simpa using hx⟩
    rintro k ε ⟨st, found, x3, x4, rfl, h2, h3, h4, h5⟩
    rcases st with _ | ⟨⟨d, v⟩, st⟩
    · simp [rowsAll] at h4
      subst h4
      simp [retV, frz]
    · obtain ⟨hd, hs, hk⟩ := okS_lt (h5 (d, v) (by simp))
      rw [rowsAll_kids _ _ _ hd] at h4
      simp only [szs_cons] at h2
      have hl3 := congrArg List.length h4
      simp only [List.length_append, List.length_cons] at hl3
      have hl1 := szs_len st
      have hl2 := szs_len (kids d v)
      have hlf : found.length < sizeLine := by simp [sizeLine]; omega
      have hkz := szs_kids d v
      simp [enc, mkTup, hlf, hit v d hs (by omega), stk_ext (f := frz (cfgK T (m - 1) 1 true)) (ks := kids d v) (st := st) (by simp [sizeLine]; omega)]
      refine .mk (szs (kids d v ++ st)) (by rw [szs_app]; omega) ⟨kids d v ++ st, found ++ [enc (d, v)], some (.p (.int d)), some (.p v), by simp [enc], rfl, by rw [szs_app]; omega, by simpa using h4, ?_⟩
      intro x hx
      rcases List.mem_append.1 hx with hx | hx
      · exact hk x hx
      · exact h5 x (by simp [hx])
  · intro o _
    simp [mkTup]
end Wh


set_option Elab.async false
set_option linter.all false
set_option maxRecDepth 100000
set_option maxHeartbeats 4000000
namespace Wh
open PySem PySem.Spec PyProof.Rows L2 Wh.C
variable {T : Tab}
def bareW : Nat → PyData → Str
  | 0, .tuple (.str w :: _) => w
  | k + 1, .tuple [.str w, t] => if w = "not" then bareW k t else w
  | _ + 1, .tuple (.str w :: _) => w
  | _, _ => ""
theorem isTest_form {k : Nat} {t : PyData} (h : isTest k t = true) : ∃ w xs, t = .tuple (.str w :: xs) ∧ (w = "not" → ∃ k' t', k = k' + 1 ∧ xs = [t'] ∧ isTest k' t' = true) := by
  cases t with
  | tuple xs =>
    rcases xs with _ | ⟨a, xs⟩
    · cases k <;> simp [isTest, testBy] at h
    · cases a with
      | str w =>
        refine ⟨w, xs, rfl, fun hw => ?_⟩
        subst hw
        cases k with
        | zero =>
          rcases xs with _ | ⟨a, _ | ⟨b, r⟩⟩ <;> simp [isTest, testBy, one1] at h
        | succ k =>
          rcases xs with _ | ⟨a, _ | ⟨b, r⟩⟩ <;> simp [isTest, testBy, one1] at h
          exact ⟨k, a, rfl, rfl, h⟩
      | _ => cases k <;> simp [isTest, testBy] at h
  | _ => cases k <;> simp [isTest, testBy] at h
theorem bareW_not {k : Nat} {t : PyData} : bareW (k + 1) (.tuple [.str "not", t]) = bareW k t := by simp [bareW]
theorem bareW_else {k : Nat} {w : Str} {xs : List PyData} (h : w ≠ "not") : bareW k (.tuple (.str w :: xs)) = w := by
  cases k with
  | zero => simp [bareW]
  | succ k => rcases xs with _ | ⟨a, _ | ⟨b, r⟩⟩ <;> simp [bareW, h]
theorem s_bare (H : HP T) (k : Nat) (t : PyData) (ht : isTest k t = true) (hk : k ≤ 1000) {m : Nat} (hm : 1 ≤ m) : ∃ xs d, callF T m "bare" [false] [.p t] = some (.p (.tuple (.str (bareW k t) :: xs)), [d]) := by
  suffices h : W (callF T m "bare" [false] [.p t]) fun a => ∃ xs d, a = (.p (.tuple (.str (bareW k t) :: xs)), [d]) by
    obtain ⟨a, h1, xs, d, rfl⟩ := h
    exact ⟨xs, d, h1⟩
  rw [run_at H.bare (by omega)]
  simp [c_bare]
  generalize hr : bareW k t = r
  refine W_while (fun j ε => ∃ t, ε = [some (.p t)] ∧ isTest j t = true ∧ bareW j t = r) ?_ 1000000 k _ (by omega) ⟨t, rfl, ht, hr⟩
  rintro j ε ⟨t, rfl, h1, h2⟩
  obtain ⟨w, xs, rfl, h3⟩ := isTest_form h1
  by_cases hw : w = "not"
  · subst hw
    obtain ⟨k', t', rfl, rfl, h4⟩ := h3 rfl
    simp
    exact .mk k' (by omega) ⟨t', rfl, h4, by rw [← h2, bareW_not]⟩
  · rw [bareW_else hw] at h2
    subst h2
    simp [hw]
/-- what a statement alone counts -/
def own (sort : Str) (x : PyData) : Int := if sort = "weight" then 1 else match x with
  | .tuple (.str w :: t :: _) => if w = "if" ∧ bareW 2 t = sort then 1 else 0
  | _ => 0
theorem st3_form {xs : List PyData} (h : st3 xs = true) : ∃ t y n, xs = [t, .tuple y, .tuple n] ∧ isTest 2 t = true := by
  rcases xs with _ | ⟨a, _ | ⟨b, _ | ⟨c, _ | ⟨d, r⟩⟩⟩⟩ <;> simp [st3] at h
  obtain ⟨y, rfl⟩ := tTup_form h.2.1
  obtain ⟨n, rfl⟩ := tTup_form h.2.2
  exact ⟨a, y, n, rfl, h.1⟩
theorem stR_form {xs : List PyData} (h : stR xs = true) : ∃ k b, xs = [.int k, .tuple b] ∧ 1 ≤ k ∧ k ≤ 8 := by
  rcases xs with _ | ⟨a, _ | ⟨b, _ | ⟨c, _ | ⟨d, r⟩⟩⟩⟩ <;> simp [stR] at h
  obtain ⟨y, rfl⟩ := tTup_form h.2
  cases a <;> simp [isWhole] at h
  exact ⟨_, y, rfl, h⟩
/-- the forms of a statement -/
theorem isStmt_cases {v : PyData} (h : isStmt v = true) : (∃ x e, v = .tuple [.str "set", x, e] ∧ isName x = true ∧ isExpr 3 e = true) ∨ (∃ e, v = .tuple [.str "pay", e] ∧ isExpr 3 e = true) ∨
    (∃ t y n, v = .tuple [.str "if", t, .tuple y, .tuple n] ∧ isTest 2 t = true) ∨ (∃ k b, v = .tuple [.str "repeat", .int k, .tuple b] ∧ 1 ≤ k ∧ k ≤ 8) ∨ v = .tuple [.str "stop"] := by
  obtain ⟨w, xs, rfl⟩ := isStmt_form h
  by_cases h1 : w = "set"
  · subst h1
    left
    rcases xs with _ | ⟨a, _ | ⟨b, _ | ⟨c, r⟩⟩⟩ <;> simp [isStmt, st2] at h
    exact ⟨a, b, rfl, h⟩
  · right
    by_cases h2 : w = "pay"
    · subst h2
      left
      rcases xs with _ | ⟨a, _ | ⟨b, _ | ⟨c, r⟩⟩⟩ <;> simp [isStmt, st1] at h
      exact ⟨a, rfl, h⟩
    · right
      by_cases h3 : w = "if"
      · subst h3
        left
        simp [isStmt] at h
        obtain ⟨t, y, n, rfl, h'⟩ := st3_form h
        exact ⟨t, y, n, rfl, h'⟩
      · right
        by_cases h4 : w = "repeat"
        · subst h4
          left
          simp [isStmt] at h
          obtain ⟨t, y, rfl, h'⟩ := stR_form h
          exact ⟨t, y, rfl, h'⟩
        · right
          by_cases h5 : w = "stop"
          · subst h5
            simp [isStmt] at h
            rw [h]
          · simp [isStmt, h1, h2, h3, h4, h5] at h
theorem s_own_count (H : HP T) (v : PyData) (sort : Str) (hv : isStmt v = true) {m : Nat} (hm : 2 ≤ m) : callF T m "own_count" [false, false] [.p v, .p (.str sort)] = some (.p (.int (own sort v)), [.p v, .p (.str sort)]) := by
  rw [run_at H.own_count (by omega)]
  apply W.eq
  by_cases hw : sort = "weight"
  · subst hw
    simp [c_own_count, own]
  · rcases isStmt_cases hv with ⟨x, e, rfl, h⟩ | ⟨e, rfl, h⟩ | ⟨t, y, n, rfl, h⟩ | ⟨k, b, rfl, h⟩ | rfl
    · simp [c_own_count, own, hw]
    · simp [c_own_count, own, hw]
    · obtain ⟨xs, d, hb⟩ := s_bare H 2 t h (by omega) (m := m - 1) (by omega)
      simp [c_own_count, own, hw, hb]
    · simp [c_own_count, own, hw]
    · simp [c_own_count, own, hw]
def times (v : PyData) : Int := match v with
  | .tuple (.str w :: k :: _) => if w = "repeat" then (match k with | .int i => i | _ => 1) else 1
  | _ => 1
def cntB (sort : Str) : Nat → List PyData → Int
  | 0, _ => 0
  | k + 1, xs => (xs.map fun x => own sort x + ((blks x).map fun b => cntB sort k (tItems b)).sum * times x).sum
theorem intsOf_map {α : Type} (g : α → Int) (xs : List α) : intsOf (xs.map fun b => .int (g b)) = some (xs.map g) := by
  induction xs with
  | nil => rfl
  | cons x xs ih => simp [intsOf, ih]
theorem b_mul {i j : Int} (h : j.natAbs < 2 ^ 64) : binop .mul (.p (.int i)) (.p (.int j)) = some (.p (.int (i * j))) := by
  simp only [binop]
  rw [if_pos (.inr h)]
theorem blks_len {v : PyData} (h : isStmt v = true) : (blks v).length ≤ 2 := by
  rcases isStmt_cases h with ⟨x, e, rfl, h⟩ | ⟨e, rfl, h⟩ | ⟨t, y, n, rfl, h⟩ | ⟨k, b, rfl, h⟩ | rfl <;> simp [blks]
theorem s_counted (H : HP T) (sort : Str) : ∀ (k : Nat) (xs : List PyData), (∀ x ∈ xs, okS k x = true) → ∀ {m : Nat}, k + 4 ≤ m → callF T m "counted" [false, false] [.p (.tuple xs), .p (.str sort)] = some (.p (.int (cntB sort k xs)), [.p (.tuple xs), .p (.str sort)])
  | 0, xs, hx, m, hm => by
    rw [run_at H.counted (by omega)]
    apply W.eq
    have : xs = [] := by
      cases xs with
      | nil => rfl
      | cons x xs => simpa [okS] using hx x (by simp)
    subst this
    simp [c_counted, for_nil, cntB]
  | k + 1, xs, hx, m, hm => by
    rw [run_at H.counted (by omega)]
    apply W.eq
    have ih := fun xs hx => s_counted H sort k xs hx (m := m - 1) (by omega)
    simp [c_counted]
    generalize hr : cntB sort (k + 1) xs = r
    refine W_for (fun ys ε => ∃ acc x3 x4, ε = [some (.p (.tuple xs)), some (.p (.str sort)), some (.p (.int acc)), x3, x4, none] ∧ acc + cntB sort (k + 1) ys = r ∧ ∀ x ∈ ys, okS (k + 1) x = true) _ _ ⟨0, none, none, rfl, by simpa using hr, hx⟩ ?_ ?_
    · rintro x ys ε ⟨acc, x3, x4, rfl, h1, h2⟩
      have hx := okS_succ.1 (h2 x (by simp))
      obtain ⟨w, zs, hv⟩ := isStmt_form hx.1
      have hb := s_blocks_of H w zs (m := m - 1) (by omega)
      rw [← hv] at hb
      have ho := s_own_count H x sort hx.1 (m := m - 1) (by omega)
      have hbl := blks_len hx.1
      simp [hb, ownOk]
      rw [comp_mapP (fun b => .int (cntB sort k (tItems b)))]
      · have hl : ((blks x).map fun b => PyData.int (cntB sort k (tItems b))).length ≤ sizeLine := by
          simp [sizeLine]; omega
        have hi := intsOf_map (fun b => cntB sort k (tItems b)) (blks x)
        have hsum : cntB sort (k + 1) (x :: ys) = (own sort x + ((blks x).map fun b => cntB sort k (tItems b)).sum * times x) + cntB sort (k + 1) ys := by simp [cntB]
        rw [hsum] at h1
        generalize ((blks x).map fun b => PyData.int (cntB sort k (tItems b))) = is at hl hi
        generalize ((blks x).map fun b => cntB sort k (tItems b)) = js at hi h1
        simp [hl, hi, ho]
        rcases isStmt_cases hx.1 with ⟨a, e, rfl, _⟩ | ⟨e, rfl, _⟩ | ⟨t, y, n, rfl, _⟩ | ⟨c, b, rfl, hc⟩ | rfl
        · simp [b_mul, augV]
          refine .mk ⟨_, _, _, rfl, ?_, fun x hx => h2 x (by simp [hx])⟩
          simp [times] at h1
          omega
        · simp [b_mul, augV]
          refine .mk ⟨_, _, _, rfl, ?_, fun x hx => h2 x (by simp [hx])⟩
          simp [times] at h1
          omega
        · simp [b_mul, augV]
          refine .mk ⟨_, _, _, rfl, ?_, fun x hx => h2 x (by simp [hx])⟩
          simp [times] at h1
          omega
        · have hc2 : c.natAbs < 18446744073709551616 := by omega
          simp [b_mul, augV, hc2]
          refine .mk ⟨_, _, _, rfl, ?_, fun x hx => h2 x (by simp [hx])⟩
          simp [times] at h1
          omega
        · simp [b_mul, augV]
          refine .mk ⟨_, _, _, rfl, ?_, fun x hx => h2 x (by simp [hx])⟩
          simp [times] at h1
          omega
      · intro b hb
        obtain ⟨bs, rfl⟩ := tTup_form (blks_tup hx.1 b hb)
        have := ih bs (fun o ho => hx.2 _ hb o ho)
        simp [this, tItems]
    · rintro ε ⟨acc, x3, x4, rfl, h1, h2⟩
      simp [cntB] at h1
      subst h1
      simp

theorem s_weight (H : HP T) (k : Nat) (xs : List PyData) (hx : ∀ x ∈ xs, okS k x = true) {m : Nat} (hm : k + 5 ≤ m) : callF T m "weight" [false] [.p (.tuple xs)] = some (.p (.int (cntB "weight" k xs)), [.p (.tuple xs)]) := by
  rw [run_at H.weight (by omega)]
  apply W.eq
  simp [c_weight, s_counted H _ k xs hx (m := m - 1) (by omega)]
/-- what program_error tells -/
def pErr (v : PyData) : PyData := match v with
  | .tuple xs => match ordErr 1000000 (xs.map fun x => (0, x)) 0 with
    | .none => if 24 < ((rowsP xs).length : Int) then .tuple [.none, .str "places"] else if 30 < cntB "weight" 4 xs then .tuple [.none, .str "weight"]
      else if 2 < cntB "rest" 4 xs then .tuple [.none, .str "rests"] else if 2 < cntB "less" 4 xs then .tuple [.none, .str "comparings"] else .none
    | e => e
  | _ => .tuple [.none, .str "program"]
theorem ordErr_cases : ∀ (N : Nat) (st : List (Int × PyData)) (pl : Int), ordErr N st pl = .none ∨ ∃ i w, ordErr N st pl = .tuple [.int i, .str w] ∧ (w = "nest" ∨ w = "statement") ∧ pl ≤ i ∧ i ≤ pl + N
  | 0, st, pl => .inl rfl
  | N + 1, [], pl => .inl rfl
  | N + 1, (d, v) :: st, pl => by
    simp only [ordErr]
    by_cases h1 : 3 < d
    · rw [if_pos h1]
      exact .inr ⟨pl, _, rfl, .inl rfl, by omega, by omega⟩
    · rw [if_neg h1]
      by_cases h2 : isStmt v = true
      · rw [if_pos h2]
        rcases ordErr_cases N (kids d v ++ st) (pl + 1) with h | ⟨i, w, h, h3, h4, h5⟩
        · exact .inl h
        · exact .inr ⟨i, w, h, h3, by omega, by omega⟩
      · rw [if_neg h2]
        exact .inr ⟨pl, _, rfl, .inr rfl, by omega, by omega⟩
theorem s_program_error (H : HP T) (v : PyData) (hv : sm v = true) (hz : sz v ≤ 900000) {m : Nat} (hm : 12 ≤ m) : callF T m "program_error" [false] [.p v] = some (.p (pErr v), [.p v]) := by
  rw [run_at H.program_error (by omega)]
  apply W.eq
  cases v with
  | tuple xs =>
    simp at hv hz
    have h1 := s_order_error H xs hv (by omega) (m := m - 1) (by omega)
    rcases ordErr_cases 1000000 (xs.map fun x => (0, x)) 0 with h | ⟨i, w, h, h3, h4, h5⟩
    · have hok : ∀ x ∈ xs, okS 4 x = true := by
        intro x hx
        have := ordErr_none 1000000 (xs.map fun x => (0, x)) 0 (by simp [szs, Function.comp_def]; omega) (by simp) h (0, x) (by simpa using hx)
        simpa using this
      have h2 := s_rows_of H xs hok (by omega) (m := m - 1) (by omega)
      have h3 := s_weight H 4 xs hok (m := m - 1) (by omega)
      have h4 := fun s => s_counted H s 4 xs hok (m := m - 1) (by omega)
      simp [c_program_error, pErr, h1, h, h2, h3, h4, mkTup, H.MAX_PLACES, H.MAX_WEIGHT, H.MAX_RESTS, H.MAX_COMPARINGS]
      by_cases a1 : 24 < ((rowsP xs).length : Int)
      · simp [a1]
        omega
      · simp [a1]
        by_cases a2 : 30 < cntB "weight" 4 xs
        · simp [a2]
          omega
        · simp [a2]
          by_cases a3 : 2 < cntB "rest" 4 xs
          · simp [a3]
            omega
          · simp [a3]
    · simp [c_program_error, pErr, h1, h]
  | _ => simp [c_program_error, pErr, mkTup]
end Wh


set_option Elab.async false
set_option linter.all false
set_option maxRecDepth 100000
set_option maxHeartbeats 4000000
namespace Wh
open PySem PySem.Spec PyProof.Rows L2 Wh.C
variable {T : Tab}
/-- the law's own walk -/
structure HL (T : Tab) : Prop where
  whole : T.fn "_law_whole" = some c__law_whole_k21
  is_name : T.fn "_law_is_name" = some c__law_is_name_k21
  is_expression : T.fn "_law_is_expression" = some c__law_is_expression
  is_rest : T.fn "_law_is_rest" = some c__law_is_rest_k21
  is_test : T.fn "_law_is_test" = some c__law_is_test_k21
  is_statement : T.fn "_law_is_statement" = some c__law_is_statement
  parts : T.fn "_law_parts" = some c__law_parts_k21
  counts : T.fn "_law_counts" = some c__law_counts_k21
  error : T.fn "_law_error" = some c__law_error_k21
theorem l_whole (H : HL T) (v : PyData) (a b : Int) {m : Nat} (hm : 1 ≤ m) : callF T m "_law_whole" [false, false, false] [.p v, .p (.int a), .p (.int b)] = some (.p (.bool (isWhole v a b)), [.p v, .p (.int a), .p (.int b)]) := by
  rw [run_at H.whole hm]
  cases v <;> simp [c__law_whole_k21, isWhole]
  rename_i i
  by_cases h : a ≤ i <;> simp [h]
def digits : Str := "0123456789"
theorem dig_let : ∀ c ∈ signs.cps.toList, decide (c ∈ digits.cps.toList) = !decide (c ∈ letters.cps.toList) := by decide +kernel
theorem let_sig : ∀ c ∈ letters.cps.toList, c ∈ signs.cps.toList := by decide +kernel
theorem l_is_name (H : HL T) (v : PyData) (hv : ∀ s, v = .str s → s.length ≤ sizeLine) {m : Nat} (hm : 1 ≤ m) : callF T m "_law_is_name" [false] [.p v] = some (.p (.bool (isName v)), [.p v]) := by
  rw [run_at H.is_name hm]
  apply W.eq
  cases v with
  | str s =>
    have hs := hv s rfl
    have hl : s.length = s.cps.toList.length := by simp [Str.length]
    cases e : s.cps.toList with
    | nil => 
      simp [c__law_is_name_k21, isName, nameOk, len_s hs, hl, e]
    | cons c r =>
      have hd := dig_let c
      have hls := let_sig c
      simp [c__law_is_name_k21, len_s hs, hl, e, ix_s hs, inStr_one, strL_eq, ownOk]
      refine ⟨fun h1 => ⟨fun h2 => by simp [isName, nameOk, e]; omega, fun h2 => ⟨fun h3 => ?_, fun h3 => ?_⟩⟩, by omega⟩
      · simp [isName, nameOk, e]
        intro h4 h5 h6
        have := hd (by simpa using h6)
        simp [digits, h3, h5] at this
      · rw [comp_filter notSign]
        · have hf : (List.filter notSign (PyData.str { cps := #[c] } :: List.map (fun c => PyData.str { cps := #[c] }) r)).length ≤ sizeLine :=
            Nat.le_trans (List.length_filter_le _ _) (by simp [sizeLine]; omega)
          have h4 : r.length ≤ 7 := by omega
          simp [lock, root, hf, notSign_eq]
          refine ⟨fun a => ?_, fun a b => ?_⟩
          · simp [isName, nameOk, e, h4]
            intro _ h5 h6
            obtain ⟨x, h7, h8⟩ := a h5
            exact absurd (h6 x h7) h8
          · have := hd (by simpa using a)
            simp [digits, h3] at this
            have hk := inSeq_kept s
            simp [keptS] at hk
            simp [hk]
            simp [isName, nameOk, e, h4, a, this]
            intro x hx hn
            exact absurd (b x hx) hn
        · intro x hx
          have hx : ∃ c, x = .str ⟨#[c]⟩ := by
            simp at hx
            rcases hx with h | ⟨d, _, h⟩
            · exact ⟨c, h⟩
            · exact ⟨d, h.symm⟩
          obtain ⟨d, rfl⟩ := hx
          simp [inStr_one, notSign_eq, signs]
          by_cases hd : d ∈ (Str.ofString "abcdefghijklmnopqrstuvwxyz0123456789").cps <;> simp [hd]
  | _ => simp [c__law_is_name_k21, isName]
theorem l_is_expression (H : HL T) : ∀ (k : Nat) (v : PyData), sm v = true → ∀ {m : Nat}, k + 2 ≤ m → callF T m "_law_is_expression" [false, false] [.p v, .p (.int (k : Int))] = some (.p (.bool (isExpr k v)), [.p v, .p (.int (k : Int))])
  | 0, v, hv, m, hm => by
    rw [run_at H.is_expression (by omega)]
    apply W.eq
    cases v <;> simp [c__law_is_expression, isExpr]
  | k + 1, v, hv, m, hm => by
    rw [run_at H.is_expression (by omega)]
    apply W.eq
    have ih := fun v hv => l_is_expression H k v hv (m := m - 1) (by omega)
    have hw := fun v a b => l_whole H v a b (m := m - 1) (by omega)
    have hk : (k : Int) + 1 ≠ 0 := by omega
    have hk2 : (0 : Int) < (k : Int) + 1 := by omega
    cases v with
    | tuple xs =>
      rcases xs with _ | ⟨a, _ | ⟨b, _ | ⟨c, _ | ⟨d, r⟩⟩⟩⟩
      · simp [c__law_is_expression, isExpr, hk]
      · simp [c__law_is_expression, isExpr, hk]
      · simp [c__law_is_expression, isExpr, hk]
      · simp at hv
        have ha := ih b hv.2.1
        have hb := ih c hv.2.2
        cases a with
        | str w => 
          simp [c__law_is_expression, hk, isExpr]
          by_cases h1 : w = "times"
          · subst h1
            simp [hw, hb]
            cases isWhole b (-9) 9 <;> simp
          · by_cases h2 : w = "plus"
            · subst h2
              simp [ha, hb, inSeq2]
              cases isExpr k b <;> simp
            · by_cases h3 : w = "minus"
              · subst h3
                simp [ha, hb, inSeq2]
                cases isExpr k b <;> simp
              · simp [h1, h2, h3, inSeq2, Ne.symm h2, Ne.symm h3]
        | _ => simp [c__law_is_expression, isExpr, hk]
      · have h4 : ¬ (r.length : Int) + 1 + 1 + 1 + 1 = 3 := by omega
        simp [c__law_is_expression, isExpr, hk, h4]
    | _ => 
      simp [c__law_is_expression, isExpr, hk2, l_is_name H _ (sm_str hv) (m := m - 1) (by omega), hw]
      try (cases isName _ <;> simp)
theorem l_is_expr3 (H : HL T) (v : PyData) (hv : sm v = true) {m : Nat} (hm : 5 ≤ m) : callF T m "_law_is_expression" [false, false] [.p v, .p (.int 3)] = some (.p (.bool (isExpr 3 v)), [.p v, .p (.int 3)]) := l_is_expression H 3 v hv hm
theorem l_is_rest (H : HL T) (a b c d : PyData) (hb : sm b = true) {m : Nat} (hm : 6 ≤ m) : callF T m "_law_is_rest" [false] [.p (.tuple [a, b, c, d])] = some (.p (.bool (isRestT [a, b, c, d])), [.p (.tuple [a, b, c, d])]) := by
  rw [run_at H.is_rest (by omega)]
  apply W.eq
  have he := fun v hv => l_is_expr3 H v hv (m := m - 1) (by omega)
  have hw := fun v a b => l_whole H v a b (m := m - 1) (by omega)
  simp [c__law_is_rest_k21, he b hb, hw]
  cases c with
  | int b =>
    simp [isRestT, isWhole_int, hw]
    cases isExpr 3 _ <;> simp
    by_cases h2 : 2 ≤ b <;> simp [h2]
    by_cases h3 : b ≤ 6 <;> simp [h3]
    omega
  | _ => simp [isRestT, isWhole]
theorem l_is_test (H : HL T) : ∀ (k : Nat) (v : PyData), sm v = true → ∀ {m : Nat}, k + 7 ≤ m → callF T m "_law_is_test" [false, false] [.p v, .p (.int (k : Int))] = some (.p (.bool (isTest k v)), [.p v, .p (.int (k : Int))]) := by
  intro k
  induction k with
  | zero => 
    intro v hv m hm
    rw [run_at H.is_test (by omega)]
    apply W.eq
    have he := fun v hv => l_is_expr3 H v hv (m := m - 1) (by omega)
    cases v with
    | tuple xs =>
      simp at hv
      rcases xs with _ | ⟨a, xs⟩
      · simp [c__law_is_test_k21, isTest, testBy]
      · cases a with
        | str w =>
          by_cases h1 : w = "less"
          · subst h1
            rcases xs with _ | ⟨a, _ | ⟨b, _ | ⟨c, _ | ⟨d, r⟩⟩⟩⟩
            · simp [c__law_is_test_k21, isTest, testBy, two3, bmV, keyOf, dicGet, cstKeys]
            · simp [c__law_is_test_k21, isTest, testBy, two3, bmV, keyOf, dicGet, cstKeys]
            · simp at hv
              simp [c__law_is_test_k21, isTest, testBy, two3, he a hv.2.1, he b hv.2.2, bmV, keyOf, dicGet, cstKeys]
              cases isExpr 3 a <;> simp
            · simp [c__law_is_test_k21, isTest, testBy, two3, bmV, keyOf, dicGet, cstKeys]
            · simp [c__law_is_test_k21, isTest, testBy, lenL, two3, bmV, keyOf, dicGet, cstKeys]
          · by_cases h2 : w = "rest"
            · subst h2
              rcases xs with _ | ⟨a, _ | ⟨b, _ | ⟨c, _ | ⟨d, r⟩⟩⟩⟩
              · simp [c__law_is_test_k21, isTest, testBy, isRestT, bmV, keyOf, dicGet, cstKeys]
              · simp [c__law_is_test_k21, isTest, testBy, isRestT, bmV, keyOf, dicGet, cstKeys]
              · simp [c__law_is_test_k21, isTest, testBy, isRestT, bmV, keyOf, dicGet, cstKeys]
              · simp at hv
                simp [c__law_is_test_k21, isTest, testBy, l_is_rest H (.str "rest") a b c hv.2.1 (m := m - 1) (by omega), bmV, keyOf, dicGet, cstKeys]
              · simp [c__law_is_test_k21, isTest, testBy, lenL, isRestT, bmV, keyOf, dicGet, cstKeys]
            · by_cases h3 : w = "not"
              · subst h3
                rcases xs with _ | ⟨a, _ | ⟨b, _ | ⟨c, _ | ⟨d, r⟩⟩⟩⟩
                · simp [c__law_is_test_k21, isTest, testBy, one1, bmV, keyOf, dicGet, cstKeys]
                · simp at hv
                  simp [c__law_is_test_k21, isTest, testBy, one1, bmV, keyOf, dicGet, cstKeys]
                · simp [c__law_is_test_k21, isTest, testBy, one1, bmV, keyOf, dicGet, cstKeys]
                · simp [c__law_is_test_k21, isTest, testBy, one1, bmV, keyOf, dicGet, cstKeys]
                · simp [c__law_is_test_k21, isTest, testBy, lenL, one1, bmV, keyOf, dicGet, cstKeys]
              · simp [c__law_is_test_k21, isTest, testBy, h1, h2, h3, bmV, keyOf, dicGet, cstKeys, Ne.symm h1, Ne.symm h2, Ne.symm h3]
        | _ => simp [c__law_is_test_k21, isTest, testBy]
    | _ => simp [c__law_is_test_k21, isTest, testBy]
  | succ k ih =>
    intro v hv m hm
    rw [run_at H.is_test (by omega)]
    apply W.eq
    have he := fun v hv => l_is_expr3 H v hv (m := m - 1) (by omega)
    have ih := fun v hv => ih v hv (m := m - 1) (by omega)
    have hk : (0 : Int) < (k : Int) + 1 := by omega
    cases v with
    | tuple xs =>
      simp at hv
      rcases xs with _ | ⟨a, xs⟩
      · simp [c__law_is_test_k21, isTest, testBy]
      · cases a with
        | str w =>
          by_cases h1 : w = "less"
          · subst h1
            rcases xs with _ | ⟨a, _ | ⟨b, _ | ⟨c, _ | ⟨d, r⟩⟩⟩⟩
            · simp [c__law_is_test_k21, isTest, testBy, two3, bmV, keyOf, dicGet, cstKeys]
            · simp [c__law_is_test_k21, isTest, testBy, two3, bmV, keyOf, dicGet, cstKeys]
            · simp at hv
              simp [c__law_is_test_k21, isTest, testBy, two3, he a hv.2.1, he b hv.2.2, bmV, keyOf, dicGet, cstKeys]
              cases isExpr 3 a <;> simp
            · simp [c__law_is_test_k21, isTest, testBy, two3, bmV, keyOf, dicGet, cstKeys]
            · simp [c__law_is_test_k21, isTest, testBy, lenL, two3, bmV, keyOf, dicGet, cstKeys]
          · by_cases h2 : w = "rest"
            · subst h2
              rcases xs with _ | ⟨a, _ | ⟨b, _ | ⟨c, _ | ⟨d, r⟩⟩⟩⟩
              · simp [c__law_is_test_k21, isTest, testBy, isRestT, bmV, keyOf, dicGet, cstKeys]
              · simp [c__law_is_test_k21, isTest, testBy, isRestT, bmV, keyOf, dicGet, cstKeys]
              · simp [c__law_is_test_k21, isTest, testBy, isRestT, bmV, keyOf, dicGet, cstKeys]
              · simp at hv
                simp [c__law_is_test_k21, isTest, testBy, l_is_rest H (.str "rest") a b c hv.2.1 (m := m - 1) (by omega), bmV, keyOf, dicGet, cstKeys]
              · simp [c__law_is_test_k21, isTest, testBy, lenL, isRestT, bmV, keyOf, dicGet, cstKeys]
            · by_cases h3 : w = "not"
              · subst h3
                rcases xs with _ | ⟨a, _ | ⟨b, _ | ⟨c, _ | ⟨d, r⟩⟩⟩⟩
                · simp [c__law_is_test_k21, isTest, testBy, one1, bmV, keyOf, dicGet, cstKeys]
                · simp at hv
                  simp [c__law_is_test_k21, isTest, testBy, one1, ih a hv.2, hk, bmV, keyOf, dicGet, cstKeys]
                · simp [c__law_is_test_k21, isTest, testBy, one1, bmV, keyOf, dicGet, cstKeys]
                · simp [c__law_is_test_k21, isTest, testBy, one1, bmV, keyOf, dicGet, cstKeys]
                · simp [c__law_is_test_k21, isTest, testBy, lenL, one1, bmV, keyOf, dicGet, cstKeys]
              · simp [c__law_is_test_k21, isTest, testBy, h1, h2, h3, bmV, keyOf, dicGet, cstKeys, Ne.symm h1, Ne.symm h2, Ne.symm h3]
        | _ => simp [c__law_is_test_k21, isTest, testBy]
    | _ => simp [c__law_is_test_k21, isTest, testBy]
theorem l_is_test2 (H : HL T) (v : PyData) (hv : sm v = true) {m : Nat} (hm : 9 ≤ m) : callF T m "_law_is_test" [false, false] [.p v, .p (.int 2)] = some (.p (.bool (isTest 2 v)), [.p v, .p (.int 2)]) := l_is_test H 2 v hv hm
theorem l_parts (H : HL T) (w : Str) (xs : List PyData) {m : Nat} (hm : 1 ≤ m) : callF T m "_law_parts" [false] [.p (.tuple (.str w :: xs))] = some (.p (.tuple (blks (.tuple (.str w :: xs)))), [.p (.tuple (.str w :: xs))]) := by
  rw [run_at H.parts (by omega)]
  apply W.eq
  have hc : cut (PyData.str w :: xs) (some 2) none = xs.tail := by
    cases xs with
    | nil => rw [cut2_1]; rfl
    | cons => rw [cut2]; rfl
  simp [c__law_parts_k21, mkTup, inSeq2, hc, blks]
  by_cases h1 : w = "if"
  · subst h1
    simp
  · by_cases h2 : w = "repeat"
    · subst h2
      simp
    · simp [h1, h2, Ne.symm h1, Ne.symm h2]
theorem l_is_statement (H : HL T) (v : PyData) (hv : sm v = true) {m : Nat} (hm : 10 ≤ m) : callF T m "_law_is_statement" [false] [.p v] = some (.p (.bool (isStmt v)), [.p v]) := by
  rw [run_at H.is_statement (by omega)]
  apply W.eq
  have he := fun v hv => l_is_expr3 H v hv (m := m - 1) (by omega)
  have ht := fun v hv => l_is_test2 H v hv (m := m - 1) (by omega)
  have hw := fun v a b => l_whole H v a b (m := m - 1) (by omega)
  have hn := fun v hv => l_is_name H v hv (m := m - 1) (by omega)
  have hb := fun w xs => l_parts H w xs (m := m - 1) (by omega)
  cases v with
  | tuple xs =>
    simp at hv
    rcases xs with _ | ⟨a, xs⟩
    · simp [c__law_is_statement, isStmt]
    · cases a with
      | str w =>
        by_cases h1 : w = "set"
        · subst h1
          rcases xs with _ | ⟨a, _ | ⟨b, _ | ⟨c, _ | ⟨d, r⟩⟩⟩⟩
          · simp [c__law_is_statement, isStmt, st2, bmV, keyOf, dicGet, cstKeys]
          · simp [c__law_is_statement, isStmt, st2, bmV, keyOf, dicGet, cstKeys]
          · simp at hv
            simp [c__law_is_statement, isStmt, st2, hn a (sm_str hv.2.1), he b hv.2.2, bmV, keyOf, dicGet, cstKeys]
            cases isName a <;> simp
          · simp [c__law_is_statement, isStmt, st2, bmV, keyOf, dicGet, cstKeys]
          · simp [c__law_is_statement, isStmt, st2, lenL, bmV, keyOf, dicGet, cstKeys]
        · by_cases h2 : w = "pay"
          · subst h2
            rcases xs with _ | ⟨a, _ | ⟨b, _ | ⟨c, _ | ⟨d, r⟩⟩⟩⟩
            · simp [c__law_is_statement, isStmt, st1, bmV, keyOf, dicGet, cstKeys]
            · simp at hv
              simp [c__law_is_statement, isStmt, st1, he a hv.2, bmV, keyOf, dicGet, cstKeys]
            · simp [c__law_is_statement, isStmt, st1, bmV, keyOf, dicGet, cstKeys]
            · simp [c__law_is_statement, isStmt, st1, bmV, keyOf, dicGet, cstKeys]
            · simp [c__law_is_statement, isStmt, st1, lenL, bmV, keyOf, dicGet, cstKeys]
          · by_cases h3 : w = "if"
            · subst h3
              rcases xs with _ | ⟨a, _ | ⟨b, _ | ⟨c, _ | ⟨d, r⟩⟩⟩⟩
              · simp [c__law_is_statement, isStmt, st3, bmV, keyOf, dicGet, cstKeys]
              · simp [c__law_is_statement, isStmt, st3, bmV, keyOf, dicGet, cstKeys]
              · simp [c__law_is_statement, isStmt, st3, bmV, keyOf, dicGet, cstKeys]
              · simp at hv
                simp [c__law_is_statement, isStmt, st3, ht a hv.2.1, hb, bmV, keyOf, dicGet, cstKeys, ownOk]
                refine ⟨fun h => by simp [h], fun h => ?_⟩
                rw [comp_filter' (fun x => !tTup x)]
                · have hbk : blks (.tuple [.str "if", a, b, c]) = [b, c] := by simp [blks]
                  rw [hbk]
                  cases h5 : tTup b <;> cases h6 : tTup c <;> simp [h, h5, h6]
                · intro x
                  cases h : tTup x <;> simp [h]
              · simp [c__law_is_statement, isStmt, st3, lenL, bmV, keyOf, dicGet, cstKeys]
            · by_cases h4 : w = "repeat"
              · subst h4
                rcases xs with _ | ⟨a, _ | ⟨b, _ | ⟨c, _ | ⟨d, r⟩⟩⟩⟩
                · simp [c__law_is_statement, isStmt, stR, bmV, keyOf, dicGet, cstKeys]
                · simp [c__law_is_statement, isStmt, stR, bmV, keyOf, dicGet, cstKeys]
                · simp at hv
                  simp [c__law_is_statement, isStmt, stR, hw, hb, bmV, keyOf, dicGet, cstKeys, ownOk]
                  refine ⟨fun h => by simp [h], fun h => ?_⟩
                  rw [comp_filter' (fun x => !tTup x)]
                  · have hbk : blks (.tuple [.str "repeat", a, b]) = [b] := by simp [blks]
                    rw [hbk]
                    cases h5 : tTup b <;> simp [h, h5]
                  · intro x
                    cases h : tTup x <;> simp [h]
                · simp [c__law_is_statement, isStmt, stR, bmV, keyOf, dicGet, cstKeys]
                · simp [c__law_is_statement, isStmt, stR, lenL, bmV, keyOf, dicGet, cstKeys]
              · by_cases h5 : w = "stop"
                · subst h5
                  rcases xs with _ | ⟨a, r⟩
                  · simp [c__law_is_statement, isStmt, hb, bmV, keyOf, dicGet, cstKeys, ownOk]
                    rw [comp_filter' (fun x => !tTup x)]
                    · simp [blks]
                    · intro x
                      cases h : tTup x <;> simp [h]
                  · have h6 : ¬ ((r.length : Int) + 1 + 1 = 1) := by omega
                    simp [c__law_is_statement, isStmt, bmV, keyOf, dicGet, cstKeys, h6]
                · simp [c__law_is_statement, isStmt, h1, h2, h3, h4, h5, bmV, keyOf, dicGet, cstKeys, Ne.symm h1, Ne.symm h2, Ne.symm h3, Ne.symm h4, Ne.symm h5]
      | _ => simp [c__law_is_statement, isStmt]
  | _ => simp [c__law_is_statement, isStmt]
end Wh


set_option Elab.async false
set_option linter.all false
set_option maxRecDepth 100000
set_option maxHeartbeats 4000000
namespace Wh
open PySem PySem.Spec PyProof.Rows L2 Wh.C
variable {T : Tab}
theorem comp_cons {f : PyData → Env → Option (Option D × Env)} {h : HideT f} {x : PyData} {xs : List PyData} {ε : Env} : compH f (x :: xs) ε h = (f x ε).bH fun a => (compH f xs a.2 h).mH fun b => (a.1.toList ++ b.1, b.2) := rfl
theorem comp_nil {f : PyData → Env → Option (Option D × Env)} {h : HideT f} {ε : Env} : compH f [] ε h = some ([], ε) := rfl
theorem for_cons {f : PyData → Env → Option (Fl × Env)} {h : HideT f} {x : PyData} {xs : List PyData} {ε : Env} : forH f (x :: xs) ε h = (f x ε).bH fun a => match a.1 with
    | .next => forH f xs a.2 h
    | .cont => forH f xs a.2 h
    | .brk => some (.next, a.2)
    | .ret d => some (.ret d, a.2) := rfl
theorem while_no {c : Env → Option (Bool × Env)} {f : Env → Option (Fl × Env)} {h1 : HideT c} {h2 : HideT f} {n : Nat} {ε : Env} (h : c ε = some (false, ε)) : whileH c f (n + 1) ε h1 h2 = some (.next, ε) := by
  rw [whileH, whileLoop, h]
  rfl
theorem rngL_13 : rngL 1 3 = [.int 1, .int 2, .int 3] := rfl
theorem rngL_04 : rngL 0 4 = [.int 0, .int 1, .int 2, .int 3] := rfl
@[simp] theorem b_addl {ds es : List D} : binop .add (.lst ds) (.lst es) = if ds.length + es.length ≤ sizeLine then (if ds.all D.isP && es.all D.isP then some (.lst (ds ++ es)) else none) else none := rfl
@[simp] theorem b_muls {i j : Int} : binop .mul (.p (.int i)) (.p (.int j)) = if (i.natAbs < 2 ^ 64 ∨ j.natAbs < 2 ^ 64) then some (.p (.int (i * j))) else none := rfl
def cntN : Nat → List PyData → Int
  | 0, _ => 0
  | k + 1, xs => (xs.map fun x => 1 + ((blks x).map fun b => cntN k (tItems b)).sum).sum
def cnt4 (k : Nat) (xs : List PyData) : PyData := .list [.int (cntN k xs), .int (cntB "weight" k xs), .int (cntB "rest" k xs), .int (cntB "less" k xs)]
theorem l_counts (H : HL T) : ∀ (k : Nat) (xs : List PyData), (∀ x ∈ xs, okS k x = true) → ∀ {m : Nat}, k + 2 ≤ m → callF T m "_law_counts" [false] [.p (.tuple xs)] = some (.p (cnt4 k xs), [.p (.tuple xs)])
  | 0, xs, hx, m, hm => by
    rw [run_at H.counts (by omega)]
    apply W.eq
    have : xs = [] := by
      cases xs with
      | nil => rfl
      | cons x xs => simpa [okS] using hx x (by simp)
    subst this
    simp [c__law_counts_k21, for_nil, cnt4, cntB, cntN, retV, frz, D.fz, D.toP, toPs]
  | k + 1, xs, hx, m, hm => by
    rw [run_at H.counts (by omega)]
    apply W.eq
    have ih := fun xs hx => l_counts H k xs hx (m := m - 1) (by omega)
    have hb := fun w xs => l_parts H w xs (m := m - 1) (by omega)
    simp [c__law_counts_k21]
    generalize hr0 : cnt4 (k + 1) xs = r
    simp [cnt4] at hr0
    generalize h0 : cntN (k + 1) xs = r0 at hr0
    generalize h1 : cntB "weight" (k + 1) xs = r1 at hr0
    generalize h2 : cntB "rest" (k + 1) xs = r2 at hr0
    generalize h3 : cntB "less" (k + 1) xs = r3 at hr0
    refine W_for (fun ys ε => ∃ a b c d x2 x3 x4 x5 x6 x7, ε = [some (.p (.tuple xs)), some (.lst [.p (.int a), .p (.int b), .p (.int c), .p (.int d)]), x2, x3, x4, x5, x6, x7, none] ∧ a + cntN (k + 1) ys = r0 ∧ b + cntB "weight" (k + 1) ys = r1 ∧ c + cntB "rest" (k + 1) ys = r2 ∧ d + cntB "less" (k + 1) ys = r3 ∧ ∀ x ∈ ys, okS (k + 1) x = true) _ _ ⟨0, 0, 0, 0, none, none, none, none, none, none, rfl, by simpa using h0, by simpa using h1, by simpa using h2, by simpa using h3, hx⟩ ?_ ?_
    · rintro x ys ε ⟨a, b, c, d, x2, x3, x4, x5, x6, x7, rfl, g0, g1, g2, g3, g4⟩
      have hx := okS_succ.1 (g4 x (by simp))
      have hN : cntN (k + 1) (x :: ys) = (1 + ((blks x).map fun b => cntN k (tItems b)).sum) + cntN (k + 1) ys := by simp [cntN]
      have hB : ∀ sort, cntB sort (k + 1) (x :: ys) = (own sort x + ((blks x).map fun b => cntB sort k (tItems b)).sum * times x) + cntB sort (k + 1) ys := fun sort => by simp [cntB]
      rw [hN] at g0
      rw [hB] at g1 g2 g3
      have g5 : ∀ x ∈ ys, okS (k + 1) x = true := fun x hx => g4 x (by simp [hx])
      clear hN hB g4
      rcases isStmt_cases hx.1 with ⟨v, e, rfl, _⟩ | ⟨e, rfl, _⟩ | ⟨t, y, n, rfl, ht⟩ | ⟨q, y, rfl, hc⟩ | rfl
      · simp [hb]
        rw [while_no (by simp)]
        simp [hb, blks, for_nil, rngL_04, comp_cons, comp_nil, ownOk]
        simp [own, blks] at g0 g1 g2 g3
        exact .mk ⟨_, _, _, _, _, _, _, _, _, _, rfl, by omega, by omega, by omega, by omega, g5⟩
      · simp [hb]
        rw [while_no (by simp)]
        simp [hb, blks, for_nil, rngL_04, comp_cons, comp_nil, ownOk]
        simp [own, blks] at g0 g1 g2 g3
        exact .mk ⟨_, _, _, _, _, _, _, _, _, _, rfl, by omega, by omega, by omega, by omega, g5⟩
      · simp [hb]
        have hy := ih y (fun o ho => hx.2 (.tuple y) (by simp [blks]) o ho)
        have hn := ih n (fun o ho => hx.2 (.tuple n) (by simp [blks]) o ho)
        have hbw : ∀ sort : Str, sort ≠ "weight" → own sort (.tuple [.str "if", t, .tuple y, .tuple n]) = if bareW 2 t = sort then 1 else 0 := fun sort h => by simp [own, h]
        rw [hbw _ (by simp)] at g2 g3
        generalize hr : bareW 2 t = w at g2 g3
        refine W_while (fun j ε => ∃ u, ε = [some (.p (.tuple xs)), some (.lst [.p (.int a), .p (.int b), .p (.int c), .p (.int d)]), some (.p (.tuple [.str "if", t, .tuple y, .tuple n])), some (.p u), x4, x5, x6, x7, none] ∧ isTest j u = true ∧ bareW j u = w) ?_ 1000000 2 _ (by omega) ⟨t, rfl, ht, hr⟩
        rintro j ε ⟨u, rfl, k1, k2⟩
        obtain ⟨v, us, rfl, k3⟩ := isTest_form k1
        by_cases hv : v = "not"
        · subst hv
          obtain ⟨k', t', rfl, rfl, k4⟩ := k3 rfl
          simp
          exact .mk k' (by omega) ⟨t', rfl, k4, by rw [← k2, bareW_not]⟩
        · rw [bareW_else hv] at k2
          subst k2
          simp [hv, hb, blks, for_nil, for_cons, rngL_04, rngL_13, comp_cons, comp_nil, ownOk, hy, hn, cnt4]
          simp [own, blks, times, tItems] at g0 g1 g2 g3
          refine .mk ⟨_, _, _, _, _, _, _, _, _, _, rfl, by omega, by omega, by omega, by omega, g5⟩
      · simp [hb]
        rw [while_no (by simp)]
        have hy := ih y (fun o ho => hx.2 (.tuple y) (by simp [blks]) o ho)
        have hq : q.natAbs < 18446744073709551616 := by omega
        simp [hb, blks, for_nil, for_cons, rngL_04, rngL_13, comp_cons, comp_nil, ownOk, hy, cnt4, hq]
        simp [own, blks, times, tItems] at g0 g1 g2 g3
        rw [Int.mul_comm] at g1 g2 g3
        exact .mk ⟨_, _, _, _, _, _, _, _, _, _, rfl, by omega, by omega, by omega, by omega, g5⟩
      · simp [hb]
        rw [while_no (by simp)]
        simp [hb, blks, for_nil, rngL_04, comp_cons, comp_nil, ownOk]
        simp [own, blks] at g0 g1 g2 g3
        exact .mk ⟨_, _, _, _, _, _, _, _, _, _, rfl, by omega, by omega, by omega, by omega, g5⟩
    · rintro ε ⟨a, b, c, d, x2, x3, x4, x5, x6, x7, rfl, g0, g1, g2, g3, g4⟩
      simp [cntN, cntB] at g0 g1 g2 g3
      subst g0 g1 g2 g3
      simp [retV, frz, D.fz, D.toP, toPs, ← hr0]
end Wh


set_option Elab.async false
set_option linter.all false
set_option maxRecDepth 100000
set_option maxHeartbeats 4000000
namespace Wh
open PySem PySem.Spec PyProof.Rows L2 Wh.C
variable {T : Tab}
theorem sum_map_len {α β : Type} (f : α → List β) (xs : List α) : ((xs.flatMap f).length : Int) = (xs.map fun x => ((f x).length : Int)).sum := by
  induction xs with
  | nil => simp
  | cons x xs ih => simp only [List.flatMap_cons, List.length_append, List.map_cons, List.sum_cons, ← ih]; omega
theorem rows_cnt : ∀ (k : Nat) (d : Int) (xs : List PyData), ((xs.flatMap (rowsL k d)).length : Int) = cntN k xs
  | 0, d, xs => by
    induction xs with
    | nil => simp [cntN]
    | cons x xs ih => simpa [rowsL, cntN] using ih
  | k + 1, d, xs => by
    rw [sum_map_len]
    simp only [cntN]
    congr 1
    apply List.map_congr_left
    intro x hx
    simp only [rowsL, List.length_cons]
    rw [Int.natCast_add, sum_map_len]
    have : (fun x => (((tItems x).flatMap (rowsL k (d + 1))).length : Int)) = fun b => cntN k (tItems b) := by
      funext b
      exact rows_cnt k (d + 1) (tItems b)
    rw [this]
    omega
theorem stk_extL {f : D → D} {ks st : List (Int × PyData)} {zs : List PyData} (hz : zs = ks.map enc) (h : st.length + ks.length ≤ sizeLine) : mutV f "extend" (stkD st) [.lst (List.map D.p zs).reverse] = some (stkD (ks ++ st), .p .none) := by
  rw [← stk_ext (f := f) h, hz]
  simp only [stkD, mut_ext, ps_l, ps_d, bH_some, ← List.map_reverse, allP_mp]
def Inv5 (v : PyData) (xs : List PyData) (d : Int) (st : List (Int × PyData)) (pl : Int) (bs : List PyData) (ε : Env) : Prop :=
  ∃ found x6, ε = [some (.p (.tuple xs)), some (stkD st), some (.p (.int pl)), some (.p (.int d)), some (.p v), some (.lst (found.map .p)), x6, none, none, none, none] ∧ found ++ kidsE d bs = kidsE d (blks v) ∧ (∀ b ∈ bs, tTup b = true)
theorem l_error (H : HL T) (v : PyData) (hv : sm v = true) (hz : sz v ≤ 900000) {m : Nat} (hm : 12 ≤ m) : callF T m "_law_error" [false] [.p v] = some (.p (pErr v), [.p v]) := by
  rw [run_at H.error (by omega)]
  apply W.eq
  cases v with
  | tuple xs =>
    simp at hv hz
    have hst := fun v hv => l_is_statement H v hv (m := m - 1) (by omega)
    have hb := fun w xs => l_parts H w xs (m := m - 1) (by omega)
    have hcn := fun xs hx => l_counts H 4 xs hx (m := m - 1) (by omega)
    simp [c__law_error_k21, ownOk]
    rw [comp_mapP (fun o => .tuple [.int 0, o])]
    · have hl : xs.length ≤ sizeLine := by
        have := szAll_len xs
        simp [sizeLine]; omega
      simp only [pErr]
      have hok : ordErr 1000000 (xs.map fun x => (0, x)) 0 = .none → ∀ x ∈ xs, okS 4 x = true := by
        intro h x hx
        have := ordErr_none 1000000 (xs.map fun x => (0, x)) 0 (by simp [szs, Function.comp_def]; omega) (by simp) h (0, x) (by simpa using hx)
        simpa using this
      have hcs := ordErr_cases 1000000 (xs.map fun x => (0, x)) 0
      generalize hr : ordErr 1000000 (xs.map fun x => (0, x)) 0 = r at hok hcs
      have h0 : D.lst (List.map D.p (List.map (fun o => PyData.tuple [PyData.int 0, o]) xs)).reverse = stkD (xs.map fun x => (0, x)) := by
        simp [stkD, enc, Function.comp_def]
      have h1 : (List.map (fun o => PyData.tuple [PyData.int 0, o]) xs).length ≤ sizeLine := by simpa using hl
      generalize List.map (fun o => PyData.tuple [PyData.int 0, o]) xs = zs at h0 h1
      simp [h1, h0]
      have hz0 : szs (xs.map fun x => ((0 : Int), x)) = szAll xs := by simp [szs, Function.comp_def]
      refine W_while (fun k ε => ∃ st pl x3 x4 x5 x6 N, ε = [some (.p (.tuple xs)), some (stkD st), some (.p (.int pl)), x3, x4, x5, x6, none, none, none, none] ∧ szs st = k ∧ k ≤ 900000 ∧ k < N ∧ ordErr N st pl = r ∧ ∀ x ∈ st, sm x.2 = true) ?_ 1000000 (szAll xs) _ (by omega) ⟨_, 0, none, none, none, none, 1000000, rfl, hz0, by omega, by omega, hr, by simpa using hv⟩
      rintro k ε ⟨st, pl, x3, x4, x5, x6, N, rfl, h2, h3, h4, h5, h6⟩
      rcases st with _ | ⟨⟨d, v⟩, st⟩
      · obtain ⟨N, rfl⟩ : ∃ N', N = N' + 1 := ⟨N - 1, by omega⟩
        simp [ordErr] at h5
        subst h5
        have hrc := rows_cnt 4 0 xs
        simp [hcn xs (hok rfl), cnt4, for_cons, for_nil, enumL, D.es?]
        rw [show ((rowsP xs).length : Int) = cntN 4 xs from hrc]
        refine ⟨fun a b => absurd a (by omega), fun a => ⟨fun b => ?_, fun b => ⟨fun c => ?_, fun c => ⟨fun d => ?_, fun d => ?_⟩⟩⟩⟩
        · rw [if_neg (by omega), if_pos (by omega)]
        · rw [if_neg (by omega), if_neg (by omega), if_pos (by omega)]
        · rw [if_neg (by omega), if_neg (by omega), if_neg (by omega), if_pos (by omega)]
        · rw [if_neg (by omega), if_neg (by omega), if_neg (by omega), if_neg (by omega)]
      · obtain ⟨N, rfl⟩ : ∃ N', N = N' + 1 := ⟨N - 1, by omega⟩
        simp [ordErr] at h5
        have hv := h6 (d, v) (by simp)
        simp only [szs_cons] at h2
        simp [enc]
        refine ⟨fun hd => ?_, fun hd => ?_⟩
        · rw [if_pos hd] at h5
          subst h5
          rfl
        · simp [hst v hv]
          rw [if_neg (by omega)] at h5
          have hk := szs_kids d v
          refine ⟨fun hs => ?_, fun hs => ?_⟩
          · rw [hs] at h5
            simp at h5
            subst h5
            rfl
          · have hl1 := szs_len st
            have hl2 := szs_len (kids d v)
            simp only [] at hv
            rw [hs] at h5
            obtain ⟨w, ws, hvf⟩ := isStmt_form hs
            have hb := hb w ws
            rw [← hvf] at hb
            have hlen : (kidsE d (blks v)).length ≤ 1000000 := by
              rw [kidsE_eq, List.length_map]
              omega
            simp [hb]
            refine W_for (Inv5 v xs d st pl) _ _ ⟨[], x6, by simp, by simp, blks_tup hs⟩ ?_ ?_
            · rintro x r ε ⟨found, x3, rfl, h1, h2⟩
              obtain ⟨ys, rfl⟩ := tTup_form (h2 x (by simp))
              simp [ownOk]
              rw [comp_mapP (fun o => .tuple [.int (d + 1), o])]
              · have h6 : found ++ ys.map (fun o => PyData.tuple [PyData.int (d + 1), o]) ++ kidsE d r = kidsE d (blks v) := by
                  rw [← h1]
                  simp [kidsE, tItems]
                have h3 : found.length + ys.length ≤ 1000000 := by
                  have := congrArg List.length h6
                  simp only [List.length_append, List.length_map] at this
                  omega
                generalize hzs : ys.map (fun o => PyData.tuple [PyData.int (d + 1), o]) = zs at h6
                have hl : zs.length = ys.length := by rw [← hzs, List.length_map]
                have h4 : zs.length ≤ sizeLine := by simp [sizeLine]; omega
                have h5 : found.length + zs.length ≤ sizeLine := by simp [sizeLine]; omega
                simp [h4, h5]
                refine .mk ⟨found ++ zs, some (.p (.tuple ys)), by simp, h6, fun b hb => h2 b (by simp [hb])⟩
              · intro o _
                simp
            · rintro ε ⟨found, x3, rfl, h1, h2⟩
              simp [kidsE] at h1
              have hf : found = (kids d v).map enc := by rw [← kidsE_eq, h1]; rfl
              simp [stk_extL (f := frz (cfgK T (m - 1) 1 true)) (ks := kids d v) (st := st) hf (by simp [sizeLine]; omega)]
              refine .mk (szs (kids d v ++ st)) (by rw [szs_app]; omega) ⟨_, _, _, _, _, _, N, rfl, rfl, by rw [szs_app]; omega, by rw [szs_app]; omega, by simpa using h5, ?_⟩
              intro a hab
              rcases List.mem_append.1 hab with hab | hab
              · exact sm_kids hv a hab
              · exact h6 a (by simp [hab])
    · intro o _
      simp
  | _ => simp [c__law_error_k21, pErr]
end Wh


set_option Elab.async false
set_option linter.all false
set_option maxRecDepth 100000
set_option maxHeartbeats 4000000
namespace Wh
open PySem PySem.Spec PyProof.Rows L2 Wh.C
variable {T : Tab}
/-! ### the deck of drawn numbers -/
def cellsD (xs : List Int) : D := .lst (xs.map fun i => .p (.int i))
def deckD (xs : List Int) (k : Int) : D := .lst [cellsD xs, .p (.int k)]
/-- at most b numbers were drawn -/
def Dk (xs : List Int) (k : Int) (b : Nat) : Prop := 0 ≤ k ∧ k ≤ b ∧ xs.length ≤ 63
theorem Dk.mono {xs : List Int} {k : Int} {b c : Nat} (h : Dk xs k b) (hc : b ≤ c) : Dk xs k c := ⟨h.1, by have := h.2.1; omega, h.2.2⟩
@[simp] theorem dk_isP {xs : List Int} {k : Int} : (deckD xs k).isP = false := rfl
@[simp] theorem dk_lock {lk : List Nat} {e : E} {xs : List Int} {k : Int} : lock lk e (deckD xs k) = (root e).toList ++ lk := by simp [deckD]
@[simp] theorem dk_late {i : Nat} {ε : Env} {xs : List Int} {k : Int} : late (.var i) (deckD xs k) ε = match ε[i]? with | some (some d1) => if d1.isP then none else some d1 | _ => none := late_v rfl
@[simp] theorem dk_sink {e : E} {xs : List Int} {k : Int} : sink e (deckD xs k) = if (root e).isNone then some (deckD xs k) else none := by simp [deckD]
@[simp] theorem dk_ir {e : E} {es : List E} {xs : List Int} {k : Int} {ds : List D} : impRoots (e :: es) (deckD xs k :: ds) = (root e).toList ++ impRoots es ds := by simp [deckD]
@[simp] theorem dk_al {lk : List Nat} {i : Nat} {es : List E} {xs : List Int} {k : Int} {ds : List D} : argLks lk (.var i :: es) (deckD xs k :: ds) = decide (i ∈ lk) :: argLks lk es ds := by simp [deckD]
@[simp] theorem dk_wb {lk : List Nat} {i : Nat} {es : List E} {xs : List Int} {k : Int} {d' : D} {ds ds' : List D} {ε : Env} : wback lk (.var i :: es) (deckD xs k :: ds) (d' :: ds') ε = wback lk es ds ds' (if i ∈ lk then ε else ε.set i (some d')) := by simp [deckD]
structure HD (T : Tab) : Prop where
  deck : T.fn "_law_deck" = some c__law_deck
  draw : T.fn "_law_draw" = some c__law_draw_k00
  one : T.fn "_law_one" = some c__law_one
@[simp] theorem step_ix {ds : List D} {k : Nat} : (D.lst ds).step (.ix k) = ds[k]? := rfl
@[simp] theorem put_ix {ds : List D} {k : Nat} {v : D} : (D.lst ds).put (.ix k) v = if k < ds.length then some (.lst (ds.set k v)) else none := rfl
@[simp] theorem stepOf_l {ds : List D} {i : Int} : stepOf (.lst ds) (.int i) = (ixN ds.length i).mH .ix := rfl
@[simp] theorem ixN_0 {n : Nat} : ixN (n + 1) 0 = some 0 := by simp [ixN]
@[simp] theorem ixN_1 {n : Nat} : ixN (n + 1 + 1) 1 = some 1 := by simp [ixN]; omega
@[simp] theorem litc {x : PyData} {ε : Env} : litK (.cst x) ε = some x := rfl
@[simp] theorem litv {i : Nat} {ε : Env} : litK (.var i) ε = match ε[i]? with | some (some (.p x)) => some x | _ => none := rfl
@[simp] theorem b_mod {i j : Int} : binop .mod (.p (.int i)) (.p (.int j)) = if 0 < j then some (.p (.int (i % j))) else none := rfl
@[simp] theorem b_fdiv {i j : Int} : binop .fdiv (.p (.int i)) (.p (.int j)) = if 0 < j ∧ j < 1073741824 then some (.p (.int (i / j))) else none := rfl
@[simp] theorem b_pow {i j : Int} : binop .pow (.p (.int i)) (.p (.int j)) = if 0 ≤ j ∧ j ≤ 1000000 ∧ i.natAbs < 2 ^ 64 then some (.p (.int (i ^ j.toNat))) else none := rfl
theorem l_draw (H : HD T) {xs : List Int} {k : Int} {b : Nat} (hd : Dk xs k b) (hb : b < 2 ^ 40) (many : Int) (h1 : 0 < many) (h2 : many < 1073741824) {m : Nat} (hm : 1 ≤ m) :
    W (callF T m "_law_draw" [false, false] [deckD xs k, .p (.int many)]) fun a => ∃ i xs' k', a = (.p (.int i), [deckD xs' k', .p (.int many)]) ∧ 0 ≤ i ∧ i < many ∧ Dk xs' k' (b + 1) := by
  rw [run_at H.draw hm]
  obtain ⟨k1, k2, k3⟩ := hd
  have hmod := fun x : Int => And.intro (Int.emod_nonneg x (by omega : many ≠ 0)) (Int.emod_lt_of_pos x h1)
  rcases xs with _ | ⟨x, xs⟩
  · simp [c__law_draw_k00, deckD, cellsD]
    refine ⟨fun _ => ⟨fun _ => ⟨_, [], k + 1, ⟨rfl, by simp⟩, (hmod _).1, (hmod _).2, ⟨by omega, by omega, by simp⟩⟩, h1⟩, by omega⟩
  · have hn : 0 < ((xs.length : Int) + 1) := by omega
    have a1 := Int.emod_nonneg (k + 1) (by omega : (xs.length : Int) + 1 ≠ 0)
    have a2 := Int.emod_lt_of_pos (k + 1) hn
    generalize hat : (k + 1) % ((xs.length : Int) + 1) = at_ at a1 a2
    obtain ⟨c, hc⟩ : ∃ c, (x :: xs)[at_.toNat]? = some c := ⟨_, List.getElem?_eq_getElem (by simp; omega)⟩
    have hix : ixN (xs.length + 1) at_ = some at_.toNat := by
      simp only [ixN]
      rw [if_pos a1, if_pos (by omega)]
    have hatI : atI ((x :: xs).map fun i => D.p (PyData.int i)) at_ = some (.p (.int c)) := by
      simp only [atI, List.length_map, List.length_cons, hix, Option.bind_some, List.getElem?_map, hc, Option.map_some]
    have hlt : at_.toNat < xs.length + 1 := by omega
    simp at hatI
    simp [c__law_draw_k00, deckD, cellsD, hn, hat, hatI, hix, hlt]
    have k4 : xs.length + 1 ≤ 63 := by simpa using k3
    refine ⟨fun _ => ⟨fun _ _ => ⟨fun _ => ⟨_, (x :: xs).set at_.toNat (c / many), k + 1, ⟨rfl, by simp⟩, (hmod _).1, (hmod _).2, ⟨by omega, by omega, by simpa using k4⟩⟩, h1⟩, h1, h2⟩, fun _ => ⟨fun _ => ⟨fun _ => ⟨_, x :: xs, k + 1, ⟨rfl, by simp⟩, (hmod _).1, (hmod _).2, ⟨by omega, by omega, by simpa using k4⟩⟩, h1⟩, ?_⟩⟩
    have c1 := Int.emod_nonneg c (by omega : (2147483563 : Int) ≠ 0)
    have c2 := Int.emod_lt_of_pos c (by omega : (0 : Int) < 2147483563)
    omega
theorem l_one (H : HD T) {xs : List Int} {k : Int} {b : Nat} (hd : Dk xs k b) (hb : b < 2 ^ 40) (ds : List D) (h1 : ∀ d ∈ ds, d.isP = true) (h2 : 0 < ds.length) (h3 : ds.length < 1073741824) {m : Nat} (hm : 2 ≤ m) :
    W (callF T m "_law_one" [false, false] [deckD xs k, .lst ds]) fun a => ∃ x xs' k', a = (.p x, [deckD xs' k', .lst ds]) ∧ .p x ∈ ds ∧ Dk xs' k' (b + 1) := by
  rw [run_at H.one (by omega)]
  simp [c__law_one]
  refine (l_draw H hd hb ds.length (by omega) (by omega) (by omega)).mono ?_
  rintro _ ⟨i, xs', k', rfl, a1, a2, a3⟩
  obtain ⟨d, hdd⟩ : ∃ d, ds[i.toNat]? = some d := ⟨_, List.getElem?_eq_getElem (by omega)⟩
  have hmem := List.mem_of_getElem? hdd
  obtain ⟨x, rfl⟩ : ∃ x, d = .p x := by
    have := h1 d hmem
    cases d <;> simp at this
    exact ⟨_, rfl⟩
  have hat : atI ds i = some (.p x) := by
    simp only [atI, ixN]
    rw [if_pos a1, if_pos a2]
    simpa using hdd
  simp [hat]
  exact ⟨_, _, _, ⟨rfl, rfl⟩, hmem, a3⟩
theorem l_oneP (H : HD T) {xs : List Int} {k : Int} {b : Nat} (hd : Dk xs k b) (hb : b < 2 ^ 40) (ds : List PyData) (h2 : 0 < ds.length) (h3 : ds.length < 1073741824) {m : Nat} (hm : 2 ≤ m) :
    W (callF T m "_law_one" [false, false] [deckD xs k, .p (.list ds)]) fun a => ∃ x xs' k', a = (.p x, [deckD xs' k', .p (.list ds)]) ∧ x ∈ ds ∧ Dk xs' k' (b + 1) := by
  rw [run_at H.one (by omega)]
  simp [c__law_one]
  refine (l_draw H hd hb ds.length (by omega) (by omega) (by omega)).mono ?_
  rintro _ ⟨i, xs', k', rfl, a1, a2, a3⟩
  obtain ⟨x, hdd⟩ : ∃ d, ds[i.toNat]? = some d := ⟨_, List.getElem?_eq_getElem (by omega)⟩
  have hmem := List.mem_of_getElem? hdd
  have hat : atI ds i = some x := by
    simp only [atI, ixN]
    rw [if_pos a1, if_pos a2]
    simpa using hdd
  simp [hat]
  exact ⟨_, _, _, ⟨rfl, rfl⟩, hmem, a3⟩
theorem l_deck (H : HD T) (ns : List Int) (h : ns.length ≤ 63) {m : Nat} (hm : 1 ≤ m) : ∃ xs, callF T m "_law_deck" [false] [.p (.list (ns.map .int))] = some (deckD xs 0, [.p (.list (ns.map .int))]) ∧ Dk xs 0 0 := by
  suffices hh : W (callF T m "_law_deck" [false] [.p (.list (ns.map .int))]) fun a => ∃ xs, a = (deckD xs 0, [.p (.list (ns.map .int))]) ∧ Dk xs 0 0 by
    obtain ⟨a, h1, xs, rfl, h2⟩ := hh
    exact ⟨xs, h1, h2⟩
  rw [run_at H.deck (by omega)]
  have hl : (ns.map PyData.int).length ≤ 63 := by simpa using h
  have hi : ∀ x ∈ ns.map PyData.int, ∃ i, x = .int i := by
    intro x hx
    simp at hx
    obtain ⟨i, _, rfl⟩ := hx
    exact ⟨i, rfl⟩
  generalize ns.map PyData.int = zs at hl hi
  have hc : cut zs none (some 63) = zs := by
    unfold cut
    rw [show (some (63 : Int)) = some ((63 : Nat) : Int) from rfl, HT.sIx_nat, HT.sIx_none]
    simp only [List.drop_zero]
    exact List.take_of_length_le (by omega)
  have hs : zs.length ≤ sizeLine := by simp [sizeLine]; omega
  simp [c__law_deck, slcV, hc, ownOk]
  rw [comp_map (fun x => match x with | .int i => .p (.int (if i < 0 then -i else i)) | _ => .p .none)]
  · have : ∃ xs : List Int, zs.map (fun x => match x with | .int i => D.p (.int (if i < 0 then -i else i)) | _ => .p .none) = xs.map (fun i => D.p (.int i)) := by
      clear hc hs hl
      induction zs with
      | nil => exact ⟨[], rfl⟩
      | cons z zs ih =>
        obtain ⟨xs, hx⟩ := ih fun x hx => hi x (by simp [hx])
        obtain ⟨i, rfl⟩ := hi z (by simp)
        exact ⟨(if i < 0 then -i else i) :: xs, by simp [hx]⟩
    obtain ⟨xs, hx⟩ := this
    have hlx : xs.length = zs.length := by
      have := congrArg List.length hx
      simpa using this.symm
    rw [hx]
    have hs2 : xs.length ≤ sizeLine := by omega
    simp [hs2, retV, frz]
    exact ⟨xs, rfl, by omega, by omega, by omega⟩
  · intro x hx
    obtain ⟨i, rfl⟩ := hi x hx
    simp
end Wh


set_option Elab.async false
set_option linter.all false
set_option maxRecDepth 100000
set_option maxHeartbeats 4000000
namespace Wh
open PySem PySem.Spec PyProof.Rows L2 Wh.C
variable {T : Tab}
/-! ### repr of what is told -/
theorem repr_p {x : PyData} (h1 : x.showable = true) (h2 : x.hasDict = false) (h3 : x.depth ≤ 100) (h4 : x.shown.length ≤ sizeLine) : reprV (.p x) = some x.shown := by
  simp [reprV, D.toP, h1, h2, h3, h4]
theorem tupText2_len (a b : Str) : (tupleText [a, b]).length = a.length + b.length + 4 := by
  have h := join_length_add [a, b] (by simp)
  unfold tupleText
  rw [strLen_append, strLen_append]
  have e1 : ((("(" : String) : Str)).length = 1 := rfl
  have e3 : (((if [a, b].length == 1 then ",)" else ")" : String) : Str)).length = 1 := rfl
  rw [e1, e3]
  simp [piled] at h
  omega
theorem log_small {i : Int} (h0 : 0 ≤ i) (h : i ≤ 1000000000) : i.natAbs.log2 < 1920 := by
  by_cases hz : i.natAbs = 0
  · rw [hz]; decide
  · have : i.natAbs < 2 ^ 30 := by omega
    have := (Nat.log2_lt hz).2 this
    omega
theorem repr_int {i : Int} (h : i.natAbs.log2 < 1920) : reprV (.p (.int i)) = some (PyData.int i).shown := by
  refine repr_p (by simpa [PyData.showable] using h) rfl (by simp [PyData.depth]) ?_
  have := int_text_len_1921 h
  simp only [PyData.shown, sizeLine]
  omega
theorem repr_iw {i : Int} {w : Str} (h : i.natAbs.log2 < 1920) (hw : (reprText w).length ≤ 1000) : reprV (.p (.tuple [.int i, .str w])) = some (PyData.tuple [.int i, .str w]).shown := by
  refine repr_p (by simpa [PyData.showable, PyData.showableAll] using h) (by simp [PyData.hasDict, PyData.hasDictAll]) (by simp [PyData.depth, PyData.depthAll]) ?_
  have := int_text_len_1921 h
  simp only [PyData.shown, PyData.shownAll, tupText2_len, sizeLine]
  omega
theorem repr_nw {w : Str} (hw : (reprText w).length ≤ 1000) : reprV (.p (.tuple [.none, .str w])) = some (PyData.tuple [.none, .str w]).shown := by
  refine repr_p (by simp [PyData.showable, PyData.showableAll]) (by simp [PyData.hasDict, PyData.hasDictAll]) (by simp [PyData.depth, PyData.depthAll]) ?_
  have : (Str.ofString "None").length = 4 := rfl
  simp only [PyData.shown, PyData.shownAll, tupText2_len, sizeLine]
  omega
theorem repr_none : reprV (.p .none) = some (PyData.none).shown := repr_p (by simp [PyData.showable]) rfl (by simp [PyData.depth]) (by decide +kernel)
theorem repr_pErr (v : PyData) : reprV (.p (pErr v)) = some (pErr v).shown := by
  cases v with
  | tuple xs =>
    simp only [pErr]
    rcases ordErr_cases 1000000 (xs.map fun x => (0, x)) 0 with h | ⟨i, w, h, h3, h4, h5⟩
    · rw [h]
      simp only []
      split
      · exact repr_nw (by decide +kernel)
      · split
        · exact repr_nw (by decide +kernel)
        · split
          · exact repr_nw (by decide +kernel)
          · split
            · exact repr_nw (by decide +kernel)
            · exact repr_none
    · rw [h]
      simp only []
      refine repr_iw (log_small h4 (by omega)) ?_
      rcases h3 with rfl | rfl <;> decide +kernel
  | _ => exact repr_nw (by decide +kernel)
@[simp] theorem sm_int {i : Int} : sm (.int i) = true := by simp [sm]
@[simp] theorem sm_none : sm .none = true := by simp [sm]
@[simp] theorem sm_bool {b : Bool} : sm (.bool b) = true := by simp [sm]
@[simp] theorem sm_dict {kvs : List (PyData × PyData)} : sm (.dict kvs) = true := by simp [sm]
@[simp] theorem smS_box : sm (.str (Str.ofString "box")) = true := by decide +kernel
@[simp] theorem smS_set : sm (.str (Str.ofString "set")) = true := by decide +kernel
@[simp] theorem smS_pay : sm (.str (Str.ofString "pay")) = true := by decide +kernel
@[simp] theorem smS_stop : sm (.str (Str.ofString "stop")) = true := by decide +kernel
@[simp] theorem smS_if : sm (.str (Str.ofString "if")) = true := by decide +kernel
@[simp] theorem smS_else : sm (.str (Str.ofString "else")) = true := by decide +kernel
@[simp] theorem smS_repeat : sm (.str (Str.ofString "repeat")) = true := by decide +kernel
@[simp] theorem smS_pass : sm (.str (Str.ofString "pass")) = true := by decide +kernel
@[simp] theorem smS_rest : sm (.str (Str.ofString "rest")) = true := by decide +kernel
@[simp] theorem smS_of : sm (.str (Str.ofString "of")) = true := by decide +kernel
@[simp] theorem smS_not : sm (.str (Str.ofString "not")) = true := by decide +kernel
@[simp] theorem smS_program : sm (.str (Str.ofString "program")) = true := by decide +kernel
@[simp] theorem smS_plus : sm (.str (Str.ofString "plus")) = true := by decide +kernel
@[simp] theorem smS_minus : sm (.str (Str.ofString "minus")) = true := by decide +kernel
@[simp] theorem smS_times : sm (.str (Str.ofString "times")) = true := by decide +kernel
@[simp] theorem smS_less : sm (.str (Str.ofString "less")) = true := by decide +kernel
@[simp] theorem smS_n : sm (.str (Str.ofString "n")) = true := by decide +kernel
@[simp] theorem smS_a : sm (.str (Str.ofString "a")) = true := by decide +kernel
@[simp] theorem smS_none : sm (.str (Str.ofString "none")) = true := by decide +kernel
@[simp] theorem smS_Stop : sm (.str (Str.ofString "Stop")) = true := by decide +kernel
@[simp] theorem smS_x : sm (.str (Str.ofString "x")) = true := by decide +kernel
@[simp] theorem smS_Ab : sm (.str (Str.ofString "Ab")) = true := by decide +kernel
@[simp] theorem smS_a_ : sm (.str (Str.ofString "a_")) = true := by decide +kernel
@[simp] theorem smS_abcdefghi : sm (.str (Str.ofString "abcdefghi")) = true := by decide +kernel
@[simp] theorem smS_abcdefgh : sm (.str (Str.ofString "abcdefgh")) = true := by decide +kernel
@[simp] theorem smS_a1 : sm (.str (Str.ofString "a1")) = true := by decide +kernel
@[simp] theorem smS_1a : sm (.str (Str.ofString "1a")) = true := by decide +kernel
@[simp] theorem smS_places : sm (.str (Str.ofString "places")) = true := by decide +kernel
@[simp] theorem smS_weight : sm (.str (Str.ofString "weight")) = true := by decide +kernel
@[simp] theorem smS_rests : sm (.str (Str.ofString "rests")) = true := by decide +kernel
@[simp] theorem smS_comparings : sm (.str (Str.ofString "comparings")) = true := by decide +kernel
@[simp] theorem smS_ : sm (.str (Str.ofString "")) = true := by decide +kernel
@[simp] theorem sz_int {i : Int} : sz (.int i) = 1 := by simp [sz]
@[simp] theorem sz_str {i : Str} : sz (.str i) = 1 := by simp [sz]
@[simp] theorem sz_none : sz .none = 1 := by simp [sz]
@[simp] theorem sz_bool {b : Bool} : sz (.bool b) = 1 := by simp [sz]
@[simp] theorem sz_dict {b : List (PyData × PyData)} : sz (.dict b) = 1 := by simp [sz]
@[simp] theorem sz_lst {xs : List PyData} : sz (.list xs) = 1 + szAll xs := by simp [sz]
/-! ### values -/
def Val (B : Nat) (v : PyData) : Prop := ∃ xs, v = .tuple xs ∧ (∀ x ∈ xs, sm x = true) ∧ szAll xs ≤ B
theorem szAll_rep (n : Nat) (x : PyData) : szAll (List.replicate n x) = n * sz x := by
  induction n with
  | zero => simp
  | succ n ih => rw [List.replicate_succ, szAll_cons, ih, Nat.succ_mul]; omega
/-- a list of data -/
def LP (xs : List PyData) : D := .lst (xs.map .p)
@[simp] theorem lp_isP {xs : List PyData} : (LP xs).isP = false := rfl
@[simp] theorem lp_lock {lk : List Nat} {e : E} {xs : List PyData} : lock lk e (LP xs) = (root e).toList ++ lk := by simp [LP]
@[simp] theorem lp_late {i : Nat} {ε : Env} {xs : List PyData} : late (.var i) (LP xs) ε = match ε[i]? with | some (some d1) => if d1.isP then none else some d1 | _ => none := late_v rfl
@[simp] theorem lp_sink {e : E} {xs : List PyData} : sink e (LP xs) = if (root e).isNone then some (LP xs) else none := by simp [LP]
@[simp] theorem lp_sinks {e : E} {es : List E} {xs : List PyData} {ds : List D} : sinks (e :: es) (LP xs :: ds) = ((root e).isNone && sinks es ds) := by simp [LP]
@[simp] theorem lp_ps {xs : List PyData} : (LP xs).ps? = some xs := by simp [LP]
@[simp] theorem lp_add {xs ys : List PyData} : binop .add (LP xs) (LP ys) = if xs.length + ys.length ≤ sizeLine then some (LP (xs ++ ys)) else none := by simp [LP, D.isP]
@[simp] theorem lp_len {xs : List PyData} : lenV (LP xs) = some xs.length := by simp [LP]
@[simp] theorem mul1 {x : PyData} {k : Int} : binop .mul (.lst [.p x]) (.p (.int k)) = if 0 ≤ k ∧ k ≤ 4000 then some (LP (List.replicate k.toNat x)) else none := by
  have : ((List.replicate k.toNat [D.p x]).flatten) = (List.replicate k.toNat x).map .p := by
    induction k.toNat with
    | zero => rfl
    | succ n ih => simp [List.replicate_succ, ih]
  simp [binop, this, LP]
@[simp] theorem mulT {x : PyData} {k : Int} : binop .mul (.p (.tuple [x])) (.p (.int k)) = if 0 ≤ k ∧ k ≤ 4000 then some (.p (.tuple (List.replicate k.toNat x))) else none := by
  have : ((List.replicate k.toNat [x]).flatten) = (List.replicate k.toNat x) := by
    induction k.toNat with
    | zero => rfl
    | succ n ih => simp [List.replicate_succ, ih]
  simp [binop, this]
@[simp] theorem addT {xs ys : List PyData} : binop .add (.p (.tuple xs)) (.p (.tuple ys)) = if xs.length + ys.length ≤ sizeLine then some (.p (.tuple (xs ++ ys))) else none := rfl
/-! ### law k23 -/
structure HK (T : Tab) : Prop where
  hd : HD T
  part : T.fn "_law_part" = some c__law_part
  up_to : T.fn "_law_up_to" = some c__law_up_to
theorem sm_rep {n : Nat} {x : PyData} (h : sm x = true) : ∀ y ∈ List.replicate n x, sm y = true := by
  intro y hy
  rw [(List.mem_replicate.1 hy).2]
  exact h
theorem rngL_len {lo : Int} {n : Nat} : (rngL lo n).length = n := by simp [rngL]
theorem l_part (H : HK T) {xs : List Int} {k : Int} {b : Nat} (hd : Dk xs k b) (hb : b < 2 ^ 39) {m : Nat} (hm : 3 ≤ m) :
    W (callF T m "_law_part" [false] [deckD xs k]) fun a => ∃ v xs' k', a = (.p v, [deckD xs' k']) ∧ Val 1000 v ∧ Dk xs' k' (b + 20) := by
  rw [run_at H.part (by omega)]
  simp [c__law_part]
  refine (l_draw H.hd hd (by omega) 9 (by omega) (by omega) (by omega)).mono ?_
  rintro _ ⟨i1, xs, k, rfl, a1, b1, hd⟩
  simp [a1, show i1 ≤ 4000 by omega]
  refine (l_draw H.hd hd (by omega) 3 (by omega) (by omega) (by omega)).mono ?_
  rintro _ ⟨i2, xs, k, rfl, a2, b2, hd⟩
  simp [a2, show i2 ≤ 4000 by omega]
  refine ⟨fun _ => ?_, by simp [sizeLine]; omega⟩
  refine (l_draw H.hd hd (by omega) 3 (by omega) (by omega) (by omega)).mono ?_
  rintro _ ⟨i3, xs, k, rfl, a3, b3, hd⟩
  simp [a3, show i3 ≤ 4000 by omega]
  refine ⟨fun _ => ?_, by simp [sizeLine]; omega⟩
  refine (l_draw H.hd hd (by omega) 3 (by omega) (by omega) (by omega)).mono ?_
  rintro _ ⟨i4, xs, k, rfl, a4, b4, hd⟩
  simp [a4, show i4 ≤ 4000 by omega]
  refine ⟨fun _ => ?_, by simp [sizeLine]; omega⟩
  have hv : Val 300 (.tuple (List.replicate i1.toNat (.tuple [.str "pay", .int 1]) ++ (List.replicate i2.toNat (.tuple [.str "set", .str "a", .str "n"]) ++ (List.replicate i3.toNat (.tuple [.str "if", .tuple [.str "less", .str "a", .str "n"], .tuple [], .tuple []]) ++ List.replicate i4.toNat (.tuple [.str "if", .tuple [.str "not", .tuple [.str "rest", .str "a", .int 2, .int 1]], .tuple [.tuple [.str "pay", .str "a"]], .tuple []]))))) := by
    refine ⟨_, rfl, ?_, ?_⟩
    · intro x hx
      simp only [List.mem_append] at hx
      rcases hx with hx | hx | hx | hx
      · exact sm_rep (by decide +kernel) x hx
      · exact sm_rep (by decide +kernel) x hx
      · exact sm_rep (by decide +kernel) x hx
      · exact sm_rep (by decide +kernel) x hx
    · simp only [szAll_app, szAll_rep]
      rw [show sz (.tuple [.str "pay", .int 1]) = 3 by decide +kernel, show sz (.tuple [.str "set", .str "a", .str "n"]) = 4 by decide +kernel, show sz (.tuple [.str "if", .tuple [.str "less", .str "a", .str "n"], .tuple [], .tuple []]) = 8 by decide +kernel,
        show sz (.tuple [.str "if", .tuple [.str "not", .tuple [.str "rest", .str "a", .int 2, .int 1]], .tuple [.tuple [.str "pay", .str "a"]], .tuple []]) = 14 by decide +kernel]
      omega
  generalize ((List.replicate i1.toNat (.tuple [.str "pay", .int 1]) ++ (List.replicate i2.toNat (.tuple [.str "set", .str "a", .str "n"]) ++ (List.replicate i3.toNat (.tuple [.str "if", .tuple [.str "less", .str "a", .str "n"], .tuple [], .tuple []]) ++ List.replicate i4.toNat (.tuple [.str "if", .tuple [.str "not", .tuple [.str "rest", .str "a", .int 2, .int 1]], .tuple [.tuple [.str "pay", .str "a"]], .tuple []])))) : List PyData) = rows at hv ⊢
  refine (l_draw H.hd hd (by omega) 4 (by omega) (by omega) (by omega)).mono ?_
  rintro _ ⟨i5, xs, k, rfl, a5, b5, hd⟩
  simp
  refine ⟨fun _ _ => ?_, by omega⟩
  refine W_for (fun r ε => ∃ xs k v x1 x3, ε = [some (deckD xs k), x1, some (.p v), x3] ∧ r.length ≤ 4 ∧ Val (700 - 50 * r.length) v ∧ Dk xs k (b + 18 - 2 * r.length)) _ _ ⟨_, _, _, _, _, rfl, by rw [rngL_len]; omega, ?_, hd.mono (by rw [rngL_len]; omega)⟩ ?_ ?_
  · obtain ⟨ys, e, h1, h2⟩ := hv
    exact ⟨ys, e, h1, by rw [rngL_len]; omega⟩
  · rintro x r ε ⟨xs, k, v, x1, x3, rfl, g1, ⟨ys, rfl, g2, g3⟩, g4⟩
    simp at g1
    simp only [List.length_cons] at g3 g4
    simp
    refine (l_one H.hd g4 (by omega) _ (by simp) (by simp) (by simp) (by omega)).mono ?_
    rintro _ ⟨c, xs, k, rfl, hc, g4⟩
    have hc : ∃ i, c = .int i := by
      simp at hc
      rcases hc with h | h | h | h <;> exact ⟨_, h⟩
    obtain ⟨c, rfl⟩ := hc
    simp
    refine (l_draw H.hd g4 (by omega) 4 (by omega) (by omega) (by omega)).mono ?_
    rintro _ ⟨i, xs, k, rfl, _, _, g4⟩
    simp
    have s1 : sm (.str "repeat") = true := by decide +kernel
    have s2 : sm (.str "if") = true := by decide +kernel
    have s3 : sm (.str "less") = true := by decide +kernel
    have s4 : sm (.str "n") = true := by decide +kernel
    refine ⟨fun _ => .mk ⟨_, _, _, _, _, rfl, by omega, ⟨_, rfl, ?_, ?_⟩, g4.mono (by omega)⟩, fun _ => .mk ⟨_, _, _, _, _, rfl, by omega, ⟨_, rfl, ?_, ?_⟩, g4.mono (by omega)⟩⟩
    · simp [s1, s2, s3, s4]
      exact g2
    · simp [sz]
      omega
    · simp [s1, s2, s3, s4]
      exact g2
    · simp [sz]
      omega
  · rintro ε ⟨xs, k, v, x1, x3, rfl, g1, ⟨ys, rfl, g2, g3⟩, g4⟩
    simp
    exact ⟨_, _, _, ⟨rfl, rfl⟩, ⟨_, rfl, g2, by simp at g3; omega⟩, g4.mono (by simp)⟩
end Wh


set_option Elab.async false
set_option linter.all false
set_option maxRecDepth 100000
set_option maxHeartbeats 4000000
namespace Wh
open PySem PySem.Spec PyProof.Rows L2 Wh.C
variable {T : Tab}
/-! ### places -/
structure HPl (T : Tab) : Prop where
  blocks_of : T.fn "blocks_of" = some c_blocks_of
  places_in : T.fn "places_in" = some c_places_in
  block_places : T.fn "block_places" = some c_block_places
/-- blocks_of needs no more than its own text -/
theorem s_blocks_of' (H : T.fn "blocks_of" = some c_blocks_of) (w : Str) (xs : List PyData) {m : Nat} (hm : 1 ≤ m) : callF T m "blocks_of" [false] [.p (.tuple (.str w :: xs))] = some (.p (.list (blks (.tuple (.str w :: xs)))), [.p (.tuple (.str w :: xs))]) := by
  rw [run_at H (by omega)]
  apply W.eq
  have hc : cut (PyData.str w :: xs) (some 2) none = xs.tail := by
    cases xs with
    | nil => rw [cut2_1]; rfl
    | cons => rw [cut2]; rfl
  simp [c_blocks_of, inSeq2, hc, retV, frz, blks]
  by_cases h1 : w = "if"
  · subst h1
    simp [← List.map_tail]
  · by_cases h2 : w = "repeat"
    · subst h2
      simp [← List.map_tail]
    · simp [h1, h2, Ne.symm h1, Ne.symm h2]
theorem cntN_sum (q : Nat) (xs : List PyData) : (xs.map fun x => cntN (q + 1) [x]).sum = cntN (q + 1) xs := by
  simp [cntN]
theorem tup_len {xs : List PyData} (h : szAll xs ≤ 1000000) : xs.length ≤ sizeLine := by
  have := szAll_len xs
  simp only [sizeLine]
  omega
theorem blks_sz {v b : PyData} (hb : b ∈ blks v) : sz b < sz v := by
  rcases blks_cases v with h | ⟨w, t, xs, rfl, h⟩
  · simp [h] at hb
  · rw [h] at hb
    have := mem_sz hb
    simp
    omega
theorem s_places (H : HPl T) : ∀ (q : Nat), (∀ (v : PyData), okS q v = true → sz v ≤ 1000000 → ∀ {m : Nat}, 2 * q + 1 ≤ m → callF T m "places_in" [false] [.p v] = some (.p (.int (cntN q [v])), [.p v])) ∧
    (∀ (xs : List PyData), (∀ x ∈ xs, okS q x = true) → szAll xs ≤ 1000000 → ∀ {m : Nat}, 2 * q + 2 ≤ m → callF T m "block_places" [false] [.p (.tuple xs)] = some (.p (.int (cntN q xs)), [.p (.tuple xs)]))
  | 0 => by
    refine ⟨fun v h => by simp [okS] at h, fun xs hx hl m hm => ?_⟩
    have : xs = [] := by
      cases xs with
      | nil => rfl
      | cons x xs => simpa [okS] using hx x (by simp)
    subst this
    rw [run_at H.block_places (by omega)]
    apply W.eq
    simp [c_block_places, ownOk, comp_nil, intsOf, cntN]
  | q + 1 => by
    have ih := s_places H q
    have hpl : ∀ (v : PyData), okS (q + 1) v = true → sz v ≤ 1000000 → ∀ {m : Nat}, 2 * (q + 1) + 1 ≤ m → callF T m "places_in" [false] [.p v] = some (.p (.int (cntN (q + 1) [v])), [.p v]) := by
      intro v hv hz m hm
      obtain ⟨hs, hk⟩ := okS_succ.1 hv
      obtain ⟨w, zs, hvf⟩ := isStmt_form hs
      have hb := s_blocks_of' H.blocks_of w zs (m := m - 1) (by omega)
      rw [← hvf] at hb
      have hbl := blks_len hs
      rw [run_at H.places_in (by omega)]
      apply W.eq
      simp [c_places_in, hb, ownOk]
      rw [comp_mapP (fun b => .int (cntN q (tItems b)))]
      · have hl : ((blks v).map fun b => PyData.int (cntN q (tItems b))).length ≤ sizeLine := by
          rw [List.length_map]; simp only [sizeLine]; omega
        have hi := intsOf_map (fun b => cntN q (tItems b)) (blks v)
        have hc : cntN (q + 1) [v] = 1 + ((blks v).map fun b => cntN q (tItems b)).sum := by simp [cntN]
        rw [hc]
        generalize ((blks v).map fun b => PyData.int (cntN q (tItems b))) = is at hl hi
        simp [hl, hi]
      · intro b hbm
        obtain ⟨bs, rfl⟩ := tTup_form (blks_tup hs b hbm)
        have h1 := blks_sz hbm
        have := ih.2 bs (fun x hx => hk _ hbm x hx) (by simp at h1; omega) (m := m - 1) (by omega)
        simp [this, tItems]
    refine ⟨hpl, fun xs hx hz m hm => ?_⟩
    rw [run_at H.block_places (by omega)]
    apply W.eq
    simp [c_block_places, ownOk]
    rw [comp_mapP (fun x => .int (cntN (q + 1) [x]))]
    · have hl : (xs.map fun x => PyData.int (cntN (q + 1) [x])).length ≤ sizeLine := by
        rw [List.length_map]; exact tup_len hz
      have hi := intsOf_map (fun x => cntN (q + 1) [x]) xs
      rw [← cntN_sum]
      generalize (xs.map fun x => PyData.int (cntN (q + 1) [x])) = is at hl hi
      simp [hl, hi]
    · intro x hxm
      have h1 := mem_sz hxm
      have := hpl x (hx x hxm) (by omega) (m := m - 1) (by omega)
      simp [this]
end Wh


set_option Elab.async false
set_option linter.all false
set_option maxRecDepth 100000
set_option maxHeartbeats 4000000
namespace Wh
open PySem PySem.Spec PyProof.Rows L2 Wh.C
variable {T : Tab}
theorem l_parts' (H : T.fn "_law_parts" = some c__law_parts_k21) (w : Str) (xs : List PyData) {m : Nat} (hm : 1 ≤ m) : callF T m "_law_parts" [false] [.p (.tuple (.str w :: xs))] = some (.p (.tuple (blks (.tuple (.str w :: xs)))), [.p (.tuple (.str w :: xs))]) := by
  rw [run_at H (by omega)]
  apply W.eq
  have hc : cut (PyData.str w :: xs) (some 2) none = xs.tail := by
    cases xs with
    | nil => rw [cut2_1]; rfl
    | cons => rw [cut2]; rfl
  simp [c__law_parts_k21, inSeq2, hc, blks]
  by_cases h1 : w = "if"
  · subst h1
    simp
  · by_cases h2 : w = "repeat"
    · subst h2
      simp
    · simp [h1, h2, Ne.symm h1, Ne.symm h2]
theorem l_size (H : T.fn "_law_parts" = some c__law_parts_k21) (H2 : T.fn "_law_size" = some c__law_size) : ∀ (q : Nat) (xs : List PyData), (∀ x ∈ xs, okS q x = true) → szAll xs ≤ 1000000 → ∀ {m : Nat}, q + 2 ≤ m → callF T m "_law_size" [false] [.p (.tuple xs)] = some (.p (.int (cntN q xs)), [.p (.tuple xs)])
  | 0, xs, hx, hl, m, hm => by
    have : xs = [] := by
      cases xs with
      | nil => rfl
      | cons x xs => simpa [okS] using hx x (by simp)
    subst this
    rw [run_at H2 (by omega)]
    apply W.eq
    simp [c__law_size, ownOk, comp_nil, intsOf, cntN]
  | q + 1, xs, hx, hz, m, hm => by
    rw [run_at H2 (by omega)]
    apply W.eq
    simp [c__law_size, ownOk]
    rw [comp_mapP (fun x => .int (cntN (q + 1) [x]))]
    · have hl : (xs.map fun x => PyData.int (cntN (q + 1) [x])).length ≤ sizeLine := by
        rw [List.length_map]; exact tup_len hz
      have hi := intsOf_map (fun x => cntN (q + 1) [x]) xs
      rw [← cntN_sum]
      generalize (xs.map fun x => PyData.int (cntN (q + 1) [x])) = is at hl hi
      simp [hl, hi]
    · intro v hvm
      have hzv := mem_sz hvm
      obtain ⟨hs, hk⟩ := okS_succ.1 (hx v hvm)
      obtain ⟨w, zs, hvf⟩ := isStmt_form hs
      have hb := l_parts' H w zs (m := m - 1) (by omega)
      rw [← hvf] at hb
      have hbl := blks_len hs
      apply W.eq
      simp [hb, ownOk]
      rw [comp_mapP (fun b => .int (cntN q (tItems b)))]
      · have hl : ((blks v).map fun b => PyData.int (cntN q (tItems b))).length ≤ sizeLine := by
          rw [List.length_map]; simp only [sizeLine]; omega
        have hi := intsOf_map (fun b => cntN q (tItems b)) (blks v)
        have hc : cntN (q + 1) [v] = 1 + ((blks v).map fun b => cntN q (tItems b)).sum := by simp [cntN]
        rw [hc]
        generalize ((blks v).map fun b => PyData.int (cntN q (tItems b))) = is at hl hi
        simp [hl, hi]
      · intro b hbm
        obtain ⟨bs, rfl⟩ := tTup_form (blks_tup hs b hbm)
        have h1 := blks_sz hbm
        have := l_size H H2 q bs (fun x hx => hk _ hbm x hx) (by simp at h1; omega) (m := m - 1) (by omega)
        simp [this, tItems]
end Wh


set_option Elab.async false
set_option linter.all false
set_option maxRecDepth 100000
set_option maxHeartbeats 4000000
namespace Wh
open PySem PySem.Spec PyProof.Rows L2 Wh.C
variable {T : Tab}
/-! ### a block with another one in the place of one statement -/
/-- a statement with other blocks -/
def withB (v : PyData) (bs : List PyData) : PyData := match v with
  | .tuple (.str w :: t :: xs) => if w = "if" ∨ w = "repeat" then .tuple (.str w :: t :: bs) else v
  | _ => v
def repL (n : PyData → Int) (g : Int → PyData → PyData) (f : PyData → List PyData) : Int → List PyData → List PyData
  | _, [] => []
  | p, x :: xs => (if p = 0 then f x else if 0 < p ∧ p < n x then [g (p - 1) x] else [x]) ++ repL n g f (p - n x) xs
def mapB (n : List PyData → Int) (h : Int → List PyData → List PyData) : Int → List PyData → List PyData
  | _, [] => []
  | p, b :: bs => .tuple (h p (tItems b)) :: mapB n h (p - n (tItems b)) bs
def rep : Nat → (PyData → List PyData) → Int → List PyData → List PyData
  | 0, _, _, xs => xs
  | q + 1, f, p, xs => repL (fun x => cntN (q + 1) [x]) (fun p x => withB x (mapB (cntN q) (rep q f) p (blks x))) f p xs
def repW (q : Nat) (f : PyData → List PyData) (p : Int) (x : PyData) : PyData := withB x (mapB (cntN q) (rep q f) p (blks x))
theorem cntN_nonneg : ∀ (q : Nat) (xs : List PyData), 0 ≤ cntN q xs
  | 0, _ => by simp [cntN]
  | q + 1, [] => by simp [cntN]
  | q + 1, x :: xs => by
    have ih := cntN_nonneg (q + 1) xs
    have : ∀ bs : List PyData, 0 ≤ (bs.map fun b => cntN q (tItems b)).sum := by
      intro bs
      induction bs with
      | nil => simp
      | cons b bs ihb =>
        have := cntN_nonneg q (tItems b)
        simp only [List.map_cons, List.sum_cons]
        omega
    have := this (blks x)
    simp only [cntN, List.map_cons, List.sum_cons] at ih ⊢
    omega
theorem cntN_pos (q : Nat) (x : PyData) : 1 ≤ cntN (q + 1) [x] := by
  have : ∀ bs : List PyData, 0 ≤ (bs.map fun b => cntN q (tItems b)).sum := by
    intro bs
    induction bs with
    | nil => simp
    | cons b bs ihb =>
      have := cntN_nonneg q (tItems b)
      simp only [List.map_cons, List.sum_cons]
      omega
  have := this (blks x)
  simp only [cntN, List.map_cons, List.map_nil, List.sum_cons, List.sum_nil]
  omega
theorem cntN_cons (q : Nat) (x : PyData) (xs : List PyData) : cntN (q + 1) (x :: xs) = cntN (q + 1) [x] + cntN (q + 1) xs := by simp [cntN]
theorem withB_same {v : PyData} (h : isStmt v = true) : withB v (blks v) = v := by
  rcases isStmt_cases h with ⟨x, e, rfl, _⟩ | ⟨e, rfl, _⟩ | ⟨t, y, n, rfl, _⟩ | ⟨c, b, rfl, _⟩ | rfl <;> simp [withB, blks]
/-- a place outside changes nothing -/
theorem rep_out : ∀ (q : Nat) (f : PyData → List PyData) (xs : List PyData) (p : Int), (p < 0 ∨ cntN q xs ≤ p) → rep q f p xs = xs
  | 0, f, xs, p, h => rfl
  | q + 1, f, [], p, h => by simp [rep, repL]
  | q + 1, f, x :: xs, p, h => by
    have hp := cntN_pos q x
    have hn := cntN_nonneg (q + 1) xs
    rw [cntN_cons] at h
    have ih := rep_out (q + 1) f xs (p - cntN (q + 1) [x]) (by omega)
    simp only [rep] at ih
    simp only [rep, repL]
    rw [if_neg (by omega), if_neg (by omega), ih]
    rfl
theorem mapB_out (q : Nat) (f : PyData → List PyData) : ∀ (bs : List PyData) (p : Int), (∀ b ∈ bs, tTup b = true) → (p < 0 ∨ (bs.map fun b => cntN q (tItems b)).sum ≤ p) → mapB (cntN q) (rep q f) p bs = bs
  | [], p, _, h => rfl
  | b :: bs, p, hb, h => by
    obtain ⟨ys, rfl⟩ := tTup_form (hb b (by simp))
    have hn := cntN_nonneg q ys
    have hs : 0 ≤ (bs.map fun b => cntN q (tItems b)).sum := by
      clear h hb
      induction bs with
      | nil => simp
      | cons b bs ihb =>
        have := cntN_nonneg q (tItems b)
        simp only [List.map_cons, List.sum_cons]
        omega
    have ht : tItems (.tuple ys) = ys := rfl
    simp only [List.map_cons, List.sum_cons, ht] at h
    simp only [mapB, ht]
    rw [rep_out q f ys p (by omega), mapB_out q f bs (p - cntN q ys) (fun c hc => hb c (by simp [hc])) (by omega)]
end Wh


set_option Elab.async false
set_option linter.all false
set_option maxRecDepth 100000
set_option maxHeartbeats 4000000
namespace Wh
open PySem PySem.Spec PyProof.Rows L2 Wh.C
variable {T : Tab}
/-! ### the drawn programs of k22 to k29 -/
structure HG (T : Tab) : Prop where
  hd : HD T
  names : T.fn "_law_names" = some c__law_names_k21
  expression : T.fn "_law_expression" = some c__law_expression_k22
  test : T.fn "_law_test" = some c__law_test_k22
  plain : T.fn "_law_plain" = some c__law_plain_k22
  row : T.fn "_law_row" = some c__law_row_k22
  block : T.fn "_law_block" = some c__law_block_k22
  program : T.fn "_law_program" = some c__law_program_k22
/-- names that may stand in a program -/
def NamesOk (ns : List PyData) : Prop := ns.length = 4 ∧ ∀ x ∈ ns, isName x = true
theorem isName_str {x : PyData} (h : isName x = true) : ∃ s, x = .str s ∧ nameOk s = true := by
  cases x <;> simp [isName] at h
  exact ⟨_, rfl, h⟩
theorem nameOk_len {s : Str} (h : nameOk s = true) : s.length ≤ 8 := by
  unfold nameOk at h
  split at h
  · cases h
  · rename_i c r e
    simp at h
    have : s.length = s.cps.toList.length := by simp [Str.length]
    rw [this, e]
    simp
    omega
theorem isName_sm {x : PyData} (h : isName x = true) : sm x = true := by
  obtain ⟨s, rfl, h⟩ := isName_str h
  have := Nat.le_trans (nameOk_len h) (show 8 ≤ sizeLine by decide)
  simpa [sm] using this
theorem isName_sz {x : PyData} (h : isName x = true) : sz x = 1 := by
  obtain ⟨s, rfl, h⟩ := isName_str h
  simp
/-- an expression as it is drawn -/
def ExOk (k : Nat) (v : PyData) : Prop := isExpr k v = true ∧ sm v = true ∧ sz v ≤ 4 ^ k
theorem isExpr_ne {k : Nat} {v : PyData} (h : isName v = true ∨ isWhole v (-99) 99 = true) : isExpr (k + 1) v = true := by
  rcases h with h | h
  · obtain ⟨s, rfl, h'⟩ := isName_str h
    simp [isExpr, h]
  · cases v <;> simp [isWhole] at h
    simp [isExpr, h]
theorem isExpr_times {k : Nat} {a b : PyData} : isExpr (k + 1) (.tuple [.str "times", a, b]) = (isWhole a (-9) 9 && isExpr k b) := by
  rw [isExpr]
  simp
theorem isExpr_op {k : Nat} {w : Str} {a b : PyData} (h : w = "plus" ∨ w = "minus") : isExpr (k + 1) (.tuple [.str w, a, b]) = (isExpr k a && isExpr k b) := by
  rw [isExpr]
  rcases h with rfl | rfl <;> simp
theorem l_expression (H : HG T) {ns : List PyData} (hn : NamesOk ns) : ∀ (e : Nat) {xs : List Int} {k : Int} {b : Nat}, Dk xs k b → b + 4 ^ (e + 2) ≤ 2 ^ 38 → e ≤ 2 → ∀ {m : Nat}, e + 3 ≤ m →
    W (callF T m "_law_expression" [false, false, false] [deckD xs k, .p (.list ns), .p (.int ((e : Int) + 1))]) fun a => ∃ v xs' k', a = (.p v, [deckD xs' k', .p (.list ns), .p (.int ((e : Int) + 1))]) ∧ ExOk (e + 1) v ∧ Dk xs' k' (b + 4 ^ (e + 2))
  | 0, xs, k, b, hd, hb, he, m, hm => by
    rw [run_at H.expression (by omega)]
    simp [c__law_expression_k22]
    refine (l_draw H.hd hd (by omega) 4 (by omega) (by omega) (by omega)).mono ?_
    rintro _ ⟨i, xs, k, rfl, a1, b1, hd⟩
    simp
    refine ⟨fun hi => ?_, fun hi => ⟨fun hi2 => ?_, fun hi2 => by omega⟩⟩
    · refine (l_draw H.hd hd (by omega) 199 (by omega) (by omega) (by omega)).mono ?_
      rintro _ ⟨j, xs, k, rfl, a2, b2, hd⟩
      simp
      refine (l_one H.hd hd (by omega) _ (by simp) (by simp) (by simp) (by omega)).mono ?_
      rintro _ ⟨c, xs, k, rfl, hc, hd⟩
      have hc : ∃ i, c = .int i ∧ -99 ≤ i ∧ i ≤ 99 := by
        simp at hc
        rcases hc with h | h | h | h | h | h | h | h | h <;> exact ⟨_, h, by omega, by omega⟩
      obtain ⟨c, rfl, c1, c2⟩ := hc
      simp
      exact ⟨_, _, _, ⟨rfl, rfl⟩, ⟨isExpr_ne (.inr (by simp; omega)), by simp, by simp⟩, hd.mono (by omega)⟩
    · refine (l_oneP H.hd hd (by omega) ns (by rw [hn.1]; omega) (by rw [hn.1]; omega) (by omega)).mono ?_
      rintro _ ⟨c, xs, k, rfl, hc, hd⟩
      simp
      have := hn.2 c hc
      exact ⟨_, _, _, ⟨rfl, rfl⟩, ⟨isExpr_ne (.inl this), isName_sm this, by rw [isName_sz this]; omega⟩, hd.mono (by omega)⟩
  | e + 1, xs, k, b, hd, hb, he, m, hm => by
    rw [run_at H.expression (by omega)]
    have ih := fun {xs : List Int} {k : Int} {b : Nat} (hd : Dk xs k b) (hb : b + 4 ^ (e + 2) ≤ 2 ^ 38) => l_expression H hn e hd hb (by omega) (m := m - 1) (by omega)
    have hk : (1 : Int) < (e : Int) + 1 + 1 := by omega
    simp [c__law_expression_k22, hk]
    have hpow : (4 : Nat) ^ (e + 1 + 2) = 4 * 4 ^ (e + 2) := by rw [Nat.pow_succ, Nat.mul_comm]
    have hpow2 : 16 ≤ (4 : Nat) ^ (e + 2) := by
      rw [Nat.pow_add]
      have := Nat.pow_pos (n := e) (show 0 < 4 by omega)
      omega
    have hpow3 : (4 : Nat) ^ (e + 1 + 1) = 4 * 4 ^ (e + 1) := by rw [Nat.pow_succ, Nat.mul_comm]
    have hpow4 : 4 ≤ (4 : Nat) ^ (e + 1) := by
      rw [Nat.pow_add]
      have := Nat.pow_pos (n := e) (show 0 < 4 by omega)
      omega
    refine (l_draw H.hd hd (by omega) 7 (by omega) (by omega) (by omega)).mono ?_
    rintro _ ⟨i, xs, k, rfl, a1, b1, hd⟩
    simp
    refine ⟨fun hi => ?_, fun hi => ⟨fun hi2 => ?_, fun hi2 => ⟨fun hi3 => ?_, fun hi3 => ?_⟩⟩⟩
    · refine (l_draw H.hd hd (by omega) 199 (by omega) (by omega) (by omega)).mono ?_
      rintro _ ⟨j, xs, k, rfl, a2, b2, hd⟩
      simp
      refine (l_one H.hd hd (by omega) _ (by simp) (by simp) (by simp) (by omega)).mono ?_
      rintro _ ⟨c, xs, k, rfl, hc, hd⟩
      have hc : ∃ i, c = .int i ∧ -99 ≤ i ∧ i ≤ 99 := by
        simp at hc
        rcases hc with h | h | h | h | h | h | h | h | h <;> exact ⟨_, h, by omega, by omega⟩
      obtain ⟨c, rfl, c1, c2⟩ := hc
      simp
      exact ⟨_, _, _, ⟨rfl, rfl⟩, ⟨isExpr_ne (.inr (by simp; omega)), by simp, by simp; omega⟩, hd.mono (by omega)⟩
    · refine (l_oneP H.hd hd (by omega) ns (by rw [hn.1]; omega) (by rw [hn.1]; omega) (by omega)).mono ?_
      rintro _ ⟨c, xs, k, rfl, hc, hd⟩
      simp
      have := hn.2 c hc
      exact ⟨_, _, _, ⟨rfl, rfl⟩, ⟨isExpr_ne (.inl this), isName_sm this, by rw [isName_sz this]; omega⟩, hd.mono (by omega)⟩
    · refine (l_one H.hd hd (by omega) _ (by simp) (by simp) (by simp) (by omega)).mono ?_
      rintro _ ⟨c, xs, k, rfl, hc, hd⟩
      have hc : ∃ i, c = .int i ∧ -9 ≤ i ∧ i ≤ 9 := by
        simp at hc
        rcases hc with h | h | h | h | h | h | h | h | h <;> exact ⟨_, h, by omega, by omega⟩
      obtain ⟨c, rfl, c1, c2⟩ := hc
      simp
      refine (ih hd (by omega)).mono ?_
      rintro _ ⟨v, xs, k, rfl, hv, hd⟩
      simp
      refine ⟨_, _, _, ⟨rfl, rfl⟩, ⟨?_, ?_, ?_⟩, hd.mono (by omega)⟩
      · rw [isExpr_times, hv.1]
        simp
        omega
      · simpa using hv.2.1
      · have := hv.2.2
        simp
        omega
    · refine (ih hd (by omega)).mono ?_
      rintro _ ⟨v, xs, k, rfl, hv, hd⟩
      simp
      have hw : ∃ w : Str, (w = "plus" ∨ w = "minus") ∧ atI [D.p (PyData.str "plus"), D.p (PyData.str "minus")] (i % 2) = some (.p (.str w)) := by
        have : i % 2 = 0 ∨ i % 2 = 1 := by omega
        rcases this with h | h <;> rw [h]
        · exact ⟨_, .inl rfl, by simp⟩
        · exact ⟨_, .inr rfl, by simp⟩
      obtain ⟨w, hw, hat⟩ := hw
      simp [hat]
      refine (ih hd (by omega)).mono ?_
      rintro _ ⟨v2, xs, k, rfl, hv2, hd⟩
      simp
      refine ⟨_, _, _, ⟨rfl, rfl⟩, ⟨?_, ?_, ?_⟩, hd.mono (by omega)⟩
      · rw [isExpr_op hw, hv.1, hv2.1]
        rfl
      · rcases hw with rfl | rfl <;> simp [hv.2.1, hv2.2.1]
      · have := hv.2.2
        have := hv2.2.2
        simp
        omega
end Wh


set_option Elab.async false
set_option linter.all false
set_option maxRecDepth 100000
set_option maxHeartbeats 4000000
namespace Wh
open PySem PySem.Spec PyProof.Rows L2 Wh.C
variable {T : Tab}
theorem l_oneS (H : HD T) {xs : List Int} {k : Int} {b : Nat} (hd : Dk xs k b) (hb : b < 2 ^ 40) (s : Str) (h2 : 0 < s.length) (h3 : s.length < 10000) {m : Nat} (hm : 2 ≤ m) :
    W (callF T m "_law_one" [false, false] [deckD xs k, .p (.str s)]) fun a => ∃ c xs' k', a = (.p (.str ⟨#[c]⟩), [deckD xs' k', .p (.str s)]) ∧ c ∈ s.cps.toList ∧ Dk xs' k' (b + 1) := by
  rw [run_at H.one (by omega)]
  have hs : s.length ≤ sizeLine := by simp [sizeLine]; omega
  simp [c__law_one, len_s hs]
  refine (l_draw H hd hb s.length (by omega) (by omega) (by omega)).mono ?_
  rintro _ ⟨i, xs', k', rfl, a1, a2, a3⟩
  have hl : s.length = s.cps.toList.length := by simp [Str.length]
  obtain ⟨x, hdd⟩ : ∃ d, s.cps.toList[i.toNat]? = some d := ⟨_, List.getElem?_eq_getElem (by omega)⟩
  have hmem := List.mem_of_getElem? hdd
  have hat : atI s.cps.toList i = some x := by
    simp only [atI, ixN]
    rw [if_pos a1, if_pos (by omega)]
    simpa using hdd
  simp [ix_s hs, hat]
  exact ⟨_, _, _, ⟨rfl, rfl⟩, by simpa using hmem, a3⟩
theorem glued_fold : ∀ (cs : List Nat) (acc : Array Nat), ((cs.map fun c => (⟨#[c]⟩ : Str)).foldl (fun acc p => acc ++ (Str.ofString "").cps ++ p.cps) acc).toList = acc.toList ++ cs
  | [], acc => by simp
  | c :: cs, acc => by
    have h0 : (Str.ofString "").cps = #[] := by decide +kernel
    simp only [List.map_cons, List.foldl_cons]
    rw [glued_fold cs]
    simp [h0]
theorem glued_one (cs : List Nat) : (Txt.join (Str.ofString "") (cs.map fun c => (⟨#[c]⟩ : Str))).cps.toList = cs := by
  show (Builtin.Str.glued (Str.ofString "") (cs.map fun c => (⟨#[c]⟩ : Str))).cps.toList = cs
  unfold Builtin.Str.glued
  cases cs with
  | nil => simp; rfl
  | cons c cs =>
    simp only [List.map_cons, List.drop_succ_cons, List.drop_zero, List.headD_cons]
    rw [glued_fold]
    simp
theorem kept_free : ∀ s ∈ keptS, ∀ c ∈ s.cps.toList, c ≠ 113 ∧ c ≠ 118 ∧ c ≠ 122 := by decide +kernel
theorem not_kept {s : Str} {c : Nat} (hc : c ∈ s.cps.toList) (h : c = 113 ∨ c = 118 ∨ c = 122) : isKept s = false := by
  rw [← Bool.not_eq_true]
  intro hk
  simp only [isKept, List.any_eq_true, decide_eq_true_eq] at hk
  obtain ⟨x, hx, rfl⟩ := hk
  have := kept_free x hx c hc
  omega
theorem name_made {a b : List Nat} {c : Nat} {s : Str} (hs : s.cps.toList = a ++ [c] ++ b) (ha : ∀ x ∈ a, x ∈ letters.cps.toList) (hb : ∀ x ∈ b, x ∈ signs.cps.toList) (hc : c = 113 ∨ c = 118 ∨ c = 122) (hl : a.length + b.length ≤ 7) : nameOk s = true := by
  have hk : isKept s = false := not_kept (c := c) (by rw [hs]; simp) hc
  have hcl : c ∈ letters.cps.toList := by
    rcases hc with rfl | rfl | rfl <;> decide +kernel
  have hall : ∀ x ∈ s.cps.toList, x ∈ signs.cps.toList := by
    rw [hs]
    intro x hx
    simp only [List.mem_append, List.mem_singleton] at hx
    rcases hx with (h | rfl) | h
    · exact let_sig x (ha x h)
    · exact let_sig _ hcl
    · exact hb x h
  unfold nameOk
  cases a with
  | nil =>
    simp only [List.nil_append, List.singleton_append] at hs
    rw [hs] at hall ⊢
    simp only [hk, Bool.not_false, Bool.and_true, Bool.and_eq_true, decide_eq_true_eq, List.all_eq_true]
    simp only [List.length_nil] at hl
    exact ⟨⟨by omega, hcl⟩, hall⟩
  | cons d a =>
    simp only [List.cons_append] at hs
    rw [hs] at hall ⊢
    simp only [hk, Bool.not_false, Bool.and_true, Bool.and_eq_true, decide_eq_true_eq, List.all_eq_true]
    simp only [List.length_cons] at hl
    refine ⟨⟨?_, ha d (by simp)⟩, hall⟩
    simp
    omega
def wordsL : List PyData := [.str "turns", .str "items", .str "total", .str "plus", .str "less", .str "times", .str "minus", .str "worth", .str "signs", .str "rows", .str "none", .str "place"]
theorem words_names : ∀ x ∈ wordsL, isName x = true := by decide +kernel
theorem b_adds {x y : Str} (h : x.length + y.length ≤ sizeLine) : binop .add (.p (.str x)) (.p (.str y)) = some (.p (.str (x ++ y))) := by
  simp [binop, strCat, h]
theorem letdig : binop .add (.p (.str (Str.ofString "abcdefghijklmnopqrstuvwxyz"))) (.p (.str (Str.ofString "0123456789"))) = some (.p (.str signs)) := by
  rw [b_adds (by decide +kernel)]
  have : Str.ofString "abcdefghijklmnopqrstuvwxyz" ++ Str.ofString "0123456789" = signs := by decide +kernel
  rw [this]
theorem cut_mem {α : Type} {xs : List α} {lo hi : Option Int} {x : α} (h : x ∈ cut xs lo hi) : x ∈ xs := List.mem_of_mem_drop (List.mem_of_mem_take h)
theorem cut_len {α : Type} {xs : List α} {i j : Nat} (h : j ≤ xs.length) (h2 : i ≤ j) : (cut xs (some (i : Int)) (some (j : Int))).length = j - i := by
  unfold cut
  rw [HT.sIx_nat, HT.sIx_nat, List.length_take, List.length_drop]
  omega
/-- letters that are drawn -/
theorem lp_map {xs : List PyData} : D.lst (xs.map .p) = LP xs := rfl
theorem strsOf_map (xs : List Str) : strsOf (xs.map .str) = some xs := by
  induction xs with
  | nil => rfl
  | cons x xs ih => simp [strsOf, ih]
theorem join_cs {cs : List Nat} (h : cs.length ≤ 100) : bmV "join" (.p (.str (Str.ofString ""))) [.lst (cs.map fun c => .p (.str ⟨#[c]⟩))] = some (.p (.str (Txt.join (Str.ofString "") (cs.map fun c => (⟨#[c]⟩ : Str))))) := by
  have h1 : (D.lst (cs.map fun c => D.p (PyData.str ⟨#[c]⟩))).ps? = some ((cs.map fun c => (⟨#[c]⟩ : Str)).map .str) := by
    rw [ps_d, ← allP_map2]
    simp [Function.comp_def]
  have h0 : (Str.ofString "").length = 0 := by decide +kernel
  have h2 : ((cs.map fun c => (⟨#[c]⟩ : Str)).map (·.length)).sum = cs.length := by
    clear h1 h
    induction cs with
    | nil => rfl
    | cons c cs ih => simp [Str.length] at ih ⊢; omega
  simp only [bmV, h1, Option.bind_some, strsOf_map, if_true]
  rw [if_pos]
  rw [h2, h0]
  simp
  omega
def KeepR (I : List PyData → List D → Env → Prop) (r : List PyData) (ds : List D) (ε : Env) (h : HideT I := .mk) : Prop := I r ds ε
theorem KeepR.mk {I : List PyData → List D → Env → Prop} {r : List PyData} {ds : List D} {ε : Env} {h : HideT I} (x : I r ds ε) : KeepR I r ds ε h := x
theorem W_compR {Q : List D × Env → Prop} {f : PyData → Env → Option (Option D × Env)} {h : HideT f} {hh : HideT Q} (I : List PyData → List D → Env → Prop) : ∀ (xs : List PyData) (ε : Env) (ds0 : List D), I xs ds0 ε →
    (∀ x r ds ε, I (x :: r) ds ε → W (f x ε) fun a => KeepR I r (ds ++ a.1.toList) a.2) → (∀ ds ε, I [] (ds0 ++ ds) ε → Q (ds, ε)) → W (compH f xs ε h) Q hh
  | [], ε, ds0, hi, _, hq => by
    rw [compH, compLoop, W_some]
    exact hq [] ε (by simpa using hi)
  | x :: xs, ε, ds0, hi, ht, hq => by
    rw [compH, compLoop, W_bind]
    refine (ht x xs ds0 ε hi).mono fun r hr => ?_
    rw [W_map]
    refine W_compR (h := h) I xs r.2 _ hr ht fun ds ε' h => ?_
    exact hq _ _ (by simpa using h)
theorem cut_map {α β : Type} (f : α → β) (xs : List α) (lo hi : Option Int) : cut (xs.map f) lo hi = (cut xs lo hi).map f := by
  unfold cut
  simp [List.map_take, List.map_drop]
@[simp] theorem lp_slc {xs : List PyData} {lo hi : Option Int} : slcV (LP xs) lo hi = some (LP (cut xs lo hi)) := by
  simp [LP, slcV, D.isP, cut_map]
@[simp] theorem lp_addc {x : PyData} {ys : List PyData} : binop .add (.lst [.p x]) (LP ys) = if 1 + ys.length ≤ sizeLine then some (LP (x :: ys)) else none := by
  simp [LP, D.isP]
@[simp] theorem lp_fz {xs : List PyData} : (LP xs).fz = .p (.list xs) := by simp [LP]
def chD (c : Nat) : D := .p (.str ⟨#[c]⟩)
theorem l_names' (H : HD T) (Hn : T.fn "_law_names" = some c__law_names_k21) {xs : List Int} {k : Int} {b : Nat} (hd : Dk xs k b) (hb : b < 2 ^ 38) {m : Nat} (hm : 3 ≤ m) :
    W (callF T m "_law_names" [false] [deckD xs k]) fun a => ∃ ns xs' k', a = (.p (.list ns), [deckD xs' k']) ∧ NamesOk ns ∧ Dk xs' k' (b + 100) := by
  rw [run_at Hn (by omega)]
  simp [c__law_names_k21, letdig]
  refine (l_draw H hd (by omega) 60 (by omega) (by omega) (by omega)).mono ?_
  rintro _ ⟨i, xs, k, rfl, a1, b1, hd⟩
  simp
  refine (l_one H hd (by omega) _ (by simp) (by simp) (by simp) (by omega)).mono ?_
  rintro _ ⟨c, xs, k, rfl, hc, hd⟩
  have hc : ∃ i, c = .int i ∧ 0 ≤ i ∧ i ≤ 7 := by
    simp at hc
    rcases hc with h | h | h | h | h | h | h <;> exact ⟨_, h, by omega, by omega⟩
  obtain ⟨c, rfl, c1, c2⟩ := hc
  simp
  rw [show D.lst [D.p (PyData.str (Str.ofString "turns")), D.p (PyData.str (Str.ofString "items")), D.p (PyData.str (Str.ofString "total")), D.p (PyData.str (Str.ofString "plus")), D.p (PyData.str (Str.ofString "less")), D.p (PyData.str (Str.ofString "times")), D.p (PyData.str (Str.ofString "minus")), D.p (PyData.str (Str.ofString "worth")), D.p (PyData.str (Str.ofString "signs")), D.p (PyData.str (Str.ofString "rows")), D.p (PyData.str (Str.ofString "none")), D.p (PyData.str (Str.ofString "place"))] = LP wordsL from rfl]
  refine ⟨fun hi => ?_, fun hi => ⟨fun _ _ => ?_, by omega⟩⟩
  · have hl : (cut wordsL (some i) (some (i + 3))).length = 3 := by
      obtain ⟨n, rfl⟩ : ∃ n : Nat, i = n := ⟨i.toNat, by omega⟩
      have : wordsL.length = 12 := rfl
      exact (cut_len (xs := wordsL) (i := n) (j := n + 3) (by omega) (by omega)).trans (by omega)
    simp [hl, retV, frz]
    refine ⟨_, _, _, ⟨rfl, rfl⟩, ⟨by simp [hl], ?_⟩, hd.mono (by omega)⟩
    intro x hx
    rcases List.mem_cons.1 hx with rfl | hx
    · decide +kernel
    · exact words_names x (cut_mem hx)
  · simp [ownOk]
    refine W_compR (fun r ds ε => ∃ cs xs k, ds = cs.map chD ∧ ε = [some (deckD xs k), some (.p (.str letters)), some (.p (.str signs)), some (LP wordsL), some (.p (.int i)), some (.p (.int c)), none, none, none] ∧ r.length + cs.length = c.toNat ∧ (∀ x ∈ cs, x ∈ letters.cps.toList) ∧ Dk xs k (b + 2 + cs.length)) _ _ [] ⟨[], xs, k, rfl, rfl, by simp [rngL_len], by simp, hd.mono (by omega)⟩ ?_ ?_
    · rintro x r ds ε ⟨cs, xs, k, rfl, rfl, e1, e2, hd⟩
      simp only [List.length_cons] at e1
      simp
      refine (l_oneS H hd (by omega) letters (by decide +kernel) (by decide +kernel) (by omega)).mono ?_
      rintro _ ⟨d, xs, k, rfl, hdm, hd⟩
      simp
      refine .mk ⟨cs ++ [d], xs, k, by simp [chD], rfl, by simp; omega, ?_, hd.mono (by simp; omega)⟩
      intro x hx
      rcases List.mem_append.1 hx with h | h
      · exact e2 x h
      · rw [List.mem_singleton.1 h]; exact hdm
    · rintro ds ε ⟨cs, xs, k, e0, rfl, e1, e2, hd⟩
      simp only [List.nil_append] at e0
      subst e0
      have hcs : cs.length ≤ 7 := by simp at e1; omega
      have hj : bmV "join" (.p (.str (Str.ofString ""))) [.lst (cs.map chD)] = _ := join_cs (by omega)
      have hbl : cs.length ≤ sizeLine := by simp [sizeLine]; omega
      have hcs' := glued_one cs
      generalize Txt.join (Str.ofString "") (cs.map fun c => (⟨#[c]⟩ : Str)) = before at hj hcs'
      simp [hj, hbl]
      refine (l_draw H hd (by omega) (8 - c) (by omega) (by omega) (by omega)).mono ?_
      rintro _ ⟨n, xs, k, rfl, n1, n2, hd⟩
      simp [ownOk]
      refine ⟨fun _ _ => ?_, by omega⟩
      refine W_compR (fun r ds ε => ∃ cs2 xs k, ds = cs2.map chD ∧ ε = [some (deckD xs k), some (.p (.str letters)), some (.p (.str signs)), some (LP wordsL), some (.p (.int i)), some (.p (.int c)), some (.p (.str before)), none, none] ∧ r.length + cs2.length = n.toNat ∧ (∀ x ∈ cs2, x ∈ signs.cps.toList) ∧ Dk xs k (b + 3 + cs.length + cs2.length)) _ _ [] ⟨[], xs, k, rfl, rfl, by simp [rngL_len], by simp, hd.mono (by simp; omega)⟩ ?_ ?_
      · rintro x r ds ε ⟨cs2, xs, k, rfl, rfl, f1, f2, hd⟩
        simp only [List.length_cons] at f1
        simp
        refine (l_oneS H hd (by omega) signs (by decide +kernel) (by decide +kernel) (by omega)).mono ?_
        rintro _ ⟨d, xs, k, rfl, hdm, hd⟩
        simp
        refine .mk ⟨cs2 ++ [d], xs, k, by simp [chD], rfl, by simp; omega, ?_, hd.mono (by simp; omega)⟩
        intro x hx
        rcases List.mem_append.1 hx with h | h
        · exact f2 x h
        · rw [List.mem_singleton.1 h]; exact hdm
      · rintro ds ε ⟨cs2, xs, k, e0, rfl, f1, f2, hd⟩
        simp only [List.nil_append] at e0
        subst e0
        have hcs2 : cs.length + cs2.length ≤ 7 := by simp at e1 f1; omega
        have hj2 : bmV "join" (.p (.str (Str.ofString ""))) [.lst (cs2.map chD)] = _ := join_cs (by omega)
        have hbl2 : cs2.length ≤ sizeLine := by simp [sizeLine]; omega
        have hcs2' := glued_one cs2
        generalize Txt.join (Str.ofString "") (cs2.map fun c => (⟨#[c]⟩ : Str)) = behind at hj2 hcs2'
        simp [hj2, hbl2, ownOk]
        have hq : (Str.ofString "qvz").cps.toList = [113, 118, 122] := by decide +kernel
        have hqs : (Str.ofString "qvz").length ≤ sizeLine := by decide +kernel
        have q0 : getIx (.p (.str (Str.ofString "qvz"))) (.p (.int 0)) = some (.p (.str ⟨#[113]⟩)) := by rw [ix_s hqs, hq]; simp
        have q1 : getIx (.p (.str (Str.ofString "qvz"))) (.p (.int 1)) = some (.p (.str ⟨#[118]⟩)) := by rw [ix_s hqs, hq]; simp
        have q2 : getIx (.p (.str (Str.ofString "qvz"))) (.p (.int 2)) = some (.p (.str ⟨#[122]⟩)) := by rw [ix_s hqs, hq]; simp
        have l1 : before.length = cs.length := by
          have : before.length = before.cps.toList.length := by simp [Str.length]
          rw [this, hcs']
        have l2 : behind.length = cs2.length := by
          have : behind.length = behind.cps.toList.length := by simp [Str.length]
          rw [this, hcs2']
        have j1 : ∀ c : Nat, binop .add (.p (.str before)) (.p (.str ⟨#[c]⟩)) = some (.p (.str (before ++ ⟨#[c]⟩))) := fun c => b_adds (by
          have : (⟨#[c]⟩ : Str).length = 1 := rfl
          rw [this, l1]; simp [sizeLine]; omega)
        have j2 : ∀ c : Nat, binop .add (.p (.str (before ++ ⟨#[c]⟩))) (.p (.str behind)) = some (.p (.str (before ++ ⟨#[c]⟩ ++ behind))) := fun c => b_adds (by
          have : (⟨#[c]⟩ : Str).length = 1 := rfl
          rw [Str.length_append, this, l1, l2]; simp [sizeLine]; omega)
        have hn : ∀ c : Nat, c = 113 ∨ c = 118 ∨ c = 122 → isName (.str (before ++ ⟨#[c]⟩ ++ behind)) = true := fun c hc => by
          refine name_made (a := cs) (b := cs2) (c := c) ?_ e2 f2 hc hcs2
          show (before.cps ++ #[c] ++ behind.cps).toList = _
          simp [hcs', hcs2']
        simp [show rngL 0 3 = [.int 0, .int 1, .int 2] from rfl, comp_cons, comp_nil, q0, q1, q2, j1, j2, retV, frz, D.fz, D.toP, toPs]
        refine ⟨_, _, _, ⟨rfl, rfl⟩, ⟨rfl, ?_⟩, hd.mono (by omega)⟩
        intro x hx
        simp only [List.mem_cons, List.not_mem_nil, or_false] at hx
        rcases hx with rfl | rfl | rfl | rfl
        · decide +kernel
        · exact hn 113 (.inl rfl)
        · exact hn 118 (.inr (.inl rfl))
        · exact hn 122 (.inr (.inr rfl))
theorem l_names (H : HG T) {xs : List Int} {k : Int} {b : Nat} (hd : Dk xs k b) (hb : b < 2 ^ 38) {m : Nat} (hm : 3 ≤ m) :
    W (callF T m "_law_names" [false] [deckD xs k]) fun a => ∃ ns xs' k', a = (.p (.list ns), [deckD xs' k']) ∧ NamesOk ns ∧ Dk xs' k' (b + 100) := l_names' H.hd H.names hd hb hm
end Wh


set_option Elab.async false
set_option linter.all false
set_option maxRecDepth 100000
set_option maxHeartbeats 4000000
namespace Wh
open PySem PySem.Spec PyProof.Rows L2 Wh.C
variable {T : Tab}
theorem isTest_succ : ∀ {k : Nat} {v : PyData}, isTest k v = true → isTest (k + 1) v = true ∧ bareW (k + 1) v = bareW k v := by
  intro k
  induction k with
  | zero =>
    intro v h
    obtain ⟨w, xs, rfl, hn⟩ := isTest_form h
    have hw : w ≠ "not" := fun e => by obtain ⟨k', _, h, _⟩ := hn e; omega
    refine ⟨?_, by rw [bareW_else hw, bareW_else hw]⟩
    simp only [isTest, testBy] at h ⊢
    simpa [hw] using h
  | succ k ih =>
    intro v h
    obtain ⟨w, xs, rfl, hn⟩ := isTest_form h
    by_cases hw : w = "not"
    · subst hw
      obtain ⟨k', t, e, rfl, ht⟩ := hn rfl
      obtain rfl : k = k' := by omega
      have := ih ht
      refine ⟨?_, ?_⟩
      · rw [isTest]
        simp [testBy, one1, this.1]
      · rw [bareW_not, bareW_not, this.2]
    · refine ⟨?_, by rw [bareW_else hw, bareW_else hw]⟩
      simp only [isTest, testBy] at h ⊢
      simpa [hw] using h
/-- a test as it is drawn -/
def TsOk (k : Nat) (v : PyData) (w : Str) : Prop := isTest k v = true ∧ bareW k v = w ∧ sm v = true
theorem TsOk.succ {k : Nat} {v : PyData} {w : Str} (h : TsOk k v w) : TsOk (k + 1) v w := by
  obtain ⟨h1, h2, h3⟩ := h
  have := isTest_succ h1
  exact ⟨this.1, this.2.trans h2, h3⟩
theorem TsOk.not {k : Nat} {v : PyData} {w : Str} (h : TsOk k v w) : TsOk (k + 1) (.tuple [.str "not", v]) w := by
  obtain ⟨h1, h2, h3⟩ := h
  refine ⟨?_, by rw [bareW_not, h2], by simp [h3]⟩
  rw [isTest]
  simp [testBy, one1, h1]
def roomD (a b c d : Int) : D := .lst [.p (.int a), .p (.int b), .p (.int c), .p (.int d)]
def TestRes (t c d c' d' : Int) (v : PyData) : Prop := (v = .tuple [] ∧ c' = c ∧ d' = d) ∨ (v ≠ .tuple [] ∧ sz v ≤ 200 ∧ ((TsOk 2 v "rest" ∧ c' = c - t ∧ 0 ≤ c' ∧ d' = d) ∨ (TsOk 2 v "less" ∧ d' = d - t ∧ 0 ≤ d' ∧ c' = c)))
theorem rest_ok {e : PyData} {b r : Int} (he : ExOk 3 e) (h1 : 2 ≤ b) (h2 : b ≤ 6) (h3 : 0 ≤ r) (h4 : r < b) : TsOk 0 (.tuple [.str "rest", e, .int b, .int r]) "rest" := by
  refine ⟨?_, by simp [bareW], by simp [he.2.1]⟩
  simp [isTest, testBy, isRestT, he.1, h1, h2]
  omega
theorem less_ok {e f : PyData} (he : isExpr 3 e = true) (hf : isExpr 3 f = true) (h1 : sm e = true) (h2 : sm f = true) : TsOk 0 (.tuple [.str "less", e, f]) "less" := by
  refine ⟨?_, by simp [bareW], by simp [h1, h2]⟩
  simp [isTest, testBy, two3, he, hf]
@[simp] theorem bl_max {i j : Int} : bltV "max" [.p (.int i), .p (.int j)] = some (.p (.int (if j > i then j else i))) := rfl
@[simp] theorem ixN_2 {n : Nat} : ixN (n + 1 + 1 + 1) 2 = some 2 := by simp [ixN]; omega
@[simp] theorem ixN_3 {n : Nat} : ixN (n + 1 + 1 + 1 + 1) 3 = some 3 := by simp [ixN]; omega
theorem nots_loop {Q : Fl × Env → Prop} {f : PyData → Env → Option (Fl × Env)} {h : HideT f} {hh : HideT Q} (e : Option D → D → Env) {w : Str} {v : PyData} (hv : TsOk 0 v w) (hz : sz v ≤ 190) (hne : v ≠ .tuple []) (x8 : Option D) (n : Nat) (hn : n ≤ 2)
    (hf : ∀ x x8 v, f x (e x8 (.p v)) = some (.next, e (some (.p x)) (.p (.tuple [.str "not", v]))))
    (hq : ∀ x8 v, TsOk 2 v w → sz v ≤ 200 → v ≠ .tuple [] → Q (.next, e x8 (.p v))) : W (forH f (rngL 0 n) (e x8 (.p v)) h) Q hh := by
  refine W_for (fun r ε => ∃ x8 v j, ε = e x8 (.p v) ∧ TsOk j v w ∧ j + r.length ≤ 2 ∧ sz v ≤ 200 - 2 * r.length ∧ v ≠ .tuple []) _ _ ⟨x8, v, 0, rfl, hv, by rw [rngL_len]; omega, by rw [rngL_len]; omega, hne⟩ ?_ ?_
  · rintro x r ε ⟨x8, v, j, rfl, h1, h2, h3, h4⟩
    simp only [List.length_cons] at h2 h3
    rw [hf]
    simp
    exact .mk ⟨_, _, j + 1, rfl, h1.not, by omega, by simp; omega, by simp⟩
  · rintro ε ⟨x8, v, j, rfl, h1, h2, h3, h4⟩
    simp only [List.length_nil] at h2 h3
    refine hq _ _ ?_ (by omega) h4
    have : j = 0 ∨ j = 1 ∨ j = 2 := by omega
    rcases this with rfl | rfl | rfl
    · exact h1.succ.succ
    · exact h1.succ
    · exact h1
theorem l_test (H : HG T) {ns : List PyData} (hn : NamesOk ns) {xs : List Int} {k : Int} {b : Nat} (hd : Dk xs k b) (hb : b < 2 ^ 37) (r0 r1 r2 r3 t : Int) {m : Nat} (hm : 7 ≤ m) :
    W (callF T m "_law_test" [false, false, false, false] [deckD xs k, .p (.list ns), roomD r0 r1 r2 r3, .p (.int t)]) fun a => ∃ v xs' k' c' d', a = (.p v, [deckD xs' k', .p (.list ns), roomD r0 r1 c' d', .p (.int t)]) ∧ TestRes t r2 r3 c' d' v ∧ Dk xs' k' (b + 530) := by
  rw [run_at H.test (by omega)]
  have hex := fun {xs : List Int} {k : Int} {b : Nat} (hd : Dk xs k b) (hb : b + 256 ≤ 2 ^ 38) => l_expression H hn 2 hd hb (by omega) (m := m - 1) (by omega)
  simp [c__law_test_k22, roomD]
  refine (l_draw H.hd hd (by omega) 5 (by omega) (by omega) (by omega)).mono ?_
  rintro _ ⟨i, xs, k, rfl, a1, b1, hd⟩
  simp
  refine (l_draw H.hd hd (by omega) 2 (by omega) (by omega) (by omega)).mono ?_
  rintro _ ⟨j, xs, k, rfl, a2, b2, hd⟩
  simp
  refine ⟨fun h1 => ⟨fun h2 => ?_, fun h2 => ?_⟩, fun h1 => ?_⟩
  · skip
    refine (l_draw H.hd hd (by omega) 5 (by omega) (by omega) (by omega)).mono ?_
    rintro _ ⟨q, xs, k, rfl, a3, b3, hd⟩
    simp
    refine (hex hd (by omega)).mono ?_
    rintro _ ⟨e, xs, k, rfl, he, hd⟩
    simp
    refine (l_draw H.hd hd (by omega) (2 + q) (by omega) (by omega) (by omega)).mono ?_
    rintro _ ⟨r, xs, k, rfl, a4, b4, hd⟩
    have hv := rest_ok (b := 2 + q) (r := r) he (by omega) (by omega) (by omega) (by omega)
    have hz : sz (.tuple [.str "rest", e, .int (2 + q), .int r]) ≤ 190 := by
      have := he.2.2
      simp
      omega
    simp
    refine ⟨fun _ _ => ?_, by split <;> omega⟩
    refine nots_loop (fun x8 d => [some (deckD xs k), some (.p (.list ns)), some (.lst [.p (.int r0), .p (.int r1), .p (.int (r2 - t)), .p (.int r3)]), some (.p (.int t)), some (.p (.int (i - 2))), some d, some (.p (.int (2 + q))), none, x8]) hv hz (by simp) none _ (by split <;> omega) ?_ ?_
    · intro x x8 v
      simp
    · intro x8 v h1 h2 h3
      simp
      exact ⟨_, _, _, _, _, ⟨rfl, rfl, rfl, rfl⟩, .inr ⟨h3, h2, .inl ⟨h1, rfl, by omega, rfl⟩⟩, hd.mono (by omega)⟩
  · skip
    refine ⟨fun h3 => ?_, fun h3 => ?_⟩
    · refine (hex hd (by omega)).mono ?_
      rintro _ ⟨e, xs, k, rfl, he, hd⟩
      simp
      refine (l_draw H.hd hd (by omega) 41 (by omega) (by omega) (by omega)).mono ?_
      rintro _ ⟨q, xs, k, rfl, a3, b3, hd⟩
      simp
      refine (hex hd (by omega)).mono ?_
      rintro _ ⟨f, xs, k, rfl, hf, hd⟩
      simp
      refine (l_one H.hd hd (by omega) _ (by simp) (by simp) (by simp) (by omega)).mono ?_
      rintro _ ⟨g, xs, k, rfl, hg, hd⟩
      have hg : isExpr 3 g = true ∧ sm g = true ∧ sz g ≤ 64 := by
        simp at hg
        rcases hg with rfl | rfl
        · exact ⟨isExpr_ne (.inr (by simp; omega)), by simp, by simp⟩
        · exact ⟨hf.1, hf.2.1, hf.2.2⟩
      have hv := less_ok he.1 hg.1 he.2.1 hg.2.1
      have hz : sz (.tuple [.str "less", e, g]) ≤ 190 := by
        have := he.2.2
        have := hg.2.2
        simp
        omega
      simp
      refine ⟨fun _ _ => ?_, by split <;> omega⟩
      refine nots_loop (fun x8 d => [some (deckD xs k), some (.p (.list ns)), some (.lst [.p (.int r0), .p (.int r1), .p (.int r2), .p (.int (r3 - t))]), some (.p (.int t)), some (.p (.int (i - 2))), some d, none, some (.p e), x8]) hv hz (by simp) none _ (by split <;> omega) ?_ ?_
      · intro x x8 v
        simp
      · intro x8 v h1 h2 h3
        simp
        exact ⟨_, _, _, _, _, ⟨rfl, rfl, rfl, rfl⟩, .inr ⟨h3, h2, .inr ⟨h1, rfl, by omega, rfl⟩⟩, hd.mono (by omega)⟩
    · rw [show rngL 0 0 = [] from rfl, for_nil]
      simp
      exact ⟨_, _, _, _, _, ⟨rfl, rfl, rfl, rfl⟩, .inl ⟨rfl, rfl, rfl⟩, hd.mono (by omega)⟩
  · skip
    refine ⟨fun h3 => ?_, fun h3 => ?_⟩
    · refine (hex hd (by omega)).mono ?_
      rintro _ ⟨e, xs, k, rfl, he, hd⟩
      simp
      refine (l_draw H.hd hd (by omega) 41 (by omega) (by omega) (by omega)).mono ?_
      rintro _ ⟨q, xs, k, rfl, a3, b3, hd⟩
      simp
      refine (hex hd (by omega)).mono ?_
      rintro _ ⟨f, xs, k, rfl, hf, hd⟩
      simp
      refine (l_one H.hd hd (by omega) _ (by simp) (by simp) (by simp) (by omega)).mono ?_
      rintro _ ⟨g, xs, k, rfl, hg, hd⟩
      have hg : isExpr 3 g = true ∧ sm g = true ∧ sz g ≤ 64 := by
        simp at hg
        rcases hg with rfl | rfl
        · exact ⟨isExpr_ne (.inr (by simp; omega)), by simp, by simp⟩
        · exact ⟨hf.1, hf.2.1, hf.2.2⟩
      have hv := less_ok he.1 hg.1 he.2.1 hg.2.1
      have hz : sz (.tuple [.str "less", e, g]) ≤ 190 := by
        have := he.2.2
        have := hg.2.2
        simp
        omega
      simp
      refine ⟨fun _ _ => ?_, by split <;> omega⟩
      refine nots_loop (fun x8 d => [some (deckD xs k), some (.p (.list ns)), some (.lst [.p (.int r0), .p (.int r1), .p (.int r2), .p (.int (r3 - t))]), some (.p (.int t)), some (.p (.int (i - 2))), some d, none, some (.p e), x8]) hv hz (by simp) none _ (by split <;> omega) ?_ ?_
      · intro x x8 v
        simp
      · intro x8 v h1 h2 h3
        simp
        exact ⟨_, _, _, _, _, ⟨rfl, rfl, rfl, rfl⟩, .inr ⟨h3, h2, .inr ⟨h1, rfl, by omega, rfl⟩⟩, hd.mono (by omega)⟩
    · rw [show rngL 0 0 = [] from rfl, for_nil]
      simp
      exact ⟨_, _, _, _, _, ⟨rfl, rfl, rfl, rfl⟩, .inl ⟨rfl, rfl, rfl⟩, hd.mono (by omega)⟩
end Wh


set_option Elab.async false
set_option linter.all false
set_option maxRecDepth 100000
set_option maxHeartbeats 4000000
namespace Wh
open PySem PySem.Spec PyProof.Rows L2 Wh.C
variable {T : Tab}
/-- a statement without blocks -/
def PlOk (v : PyData) : Prop := isStmt v = true ∧ blks v = [] ∧ sm v = true ∧ sz v ≤ 200 ∧ own "rest" v = 0 ∧ own "less" v = 0
theorem set_ok {x e : PyData} (hx : isName x = true) (he : isExpr 3 e = true) (hs : sm e = true) (hz : sz e ≤ 64) : PlOk (.tuple [.str "set", x, e]) := by
  refine ⟨by simp [isStmt, st2, hx, he], by simp [blks], by simp [isName_sm hx, hs], ?_, by simp [own], by simp [own]⟩
  have := isName_sz hx
  simp
  omega
theorem pay_ok {e : PyData} (he : isExpr 3 e = true) (hs : sm e = true) (hz : sz e ≤ 64) : PlOk (.tuple [.str "pay", e]) := by
  refine ⟨by simp [isStmt, st1, he], by simp [blks], by simp [hs], ?_, by simp [own], by simp [own]⟩
  simp
  omega
theorem stop_ok : PlOk (.tuple [.str "stop"]) := ⟨by simp [isStmt], by simp [blks], by simp, by simp, by simp [own], by simp [own]⟩
theorem l_plain (H : HG T) {ns : List PyData} (hn : NamesOk ns) {xs : List Int} {k : Int} {b : Nat} (hd : Dk xs k b) (hb : b < 2 ^ 37) {m : Nat} (hm : 7 ≤ m) :
    W (callF T m "_law_plain" [false, false] [deckD xs k, .p (.list ns)]) fun a => ∃ v xs' k', a = (.p v, [deckD xs' k', .p (.list ns)]) ∧ PlOk v ∧ Dk xs' k' (b + 260) := by
  rw [run_at H.plain (by omega)]
  have hex := fun {xs : List Int} {k : Int} {b : Nat} (hd : Dk xs k b) (hb : b + 256 ≤ 2 ^ 38) => l_expression H hn 2 hd hb (by omega) (m := m - 1) (by omega)
  simp [c__law_plain_k22]
  refine (l_draw H.hd hd (by omega) 12 (by omega) (by omega) (by omega)).mono ?_
  rintro _ ⟨i, xs, k, rfl, a1, b1, hd⟩
  simp
  refine (l_oneP H.hd hd (by omega) ns (by rw [hn.1]; omega) (by rw [hn.1]; omega) (by omega)).mono ?_
  rintro _ ⟨x, xs, k, rfl, hx, hd⟩
  have hx := hn.2 x hx
  simp
  refine ⟨fun h1 => ?_, fun h1 => ⟨fun h2 => ?_, fun h2 => ⟨fun h3 => ?_, fun h3 => ?_⟩⟩⟩
  · refine (hex hd (by omega)).mono ?_
    rintro _ ⟨e, xs, k, rfl, he, hd⟩
    simp
    exact ⟨_, _, _, ⟨rfl, rfl⟩, set_ok hx he.1 he.2.1 he.2.2, hd.mono (by omega)⟩
  · exact ⟨_, _, _, ⟨rfl, rfl⟩, set_ok hx (isExpr_ne (.inl hx)) (isName_sm hx) (by rw [isName_sz hx]; omega), hd.mono (by omega)⟩
  · refine (l_draw H.hd hd (by omega) 2 (by omega) (by omega) (by omega)).mono ?_
    rintro _ ⟨j, xs, k, rfl, a2, b2, hd⟩
    simp
    refine ⟨fun h4 => ?_, fun h4 => ?_⟩
    · exact ⟨_, _, _, ⟨rfl, rfl⟩, stop_ok, hd.mono (by omega)⟩
    · refine (hex hd (by omega)).mono ?_
      rintro _ ⟨e, xs, k, rfl, he, hd⟩
      simp
      exact ⟨_, _, _, ⟨rfl, rfl⟩, pay_ok he.1 he.2.1 he.2.2, hd.mono (by omega)⟩
  · refine (hex hd (by omega)).mono ?_
    rintro _ ⟨e, xs, k, rfl, he, hd⟩
    simp
    exact ⟨_, _, _, ⟨rfl, rfl⟩, pay_ok he.1 he.2.1 he.2.2, hd.mono (by omega)⟩
/-- a block as it is drawn: what is counted is taken off the room -/
structure BlOk (q : Nat) (t : Int) (r0 r1 r2 r3 s0 s1 s2 s3 : Int) (vs : List PyData) : Prop where
  ok : ∀ v ∈ vs, okS q v = true
  sm : ∀ v ∈ vs, Wh.sm v = true
  e0 : s0 = r0 - cntN q vs
  e1 : s1 = r1 - t * cntB "weight" q vs
  e2 : s2 = r2 - t * cntB "rest" q vs
  e3 : s3 = r3 - t * cntB "less" q vs
  p0 : 0 ≤ s0
  p1 : 0 ≤ s1
  p2 : 0 ≤ s2
  p3 : 0 ≤ s3
  sz : (szAll vs : Int) ≤ 1000 * cntN q vs
theorem cntN_app (q : Nat) (xs ys : List PyData) : cntN q (xs ++ ys) = cntN q xs + cntN q ys := by cases q <;> simp [cntN]
theorem cntB_app (s : Str) (q : Nat) (xs ys : List PyData) : cntB s q (xs ++ ys) = cntB s q xs + cntB s q ys := by cases q <;> simp [cntB]
theorem cntN_nil (q : Nat) : cntN q [] = 0 := by cases q <;> simp [cntN]
theorem cntB_nil (s : Str) (q : Nat) : cntB s q [] = 0 := by cases q <;> simp [cntB]
theorem BlOk.nil {q : Nat} {t r0 r1 r2 r3 : Int} (h0 : 0 ≤ r0) (h1 : 0 ≤ r1) (h2 : 0 ≤ r2) (h3 : 0 ≤ r3) : BlOk q t r0 r1 r2 r3 r0 r1 r2 r3 [] :=
  ⟨by simp, by simp, by simp [cntN_nil], by simp [cntB_nil], by simp [cntB_nil], by simp [cntB_nil], h0, h1, h2, h3, by simp [cntN_nil]⟩
theorem BlOk.app {q : Nat} {t r0 r1 r2 r3 s0 s1 s2 s3 u0 u1 u2 u3 : Int} {xs ys : List PyData} (a : BlOk q t r0 r1 r2 r3 s0 s1 s2 s3 xs) (b : BlOk q t s0 s1 s2 s3 u0 u1 u2 u3 ys) : BlOk q t r0 r1 r2 r3 u0 u1 u2 u3 (xs ++ ys) := by
  refine ⟨?_, ?_, ?_, ?_, ?_, ?_, b.p0, b.p1, b.p2, b.p3, ?_⟩
  · intro v hv
    rcases List.mem_append.1 hv with h | h
    · exact a.ok v h
    · exact b.ok v h
  · intro v hv
    rcases List.mem_append.1 hv with h | h
    · exact a.sm v h
    · exact b.sm v h
  · rw [cntN_app, b.e0, a.e0]; omega
  · rw [cntB_app, Int.mul_add, b.e1, a.e1]; omega
  · rw [cntB_app, Int.mul_add, b.e2, a.e2]; omega
  · rw [cntB_app, Int.mul_add, b.e3, a.e3]; omega
  · have := a.sz
    have := b.sz
    rw [cntN_app]
    simp
    omega
theorem cntN_one {q : Nat} {v : PyData} : cntN (q + 1) [v] = 1 + ((blks v).map fun b => cntN q (tItems b)).sum := by simp [cntN]
theorem cntB_one {s : Str} {q : Nat} {v : PyData} : cntB s (q + 1) [v] = own s v + ((blks v).map fun b => cntB s q (tItems b)).sum * times v := by simp [cntB]
theorem BlOk.plain {q : Nat} {t r0 r1 r2 r3 : Int} {v : PyData} (hv : PlOk v) (h0 : 1 ≤ r0) (h1 : t ≤ r1) (h2 : 0 ≤ r2) (h3 : 0 ≤ r3) : BlOk (q + 1) t r0 r1 r2 r3 (r0 - 1) (r1 - t) r2 r3 [v] := by
  obtain ⟨a1, a2, a3, a4, a5, a6⟩ := hv
  refine ⟨?_, by simpa using a3, ?_, ?_, ?_, ?_, by omega, by omega, h2, h3, ?_⟩
  · simp [okS_succ, a1, a2]
  · simp [cntN_one, a2]
  · simp [cntB_one, a2, own]
  · simp [cntB_one, a2, a5]
  · simp [cntB_one, a2, a6]
  · simp [cntN_one, a2]
    omega
theorem BlOk.ifs {q : Nat} {t r0 r1 r2 r3 c' d' s0 s1 s2 s3 u0 u1 u2 u3 : Int} {tv : PyData} {ys ns : List PyData} (ht : TestRes t r2 r3 c' d' tv) (hne : tv ≠ .tuple []) (hy : BlOk q t (r0 - 1) (r1 - t) c' d' s0 s1 s2 s3 ys) (hn : BlOk q t s0 s1 s2 s3 u0 u1 u2 u3 ns) :
    BlOk (q + 1) t r0 r1 r2 r3 u0 u1 u2 u3 [.tuple [.str "if", tv, .tuple ys, .tuple ns]] := by
  rcases ht with ⟨h, _⟩ | ⟨_, hz, ht⟩
  · exact absurd h hne
  have htest : isTest 2 tv = true ∧ Wh.sm tv = true := by
    rcases ht with ⟨⟨h, _, h'⟩, _⟩ | ⟨⟨h, _, h'⟩, _⟩ <;> exact ⟨h, h'⟩
  have hb : blks (.tuple [.str "if", tv, .tuple ys, .tuple ns]) = [.tuple ys, .tuple ns] := by simp [blks]
  have htm : times (.tuple [.str "if", tv, .tuple ys, .tuple ns]) = 1 := by simp [times]
  have hsy := hy.sz
  have hsn := hn.sz
  refine ⟨?_, ?_, ?_, ?_, ?_, ?_, hn.p0, hn.p1, hn.p2, hn.p3, ?_⟩
  · simp only [List.mem_singleton, forall_eq, okS_succ, hb]
    refine ⟨by simp [isStmt, st3, htest.1], ?_⟩
    simp [tItems]
    exact ⟨hy.ok, hn.ok⟩
  · simp [htest.2]
    exact ⟨hy.sm, hn.sm⟩
  · rw [cntN_one, hb, hn.e0, hy.e0]
    simp [tItems]
    omega
  · rw [cntB_one, hb, hn.e1, hy.e1, htm]
    simp [tItems, own, Int.mul_add]
    omega
  · rw [cntB_one, hb, hn.e2, hy.e2, htm]
    rcases ht with ⟨⟨_, hw, _⟩, e2, _, e3⟩ | ⟨⟨_, hw, _⟩, e2, _, e3⟩ <;> simp [tItems, own, hw, Int.mul_add] <;> omega
  · rw [cntB_one, hb, hn.e3, hy.e3, htm]
    rcases ht with ⟨⟨_, hw, _⟩, e2, _, e3⟩ | ⟨⟨_, hw, _⟩, e2, _, e3⟩ <;> simp [tItems, own, hw, Int.mul_add] <;> omega
  · rw [cntN_one, hb]
    simp [tItems]
    omega
theorem BlOk.rep {q : Nat} {t c r0 r1 r2 r3 s0 s1 s2 s3 : Int} {ys : List PyData} (hc : 1 ≤ c ∧ c ≤ 8) (hy : BlOk q (t * c) (r0 - 1) (r1 - t) r2 r3 s0 s1 s2 s3 ys) :
    BlOk (q + 1) t r0 r1 r2 r3 s0 s1 s2 s3 [.tuple [.str "repeat", .int c, .tuple ys]] := by
  have hb : blks (.tuple [.str "repeat", .int c, .tuple ys]) = [.tuple ys] := by simp [blks]
  have htm : times (.tuple [.str "repeat", .int c, .tuple ys]) = c := by simp [times]
  have hsy := hy.sz
  refine ⟨?_, ?_, ?_, ?_, ?_, ?_, hy.p0, hy.p1, hy.p2, hy.p3, ?_⟩
  · simp only [List.mem_singleton, forall_eq, okS_succ, hb]
    refine ⟨by simp [isStmt, stR]; omega, ?_⟩
    simp [tItems]
    exact hy.ok
  · simp
    exact hy.sm
  · rw [cntN_one, hb, hy.e0]
    simp [tItems]
    omega
  · rw [cntB_one, hb, hy.e1, htm]
    simp [tItems, own, Int.mul_add, Int.mul_assoc, Int.mul_comm c]
    omega
  · rw [cntB_one, hb, hy.e2, htm]
    simp [tItems, own, Int.mul_assoc, Int.mul_comm c]
  · rw [cntB_one, hb, hy.e3, htm]
    simp [tItems, own, Int.mul_assoc, Int.mul_comm c]
  · rw [cntN_one, hb]
    simp [tItems]
    omega
end Wh


set_option Elab.async false
set_option linter.all false
set_option maxRecDepth 100000
set_option maxHeartbeats 4000000
namespace Wh
open PySem PySem.Spec PyProof.Rows L2 Wh.C
variable {T : Tab}
/-- numbers drawn for a block -/
def bud (q : Nat) : Nat := 3000 * 10 ^ q
theorem bud_pos (q : Nat) : 3000 ≤ bud q := by
  have := Nat.pow_pos (n := q) (show 0 < 10 by omega)
  simp only [bud]
  omega
theorem bud_succ (q : Nat) : bud (q + 1) = 10 * bud q := by simp only [bud, Nat.pow_succ]; omega
def BlockSpec (T : Tab) (ns : List PyData) (q m : Nat) : Prop := ∀ (xs : List Int) (k : Int) (b : Nat) (t : Int) (r0 r1 r2 r3 : Int), Dk xs k b → b + bud q ≤ 2 ^ 36 → 1 ≤ t → t * (8 : Int) ^ q ≤ 4096 → 0 ≤ r0 → 0 ≤ r1 → 0 ≤ r2 → 0 ≤ r3 →
    W (callF T m "_law_block" [false, false, false, false, false] [deckD xs k, .p (.list ns), roomD r0 r1 r2 r3, .p (.int t), .p (.int (4 - (q : Int)))]) fun a => ∃ vs xs' k' s0 s1 s2 s3, a = (.p (.tuple vs), [deckD xs' k', .p (.list ns), roomD s0 s1 s2 s3, .p (.int t), .p (.int (4 - (q : Int)))]) ∧ BlOk q t r0 r1 r2 r3 s0 s1 s2 s3 vs ∧ Dk xs' k' (b + bud q)
def nz (ws : List PyData) : List PyData := if ws.isEmpty then [] else [.tuple ws]
@[simp] theorem nz_nil : nz [] = [] := rfl
@[simp] theorem nz_cons {w : PyData} {ws : List PyData} : nz (w :: ws) = [.tuple (w :: ws)] := rfl
theorem l_row (H : HG T) {ns : List PyData} (hn : NamesOk ns) {q m : Nat} (hq : q ≤ 3) (hm : 8 ≤ m) (hB : BlockSpec T ns q (m - 1)) {xs : List Int} {k : Int} {b : Nat} (t : Int) (r0 r1 r2 r3 : Int) (hd : Dk xs k b) (hb : b + 1000 + 2 * bud q ≤ 2 ^ 36) (ht : 1 ≤ t) (ht2 : t * (8 : Int) ^ (q + 1) ≤ 4096) (p0 : 0 ≤ r0) (p1 : 0 ≤ r1) (p2 : 0 ≤ r2) (p3 : 0 ≤ r3) :
    W (callF T m "_law_row" [false, false, false, false, false] [deckD xs k, .p (.list ns), roomD r0 r1 r2 r3, .p (.int t), .p (.int (3 - (q : Int)))]) fun a => ∃ ws xs' k' s0 s1 s2 s3, a = (.p (.tuple ws), [deckD xs' k', .p (.list ns), roomD s0 s1 s2 s3, .p (.int t), .p (.int (3 - (q : Int)))]) ∧ BlOk (q + 1) t r0 r1 r2 r3 s0 s1 s2 s3 (nz ws) ∧ Dk xs' k' (b + 1000 + 2 * bud q) := by
  rw [run_at H.row (by omega)]
  have hbp := bud_pos q
  have h8 : (1 : Int) ≤ 8 ^ q := by
    have := Int.pow_pos (n := 8) (m := q) (by omega)
    omega
  have ht3 : ∀ c : Int, 1 ≤ c → c ≤ 8 → t * c * (8 : Int) ^ q ≤ 4096 := by
    intro c c1 c2
    rw [Int.pow_succ] at ht2
    have h1 : t * c ≤ t * 8 := Int.mul_le_mul_of_nonneg_left c2 (by omega)
    have h2 : t * c * (8 : Int) ^ q ≤ t * 8 * (8 : Int) ^ q := Int.mul_le_mul_of_nonneg_right h1 (by omega)
    have h3 : t * 8 * (8 : Int) ^ q = t * ((8 : Int) ^ q * 8) := by rw [Int.mul_assoc, Int.mul_comm 8]
    omega
  have ht4 : t ≤ 4096 := by
    have h1 := ht3 1 (by omega) (by omega)
    have h2 : t * 1 ≤ t * (8 : Int) ^ q := Int.mul_le_mul_of_nonneg_left h8 (by omega)
    simp at h1 h2
    omega
  have ht5 : t * (8 : Int) ^ q ≤ 4096 := by
    have h1 := ht3 1 (by omega) (by omega)
    simpa using h1
  have h36 : (2 : Nat) ^ 36 < 2 ^ 37 := by decide
  simp [c__law_row_k22, roomD]
  refine ⟨fun h1 => ?_, fun h1 => ⟨fun h2 => ?_, fun h2 => ?_⟩⟩
  · exact ⟨_, _, _, _, _, _, _, ⟨rfl, rfl, rfl, rfl, rfl, rfl⟩, BlOk.nil p0 p1 p2 p3, hd.mono (by omega)⟩
  · exact ⟨_, _, _, _, _, _, _, ⟨rfl, rfl, rfl, rfl, rfl, rfl⟩, BlOk.nil p0 p1 p2 p3, hd.mono (by omega)⟩
  · refine (l_draw H.hd hd (by omega) 9 (by omega) (by omega) (by omega)).mono ?_
    rintro _ ⟨i, xs, k, rfl, a1, b1, hd⟩
    simp
    have hdp : (3 : Int) - (q : Int) + 1 = 4 - (q : Int) := by omega
    refine ⟨fun h3 => ?_, fun h3 => ?_⟩
    · refine (l_test H hn hd (by omega) (r0 - 1) (r1 - t) r2 r3 t (by omega)).mono ?_
      rintro _ ⟨v, xs, k, c', d', rfl, hv, hd⟩
      rcases hv with ⟨rfl, rfl, rfl⟩ | hv
      · simp [roomD, show ¬ i = 3 by omega, show ¬ i = 4 by omega]
        refine (l_plain H hn hd (by omega) (by omega)).mono ?_
        rintro _ ⟨v, xs, k, rfl, hv, hd⟩
        obtain ⟨w, ws, rfl⟩ := isStmt_form hv.1
        simp
        exact ⟨_, _, _, _, _, _, _, ⟨rfl, rfl, rfl, rfl, rfl, rfl⟩, BlOk.plain hv (by omega) (by omega) p2 p3, hd.mono (by omega)⟩
      · have hne := hv.1
        have hform : ∃ w ws, v = .tuple (.str w :: ws) := by
          rcases hv.2.2 with ⟨⟨h, _⟩, _⟩ | ⟨⟨h, _⟩, _⟩ <;> obtain ⟨w, ws, rfl, _⟩ := isTest_form h <;> exact ⟨w, ws, rfl⟩
        obtain ⟨w, ws, rfl⟩ := hform
        have pc : 0 ≤ c' ∧ 0 ≤ d' := by
          rcases hv.2.2 with ⟨_, h, h2, h3⟩ | ⟨_, h, h2, h3⟩ <;> omega
        simp [roomD, hdp]
        refine (hB _ _ _ t (r0 - 1) (r1 - t) c' d' hd (by omega) ht ht5 (by omega) (by omega) pc.1 pc.2).mono ?_
        rintro _ ⟨ys, xs, k, s0, s1, s2, s3, rfl, hy, hd⟩
        simp [roomD, hdp]
        refine (hB _ _ _ t s0 s1 s2 s3 hd (by omega) ht ht5 hy.p0 hy.p1 hy.p2 hy.p3).mono ?_
        rintro _ ⟨zs, xs, k, u0, u1, u2, u3, rfl, hz, hd⟩
        simp [roomD]
        exact ⟨_, _, _, _, _, _, _, ⟨rfl, rfl, rfl, rfl, rfl, rfl⟩, BlOk.ifs (.inr hv) hne hy hz, hd.mono (by omega)⟩
    · have hrep : W (callF T (m - 1) (Str.ofString "_law_one") [false, false] [deckD xs k, .lst [.p (.int 1), .p (.int 1), .p (.int 2), .p (.int 2), .p (.int 3), .p (.int 4), .p (.int 8)]]) fun a => ∃ c xs' k', a = (.p (.int c), [deckD xs' k', .lst [.p (.int 1), .p (.int 1), .p (.int 2), .p (.int 2), .p (.int 3), .p (.int 4), .p (.int 8)]]) ∧ 1 ≤ c ∧ c ≤ 8 ∧ Dk xs' k' (b + 2) := by
        refine (l_one H.hd hd (by omega) _ (by simp) (by simp) (by simp) (by omega)).mono ?_
        rintro _ ⟨c, xs, k, rfl, hc, hd⟩
        simp at hc
        rcases hc with rfl | rfl | rfl | rfl | rfl <;> exact ⟨_, _, _, rfl, by omega, by omega, hd⟩
      refine ⟨fun h4 => ?_, fun h4 => ⟨fun h5 => ?_, fun h5 => ?_⟩⟩
      · refine hrep.mono ?_
        rintro _ ⟨c, xs, k, rfl, c1, c2, hd⟩
        have hcb : t.natAbs < 18446744073709551616 := by omega
        simp [hdp, hcb]
        have htc : 1 ≤ t * c := by
          have := Int.mul_le_mul_of_nonneg_left c1 (show 0 ≤ t by omega)
          simp at this
          omega
        refine (hB _ _ _ (t * c) (r0 - 1) (r1 - t) r2 r3 hd (by omega) htc (ht3 c c1 c2) (by omega) (by omega) p2 p3).mono ?_
        rintro _ ⟨ys, xs, k, s0, s1, s2, s3, rfl, hy, hd⟩
        simp [roomD]
        exact ⟨_, _, _, _, _, _, _, ⟨rfl, rfl, rfl, rfl, rfl, rfl⟩, BlOk.rep ⟨c1, c2⟩ hy, hd.mono (by omega)⟩
      · refine hrep.mono ?_
        rintro _ ⟨c, xs, k, rfl, c1, c2, hd⟩
        have hcb : t.natAbs < 18446744073709551616 := by omega
        simp [hdp, hcb]
        have htc : 1 ≤ t * c := by
          have := Int.mul_le_mul_of_nonneg_left c1 (show 0 ≤ t by omega)
          simp at this
          omega
        refine (hB _ _ _ (t * c) (r0 - 1) (r1 - t) r2 r3 hd (by omega) htc (ht3 c c1 c2) (by omega) (by omega) p2 p3).mono ?_
        rintro _ ⟨ys, xs, k, s0, s1, s2, s3, rfl, hy, hd⟩
        simp [roomD]
        exact ⟨_, _, _, _, _, _, _, ⟨rfl, rfl, rfl, rfl, rfl, rfl⟩, BlOk.rep ⟨c1, c2⟩ hy, hd.mono (by omega)⟩
      · refine (l_plain H hn hd (by omega) (by omega)).mono ?_
        rintro _ ⟨v, xs, k, rfl, hv, hd⟩
        obtain ⟨w, ws, rfl⟩ := isStmt_form hv.1
        simp
        exact ⟨_, _, _, _, _, _, _, ⟨rfl, rfl, rfl, rfl, rfl, rfl⟩, BlOk.plain hv (by omega) (by omega) p2 p3, hd.mono (by omega)⟩
end Wh


set_option Elab.async false
set_option linter.all false
set_option maxRecDepth 100000
set_option maxHeartbeats 4000000
namespace Wh
open PySem PySem.Spec PyProof.Rows L2 Wh.C
variable {T : Tab}
def neT (x : PyData) : Bool := match x with
  | .tuple [] => false
  | _ => true
theorem neT_app {rl : List PyData} {ws : List PyData} : (rl ++ [PyData.tuple ws]).filter neT = rl.filter neT ++ nz ws := by
  cases ws <;> simp [neT]
@[simp] theorem eqS_te {n : Nat} {ws : List PyData} : eqS (n + 1) (.tuple ws) (.tuple []) = some ws.isEmpty := by cases ws <;> rfl
theorem l_block (H : HG T) {ns : List PyData} (hn : NamesOk ns) : ∀ (q : Nat), q ≤ 4 → ∀ {m : Nat}, 2 * q + 8 ≤ m → BlockSpec T ns q m
  | 0, hq, m, hm => by
    intro xs k b t r0 r1 r2 r3 hd hb ht ht2 p0 p1 p2 p3
    rw [run_at H.block (by omega)]
    simp [c__law_block_k22, roomD]
    exact ⟨_, _, _, _, _, _, _, ⟨rfl, rfl, rfl, rfl, rfl, rfl⟩, BlOk.nil p0 p1 p2 p3, hd.mono (by omega)⟩
  | q + 1, hq, m, hm => by
    intro xs k b t r0 r1 r2 r3 hd hb ht ht2 p0 p1 p2 p3
    rw [run_at H.block (by omega)]
    have ihB := l_block H hn q (by omega) (m := m - 1 - 1) (by omega)
    have hrow := fun {xs : List Int} {k : Int} {b : Nat} (s0 s1 s2 s3 : Int) (hd : Dk xs k b) (hb : b + 1000 + 2 * bud q ≤ 2 ^ 36) p0 p1 p2 p3 => l_row H hn (q := q) (m := m - 1) (by omega) (by omega) ihB t s0 s1 s2 s3 hd hb ht ht2 p0 p1 p2 p3
    have hdp : (4 : Int) - ((q : Int) + 1) = 3 - (q : Int) := by omega
    have hlt : ¬ (3 : Int) < 3 - (q : Int) := by omega
    have hbs := bud_succ q
    have hbp := bud_pos q
    have h36 : (2 : Nat) ^ 36 < 2 ^ 40 := by decide
    have hcast : (((q + 1 : Nat) : Nat) : Int) = (q : Int) + 1 := by simp
    rw [hcast, hdp]
    simp [c__law_block_k22, roomD, hlt]
    refine (l_draw H.hd hd (by omega) 4 (by omega) (by omega) (by omega)).mono ?_
    rintro _ ⟨i, xs, k, rfl, a1, b1, hd⟩
    simp
    have hcnt : ∃ n : Nat, n ≤ 4 ∧ (i + if 3 - (q : Int) = 0 then 1 else 0) = n := by
      refine ⟨(i + if 3 - (q : Int) = 0 then 1 else 0).toNat, ?_, ?_⟩
      · split <;> omega
      · split <;> omega
    obtain ⟨n, hn4, hcnt⟩ := hcnt
    rw [hcnt]
    refine ⟨fun _ _ => ?_, by omega⟩
    refine W_for (fun r ε => ∃ rl xs k s0 s1 s2 s3 x7, ε = [some (deckD xs k), some (.p (.list ns)), some (roomD s0 s1 s2 s3), some (.p (.int t)), some (.p (.int (3 - (q : Int)))), some (.p (.int n)), some (.lst (rl.map .p)), x7, none] ∧ (∀ x ∈ rl, ∃ ws, x = .tuple ws) ∧ rl.length + r.length ≤ 4 ∧ BlOk (q + 1) t r0 r1 r2 r3 s0 s1 s2 s3 (rl.filter neT) ∧ Dk xs k (b + 1 + rl.length * (1000 + 2 * bud q))) _ _ ⟨[], _, _, _, _, _, _, none, by simp [roomD], by simp, by rw [rngL_len]; simpa using hn4, BlOk.nil p0 p1 p2 p3, hd.mono (by omega)⟩ ?_ ?_
    · rintro x r ε ⟨rl, xs, k, s0, s1, s2, s3, x7, rfl, g1, g2, g3, g4⟩
      simp only [List.length_cons] at g2
      have hmul : rl.length * (1000 + 2 * bud q) ≤ 3 * (1000 + 2 * bud q) := Nat.mul_le_mul_right _ (by omega)
      simp [roomD]
      refine (hrow s0 s1 s2 s3 g4 (by omega) g3.p0 g3.p1 g3.p2 g3.p3).mono ?_
      rintro _ ⟨ws, xs, k, u0, u1, u2, u3, rfl, hw, hd⟩
      have hll : rl.length < sizeLine := by simp [sizeLine]; omega
      simp [roomD, hll]
      refine .mk ⟨rl ++ [.tuple ws], xs, k, u0, u1, u2, u3, some (.p x), by simp [roomD], ?_, by simp; omega, ?_, hd.mono ?_⟩
      · intro y hy
        rcases List.mem_append.1 hy with h | h
        · exact g1 y h
        · exact ⟨ws, List.mem_singleton.1 h⟩
      · rw [neT_app]
        exact g3.app hw
      · simp [Nat.succ_mul]
        omega
    · rintro ε ⟨rl, xs, k, s0, s1, s2, s3, x7, rfl, g1, g2, g3, g4⟩
      simp only [List.length_nil] at g2
      have hmul : rl.length * (1000 + 2 * bud q) ≤ 4 * (1000 + 2 * bud q) := Nat.mul_le_mul_right _ (by omega)
      simp [ownOk]
      rw [comp_filter neT]
      · have hfl : (rl.filter neT).length ≤ sizeLine := Nat.le_trans (List.length_filter_le _ _) (by simp [sizeLine]; omega)
        generalize rl.filter neT = vs at g3 hfl
        simp [hfl, roomD]
        exact ⟨_, _, _, _, _, _, _, ⟨rfl, rfl, rfl, rfl, rfl, rfl⟩, g3, g4.mono (by omega)⟩
      · intro x hx
        obtain ⟨ws, rfl⟩ := g1 x hx
        cases ws <;> simp [neT]

/-- a program as it is drawn, within all bounds -/
structure PrOk (vs : List PyData) : Prop where
  ok : ∀ v ∈ vs, okS 4 v = true
  sm : ∀ v ∈ vs, Wh.sm v = true
  n : cntN 4 vs ≤ 24
  w : cntB "weight" 4 vs ≤ 30
  r : cntB "rest" 4 vs ≤ 2
  l : cntB "less" 4 vs ≤ 2
  sz : szAll vs ≤ 24000
theorem BlOk.pr {s0 s1 s2 s3 : Int} {vs : List PyData} (h : BlOk 4 1 24 30 2 2 s0 s1 s2 s3 vs) : PrOk vs := by
  have a0 := h.e0
  have a1 := h.e1
  have a2 := h.e2
  have a3 := h.e3
  have b0 := h.p0
  have b1 := h.p1
  have b2 := h.p2
  have b3 := h.p3
  have hs := h.sz
  exact ⟨h.ok, h.sm, by omega, by omega, by omega, by omega, by omega⟩
theorem isExpr_mono : ∀ {k : Nat} {v : PyData}, isExpr k v = true → isExpr (k + 1) v = true := by
  intro k
  induction k with
  | zero => intro v h; simp [isExpr] at h
  | succ k ih =>
    intro v h
    cases v with
    | tuple xs =>
      rcases xs with _ | ⟨a, _ | ⟨b, _ | ⟨c, _ | ⟨d, r⟩⟩⟩⟩
      · simp [isExpr] at h
      · simp [isExpr] at h
      · simp [isExpr] at h
      · cases a with
        | str w =>
          by_cases h1 : w = "times"
          · subst h1
            rw [isExpr_times] at h ⊢
            simp only [Bool.and_eq_true] at h ⊢
            exact ⟨h.1, ih h.2⟩
          · by_cases h2 : w = "plus" ∨ w = "minus"
            · rw [isExpr_op h2] at h ⊢
              simp only [Bool.and_eq_true] at h ⊢
              exact ⟨ih h.1, ih h.2⟩
            · simp only [not_or] at h2
              simp [isExpr, h1, h2.1, h2.2] at h
        | _ => simp [isExpr] at h
      · simp [isExpr] at h
    | _ => simpa [isExpr] using h
/-- numbers drawn for a program -/
def progB : Nat := 6 * bud 4
theorem l_program (H : HG T) {ns : List PyData} (hn : NamesOk ns) {xs : List Int} {k : Int} {b : Nat} (hd : Dk xs k b) (hb : b + progB ≤ 2 ^ 36) {m : Nat} (hm : 17 ≤ m) :
    W (callF T m "_law_program" [false, false] [deckD xs k, .p (.list ns)]) fun a => ∃ vs xs' k', a = (.p (.tuple vs), [deckD xs' k', .p (.list ns)]) ∧ PrOk vs ∧ Dk xs' k' (b + progB) := by
  rw [run_at H.program (by omega)]
  have hB := l_block H hn 4 (by omega) (m := m - 1) (by omega)
  have hbud := bud_pos 4
  have hpb : progB = 6 * bud 4 := rfl
  have h36 : (2 : Nat) ^ 36 < 2 ^ 40 := by decide
  have h36' : (2 : Nat) ^ 36 < 2 ^ 38 := by decide
  simp [c__law_program_k22]
  refine (l_draw H.hd hd (by omega) 4 (by omega) (by omega) (by omega)).mono ?_
  rintro _ ⟨i, xs, k, rfl, a1, b1, hd⟩
  simp
  refine ⟨fun _ _ => ?_, by omega⟩
  refine W_for (fun r ε => ∃ vs xs k s0 s1 s2 s3 x4, ε = [some (deckD xs k), some (.p (.list ns)), some (roomD s0 s1 s2 s3), some (.p (.tuple vs)), x4] ∧ r.length ≤ 4 ∧ BlOk 4 1 24 30 2 2 s0 s1 s2 s3 vs ∧ Dk xs k (b + 1 + (4 - r.length) * bud 4)) _ _ ⟨[], _, _, 24, 30, 2, 2, none, by simp [roomD], by rw [rngL_len]; omega, BlOk.nil (by omega) (by omega) (by omega) (by omega), hd.mono (Nat.le_add_right _ _)⟩ ?_ ?_
  · rintro x r ε ⟨vs, xs, k, s0, s1, s2, s3, x4, rfl, g1, g2, g3⟩
    simp only [List.length_cons] at g1 g3
    have hmu : (4 - r.length) * bud 4 = (4 - (r.length + 1)) * bud 4 + bud 4 := by
      rw [show 4 - r.length = 4 - (r.length + 1) + 1 by omega, Nat.succ_mul]
    have hmu2 : (4 - r.length) * bud 4 ≤ 4 * bud 4 := Nat.mul_le_mul_right _ (by omega)
    simp [roomD]
    refine (hB _ _ _ 1 s0 s1 s2 s3 g3 (by omega) (by omega) (by decide +kernel) g2.p0 g2.p1 g2.p2 g2.p3).mono ?_
    rintro _ ⟨ws, xs, k, u0, u1, u2, u3, rfl, hw, hd⟩
    have h1 := szAll_len vs
    have h2 := szAll_len ws
    have h3 := g2.pr.sz
    have h4 := (g2.app hw).pr.sz
    simp at h4
    have hl : vs.length + ws.length ≤ sizeLine := by simp [sizeLine]; omega
    simp [roomD, hl]
    refine .mk ⟨vs ++ ws, xs, k, u0, u1, u2, u3, some (.p x), by simp [roomD], by omega, g2.app hw, hd.mono (by omega)⟩
  · rintro ε ⟨vs, xs, k, s0, s1, s2, s3, x4, rfl, g1, g2, g3⟩
    simp only [List.length_nil] at g1 g3
    generalize bud 4 = B at *
    simp [roomD]
    refine ⟨fun h1 => ?_, fun h1 => ⟨fun h2 => ?_, fun h2 => ?_⟩⟩
    · exact ⟨_, _, _, ⟨rfl, rfl⟩, g2.pr, g3.mono (by omega)⟩
    · exact ⟨_, _, _, ⟨rfl, rfl⟩, g2.pr, g3.mono (by omega)⟩
    · refine (l_draw H.hd g3 (by omega) 4 (by omega) (by omega) (by omega)).mono ?_
      rintro _ ⟨j, xs, k, rfl, a2, b2, hd⟩
      simp
      refine ⟨fun h3 => ?_, fun h3 => ?_⟩
      · exact ⟨_, _, _, ⟨rfl, rfl⟩, g2.pr, hd.mono (by omega)⟩
      · refine (l_expression H hn 1 hd (by simp; omega) (by omega) (m := m - 1) (by omega)).mono ?_
        rintro _ ⟨e, xs, k, rfl, he, hd⟩
        have h3 := g2.pr.sz
        have h4 := szAll_len vs
        have hl : vs.length + 1 ≤ sizeLine := by simp [sizeLine]; omega
        simp [hl]
        have hp : PlOk (.tuple [.str "pay", e]) := pay_ok (isExpr_mono he.1) he.2.1 (by have := he.2.2; simp at this; omega)
        exact ⟨_, _, _, ⟨rfl, rfl⟩, (g2.app (BlOk.plain (q := 3) (t := 1) hp (by omega) (by omega) g2.p2 g2.p3)).pr, hd.mono (by simp only [progB] at *; omega)⟩
theorem ordErr_ok : ∀ (N : Nat) (st : List (Int × PyData)) (pl : Int), (∀ x ∈ st, okS (4 - x.1).toNat x.2 = true) → ordErr N st pl = .none
  | 0, st, pl, h => rfl
  | N + 1, [], pl, h => rfl
  | N + 1, (d, v) :: st, pl, h => by
    obtain ⟨h1, h2, h3⟩ := okS_lt (h (d, v) (by simp))
    rw [ordErr, if_neg (by omega), if_pos h2]
    refine ordErr_ok N _ _ ?_
    intro x hx
    rcases List.mem_append.1 hx with hx | hx
    · exact h3 x hx
    · exact h x (by simp [hx])
theorem PrOk.pErr {vs : List PyData} (h : PrOk vs) : pErr (.tuple vs) = .none := by
  have h1 : ordErr 1000000 (vs.map fun x => (0, x)) 0 = .none := ordErr_ok _ _ _ (by simpa using h.ok)
  have h2 : ((rowsP vs).length : Int) = cntN 4 vs := rows_cnt 4 0 vs
  have a := h.n
  have b := h.w
  have c := h.r
  have d := h.l
  simp only [Wh.pErr, h1, h2]
  rw [if_neg (by omega), if_neg (by omega), if_neg (by omega), if_neg (by omega)]
end Wh


set_option Elab.async false
set_option linter.all false
set_option maxRecDepth 100000
set_option maxHeartbeats 4000000
namespace Wh
open PySem PySem.Spec PyProof.Rows L2 Wh.C
variable {T : Tab}
/-! ### values that repr can show -/
mutual
def pl : PyData → Bool
  | .none => true
  | .bool _ => true
  | .int i => decide (i.natAbs < 10 ^ 60)
  | .str s => decide (s.length ≤ 1000) && decide ((reprText s).length ≤ 120)
  | .list xs => plAll xs
  | .tuple xs => plAll xs
  | .dict kvs => decide ((PyData.dict kvs).shown.length ≤ 60) && (PyData.dict kvs).showable
def plAll : List PyData → Bool
  | [] => true
  | x :: xs => pl x && plAll xs
end
theorem plAll_iff {xs : List PyData} : plAll xs = true ↔ ∀ x ∈ xs, pl x = true := by
  induction xs with
  | nil => simp [plAll]
  | cons x xs ih => simp [plAll, ih]
@[simp] theorem pl_tup {xs : List PyData} : pl (.tuple xs) = true ↔ ∀ x ∈ xs, pl x = true := by simp [pl, plAll_iff]
@[simp] theorem pl_lst {xs : List PyData} : pl (.list xs) = true ↔ ∀ x ∈ xs, pl x = true := by simp [pl, plAll_iff]
theorem listText_le (ts : List Str) : (listText ts).length ≤ piled ts + 2 := by
  unfold listText
  rw [strLen_append]
  have e1 : ((("]" : String) : Str)).length = 1 := rfl
  have e2 : ((("[" : String) : Str)).length = 1 := rfl
  have e0 : ((("" : String) : Str)).length = 0 := rfl
  rw [e1]
  cases ts with
  | nil => show ((("[" : String) : Str)).length + 1 ≤ _; rw [e2]; simp
  | cons t r =>
    show (textFrom 1 (("[" : Str) ++ (if 0 > 0 then ", " else "" : String) ++ t) r).length + 1 ≤ _
    rw [textFrom_length_pos r 1 _ (by omega), strLen_append, strLen_append, e2, piled_cons]
    simp only [Nat.lt_irrefl, gt_iff_lt, if_false, e0]
    omega
theorem tupleText_le (ts : List Str) : (tupleText ts).length ≤ piled ts + 3 := by
  unfold tupleText
  rw [strLen_append, strLen_append]
  have e1 : ((("(" : String) : Str)).length = 1 := rfl
  have e3 : (((if ts.length == 1 then ",)" else ")" : String) : Str)).length ≤ 2 := by split <;> decide
  rw [e1]
  cases ts with
  | nil =>
    have : (Str.join ", " []).length = 0 := rfl
    rw [this]
    simp
    decide
  | cons t r =>
    have := join_length_add (t :: r) (by simp)
    omega
mutual
theorem pl_shown : ∀ v : PyData, pl v = true → sm v = true ∧ v.showable = true ∧ v.shown.length + 2 ≤ 130 * sz v
  | .none, _ => ⟨by simp, by simp [PyData.showable], by have : (PyData.none).shown.length = 4 := by decide +kernel
                                                        rw [this]; simp⟩
  | .bool b, _ => ⟨by simp, by simp [PyData.showable], by have : (PyData.bool b).shown.length ≤ 5 := by cases b <;> decide +kernel
                                                          simp; omega⟩
  | .int i, h => by
    have h : i.natAbs < 10 ^ 60 := by simpa [pl] using h
    refine ⟨by simp, ?_, ?_⟩
    · have hl : i.natAbs.log2 < 1920 := by
        by_cases hz : i.natAbs = 0
        · rw [hz]; decide
        · have h2 : i.natAbs < 2 ^ 1920 := Nat.lt_trans h (by decide +kernel)
          exact (Nat.log2_lt hz).2 h2
      simpa [PyData.showable] using hl
    · have := int_text_length_le10 (show 0 < 60 by omega) h
      have e : (PyData.int i).shown.length = (toString i).length := by
        rw [PyData.shown, Str.ofString_eq_toList]
        simp [Str.length]
        first | rfl | exact String.length_toList | exact String.length_toList.symm | simp [String.length]
      rw [e, sz_int]
      omega
  | .str s, h => by
    simp [pl] at h
    refine ⟨?_, by simp [PyData.showable], by simp only [PyData.shown, sz_str]; omega⟩
    have := Nat.le_trans h.1 (show 1000 ≤ sizeLine by decide)
    simpa [sm] using this
  | .list xs, h => by
    rw [pl] at h
    obtain ⟨h1, h2, h3⟩ := plAll_shown xs h
    refine ⟨by rw [sm]; exact h1, by rw [PyData.showable]; exact h2, ?_⟩
    have := listText_le (PyData.shownAll xs)
    rw [PyData.shown, sz_lst]
    omega
  | .tuple xs, h => by
    rw [pl] at h
    obtain ⟨h1, h2, h3⟩ := plAll_shown xs h
    refine ⟨by rw [sm]; exact h1, by rw [PyData.showable]; exact h2, ?_⟩
    have := tupleText_le (PyData.shownAll xs)
    rw [PyData.shown, sz_tup]
    omega
  | .dict kvs, h => by
    rw [pl, Bool.and_eq_true, decide_eq_true_eq] at h
    exact ⟨by simp, h.2, by simp; omega⟩
theorem plAll_shown : ∀ xs : List PyData, plAll xs = true → smAll xs = true ∧ PyData.showableAll xs = true ∧ piled (PyData.shownAll xs) ≤ 130 * szAll xs
  | [], _ => ⟨rfl, rfl, by rw [PyData.shownAll]; simp [piled]⟩
  | x :: xs, h => by
    rw [plAll, Bool.and_eq_true] at h
    obtain ⟨a1, a2, a3⟩ := pl_shown x h.1
    obtain ⟨b1, b2, b3⟩ := plAll_shown xs h.2
    refine ⟨by rw [smAll, a1, b1]; rfl, by rw [PyData.showableAll, a2, b2]; rfl, ?_⟩
    rw [PyData.shownAll, piled_cons, szAll_cons]
    omega
end
/-- a value that can be shown, not too great -/
structure An (B D : Nat) (v : PyData) : Prop where
  pl : pl v = true
  sz : Wh.sz v ≤ B
  dp : v.depth ≤ D
theorem An.sm {B D : Nat} {v : PyData} (h : An B D v) : Wh.sm v = true := (pl_shown v h.pl).1
theorem An.repr {B D : Nat} {v : PyData} (h : An B D v) (hB : B ≤ 120000) (hD : D ≤ 100) : reprV (.p v) = some v.shown := by
  obtain ⟨h1, h2, h3⟩ := pl_shown v h.pl
  have h4 := h.sz
  have h5 := h.dp
  have h6 : v.shown.length ≤ sizeLine := by simp only [sizeLine]; omega
  have h7 : v.depth ≤ 100 := by omega
  simp [reprV, Wh.D.toP, h2, h6, h7]
theorem depthAll_le {xs : List PyData} {n : Nat} (h : ∀ x ∈ xs, x.depth ≤ n) : PyData.depthAll xs ≤ n := by
  induction xs with
  | nil => simp [PyData.depthAll]
  | cons x xs ih =>
    rw [PyData.depthAll]
    have h1 := h x (by simp)
    have h2 := ih fun y hy => h y (by simp [hy])
    omega
theorem depthAll_mem {xs : List PyData} {x : PyData} (h : x ∈ xs) : x.depth ≤ PyData.depthAll xs := by
  induction xs with
  | nil => simp at h
  | cons y ys ih =>
    rw [PyData.depthAll]
    rcases List.mem_cons.1 h with rfl | h
    · omega
    · have := ih h; omega
@[simp] theorem depth_tup {xs : List PyData} : (PyData.tuple xs).depth = PyData.depthAll xs + 1 := by simp only [PyData.depth]
@[simp] theorem depth_lst {xs : List PyData} : (PyData.list xs).depth = PyData.depthAll xs + 1 := by simp only [PyData.depth]
@[simp] theorem depthAll_cons {x : PyData} {xs : List PyData} : PyData.depthAll (x :: xs) = max x.depth (PyData.depthAll xs) := by rw [PyData.depthAll]
@[simp] theorem depthAll_nil : PyData.depthAll [] = 0 := by rw [PyData.depthAll]
@[simp] theorem depth_int {i : Int} : (PyData.int i).depth = 0 := by simp only [PyData.depth]
@[simp] theorem depth_str {i : Str} : (PyData.str i).depth = 0 := by simp only [PyData.depth]
@[simp] theorem depth_none : (PyData.none).depth = 0 := by simp only [PyData.depth]
@[simp] theorem depth_bool {b : Bool} : (PyData.bool b).depth = 0 := by simp only [PyData.depth]
end Wh


set_option Elab.async false
set_option linter.all false
set_option maxRecDepth 100000
set_option maxHeartbeats 4000000
namespace Wh
open PySem PySem.Spec PyProof.Rows L2 Wh.C
variable {T : Tab}
theorem sig_small : ∀ c ∈ signs.cps.toList, c < 16 ^ 8 := by decide +kernel
theorem nameOk_all {s : Str} (h : nameOk s = true) : ∀ c ∈ s.cps.toList, c ∈ signs.cps.toList := by
  unfold nameOk at h
  split at h
  · cases h
  · rename_i c r e
    simp only [Bool.and_eq_true, List.all_eq_true, decide_eq_true_eq] at h
    intro d hd
    rw [e] at hd
    exact h.1.2 d hd
theorem isName_pl {x : PyData} (h : isName x = true) : pl x = true ∧ x.depth = 0 := by
  obtain ⟨s, rfl, h⟩ := isName_str h
  refine ⟨?_, by simp⟩
  have h1 := nameOk_len h
  have h2 := StrLaws.reprText_len s fun c hc => sig_small c (nameOk_all h c hc)
  simp [pl]
  omega
theorem pl_word : ∀ w ∈ (["set", "pay", "if", "repeat", "stop", "plus", "minus", "times", "less", "rest", "not", "n", "", "Ab", "a_", "abcdefghi", "Stop", "x"] : List Str), pl (.str w) = true := by decide +kernel
theorem pl_small {i : Int} (h : i.natAbs < 1000) : pl (.int i) = true := by
  have : i.natAbs < 10 ^ 60 := Nat.lt_trans h (by decide +kernel)
  simpa [pl] using this
theorem isWhole_pl {v : PyData} {a b : Int} (h : isWhole v a b = true) (ha : -1000 < a) (hb : b < 1000) : pl v = true ∧ v.depth = 0 := by
  cases v <;> simp [isWhole] at h
  exact ⟨pl_small (by omega), by simp⟩
theorem isExpr_pl : ∀ {k : Nat} {v : PyData}, isExpr k v = true → pl v = true ∧ v.depth ≤ k := by
  intro k
  induction k with
  | zero => intro v h; simp [isExpr] at h
  | succ k ih =>
    intro v h
    cases v with
    | tuple xs =>
      rcases xs with _ | ⟨a, _ | ⟨b, _ | ⟨c, _ | ⟨d, r⟩⟩⟩⟩
      · simp [isExpr] at h
      · simp [isExpr] at h
      · simp [isExpr] at h
      · cases a with
        | str w =>
          by_cases h1 : w = "times"
          · subst h1
            rw [isExpr_times, Bool.and_eq_true] at h
            obtain ⟨p1, p2⟩ := isWhole_pl h.1 (by omega) (by omega)
            obtain ⟨p3, p4⟩ := ih h.2
            simp [p1, p2, p3, pl_word "times" (by simp)]
            omega
          · by_cases h2 : w = "plus" ∨ w = "minus"
            · rw [isExpr_op h2, Bool.and_eq_true] at h
              obtain ⟨p1, p2⟩ := ih h.1
              obtain ⟨p3, p4⟩ := ih h.2
              have : pl (.str w) = true := by rcases h2 with rfl | rfl <;> exact pl_word _ (by simp)
              simp [p1, p3, this]
              omega
            · simp only [not_or] at h2
              simp [isExpr, h1, h2.1, h2.2] at h
        | _ => simp [isExpr] at h
      · simp [isExpr] at h
    | str s =>
      simp [isExpr, isWhole] at h
      obtain ⟨p1, p2⟩ := isName_pl h
      exact ⟨p1, by omega⟩
    | int i =>
      have h : isWhole (.int i) (-99) 99 = true := by simpa [isExpr, isName] using h
      obtain ⟨p1, p2⟩ := isWhole_pl h (by omega) (by omega)
      exact ⟨p1, by omega⟩
    | _ => simp [isExpr, isName, isWhole] at h
theorem isRestT_pl {xs : List PyData} (h : isRestT (.str "rest" :: xs) = true) : pl (.tuple (.str "rest" :: xs)) = true ∧ (PyData.tuple (.str "rest" :: xs)).depth ≤ 4 := by
  rcases xs with _ | ⟨a, _ | ⟨b, _ | ⟨c, _ | ⟨d, r⟩⟩⟩⟩
  · simp [isRestT] at h
  · simp [isRestT] at h
  · simp [isRestT] at h
  · cases b with
    | int b =>
      simp only [isRestT, Bool.and_eq_true, decide_eq_true_eq] at h
      obtain ⟨p1, p2⟩ := isExpr_pl h.1.1
      obtain ⟨p3, p4⟩ := isWhole_pl h.2 (by omega) (by omega)
      simp [p1, p3, p4, pl_word "rest" (by simp), pl_small (show b.natAbs < 1000 by omega)]
      omega
    | _ => simp [isRestT] at h
  · simp [isRestT] at h
theorem isTest_pl : ∀ {k : Nat} {v : PyData}, isTest k v = true → pl v = true ∧ v.depth ≤ 4 + k := by
  intro k
  induction k with
  | zero =>
    intro v h
    obtain ⟨w, xs, rfl, hn⟩ := isTest_form h
    simp only [isTest, testBy] at h
    split at h
    · rename_i e; subst e
      rcases xs with _ | ⟨a, _ | ⟨b, _ | ⟨c, r⟩⟩⟩ <;> simp [two3] at h
      obtain ⟨p1, p2⟩ := isExpr_pl h.1
      obtain ⟨p3, p4⟩ := isExpr_pl h.2
      simp [p1, p3, pl_word "less" (by simp)]
      omega
    · split at h
      · rename_i e; subst e
        obtain ⟨p1, p2⟩ := isRestT_pl h
        exact ⟨p1, by omega⟩
      · split at h
        · rcases xs with _ | ⟨a, _ | ⟨b, r⟩⟩ <;> simp [one1] at h
        · cases h
  | succ k ih =>
    intro v h
    obtain ⟨w, xs, rfl, hn⟩ := isTest_form h
    simp only [isTest, testBy] at h
    split at h
    · rename_i e; subst e
      rcases xs with _ | ⟨a, _ | ⟨b, _ | ⟨c, r⟩⟩⟩ <;> simp [two3] at h
      obtain ⟨p1, p2⟩ := isExpr_pl h.1
      obtain ⟨p3, p4⟩ := isExpr_pl h.2
      simp [p1, p3, pl_word "less" (by simp)]
      omega
    · split at h
      · rename_i e; subst e
        obtain ⟨p1, p2⟩ := isRestT_pl h
        exact ⟨p1, by omega⟩
      · split at h
        · rename_i e; subst e
          rcases xs with _ | ⟨a, _ | ⟨b, r⟩⟩ <;> simp [one1] at h
          obtain ⟨p1, p2⟩ := ih h
          simp [p1, pl_word "not" (by simp)]
          omega
        · cases h
theorem okS_pl : ∀ {k : Nat} {v : PyData}, okS k v = true → pl v = true ∧ v.depth ≤ 7 + 2 * k := by
  intro k
  induction k with
  | zero => intro v h; simp [okS] at h
  | succ k ih =>
    intro v h
    obtain ⟨hs, hb⟩ := okS_succ.1 h
    rcases isStmt_cases hs with ⟨x, e, rfl, h1, h2⟩ | ⟨e, rfl, h1⟩ | ⟨t, y, n, rfl, h1⟩ | ⟨c, b, rfl, h1⟩ | rfl
    · obtain ⟨p1, p2⟩ := isName_pl h1
      obtain ⟨p3, p4⟩ := isExpr_pl h2
      simp [p1, p2, p3, pl_word "set" (by simp)]
      omega
    · obtain ⟨p3, p4⟩ := isExpr_pl h1
      simp [p3, pl_word "pay" (by simp)]
      omega
    · obtain ⟨p3, p4⟩ := isTest_pl h1
      have hy := fun x hx => ih (hb (.tuple y) (by simp [blks]) x hx)
      have hn := fun x hx => ih (hb (.tuple n) (by simp [blks]) x hx)
      have dy : PyData.depthAll y ≤ 7 + 2 * k := depthAll_le fun x hx => (hy x hx).2
      have dn : PyData.depthAll n ≤ 7 + 2 * k := depthAll_le fun x hx => (hn x hx).2
      simp [p3, pl_word "if" (by simp)]
      refine ⟨⟨fun x hx => (hy x hx).1, fun x hx => (hn x hx).1⟩, ?_⟩
      omega
    · have hy := fun x hx => ih (hb (.tuple b) (by simp [blks]) x hx)
      have dy : PyData.depthAll b ≤ 7 + 2 * k := depthAll_le fun x hx => (hy x hx).2
      simp [pl_word "repeat" (by simp), pl_small (show c.natAbs < 1000 by omega)]
      refine ⟨fun x hx => (hy x hx).1, ?_⟩
      omega
    · simp [pl_word "stop" (by simp)]
      omega
theorem PrOk.an {vs : List PyData} (h : PrOk vs) : An 24001 16 (.tuple vs) := by
  refine ⟨?_, ?_, ?_⟩
  · rw [pl_tup]
    exact fun x hx => (okS_pl (h.ok x hx)).1
  · have := h.sz
    simp
    omega
  · have := depthAll_le (n := 15) fun x hx => (okS_pl (h.ok x hx)).2
    simp
    omega
end Wh


set_option Elab.async false
set_option linter.all false
set_option maxRecDepth 100000
set_option maxHeartbeats 4000000
namespace Wh
open PySem PySem.Spec PyProof.Rows L2 Wh.C
variable {T : Tab}
/-! ### how great a statement may be -/
theorem isExpr_sz : ∀ {k : Nat} {v : PyData}, isExpr k v = true → sz v + 2 ≤ 2 * 2 ^ k := by
  intro k
  induction k with
  | zero => intro v h; simp [isExpr] at h
  | succ k ih =>
    intro v h
    have h2 : 1 ≤ 2 ^ k := Nat.one_le_two_pow
    rw [Nat.pow_succ]
    cases v with
    | tuple xs =>
      rcases xs with _ | ⟨a, _ | ⟨b, _ | ⟨c, _ | ⟨d, r⟩⟩⟩⟩
      · simp [isExpr] at h
      · simp [isExpr] at h
      · simp [isExpr] at h
      · cases a with
        | str w =>
          by_cases h1 : w = "times"
          · subst h1
            rw [isExpr_times, Bool.and_eq_true] at h
            have := ih h.2
            have hb : sz b = 1 := by
              have := h.1
              cases b <;> simp [isWhole] at this
              simp
            have := sz_pos c
            simp [hb]
            omega
          · by_cases h2 : w = "plus" ∨ w = "minus"
            · rw [isExpr_op h2, Bool.and_eq_true] at h
              have := ih h.1
              have := ih h.2
              simp
              omega
            · simp only [not_or] at h2
              simp [isExpr, h1, h2.1, h2.2] at h
        | _ => simp [isExpr] at h
      · simp [isExpr] at h
    | str s => simp; omega
    | int i => simp; omega
    | none => simp; omega
    | bool b => simp; omega
    | list xs => simp [isExpr, isName, isWhole] at h
    | dict xs => simp; omega
theorem isExpr3_sz {v : PyData} (h : isExpr 3 v = true) : sz v ≤ 14 := by
  have := isExpr_sz h
  simp at this
  omega
theorem isTest_sz : ∀ {k : Nat} {v : PyData}, isTest k v = true → sz v ≤ 30 + 2 * k := by
  have base : ∀ (w : Str) (xs : List PyData) (k : Nat), w ≠ "not" → isTest k (.tuple (.str w :: xs)) = true → sz (.tuple (.str w :: xs)) ≤ 30 := by
    intro w xs k hw h9
    have h : testBy (fun _ => false) (.tuple (.str w :: xs)) = true := by
      have h := h9
      cases k with
      | zero => simpa [isTest] using h
      | succ k =>
        simp only [isTest, testBy] at h ⊢
        split
        · rename_i e; rw [if_pos e] at h; exact h
        · rename_i e
          rw [if_neg e] at h
          split
          · rename_i e2; rw [if_pos e2] at h; exact h
          · rename_i e2; rw [if_neg e2, if_neg hw] at h; cases h
    clear h9
    simp only [testBy] at h
    split at h
    · rename_i e; subst e
      rcases xs with _ | ⟨a, _ | ⟨b, _ | ⟨c, r⟩⟩⟩
      · simp [two3] at h
      · simp [two3] at h
      · have h : isExpr 3 a = true ∧ isExpr 3 b = true := by simpa [two3] using h
        have h1 := isExpr3_sz h.1
        have h2 := isExpr3_sz h.2
        simp
        omega
      · simp [two3] at h
    · split at h
      · rename_i e; subst e
        rcases xs with _ | ⟨a, _ | ⟨b, _ | ⟨c, _ | ⟨d, r⟩⟩⟩⟩
        · simp [isRestT] at h
        · simp [isRestT] at h
        · simp [isRestT] at h
        · cases b with
          | int b =>
            simp only [isRestT, Bool.and_eq_true, decide_eq_true_eq] at h
            have h1 := isExpr3_sz h.1.1
            have hc : sz c = 1 := by
              have := h.2
              cases c <;> simp [isWhole] at this
              simp
            simp [hc]
            omega
          | _ => simp [isRestT] at h
        · simp [isRestT] at h
      · first | (rw [if_neg hw] at h; cases h) | cases h
  intro k
  induction k with
  | zero =>
    intro v h
    obtain ⟨w, xs, rfl, hn⟩ := isTest_form h
    by_cases hw : w = "not"
    · obtain ⟨k', t', h1, h2, h3⟩ := hn hw
      omega
    · have := base w xs 0 hw h
      omega
  | succ k ih =>
    intro v h
    obtain ⟨w, xs, rfl, hn⟩ := isTest_form h
    by_cases hw : w = "not"
    · obtain ⟨k', t', h1, rfl, h3⟩ := hn hw
      obtain rfl : k' = k := by omega
      have := ih h3
      simp
      omega
    · have := base w xs (k + 1) hw h
      omega
theorem okS_sz : ∀ {k : Nat}, (∀ {v : PyData}, okS k v = true → (sz v : Int) ≤ 40 * cntN k [v]) ∧ (∀ {xs : List PyData}, (∀ x ∈ xs, okS k x = true) → (szAll xs : Int) ≤ 40 * cntN k xs) := by
  intro k
  have all : ∀ {k : Nat}, (∀ {v : PyData}, okS k v = true → (sz v : Int) ≤ 40 * cntN k [v]) → (∀ {xs : List PyData}, (∀ x ∈ xs, okS k x = true) → (szAll xs : Int) ≤ 40 * cntN k xs) := by
    intro k h xs hx
    induction xs with
    | nil => simp [cntN_nil]
    | cons x xs ih =>
      have h1 := h (hx x (by simp))
      have h2 := ih fun y hy => hx y (by simp [hy])
      have h3 := cntN_app k [x] xs
      simp only [List.singleton_append] at h3
      rw [szAll_cons, h3]
      omega
  induction k with
  | zero => exact ⟨fun h => by simp [okS] at h, all fun h => by simp [okS] at h⟩
  | succ k ih =>
    have h1 : ∀ {v : PyData}, okS (k + 1) v = true → (sz v : Int) ≤ 40 * cntN (k + 1) [v] := by
      intro v h
      obtain ⟨hs, hb⟩ := okS_succ.1 h
      rw [cntN_one]
      rcases isStmt_cases hs with ⟨x, e, rfl, h1, h2⟩ | ⟨e, rfl, h1⟩ | ⟨t, y, n, rfl, h1⟩ | ⟨c, b, rfl, h1⟩ | rfl
      · have := isExpr3_sz h2
        have := isName_sz h1
        simp [blks]
        omega
      · have := isExpr3_sz h1
        simp [blks]
        omega
      · have := isTest_sz h1
        have := ih.2 (xs := y) fun x hx => hb (.tuple y) (by simp [blks]) x hx
        have := ih.2 (xs := n) fun x hx => hb (.tuple n) (by simp [blks]) x hx
        simp [blks, tItems]
        omega
      · have := ih.2 (xs := b) fun x hx => hb (.tuple b) (by simp [blks]) x hx
        simp [blks, tItems]
        omega
      · simp [blks]
    exact ⟨h1, all h1⟩
theorem ok_an {xs : List PyData} (h : ∀ x ∈ xs, okS 4 x = true) (hn : cntN 4 xs ≤ 24) : An 1057 17 (.tuple xs) := by
  have h3 := okS_sz.2 h
  refine ⟨by rw [pl_tup]; exact fun y hy => (okS_pl (h y hy)).1, by simp; omega, ?_⟩
  have := depthAll_le (n := 16) fun y hy => Nat.le_trans (okS_pl (h y hy)).2 (by omega)
  simp
  omega
end Wh


set_option Elab.async false
set_option linter.all false
set_option maxRecDepth 100000
set_option maxHeartbeats 4000000
namespace Wh
open PySem PySem.Spec PyProof.Rows L2 Wh.C
/-! ### classes, for simp -/
@[simp] theorem cfg_mkc (T : Tab) (n np : Nat) (fz : Bool) (k : Str) : (cfgK T n np fz).mkc k = callF T (n - 1) (k ++ Str.ofString ".__init__") := rfl
@[simp] theorem cfg_attr (T : Tab) (n np : Nat) (fz : Bool) : (cfgK T n np fz).attr = T.attr := rfl
@[simp] theorem v_meth {c : Cfg} {lk : List Nat} {ε : Env} {a : E} {m : Str} {es : List E} : ev c lk (.meth a m es) ε = (ev c lk a ε).bH fun (x, ε1) => match x with | .obj k _ => (evs c (lock lk a x) es ε1).bH fun (ds, ε2) => callWith (c.call (k ++ Str.ofString "." ++ m)) lk (a :: es) (x :: ds) ε2 | _ => none := by simp only [ev] <;> rfl
@[simp] theorem v_new {c : Cfg} {lk : List Nat} {ε : Env} {k : Str} {es : List E} : ev c lk (.new k es) ε = (evs c lk es ε).bH fun (ds, ε1) => if (impRoots es ds).Nodup then (c.mkc k (false :: argLks lk es ds) (.obj k [] :: ds)).bH fun (r, ds') => match r, ds' with | .p .none, o :: ds' => some (o, wback lk es ds ds' ε1) | _, _ => none else none := by simp only [ev] <;> rfl
@[simp] theorem stp_fld {k : Str} {fs : List (Str × D)} {f : Str} : (D.obj k fs).step (.fld f) = fs.lookup f := rfl
@[simp] theorem put_fld {k : Str} {fs : List (Str × D)} {f : Str} {v : D} : (D.obj k fs).put (.fld f) v = if fs.length < 1000 then some (.obj k (fldSet f v fs)) else none := rfl
@[simp] theorem stp_key {kvs : List (Key × D)} {k : Key} : (D.dic kvs).step (.key k) = dicGet kvs k := rfl
@[simp] theorem put_key {kvs : List (Key × D)} {k : Key} {v : D} : (D.dic kvs).put (.key k) v = some (.dic (dicPut kvs k v)) := rfl
@[simp] theorem stepOf_d {kvs : List (Key × D)} {k : PyData} : stepOf (.dic kvs) k = (keyOf k).map .key := by cases k <;> rfl
@[simp] theorem wbn_attr {lk : List Nat} {a1 : E} {f1 : Str} {es : List E} {d d' : D} {ds ds' : List D} {ε : Env} : wback lk ((.attr a1 f1) :: es) (d :: ds) (d' :: ds') ε = wback lk es ds ds' ε := by simp [wback]
@[simp] theorem aln_attrl {lk : List Nat} {a1 : E} {f1 : Str} {x : List D} : argLk lk (.attr a1 f1) (.lst x) = (root a1).isSome := by simp [argLk, root]
@[simp] theorem aln_attrd {lk : List Nat} {a1 : E} {f1 : Str} {x : List (Key × D)} : argLk lk (.attr a1 f1) (.dic x) = (root a1).isSome := by simp [argLk, root]
@[simp] theorem aln_attro {lk : List Nat} {a1 : E} {f1 : Str} {c : Str} {x : List (Str × D)} : argLk lk (.attr a1 f1) (.obj c x) = (root a1).isSome := by simp [argLk, root]
@[simp] theorem wbn_idx {lk : List Nat} {a1 i1 : E} {es : List E} {d d' : D} {ds ds' : List D} {ε : Env} : wback lk ((.idx a1 i1) :: es) (d :: ds) (d' :: ds') ε = wback lk es ds ds' ε := by simp [wback]
@[simp] theorem aln_idxl {lk : List Nat} {a1 i1 : E} {x : List D} : argLk lk (.idx a1 i1) (.lst x) = (root a1).isSome := by simp [argLk, root]
@[simp] theorem aln_idxd {lk : List Nat} {a1 i1 : E} {x : List (Key × D)} : argLk lk (.idx a1 i1) (.dic x) = (root a1).isSome := by simp [argLk, root]
@[simp] theorem aln_idxo {lk : List Nat} {a1 i1 : E} {c : Str} {x : List (Str × D)} : argLk lk (.idx a1 i1) (.obj c x) = (root a1).isSome := by simp [argLk, root]
end Wh


set_option Elab.async false
set_option linter.all false
set_option maxRecDepth 100000
set_option maxHeartbeats 4000000
namespace Wh
open PySem PySem.Spec PyProof.Rows L2 Wh.C
variable {T : Tab}
/-! ### what names stand for -/
def nmK (nm : List (Str × Int)) : List (Key × D) := nm.map fun p => (.inr p.1, .p (.int p.2))
def nmGet (nm : List (Str × Int)) (s : Str) : Int := (nm.lookup s).getD 0
def nmPut : List (Str × Int) → Str → Int → List (Str × Int)
  | [], s, i => [(s, i)]
  | (x, j) :: r, s, i => if x = s then (x, i) :: r else (x, j) :: nmPut r s i
theorem nmK_len (nm : List (Str × Int)) : (nmK nm).length = nm.length := by simp [nmK]
theorem nm_get (s : Str) : ∀ nm : List (Str × Int), dicGet (nmK nm) (.inr s) = (nm.lookup s).map fun i => .p (.int i)
  | [] => rfl
  | (x, j) :: r => by
    have ih := nm_get s r
    unfold nmK at ih ⊢
    simp only [List.map_cons, dicGet, Sum.inr.injEq, List.lookup_cons]
    by_cases h : x = s
    · subst h; simp
    · have h2 : (s == x) = false := beq_eq_false_iff_ne.mpr (Ne.symm h)
      rw [if_neg h, h2, ih]
theorem nm_put (s : Str) (i : Int) : ∀ nm : List (Str × Int), dicPut (nmK nm) (.inr s) (.p (.int i)) = nmK (nmPut nm s i)
  | [] => rfl
  | (x, j) :: r => by
    have ih := nm_put s i r
    unfold nmK at ih ⊢
    simp only [List.map_cons, dicPut, Sum.inr.injEq, nmPut]
    by_cases h : x = s
    · subst h; simp
    · rw [if_neg h, if_neg h, List.map_cons, ih]
theorem nmPut_len (s : Str) (i : Int) : ∀ nm : List (Str × Int), (nmPut nm s i).length ≤ nm.length + 1
  | [] => by simp [nmPut]
  | (x, j) :: r => by
    have := nmPut_len s i r
    unfold nmPut
    split <;> simp
    omega
@[simp] theorem bm_get {nm : List (Str × Int)} {s : Str} : bmV "get" (.dic (nmK nm)) [.p (.str s), .p (.int 0)] = some (.p (.int (nmGet nm s))) := by
  simp only [bmV, if_true, keyOf, Option.bind_some, nm_get, nmGet]
  cases nm.lookup s <;> rfl
/-- the value of an expression -/
def valE : Nat → List (Str × Int) → PyData → Int
  | 0, _, _ => 0
  | _ + 1, nm, .str s => nmGet nm s
  | _ + 1, _, .int i => i
  | k + 1, nm, .tuple [.str w, a, b] => if w = "times" then (match a with | .int i => i | _ => 0) * valE k nm b else if w = "plus" then valE k nm a + valE k nm b else valE k nm a - valE k nm b
  | _ + 1, _, _ => 0
structure HRun (T : Tab) : Prop where
  pl : HPl T
  value_of : T.fn "value_of" = some c_value_of
  is_true : T.fn "is_true" = some c_is_true
  init : T.fn "Course.__init__" = some c_Course_init
  parts : T.fn "Course.parts" = some c_Course_parts
  do_ : T.fn "Course.do" = some c_Course_do
  go : T.fn "Course.go" = some c_Course_go
  run : T.fn "run" = some c_run
  sign_of : T.fn "sign_of" = some c_sign_of
  sign : T.fn "sign" = some c_sign
  INPUT : T.glob "INPUT" = some (.str "n")
  a1 : T.attr "Course" "names" = true
  a2 : T.attr "Course" "total" = true
  a3 : T.attr "Course" "places" = true
  a4 : T.attr "Course" "is_stopped" = true
/-- the shapes of an expression -/
theorem isExpr_cases {k : Nat} {v : PyData} (h : isExpr (k + 1) v = true) : (∃ s, v = .str s) ∨ (∃ i, v = .int i) ∨ (∃ f e, v = .tuple [.str "times", .int f, e] ∧ -9 ≤ f ∧ f ≤ 9 ∧ isExpr k e = true) ∨ (∃ a b, v = .tuple [.str "plus", a, b] ∧ isExpr k a = true ∧ isExpr k b = true) ∨ (∃ a b, v = .tuple [.str "minus", a, b] ∧ isExpr k a = true ∧ isExpr k b = true) := by
  cases v with
  | tuple xs =>
    rcases xs with _ | ⟨a, _ | ⟨b, _ | ⟨c, _ | ⟨d, r⟩⟩⟩⟩
    · simp [isExpr] at h
    · simp [isExpr] at h
    · simp [isExpr] at h
    · cases a with
      | str w =>
        by_cases h1 : w = "times"
        · subst h1
          rw [isExpr_times, Bool.and_eq_true] at h
          obtain ⟨h1, h2⟩ := h
          cases b <;> simp [isWhole] at h1
          exact .inr (.inr (.inl ⟨_, _, rfl, h1.1, h1.2, h2⟩))
        · by_cases h2 : w = "plus" ∨ w = "minus"
          · rw [isExpr_op h2, Bool.and_eq_true] at h
            rcases h2 with rfl | rfl
            · exact .inr (.inr (.inr (.inl ⟨_, _, rfl, h.1, h.2⟩)))
            · exact .inr (.inr (.inr (.inr ⟨_, _, rfl, h.1, h.2⟩)))
          · simp only [not_or] at h2
            simp [isExpr, h1, h2.1, h2.2] at h
      | _ => simp [isExpr] at h
    · simp [isExpr] at h
  | str s => exact .inl ⟨s, rfl⟩
  | int i => exact .inr (.inl ⟨i, rfl⟩)
  | _ => simp [isExpr, isName, isWhole] at h
theorem s_value_of (H : HRun T) (nm : List (Str × Int)) (b : Bool) : ∀ (k : Nat) (e : PyData), isExpr k e = true → ∀ {m : Nat}, k ≤ m → callF T m "value_of" [false, b] [.p e, .dic (nmK nm)] = some (.p (.int (valE k nm e)), [.p e, .dic (nmK nm)])
  | 0, e, h, m, hm => by simp [isExpr] at h
  | k + 1, e, h, m, hm => by
    have ih := fun e he => s_value_of H nm b k e he (m := m - 1) (by omega)
    rw [run_at H.value_of (by omega)]
    apply W.eq
    rcases isExpr_cases h with ⟨s, rfl⟩ | ⟨i, rfl⟩ | ⟨f, e, rfl, h1, h2, h3⟩ | ⟨x, y, rfl, h1, h2⟩ | ⟨x, y, rfl, h1, h2⟩
    · simp [c_value_of, valE]
    · simp [c_value_of, valE]
    · have hcb : f.natAbs < 18446744073709551616 := by omega
      cases b <;> simp [c_value_of, valE, ih e h3, hcb]
    · cases b <;> simp [c_value_of, valE, ih x h1, ih y h2]
    · cases b <;> simp [c_value_of, valE, ih x h1, ih y h2]
end Wh


set_option Elab.async false
set_option linter.all false
set_option maxRecDepth 100000
set_option maxHeartbeats 4000000
namespace Wh
open PySem PySem.Spec PyProof.Rows L2 Wh.C
variable {T : Tab}
/-! ### tests -/
theorem isTest_cases {k : Nat} {t : PyData} (h : isTest k t = true) : (∃ a b, t = .tuple [.str "less", a, b] ∧ isExpr 3 a = true ∧ isExpr 3 b = true) ∨ (∃ a b r, t = .tuple [.str "rest", a, .int b, .int r] ∧ isExpr 3 a = true ∧ 2 ≤ b ∧ b ≤ 6 ∧ 0 ≤ r ∧ r < b) ∨ (∃ k' x, k = k' + 1 ∧ t = .tuple [.str "not", x] ∧ isTest k' x = true) := by
  obtain ⟨w, xs, rfl, hn⟩ := isTest_form h
  by_cases hw : w = "not"
  · obtain ⟨k', t', e1, e2, e3⟩ := hn hw
    subst e2 hw
    exact .inr (.inr ⟨k', t', e1, rfl, e3⟩)
  · have h2 : testBy (fun _ => false) (.tuple (.str w :: xs)) = true := by
      cases k with
      | zero => simpa [isTest] using h
      | succ k =>
        simp only [isTest, testBy] at h ⊢
        split
        · rename_i e; rw [if_pos e] at h; exact h
        · rename_i e
          rw [if_neg e] at h
          split
          · rename_i e2; rw [if_pos e2] at h; exact h
          · rename_i e2; rw [if_neg e2, if_neg hw] at h; cases h
    clear h hn
    simp only [testBy] at h2
    split at h2
    · rename_i e
      rcases xs with _ | ⟨a, _ | ⟨b, _ | ⟨c, r⟩⟩⟩
      · simp [two3] at h2
      · simp [two3] at h2
      · have h2 : isExpr 3 a = true ∧ isExpr 3 b = true := by simpa [two3] using h2
        subst e
        exact .inl ⟨a, b, rfl, h2.1, h2.2⟩
      · simp [two3] at h2
    · split at h2
      · rename_i e
        rcases xs with _ | ⟨a, _ | ⟨b, _ | ⟨c, _ | ⟨d, r⟩⟩⟩⟩
        · simp [isRestT] at h2
        · simp [isRestT] at h2
        · simp [isRestT] at h2
        · cases b with
          | int b =>
            simp only [isRestT, Bool.and_eq_true, decide_eq_true_eq] at h2
            obtain ⟨⟨p1, p2, p3⟩, p4⟩ := h2
            cases c <;> simp [isWhole] at p4
            subst e
            exact .inr (.inl ⟨a, b, _, rfl, p1, p2, p3, p4.1, by omega⟩)
          | _ => simp [isRestT] at h2
        · simp [isRestT] at h2
      · first | (rw [if_neg hw] at h2; cases h2) | cases h2
def trueB (nm : List (Str × Int)) : PyData → Bool
  | .tuple [_, a, b] => decide (valE 3 nm a < valE 3 nm b)
  | .tuple [_, a, .int b, .int r] => decide (valE 3 nm a % b = r)
  | _ => false
def trueT : Nat → List (Str × Int) → PyData → Bool
  | k + 1, nm, .tuple [_, x] => !trueT k nm x
  | _, nm, t => trueB nm t
theorem trueT_less {k : Nat} {nm : List (Str × Int)} {w a b : PyData} : trueT k nm (.tuple [w, a, b]) = decide (valE 3 nm a < valE 3 nm b) := by cases k <;> rfl
theorem trueT_rest {k : Nat} {nm : List (Str × Int)} {w a : PyData} {b r : Int} : trueT k nm (.tuple [w, a, .int b, .int r]) = decide (valE 3 nm a % b = r) := by cases k <;> rfl
theorem trueT_not {k : Nat} {nm : List (Str × Int)} {w x : PyData} : trueT (k + 1) nm (.tuple [w, x]) = !trueT k nm x := rfl
theorem s_is_true (H : HRun T) (nm : List (Str × Int)) (b : Bool) : ∀ (k : Nat) (t : PyData), isTest k t = true → ∀ {m : Nat}, k + 4 ≤ m → callF T m "is_true" [false, b] [.p t, .dic (nmK nm)] = some (.p (.bool (trueT k nm t)), [.p t, .dic (nmK nm)])
  | k, t, h, m, hm => by
    have hv := fun e he => s_value_of H nm b 3 e he (m := m - 1) (by omega)
    rw [run_at H.is_true (by omega)]
    apply W.eq
    rcases isTest_cases h with ⟨x, y, rfl, h1, h2⟩ | ⟨x, c, r, rfl, h1, h2, h3, h4, h5⟩ | ⟨k', x, rfl, rfl, h1⟩
    · rw [trueT_less]
      cases b <;> simp [c_is_true, hv x h1, hv y h2]
    · rw [trueT_rest]
      have hc : 0 < c := by omega
      cases b <;> simp [c_is_true, hv x h1, hc]
    · rw [trueT_not]
      have ih := s_is_true H nm b k' x h1 (m := m - 1) (by omega)
      cases b <;> simp [c_is_true, ih]
/-! ### a run as it goes on -/
structure Ru where
  nm : List (Str × Int)
  tot : Int
  pl : List Int
  stop : Bool
def partsQ (q : Nat) (nm : List (Str × Int)) (x : PyData) (p : Int) : List (List PyData × Int) := match x with
  | .tuple [_, .int c, .tuple b] => List.replicate c.toNat (b, p + 1)
  | .tuple [_, t, .tuple y, .tuple n] => if trueT 2 nm t then [(y, p + 1)] else [(n, p + 1 + cntN q y)]
  | _ => []
def exL (ex1 : PyData → Int → Ru → Ru) (cnt : PyData → Int) : List PyData → Int → Ru → Ru
  | [], _, s => s
  | x :: xs, p, s => if s.stop then s else exL ex1 cnt xs (p + cnt x) (ex1 x p s)
def exQ : Nat → PyData → Int → Ru → Ru
  | 0, _, _, s => s
  | q + 1, x, p, s => match x with
    | .tuple [_] => { s with pl := s.pl ++ [p], stop := true }
    | .tuple [_, e] => { s with pl := s.pl ++ [p], tot := s.tot + valE 3 s.nm e }
    | .tuple [_, .str y, e] => { s with pl := s.pl ++ [p], nm := nmPut s.nm y (valE 3 s.nm e) }
    | x => (partsQ q s.nm x p).foldl (fun s bp => exL (exQ q) (fun x => cntN q [x]) bp.1 bp.2 s) { s with pl := s.pl ++ [p] }
def exB (q : Nat) : List PyData → Int → Ru → Ru := exL (exQ q) fun x => cntN q [x]
theorem exL_stop {ex1 : PyData → Int → Ru → Ru} {cnt : PyData → Int} {xs : List PyData} {p : Int} {s : Ru} (h : s.stop = true) : exL ex1 cnt xs p s = s := by
  cases xs with
  | nil => rfl
  | cons x xs => simp [exL, h]
/-! how far a run may go: so many places and names more, and no number greater than so -/
def Bd (M : Nat) (s : Ru) : Prop := s.tot.natAbs ≤ M ∧ ∀ p ∈ s.nm, p.2.natAbs ≤ M
structure Gr (s s' : Ru) (w : Nat) : Prop where
  pl : s'.pl.length ≤ s.pl.length + w
  nm : s'.nm.length ≤ s.nm.length + w
  mag : ∀ M, 99 ≤ M → Bd M s → Bd (82 ^ w * M) s'
theorem Gr.refl (s : Ru) : Gr s s 0 := ⟨by omega, by omega, fun M _ h => by simpa using h⟩
theorem Bd.mono {M N : Nat} {s : Ru} (h : Bd M s) (hn : M ≤ N) : Bd N s := ⟨Nat.le_trans h.1 hn, fun p hp => Nat.le_trans (h.2 p hp) hn⟩
theorem Gr.mono {s s' : Ru} {w w' : Nat} (h : Gr s s' w) (hw : w ≤ w') : Gr s s' w' :=
  ⟨by have := h.pl; omega, by have := h.nm; omega, fun M hM hb => (h.mag M hM hb).mono (Nat.mul_le_mul_right _ (Nat.pow_le_pow_right (by omega) hw))⟩
theorem Gr.trans {s s1 s2 : Ru} {w v : Nat} (h : Gr s s1 w) (g : Gr s1 s2 v) : Gr s s2 (w + v) := by
  refine ⟨by have := h.pl; have := g.pl; omega, by have := h.nm; have := g.nm; omega, fun M hM hb => ?_⟩
  have h1 := h.mag M hM hb
  have h2 : 99 ≤ 82 ^ w * M := Nat.le_trans hM (Nat.le_mul_of_pos_left _ (Nat.pow_pos (by omega)))
  have := g.mag _ h2 h1
  rwa [show 82 ^ (w + v) * M = 82 ^ v * (82 ^ w * M) by rw [Nat.pow_add, Nat.mul_comm (82 ^ w), Nat.mul_assoc]]
theorem nmGet_le {M : Nat} (s : Str) : ∀ {nm : List (Str × Int)}, (∀ p ∈ nm, p.2.natAbs ≤ M) → (nmGet nm s).natAbs ≤ M
  | [], _ => by simp [nmGet]
  | (x, j) :: r, h => by
    have ih := nmGet_le s (nm := r) fun p hp => h p (by simp [hp])
    have h0 := h (x, j) (by simp)
    unfold nmGet at ih ⊢
    rw [List.lookup_cons]
    split
    · exact h0
    · exact ih
theorem nmPut_le {M : Nat} {s : Str} {i : Int} (hi : i.natAbs ≤ M) : ∀ {nm : List (Str × Int)}, (∀ p ∈ nm, p.2.natAbs ≤ M) → ∀ p ∈ nmPut nm s i, p.2.natAbs ≤ M
  | [], _, p, hp => by simp [nmPut] at hp; subst hp; exact hi
  | (x, j) :: r, h, p, hp => by
    unfold nmPut at hp
    split at hp
    · rcases List.mem_cons.1 hp with rfl | hp
      · exact hi
      · exact h p (by simp [hp])
    · rcases List.mem_cons.1 hp with rfl | hp
      · exact h _ (by simp)
      · exact nmPut_le hi (fun p hp => h p (by simp [hp])) p hp
theorem valE_le {M : Nat} {nm : List (Str × Int)} (hM : 99 ≤ M) (hn : ∀ p ∈ nm, p.2.natAbs ≤ M) : ∀ (k : Nat) (e : PyData), isExpr (k + 1) e = true → (valE (k + 1) nm e).natAbs ≤ 9 ^ k * M
  | k, e, h => by
    have h9 : 1 ≤ 9 ^ k := Nat.pow_pos (by omega)
    have hm1 : M ≤ 9 ^ k * M := Nat.le_mul_of_pos_left _ (by omega)
    have hsub : ∀ e, isExpr k e = true → 1 ≤ k ∧ 9 * (valE k nm e).natAbs ≤ 9 ^ k * M := by
      intro e he
      cases k with
      | zero => simp [isExpr] at he
      | succ k =>
        have := valE_le hM hn k e he
        refine ⟨by omega, ?_⟩
        rw [Nat.pow_succ, Nat.mul_comm (9 ^ k) 9, Nat.mul_assoc]
        omega
    have h0 := h
    rcases isExpr_cases h with ⟨s, rfl⟩ | ⟨i, rfl⟩ | ⟨f, e, rfl, h1, h2, h3⟩ | ⟨x, y, rfl, h1, h2⟩ | ⟨x, y, rfl, h1, h2⟩
    · have := nmGet_le s hn
      simp only [valE]
      omega
    · have : isWhole (.int i) (-99) 99 = true := by simpa [isExpr, isName] using h0
      simp [isWhole] at this
      simp only [valE]
      omega
    · obtain ⟨_, h4⟩ := hsub e h3
      have : (valE (k + 1) nm (.tuple [.str "times", .int f, e])) = f * valE k nm e := by simp [valE]
      rw [this, Int.natAbs_mul]
      have : f.natAbs * (valE k nm e).natAbs ≤ 9 * (valE k nm e).natAbs := Nat.mul_le_mul_right _ (by omega)
      omega
    · obtain ⟨_, h4⟩ := hsub x h1
      obtain ⟨_, h5⟩ := hsub y h2
      have : (valE (k + 1) nm (.tuple [.str "plus", x, y])) = valE k nm x + valE k nm y := by simp [valE]
      rw [this]
      omega
    · obtain ⟨_, h4⟩ := hsub x h1
      obtain ⟨_, h5⟩ := hsub y h2
      have : (valE (k + 1) nm (.tuple [.str "minus", x, y])) = valE k nm x - valE k nm y := by simp [valE]
      rw [this]
      omega
end Wh


set_option Elab.async false
set_option linter.all false
set_option maxRecDepth 100000
set_option maxHeartbeats 4000000
namespace Wh
open PySem PySem.Spec PyProof.Rows L2 Wh.C
variable {T : Tab}
/-! ### how much is executed at most -/
def wtQ : Nat → PyData → Nat
  | 0, _ => 0
  | q + 1, x => match x with
    | .tuple [_, .int c, .tuple b] => 1 + c.toNat * (b.map (wtQ q)).sum
    | .tuple [_, _, .tuple y, .tuple n] => 1 + ((y.map (wtQ q)).sum + (n.map (wtQ q)).sum)
    | _ => 1
def wtB (q : Nat) (xs : List PyData) : Nat := (xs.map (wtQ q)).sum
theorem wt_cnt : ∀ (q : Nat) (xs : List PyData), (∀ x ∈ xs, okS q x = true) → (wtB q xs : Int) = cntB "weight" q xs
  | 0, xs, h => by
    have : xs = [] := by
      cases xs with
      | nil => rfl
      | cons x xs => simpa [okS] using h x (by simp)
    subst this
    simp [wtB, cntB]
  | q + 1, [], h => by simp [wtB, cntB]
  | q + 1, x :: xs, h => by
    have ih := wt_cnt (q + 1) xs fun y hy => h y (by simp [hy])
    have e1 : wtB (q + 1) (x :: xs) = wtQ (q + 1) x + wtB (q + 1) xs := by simp [wtB]
    have e2 := cntB_app "weight" (q + 1) [x] xs
    rw [List.singleton_append] at e2
    rw [e1, e2, Int.natCast_add, ih, cntB_one]
    congr 1
    obtain ⟨hs, hb⟩ := okS_succ.1 (h x (by simp))
    have hk := fun b (hbm : .tuple b ∈ blks x) => wt_cnt q b fun y hy => hb (.tuple b) hbm y hy
    rcases isStmt_cases hs with ⟨y, e, rfl, h1, _⟩ | ⟨e, rfl, _⟩ | ⟨t, y, n, rfl, _⟩ | ⟨c, b, rfl, h1, h2⟩ | rfl
    · obtain ⟨z, rfl, _⟩ := isName_str h1
      simp [wtQ, blks, own]
    · simp [wtQ, blks, own]
    · have h1 := hk y (by simp [blks])
      have h2 := hk n (by simp [blks])
      simp only [wtB] at h1 h2
      simp [wtQ, blks, own, tItems, times, ← h1, ← h2]
    · have h3 := hk b (by simp [blks])
      simp only [wtB] at h3
      have : (c.toNat : Int) = c := by omega
      simp [wtQ, blks, own, tItems, times, ← h3, this, Int.mul_comm]
    · simp [wtQ, blks, own]
theorem Gr.one {s s' : Ru} {i : Int} (h1 : s'.pl = s.pl ++ [i]) (h2 : s'.nm.length ≤ s.nm.length + 1) (h3 : ∀ M, 99 ≤ M → Bd M s → Bd (82 * M) s') : Gr s s' 1 :=
  ⟨by rw [h1]; simp, h2, fun M hM hb => by simpa using h3 M hM hb⟩
theorem gr_L {q : Nat} (hq : ∀ (x : PyData) (p : Int) (s : Ru), okS q x = true → Gr s (exQ q x p s) (wtQ q x)) : ∀ (xs : List PyData) (p : Int) (s : Ru), (∀ x ∈ xs, okS q x = true) → Gr s (exB q xs p s) (wtB q xs)
  | [], p, s, _ => (Gr.refl s).mono (by simp)
  | x :: xs, p, s, h => by
    unfold exB
    simp only [exL]
    split
    · exact (Gr.refl s).mono (by omega)
    · have := (hq x p s (h x (by simp))).trans (gr_L hq xs (p + cntN q [x]) (exQ q x p s) fun y hy => h y (by simp [hy]))
      have e : wtB q (x :: xs) = wtQ q x + wtB q xs := by simp [wtB]
      rw [e]
      exact this
theorem gr_fold {q : Nat} {b : List PyData} {p : Int} (hb : ∀ s, Gr s (exB q b p s) (wtB q b)) : ∀ (n : Nat) (s : Ru), Gr s ((List.replicate n (b, p)).foldl (fun s bp => exB q bp.1 bp.2 s) s) (n * wtB q b)
  | 0, s => by simpa using Gr.refl s
  | n + 1, s => by
    rw [List.replicate_succ, List.foldl_cons, Nat.succ_mul, Nat.add_comm]
    exact (hb s).trans (gr_fold hb n _)
theorem ex_set {q : Nat} {w e : PyData} {z : Str} {p : Int} {s : Ru} : exQ (q + 1) (.tuple [w, .str z, e]) p s = { s with pl := s.pl ++ [p], nm := nmPut s.nm z (valE 3 s.nm e) } := by simp [exQ]
theorem ex_pay {q : Nat} {w e : PyData} {p : Int} {s : Ru} : exQ (q + 1) (.tuple [w, e]) p s = { s with pl := s.pl ++ [p], tot := s.tot + valE 3 s.nm e } := by simp [exQ]
theorem ex_stop {q : Nat} {w : PyData} {p : Int} {s : Ru} : exQ (q + 1) (.tuple [w]) p s = { s with pl := s.pl ++ [p], stop := true } := by simp [exQ]
theorem ex_if {q : Nat} {w t : PyData} {y n : List PyData} {p : Int} {s : Ru} : exQ (q + 1) (.tuple [w, t, .tuple y, .tuple n]) p s = (if trueT 2 s.nm t then exB q y (p + 1) { s with pl := s.pl ++ [p] } else exB q n (p + 1 + cntN q y) { s with pl := s.pl ++ [p] }) := by
  simp only [exQ, partsQ]
  split <;> rfl
theorem ex_rep {q : Nat} {w : PyData} {c : Int} {b : List PyData} {p : Int} {s : Ru} : exQ (q + 1) (.tuple [w, .int c, .tuple b]) p s = (List.replicate c.toNat (b, p + 1)).foldl (fun s bp => exB q bp.1 bp.2 s) { s with pl := s.pl ++ [p] } := by
  simp only [exQ, partsQ]
  rfl
theorem gr_Q : ∀ (q : Nat) (x : PyData) (p : Int) (s : Ru), okS q x = true → Gr s (exQ q x p s) (wtQ q x)
  | 0, x, p, s, h => by simp [okS] at h
  | q + 1, x, p, s, h => by
    obtain ⟨hs, hb⟩ := okS_succ.1 h
    have hB := fun b (hbm : .tuple b ∈ blks x) p s => gr_L (gr_Q q) b p s fun y hy => hb (.tuple b) hbm y hy
    have g1 : Gr s { s with pl := s.pl ++ [p] } 1 := Gr.one rfl (by simp) fun M hM hb => hb.mono (by omega)
    rcases isStmt_cases hs with ⟨y, e, rfl, h1, h2⟩ | ⟨e, rfl, h1⟩ | ⟨t, y, n, rfl, _⟩ | ⟨c, b, rfl, h1, h2⟩ | rfl
    · obtain ⟨z, rfl, _⟩ := isName_str h1
      rw [ex_set, show wtQ (q + 1) (.tuple [.str "set", .str z, e]) = 1 by simp [wtQ]]
      refine Gr.one rfl (nmPut_len _ _ _) fun M hM hb => ?_
      have hv : (valE 3 s.nm e).natAbs ≤ 9 ^ 2 * M := valE_le hM hb.2 2 e h2
      have hb2 := hb.mono (show M ≤ 82 * M by omega)
      exact ⟨hb2.1, nmPut_le (by omega) hb2.2⟩
    · rw [ex_pay, show wtQ (q + 1) (.tuple [.str "pay", e]) = 1 by simp [wtQ]]
      refine Gr.one rfl (by simp) fun M hM hb => ?_
      have hv : (valE 3 s.nm e).natAbs ≤ 9 ^ 2 * M := valE_le hM hb.2 2 e h1
      have hb2 := hb.mono (show M ≤ 82 * M by omega)
      have := hb.1
      refine ⟨?_, hb2.2⟩
      show (s.tot + valE 3 s.nm e).natAbs ≤ _
      omega
    · have e1 := @ex_if q (.str "if") t y n p s
      have e2 : wtQ (q + 1) (.tuple [.str "if", t, .tuple y, .tuple n]) = 1 + (wtB q y + wtB q n) := by simp [wtQ, wtB]
      rw [e1, e2]
      split
      · exact (g1.trans (hB y (by simp [blks]) _ _)).mono (by omega)
      · exact (g1.trans (hB n (by simp [blks]) _ _)).mono (by omega)
    · have e1 := @ex_rep q (.str "repeat") c b p s
      have e2 : wtQ (q + 1) (.tuple [.str "repeat", .int c, .tuple b]) = 1 + c.toNat * wtB q b := by simp [wtQ, wtB]
      rw [e1, e2]
      exact g1.trans (gr_fold (fun s => hB b (by simp [blks]) _ s) _ _)
    · rw [ex_stop, show wtQ (q + 1) (.tuple [.str "stop"]) = 1 by simp [wtQ]]
      exact Gr.one rfl (by simp) fun M hM hb => hb.mono (by omega)
theorem gr_B (q : Nat) (xs : List PyData) (p : Int) (s : Ru) (h : ∀ x ∈ xs, okS q x = true) : Gr s (exB q xs p s) (wtB q xs) := gr_L (gr_Q q) xs p s h
end Wh


set_option Elab.async false
set_option linter.all false
set_option maxRecDepth 100000
set_option maxHeartbeats 4000000
namespace Wh
open PySem PySem.Spec PyProof.Rows L2 Wh.C
variable {T : Tab}
/-! ### Course -/
def plL (ps : List Int) : List D := ps.map fun i => .p (.int i)
def ruF (s : Ru) : List (Str × D) := [("names", .dic (nmK s.nm)), ("total", .p (.int s.tot)), ("places", .lst (plL s.pl)), ("is_stopped", .p (.bool s.stop))]
def ruD (s : Ru) : D := .obj "Course" (ruF s)
theorem lk_names (s : Ru) : (ruF s).lookup (Str.ofString "names") = some (.dic (nmK s.nm)) := rfl
theorem lk_total (s : Ru) : (ruF s).lookup (Str.ofString "total") = some (.p (.int s.tot)) := rfl
theorem lk_places (s : Ru) : (ruF s).lookup (Str.ofString "places") = some (.lst (plL s.pl)) := rfl
theorem lk_stop (s : Ru) : (ruF s).lookup (Str.ofString "is_stopped") = some (.p (.bool s.stop)) := rfl
theorem st_names (s : Ru) (nm : List (Str × Int)) : fldSet (Str.ofString "names") (.dic (nmK nm)) (ruF s) = ruF { s with nm := nm } := rfl
theorem st_total (s : Ru) (i : Int) : fldSet (Str.ofString "total") (.p (.int i)) (ruF s) = ruF { s with tot := i } := rfl
theorem st_places (s : Ru) (ps : List Int) : fldSet (Str.ofString "places") (.lst (plL ps)) (ruF s) = ruF { s with pl := ps } := rfl
theorem st_stop (s : Ru) (b : Bool) : fldSet (Str.ofString "is_stopped") (.p (.bool b)) (ruF s) = ruF { s with stop := b } := rfl
theorem len_ruF (s : Ru) : (ruF s).length = 4 := rfl
theorem plL_app (ps : List Int) (i : Int) : plL ps ++ [.p (.int i)] = plL (ps ++ [i]) := by simp [plL]
theorem plL_len (ps : List Int) : (plL ps).length = ps.length := by simp [plL]
theorem frz_LP {n np : Nat} {xs : List PyData} : frz (cfgK T n np true) (LP xs) = .p (.list xs) := by simp [LP, frz]
theorem n_go : (Str.ofString "Course" ++ Str.ofString "." ++ Str.ofString "go" : Str) = Str.ofString "Course.go" := by decide
theorem n_do : (Str.ofString "Course" ++ Str.ofString "." ++ Str.ofString "do" : Str) = Str.ofString "Course.do" := by decide
theorem n_parts : (Str.ofString "Course" ++ Str.ofString "." ++ Str.ofString "parts" : Str) = Str.ofString "Course.parts" := by decide
theorem n_init : (Str.ofString "Course" ++ Str.ofString ".__init__" : Str) = Str.ofString "Course.__init__" := by decide
theorem l_names1 : (Str.ofString "names" == Str.ofString "total") = false := by decide
/-- the parts as the program tells them -/
def bpD (bp : List PyData × Int) : PyData := .tuple [.tuple bp.1, .int bp.2]
theorem s_parts (H : HRun T) {q : Nat} {x : PyData} (h : okS (q + 1) x = true) (hb : blks x ≠ []) (hz : sz x ≤ 1000000) (s : Ru) (p : Int) {m : Nat} (hm : 2 * q + 8 ≤ m) : callF T m "Course.parts" [false, false, false] [ruD s, .p x, .p (.int p)] = some (.p (.list ((partsQ q s.nm x p).map bpD)), [ruD s, .p x, .p (.int p)]) := by
  obtain ⟨hs, hk⟩ := okS_succ.1 h
  have ht := fun t ht => s_is_true H s.nm true 2 t ht (m := m - 1) (by omega)
  have hbp := fun bs hb hz => (s_places H.pl q).2 bs hb hz (m := m - 1) (by omega)
  rw [run_at H.parts (by omega)]
  apply W.eq
  rcases isStmt_cases hs with ⟨y, e, rfl, _⟩ | ⟨e, rfl, _⟩ | ⟨t, y, n, rfl, h1⟩ | ⟨c, b, rfl, h1, h2⟩ | rfl
  · exact absurd (by simp [blks]) hb
  · exact absurd (by simp [blks]) hb
  · have hy := hbp y (fun z hz => hk (.tuple y) (by simp [blks]) z hz) (by simp at hz; omega)
    cases hv : trueT 2 s.nm t <;> simp [c_Course_parts, ruD, ruF, ht t h1, hv, hy, partsQ, retV, frz, D.fz, D.toP, toPs, bpD]
  · have hc1 : 0 ≤ c := by omega
    have hc2 : c ≤ 4000 := by omega
    simp [c_Course_parts, ruD, ruF, partsQ, retV, hc1, hc2]
    rw [frz_LP]
    simp [bpD]
  · exact absurd (by simp [blks]) hb
/-- Course.do and Course.go, by the nest -/
def DoSpec (T : Tab) (q : Nat) : Prop := ∀ (x : PyData) (p : Int) (s : Ru), okS q x = true → sz x ≤ 900000 → s.pl.length + wtQ q x ≤ 900 → s.nm.length + wtQ q x ≤ 900 → ∀ {m : Nat}, 2 * q + 9 ≤ m →
  callF T m "Course.do" [false, false, false] [ruD s, .p x, .p (.int p)] = some (.p .none, [ruD (exQ q x p s), .p x, .p (.int p)])
def GoSpec (T : Tab) (q : Nat) : Prop := ∀ (xs : List PyData) (p : Int) (s : Ru), (∀ x ∈ xs, okS q x = true) → szAll xs ≤ 900000 → s.pl.length + wtB q xs ≤ 900 → s.nm.length + wtB q xs ≤ 900 → ∀ {m : Nat}, 2 * q + 10 ≤ m →
  callF T m "Course.go" [false, false, false] [ruD s, .p (.tuple xs), .p (.int p)] = some (.p .none, [ruD (exB q xs p s), .p (.tuple xs), .p (.int (p + cntN q xs))])
theorem wtB_cons (q : Nat) (x : PyData) (xs : List PyData) : wtB q (x :: xs) = wtQ q x + wtB q xs := by simp [wtB]
theorem cntN_c (q : Nat) (x : PyData) (xs : List PyData) : cntN q (x :: xs) = cntN q [x] + cntN q xs := by
  have := cntN_app q [x] xs
  rwa [List.singleton_append] at this
theorem s_go (H : HRun T) (q : Nat) (hd : DoSpec T q) : GoSpec T q := by
  intro xs p s hx hz hl1 hl2 m hm
  have hpl := fun v hv hz => (s_places H.pl q).1 v hv hz (m := m - 1) (by omega)
  have hdo := fun x p s h1 h2 h3 h4 => hd x p s h1 h2 h3 h4 (m := m - 1) (by omega)
  rw [run_at H.go (by omega)]
  apply W.eq
  simp only [ruD] at hdo ⊢
  simp [c_Course_go]
  generalize hr : exB q xs p s = r
  generalize hr2 : p + cntN q xs = r2
  refine W_for (fun zs ε => ∃ p' s' x3, ε = [some (.obj "Course" (ruF s')), some (.p (.tuple xs)), some (.p (.int p')), x3] ∧ exB q zs p' s' = r ∧ p' + cntN q zs = r2 ∧ s'.pl.length + wtB q zs ≤ 900 ∧ s'.nm.length + wtB q zs ≤ 900 ∧ ∀ z ∈ zs, okS q z = true ∧ sz z ≤ 900000) _ _ ⟨p, s, none, rfl, hr, hr2, hl1, hl2, fun z hz' => ⟨hx z hz', by have := mem_sz hz'; omega⟩⟩ ?_ ?_
  · rintro z zs ε ⟨p', s', x3, rfl, g1, g2, g3, g4, g5⟩
    obtain ⟨hz1, hz2⟩ := g5 z (by simp)
    have g6 : ∀ z ∈ zs, okS q z = true ∧ sz z ≤ 900000 := fun z hz => g5 z (by simp [hz])
    rw [wtB_cons] at g3 g4
    rw [cntN_c] at g2
    have hgr := gr_Q q z p' s' hz1
    have h1 := hgr.pl
    have h2 := hgr.nm
    unfold exB at g1
    simp only [exL] at g1
    have hat := lk_stop s'
    cases hst : s'.stop with
    | true =>
      rw [hst] at g1 hat
      simp only [if_true] at g1
      simp [hat, hpl z hz1 (by omega), augV]
      exact .mk ⟨_, s', _, rfl, by unfold exB; rw [exL_stop hst]; exact g1, by omega, by omega, by omega, g6⟩
    | false =>
      rw [hst] at g1 hat
      simp only [Bool.false_eq_true, if_false] at g1
      simp [hat, n_do, hdo z p' s' hz1 (by omega) (by omega) (by omega), hpl z hz1 (by omega), augV]
      exact .mk ⟨_, exQ q z p' s', _, rfl, g1, by omega, by omega, by omega, g6⟩
  · rintro ε ⟨p', s', x3, rfl, g1, g2, g3, g4, g5⟩
    have g1 : s' = r := g1
    simp [cntN_nil] at g2
    subst g1 g2
    simp
def sumW (q : Nat) (bps : List (List PyData × Int)) : Nat := (bps.map fun bp => wtB q bp.1).sum
theorem s_do_blocks (H : HRun T) (q : Nat) (hg : GoSpec T q) {x : PyData} {p : Int} {s : Ru} {w : Str} {ws : List PyData} (h : okS (q + 1) x = true) (hz : sz x ≤ 900000) (hxf : x = .tuple (.str w :: ws)) (hw1 : w ≠ "set") (hw2 : w ≠ "pay") (hw3 : w ≠ "stop") (hbk : blks x ≠ [])
    (hpa : ∀ bp ∈ partsQ q s.nm x p, (∀ y ∈ bp.1, okS q y = true) ∧ szAll bp.1 ≤ 900000) (h1 : s.pl.length + (1 + sumW q (partsQ q s.nm x p)) ≤ 900) (h2 : s.nm.length + (1 + sumW q (partsQ q s.nm x p)) ≤ 900) {m : Nat} (hm : 2 * q + 11 ≤ m) :
    callF T m "Course.do" [false, false, false] [ruD s, .p x, .p (.int p)] = some (.p .none, [ruD ((partsQ q s.nm x p).foldl (fun s bp => exB q bp.1 bp.2 s) { s with pl := s.pl ++ [p] }), .p x, .p (.int p)]) := by
  have hpt := s_parts H h hbk (by omega) { s with pl := s.pl ++ [p] } p (m := m - 1) (by omega)
  have hgo := fun xs p s h1 h2 h3 h4 => hg xs p s h1 h2 h3 h4 (m := m - 1) (by omega)
  rw [run_at H.do_ (by omega)]
  apply W.eq
  have hpl : s.pl.length < sizeLine := by simp only [sizeLine]; omega
  have hplL : (plL s.pl).length < sizeLine := by rw [plL_len]; exact hpl
  simp only [ruD] at hgo hpt ⊢
  generalize hr : (partsQ q s.nm x p).foldl (fun s bp => exB q bp.1 bp.2 s) { s with pl := s.pl ++ [p] } = r
  have hix : getIx (.p x) (.p (.int 0)) = some (.p (.str w)) := by rw [hxf]; simp
  simp [c_Course_do, lk_places, hplL, plL_app, st_places, len_ruF, hix, hw1, hw2, hw3, n_parts, hpt]
  refine W_for (fun zs ε => ∃ bps s' x3 x4, zs = bps.map bpD ∧ ε = [some (.obj "Course" (ruF s')), some (.p x), some (.p (.int p)), x3, x4] ∧ bps.foldl (fun s bp => exB q bp.1 bp.2 s) s' = r ∧ s'.pl.length + sumW q bps ≤ 900 ∧ s'.nm.length + sumW q bps ≤ 900 ∧ ∀ bp ∈ bps, (∀ y ∈ bp.1, okS q y = true) ∧ szAll bp.1 ≤ 900000) _ _ ⟨partsQ q s.nm x p, { s with pl := s.pl ++ [p] }, none, none, rfl, rfl, hr, by simp; omega, by simp; omega, hpa⟩ ?_ ?_
  · rintro z zs ε ⟨bps, s', x3, x4, e1, rfl, g1, g2, g3, g4⟩
    cases bps with
    | nil => simp at e1
    | cons bp bps =>
      obtain ⟨b, i⟩ := bp
      simp only [List.map_cons, List.cons.injEq] at e1
      obtain ⟨rfl, rfl⟩ := e1
      obtain ⟨k1, k2⟩ := g4 (b, i) (by simp)
      simp only at k1 k2
      have g5 : ∀ bp ∈ bps, (∀ y ∈ bp.1, okS q y = true) ∧ szAll bp.1 ≤ 900000 := fun bp h => g4 bp (by simp [h])
      simp only [sumW, List.map_cons, List.sum_cons] at g2 g3
      have hgr := gr_B q b i s' k1
      have q1 := hgr.pl
      have q2 := hgr.nm
      simp [bpD, n_go, hgo b i s' k1 k2 (by omega) (by omega)]
      exact .mk ⟨bps, exB q b i s', _, _, rfl, rfl, g1, by simp only [sumW]; omega, by simp only [sumW]; omega, g5⟩
  · rintro ε ⟨bps, s', x3, x4, e1, rfl, g1, g2, g3, g4⟩
    cases bps with
    | nil =>
      have g1 : s' = r := g1
      subst g1
      simp
    | cons bp bps => simp at e1
theorem s_do (H : HRun T) (q : Nat) (hg : GoSpec T q) : DoSpec T (q + 1) := by
  intro x p s h hz hl1 hl2 m hm
  obtain ⟨hs, hk⟩ := okS_succ.1 h
  have hv := fun nm e he => s_value_of H nm true 3 e he (m := m - 1) (by omega)
  have hw1 : 1 ≤ wtQ (q + 1) x := by
    rcases isStmt_cases hs with ⟨y, e, rfl, h1, _⟩ | ⟨e, rfl, _⟩ | ⟨t, y, n, rfl, _⟩ | ⟨c, b, rfl, h1, h2⟩ | rfl
    · obtain ⟨z, rfl, _⟩ := isName_str h1
      simp [wtQ]
    · simp [wtQ]
    · simp [wtQ]
    · simp [wtQ]
    · simp [wtQ]
  have hpl : s.pl.length < sizeLine := by simp only [sizeLine]; omega
  have hnl : s.nm.length < 1000 := by omega
  have hplL : (plL s.pl).length < sizeLine := by rw [plL_len]; exact hpl
  have hnmL : (nmK s.nm).length < 1000 := by rw [nmK_len]; exact hnl
  have hst0 : ¬ newFld (cfgK T (m - 1) 3 true) (.obj "Course" (ruF { s with pl := s.pl ++ [p] })) "is_stopped" = true := by simp [newFld, lk_stop]
  rcases isStmt_cases hs with ⟨y, e, rfl, h1, h2⟩ | ⟨e, rfl, h1⟩ | ⟨t, y, n, rfl, h1⟩ | ⟨c, b, rfl, h1, h2⟩ | rfl
  · obtain ⟨z, rfl, _⟩ := isName_str h1
    rw [run_at H.do_ (by omega)]
    apply W.eq
    simp only [ruD]
    rw [ex_set]
    simp [c_Course_do, lk_places, lk_names, hplL, plL_app, st_places, len_ruF, hv _ e h2, hnmL, keyOf, nm_put, st_names]
  · rw [run_at H.do_ (by omega)]
    apply W.eq
    simp only [ruD]
    rw [ex_pay]
    simp [c_Course_do, lk_places, lk_names, lk_total, hplL, plL_app, st_places, st_total, len_ruF, hv _ e h1, augV]
  · have hw : wtQ (q + 1) (.tuple [.str "if", t, .tuple y, .tuple n]) = 1 + (wtB q y + wtB q n) := by simp [wtQ, wtB]
    rw [hw] at hl1 hl2
    have hsw : sumW q (partsQ q s.nm (.tuple [.str "if", t, .tuple y, .tuple n]) p) ≤ wtB q y + wtB q n := by
      simp only [partsQ]
      split <;> simp [sumW]
    have := s_do_blocks H q hg (p := p) (s := s) h hz rfl (by decide) (by decide) (by decide) (by simp [blks]) (by
      simp at hz
      simp only [partsQ]
      split
      · simp only [List.mem_singleton]
        rintro bp rfl
        exact ⟨fun z hz => hk (.tuple y) (by simp [blks]) z hz, by simp; omega⟩
      · simp only [List.mem_singleton]
        rintro bp rfl
        exact ⟨fun z hz => hk (.tuple n) (by simp [blks]) z hz, by simp; omega⟩) (by omega) (by omega) (m := m) (by omega)
    rw [this]
    simp only [exQ]
    rfl
  · have hw : wtQ (q + 1) (.tuple [.str "repeat", .int c, .tuple b]) = 1 + c.toNat * wtB q b := by simp [wtQ, wtB]
    rw [hw] at hl1 hl2
    have hsw : sumW q (partsQ q s.nm (.tuple [.str "repeat", .int c, .tuple b]) p) ≤ c.toNat * wtB q b := by
      simp [partsQ, sumW]
    have := s_do_blocks H q hg (p := p) (s := s) h hz rfl (by decide) (by decide) (by decide) (by simp [blks]) (by
      simp at hz
      simp only [partsQ, List.mem_replicate]
      rintro bp ⟨_, rfl⟩
      exact ⟨fun z hz => hk (.tuple b) (by simp [blks]) z hz, by simp; omega⟩) (by omega) (by omega) (m := m) (by omega)
    rw [this]
    simp only [exQ]
    rfl
  · rw [run_at H.do_ (by omega)]
    apply W.eq
    simp only [ruD]
    rw [ex_stop]
    simp [c_Course_do, lk_places, lk_names, lk_total, hplL, plL_app, st_places, st_stop, len_ruF, hst0]
theorem s_course (H : HRun T) : ∀ q, DoSpec T q ∧ GoSpec T q
  | 0 => by
    have : DoSpec T 0 := fun x p s h => by simp [okS] at h
    exact ⟨this, s_go H 0 this⟩
  | q + 1 => by
    have := s_do H q (s_course H q).2
    exact ⟨this, s_go H (q + 1) this⟩
end Wh


set_option Elab.async false
set_option linter.all false
set_option maxRecDepth 100000
set_option maxHeartbeats 4000000
namespace Wh
open PySem PySem.Spec PyProof.Rows L2 Wh.C
variable {T : Tab}
def ru0 (n : Int) : Ru := ⟨[("n", n)], 0, [], false⟩
theorem s_init (H : HRun T) (n : Int) {m : Nat} (hm : 1 ≤ m) : callF T m "Course.__init__" [false, false] [.obj "Course" [], .p (.int n)] = some (.p .none, [ruD (ru0 n), .p (.int n)]) := by
  rw [run_at H.init (by omega)]
  apply W.eq
  have e1 : fldSet (Str.ofString "names") (.dic [(.inr (Str.ofString "n"), .p (.int n))]) [] = [(Str.ofString "names", .dic [(.inr (Str.ofString "n"), .p (.int n))])] := rfl
  simp [c_Course_init, cstKeys, H.INPUT, keyOf, newFld, H.a1, H.a2, H.a3, H.a4, e1]
  exact ⟨fun _ => ⟨fun _ => rfl, (by decide : (3 : Nat) < 1000)⟩, (by decide : (2 : Nat) < 1000)⟩
@[simp] theorem allP_plL (ps : List Int) : allP (plL ps) = some (ps.map .int) := by
  have : plL ps = (ps.map PyData.int).map D.p := by simp [plL]
  rw [this, allP_mp]
/-- the run of a program on a number -/
def runR (xs : List PyData) (n : Int) : Ru := exB 4 xs 0 (ru0 n)
def runV (xs : List PyData) (n : Int) : PyData := .tuple [.int (runR xs n).tot, .tuple ((runR xs n).pl.map .int)]
structure Prg (xs : List PyData) : Prop where
  ok : ∀ x ∈ xs, okS 4 x = true
  sz : szAll xs ≤ 900000
  wt : wtB 4 xs ≤ 800
theorem s_run (H : HRun T) {xs : List PyData} (hx : Prg xs) (n : Int) {m : Nat} (hm : 20 ≤ m) : callF T m "run" [false, false] [.p (.tuple xs), .p (.int n)] = some (.p (runV xs n), [.p (.tuple xs), .p (.int n)]) := by
  have hi := s_init H n (m := m - 1 - 1) (by omega)
  have hg := (s_course H 4).2 xs 0 (ru0 n) hx.ok hx.sz (by have := hx.wt; simp [ru0]; omega) (by have := hx.wt; simp [ru0]; omega) (m := m - 1) (by omega)
  rw [run_at H.run (by omega)]
  apply W.eq
  rw [show exB 4 xs 0 (ru0 n) = runR xs n from rfl] at hg
  simp only [ruD] at hi hg
  simp [c_run, n_init, hi, n_go, hg, lk_total, lk_places, runV, D.ps?]
def signI (i : Int) : Int := if i < 0 then -1 else if 0 < i then 1 else 0
theorem s_sign_of (H : HRun T) (i : Int) {m : Nat} (hm : 1 ≤ m) : callF T m "sign_of" [false] [.p (.int i)] = some (.p (.int (signI i)), [.p (.int i)]) := by
  rw [run_at H.sign_of (by omega)]
  apply W.eq
  simp [c_sign_of, signI]
  by_cases h1 : i < 0
  · have h2 : ¬ 0 < i := by omega
    simp [h1, h2]
  · by_cases h2 : 0 < i <;> simp [h1, h2]
theorem s_sign (H : HRun T) {xs : List PyData} (hx : Prg xs) (n : Int) {m : Nat} (hm : 21 ≤ m) : callF T m "sign" [false, false] [.p (.tuple xs), .p (.int n)] = some (.p (.int (signI (runR xs n).tot)), [.p (.tuple xs), .p (.int n)]) := by
  rw [run_at H.sign (by omega)]
  apply W.eq
  have hr := s_run H hx n (m := m - 1) (by omega)
  simp [c_sign, hr, runV, s_sign_of H _ (m := m - 1) (by omega)]
end Wh


set_option Elab.async false
set_option linter.all false
set_option maxRecDepth 100000
set_option maxHeartbeats 4000000
namespace Wh
open PySem PySem.Spec PyProof.Rows L2 Wh.C
variable {T : Tab}
/-! ### the law's own walk of a run -/
structure HLr (T : Tab) : Prop where
  parts : T.fn "_law_parts" = some c__law_parts_k21
  size : T.fn "_law_size" = some c__law_size
  value : T.fn "_law_value" = some c__law_value_k25
  true_ : T.fn "_law_true" = some c__law_true
  go : T.fn "_law_go" = some c__law_go
  run : T.fn "_law_run" = some c__law_run
theorem l_value (H : HLr T) (nm : List (Str × Int)) (b : Bool) : ∀ (k : Nat) (e : PyData), isExpr k e = true → ∀ {m : Nat}, k ≤ m → callF T m "_law_value" [false, b] [.p e, .dic (nmK nm)] = some (.p (.int (valE k nm e)), [.p e, .dic (nmK nm)])
  | 0, e, h, m, hm => by simp [isExpr] at h
  | k + 1, e, h, m, hm => by
    have ih := fun e he => l_value H nm b k e he (m := m - 1) (by omega)
    rw [run_at H.value (by omega)]
    apply W.eq
    rcases isExpr_cases h with ⟨s, rfl⟩ | ⟨i, rfl⟩ | ⟨f, e, rfl, h1, h2, h3⟩ | ⟨x, y, rfl, h1, h2⟩ | ⟨x, y, rfl, h1, h2⟩
    · simp [c__law_value_k25, valE]
    · simp [c__law_value_k25, valE]
    · have hcb : f.natAbs < 18446744073709551616 := by omega
      cases b <;> simp [c__law_value_k25, valE, ih e h3, hcb]
    · cases b <;> simp [c__law_value_k25, valE, ih x h1, ih y h2]
    · cases b <;> simp [c__law_value_k25, valE, ih x h1, ih y h2]
theorem mod_shift {v b r : Int} (hb : 0 < b) (h0 : 0 ≤ r) (h1 : r < b) : ((v - r) % b = 0) ↔ (v % b = r) := by
  constructor
  · intro h
    have : v = (v - r) / b * b + r := by
      have := Int.emod_add_mul_ediv (v - r) b
      rw [h] at this
      have e : (v - r) / b * b = b * ((v - r) / b) := Int.mul_comm _ _
      omega
    rw [this, Int.mul_add_emod_self_right]
    exact Int.emod_eq_of_lt h0 h1
  · intro h
    rw [Int.sub_emod, h, Int.emod_eq_of_lt h0 h1]
    simp
theorem l_true (H : HLr T) (nm : List (Str × Int)) (b : Bool) : ∀ (k : Nat) (t : PyData), isTest k t = true → ∀ {m : Nat}, k + 4 ≤ m → callF T m "_law_true" [false, b] [.p t, .dic (nmK nm)] = some (.p (.bool (trueT k nm t)), [.p t, .dic (nmK nm)])
  | k, t, h, m, hm => by
    have hv := fun e he => l_value H nm b 3 e he (m := m - 1) (by omega)
    rw [run_at H.true_ (by omega)]
    apply W.eq
    rcases isTest_cases h with ⟨x, y, rfl, h1, h2⟩ | ⟨x, c, r, rfl, h1, h2, h3, h4, h5⟩ | ⟨k', x, rfl, rfl, h1⟩
    · rw [trueT_less]
      cases b <;> simp [c__law_true, hv x h1, hv y h2]
    · rw [trueT_rest]
      have hc : 0 < c := by omega
      have hms := mod_shift (v := valE 3 nm x) hc h4 h5
      cases b <;> simp [c__law_true, hv x h1, hc, hms]
    · rw [trueT_not]
      have ih := l_true H nm b k' x h1 (m := m - 1) (by omega)
      cases b <;> simp [c__law_true, ih]
def stK (s : Ru) : List (Key × D) := [(.inr "names", .dic (nmK s.nm)), (.inr "total", .p (.int s.tot)), (.inr "places", .lst (plL s.pl))]
theorem gk_names (s : Ru) : dicGet (stK s) (.inr (Str.ofString "names")) = some (.dic (nmK s.nm)) := rfl
theorem gk_total (s : Ru) : dicGet (stK s) (.inr (Str.ofString "total")) = some (.p (.int s.tot)) := rfl
theorem gk_places (s : Ru) : dicGet (stK s) (.inr (Str.ofString "places")) = some (.lst (plL s.pl)) := rfl
theorem sk_names (s : Ru) (nm : List (Str × Int)) : dicPut (stK s) (.inr (Str.ofString "names")) (.dic (nmK nm)) = stK { s with nm := nm } := rfl
theorem sk_total (s : Ru) (i : Int) : dicPut (stK s) (.inr (Str.ofString "total")) (.p (.int i)) = stK { s with tot := i } := rfl
theorem sk_places (s : Ru) (ps : List Int) : dicPut (stK s) (.inr (Str.ofString "places")) (.lst (plL ps)) = stK { s with pl := ps } := rfl
theorem len_stK (s : Ru) : (stK s).length = 3 := rfl
theorem fold_stop (q : Nat) : ∀ (bps : List (List PyData × Int)) (s : Ru), s.stop = true → bps.foldl (fun s bp => exB q bp.1 bp.2 s) s = s
  | [], _, _ => rfl
  | bp :: bps, s, h => by
    rw [List.foldl_cons, show exB q bp.1 bp.2 s = s from exL_stop h]
    exact fold_stop q bps s h
def LgSpec (T : Tab) (q : Nat) : Prop := ∀ (xs : List PyData) (p : Int) (s : Ru), s.stop = false → (∀ x ∈ xs, okS q x = true) → szAll xs ≤ 900000 → s.pl.length + wtB q xs ≤ 900 → s.nm.length + wtB q xs ≤ 900 → ∀ {m : Nat}, q + 10 ≤ m →
  W (callF T m "_law_go" [false, false, false] [.dic (stK s), .p (.tuple xs), .p (.int p)]) fun a => ∃ z, a = (.p (.bool (exB q xs p s).stop), [.dic (stK (exB q xs p s)), .p (.tuple xs), .p (.int z)])
end Wh


set_option Elab.async false
set_option linter.all false
set_option maxRecDepth 100000
set_option maxHeartbeats 4000000
namespace Wh
open PySem PySem.Spec PyProof.Rows L2 Wh.C
variable {T : Tab}
@[simp] theorem lp_itV {lk : List Nat} {e : E} {xs : List PyData} : itV lk e (LP xs) = some (xs, itLk lk e (LP xs)) := by
  have h : (D.lst (xs.map D.p)).ps? = some xs := by simp
  show ((D.lst (xs.map D.p)).ps?.map fun ds => (ds, itLk lk e (D.lst (xs.map D.p)))) = _
  rw [h]
  rfl
theorem gi_names (s : Ru) : getIx (.dic (stK s)) (.p (.str (Str.ofString "names"))) = some (.dic (nmK s.nm)) := rfl
theorem gi_total (s : Ru) : getIx (.dic (stK s)) (.p (.str (Str.ofString "total"))) = some (.p (.int s.tot)) := rfl
theorem gi_places (s : Ru) : getIx (.dic (stK s)) (.p (.str (Str.ofString "places"))) = some (.lst (plL s.pl)) := rfl
theorem exB_cons {q : Nat} {x : PyData} {xs : List PyData} {p : Int} {s : Ru} (h : s.stop = false) : exB q (x :: xs) p s = exB q xs (p + cntN q [x]) (exQ q x p s) := by
  unfold exB
  simp [exL, h]
theorem exB_stop {q : Nat} {xs : List PyData} {p : Int} {s : Ru} (h : s.stop = true) : exB q xs p s = s := exL_stop h
theorem l_go (H : HLr T) : ∀ q, LgSpec T q
  | 0 => by
    intro xs p s hs hx hz h1 h2 m hm
    have : xs = [] := by
      cases xs with
      | nil => rfl
      | cons x xs => simpa [okS] using hx x (by simp)
    subst this
    rw [run_at H.go (by omega)]
    have e : exB 0 [] p s = s := rfl
    rw [e, hs]
    simp [c__law_go, for_nil]
  | q + 1 => by
    intro xs p s hs hx hz h1 h2 m hm
    have ih := fun b i s h1 h2 h3 h4 h5 => l_go H q b i s h1 h2 h3 h4 h5 (m := m - 1) (by omega)
    have hsz1 := fun bs hb hz => l_size H.parts H.size (q + 1) bs hb hz (m := m - 1) (by omega)
    have hszq := fun bs hb hz => l_size H.parts H.size q bs hb hz (m := m - 1) (by omega)
    have hv := fun nm e he => l_value H nm true 3 e he (m := m - 1) (by omega)
    have ht := fun nm t ht => l_true H nm true 2 t ht (m := m - 1) (by omega)
    rw [run_at H.go (by omega)]
    generalize hr : exB (q + 1) xs p s = r
    simp [c__law_go]
    refine W_for (fun zs ε => ∃ p' s' x3 x4 x5 x6 x7, ε = [some (.dic (stK s')), some (.p (.tuple xs)), some (.p (.int p')), x3, x4, x5, x6, x7] ∧ s'.stop = false ∧ exB (q + 1) zs p' s' = r ∧ s'.pl.length + wtB (q + 1) zs ≤ 900 ∧ s'.nm.length + wtB (q + 1) zs ≤ 900 ∧ ∀ z ∈ zs, okS (q + 1) z = true ∧ sz z ≤ 900000) _ _ ⟨p, s, none, none, none, none, none, rfl, hs, hr, h1, h2, fun z hz' => ⟨hx z hz', by have := mem_sz hz'; omega⟩⟩ ?_ ?_
    · rintro z zs ε ⟨p', s', x3, x4, x5, x6, x7, rfl, g0, g1, g3, g4, g5⟩
      obtain ⟨hz1, hz2⟩ := g5 z (by simp)
      have g6 : ∀ z ∈ zs, okS (q + 1) z = true ∧ sz z ≤ 900000 := fun z hz => g5 z (by simp [hz])
      obtain ⟨hs1, hk⟩ := okS_succ.1 hz1
      rw [exB_cons g0] at g1
      rw [wtB_cons] at g3 g4
      have hgr := gr_Q (q + 1) z p' s' hz1
      have q1 := hgr.pl
      have q2 := hgr.nm
      have hone := hsz1 [z] (by simpa using hz1) (by simp; omega)
      have hplL : (plL s'.pl).length < sizeLine := by rw [plL_len]; simp only [sizeLine]; omega
      have hnmL : (nmK s'.nm).length < 1000 := by rw [nmK_len]; omega
      rcases isStmt_cases hs1 with ⟨y, e, rfl, h1, h2⟩ | ⟨e, rfl, h1⟩ | ⟨t, y, n, rfl, h1⟩ | ⟨c, b, rfl, h1, h2⟩ | rfl
      · obtain ⟨w, rfl, _⟩ := isName_str h1
        rw [ex_set] at g1 q1 q2
        simp [gi_names, gi_total, gk_places, gk_names, hplL, plL_app, sk_places, len_stK, hv _ e h2, hnmL, keyOf, nm_put, sk_names, for_nil, hone]
        exact .mk ⟨_, _, _, _, _, _, _, rfl, g0, g1, by omega, by omega, g6⟩
      · rw [ex_pay] at g1 q1 q2
        simp [gi_names, gi_total, gk_places, gk_names, gk_total, hplL, plL_app, sk_places, len_stK, hv _ e h1, keyOf, sk_total, for_nil, hone]
        exact .mk ⟨_, _, _, _, _, _, _, rfl, g0, g1, by omega, by omega, g6⟩
      · have hy := hszq y (fun v hv => hk (.tuple y) (by simp [blks]) v hv) (by simp at hz2; omega)
        have hw : wtQ (q + 1) (.tuple [.str "if", t, .tuple y, .tuple n]) = 1 + (wtB q y + wtB q n) := by simp [wtQ, wtB]
        rw [hw] at g3 g4 q1 q2
        rw [ex_if] at g1 q1 q2
        have one : ∀ (b : List PyData) (i : Int), (∀ v ∈ b, okS q v = true) → szAll b ≤ 900000 → wtB q b ≤ wtB q y + wtB q n → W (callF T (m - 1) "_law_go" [false, false, false] [.dic (stK { s' with pl := s'.pl ++ [p'] }), .p (.tuple b), .p (.int i)]) fun a => ∃ z, a = (.p (.bool (exB q b i { s' with pl := s'.pl ++ [p'] }).stop), [.dic (stK (exB q b i { s' with pl := s'.pl ++ [p'] })), .p (.tuple b), .p (.int z)]) := fun b i hb hz hw => ih b i _ g0 hb hz (by simp; omega) (by simp; omega)
        cases hv : trueT 2 s'.nm t with
        | true =>
          rw [hv] at g1 q1 q2
          simp only [if_true] at g1 q1 q2
          simp [gi_names, gi_total, gk_places, gk_names, gk_total, hplL, plL_app, sk_places, len_stK, keyOf, ht _ t h1, hv, for_cons, for_nil]
          refine (one y (p' + 1) (fun v hv => hk (.tuple y) (by simp [blks]) v hv) (by simp at hz2; omega) (by omega)).mono ?_
          rintro _ ⟨zz, rfl⟩
          cases hst : (exB q y (p' + 1) { s' with pl := s'.pl ++ [p'] }).stop with
          | true =>
            rw [exB_stop hst] at g1
            subst g1
            simp [hst]
          | false =>
            simp [hone]
            exact .mk ⟨_, _, _, _, _, _, _, rfl, hst, g1, by omega, by omega, g6⟩
        | false =>
          rw [hv] at g1 q1 q2
          simp only [Bool.false_eq_true, if_false] at g1 q1 q2
          simp [gi_names, gi_total, gk_places, gk_names, gk_total, hplL, plL_app, sk_places, len_stK, keyOf, ht _ t h1, hv, for_cons, for_nil, hy]
          refine (one n (p' + 1 + cntN q y) (fun v hv => hk (.tuple n) (by simp [blks]) v hv) (by simp at hz2; omega) (by omega)).mono ?_
          rintro _ ⟨zz, rfl⟩
          cases hst : (exB q n (p' + 1 + cntN q y) { s' with pl := s'.pl ++ [p'] }).stop with
          | true =>
            rw [exB_stop hst] at g1
            subst g1
            simp [hst]
          | false =>
            simp [hone]
            exact .mk ⟨_, _, _, _, _, _, _, rfl, hst, g1, by omega, by omega, g6⟩
      · have hw : wtQ (q + 1) (.tuple [.str "repeat", .int c, .tuple b]) = 1 + c.toNat * wtB q b := by simp [wtQ, wtB]
        rw [hw] at g3 g4 q1 q2
        rw [ex_rep] at g1 q1 q2
        have hb1 : ∀ v ∈ b, okS q v = true := fun v hv => hk (.tuple b) (by simp [blks]) v hv
        have hb2 : szAll b ≤ 900000 := by simp at hz2; omega
        have hc1 : 0 ≤ c := by omega
        have hc2 : c ≤ 4000 := by omega
        simp [gi_names, gi_total, gk_places, gk_names, gk_total, hplL, plL_app, sk_places, len_stK, keyOf, hc1, hc2]
        generalize hs2 : (List.replicate c.toNat (b, p' + 1)).foldl (fun s bp => exB q bp.1 bp.2 s) { s' with pl := s'.pl ++ [p'] } = s2 at g1 q1 q2
        refine W_for (fun ws ε => ∃ k s1 x4 x6 x7, ws = List.replicate k (.tuple [.tuple b, .int (p' + 1)]) ∧ ε = [some (.dic (stK s1)), some (.p (.tuple xs)), some (.p (.int p')), some (.p (.tuple [.str "repeat", .int c, .tuple b])), x4, x5, x6, x7] ∧ s1.stop = false ∧ (List.replicate k (b, p' + 1)).foldl (fun s bp => exB q bp.1 bp.2 s) s1 = s2 ∧ s1.pl.length + k * wtB q b ≤ 900 ∧ s1.nm.length + k * wtB q b ≤ 900) _ _ ⟨c.toNat, { s' with pl := s'.pl ++ [p'] }, _, _, _, rfl, rfl, g0, hs2, by simp; omega, by simp; omega⟩ ?_ ?_
        · rintro w ws ε ⟨k, s1, y4, y6, y7, e1, rfl, f1, f2, f3, f4⟩
          cases k with
          | zero => simp at e1
          | succ k =>
            rw [List.replicate_succ, List.cons.injEq] at e1
            obtain ⟨rfl, rfl⟩ := e1
            rw [List.replicate_succ, List.foldl_cons] at f2
            rw [Nat.succ_mul] at f3 f4
            have hgr2 := gr_B q b (p' + 1) s1 hb1
            have u1 := hgr2.pl
            have u2 := hgr2.nm
            simp
            refine (ih b (p' + 1) s1 f1 hb1 hb2 (by omega) (by omega)).mono ?_
            rintro _ ⟨zz, rfl⟩
            simp only at f2
            cases hst : (exB q b (p' + 1) s1).stop with
            | true =>
              rw [fold_stop q _ _ hst] at f2
              rw [← f2, exB_stop hst] at g1
              subst g1
              simp [hst]
            | false =>
              simp
              exact .mk ⟨k, exB q b (p' + 1) s1, _, _, _, rfl, rfl, hst, f2, by omega, by omega⟩
        · rintro ε ⟨k, s1, y4, y6, y7, e1, rfl, f1, f2, f3, f4⟩
          cases k with
          | zero =>
            have f2 : s1 = s2 := f2
            subst f2
            simp [hone]
            exact .mk ⟨_, _, _, _, _, _, _, rfl, f1, g1, by omega, by omega, g6⟩
          | succ k => simp [List.replicate_succ] at e1
      · rw [ex_stop, exB_stop rfl] at g1
        subst g1
        simp [gi_names, gi_total, gk_places, gk_names, gk_total, hplL, plL_app, sk_places, len_stK, keyOf]
        rfl
    · rintro ε ⟨p', s', x3, x4, x5, x6, x7, rfl, g0, g1, g3, g4, g5⟩
      have g1 : s' = r := g1
      subst g1
      simp [g0]
end Wh


set_option Elab.async false
set_option linter.all false
set_option maxRecDepth 100000
set_option maxHeartbeats 4000000
namespace Wh
open PySem PySem.Spec PyProof.Rows L2 Wh.C
variable {T : Tab}
theorem l_run (H : HLr T) {xs : List PyData} (hx : Prg xs) (n : Int) {m : Nat} (hm : 16 ≤ m) : callF T m "_law_run" [false, false] [.p (.tuple xs), .p (.int n)] = some (.p (runV xs n), [.p (.tuple xs), .p (.int n)]) := by
  have hg := l_go H 4 xs 0 (ru0 n) rfl hx.ok hx.sz (by have := hx.wt; simp [ru0]; omega) (by have := hx.wt; simp [ru0]; omega) (m := m - 1) (by omega)
  rw [show exB 4 xs 0 (ru0 n) = runR xs n from rfl] at hg
  have e : stK (ru0 n) = [(.inr (Str.ofString "names"), .dic [(.inr (Str.ofString "n"), .p (.int n))]), (.inr (Str.ofString "total"), .p (.int 0)), (.inr (Str.ofString "places"), .lst [])] := rfl
  rw [e] at hg
  rw [run_at H.run (by omega)]
  apply W.eq
  simp [c__law_run, cstKeys, keyOf]
  refine hg.mono ?_
  rintro _ ⟨z, rfl⟩
  simp [gi_total, gi_places, runV, D.ps?]
/-! ### values of numbers that repr can show -/
mutual
def pI : PyData → Bool
  | .none => true
  | .bool _ => true
  | .int i => decide (i.natAbs.log2 < 1920)
  | .list xs => pIs xs
  | .tuple xs => pIs xs
  | _ => false
def pIs : List PyData → Bool
  | [] => true
  | x :: xs => pI x && pIs xs
end
theorem pIs_iff {xs : List PyData} : pIs xs = true ↔ ∀ x ∈ xs, pI x = true := by
  induction xs with
  | nil => simp [pIs]
  | cons x xs ih => simp [pIs, ih]
mutual
theorem pI_shown : ∀ v : PyData, pI v = true → v.showable = true ∧ v.shown.length + 2 ≤ 2000 * sz v
  | .none, _ => ⟨by simp [PyData.showable], by have : (PyData.none).shown.length = 4 := by decide +kernel
                                               rw [this]; simp⟩
  | .bool b, _ => ⟨by simp [PyData.showable], by have : (PyData.bool b).shown.length ≤ 5 := by cases b <;> decide +kernel
                                                 simp; omega⟩
  | .int i, h => by
    have h : i.natAbs.log2 < 1920 := by simpa [pI] using h
    refine ⟨by simpa [PyData.showable] using h, ?_⟩
    have := int_text_len_1921 h
    rw [PyData.shown, sz_int]
    omega
  | .str s, h => by simp [pI] at h
  | .list xs, h => by
    rw [pI] at h
    obtain ⟨h2, h3⟩ := pIs_shown xs h
    refine ⟨by rw [PyData.showable]; exact h2, ?_⟩
    have := listText_le (PyData.shownAll xs)
    rw [PyData.shown, sz_lst]
    omega
  | .tuple xs, h => by
    rw [pI] at h
    obtain ⟨h2, h3⟩ := pIs_shown xs h
    refine ⟨by rw [PyData.showable]; exact h2, ?_⟩
    have := tupleText_le (PyData.shownAll xs)
    rw [PyData.shown, sz_tup]
    omega
  | .dict kvs, h => by simp [pI] at h
theorem pIs_shown : ∀ xs : List PyData, pIs xs = true → PyData.showableAll xs = true ∧ piled (PyData.shownAll xs) ≤ 2000 * szAll xs
  | [], _ => ⟨rfl, by rw [PyData.shownAll]; simp [piled]⟩
  | x :: xs, h => by
    rw [pIs, Bool.and_eq_true] at h
    obtain ⟨a2, a3⟩ := pI_shown x h.1
    obtain ⟨b2, b3⟩ := pIs_shown xs h.2
    refine ⟨by rw [PyData.showableAll, a2, b2]; rfl, ?_⟩
    rw [PyData.shownAll, piled_cons, szAll_cons]
    omega
end
structure Ai (B D : Nat) (v : PyData) : Prop where
  pl : pI v = true
  sz : Wh.sz v ≤ B
  dp : v.depth ≤ D
theorem Ai.repr {B D : Nat} {v : PyData} (h : Ai B D v) (hB : B ≤ 8000) (hD : D ≤ 100) : reprV (.p v) = some v.shown := by
  obtain ⟨h2, h3⟩ := pI_shown v h.pl
  have h4 := h.sz
  have h5 := h.dp
  have h6 : v.shown.length ≤ sizeLine := by simp only [sizeLine]; omega
  have h7 : v.depth ≤ 100 := by omega
  simp [reprV, Wh.D.toP, h2, h6, h7]
theorem Ai.reprL {B D : Nat} {xs : List PyData} {ds : List Wh.D} (h : Ai B D (.list xs)) (hB : B ≤ 8000) (hD : D ≤ 100) (e : toPs ds = some xs) : reprV (.lst ds) = some (PyData.list xs).shown := by
  rw [← h.repr hB hD]
  simp [reprV, Wh.D.toP, e]
/-- the greatest numbers of a run can be shown -/
theorem big_log {i : Int} {n : Nat} (hn : n ≤ 10 ^ 60) (h : i.natAbs ≤ 82 ^ 30 * n) : i.natAbs.log2 < 1920 := by
  by_cases hz : i.natAbs = 0
  · rw [hz]; decide
  · have h1 : (82 : Nat) ^ 30 * 10 ^ 60 < 2 ^ 1920 := by decide +kernel
    have h2 : (82 : Nat) ^ 30 * n ≤ 82 ^ 30 * 10 ^ 60 := Nat.mul_le_mul_left _ hn
    exact (Nat.log2_lt hz).2 (by omega)
theorem pl_L {q : Nat} (hq : ∀ (x : PyData) (p : Int) (s : Ru), okS q x = true → ∀ i ∈ (exQ q x p s).pl, i ∈ s.pl ∨ (p ≤ i ∧ i < p + cntN q [x])) : ∀ (xs : List PyData) (p : Int) (s : Ru), (∀ x ∈ xs, okS q x = true) → ∀ i ∈ (exB q xs p s).pl, i ∈ s.pl ∨ (p ≤ i ∧ i < p + cntN q xs)
  | [], p, s, _, i, hi => .inl hi
  | x :: xs, p, s, h, i, hi => by
    have hc := cntN_c q x xs
    have n1 := cntN_nonneg q [x]
    have n2 := cntN_nonneg q xs
    cases hst : s.stop with
    | true =>
      rw [exB_stop hst] at hi
      exact .inl hi
    | false =>
      rw [exB_cons hst] at hi
      rcases pl_L hq xs _ _ (fun y hy => h y (by simp [hy])) i hi with h1 | h1
      · rcases hq x p s (h x (by simp)) i h1 with h2 | h2
        · exact .inl h2
        · exact .inr ⟨by omega, by omega⟩
      · exact .inr ⟨by omega, by omega⟩
theorem pl_fold {q : Nat} {b : List PyData} {p : Int} (hb : ∀ s, ∀ i ∈ (exB q b p s).pl, i ∈ s.pl ∨ (p ≤ i ∧ i < p + cntN q b)) : ∀ (n : Nat) (s : Ru), ∀ i ∈ ((List.replicate n (b, p)).foldl (fun s bp => exB q bp.1 bp.2 s) s).pl, i ∈ s.pl ∨ (p ≤ i ∧ i < p + cntN q b)
  | 0, s, i, hi => .inl hi
  | n + 1, s, i, hi => by
    rw [List.replicate_succ, List.foldl_cons] at hi
    rcases pl_fold hb n _ i hi with h1 | h1
    · exact hb s i h1
    · exact .inr h1
theorem pl_Q : ∀ (q : Nat) (x : PyData) (p : Int) (s : Ru), okS q x = true → ∀ i ∈ (exQ q x p s).pl, i ∈ s.pl ∨ (p ≤ i ∧ i < p + cntN q [x])
  | 0, x, p, s, h => by simp [okS] at h
  | q + 1, x, p, s, h => by
    obtain ⟨hs, hb⟩ := okS_succ.1 h
    have hB := fun b (hbm : .tuple b ∈ blks x) p s => pl_L (pl_Q q) b p s fun y hy => hb (.tuple b) hbm y hy
    have hc := cntN_pos q x
    have one : ∀ i, i ∈ s.pl ++ [p] → i ∈ s.pl ∨ (p ≤ i ∧ i < p + cntN (q + 1) [x]) := by
      intro i hi
      rcases List.mem_append.1 hi with h | h
      · exact .inl h
      · rw [List.mem_singleton] at h
        exact .inr ⟨by omega, by omega⟩
    intro i hi
    rcases isStmt_cases hs with ⟨y, e, rfl, h1, h2⟩ | ⟨e, rfl, h1⟩ | ⟨t, y, n, rfl, _⟩ | ⟨c, b, rfl, h1, h2⟩ | rfl
    · obtain ⟨z, rfl, _⟩ := isName_str h1
      rw [ex_set] at hi
      exact one i hi
    · rw [ex_pay] at hi
      exact one i hi
    · have e1 : cntN (q + 1) [.tuple [.str "if", t, .tuple y, .tuple n]] = 1 + (cntN q y + cntN q n) := by rw [cntN_one]; simp [blks, tItems]
      have n1 := cntN_nonneg q y
      have n2 := cntN_nonneg q n
      rw [ex_if] at hi
      split at hi
      · rcases hB y (by simp [blks]) _ _ i hi with h1 | h1
        · exact one i h1
        · exact .inr ⟨by omega, by omega⟩
      · rcases hB n (by simp [blks]) _ _ i hi with h1 | h1
        · exact one i h1
        · exact .inr ⟨by omega, by omega⟩
    · have e1 : cntN (q + 1) [.tuple [.str "repeat", .int c, .tuple b]] = 1 + cntN q b := by rw [cntN_one]; simp [blks, tItems]
      have n1 := cntN_nonneg q b
      rw [ex_rep] at hi
      rcases pl_fold (fun s => hB b (by simp [blks]) _ s) _ _ i hi with h1 | h1
      · exact one i h1
      · exact .inr ⟨by omega, by omega⟩
    · rw [ex_stop] at hi
      exact one i hi
theorem runV_ai {xs : List PyData} (hx : ∀ x ∈ xs, okS 4 x = true) (hw : wtB 4 xs ≤ 30) (hc : cntN 4 xs ≤ 10000) {n : Int} (hn : n.natAbs ≤ 10 ^ 60) : Ai 40 2 (runV xs n) ∧ (runR xs n).tot.natAbs.log2 < 1920 := by
  have hg := gr_B 4 xs 0 (ru0 n) hx
  rw [show exB 4 xs 0 (ru0 n) = runR xs n from rfl] at hg
  have h1 := hg.pl
  have hM : 99 ≤ max 99 n.natAbs := by omega
  have h2 := (hg.mono hw).mag (max 99 n.natAbs) hM ⟨by simp [ru0], by simp [ru0]; omega⟩
  have hlog : (runR xs n).tot.natAbs.log2 < 1920 := big_log (n := max 99 n.natAbs) (by
    have : (99 : Nat) ≤ 10 ^ 60 := by decide +kernel
    omega) h2.1
  refine ⟨⟨?_, ?_, ?_⟩, hlog⟩
  · have hp : ∀ i ∈ (runR xs n).pl, i.natAbs.log2 < 1920 := fun i hi => by
      rcases pl_L (pl_Q 4) xs 0 (ru0 n) hx i hi with h | h
      · simp [ru0] at h
      · exact log_small (by omega) (by omega)
    unfold runV
    rw [pI, pIs_iff]
    intro v hv
    simp only [List.mem_cons, List.not_mem_nil, or_false] at hv
    rcases hv with rfl | rfl
    · simpa [pI] using hlog
    · rw [pI, pIs_iff]
      intro v hv
      obtain ⟨i, hi, rfl⟩ := List.mem_map.1 hv
      simpa [pI] using hp i hi
  · have e : ∀ ps : List Int, szAll (ps.map PyData.int) = ps.length := fun ps => by
      induction ps with
      | nil => rfl
      | cons p ps ih => simp [ih]; omega
    simp [runV, e, ru0] at h1 ⊢
    omega
  · have e : PyData.depthAll ((runR xs n).pl.map PyData.int) ≤ 0 := depthAll_le fun v hv => by
      obtain ⟨i, _, rfl⟩ := List.mem_map.1 hv
      simp
    simp [runV]
    omega
end Wh


set_option Elab.async false
set_option linter.all false
set_option maxRecDepth 100000
set_option maxHeartbeats 4000000
namespace Wh
open PySem PySem.Spec PyProof.Rows L2 Wh.C
variable {T : Tab}
theorem l_number (H : HD T) (Hn : T.fn "_law_number" = some c__law_number) {xs : List Int} {k : Int} {b : Nat} (hd : Dk xs k b) (hb : b + 10 < 2 ^ 40) {m : Nat} (hm : 3 ≤ m) :
    W (callF T m "_law_number" [false] [deckD xs k]) fun a => ∃ i xs' k', a = (.p (.int i), [deckD xs' k']) ∧ i.natAbs ≤ 10 ^ 60 ∧ Dk xs' k' (b + 4) := by
  have hone : ∀ {xs : List Int} {k : Int} {b : Nat}, Dk xs k b → b < 2 ^ 40 → W (callF T (m - 1) (Str.ofString "_law_one") [false, false] [deckD xs k, .lst [.p (.int 1), .p (.int (-1))]]) fun a => ∃ c xs' k', a = (.p (.int c), [deckD xs' k', .lst [.p (.int 1), .p (.int (-1))]]) ∧ c.natAbs = 1 ∧ Dk xs' k' (b + 1) := by
    intro xs k b hd hb
    refine (l_one H hd hb _ (by simp) (by simp) (by simp) (by omega)).mono ?_
    rintro _ ⟨c, xs, k, rfl, hc, hd⟩
    simp at hc
    rcases hc with rfl | rfl <;> exact ⟨_, _, _, rfl, by decide, hd⟩
  rw [run_at Hn (by omega)]
  simp [c__law_number]
  refine (l_draw H hd (by omega) 5 (by omega) (by omega) (by omega)).mono ?_
  rintro _ ⟨i, xs, k, rfl, a1, b1, hd⟩
  simp
  refine (hone hd (by omega)).mono ?_
  rintro _ ⟨c, xs, k, rfl, hc, hd⟩
  have hc2 : c.natAbs < 18446744073709551616 := by omega
  simp
  refine ⟨fun h1 => ?_, fun h1 => ?_⟩
  · refine (l_draw H hd (by omega) 40 (by omega) (by omega) (by omega)).mono ?_
    rintro _ ⟨j, xs, k, rfl, a2, b2, hd⟩
    simp [hc2]
    refine ⟨_, _, _, ⟨rfl, rfl⟩, ?_, hd.mono (by omega)⟩
    rw [Int.natAbs_mul, hc]
    have : (40 : Nat) ≤ 10 ^ 60 := by decide +kernel
    omega
  · refine (l_draw H hd (by omega) 1000000000 (by omega) (by omega) (by omega)).mono ?_
    rintro _ ⟨j, xs, k, rfl, a2, b2, hd⟩
    have hj : j.natAbs < 18446744073709551616 := by omega
    simp [hj]
    refine (l_draw H hd (by omega) 1000000000 (by omega) (by omega) (by omega)).mono ?_
    rintro _ ⟨j2, xs, k, rfl, a3, b3, hd⟩
    simp [hc2]
    refine ⟨_, _, _, ⟨rfl, rfl⟩, ?_, hd.mono (by omega)⟩
    rw [Int.natAbs_mul, hc]
    omega
theorem l_sign (Hs : T.fn "_law_sign" = some c__law_sign_k25) (i : Int) {m : Nat} (hm : 1 ≤ m) : callF T m "_law_sign" [false] [.p (.int i)] = some (.p (.int (signI i)), [.p (.int i)]) := by
  rw [run_at Hs (by omega)]
  apply W.eq
  simp [c__law_sign_k25, signI]
  by_cases h1 : i < 0
  · have h2 : ¬ 0 ≤ i := by omega
    simp [h1, h2]
  · by_cases h2 : 0 < i <;> simp [h1, h2]
theorem PrOk.wt {vs : List PyData} (h : PrOk vs) : wtB 4 vs ≤ 30 := by
  have h1 := wt_cnt 4 vs h.ok
  have h2 := h.w
  omega
theorem PrOk.prg {vs : List PyData} (h : PrOk vs) : Prg vs := ⟨h.ok, by have := h.sz; omega, by have := h.wt; omega⟩
theorem pI_int {i : Int} : pI (.int i) = true ↔ i.natAbs.log2 < 1920 := by simp [pI]
theorem sign_small (i : Int) : (signI i).natAbs.log2 < 1920 := by
  unfold signI
  split
  · decide
  · split <;> decide
end Wh


set_option Elab.async false
set_option linter.all false
set_option maxRecDepth 100000
set_option maxHeartbeats 4000000
namespace Wh
open PySem PySem.Spec PyProof.Rows L2 Wh.C
variable {T : Tab}
/-! ### families -/
theorem nw_an {w : Str} (h : pl (.str w) = true) : An 10 3 (.tuple [.none, .str w]) := ⟨by simp [h]; simp [pl], by simp, by simp⟩
theorem pErr_an (v : PyData) : An 10 3 (pErr v) := by
  have p0 : pl .none = true := by simp [pl]
  have hn : An 10 3 .none := ⟨p0, by simp, by simp⟩
  cases v with
  | tuple xs =>
    simp only [pErr]
    rcases ordErr_cases 1000000 (xs.map fun x => (0, x)) 0 with h | ⟨i, w, h, h3, h4, h5⟩
    · rw [h]
      simp only []
      split
      · exact nw_an (by decide +kernel)
      · split
        · exact nw_an (by decide +kernel)
        · split
          · exact nw_an (by decide +kernel)
          · split
            · exact nw_an (by decide +kernel)
            · exact hn
    · rw [h]
      simp only []
      have hi : pl (.int i) = true := by
        have : (1000000 : Nat) < 10 ^ 60 := by decide +kernel
        simp only [pl, decide_eq_true_eq]
        omega
      have hw : pl (.str w) = true := by rcases h3 with rfl | rfl <;> decide +kernel
      exact ⟨by simp [hi, hw], by simp, by simp⟩
  | _ => exact nw_an (by decide +kernel)
theorem isn_none : cmpop .isn (.p .none) (.p .none) = some false := rfl
theorem isn_some {e : PyData} (h : e ≠ .none) : cmpop .isn (.p e) (.p .none) = some true := by cases e <;> first | rfl | exact absurd rfl h
def firstErr : Nat → List PyData → PyData
  | _, [] => .none
  | k, x :: xs => match pErr x with
    | .none => firstErr (k + 1) xs
    | e => .tuple [.int k, e]
def famErr (v : PyData) : PyData := match v with
  | .tuple xs => if 1 ≤ xs.length ∧ xs.length ≤ 5 then firstErr 0 xs else .tuple [.none, .str "many"]
  | _ => .tuple [.none, .str "family"]
theorem firstErr_none {k : Nat} {x : PyData} {xs : List PyData} (h : pErr x = .none) : firstErr k (x :: xs) = firstErr (k + 1) xs := by simp [firstErr, h]
theorem firstErr_some {k : Nat} {x : PyData} {xs : List PyData} (h : pErr x ≠ .none) : firstErr k (x :: xs) = .tuple [.int k, pErr x] := by
  unfold firstErr
  split
  · rename_i e; exact absurd e h
  · rfl
theorem firstErr_an : ∀ (xs : List PyData) (k : Nat), k + xs.length ≤ 100 → An 20 5 (firstErr k xs)
  | [], k, _ => ⟨by simp [firstErr, pl], by simp [firstErr], by simp [firstErr]⟩
  | x :: xs, k, h => by
    simp only [List.length_cons] at h
    by_cases e : pErr x = .none
    · rw [firstErr_none e]
      exact firstErr_an xs (k + 1) (by omega)
    · rw [firstErr_some e]
      have ha := pErr_an x
      have h1 := ha.pl
      have h2 := ha.sz
      have h3 := ha.dp
      exact ⟨by simp [h1]; exact pl_small (by omega), by simp; omega, by simp; omega⟩
theorem famErr_an (v : PyData) : An 20 5 (famErr v) := by
  cases v with
  | tuple xs =>
    simp only [famErr]
    split
    · exact firstErr_an xs 0 (by omega)
    · have := nw_an (w := "many") (by decide +kernel)
      exact ⟨this.pl, Nat.le_trans this.sz (by omega), Nat.le_trans this.dp (by omega)⟩
  | _ =>
    have := nw_an (w := "family") (by decide +kernel)
    exact ⟨this.pl, Nat.le_trans this.sz (by omega), Nat.le_trans this.dp (by omega)⟩
structure HFa (T : Tab) : Prop where
  hp : HP T
  family_error : T.fn "family_error" = some c_family_error
  MAX_FAMILY : T.glob "MAX_FAMILY" = some (.int 5)
theorem s_family_error (H : HFa T) (v : PyData) (hv : sm v = true) (hz : sz v ≤ 900000) {m : Nat} (hm : 14 ≤ m) : callF T m "family_error" [false] [.p v] = some (.p (famErr v), [.p v]) := by
  have hp := fun v hv hz => s_program_error H.hp v hv hz (m := m - 1) (by omega)
  rw [run_at H.family_error (by omega)]
  apply W.eq
  cases v with
  | tuple xs =>
    have hG := H.MAX_FAMILY
    simp at hv hz
    simp only [famErr]
    by_cases hl : 1 ≤ xs.length ∧ xs.length ≤ 5
    · rw [if_pos hl]
      have hl1 : (1 : Int) ≤ (xs.length : Int) := by omega
      have hl2 : (xs.length : Int) ≤ 5 := by omega
      simp [c_family_error, hG, hl1, hl2, D.es?]
      generalize hr : firstErr 0 xs = r
      refine W_for (fun zs ε => ∃ us k x1 x2 x3, zs = enumL k us ∧ ε = [some (.p (.tuple xs)), x1, x2, x3] ∧ firstErr k us = r ∧ ∀ u ∈ us, sm u = true ∧ sz u ≤ 900000) _ _ ⟨xs, 0, none, none, none, rfl, rfl, hr, fun u hu => ⟨hv u hu, by have := mem_sz hu; omega⟩⟩ ?_ ?_
      · rintro z zs ε ⟨us, k, x1, x2, x3, e1, rfl, g1, g2⟩
        cases us with
        | nil => simp [enumL] at e1
        | cons u us =>
          simp only [enumL, List.cons.injEq] at e1
          obtain ⟨rfl, rfl⟩ := e1
          obtain ⟨q1, q2⟩ := g2 u (by simp)
          have g3 : ∀ u ∈ us, sm u = true ∧ sz u ≤ 900000 := fun u hu => g2 u (by simp [hu])
          by_cases e : pErr u = .none
          · rw [firstErr_none e] at g1
            simp [hp u q1 q2, e, isn_none]
            exact .mk ⟨us, k + 1, _, _, _, rfl, rfl, g1, g3⟩
          · rw [firstErr_some e] at g1
            subst g1
            simp [hp u q1 q2, isn_some e]
      · rintro ε ⟨us, k, x1, x2, x3, e1, rfl, g1, g2⟩
        cases us with
        | nil =>
          have g1 : PyData.none = r := g1
          subst g1
          simp
        | cons u us => simp [enumL] at e1
    · rw [if_neg hl]
      by_cases h0 : (1 : Int) ≤ (xs.length : Int)
      · have h5 : ¬ (xs.length : Int) ≤ 5 := by omega
        simp [c_family_error, hG, h0, h5]
      · simp [c_family_error, hG, h0]
  | _ => simp [c_family_error, famErr]
/-- the law's list of what is wrong -/
def errL : Nat → List PyData → List PyData
  | _, [] => []
  | k, x :: xs => .tuple [.int k, pErr x] :: errL (k + 1) xs
end Wh


set_option Elab.async false
set_option linter.all false
set_option maxRecDepth 100000
set_option maxHeartbeats 4000000
namespace Wh
open PySem PySem.Spec PyProof.Rows L2 Wh.C
variable {T : Tab}
def notN (x : PyData) : Bool := match x with
  | .tuple [_, .none] => false
  | _ => true
theorem notN_none {a : PyData} : notN (.tuple [a, .none]) = false := rfl
theorem notN_some {a e : PyData} (h : e ≠ .none) : notN (.tuple [a, e]) = true := by
  cases e <;> first | rfl | exact absurd rfl h
theorem errL_first : ∀ (xs : List PyData) (k : Nat), firstErr k xs = match (errL k xs).filter notN with | [] => .none | e :: _ => e
  | [], k => rfl
  | x :: xs, k => by
    by_cases e : pErr x = .none
    · rw [firstErr_none e, errL_first xs (k + 1)]
      simp [errL, e, notN_none]
    · rw [firstErr_some e]
      simp [errL, notN_some e]
theorem errL_rng (xs : List PyData) : ∀ (k : Nat) (ys : List PyData), (∀ i, ys[i]? = xs[k + i]?) → (List.range ys.length).map (fun i => PyData.tuple [.int ((k + i : Nat) : Int), pErr ((xs[k + i]?).getD .none)]) = errL k ys
  | k, [], _ => rfl
  | k, y :: ys, h => by
    have h0 := h 0
    have ih := errL_rng xs (k + 1) ys fun i => by
      have := h (i + 1)
      rw [List.getElem?_cons_succ] at this
      rw [this]
      congr 1
      omega
    rw [List.length_cons, List.range_succ_eq_map, List.map_cons, List.map_map, errL]
    simp only [Nat.add_zero, List.getElem?_cons_zero] at h0
    refine List.cons_eq_cons.2 ⟨?_, ?_⟩
    · rw [Nat.add_zero, ← h0]
      rfl
    · rw [← ih]
      apply List.map_congr_left
      intro i _
      simp only [Function.comp]
      rw [show k + (i + 1) = k + 1 + i by omega]
/-- range(len(..)), kept from simp's own reckoning with great literals -/
theorem rng_len {c : Cfg} {lk : List Nat} {ε : Env} {a : E} {n : Nat} {ε1 : Env} (h : ev c lk a ε = some (.p (.int n), ε1)) (hn : n ≤ 1000000) : ev c lk (.rng1 a) ε = some (.p (.list (rngL 0 n)), ε1) := by
  rw [v_rng1, h, bH_some]
  have h1 : -(2 ^ 62) ≤ (n : Int) ∧ (n : Int) < 2 ^ 62 := by constructor <;> omega
  show (if -(2 ^ 62) ≤ (n : Int) ∧ (n : Int) < 2 ^ 62 then some (D.p (.list (rngL 0 (n : Int).toNat)), ε1) else none) = _
  rw [if_pos h1]
  rfl
theorem exSs_next {c : Cfg} {lk : List Nat} {s : S} {r : List S} {ε ε1 : Env} (h : exS c lk s ε = some (.next, ε1)) : exSs c lk (s :: r) ε = exSs c lk r ε1 := by simp [exSs, h]
def fin1 (np : Nat) (a : Fl × Env) : Option (D × List D) := match a.1 with
  | .next => (ends np a.2).mH fun ds => (.p .none, ds)
  | .ret d => (ends np a.2).mH fun ds => (d, ds)
  | _ => none
theorem run_body {T : Tab} {m : Nat} {f : Str} {fl : List Bool} {ds : List D} {F : Fn} (hF : T.fn f = some F) (hm : 1 ≤ m) (hl : ds.length = F.np) (ha : F.asgd = []) {np : Nat} (hnp : F.np = np) {fz : Bool} (hfz : F.fz = fz) {b : List S} (hb : F.body = b) {ε : Env} (hε : ds.map some ++ List.replicate (F.ns - F.np) none = ε) {lk : List Nat} (hlk : lksOf 0 fl = lk) :
    callF T m f fl ds = (exSs (cfgK T (m - 1) np fz) lk b ε).bH (fin1 np) .mk := by
  rw [run_at hF hm, if_pos ⟨hl, by rw [ha]; rfl⟩, hnp, hfz, hb, ← hnp, hε, hlk]
  rfl
def errAt (xs : List PyData) (x : PyData) : PyData := match x with
  | .int i => .tuple [.int i, pErr ((xs[i.toNat]?).getD .none)]
  | x => x
theorem errAt_rng (xs : List PyData) : (rngL 0 xs.length).map (errAt xs) = errL 0 xs := by
  rw [← errL_rng xs 0 xs (fun i => by rw [Nat.zero_add])]
  unfold rngL
  rw [List.map_map]
  apply List.map_congr_left
  intro i _
  simp [errAt]
theorem errL_len (ys : List PyData) : ∀ k, (errL k ys).length = ys.length := by
  induction ys with
  | nil => intro k; rfl
  | cons y ys ih => intro k; simp [errL, ih]
theorem errL_form : ∀ (ys : List PyData) (k : Nat), ∀ x ∈ errL k ys, ∃ a e, x = .tuple [a, e]
  | [], k, x, hx => by simp [errL] at hx
  | y :: ys, k, x, hx => by
    simp only [errL, List.mem_cons] at hx
    rcases hx with rfl | hx
    · exact ⟨_, _, rfl⟩
    · exact errL_form ys (k + 1) x hx
theorem l_family_error (HL : HL T) (Hf : T.fn "_law_family_error" = some c__law_family_error_k28) (v : PyData) (hv : sm v = true) (hz : sz v ≤ 900000) {m : Nat} (hm : 14 ≤ m) : callF T m "_law_family_error" [false] [.p v] = some (.p (famErr v), [.p v]) := by
  have he := fun v hv hz => l_error HL v hv hz (m := m - 1) (by omega)
  cases v with
  | tuple xs =>
    simp at hv hz
    simp only [famErr]
    by_cases hl : 1 ≤ xs.length ∧ xs.length ≤ 5
    · rw [if_pos hl]
      have hl1 : (1 : Int) ≤ (xs.length : Int) := by omega
      have hl2 : (xs.length : Int) ≤ 5 := by omega
      have hrng : ev (cfgK T (m - 1) 1 true) [] (.rng1 (.blt "len" [.var 0])) [some (.p (.tuple xs)), none, none, none, none] = some (.p (.list (rngL 0 xs.length)), [some (.p (.tuple xs)), none, none, none, none]) := rng_len (by simp) (by omega)
      have hI1 : exS (cfgK T (m - 1) 1 true) [] (.ite (.not (.isi (.var 0) [.tuple])) [.ret (.tup [(.cst .none), (.cst (.str "family"))])] []) [some (.p (.tuple xs)), none, none, none, none] = some (.next, [some (.p (.tuple xs)), none, none, none, none]) := by simp
      have hI2 : exS (cfgK T (m - 1) 1 true) [] (.ite (.not (.cmp2 .le .le (.cst (.int 1)) (.blt "len" [(.var 0)]) (.cst (.int 5)))) [.ret (.tup [(.cst .none), (.cst (.str "many"))])] []) [some (.p (.tuple xs)), none, none, none, none] = some (.next, [some (.p (.tuple xs)), none, none, none, none]) := by simp [hl1, hl2]
      clear hl1 hl2
      rw [run_body (np := 1) (fz := true) (lk := []) (ε := [some (.p (.tuple xs)), none, none, none, none]) (b := [.ite (.not (.isi (.var 0) [.tuple])) [.ret (.tup [(.cst .none), (.cst (.str "family"))])] [], .ite (.not (.cmp2 .le .le (.cst (.int 1)) (.blt "len" [(.var 0)]) (.cst (.int 5)))) [.ret (.tup [(.cst .none), (.cst (.str "many"))])] [],
        .asg (.pt (.var 1)) (.comp (.tup [(.var 3), (.call "_law_error" [(.idx (.var 0) (.var 3))])]) (.var 3) (.rng1 (.blt "len" [(.var 0)])) none [3]),
        .asg (.pt (.var 2)) (.comp (.var 4) (.var 4) (.var 1) (some (.cmp .isn (.idx (.var 4) (.cst (.int 1))) (.cst .none))) [4]),
        .ret (.ite (.cmp .ne (.var 2) (.lst [])) (.idx (.var 2) (.cst (.int 0))) (.cst .none))]) Hf (by omega) rfl rfl rfl rfl rfl rfl rfl, exSs_next hI1, exSs_next hI2]
      apply W.eq
      simp [-v_rng1, hrng, ownOk, fin1]
      rw [comp_mapP (errAt xs)]
      · rw [errAt_rng]
        have hle : (errL 0 xs).length ≤ 5 := by rw [errL_len]; omega
        have hform := errL_form xs 0
        rw [errL_first]
        generalize errL 0 xs = L at hle hform
        have hle2 : L.length ≤ sizeLine := by simp only [sizeLine]; omega
        simp [hle2, ownOk]
        rw [comp_filter notN]
        · have hlf : (L.filter notN).length ≤ sizeLine := Nat.le_trans (List.length_filter_le _ _) hle2
          cases hL : L.filter notN with
          | nil => simp
          | cons e es =>
            rw [hL] at hlf
            simp at hlf
            simp [hlf]
        · intro x hx
          obtain ⟨a, e, rfl⟩ := hform x hx
          by_cases h : e = .none
          · subst h
            simp [notN_none, isn_none]
          · simp [notN_some h, isn_some h]
      · intro x hx
        simp only [rngL, List.mem_map, List.mem_range] at hx
        obtain ⟨i, hi, rfl⟩ := hx
        have hat : atI xs (i : Int) = some xs[i] := by rw [ix_n hi, List.getElem?_eq_getElem hi]
        have hmem := List.getElem_mem hi
        have h1 := hv _ hmem
        have h2 := mem_sz hmem
        have h3 := he xs[i] h1 (by omega)
        simp [hat, h3, errAt, List.getElem?_eq_getElem hi]
    · rw [if_neg hl, run_at Hf (by omega)]
      apply W.eq
      by_cases h0 : (1 : Int) ≤ (xs.length : Int)
      · have h5 : ¬ (xs.length : Int) ≤ 5 := by omega
        simp [c__law_family_error_k28, h0, h5]
      · simp [c__law_family_error_k28, h0]
  | _ =>
    rw [run_at Hf (by omega)]
    apply W.eq
    simp [c__law_family_error_k28, famErr]
/-! ### drawn families -/
def Fam (vs : List PyData) : Prop := 1 ≤ vs.length ∧ vs.length ≤ 5 ∧ ∀ v ∈ vs, ∃ us, v = .tuple us ∧ PrOk us
theorem PrOk.nil : PrOk [] := ⟨by simp, by simp, by simp [cntN], by simp [cntB], by simp [cntB], by simp [cntB], by simp⟩
theorem l_family (H : HG T) (Hf : T.fn "_law_family" = some c__law_family_k28) {ns : List PyData} (hn : NamesOk ns) {xs : List Int} {k : Int} {b : Nat} (hd : Dk xs k b) (hb : b + 5 * progB + 10 ≤ 2 ^ 36) {m : Nat} (hm : 30 ≤ m) :
    W (callF T m "_law_family" [false, false] [deckD xs k, .p (.list ns)]) fun a => ∃ vs xs' k', a = (.p (.tuple vs), [deckD xs' k', .p (.list ns)]) ∧ Fam vs ∧ Dk xs' k' (b + 5 * progB + 10) := by
  have h36 : (2 : Nat) ^ 36 = 68719476736 := by decide
  have h40 : (2 : Nat) ^ 40 = 1099511627776 := by decide
  rw [run_at Hf (by omega)]
  simp [c__law_family_k28]
  refine (l_draw H.hd hd (by omega) 4 (by omega) (by omega) (by omega)).mono ?_
  rintro _ ⟨i, xs, k, rfl, a1, b1, hd⟩
  obtain ⟨n, rfl⟩ : ∃ n : Nat, i = n := ⟨i.toNat, by omega⟩
  have hr1 : -4611686018427387904 ≤ 1 + (n : Int) := by omega
  have hr2 : 1 + (n : Int) < 4611686018427387904 := by omega
  have hr3 : (1 + (n : Int)).toNat = n + 1 := by omega
  simp [hr1, hr2, hr3, ownOk]
  refine W_compR (fun r ds ε => ∃ us xs k, ds = us.map .p ∧ ε = [some (deckD xs k), some (.p (.list ns)), none, none] ∧ us.length + r.length = n + 1 ∧ (∀ u ∈ us, ∃ ws, u = .tuple ws ∧ PrOk ws) ∧ Dk xs k (b + 1 + us.length * progB)) _ _ [] ⟨[], xs, k, rfl, rfl, by rw [rngL_len]; simp, by simp, hd.mono (by omega)⟩ ?_ ?_
  · rintro y r ds ε ⟨us, xs, k, rfl, rfl, f1, f2, hd⟩
    simp only [List.length_cons] at f1
    have hmul : us.length * progB ≤ 3 * progB := Nat.mul_le_mul_right _ (by omega)
    simp
    refine (l_program H hn hd (by omega) (by omega)).mono ?_
    rintro _ ⟨ws, xs, k, rfl, hws, hd⟩
    simp [frz]
    refine .mk ⟨us ++ [.tuple ws], xs, k, by simp, rfl, by simp; omega, ?_, hd.mono (by simp [Nat.succ_mul]; omega)⟩
    intro z hz
    rcases List.mem_append.1 hz with h | h
    · exact f2 z h
    · rw [List.mem_singleton.1 h]; exact ⟨ws, rfl, hws⟩
  · rintro ds ε ⟨us, xs, k, e0, rfl, f1, f2, hd⟩
    simp only [List.nil_append] at e0
    subst e0
    simp only [List.length_nil] at f1
    have hmul : us.length * progB ≤ 4 * progB := Nat.mul_le_mul_right _ (by omega)
    have hul : us.length ≤ sizeLine := by simp only [sizeLine]; omega
    have hul1 : us.length + 1 ≤ sizeLine := by simp only [sizeLine]; omega
    have hul2 : us.length < sizeLine := by simp only [sizeLine]; omega
    simp [hul]
    refine (l_draw H.hd hd (by omega) 2 (by omega) (by omega) (by omega)).mono ?_
    rintro _ ⟨j, xs, k, rfl, a2, b2, hd⟩
    simp
    refine ⟨fun hj => ?_, fun hj => ?_⟩
    · simp [hul1, frz]
      refine (l_one H.hd hd (by omega) _ ?_ (by simp) (by simp; omega) (by omega)).mono ?_
      · intro d hdm
        rcases List.mem_append.1 hdm with h | h
        · obtain ⟨_, _, rfl⟩ := List.mem_map.1 h
          rfl
        · rw [List.mem_singleton.1 h]; rfl
      · rintro _ ⟨c, xs, k, rfl, hc, hd⟩
        have hc2 : ∃ ws, c = .tuple ws ∧ PrOk ws := by
          rcases List.mem_append.1 hc with h | h
          · obtain ⟨u, hu, e⟩ := List.mem_map.1 h
            cases e
            exact f2 _ hu
          · simp at h
            subst h
            exact ⟨[], rfl, PrOk.nil⟩
        have hap : allP (us.map D.p ++ [D.p c]) = some (us ++ [c]) := by
          have := allP_mp (xs := us ++ [c])
          simpa using this
        simp [hul2, frz, hap]
        refine ⟨us ++ [c], _, _, ⟨rfl, rfl⟩, ⟨by simp, by simp; omega, ?_⟩, hd.mono (by omega)⟩
        intro z hz
        rcases List.mem_append.1 hz with h | h
        · exact f2 z h
        · rw [List.mem_singleton.1 h]; exact hc2
    · exact ⟨us, _, _, ⟨rfl, rfl⟩, ⟨by omega, by omega, f2⟩, hd.mono (by omega)⟩
end Wh


set_option Elab.async false
set_option linter.all false
set_option maxRecDepth 100000
set_option maxHeartbeats 4000000
namespace Wh
open PySem PySem.Spec PyProof.Rows L2 Wh.C
variable {T : Tab}
/-! ### lists of values that can be shown -/
structure AL (B D : Nat) (xs : List PyData) : Prop where
  pl : ∀ x ∈ xs, Wh.pl x = true
  sz : szAll xs ≤ B
  dp : ∀ x ∈ xs, x.depth ≤ D
theorem AL.nil {D : Nat} : AL 0 D [] := ⟨by simp, by simp, by simp⟩
theorem AL.one {B D : Nat} {x : PyData} (h : An B D x) : AL B D [x] := ⟨by simpa using h.pl, by simpa using h.sz, by simpa using h.dp⟩
theorem AL.app {B C D : Nat} {xs ys : List PyData} (a : AL B D xs) (b : AL C D ys) : AL (B + C) D (xs ++ ys) := by
  refine ⟨fun x hx => ?_, by have := a.sz; have := b.sz; simp; omega, fun x hx => ?_⟩
  · rcases List.mem_append.1 hx with h | h
    · exact a.pl x h
    · exact b.pl x h
  · rcases List.mem_append.1 hx with h | h
    · exact a.dp x h
    · exact b.dp x h
theorem AL.mono {B C D E : Nat} {xs : List PyData} (a : AL B D xs) (h1 : B ≤ C) (h2 : D ≤ E) : AL C E xs := ⟨a.pl, Nat.le_trans a.sz h1, fun x hx => Nat.le_trans (a.dp x hx) h2⟩
theorem AL.cons {B C D : Nat} {x : PyData} {xs : List PyData} (a : An B D x) (b : AL C D xs) : AL (B + C) D (x :: xs) := (AL.one a).app b
theorem sz_take (xs : List PyData) (n : Nat) : szAll (xs.take n) ≤ szAll xs ∧ szAll (xs.drop n) ≤ szAll xs := by
  have := szAll_app (xs := xs.take n) (ys := xs.drop n)
  rw [List.take_append_drop] at this
  omega
theorem AL.cut {B D : Nat} {xs : List PyData} (a : AL B D xs) (lo hi : Option Int) : AL B D (cut xs lo hi) := by
  unfold Wh.cut
  have hm : ∀ {x : PyData} {i j : Nat}, x ∈ (xs.drop i).take j → x ∈ xs := fun h => List.mem_of_mem_drop (List.mem_of_mem_take h)
  refine ⟨fun x hx => a.pl x (hm hx), ?_, fun x hx => a.dp x (hm hx)⟩
  exact Nat.le_trans (sz_take _ _).1 (Nat.le_trans (sz_take _ _).2 a.sz)
theorem AL.rev {B D : Nat} {xs : List PyData} (a : AL B D xs) : AL B D xs.reverse := by
  refine ⟨fun x hx => a.pl x (List.mem_reverse.1 hx), ?_, fun x hx => a.dp x (List.mem_reverse.1 hx)⟩
  have : szAll xs.reverse = szAll xs := by
    clear a
    induction xs with
    | nil => rfl
    | cons x xs ih => simp [ih]; omega
  rw [this]; exact a.sz
theorem AL.rep {B D n : Nat} {x : PyData} (h : An B D x) : AL (n * B) D (List.replicate n x) := by
  induction n with
  | zero => exact ⟨by simp, by simp, by simp⟩
  | succ n ih =>
    rw [List.replicate_succ]
    exact (AL.cons h ih).mono (by rw [Nat.succ_mul]; omega) (Nat.le_refl _)
theorem AL.tup {B D : Nat} {xs : List PyData} (a : AL B D xs) : An (B + 1) (D + 1) (.tuple xs) :=
  ⟨by rw [pl_tup]; exact a.pl, by have := a.sz; simp; omega, by have := depthAll_le a.dp; simp; omega⟩
theorem AL.lst {B D : Nat} {xs : List PyData} (a : AL B D xs) : An (B + 1) (D + 1) (.list xs) :=
  ⟨by rw [pl_lst]; exact a.pl, by have := a.sz; simp; omega, by have := depthAll_le a.dp; simp; omega⟩
theorem An.up {B D C E : Nat} {v : PyData} (h : An B D v) (h1 : B ≤ C) (h2 : D ≤ E) : An C E v := ⟨h.pl, Nat.le_trans h.sz h1, Nat.le_trans h.dp h2⟩
theorem PrOk.al {us : List PyData} (h : PrOk us) : AL 1056 16 us := by
  have h3 := okS_sz.2 h.ok
  have := h.n
  exact ⟨fun y hy => (okS_pl (h.ok y hy)).1, by omega, fun y hy => Nat.le_trans (okS_pl (h.ok y hy)).2 (by omega)⟩
theorem Fam.al {vs : List PyData} (h : Fam vs) : AL 6000 17 vs := by
  have key : ∀ vs : List PyData, (∀ v ∈ vs, ∃ us, v = .tuple us ∧ PrOk us) → AL (vs.length * 1057) 17 vs := by
    intro vs
    induction vs with
    | nil => intro _; exact ⟨by simp, by simp, by simp⟩
    | cons v vs ih =>
      intro h
      obtain ⟨us, rfl, hu⟩ := h v (by simp)
      exact (AL.cons hu.al.tup (ih fun v hv => h v (by simp [hv]))).mono (by simp [Nat.succ_mul]; omega) (Nat.le_refl _)
  have := h.2.1
  have h2 : vs.length * 1057 ≤ 5 * 1057 := Nat.mul_le_mul_right _ this
  exact (key vs h.2.2).mono (by omega) (Nat.le_refl _)
theorem toPs_mp (us : List PyData) : toPs (us.map D.p) = some us := by
  induction us with
  | nil => rfl
  | cons u us ih => simp [toPs, D.toP, ih]
def wrC : List PyData := [.none, .int 0, .str "stop", .list [], .dict [], .tuple [.str "stop"], .tuple [.tuple [.str "set", .str "box", .int 1]], .tuple (List.replicate 25 (.tuple [.str "pay", .int 1])), .tuple [.tuple [.str "repeat", .int 8, .tuple (List.replicate 4 (.tuple [.str "pay", .int 1]))]],
  .tuple [.tuple [.str "repeat", .int 3, .tuple [.tuple [.str "if", .tuple [.str "less", .str "n", .int 1], .tuple [], .tuple []]]]], .tuple [.tuple [.str "if", .tuple [.str "rest", .str "n", .int 2, .int 2], .tuple [], .tuple []]]]
theorem wrC_an : ∀ w ∈ wrC, An 1200 18 w := by
  have h : (wrC.all fun w => pl w && decide (sz w ≤ 1200) && decide (w.depth ≤ 18)) = true := by decide +kernel
  intro w hw
  have := List.all_eq_true.1 h w hw
  simp only [Bool.and_eq_true, decide_eq_true_eq] at this
  exact ⟨this.1.1, this.1.2, this.2⟩
def wrL (us : List PyData) : List PyData := [.none, .int 0, .str "stop", .list [], .dict [], .list us, .tuple (us ++ [.tuple [.str "stop", .int 1]]), .tuple (.tuple [.str "pay", .int 100] :: us), .tuple [.str "stop"], .tuple [.tuple [.str "set", .str "box", .int 1]], .tuple (List.replicate 25 (.tuple [.str "pay", .int 1])), .tuple [.tuple [.str "repeat", .int 8, .tuple (List.replicate 4 (.tuple [.str "pay", .int 1]))]], .tuple us,
  .tuple [.tuple [.str "repeat", .int 3, .tuple [.tuple [.str "if", .tuple [.str "less", .str "n", .int 1], .tuple [], .tuple []]]]], .tuple [.tuple [.str "if", .tuple [.str "rest", .str "n", .int 2, .int 2], .tuple [], .tuple []]]]
theorem wrL_an {us : List PyData} (ha : AL 1056 16 us) : ∀ w ∈ wrL us, An 1200 18 w := by
  have h1 : An 10 16 (.tuple [.str "stop", .int 1]) := ⟨by decide +kernel, by simp, by simp⟩
  have h2 : An 10 16 (.tuple [.str "pay", .int 100]) := ⟨by decide +kernel, by simp, by simp⟩
  have k : ∀ w ∈ wrL us, w ∈ wrC ∨ w = .list us ∨ w = .tuple (us ++ [.tuple [.str "stop", .int 1]]) ∨ w = .tuple (.tuple [.str "pay", .int 100] :: us) ∨ w = .tuple us := by
    intro w hw
    simp only [wrL, wrC, List.mem_cons, List.not_mem_nil, or_false] at hw ⊢
    rcases hw with rfl | rfl | rfl | rfl | rfl | rfl | rfl | rfl | rfl | rfl | rfl | rfl | rfl | rfl | rfl <;> simp
  intro w hw
  rcases k w hw with h | rfl | rfl | rfl | rfl
  · exact wrC_an w h
  · exact ha.lst.up (by omega) (by omega)
  · exact (ha.app (AL.one h1)).tup.up (by omega) (by omega)
  · exact (AL.cons h2 ha).tup.up (by omega) (by omega)
  · exact ha.tup.up (by omega) (by omega)
theorem l_wrong (H : HD T) (Hw : T.fn "_law_wrong" = some c__law_wrong_k28) {us : List PyData} (hu : PrOk us) {xs : List Int} {k : Int} {b : Nat} (hd : Dk xs k b) (hb : b + 1 < 2 ^ 40) {m : Nat} (hm : 3 ≤ m) :
    W (callF T m "_law_wrong" [false, false] [deckD xs k, .p (.tuple us)]) fun a => ∃ w xs' k', a = (.p w, [deckD xs' k', .p (.tuple us)]) ∧ An 1200 18 w ∧ Dk xs' k' (b + 1) := by
  have ha := hu.al
  have hl : us.length + 1 ≤ sizeLine := by
    have := szAll_len us
    have := ha.sz
    simp only [sizeLine]; omega
  have hl2 : 1 + us.length ≤ sizeLine := by omega
  have htp := toPs_mp us
  rw [run_at Hw (by omega)]
  simp [c__law_wrong_k28, cstKeys, frz, D.fz, D.toP, toPs, toPk, hl, hl2, htp]
  have key := l_one H hd (by omega) ((wrL us).map .p) (by simp) (by simp [wrL]) (by simp [wrL]) (m := m - 1) (by omega)
  refine W.mono (by simpa [wrL] using key) ?_
  rintro _ ⟨c, xs, k, rfl, hc, hd⟩
  simp
  refine ⟨c, _, _, ⟨rfl, rfl⟩, ?_, hd⟩
  obtain ⟨w, hw, e⟩ := List.mem_map.1 hc
  cases e
  exact wrL_an ha c hw
end Wh


set_option Elab.async false
set_option linter.all false
set_option maxRecDepth 100000
set_option maxHeartbeats 4000000
namespace Wh
open PySem PySem.Spec PyProof.Rows L2 Wh.C
variable {T : Tab}
def c_law_k28 : Fn := ⟨1, 16, [], true, [.asg (.pt (.var 1)) (.call "_law_deck" [(.var 0)]),
  .for_ (.var 2) (.rng1 (.cst (.int 4))) [.asg (.pt (.var 3)) (.call "_law_names" [(.var 1)]),
    .par 4 5 (.call "_law_family" [(.var 1), (.var 3)]) (.call "_law_family" [(.var 1), (.var 3)]),
    .par 6 7 (.call "_law_draw" [(.var 1), (.blt "len" [(.var 4)])]) (.call "_law_wrong" [(.var 1), (.idx (.var 4) (.cst (.int 0)))]),
    .asg (.pt (.var 8)) (.bin .add (.bin .add (.slc (.var 4) none (some (.var 6))) (.tup [(.var 7)])) (.slc (.var 4) (some (.bin .add (.var 6) (.cst (.int 1)))) none)),
    .asg (.pt (.var 9)) (.lst [(.var 4), (.var 8), (.bin .add (.slc (.var 8) none (some (.neg (.cst (.int 1))))) (.tup [(.call "_law_wrong" [(.var 1), (.idx (.var 4) (.neg (.cst (.int 1))))])])), (.blt "list" [(.var 4)]), (.tup [(.var 7)]), (.var 7), (.tup [])]),
    .asg (.pt (.var 9)) (.bin .add (.var 9) (.lst [(.bin .mul (.tup [(.tup [])]) (.bin .add (.cst (.int 5)) (.call "_law_draw" [(.var 1), (.cst (.int 3))]))), (.bin .add (.tup [(.var 7)]) (.bin .mul (.tup [(.tup [])]) (.cst (.int 5)))), (.tup [(.var 4)]), (.rev (.var 4)), (.cst .none), (.dic [] [])])),
    .for_ (.var 10) (.bin .add (.var 9) (.lst [(.slc (.bin .add (.var 4) (.var 5)) none (some (.bin .add (.cst (.int 4)) (.call "_law_draw" [(.var 1), (.cst (.int 4))]))))])) [.par 11 12 (.blt "repr" [(.var 10)]) (.blt "repr" [(.call "_law_family_error" [(.var 10)])]),
      .ite (.or [(.cmp .ne (.blt "repr" [(.call "family_error" [(.var 10)])]) (.var 12)), (.cmp .ne (.blt "repr" [(.var 10)]) (.var 11))]) [.ret (.cst (.bool false))] []],
    .for_ (.var 13) (.rng1 (.cst (.int 5))) [.asg (.pt (.var 14)) (.call "_law_number" [(.var 1)]),
      .asg (.pt (.var 12)) (.blt "tuple" [(.comp (.call "_law_sign" [(.idx (.call "_law_run" [(.var 15), (.var 14)]) (.cst (.int 0)))]) (.var 15) (.var 4) none [15])]),
      .ite (.cmp .ne (.blt "repr" [(.lst [(.call "signs_at" [(.var 4), (.var 14)]), (.call "signs_at" [(.var 4), (.var 14)])])]) (.blt "repr" [(.lst [(.var 12), (.var 12)])])) [.ret (.cst (.bool false))] []]],
  .ret (.cmp .eq (.blt "repr" [(.call "signs_at" [(.tup [(.tup []), (.tup [(.tup [(.cst (.str "pay")), (.cst (.str "n"))])])]), (.neg (.bin .pow (.cst (.int 10)) (.cst (.int 59))))])]) (.cst (.str "(0, -1)")))]⟩
@[simp] theorem W_optI {o : Option (D × Env)} {Q : Option Int × Env → Prop} {hh : HideT Q} : W (optI o) Q hh ↔ W o fun a => match a.1 with | .p (.int i) => Q (some i, a.2) | _ => False := by
  cases o with
  | none => simp [optI]
  | some a =>
    obtain ⟨d, ε⟩ := a
    cases d with
    | p x => cases x <;> simp [optI]
    | _ => simp [optI]
def signsV (vs : List PyData) (n : Int) : List PyData := vs.map fun v => .int (signI (runR (tItems v) n).tot)
theorem s_signs_at (H : HRun T) (Hs : T.fn "signs_at" = some c_signs_at) {vs : List PyData} (hv : ∀ v ∈ vs, ∃ us, v = .tuple us ∧ Prg us) (hl : vs.length ≤ 1000) (n : Int) {m : Nat} (hm : 22 ≤ m) : callF T m "signs_at" [false, false] [.p (.tuple vs), .p (.int n)] = some (.p (.tuple (signsV vs n)), [.p (.tuple vs), .p (.int n)]) := by
  rw [run_at Hs (by omega)]
  apply W.eq
  simp [c_signs_at, ownOk]
  rw [comp_mapP (fun v => .int (signI (runR (tItems v) n).tot))]
  · have hl2 : (signsV vs n).length ≤ sizeLine := by simp only [signsV, List.length_map, sizeLine]; omega
    rw [show (vs.map fun v => PyData.int (signI (runR (tItems v) n).tot)) = signsV vs n from rfl]
    generalize signsV vs n = ys at hl2
    simp [hl2]
  · intro v hvm
    obtain ⟨us, rfl, hu⟩ := hv v hvm
    simp [s_sign H hu n (m := m - 1) (by omega), tItems]
theorem signs_ai (vs : List PyData) (n : Int) (hl : vs.length ≤ 100) : Ai 300 2 (.list [.tuple (signsV vs n), .tuple (signsV vs n)]) := by
  have h1 : pIs (signsV vs n) = true := by
    rw [pIs_iff]
    intro x hx
    obtain ⟨v, _, rfl⟩ := List.mem_map.1 hx
    exact pI_int.2 (sign_small _)
  have h2 : ∀ ws : List PyData, szAll (ws.map fun v => PyData.int (signI (runR (tItems v) n).tot)) = ws.length := by
    intro ws
    induction ws with
    | nil => rfl
    | cons w ws ih => simp [ih]; omega
  have h3 : PyData.depthAll (signsV vs n) ≤ 0 := depthAll_le fun x hx => by
    obtain ⟨v, _, rfl⟩ := List.mem_map.1 hx
    simp
  refine ⟨by simp [pI, pIs, h1], ?_, by simp; omega⟩
  simp [signsV, h2]
  omega
theorem at_last {vs : List PyData} (h : 1 ≤ vs.length) : ∃ v ∈ vs, atI vs (-1) = some v := by
  have hn : ixN vs.length (-1) = some (vs.length - 1) := by
    unfold ixN
    rw [if_neg (by omega), if_pos (by omega)]
    congr 1
    omega
  have hlt : vs.length - 1 < vs.length := by omega
  refine ⟨vs[vs.length - 1], List.getElem_mem hlt, ?_⟩
  unfold atI
  rw [hn]
  simp [List.getElem?_eq_getElem hlt]
theorem at_first {vs : List PyData} (h : 1 ≤ vs.length) : ∃ v ∈ vs, atI vs 0 = some v := by
  cases vs with
  | nil => simp at h
  | cons v vs => exact ⟨v, by simp, by simp⟩
theorem AL.len {B D : Nat} {xs : List PyData} (a : AL B D xs) : xs.length ≤ B := Nat.le_trans (szAll_len xs) a.sz
structure H28 (T : Tab) : Prop where
  family : T.fn "_law_family" = some c__law_family_k28
  wrong : T.fn "_law_wrong" = some c__law_wrong_k28
  family_error : T.fn "_law_family_error" = some c__law_family_error_k28
  number : T.fn "_law_number" = some c__law_number
  sign : T.fn "_law_sign" = some c__law_sign_k25
  signs_at : T.fn "signs_at" = some c_signs_at
theorem k28 (HF : HFa T) (HR : HRun T) (HL : HL T) (HLR : HLr T) (HG : HG T) (H8 : H28 T) (hlaw : T.fn "law" = some c_law_k28) (ns : List Int) (hn : ns.length ≤ 63) {m : Nat} (hm : 40 ≤ m) : ∃ ds', callF T m "law" [] [.p (.list (ns.map .int))] = some (.p (.bool true), ds') := by
  suffices h : W (callF T m "law" [] [.p (.list (ns.map .int))]) fun a => ∃ ds', a = (.p (.bool true), ds') by
    obtain ⟨a, h1, ds, rfl⟩ := h
    exact ⟨ds, h1⟩
  rw [run_at hlaw (by omega)]
  obtain ⟨xs, hdk, hd⟩ := l_deck HG.hd ns hn (m := m - 1) (by omega)
  have hfe := fun v hv hz => s_family_error HF v hv hz (m := m - 1) (by omega)
  have hle := fun v hv hz => l_family_error HL H8.family_error v hv hz (m := m - 1) (by omega)
  have hsa := fun {vs} hv hl n => s_signs_at HR H8.signs_at (vs := vs) hv hl n (m := m - 1) (by omega)
  have hlr := fun xs hx n => l_run HLR (xs := xs) hx n (m := m - 1) (by omega)
  have hls := fun i => l_sign H8.sign i (m := m - 1) (by omega)
  have hpb : progB ≤ 200000000 := by decide +kernel
  obtain ⟨TB, hTB⟩ : ∃ TB, TB = 10 * progB + 2000 := ⟨_, rfl⟩
  have hTB2 : TB ≤ 2100000000 := by omega
  have h36 : (2 : Nat) ^ 36 = 68719476736 := by decide
  have h40 : (2 : Nat) ^ 40 = 1099511627776 := by decide
  simp [c_law_k28, hdk]
  refine W_for (fun r ε => ∃ xs k x2 x3 x4 x5 x6 x7 x8 x9 x10 x11 x12 x13 x14, ε = [some (.p (.list (ns.map .int))), some (deckD xs k), x2, x3, x4, x5, x6, x7, x8, x9, x10, x11, x12, x13, x14, none] ∧ r.length ≤ 4 ∧ Dk xs k ((4 - r.length) * TB)) _ _ ⟨_, _, _, _, _, _, _, _, _, _, _, _, _, _, _, rfl, by rw [rngL_len]; simp, hd.mono (Nat.zero_le _)⟩ ?_ ?_
  · rintro x r ε ⟨xs, k, x2, x3, x4, x5, x6, x7, x8, x9, x10, x11, x12, x13, x14, rfl, g1, hd⟩
    simp only [List.length_cons] at g1 hd
    have hmu1 : (4 - r.length) * TB = (4 - (r.length + 1)) * TB + TB := by
      rw [show 4 - r.length = 4 - (r.length + 1) + 1 by omega, Nat.succ_mul]
    have hmu2 : (4 - (r.length + 1)) * TB ≤ 3 * TB := Nat.mul_le_mul_right _ (by omega)
    generalize (4 - (r.length + 1)) * TB = b at hd hmu1 hmu2
    simp
    refine (l_names HG hd (by omega) (by omega)).mono ?_
    rintro _ ⟨nm, xs, k, rfl, hnm, hd⟩
    simp
    refine (l_family HG H8.family hnm hd (by omega) (by omega)).mono ?_
    rintro _ ⟨fs, xs, k, rfl, hfs, hd⟩
    simp
    refine (l_family HG H8.family hnm hd (by omega) (by omega)).mono ?_
    rintro _ ⟨os, xs, k, rfl, hos, hd⟩
    have fal := hfs.al.mono (Nat.le_refl _) (show 17 ≤ 20 by omega)
    have oal := hos.al.mono (Nat.le_refl _) (show 17 ≤ 20 by omega)
    have hf1 := hfs.1
    have hf2 := hfs.2.1
    have ho2 := hos.2.1
    obtain ⟨v0, hv0, hat0⟩ := at_first hf1
    obtain ⟨v9, hv9, hat9⟩ := at_last hf1
    obtain ⟨u0, rfl, hu0⟩ := hfs.2.2 v0 hv0
    obtain ⟨u9, rfl, hu9⟩ := hfs.2.2 v9 hv9
    simp
    refine (l_draw HG.hd hd (by omega) (fs.length : Int) (by omega) (by omega) (by omega)).mono ?_
    rintro _ ⟨at_, xs, k, rfl, a1, b1, hd⟩
    simp [hat0]
    refine (l_wrong HG.hd H8.wrong hu0 hd (by omega) (by omega)).mono ?_
    rintro _ ⟨bad, xs, k, rfl, hbad, hd⟩
    have hbad := hbad.up (Nat.le_refl _) (show 18 ≤ 20 by omega)
    have c1 := fal.cut none (some at_)
    have c2 := fal.cut (some (at_ + 1)) none
    have hbal : AL 13200 20 (cut fs none (some at_) ++ bad :: cut fs (some (at_ + 1)) none) := (c1.app (AL.cons hbad c2)).mono (by omega) (Nat.le_refl _)
    have hS : ∀ n, n ≤ 100000 → n ≤ sizeLine := fun n h => by simp only [sizeLine]; omega
    have l1 : (cut fs none (some at_)).length + 1 ≤ sizeLine := hS _ (by have := c1.len; omega)
    have l2 : (cut fs none (some at_)).length + 1 + (cut fs (some (at_ + 1)) none).length ≤ sizeLine := hS _ (by have := c1.len; have := c2.len; omega)
    simp [l1, l2]
    generalize cut fs none (some at_) ++ bad :: cut fs (some (at_ + 1)) none = bent at hbal
    simp [hat9]
    have c3 := hbal.cut none (some (-1))
    have l3 : (cut bent none (some (-1))).length + 1 ≤ sizeLine := hS _ (by have := c3.len; omega)
    refine (l_wrong HG.hd H8.wrong hu9 hd (by omega) (by omega)).mono ?_
    rintro _ ⟨bad2, xs, k, rfl, hbad2, hd⟩
    have hbad2 := hbad2.up (Nat.le_refl _) (show 18 ≤ 20 by omega)
    simp [l3, frz]
    refine (l_draw HG.hd hd (by omega) 3 (by omega) (by omega) (by omega)).mono ?_
    rintro _ ⟨j, xs, k, rfl, a2, b2, hd⟩
    have j1 : 0 ≤ 5 + j := by omega
    have j2 : 5 + j ≤ 4000 := by omega
    have l4 : fs.length + os.length ≤ sizeLine := hS _ (by omega)
    simp [j1, j2, frz, cstKeys, D.fz, D.toP, toPs, toPk, l4]
    refine (l_draw HG.hd hd (by omega) 4 (by omega) (by omega) (by omega)).mono ?_
    rintro _ ⟨j3, xs, k, rfl, a3, b3, hd⟩
    simp
    have hall : ∀ v ∈ ([.tuple fs, .tuple bent, .tuple (cut bent none (some (-1)) ++ [bad2]), .list fs, .tuple [bad], bad, .tuple [], .tuple (List.replicate (5 + j).toNat (.tuple [])), .tuple [bad, .tuple [], .tuple [], .tuple [], .tuple [], .tuple []], .tuple [.tuple fs], .tuple fs.reverse, .none, .dict [], .tuple (cut (fs ++ os) none (some (4 + j3)))] : List PyData), An 40000 30 v := by
      have e0 : An 1 20 (.tuple []) := ⟨by simp, by simp, by simp⟩
      have hr : (5 + j).toNat ≤ 10 := by omega
      have hr2 : (5 + j).toNat * 1 ≤ 10 := by omega
      intro v hv
      simp only [List.mem_cons, List.not_mem_nil, or_false] at hv
      rcases hv with rfl | rfl | rfl | rfl | rfl | rfl | rfl | rfl | rfl | rfl | rfl | rfl | rfl | rfl
      · exact fal.tup.up (by omega) (by omega)
      · exact hbal.tup.up (by omega) (by omega)
      · exact (c3.app (AL.one hbad2)).tup.up (by omega) (by omega)
      · exact fal.lst.up (by omega) (by omega)
      · exact (AL.one hbad).tup.up (by omega) (by omega)
      · exact hbad.up (by omega) (by omega)
      · exact e0.up (by omega) (by omega)
      · exact (AL.rep e0).tup.up (by omega) (by omega)
      · exact (AL.cons hbad (AL.cons e0 (AL.cons e0 (AL.cons e0 (AL.cons e0 (AL.one e0)))))).tup.up (by omega) (by omega)
      · exact (AL.one (fal.tup)).tup.up (by omega) (by omega)
      · exact fal.rev.tup.up (by omega) (by omega)
      · exact ⟨by simp [pl], by simp, by simp⟩
      · exact ⟨by decide +kernel, by simp, by decide +kernel⟩
      · exact ((fal.app oal).cut none (some (4 + j3))).tup.up (by omega) (by omega)
    generalize ([.tuple fs, .tuple bent, .tuple (cut bent none (some (-1)) ++ [bad2]), .list fs, .tuple [bad], bad, .tuple [], .tuple (List.replicate (5 + j).toNat (.tuple [])), .tuple [bad, .tuple [], .tuple [], .tuple [], .tuple [], .tuple []], .tuple [.tuple fs], .tuple fs.reverse, .none, .dict [], .tuple (cut (fs ++ os) none (some (4 + j3)))] : List PyData) = LL at hall ⊢
    refine W_for (fun LL ε => ∃ x2 x3 x5 x6 x7 x8 x9 x10 x11 x12 x13 x14, ε = [some (.p (.list (ns.map .int))), some (deckD xs k), x2, x3, some (.p (.tuple fs)), x5, x6, x7, x8, x9, x10, x11, x12, x13, x14, none] ∧ ∀ v ∈ LL, An 40000 30 v) _ _ ⟨_, _, _, _, _, _, _, _, _, _, _, _, rfl, hall⟩ ?_ ?_
    · rintro v LL ε ⟨x2, x3, x5, x6, x7, x8, x9, x10, x11, x12, x13, x14, rfl, hall⟩
      have ha := hall v (by simp)
      have hall2 : ∀ v ∈ LL, An 40000 30 v := fun v hv => hall v (by simp [hv])
      have hs := ha.sm
      have hz := Nat.le_trans ha.sz (show 40000 ≤ 900000 by omega)
      have r1 := ha.repr (by omega) (by omega)
      have r2 := (famErr_an v).repr (by omega) (by omega)
      simp [hfe v hs hz, hle v hs hz, r1, r2]
      exact .mk ⟨_, _, _, _, _, _, _, _, _, _, _, _, rfl, hall2⟩
    · rintro ε ⟨x2, x3, x5, x6, x7, x8, x9, x10, x11, x12, x13, x14, rfl, _⟩
      simp
      have hpr : ∀ v ∈ fs, ∃ us, v = .tuple us ∧ Prg us := fun v hv => by
        obtain ⟨us, rfl, hu⟩ := hfs.2.2 v hv
        exact ⟨us, rfl, hu.prg⟩
      refine W_for (fun r2 ε => ∃ xs k x2 x3 x5 x6 x7 x8 x9 x10 x11 x12 x13 x14, ε = [some (.p (.list (ns.map .int))), some (deckD xs k), x2, x3, some (.p (.tuple fs)), x5, x6, x7, x8, x9, x10, x11, x12, x13, x14, none] ∧ r2.length ≤ 5 ∧ Dk xs k (b + 10 * progB + 1000 + (5 - r2.length) * 10)) _ _ ⟨_, _, _, _, _, _, _, _, _, _, _, _, _, _, rfl, by rw [rngL_len]; simp, hd.mono (by omega)⟩ ?_ ?_
      · rintro y r2 ε ⟨xs, k, x2, x3, x5, x6, x7, x8, x9, x10, x11, x12, x13, x14, rfl, f1, hd⟩
        simp only [List.length_cons] at f1 hd
        simp
        refine (l_number HG.hd H8.number hd (by omega) (by omega)).mono ?_
        rintro _ ⟨i, xs, k, rfl, hi, hd⟩
        simp [ownOk]
        rw [comp_mapP (fun v => .int (signI (runR (tItems v) i).tot))]
        · have hre := (signs_ai fs i (by omega)).reprL (ds := [.p (.tuple (signsV fs i)), .p (.tuple (signsV fs i))]) (by omega) (by omega) rfl
          have hl2 : (signsV fs i).length ≤ sizeLine := hS _ (by simp only [signsV, List.length_map]; omega)
          have hs := hsa hpr (by omega) i
          rw [show (fs.map fun v => PyData.int (signI (runR (tItems v) i).tot)) = signsV fs i from rfl]
          generalize signsV fs i = ys at hl2 hre hs
          simp [hl2, hs, frz, hre]
          exact .mk ⟨_, _, _, _, _, _, _, _, _, _, _, _, _, _, rfl, by omega, hd.mono (by omega)⟩
        · intro v hv
          obtain ⟨us, rfl, hu⟩ := hpr v hv
          have hix : getIx (.p (runV us i)) (.p (.int 0)) = some (.p (.int (runR us i).tot)) := rfl
          simp [hlr us hu i, hix, hls, tItems]
      · rintro ε ⟨xs, k, x2, x3, x5, x6, x7, x8, x9, x10, x11, x12, x13, x14, rfl, f1, hd⟩
        simp
        exact .mk ⟨_, _, _, _, _, _, _, _, _, _, _, _, _, _, _, rfl, by omega, hd.mono (by simp; omega)⟩
  · rintro ε ⟨xs, k, x2, x3, x4, x5, x6, x7, x8, x9, x10, x11, x12, x13, x14, rfl, g1, hd⟩
    have hp2 : ∀ v ∈ ([.tuple [], .tuple [.tuple [.str "pay", .str "n"]]] : List PyData), ∃ us, v = .tuple us ∧ Prg us := by
      intro v hv
      simp only [List.mem_cons, List.not_mem_nil, or_false] at hv
      rcases hv with rfl | rfl
      · exact ⟨_, rfl, ⟨by simp, by simp, by simp [wtB]⟩⟩
      · exact ⟨_, rfl, ⟨by decide +kernel, by decide +kernel, by decide +kernel⟩⟩
    have hs := hsa hp2 (by simp) (-100000000000000000000000000000000000000000000000000000000000)
    have e1 : signsV [.tuple [], .tuple [.tuple [.str "pay", .str "n"]]] (-100000000000000000000000000000000000000000000000000000000000) = [.int 0, .int (-1)] := by
      have h1 : signI (runR [] (-100000000000000000000000000000000000000000000000000000000000)).tot = 0 := by decide +kernel
      have h2 : signI (runR [.tuple [.str "pay", .str "n"]] (-100000000000000000000000000000000000000000000000000000000000)).tot = -1 := by decide +kernel
      simp [signsV, tItems, h1, h2]
    rw [e1] at hs
    have hre : reprV (.p (.tuple [.int 0, .int (-1)])) = some "(0, -1)" := by decide +kernel
    simp [hs, hre]
end Wh


set_option Elab.async false
set_option linter.all false
set_option maxRecDepth 100000
set_option maxHeartbeats 0
namespace Wk28
open PySem PySem.Spec PyProof.Rows L2 Wh
def top (i : Nat) : Stmt := topAt (PySem.Challenge.pw_whichheld_k28_families_and_signs).main.body i
def d_is_whole : Df := ⟨"is_whole", 17, [("value" : Str), ("least" : Str), ("most" : Str)], Wh.C.c_is_whole, none⟩
def d_is_name : Df := ⟨"is_name", 18, [("value" : Str), ("letter" : Str)], Wh.C.c_is_name_k00, none⟩
def d_is_expression : Df := ⟨"is_expression", 19, [("value" : Str), ("deep" : Str)], Wh.C.c_is_expression, none⟩
def d_is_rest : Df := ⟨"is_rest", 20, [("value" : Str)], Wh.C.c_is_rest, none⟩
def d_is_test : Df := ⟨"is_test", 21, [("value" : Str), ("nots" : Str)], Wh.C.c_is_test, none⟩
def d_are_blocks : Df := ⟨"are_blocks", 22, [("values" : Str), ("value" : Str)], Wh.C.c_are_blocks, none⟩
def d_is_statement : Df := ⟨"is_statement", 23, [("value" : Str)], Wh.C.c_is_statement, none⟩
def d_blocks_of : Df := ⟨"blocks_of", 24, [("statement" : Str)], Wh.C.c_blocks_of, none⟩
def d_items_within : Df := ⟨"items_within", 25, [("item" : Str), ("depth" : Str), ("found" : Str), ("block" : Str), ("own" : Str)], Wh.C.c_items_within, none⟩
def d_rows_of : Df := ⟨"rows_of", 26, [("program" : Str), ("waiting" : Str), ("found" : Str), ("depth" : Str), ("statement" : Str), ("item" : Str)], Wh.C.c_rows_of, none⟩
def d_order_error : Df := ⟨"order_error", 27, [("value" : Str), ("waiting" : Str), ("place" : Str), ("depth" : Str), ("item" : Str)], Wh.C.c_order_error, none⟩
def d_bare : Df := ⟨"bare", 28, [("test" : Str)], Wh.C.c_bare, none⟩
def d_own_count : Df := ⟨"own_count", 29, [("statement" : Str), ("sort" : Str)], Wh.C.c_own_count, none⟩
def d_counted : Df := ⟨"counted", 30, [("block" : Str), ("sort" : Str), ("found" : Str), ("statement" : Str), ("inner" : Str), ("part" : Str)], Wh.C.c_counted, none⟩
def d_weight : Df := ⟨"weight", 31, [("program" : Str)], Wh.C.c_weight, none⟩
def d_program_error : Df := ⟨"program_error", 32, [("value" : Str), ("found" : Str)], Wh.C.c_program_error, none⟩
def d_places_in : Df := ⟨"places_in", 33, [("statement" : Str), ("block" : Str)], Wh.C.c_places_in, none⟩
def d_block_places : Df := ⟨"block_places", 34, [("block" : Str), ("statement" : Str)], Wh.C.c_block_places, none⟩
def d_value_of : Df := ⟨"value_of", 37, [("expression" : Str), ("names" : Str), ("sort" : Str), ("first" : Str), ("second" : Str)], Wh.C.c_value_of, none⟩
def d_is_true : Df := ⟨"is_true", 38, [("test" : Str), ("names" : Str)], Wh.C.c_is_true, none⟩
def d_Course_init : Df := ⟨"Course.__init__", 40000, [("self" : Str), ("number" : Str)], Wh.C.c_Course_init, (some ("Course" : Str))⟩
def d_Course_parts : Df := ⟨"Course.parts", 40001, [("self" : Str), ("statement" : Str), ("place" : Str)], Wh.C.c_Course_parts, (some ("Course" : Str))⟩
def d_Course_do : Df := ⟨"Course.do", 40002, [("self" : Str), ("statement" : Str), ("place" : Str), ("block" : Str), ("first" : Str)], Wh.C.c_Course_do, (some ("Course" : Str))⟩
def d_Course_go : Df := ⟨"Course.go", 40003, [("self" : Str), ("block" : Str), ("place" : Str), ("statement" : Str)], Wh.C.c_Course_go, (some ("Course" : Str))⟩
def d_run : Df := ⟨"run", 40, [("program" : Str), ("number" : Str), ("course" : Str)], Wh.C.c_run, none⟩
def d_sign_of : Df := ⟨"sign_of", 41, [("number" : Str)], Wh.C.c_sign_of, none⟩
def d_sign : Df := ⟨"sign", 42, [("program" : Str), ("number" : Str)], Wh.C.c_sign, none⟩
def d_family_error : Df := ⟨"family_error", 44, [("value" : Str), ("index" : Str), ("program" : Str), ("error" : Str)], Wh.C.c_family_error, none⟩
def d_signs_at : Df := ⟨"signs_at", 45, [("family" : Str), ("number" : Str), ("program" : Str)], Wh.C.c_signs_at, none⟩
def d__law_deck : Df := ⟨"_law_deck", 47, [("_law_script" : Str), ("_law_cell" : Str)], Wh.C.c__law_deck, none⟩
def d__law_draw : Df := ⟨"_law_draw", 48, [("_law_deck_here" : Str), ("_law_many" : Str), ("_law_cell" : Str), ("_law_at" : Str), ("_law_mixed" : Str)], Wh.C.c__law_draw_k00, none⟩
def d__law_one : Df := ⟨"_law_one", 49, [("_law_deck_here" : Str), ("_law_items" : Str)], Wh.C.c__law_one, none⟩
def d__law_names : Df := ⟨"_law_names", 50, [("_law_deck_here" : Str), ("_law_letters" : Str), ("_law_signs" : Str), ("_law_words" : Str), ("_law_at" : Str), ("_law_size_here" : Str), ("_law_before" : Str), ("_law_behind" : Str), ("_law_k" : Str)], Wh.C.c__law_names_k21, none⟩
def d__law_expression : Df := ⟨"_law_expression", 51, [("_law_deck_here" : Str), ("_law_names_here" : Str), ("_law_deep" : Str), ("_law_way" : Str), ("_law_factor" : Str), ("_law_first" : Str)], Wh.C.c__law_expression_k22, none⟩
def d__law_test : Df := ⟨"_law_test", 52, [("_law_deck_here" : Str), ("_law_names_here" : Str), ("_law_room" : Str), ("_law_times" : Str), ("_law_nots" : Str), ("_law_test_here" : Str), ("_law_by" : Str), ("_law_first" : Str), ("_law_k" : Str)], Wh.C.c__law_test_k22, none⟩
def d__law_plain : Df := ⟨"_law_plain", 53, [("_law_deck_here" : Str), ("_law_names_here" : Str), ("_law_way" : Str), ("_law_name" : Str)], Wh.C.c__law_plain_k22, none⟩
def d__law_row : Df := ⟨"_law_row", 54, [("_law_deck_here" : Str), ("_law_names_here" : Str), ("_law_room" : Str), ("_law_times" : Str), ("_law_depth" : Str), ("_law_way" : Str), ("_law_test_here" : Str), ("_law_yes" : Str), ("_law_again" : Str)], Wh.C.c__law_row_k22, none⟩
def d__law_block : Df := ⟨"_law_block", 55, [("_law_deck_here" : Str), ("_law_names_here" : Str), ("_law_room" : Str), ("_law_times" : Str), ("_law_depth" : Str), ("_law_many" : Str), ("_law_rows" : Str), ("_law_k" : Str), ("_law_row_here" : Str)], Wh.C.c__law_block_k22, none⟩
def d__law_program : Df := ⟨"_law_program", 56, [("_law_deck_here" : Str), ("_law_names_here" : Str), ("_law_room" : Str), ("_law_program_here" : Str), ("_law_k" : Str)], Wh.C.c__law_program_k22, none⟩
def d__law_number : Df := ⟨"_law_number", 57, [("_law_deck_here" : Str), ("_law_way" : Str), ("_law_side" : Str)], Wh.C.c__law_number, none⟩
def d__law_parts : Df := ⟨"_law_parts", 58, [("_law_row_here" : Str)], Wh.C.c__law_parts_k21, none⟩
def d__law_whole : Df := ⟨"_law_whole", 59, [("_law_value_here" : Str), ("_law_least" : Str), ("_law_most" : Str)], Wh.C.c__law_whole_k21, none⟩
def d__law_is_name : Df := ⟨"_law_is_name", 60, [("_law_value_here" : Str), ("_law_kept" : Str), ("_law_letter" : Str)], Wh.C.c__law_is_name_k21, none⟩
def d__law_is_expression : Df := ⟨"_law_is_expression", 61, [("_law_value_here" : Str), ("_law_deep" : Str)], Wh.C.c__law_is_expression, none⟩
def d__law_is_rest : Df := ⟨"_law_is_rest", 62, [("_law_value_here" : Str)], Wh.C.c__law_is_rest_k21, none⟩
def d__law_is_test : Df := ⟨"_law_is_test", 63, [("_law_value_here" : Str), ("_law_nots" : Str)], Wh.C.c__law_is_test_k21, none⟩
def d__law_is_statement : Df := ⟨"_law_is_statement", 64, [("_law_value_here" : Str), ("_law_part" : Str)], Wh.C.c__law_is_statement, none⟩
def d__law_counts : Df := ⟨"_law_counts", 65, [("_law_block_here" : Str), ("_law_found" : Str), ("_law_row_here" : Str), ("_law_test_here" : Str), ("_law_own" : Str), ("_law_part" : Str), ("_law_inner" : Str), ("_law_times" : Str), ("_law_k" : Str)], Wh.C.c__law_counts_k21, none⟩
def d__law_error : Df := ⟨"_law_error", 66, [("_law_value_here" : Str), ("_law_waiting" : Str), ("_law_place" : Str), ("_law_depth" : Str), ("_law_row_here" : Str), ("_law_inner" : Str), ("_law_part" : Str), ("_law_found" : Str), ("_law_k" : Str), ("_law_word" : Str), ("_law_item" : Str)], Wh.C.c__law_error_k21, none⟩
def d__law_value : Df := ⟨"_law_value", 67, [("_law_expression_here" : Str), ("_law_names_here" : Str), ("_law_second" : Str), ("_law_first" : Str)], Wh.C.c__law_value_k25, none⟩
def d__law_true : Df := ⟨"_law_true", 68, [("_law_test_here" : Str), ("_law_names_here" : Str)], Wh.C.c__law_true, none⟩
def d__law_size : Df := ⟨"_law_size", 69, [("_law_block_here" : Str), ("_law_row_here" : Str), ("_law_part" : Str)], Wh.C.c__law_size, none⟩
def d__law_go : Df := ⟨"_law_go", 70, [("_law_world" : Str), ("_law_block_here" : Str), ("_law_place" : Str), ("_law_row_here" : Str), ("_law_inner" : Str), ("_law_truth" : Str), ("_law_part" : Str), ("_law_first" : Str)], Wh.C.c__law_go, none⟩
def d__law_run : Df := ⟨"_law_run", 71, [("_law_program_here" : Str), ("_law_number_here" : Str), ("_law_world" : Str)], Wh.C.c__law_run, none⟩
def d__law_sign : Df := ⟨"_law_sign", 72, [("_law_total" : Str)], Wh.C.c__law_sign_k25, none⟩
def d__law_family : Df := ⟨"_law_family", 73, [("_law_deck_here" : Str), ("_law_names_here" : Str), ("_law_found" : Str), ("_law_k" : Str)], Wh.C.c__law_family_k28, none⟩
def d__law_wrong : Df := ⟨"_law_wrong", 74, [("_law_deck_here" : Str), ("_law_program_here" : Str), ("_law_some" : Str)], Wh.C.c__law_wrong_k28, none⟩
def d__law_family_error : Df := ⟨"_law_family_error", 75, [("_law_value_here" : Str), ("_law_found" : Str), ("_law_wrong_here" : Str), ("_law_index" : Str), ("_law_pair" : Str)], Wh.C.c__law_family_error_k28, none⟩
def d_law : Df := ⟨"law", 76, [("_law_script" : Str), ("_law_deck_here" : Str), ("_law_turn" : Str), ("_law_names_here" : Str), ("_law_family_here" : Str), ("_law_other" : Str), ("_law_at" : Str), ("_law_bad" : Str), ("_law_bent" : Str), ("_law_values" : Str), ("_law_value_here" : Str), ("_law_kept" : Str), ("_law_due" : Str), ("_law_k" : Str), ("_law_number_here" : Str), ("_law_program_here" : Str)], Wh.c_law_k28, none⟩
def ds : List Df := [d_is_whole, d_is_name, d_is_expression, d_is_rest, d_is_test, d_are_blocks, d_is_statement, d_blocks_of, d_items_within, d_rows_of, d_order_error, d_bare, d_own_count, d_counted, d_weight, d_program_error, d_places_in, d_block_places, d_value_of, d_is_true, d_Course_init, d_Course_parts, d_Course_do, d_Course_go, d_run, d_sign_of, d_sign, d_family_error, d_signs_at, d__law_deck, d__law_draw, d__law_one, d__law_names, d__law_expression, d__law_test, d__law_plain, d__law_row, d__law_block, d__law_program, d__law_number, d__law_parts, d__law_whole, d__law_is_name, d__law_is_expression, d__law_is_rest, d__law_is_test, d__law_is_statement, d__law_counts, d__law_error, d__law_value, d__law_true, d__law_size, d__law_go, d__law_run, d__law_sign, d__law_family, d__law_wrong, d__law_family_error, d_law]
def glo : List (Str × PyData) := [("MAX_NAME", (.int 8)), ("MAX_TIMES", (.int 8)), ("MAX_DEEP", (.int 3)), ("MAX_NOTS", (.int 2)), ("MAX_BY", (.int 6)), ("MAX_PLACES", (.int 24)), ("MAX_WEIGHT", (.int 30)), ("MAX_RESTS", (.int 2)), ("MAX_COMPARINGS", (.int 2)), ("MAX_NEST", (.int 3)), ("MAX_FAMILY", (.int 5)), ("LETTERS", (.str "abcdefghijklmnopqrstuvwxyz")), ("SIGNS", (.str "abcdefghijklmnopqrstuvwxyz0123456789")), ("KEPT", (.tuple [(.str "box"), (.str "set"), (.str "pay"), (.str "stop"), (.str "if"), (.str "else"), (.str "repeat"), (.str "pass"), (.str "rest"), (.str "of"), (.str "not"), (.str "program")])), ("MOST_NUMBER", (.int 99)), ("MOST_FACTOR", (.int 9)), ("INPUT", (.str "n"))]
def cls : List (Str × List Str) := [("Course", ["names", "total", "places", "is_stopped"])]
def txt : Txt1 := ⟨top, ds, glo, cls⟩
theorem ok : (txt.clsB && txt.ds.all (Df.ok txt.tab txt.top)) = true := by decide +kernel
theorem b_is_whole : BindD top d_is_whole := fun K fd F => by
  rw [show psOf (top d_is_whole.at_) = [("value" : Str), ("least" : Str), ("most" : Str)] by kernel_rfl]
  exact FunD.bindsN F fun _ _ _ _ _ _ us hl => match us, hl with | [_, _, _], _ => rfl
theorem b_is_name : BindD top d_is_name := fun K fd F => by
  rw [show psOf (top d_is_name.at_) = [("value" : Str)] by kernel_rfl]
  exact FunD.bindsN F fun _ _ _ _ _ _ us hl => match us, hl with | [_], _ => rfl
theorem b_is_expression : BindD top d_is_expression := fun K fd F => by
  rw [show psOf (top d_is_expression.at_) = [("value" : Str), ("deep" : Str)] by kernel_rfl]
  exact FunD.bindsN F fun _ _ _ _ _ _ us hl => match us, hl with | [_, _], _ => rfl
theorem b_is_rest : BindD top d_is_rest := fun K fd F => by
  rw [show psOf (top d_is_rest.at_) = [("value" : Str)] by kernel_rfl]
  exact FunD.bindsN F fun _ _ _ _ _ _ us hl => match us, hl with | [_], _ => rfl
theorem b_is_test : BindD top d_is_test := fun K fd F => by
  rw [show psOf (top d_is_test.at_) = [("value" : Str), ("nots" : Str)] by kernel_rfl]
  exact FunD.bindsN F fun _ _ _ _ _ _ us hl => match us, hl with | [_, _], _ => rfl
theorem b_are_blocks : BindD top d_are_blocks := fun K fd F => by
  rw [show psOf (top d_are_blocks.at_) = [("values" : Str)] by kernel_rfl]
  exact FunD.bindsN F fun _ _ _ _ _ _ us hl => match us, hl with | [_], _ => rfl
theorem b_is_statement : BindD top d_is_statement := fun K fd F => by
  rw [show psOf (top d_is_statement.at_) = [("value" : Str)] by kernel_rfl]
  exact FunD.bindsN F fun _ _ _ _ _ _ us hl => match us, hl with | [_], _ => rfl
theorem b_blocks_of : BindD top d_blocks_of := fun K fd F => by
  rw [show psOf (top d_blocks_of.at_) = [("statement" : Str)] by kernel_rfl]
  exact FunD.bindsN F fun _ _ _ _ _ _ us hl => match us, hl with | [_], _ => rfl
theorem b_items_within : BindD top d_items_within := fun K fd F => by
  rw [show psOf (top d_items_within.at_) = [("item" : Str), ("depth" : Str)] by kernel_rfl]
  exact FunD.bindsN F fun _ _ _ _ _ _ us hl => match us, hl with | [_, _], _ => rfl
theorem b_rows_of : BindD top d_rows_of := fun K fd F => by
  rw [show psOf (top d_rows_of.at_) = [("program" : Str)] by kernel_rfl]
  exact FunD.bindsN F fun _ _ _ _ _ _ us hl => match us, hl with | [_], _ => rfl
theorem b_order_error : BindD top d_order_error := fun K fd F => by
  rw [show psOf (top d_order_error.at_) = [("value" : Str)] by kernel_rfl]
  exact FunD.bindsN F fun _ _ _ _ _ _ us hl => match us, hl with | [_], _ => rfl
theorem b_bare : BindD top d_bare := fun K fd F => by
  rw [show psOf (top d_bare.at_) = [("test" : Str)] by kernel_rfl]
  exact FunD.bindsN F fun _ _ _ _ _ _ us hl => match us, hl with | [_], _ => rfl
theorem b_own_count : BindD top d_own_count := fun K fd F => by
  rw [show psOf (top d_own_count.at_) = [("statement" : Str), ("sort" : Str)] by kernel_rfl]
  exact FunD.bindsN F fun _ _ _ _ _ _ us hl => match us, hl with | [_, _], _ => rfl
theorem b_counted : BindD top d_counted := fun K fd F => by
  rw [show psOf (top d_counted.at_) = [("block" : Str), ("sort" : Str)] by kernel_rfl]
  exact FunD.bindsN F fun _ _ _ _ _ _ us hl => match us, hl with | [_, _], _ => rfl
theorem b_weight : BindD top d_weight := fun K fd F => by
  rw [show psOf (top d_weight.at_) = [("program" : Str)] by kernel_rfl]
  exact FunD.bindsN F fun _ _ _ _ _ _ us hl => match us, hl with | [_], _ => rfl
theorem b_program_error : BindD top d_program_error := fun K fd F => by
  rw [show psOf (top d_program_error.at_) = [("value" : Str)] by kernel_rfl]
  exact FunD.bindsN F fun _ _ _ _ _ _ us hl => match us, hl with | [_], _ => rfl
theorem b_places_in : BindD top d_places_in := fun K fd F => by
  rw [show psOf (top d_places_in.at_) = [("statement" : Str)] by kernel_rfl]
  exact FunD.bindsN F fun _ _ _ _ _ _ us hl => match us, hl with | [_], _ => rfl
theorem b_block_places : BindD top d_block_places := fun K fd F => by
  rw [show psOf (top d_block_places.at_) = [("block" : Str)] by kernel_rfl]
  exact FunD.bindsN F fun _ _ _ _ _ _ us hl => match us, hl with | [_], _ => rfl
theorem b_value_of : BindD top d_value_of := fun K fd F => by
  rw [show psOf (top d_value_of.at_) = [("expression" : Str), ("names" : Str)] by kernel_rfl]
  exact FunD.bindsN F fun _ _ _ _ _ _ us hl => match us, hl with | [_, _], _ => rfl
theorem b_is_true : BindD top d_is_true := fun K fd F => by
  rw [show psOf (top d_is_true.at_) = [("test" : Str), ("names" : Str)] by kernel_rfl]
  exact FunD.bindsN F fun _ _ _ _ _ _ us hl => match us, hl with | [_, _], _ => rfl
theorem b_Course_init : BindD top d_Course_init := fun K fd F => by
  rw [show psOf (top d_Course_init.at_) = [("self" : Str), ("number" : Str)] by kernel_rfl]
  exact FunD.bindsN F fun _ _ _ _ _ _ us hl => match us, hl with | [_, _], _ => rfl
theorem b_Course_parts : BindD top d_Course_parts := fun K fd F => by
  rw [show psOf (top d_Course_parts.at_) = [("self" : Str), ("statement" : Str), ("place" : Str)] by kernel_rfl]
  exact FunD.bindsN F fun _ _ _ _ _ _ us hl => match us, hl with | [_, _, _], _ => rfl
theorem b_Course_do : BindD top d_Course_do := fun K fd F => by
  rw [show psOf (top d_Course_do.at_) = [("self" : Str), ("statement" : Str), ("place" : Str)] by kernel_rfl]
  exact FunD.bindsN F fun _ _ _ _ _ _ us hl => match us, hl with | [_, _, _], _ => rfl
theorem b_Course_go : BindD top d_Course_go := fun K fd F => by
  rw [show psOf (top d_Course_go.at_) = [("self" : Str), ("block" : Str), ("place" : Str)] by kernel_rfl]
  exact FunD.bindsN F fun _ _ _ _ _ _ us hl => match us, hl with | [_, _, _], _ => rfl
theorem b_run : BindD top d_run := fun K fd F => by
  rw [show psOf (top d_run.at_) = [("program" : Str), ("number" : Str)] by kernel_rfl]
  exact FunD.bindsN F fun _ _ _ _ _ _ us hl => match us, hl with | [_, _], _ => rfl
theorem b_sign_of : BindD top d_sign_of := fun K fd F => by
  rw [show psOf (top d_sign_of.at_) = [("number" : Str)] by kernel_rfl]
  exact FunD.bindsN F fun _ _ _ _ _ _ us hl => match us, hl with | [_], _ => rfl
theorem b_sign : BindD top d_sign := fun K fd F => by
  rw [show psOf (top d_sign.at_) = [("program" : Str), ("number" : Str)] by kernel_rfl]
  exact FunD.bindsN F fun _ _ _ _ _ _ us hl => match us, hl with | [_, _], _ => rfl
theorem b_family_error : BindD top d_family_error := fun K fd F => by
  rw [show psOf (top d_family_error.at_) = [("value" : Str)] by kernel_rfl]
  exact FunD.bindsN F fun _ _ _ _ _ _ us hl => match us, hl with | [_], _ => rfl
theorem b_signs_at : BindD top d_signs_at := fun K fd F => by
  rw [show psOf (top d_signs_at.at_) = [("family" : Str), ("number" : Str)] by kernel_rfl]
  exact FunD.bindsN F fun _ _ _ _ _ _ us hl => match us, hl with | [_, _], _ => rfl
theorem b__law_deck : BindD top d__law_deck := fun K fd F => by
  rw [show psOf (top d__law_deck.at_) = [("_law_script" : Str)] by kernel_rfl]
  exact FunD.bindsN F fun _ _ _ _ _ _ us hl => match us, hl with | [_], _ => rfl
theorem b__law_draw : BindD top d__law_draw := fun K fd F => by
  rw [show psOf (top d__law_draw.at_) = [("_law_deck_here" : Str), ("_law_many" : Str)] by kernel_rfl]
  exact FunD.bindsN F fun _ _ _ _ _ _ us hl => match us, hl with | [_, _], _ => rfl
theorem b__law_one : BindD top d__law_one := fun K fd F => by
  rw [show psOf (top d__law_one.at_) = [("_law_deck_here" : Str), ("_law_items" : Str)] by kernel_rfl]
  exact FunD.bindsN F fun _ _ _ _ _ _ us hl => match us, hl with | [_, _], _ => rfl
theorem b__law_names : BindD top d__law_names := fun K fd F => by
  rw [show psOf (top d__law_names.at_) = [("_law_deck_here" : Str)] by kernel_rfl]
  exact FunD.bindsN F fun _ _ _ _ _ _ us hl => match us, hl with | [_], _ => rfl
theorem b__law_expression : BindD top d__law_expression := fun K fd F => by
  rw [show psOf (top d__law_expression.at_) = [("_law_deck_here" : Str), ("_law_names_here" : Str), ("_law_deep" : Str)] by kernel_rfl]
  exact FunD.bindsN F fun _ _ _ _ _ _ us hl => match us, hl with | [_, _, _], _ => rfl
theorem b__law_test : BindD top d__law_test := fun K fd F => by
  rw [show psOf (top d__law_test.at_) = [("_law_deck_here" : Str), ("_law_names_here" : Str), ("_law_room" : Str), ("_law_times" : Str)] by kernel_rfl]
  exact FunD.bindsN F fun _ _ _ _ _ _ us hl => match us, hl with | [_, _, _, _], _ => rfl
theorem b__law_plain : BindD top d__law_plain := fun K fd F => by
  rw [show psOf (top d__law_plain.at_) = [("_law_deck_here" : Str), ("_law_names_here" : Str)] by kernel_rfl]
  exact FunD.bindsN F fun _ _ _ _ _ _ us hl => match us, hl with | [_, _], _ => rfl
theorem b__law_row : BindD top d__law_row := fun K fd F => by
  rw [show psOf (top d__law_row.at_) = [("_law_deck_here" : Str), ("_law_names_here" : Str), ("_law_room" : Str), ("_law_times" : Str), ("_law_depth" : Str)] by kernel_rfl]
  exact FunD.bindsN F fun _ _ _ _ _ _ us hl => match us, hl with | [_, _, _, _, _], _ => rfl
theorem b__law_block : BindD top d__law_block := fun K fd F => by
  rw [show psOf (top d__law_block.at_) = [("_law_deck_here" : Str), ("_law_names_here" : Str), ("_law_room" : Str), ("_law_times" : Str), ("_law_depth" : Str)] by kernel_rfl]
  exact FunD.bindsN F fun _ _ _ _ _ _ us hl => match us, hl with | [_, _, _, _, _], _ => rfl
theorem b__law_program : BindD top d__law_program := fun K fd F => by
  rw [show psOf (top d__law_program.at_) = [("_law_deck_here" : Str), ("_law_names_here" : Str)] by kernel_rfl]
  exact FunD.bindsN F fun _ _ _ _ _ _ us hl => match us, hl with | [_, _], _ => rfl
theorem b__law_number : BindD top d__law_number := fun K fd F => by
  rw [show psOf (top d__law_number.at_) = [("_law_deck_here" : Str)] by kernel_rfl]
  exact FunD.bindsN F fun _ _ _ _ _ _ us hl => match us, hl with | [_], _ => rfl
theorem b__law_parts : BindD top d__law_parts := fun K fd F => by
  rw [show psOf (top d__law_parts.at_) = [("_law_row_here" : Str)] by kernel_rfl]
  exact FunD.bindsN F fun _ _ _ _ _ _ us hl => match us, hl with | [_], _ => rfl
theorem b__law_whole : BindD top d__law_whole := fun K fd F => by
  rw [show psOf (top d__law_whole.at_) = [("_law_value_here" : Str), ("_law_least" : Str), ("_law_most" : Str)] by kernel_rfl]
  exact FunD.bindsN F fun _ _ _ _ _ _ us hl => match us, hl with | [_, _, _], _ => rfl
theorem b__law_is_name : BindD top d__law_is_name := fun K fd F => by
  rw [show psOf (top d__law_is_name.at_) = [("_law_value_here" : Str)] by kernel_rfl]
  exact FunD.bindsN F fun _ _ _ _ _ _ us hl => match us, hl with | [_], _ => rfl
theorem b__law_is_expression : BindD top d__law_is_expression := fun K fd F => by
  rw [show psOf (top d__law_is_expression.at_) = [("_law_value_here" : Str), ("_law_deep" : Str)] by kernel_rfl]
  exact FunD.bindsN F fun _ _ _ _ _ _ us hl => match us, hl with | [_, _], _ => rfl
theorem b__law_is_rest : BindD top d__law_is_rest := fun K fd F => by
  rw [show psOf (top d__law_is_rest.at_) = [("_law_value_here" : Str)] by kernel_rfl]
  exact FunD.bindsN F fun _ _ _ _ _ _ us hl => match us, hl with | [_], _ => rfl
theorem b__law_is_test : BindD top d__law_is_test := fun K fd F => by
  rw [show psOf (top d__law_is_test.at_) = [("_law_value_here" : Str), ("_law_nots" : Str)] by kernel_rfl]
  exact FunD.bindsN F fun _ _ _ _ _ _ us hl => match us, hl with | [_, _], _ => rfl
theorem b__law_is_statement : BindD top d__law_is_statement := fun K fd F => by
  rw [show psOf (top d__law_is_statement.at_) = [("_law_value_here" : Str)] by kernel_rfl]
  exact FunD.bindsN F fun _ _ _ _ _ _ us hl => match us, hl with | [_], _ => rfl
theorem b__law_counts : BindD top d__law_counts := fun K fd F => by
  rw [show psOf (top d__law_counts.at_) = [("_law_block_here" : Str)] by kernel_rfl]
  exact FunD.bindsN F fun _ _ _ _ _ _ us hl => match us, hl with | [_], _ => rfl
theorem b__law_error : BindD top d__law_error := fun K fd F => by
  rw [show psOf (top d__law_error.at_) = [("_law_value_here" : Str)] by kernel_rfl]
  exact FunD.bindsN F fun _ _ _ _ _ _ us hl => match us, hl with | [_], _ => rfl
theorem b__law_value : BindD top d__law_value := fun K fd F => by
  rw [show psOf (top d__law_value.at_) = [("_law_expression_here" : Str), ("_law_names_here" : Str)] by kernel_rfl]
  exact FunD.bindsN F fun _ _ _ _ _ _ us hl => match us, hl with | [_, _], _ => rfl
theorem b__law_true : BindD top d__law_true := fun K fd F => by
  rw [show psOf (top d__law_true.at_) = [("_law_test_here" : Str), ("_law_names_here" : Str)] by kernel_rfl]
  exact FunD.bindsN F fun _ _ _ _ _ _ us hl => match us, hl with | [_, _], _ => rfl
theorem b__law_size : BindD top d__law_size := fun K fd F => by
  rw [show psOf (top d__law_size.at_) = [("_law_block_here" : Str)] by kernel_rfl]
  exact FunD.bindsN F fun _ _ _ _ _ _ us hl => match us, hl with | [_], _ => rfl
theorem b__law_go : BindD top d__law_go := fun K fd F => by
  rw [show psOf (top d__law_go.at_) = [("_law_world" : Str), ("_law_block_here" : Str), ("_law_place" : Str)] by kernel_rfl]
  exact FunD.bindsN F fun _ _ _ _ _ _ us hl => match us, hl with | [_, _, _], _ => rfl
theorem b__law_run : BindD top d__law_run := fun K fd F => by
  rw [show psOf (top d__law_run.at_) = [("_law_program_here" : Str), ("_law_number_here" : Str)] by kernel_rfl]
  exact FunD.bindsN F fun _ _ _ _ _ _ us hl => match us, hl with | [_, _], _ => rfl
theorem b__law_sign : BindD top d__law_sign := fun K fd F => by
  rw [show psOf (top d__law_sign.at_) = [("_law_total" : Str)] by kernel_rfl]
  exact FunD.bindsN F fun _ _ _ _ _ _ us hl => match us, hl with | [_], _ => rfl
theorem b__law_family : BindD top d__law_family := fun K fd F => by
  rw [show psOf (top d__law_family.at_) = [("_law_deck_here" : Str), ("_law_names_here" : Str)] by kernel_rfl]
  exact FunD.bindsN F fun _ _ _ _ _ _ us hl => match us, hl with | [_, _], _ => rfl
theorem b__law_wrong : BindD top d__law_wrong := fun K fd F => by
  rw [show psOf (top d__law_wrong.at_) = [("_law_deck_here" : Str), ("_law_program_here" : Str)] by kernel_rfl]
  exact FunD.bindsN F fun _ _ _ _ _ _ us hl => match us, hl with | [_, _], _ => rfl
theorem b__law_family_error : BindD top d__law_family_error := fun K fd F => by
  rw [show psOf (top d__law_family_error.at_) = [("_law_value_here" : Str)] by kernel_rfl]
  exact FunD.bindsN F fun _ _ _ _ _ _ us hl => match us, hl with | [_], _ => rfl
theorem b_law : BindD top d_law := fun K fd F => by
  rw [show psOf (top d_law.at_) = [("_law_script" : Str)] by kernel_rfl]
  exact FunD.bindsN F fun _ _ _ _ _ _ us hl => match us, hl with | [_], _ => rfl
theorem binds : ∀ d ∈ txt.ds, BindD txt.top d := by
  show ∀ d ∈ ds, BindD top d
  unfold ds
  simp only [List.forall_mem_cons]
  exact ⟨b_is_whole, b_is_name, b_is_expression, b_is_rest, b_is_test, b_are_blocks, b_is_statement, b_blocks_of, b_items_within, b_rows_of, b_order_error, b_bare, b_own_count, b_counted, b_weight, b_program_error, b_places_in, b_block_places, b_value_of, b_is_true, b_Course_init, b_Course_parts, b_Course_do, b_Course_go, b_run, b_sign_of, b_sign, b_family_error, b_signs_at, b__law_deck, b__law_draw, b__law_one, b__law_names, b__law_expression, b__law_test, b__law_plain, b__law_row, b__law_block, b__law_program, b__law_number, b__law_parts, b__law_whole, b__law_is_name, b__law_is_expression, b__law_is_rest, b__law_is_test, b__law_is_statement, b__law_counts, b__law_error, b__law_value, b__law_true, b__law_size, b__law_go, b__law_run, b__law_sign, b__law_family, b__law_wrong, b__law_family_error, b_law, fun _ z => nomatch z⟩
def loose0 : List PySem.Str := ["MAX_NAME", "MAX_TIMES", "MAX_DEEP", "MAX_NOTS", "MAX_BY", "MAX_PLACES", "MAX_WEIGHT", "MAX_RESTS", "MAX_COMPARINGS", "MAX_NEST", "MAX_FAMILY", "LETTERS", "SIGNS", "KEPT", "MOST_NUMBER", "MOST_FACTOR", "is_whole", "is_name", "is_expression", "is_rest", "is_test", "are_blocks", "is_statement", "blocks_of", "items_within", "rows_of", "order_error", "bare", "own_count", "counted"]
def loose1 : List PySem.Str := ["weight", "program_error", "places_in", "block_places", "INPUT", "value_of", "is_true", "Course", "run", "sign_of", "sign", "family_error", "signs_at", "_law_deck", "_law_draw", "_law_one", "_law_names", "_law_expression", "_law_test", "_law_plain", "_law_row", "_law_block", "_law_program", "_law_number", "_law_parts", "_law_whole", "_law_is_name", "_law_is_expression", "_law_is_rest", "_law_is_test"]
def loose2 : List PySem.Str := ["_law_is_statement", "_law_counts", "_law_error", "_law_value", "_law_true", "_law_size", "_law_go", "_law_run", "_law_sign", "_law_family", "_law_wrong", "_law_family_error"]
def loose : List PySem.Str := loose0 ++ loose1 ++ loose2
abbrev R : PySem.W.OpenRow := PySem.W.OpenLaw.row PySem.Challenge.rw_whichheld_k28_families_and_signs
theorem run (w : World) : HandSHeadRun.RunEq R (PySem.W.view R.prog [76]) (txt.hook 4) (fun s => txt.obsG 4 (HandSHeadRun.getT s)) 3000 loose w := by
  intro os
  kernel_rfl
theorem fn_law : txt.tab.fn "law" = some Wh.c_law_k28 := by kernel_rfl
theorem pureLaw : ∀ ns : List Int, ns.length ≤ 63 → ∃ ds', callF txt.tab (40 + 1) d_law.name [] [.p (.list (ns.map .int))] = some (.p (.bool true), ds') := fun ns hn =>
  Wh.k28 ⟨(by constructor <;> kernel_rfl), by kernel_rfl, by kernel_rfl⟩ ⟨(by constructor <;> kernel_rfl), by kernel_rfl, by kernel_rfl, by kernel_rfl, by kernel_rfl, by kernel_rfl, by kernel_rfl, by kernel_rfl, by kernel_rfl, by kernel_rfl, by kernel_rfl, by kernel_rfl, by kernel_rfl, by kernel_rfl, by kernel_rfl⟩ (by constructor <;> kernel_rfl) (by constructor <;> kernel_rfl) ⟨(by constructor <;> kernel_rfl), by kernel_rfl, by kernel_rfl, by kernel_rfl, by kernel_rfl, by kernel_rfl, by kernel_rfl, by kernel_rfl⟩ (by constructor <;> kernel_rfl) fn_law ns hn (by omega)
theorem lawBind (K : PySem.W.Frag) (fd : FuncData) (F : FunOf K txt.top d_law fd) : ∀ (s : Shared) (u : Value), BindsTo s fd ⟨[u], []⟩ [(("_law_script" : PySem.Str), u)] := fun s u =>
  FunD.bindsA (ps := ["_law_script"]) F (fun _ _ _ _ _ _ us hl => match us, hl with | [_], _ => rfl) s [u] rfl
end Wk28
open PySem PySem.W PySem.Calls PyProof.Rows
theorem PySem.Challenge.cw_whichheld_k28_families_and_signs_holds : PySem.Challenge.rw_whichheld_k28_families_and_signs.Holds := by
  w_on; o_law
  refine HandSHeadRun.head_any (r := Wk28.R) (q := view Wk28.R.prog [76]) (H := Wk28.txt.hook 4) (ob := fun s => Wk28.txt.obsG 4 (HandSHeadRun.getT s)) (M := 3000) (loose := Wk28.loose) (d := HandSHeadRun.topDef Wk28.R.prog 76) (kwd := []) (fun s => Wh.Txt1.obs_eq s)
    (by kernel_rfl) (fun s => by kernel_rfl) Wk28.run (by kernel_rfl) (by kernel_rfl) (by kernel_rfl) (by rfl) (by first | assumption | decide +kernel) (by decide +kernel) ⟨rfl, rfl, rfl, rfl, rfl, by decide +kernel⟩ ?hw ?hc
  case hw => w_witness2
  case hc =>
    exact Wh.Txt1.law (l := PySem.Challenge.rw_whichheld_k28_families_and_signs) (m := 4) (n := 40) (most := 63) (x := "_law_script") (dl := Wk28.d_law) Wk28.ok Wk28.binds rfl (by decide) (by kernel_rfl) ⟨rfl, by decide, by decide⟩ Wk28.lawBind (by simp [Wk28.txt, Wk28.ds]) rfl (by kernel_rfl) (by kernel_rfl) (by kernel_rfl) Wk28.pureLaw


