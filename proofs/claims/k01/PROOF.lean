import PyProof.Rows.All
import Wide.All
import OpenK.AllK
import Wide.FinOn
import HandS.ForMost
import KE.SortData
import KE.KIndexOf
import HandS.Zip
import HandS.Style
import HandS.Small
import HandS.Set
import HandS.SetFor
import HandS.More
import HandS.Strs
import HandS.Deep
import HandS.Dict
import HandS.IsInst
import HandS.Iter
import HandS.Text
import HandS.TupAny
import HandS.TupLen
import HandS.TupMul
import KE.DataEq
import KE.DataFind
import KE.GoesEnum
import KE.GoesMore
import KE.GoesNew
import KE.KDictKeyed
import PySem.Challenge.RW_oneday_k01_works_and_runs_recognized

set_option Elab.async false
set_option linter.all false
set_option maxRecDepth 100000
/-! PV: plain values; compact forms; the evaluator. -/
namespace PV
open PySem

abbrev D := PyData

/-- what a name's place holds: nothing known, a value for good, an object of one's own, a caller's object lent, such a one given away for good -/
inductive Slot where
  | no | fr (d : D) | ow (d : D) | bo (d : D) | bf (d : D)
abbrev Pl := List Slot

inductive BOp where | add | sub | mul | fdiv | mod | pow
  deriving DecidableEq, Repr
inductive COp where | eq | ne | lt | le | gt | ge | isIn | notIn | isN | notN
  deriving DecidableEq, Repr
inductive Blt where
  | len | tuple | list | int | sorted | all | any | max2 | min2 | sset | lset | dictp
  deriving DecidableEq, Repr
inductive Mth where | index | get1 | get2 | join | split | count | upper
  deriving DecidableEq, Repr
inductive Ty where | str | tuple | list | bool
  deriving DecidableEq, Repr
inductive IK where | seq | rng1 | rng2 | zip | zip3 | enu
  deriving DecidableEq, Repr
inductive Tg where | nm (i : Nat) | tup (ts : List Nat)
  deriving DecidableEq, Repr

inductive X where
  | cst (d : D)
  | var (i : Nat)
  | bin (o : BOp) (a b : X)
  | cmp (o : COp) (a b : X)
  | chain (o p : COp) (a b c : X)
  | and (l : List X)
  | or (l : List X)
  | not (a : X)
  | ite (c a b : X)
  | tup (l : List X)
  | lst (l : List X)
  | dic0
  | idx (a i : X)
  | slc (a : X) (lo hi : Option X)
  | rev (a : X)
  | cal (f : Nat) (as : List X) (dfl : List D)
  | calk (f : Nat) (as ks : List X)
  | blt (b : Blt) (as : List X)
  | mth (m : Mth) (a : X) (as : List X)
  | pop (i : Nat) (as : List X)
  | isi (a : X) (t : Ty)
  | lc (e : X) (tg : Tg) (k : IK) (its ifs : List X) (own : List Nat)
  | lc2 (e : X) (tg : Tg) (k : IK) (its ifs : List X) (tg1 : Tg) (k1 : IK) (its1 ifs1 : List X) (own own1 : List Nat)

inductive S where
  | asg (t : Tg) (e : X)
  | par (ts : List Nat) (es : List X)
  | set (i : Nat) (k e : X)
  | app (i : Nat) (e : X)
  | exp (e : X)
  | ife (c : X) (a b : List S)
  | for (t : Tg) (k : IK) (its : List X) (body : List S) (kill : List Nat)
  | whl (c : X) (body : List S) (kill : List Nat)
  | ret (e : X)
  | ret0
  | cont
  | brk
  | pass
  | never

inductive Fl where | nx | rt (d : D) (o : Bool) | bk | ct

/-! ### values -/
def LIM : Nat := 16777216
def okD (d : D) : Bool := PyData.plain d && decide (PyData.depth d ≤ 64)
/-- Python's == of data -/
def pyEq (d e : D) : Option Bool := if okD d && okD e then some (PyData.eqv d e) else none
def keyOk : D → Bool
  | .int _ => true
  | .str _ => true
  | _ => false
/-- a dict whose keys are ints and texts (the empty one too) -/
def plainD : List (D × D) → Bool
  | [] => true
  | (.int _, _) :: _ => true
  | (.str _, _) :: _ => true
  | _ => false
/-- a dict whose keys are tuples (the empty one too) -/
def plainT : List (D × D) → Bool
  | [] => true
  | (.tuple _, _) :: _ => true
  | _ => false
mutual
/-- data as a key, up to == -/
def nkey : D → Option NestedKey
  | .none => some .none
  | .bool b => some (.num (if b then 1 else 0))
  | .int i => some (.num i)
  | .str x => some (.text x)
  | .tuple ds => match nkeys ds with
    | some ks => some (.tup ks)
    | none => none
  | .list _ => none
  | .dict _ => none
def nkeys : List D → Option (List NestedKey)
  | [] => some []
  | d :: ds => match nkey d, nkeys ds with
    | some k, some ks => some (k :: ks)
    | _, _ => none
end
/-- a tuple that can be a key -/
def nkeyT : D → Option NestedKey
  | .tuple ds => match nkey (.tuple ds) with
    | some k => if k.depth ≤ 8 then some k else none
    | none => none
  | _ => none
def keyT (d : D) : Bool := (nkeyT d).isSome
/-- a key for this dict -/
def dOk (k : D) (kvs : List (D × D)) : Bool := (keyOk k && plainD kvs) || (keyT k && plainT kvs)
/-- a dict's look-up: keys ints and texts -/
def dGet (k : D) : List (D × D) → Option D
  | [] => none
  | (j, v) :: r => if PyData.eqv j k then some v else dGet k r
def dPut (k v : D) (kvs : List (D × D)) : List (D × D) :=
  if (kvs.any fun p => PyData.eqv p.1 k) = true then kvs.map (fun p => if PyData.eqv p.1 k = true then (p.1, v) else p) else kvs ++ [(k, v)]
def ixN (n : Nat) (i : Int) : Option Nat := if 0 ≤ i then (if i < n then some i.toNat else none) else if -(n : Int) ≤ i then some (i + n).toNat else none
def atI {α : Type} (xs : List α) (i : Int) : Option α := (ixN xs.length i).bind fun j => xs[j]?
def clip (n d : Nat) : Option Int → Nat
  | none => d
  | some v => if v < 0 then (max (v + n) 0).toNat else (min v n).toNat
def cut {α : Type} (xs : List α) (lo hi : Option Int) : List α := (xs.drop (clip xs.length 0 lo)).take (clip xs.length xs.length hi - clip xs.length 0 lo)
def smallI (i : Int) : Bool := decide (-(2 ^ 62) ≤ i) && decide (i < 2 ^ 62)
def mulOk (i j : Int) : Bool := (decide (-(2 ^ 64) < i) && decide (i < 2 ^ 64)) || (decide (-(2 ^ 64) < j) && decide (j < 2 ^ 64))

def opBin : BOp → D → D → Option (D × Bool)
  | .add, .int i, .int j => some (.int (i + j), false)
  | .add, .str x, .str y => if x.length + y.length ≤ LIM then some (.str (x ++ y), false) else none
  | .add, .tuple x, .tuple y => if x.length + y.length ≤ LIM then some (.tuple (x ++ y), false) else none
  | .add, .list x, .list y => if x.length + y.length ≤ LIM then some (.list (x ++ y), true) else none
  | .sub, .int i, .int j => some (.int (i - j), false)
  | .mul, .int i, .int j => if mulOk i j then some (.int (i * j), false) else none
  | .mul, .tuple x, .int j => if smallI j && decide (x.length * j.toNat ≤ 65536) && decide (x.length ≤ 65536) && decide (j ≤ 65536) then some (.tuple (List.replicate j.toNat x).flatten, false) else none
  | .mul, .list x, .int j => if smallI j && x.length * j.toNat ≤ LIM then some (.list (List.replicate j.toNat x).flatten, true) else none
  | .fdiv, .int i, .int j => if j ≠ 0 ∧ j.natAbs < 1073741824 then some (.int (i.fdiv j), false) else none
  | .mod, .int i, .int j => if j ≠ 0 then some (.int (i.fmod j), false) else none
  | .pow, .int i, .int j => if 0 ≤ j ∧ j ≤ 1000000 ∧ i.natAbs < 2 ^ 64 then some (.int (i ^ j.toNat), false) else none
  | _, _, _ => none

def strLt (x y : Str) : Bool := decide (x.cps.toList < y.cps.toList)
def opIn (d : D) : D → Option Bool
  | .str y => match d with
    | .str x => some (!(Builtin.Str.occurrences y x 0 y.length 1).isEmpty)
    | _ => none
  | .list ys => if okD d && okD (.list ys) then some (ys.any fun z => PyData.eqv z d) else none
  | .tuple ys => if okD d && okD (.tuple ys) then some (ys.any fun z => PyData.eqv z d) else none
  | .dict kvs => if dOk d kvs then some (dGet d kvs).isSome else none
  | _ => none
def opLt : D → D → Option Bool
  | .int i, .int j => some (decide (i < j))
  | .str x, .str y => some (strLt x y)
  | .tuple x, .tuple y => if W.alike (.tuple x) (.tuple y) && decide (PyData.depth (.tuple x) ≤ 40) && PyData.plain (.tuple x) && PyData.plain (.tuple y) then some (W.dataLt (.tuple x) (.tuple y)) else none
  | _, _ => none
def isNone : D → Bool
  | .none => true
  | _ => false
def opCmp : COp → D → D → Option Bool
  | .eq, d, e => pyEq d e
  | .ne, d, e => (pyEq d e).map (!·)
  | .lt, d, e => opLt d e
  | .le, .int i, .int j => some (decide (i ≤ j))
  | .gt, .int i, .int j => some (decide (j < i))
  | .ge, .int i, .int j => some (decide (j ≤ i))
  | .le, .str x, .str y => some (!strLt y x)
  | .gt, .str x, .str y => some (strLt y x)
  | .ge, .str x, .str y => some (!strLt x y)
  | .isIn, d, e => opIn d e
  | .notIn, d, e => (opIn d e).map (!·)
  | .isN, d, .none => some (isNone d)
  | .notN, d, .none => some (!isNone d)
  | _, _, _ => none

def opIdx : D → D → Option D
  | .list xs, .int i => atI xs i
  | .tuple xs, .int i => atI xs i
  | .str x, .int i => if x.length ≤ LIM then (atI x.cps.toList i).map fun c => .str ⟨#[c]⟩ else none
  | .dict [(.none, .list ns)], .int i => atI ns i
  | .dict kvs, k => if dOk k kvs then dGet k kvs else none
  | _, _ => none
def opSlc : D → Option Int → Option Int → Option (D × Bool)
  | .list xs, lo, hi => some (.list (cut xs lo hi), true)
  | .tuple xs, lo, hi => some (.tuple (cut xs lo hi), false)
  | _, _, _ => none

/-! sorted, of texts -/
def insS (x : Str) : List Str → List Str
  | [] => [x]
  | y :: ys => if strLt y x then y :: insS x ys else x :: y :: ys
def sortS : List Str → List Str
  | [] => []
  | x :: xs => insS x (sortS xs)
/-- the members once -/
def dedupS : List Str → List Str
  | [] => []
  | x :: xs => if x ∈ dedupS xs then dedupS xs else x :: dedupS xs
def asS : D → Option Str
  | .str x => some x
  | _ => none
def opSorted : D → Option D
  | .list ds => do
    let xs ← ds.mapM asS
    if xs.length < 64 then pure (.list ((sortS xs).map .str)) else none
  | .dict kvs => do
    let xs ← (kvs.map (·.1)).mapM asS
    if xs.length < 64 then pure (.list ((sortS xs).map .str)) else none
  | _ => none
def asL : D → Option (List D)
  | .list ds => some ds
  | .tuple ds => some ds
  | _ => none
def asL1 : D → Option (List D)
  | .list ds => some ds
  | _ => none
def asB : D → Option Bool
  | .bool b => some b
  | _ => none
def asI : D → Option Int
  | .int b => some b
  | _ => none
def asP : D → Option (D × D)
  | .tuple [k, v] => if keyOk k then some (k, v) else none
  | _ => none
def mergeD (acc : List (D × D)) : List (D × D) → List (D × D)
  | [] => acc
  | (k, v) :: r => mergeD (dPut k v acc) r

def opBlt : Blt → List D → Option (D × Bool)
  | .len, [.list ds] => some (.int ds.length, false)
  | .len, [.tuple ds] => some (.int ds.length, false)
  | .len, [.dict [(.none, .list ns)]] => some (.int ns.length, false)
  | .len, [.dict ds] => if plainD ds || plainT ds then some (.int ds.length, false) else none
  | .len, [.str x] => if x.length ≤ LIM then some (.int x.length, false) else none
  | .tuple, [.list ds] => some (.tuple ds, false)
  | .tuple, [.tuple ds] => some (.tuple ds, false)
  | .list, [.list ds] => some (.list ds, true)
  | .list, [.tuple ds] => some (.list ds, true)
  | .int, [.int i] => some (.int i, false)
  | .int, [.bool b] => some (.int (if b then 1 else 0), false)
  | .sorted, [d] => (opSorted d).map fun r => (r, true)
  | .all, [.list ds] => do
    let bs ← ds.mapM asB
    pure (.bool (bs.all id), false)
  | .any, [.list ds] => do
    let bs ← ds.mapM asB
    pure (.bool (bs.any id), false)
  | .max2, [.int i, .int j] => some (.int (if j > i then j else i), false)
  | .min2, [.int i, .int j] => some (.int (if j < i then j else i), false)
  | .sset, [d] => do
    let ds ← asL d
    let xs ← ds.mapM asS
    if xs.length < 64 then pure (.list ((sortS (dedupS xs)).map .str), true) else none
  | .lset, [d] => do
    let ds ← asL d
    let xs ← ds.mapM asS
    if xs.length < 64 then pure (.int (dedupS xs).length, false) else none
  | .dictp, [d] => do
    let ds ← asL1 d
    let ps ← ds.mapM asP
    pure (.dict (mergeD [] ps), true)
  | _, _ => none

/-- no object that may be written -/
def flatD : D → Bool
  | .list _ => false
  | .dict _ => false
  | _ => true
def opMth : Mth → D → List D → Option (D × Bool)
  | .index, .list ds, [.str x] => do
    let xs ← ds.mapM asS
    if x ∈ xs then pure (.int (xs.idxOf x), false) else none
  | .index, .tuple ds, [.str x] => do
    let xs ← ds.mapM asS
    if x ∈ xs then pure (.int (xs.idxOf x), false) else none
  | .count, .tuple ds, [d] => if okD d && okD (.tuple ds) then some (.int ((ds.countP fun z => PyData.eqv z d : Nat) : Int), false) else none
  | .count, .list ds, [d] => if okD d && okD (.list ds) then some (.int ((ds.countP fun z => PyData.eqv z d : Nat) : Int), false) else none
  | .upper, .str x, [] => if x.length ≤ 5592405 then some (.str (Txt.upper x), false) else none
  | .join, .str x, [d] => do
    let ds ← asL d
    let ys ← ds.mapM asS
    if (ys.map (·.length)).sum + ys.length * x.length ≤ 16777216 then pure (.str (Txt.join x ys), false) else none
  | .split, .str x, [.str y] => if (y.length == 0) = false ∧ x.length + 2 ≤ LIM then some (.list ((Txt.split x y).map .str), true) else none
  | .get1, .dict kvs, [k] => if dOk k kvs then some ((dGet k kvs).getD .none, false) else none
  | .get2, .dict kvs, [k, x] => if dOk k kvs && flatD x then some ((dGet k kvs).getD x, false) else none
  | _, _, _ => none

def kindD : D → Nat
  | .none => 0 | .bool _ => 1 | .int _ => 2 | .str _ => 3 | .list _ => 4 | .tuple _ => 5 | .dict _ => 6
def isTy : Ty → D → Bool
  | .str, .str _ => true
  | .tuple, .tuple _ => true
  | .list, .list _ => true
  | .bool, .bool _ => true
  | _, _ => false

def opMthK (m : Mth) (d0 d : D) (ds : List D) : Option (D × Bool) := if kindD d0 = kindD d then opMth m d ds else none

/-! ### places -/
inductive Op where | dv (d : D) | sl (i : Nat)
def setS (ρ : Pl) (i : Nat) (s : Slot) : Option Pl := match ρ[i]? with
  | some (.bo _) => none
  | some (.bf _) => none
  | some _ => some (ρ.set i s)
  | none => none
def setAll : Pl → List Nat → List D → Option Pl
  | ρ, [], [] => some ρ
  | ρ, i :: is, d :: ds => do
    let ρ ← setS ρ i (.fr d)
    setAll ρ is ds
  | _, _, _ => none
def asgT (ρ : Pl) : Tg → D → Bool → Option Pl
  | .nm i, d, o => setS ρ i (if o then .ow d else .fr d)
  | .tup is, d, _ => match d with
    | .tuple ds => setAll ρ is ds
    | _ => none
def fetch (ρ : Pl) : Op → Option D
  | .dv d => some d
  | .sl i => match ρ[i]? with
    | some (.ow d) => some d
    | some (.bo d) => some d
    | _ => none
def fetchAll (ρ : Pl) : List Op → Option (List D)
  | [] => some []
  | o :: os => do
    let d ← fetch ρ o
    let ds ← fetchAll ρ os
    pure (d :: ds)
def wipeP (ρ : Pl) : List Nat → Pl
  | [] => ρ
  | i :: is => (wipeP ρ is).set i .no
/-- places forgotten: those that are lent stay -/
def killS (ρ : Pl) : List Nat → Pl
  | [] => ρ
  | i :: is => match (killS ρ is)[i]? with
    | some (.bo _) => killS ρ is
    | some (.bf _) => killS ρ is
    | _ => (killS ρ is).set i .no
/-- behind a block: its own names as they were -/
def back (ρ0 : Pl) (ρ : Pl) : List Nat → Pl
  | [] => ρ
  | i :: is => (back ρ0 ρ is).set i (ρ0.getD i .no)
def isSl : Op → Bool
  | .sl _ => true
  | .dv _ => false
/-- how operands are handed to a def -/
def lend (ρ : Pl) : List Op → Option (List (D × Bool))
  | [] => some []
  | o :: os => do
    let d ← fetch ρ o
    let ds ← lend ρ os
    pure ((d, isSl o) :: ds)
/-- .. and come back -/
def giveBack : Pl → List Op → List Slot → Option Pl
  | ρ, [], [] => some ρ
  | ρ, .dv _ :: os, _ :: ss => giveBack ρ os ss
  | ρ, .sl i :: os, s :: ss => match ρ[i]?, s with
    | some (.ow _), .bo d => giveBack (ρ.set i (.ow d)) os ss
    | some (.bo _), .bo d => giveBack (ρ.set i (.bo d)) os ss
    | some (.ow _), .bf d => giveBack (ρ.set i (.fr d)) os ss
    | some (.bo _), .bf d => giveBack (ρ.set i (.bf d)) os ss
    | _, _ => none
  | _, _, _ => none
def slotsOf : List Op → List Nat
  | [] => []
  | .dv _ :: os => slotsOf os
  | .sl i :: os => i :: slotsOf os
def distinct : List Nat → Bool
  | [] => true
  | i :: is => !is.contains i && distinct is

def rngD (lo hi : Int) : List D := (List.range (hi - lo).toNat).map fun k => .int (lo + (k : Nat))
def enuD : Nat → List D → List D
  | _, [] => []
  | i, d :: ds => .tuple [.int i, d] :: enuD (i + 1) ds
def itemsOf : IK → List D → Option (List D)
  | .seq, [.list ds] => some ds
  | .seq, [.tuple ds] => some ds
  | .seq, [.str x] => some (x.cps.toList.map fun c => .str ⟨#[c]⟩)
  | .rng1, [.int n] => if smallI n then some (rngD 0 n) else none
  | .rng2, [.int a, .int b] => if smallI a && smallI b then some (rngD a b) else none
  | .zip, [x, y] => do
    let xs ← asL x
    let ys ← asL y
    pure ((xs.zip ys).map fun p => .tuple [p.1, p.2])
  | .zip3, [x, y, z] => do
    let xs ← asL x
    let ys ← asL y
    let zs ← asL z
    pure ((xs.zip (ys.zip zs)).map fun p => .tuple [p.1, p.2.1, p.2.2])
  | .enu, [x] => do
    let xs ← asL x
    pure (enuD 0 xs)
  | _, _ => none

/-! ### loops -/
def WHILES : Nat := 1099511627776
def forL (step : D → Pl → Option (Fl × Pl)) : List D → Pl → Option (Fl × Pl)
  | [], ρ => some (.nx, ρ)
  | d :: ds, ρ => match step d ρ with
    | some (.nx, ρ) => forL step ds ρ
    | some (.ct, ρ) => forL step ds ρ
    | some (.bk, ρ) => some (.nx, ρ)
    | some (.rt v o, ρ) => some (.rt v o, ρ)
    | none => none
def whlL (test : Pl → Option (Bool × Pl)) (body : Pl → Option (Fl × Pl)) : Nat → Pl → Option (Fl × Pl)
  | 0, _ => none
  | n + 1, ρ => match test ρ with
    | some (false, ρ) => some (.nx, ρ)
    | some (true, ρ) => match body ρ with
      | some (.nx, ρ) => whlL test body n ρ
      | some (.ct, ρ) => whlL test body n ρ
      | some (.bk, ρ) => some (.nx, ρ)
      | some (.rt v o, ρ) => some (.rt v o, ρ)
      | none => none
    | none => none
/-- a comprehension's turns: what they make, the places behind -/
def lcL (step : D → Pl → Option (List D × Pl)) : List D → Pl → Option (List D × Pl)
  | [], ρ => some ([], ρ)
  | d :: ds, ρ => do
    let (x, ρ) ← step d ρ
    let (xs, ρ) ← lcL step ds ρ
    pure (x ++ xs, ρ)

/-- an operand: an object of one's own is looked at where it stands -/
def opn (e : X) (f : Pl → Option (D × Bool × Pl)) (ρ : Pl) : Option (Op × Pl) := match e with
  | .var i => match ρ[i]? with
    | some (.fr d) => some (.dv d, ρ)
    | some (.bf d) => some (.dv d, ρ)
    | some (.ow _) => some (.sl i, ρ)
    | some (.bo _) => some (.sl i, ρ)
    | _ => none
  | _ => do
    let (d, _, ρ) ← f ρ
    pure (.dv d, ρ)

abbrev Call := Nat → List (D × Bool) → Option (D × Bool × List Slot)
/-- a list of one's own -/
def ownL (ρ : Pl) (i : Nat) : Option (List D) := match ρ[i]? with
  | some (.ow (.list xs)) => some xs
  | _ => none
/-- what pop does -/
def popD (xs : List D) : List D → Option (D × List D)
  | [] => do
    let y ← xs[xs.length - 1]?
    pure (y, xs.dropLast)
  | [.int k] => do
    if smallI k then do
      let j ← ixN xs.length k
      let y ← xs[j]?
      pure (y, xs.eraseIdx j)
    else none
  | _ => none
/-- a def is called -/
def calL (call : Call) (f : Nat) (os : List Op) (ρ : Pl) : Option (D × Bool × Pl) :=
  if distinct (slotsOf os) then do
    let vs ← lend ρ os
    let (d, w, ss) ← call f vs
    let ρ ← giveBack ρ os ss
    pure (d, w, ρ)
  else none
section
variable (call : Call)
mutual
def ev : X → Pl → Option (D × Bool × Pl)
  | .cst d, ρ => some (d, false, ρ)
  | .var i, ρ => match ρ[i]? with
    | some (.fr d) => some (d, false, ρ)
    | some (.bf d) => some (d, false, ρ)
    | some (.ow d) => some (d, false, ρ.set i (.fr d))
    | some (.bo d) => some (d, false, ρ.set i (.bf d))
    | _ => none
  | .bin o a b, ρ => do
    let (x, ρ) ← opn a (ev a) ρ
    let (y, ρ) ← opn b (ev b) ρ
    let d ← fetch ρ x
    let e ← fetch ρ y
    let (r, w) ← opBin o d e
    pure (r, w, ρ)
  | .cmp o a b, ρ => do
    let (x, ρ) ← opn a (ev a) ρ
    let (y, ρ) ← opn b (ev b) ρ
    let d ← fetch ρ x
    let e ← fetch ρ y
    let r ← opCmp o d e
    pure (.bool r, false, ρ)
  | .chain o p a b c, ρ => do
    let (x, ρ) ← opn a (ev a) ρ
    let (y, ρ) ← opn b (ev b) ρ
    let d ← fetch ρ x
    let e ← fetch ρ y
    let r ← opCmp o d e
    if r then do
      let (z, ρ) ← opn c (ev c) ρ
      let e ← fetch ρ y
      let f ← fetch ρ z
      let r ← opCmp p e f
      pure (.bool r, false, ρ)
    else pure (.bool false, false, ρ)
  | .and l, ρ => evAnd l ρ
  | .or l, ρ => evOr l ρ
  | .not a, ρ => do
    let (d, _, ρ) ← ev a ρ
    let b ← asB d
    pure (.bool (!b), false, ρ)
  | .ite c a b, ρ => do
    let (d, _, ρ) ← ev c ρ
    let t ← asB d
    if t then ev a ρ else ev b ρ
  | .tup l, ρ => do
    let (ds, ρ) ← evs l ρ
    pure (.tuple ds, false, ρ)
  | .lst l, ρ => do
    let (ds, ρ) ← evs l ρ
    pure (.list ds, true, ρ)
  | .dic0, ρ => some (.dict [], true, ρ)
  | .idx a i, ρ => do
    let (x, ρ) ← opn a (ev a) ρ
    let (y, ρ) ← opn i (ev i) ρ
    let d ← fetch ρ x
    let e ← fetch ρ y
    let r ← opIdx d e
    pure (r, false, ρ)
  | .slc a lo hi, ρ => do
    let (x, ρ) ← opn a (ev a) ρ
    let (l, ρ) ← evOI lo ρ
    let (h, ρ) ← evOI hi ρ
    let d ← fetch ρ x
    let (r, w) ← opSlc d l h
    pure (r, w, ρ)
  | .rev a, ρ => do
    let (x, ρ) ← opn a (ev a) ρ
    let d ← fetch ρ x
    match d with
    | .tuple ds => pure (.tuple ds.reverse, false, ρ)
    | .list ds => pure (.list ds.reverse, true, ρ)
    | _ => none
  | .cal f as dfl, ρ => do
    let (os, ρ) ← evOs as ρ
    calL call f (os ++ dfl.map .dv) ρ
  | .calk f as ks, ρ => do
    let (os, ρ) ← evOs as ρ
    let (os2, ρ) ← evOs ks ρ
    calL call f (os ++ os2) ρ
  | .blt b as, ρ => do
    let (os, ρ) ← evOs as ρ
    let ds ← fetchAll ρ os
    let (r, w) ← opBlt b ds
    pure (r, w, ρ)
  | .mth m a as, ρ => do
    let (x, ρ) ← opn a (ev a) ρ
    let d0 ← fetch ρ x
    let (os, ρ) ← evOs as ρ
    let d ← fetch ρ x
    let ds ← fetchAll ρ os
    let (r, w) ← opMthK m d0 d ds
    pure (r, w, ρ)
  | .pop i as, ρ => do
    let _ ← ownL ρ i
    let (os, ρ) ← evOs as ρ
    let ds ← fetchAll ρ os
    let xs ← ownL ρ i
    let (y, ys) ← popD xs ds
    pure (y, false, ρ.set i (.ow (.list ys)))
  | .isi a t, ρ => do
    let (x, ρ) ← opn a (ev a) ρ
    let d ← fetch ρ x
    if kindD d = 6 then none else pure (.bool (isTy t d), false, ρ)
  | .lc e tg k its ifs own, ρ0 => do
    let (ds, ρ) ← evs its ρ0
    let items ← itemsOf k ds
    let (ys, ρ1) ← lcL (fun d ρ => do
      let ρ ← asgT ρ tg d false
      let (b, ρ) ← evIfs ifs ρ
      if b then do
        let (y, _, ρ) ← ev e ρ
        pure ([y], wipeP ρ own)
      else pure ([], wipeP ρ own)) items (wipeP ρ own)
    if ys.length ≤ LIM then pure (.list ys, true, back ρ ρ1 own) else none
  | .lc2 e tg k its ifs tg1 k1 its1 ifs1 own own1, ρ0 => do
    let (ds, ρ) ← evs its ρ0
    let items ← itemsOf k ds
    let (ys, ρ1) ← lcL (fun d ρ => do
      let ρ ← asgT ρ tg d false
      let (b, ρ) ← evIfs ifs ρ
      if b then do
        let (ds1, ρ) ← evs its1 ρ
        let items1 ← itemsOf k1 ds1
        let (ys, ρ) ← lcL (fun d ρ => do
          let ρ ← asgT ρ tg1 d false
          let (b, ρ) ← evIfs ifs1 ρ
          if b then do
            let (y, _, ρ) ← ev e ρ
            pure ([y], wipeP ρ own1)
          else pure ([], wipeP ρ own1)) items1 (wipeP ρ own1)
        pure (ys, wipeP ρ own)
      else pure ([], wipeP ρ own)) items (wipeP ρ own)
    if ys.length ≤ LIM then pure (.list ys, true, back ρ ρ1 own) else none
def evOI : Option X → Pl → Option (Option Int × Pl)
  | none, ρ => some (none, ρ)
  | some e, ρ => do
    let (d, _, ρ) ← ev e ρ
    let i ← asI d
    pure (some i, ρ)
def evs : List X → Pl → Option (List D × Pl)
  | [], ρ => some ([], ρ)
  | e :: es, ρ => do
    let (d, _, ρ) ← ev e ρ
    let (ds, ρ) ← evs es ρ
    pure (d :: ds, ρ)
def evOs : List X → Pl → Option (List Op × Pl)
  | [], ρ => some ([], ρ)
  | e :: es, ρ => do
    let (d, ρ) ← opn e (ev e) ρ
    let (ds, ρ) ← evOs es ρ
    pure (d :: ds, ρ)
def evAnd : List X → Pl → Option (D × Bool × Pl)
  | [], _ => none
  | [e], ρ => do
    let (d, _, ρ) ← ev e ρ
    pure (d, false, ρ)
  | e :: f :: es, ρ => do
    let (d, _, ρ) ← ev e ρ
    let b ← asB d
    if b then evAnd (f :: es) ρ else pure (.bool false, false, ρ)
def evOr : List X → Pl → Option (D × Bool × Pl)
  | [], _ => none
  | [e], ρ => do
    let (d, _, ρ) ← ev e ρ
    pure (d, false, ρ)
  | e :: f :: es, ρ => do
    let (d, _, ρ) ← ev e ρ
    let b ← asB d
    if b then pure (.bool true, false, ρ) else evOr (f :: es) ρ
def evIfs : List X → Pl → Option (Bool × Pl)
  | [], ρ => some (true, ρ)
  | e :: es, ρ => do
    let (d, _, ρ) ← ev e ρ
    let b ← asB d
    if b then evIfs es ρ else pure (false, ρ)
end

def evRs : List X → Pl → Option (List (D × Bool) × Pl)
  | [], ρ => some ([], ρ)
  | e :: es, ρ => do
    let (d, w, ρ) ← ev call e ρ
    let (ds, ρ) ← evRs es ρ
    pure ((d, w) :: ds, ρ)
def setPar : Pl → List Nat → List (D × Bool) → Option Pl
  | ρ, [], [] => some ρ
  | ρ, i :: is, (d, w) :: ds => do
    let ρ ← setS ρ i (if w then .ow d else .fr d)
    setPar ρ is ds
  | _, _, _ => none
def setAt (ρ : Pl) (i : Nat) (k : D) (e : D) : Option Pl := match ρ[i]? with
  | some (.ow (.list xs)) => do
    let k ← asI k
    let j ← ixN xs.length k
    pure (ρ.set i (.ow (.list (xs.set j e))))
  | some (.bo (.list xs)) => do
    let k ← asI k
    let j ← ixN xs.length k
    pure (ρ.set i (.bo (.list (xs.set j e))))
  | some (.ow (.dict kvs)) => if dOk k kvs && decide (kvs.length < LIM) then some (ρ.set i (.ow (.dict (dPut k e kvs)))) else none
  | _ => none
def appAt (ρ : Pl) (i : Nat) (e : D) : Option Pl := match ρ[i]? with
  | some (.ow (.list xs)) => if xs.length < LIM then some (ρ.set i (.ow (.list (xs ++ [e])))) else none
  | _ => none
mutual
def evS : S → Pl → Option (Fl × Pl)
  | .asg t e, ρ => do
    let (d, w, ρ) ← ev call e ρ
    let ρ ← asgT ρ t d w
    pure (.nx, ρ)
  | .par ts es, ρ => do
    let (ds, ρ) ← evRs call es ρ
    let ρ ← setPar ρ ts ds
    pure (.nx, ρ)
  | .set i k e, ρ => do
    let (d, _, ρ) ← ev call e ρ
    let _ ← fetch ρ (.sl i)
    let (k, _, ρ) ← ev call k ρ
    let ρ ← setAt ρ i k d
    pure (.nx, ρ)
  | .app i e, ρ => do
    let _ ← ownL ρ i
    let (d, _, ρ) ← ev call e ρ
    let ρ ← appAt ρ i d
    pure (.nx, ρ)
  | .exp e, ρ => do
    let (_, _, ρ) ← ev call e ρ
    pure (.nx, ρ)
  | .ife c a b, ρ => do
    let (d, _, ρ) ← ev call c ρ
    let t ← asB d
    if t then evSs a ρ else evSs b ρ
  | .for t k its body kill, ρ => do
    let (ds, ρ) ← evs call its ρ
    let items ← itemsOf k ds
    forL (fun d ρ => do
      let ρ ← asgT ρ t d false
      let (f, ρ) ← evSs body ρ
      pure (f, killS ρ kill)) items ρ
  | .whl c body kill, ρ => whlL (fun ρ => do
      let (d, _, ρ) ← ev call c ρ
      let b ← asB d
      pure (b, ρ)) (fun ρ => do
      let (f, ρ) ← evSs body ρ
      pure (f, killS ρ kill)) WHILES ρ
  | .ret e, ρ => match e with
    | .var i => match ρ[i]? with
      | some (.ow d) => some (.rt d true, ρ.set i .no)
      | some (.fr d) => some (.rt d false, ρ)
      | some (.bf d) => some (.rt d false, ρ)
      | some (.bo d) => some (.rt d false, ρ.set i (.bf d))
      | _ => none
    | e => do
      let (d, w, ρ) ← ev call e ρ
      pure (.rt d w, ρ)
  | .ret0, ρ => some (.rt .none false, ρ)
  | .cont, ρ => some (.ct, ρ)
  | .brk, ρ => some (.bk, ρ)
  | .pass, ρ => some (.nx, ρ)
  | .never, _ => none
def evSs : List S → Pl → Option (Fl × Pl)
  | [], ρ => some (.nx, ρ)
  | s :: ss, ρ => match evS s ρ with
    | some (.nx, ρ) => evSs ss ρ
    | r => r
end
end

/-- what a caller hears of a parameter: of what was lent alone -/
def lentS : Slot → Slot
  | .bo d => .bo d
  | .bf d => .bf d
  | _ => .no
def lents : Nat → Pl → List Slot
  | 0, _ => []
  | n + 1, [] => .no :: lents n []
  | n + 1, s :: ρ => lentS s :: lents n ρ
/-- a def: its parameters, its names, its body -/
structure Fn where
  np : Nat
  nn : Nat
  body : List S
/-- what is handed to a def -/
def slotA (p : D × Bool) : Slot := if p.2 = true then .bo p.1 else .fr p.1
def envOf (f : Fn) (as : List (D × Bool)) : Pl := as.map slotA ++ List.replicate (f.nn - as.length) .no
def runF (call : Call) (f : Fn) (as : List (D × Bool)) : Option (D × Bool × List Slot) :=
  if as.length = f.np then match evSs call f.body (envOf f as) with
    | some (.rt d w, ρ) => some (d, w, lents f.np ρ)
    | some (.nx, ρ) => some (.none, false, lents f.np ρ)
    | _ => none
  else none
def callN (fs : List Fn) : Nat → Call
  | 0 => fun _ _ => none
  | k + 1 => fun i as => match fs[i]? with
    | some f => runF (callN fs k) f as
    | none => none
end PV

set_option Elab.async false
set_option linter.all false
set_option maxRecDepth 100000
/-! PV: how plain values stand in the abstract heap. -/
namespace PV
open PySem L2
/-- what is written, and the world (by whose hashes dicts with tuples as keys stand) -/
structure KW where
  fr : PySem.W.Frag
  w : World
instance : Coe KW PySem.W.Frag := ⟨KW.fr⟩
end PV
abbrev L2.Cx.kw (X : L2.Cx) : PV.KW := ⟨X.K, X.w⟩
namespace PV
open PySem L2

def keyD : Key → D
  | .inl i => .int i
  | .inr x => .str x

/-- the script: told as a dict that no program makes -/
def scrD (ns : List Int) : List (D × D) := [(.none, .list (ns.map .int))]
def SqS (K : KW) (F : Hp) (a : Addr) (xs : List V) : Prop :=
  (∃ o, F a = some (.frz o (.lst xs))) ∨ ∃ (o : PySem.Obj) (its : Array Value) (n : Nat), K.fr.lookup a = some o ∧ o.cls = .type "list" ∧ o.dict = none ∧ o.data = .seq its n ∧ its.size ≤ sizeLine ∧ Vals xs its.toList
theorem SqS.sql {K : KW} {F : Hp} {a : Addr} {xs : List V} (h : SqS K F a xs) : SqL K F a xs := by
  rcases h with ⟨o, h⟩ | h
  · exact .inl (.inr ⟨o, h⟩)
  · exact .inr h
def ScrR (K : KW) (F : Hp) (kvs : List (D × D)) (v : V) : Prop := ∃ a ns, kvs = scrD ns ∧ v = .ref a ∧ SqS K F a (ns.map V.int)
/-- a tuple that has no dict of its own -/
def SqU (K : KW) (F : Hp) (a : Addr) (vs : List V) : Prop :=
  (∃ o : PySem.Obj, F a = some (.frz o (.tup vs)) ∧ o.dict = none) ∨
    ∃ (o : PySem.Obj) (its : Array Value) (n : Nat), K.fr.lookup a = some o ∧ o.cls = .type "tuple" ∧ o.dict = none ∧ o.data = .seq its n ∧ its.size ≤ sizeLine ∧ Vals vs its.toList
theorem SqU.sq {K : KW} {F : Hp} {a : Addr} {vs : List V} (h : SqU K F a vs) : SqT K F a vs := by
  rcases h with ⟨o, h, _⟩ | ⟨o, its, n, h1, h2, h3, h4, h5, h6⟩
  · exact .inl (.inr ⟨o, h⟩)
  · exact .inr ⟨o, its, n, h1, h2, h4, h5, h6⟩
/-- a dict whose keys are tuples: keys, where they stand, values -/
def DN (w : World) (a : Addr) (l : List (NestedKey × Addr × V)) : Heap → Prop := fun h => l.length ≤ sizeLine ∧ (a == sysModules) = false ∧
  ∃ xs : List (NestedKey × Addr × Value), Paired (fun p q => p.1 = q.1 ∧ p.2.1 = q.2.1 ∧ RelV p.2.2 q.2.2) l xs ∧
    ∃ o es ep, h.get? a = some o ∧ o.ExactDict ∧ o.data = .dict es ep ∧ es.toList = xs.map (fun x => (⟨x.1.hash w, .ref x.2.1, x.2.2⟩ : DictEntry)) ∧ (xs.map (·.1)).Nodup
abbrev DNo (w : World) (a : Addr) (l : List (NestedKey × Addr × V)) : HO := .ext (DN w a l)
section
variable (K : KW)
mutual
/-- v is d, all that it leans on stands in F for good -/
def Rep (F : Hp) : D → V → Prop
  | .none, v => v = .non
  | .bool b, v => v = .bl b
  | .int i, v => v = .int i
  | .str x, v => v = .str x
  | .list ds, v => ∃ a vs o, v = .ref a ∧ F a = some (.frz o (.lst vs)) ∧ RepL F ds vs
  | .tuple ds, v => ∃ a vs, v = .ref a ∧ SqU K F a vs ∧ RepL F ds vs
  | .dict kvs, v => (∃ a kv o, v = .ref a ∧ F a = some (.frz o (.dK kv)) ∧ RepK F kvs kv) ∨ (∃ a l o, v = .ref a ∧ F a = some (.frz o (DNo K.w a l)) ∧ RepN F kvs l ∧ kvs ≠ []) ∨ ScrR K F kvs v
def RepL (F : Hp) : List D → List V → Prop
  | [], vs => vs = []
  | d :: ds, vs => ∃ v r, vs = v :: r ∧ Rep F d v ∧ RepL F ds r
def RepK (F : Hp) : List (D × D) → List (Key × V) → Prop
  | [], kv => kv = []
  | p :: r, kv => ∃ j v s, kv = (j, v) :: s ∧ p.1 = keyD j ∧ Rep F p.2 v ∧ RepK F r s
def RepN (F : Hp) : List (D × D) → List (NestedKey × Addr × V) → Prop
  | [], l => l = []
  | p :: r, l => ∃ k a v s, l = (k, a, v) :: s ∧ nkeyT p.1 = some k ∧ Rep F p.1 (.ref a) ∧ Rep F p.2 v ∧ RepN F r s
end
/-- .. looked at in H, what it holds stands in F -/
def RepT (F H : Hp) : D → V → Prop
  | .list ds, v => ∃ a vs, v = .ref a ∧ Rd H a (.lst vs) ∧ RepL K F ds vs
  | .dict kvs, v => (∃ a kv, v = .ref a ∧ Rd H a (.dK kv) ∧ RepK K F kvs kv) ∨ (∃ a l, v = .ref a ∧ Rd H a (DNo K.w a l) ∧ RepN K F kvs l ∧ kvs ≠ []) ∨ ScrR K H kvs v
  | d, v => Rep K F d v
/-- an object that may be written -/
def Obj (F H : Hp) (a : Addr) : D → Prop
  | .list ds => ∃ vs, H a = some (.lst vs) ∧ RepL K F ds vs
  | .dict kvs => (∃ kv, H a = some (.dK kv) ∧ RepK K F kvs kv) ∨ ∃ l, H a = some (DNo K.w a l) ∧ RepN K F kvs l ∧ kvs ≠ []
  | _ => False
def RepTs (F H : Hp) : List D → List V → Prop
  | [], vs => vs = []
  | d :: ds, vs => ∃ v r, vs = v :: r ∧ RepT K F H d v ∧ RepTs F H ds r
end

def Sub (F H : Hp) : Prop := ∀ a o, F a = some o → H a = some o
theorem Sub.refl (F : Hp) : Sub F F := fun _ _ h => h
theorem Sub.trans {F G H : Hp} (a : Sub F G) (b : Sub G H) : Sub F H := fun x o h => b x o (a x o h)
theorem Sub.upd {F : Hp} {p : Addr} {o : HO} (h : F p = Option.none) : Sub F (L2.upd F p o) := fun a u e => by
  rw [upd_ne (ne_of_none e h)]; exact e

section
variable {K : KW}
theorem SqL.sub {F H : Hp} {a : Addr} {xs : List V} (s : Sub F H) (h : SqL K F a xs) : SqL K H a xs := by
  rcases h with (h | ⟨o, h⟩) | h
  · exact .inl (.inl (s _ _ h))
  · exact .inl (.inr ⟨o, s _ _ h⟩)
  · exact .inr h
theorem SqT.sub {F H : Hp} {a : Addr} {xs : List V} (s : Sub F H) (h : SqT K F a xs) : SqT K H a xs := by
  rcases h with (h | ⟨o, h⟩) | h
  · exact .inl (.inl (s _ _ h))
  · exact .inl (.inr ⟨o, s _ _ h⟩)
  · exact .inr h
theorem SqU.sub {F H : Hp} {a : Addr} {xs : List V} (s : Sub F H) (h : SqU K F a xs) : SqU K H a xs := by
  rcases h with ⟨o, h, z⟩ | h
  · exact .inl ⟨o, s _ _ h, z⟩
  · exact .inr h
mutual
theorem Rep.sub {F H : Hp} (s : Sub F H) : ∀ (d : D) (v : V), Rep K F d v → Rep K H d v
  | .none, v, h => by simpa only [Rep] using h
  | .bool b, v, h => by simpa only [Rep] using h
  | .int i, v, h => by simpa only [Rep] using h
  | .str x, v, h => by simpa only [Rep] using h
  | .list ds, v, h => by
    simp only [Rep] at h ⊢
    obtain ⟨a, vs, o, e, q, r⟩ := h
    exact ⟨a, vs, o, e, s _ _ q, RepL.sub s ds vs r⟩
  | .tuple ds, v, h => by
    simp only [Rep] at h ⊢
    obtain ⟨a, vs, e, q, r⟩ := h
    exact ⟨a, vs, e, SqU.sub s q, RepL.sub s ds vs r⟩
  | .dict kvs, v, h => by
    simp only [Rep] at h ⊢
    rcases h with ⟨a, kv, o, e, q, r⟩ | ⟨a, l, o, e, q, r, n⟩ | ⟨a, ns, e1, e2, q⟩
    · exact .inl ⟨a, kv, o, e, s _ _ q, RepK.sub s kvs kv r⟩
    · exact .inr (.inl ⟨a, l, o, e, s _ _ q, RepN.sub s kvs l r, n⟩)
    · exact .inr (.inr ⟨a, ns, e1, e2, q.imp (fun ⟨o, z⟩ => ⟨o, s _ _ z⟩) id⟩)
theorem RepL.sub {F H : Hp} (s : Sub F H) : ∀ (ds : List D) (vs : List V), RepL K F ds vs → RepL K H ds vs
  | [], vs, h => by simpa only [RepL] using h
  | d :: ds, vs, h => by
    simp only [RepL] at h ⊢
    obtain ⟨v, r, e, h1, h2⟩ := h
    exact ⟨v, r, e, Rep.sub s d v h1, RepL.sub s ds r h2⟩
theorem RepK.sub {F H : Hp} (s : Sub F H) : ∀ (ds : List (D × D)) (vs : List (Key × V)), RepK K F ds vs → RepK K H ds vs
  | [], vs, h => by simpa only [RepK] using h
  | (k, d) :: ds, vs, h => by
    simp only [RepK] at h ⊢
    obtain ⟨j, v, r, e, h0, h1, h2⟩ := h
    exact ⟨j, v, r, e, h0, Rep.sub s d v h1, RepK.sub s ds r h2⟩
theorem RepN.sub {F H : Hp} (s : Sub F H) : ∀ (ds : List (D × D)) (vs : List (NestedKey × Addr × V)), RepN K F ds vs → RepN K H ds vs
  | [], vs, h => by simpa only [RepN] using h
  | (k, d) :: ds, vs, h => by
    simp only [RepN] at h ⊢
    obtain ⟨j, a, v, r, e, h0, h1, h2, h3⟩ := h
    exact ⟨j, a, v, r, e, h0, Rep.sub s k _ h1, Rep.sub s d v h2, RepN.sub s ds r h3⟩
end
theorem RepL.length {F : Hp} : ∀ {ds : List D} {vs : List V}, RepL K F ds vs → vs.length = ds.length
  | [], vs, h => by simp only [RepL] at h; subst h; rfl
  | d :: ds, vs, h => by
    simp only [RepL] at h
    obtain ⟨v, r, rfl, h1, h2⟩ := h
    simp [RepL.length h2]
theorem RepL.nil {F : Hp} : RepL K F [] [] := by simp only [RepL]
theorem RepL.cons {F : Hp} {d : D} {ds : List D} {v : V} {vs : List V} (h : Rep K F d v) (t : RepL K F ds vs) : RepL K F (d :: ds) (v :: vs) := by
  simp only [RepL]; exact ⟨v, vs, rfl, h, t⟩
theorem RepL.append {F : Hp} : ∀ {ds es : List D} {vs ws : List V}, RepL K F ds vs → RepL K F es ws → RepL K F (ds ++ es) (vs ++ ws)
  | [], es, vs, ws, h, t => by simp only [RepL] at h; subst h; exact t
  | d :: ds, es, vs, ws, h, t => by
    simp only [RepL] at h
    obtain ⟨v, r, rfl, h1, h2⟩ := h
    exact RepL.cons h1 (RepL.append h2 t)
theorem RepL.get {F : Hp} : ∀ {ds : List D} {vs : List V} {i : Nat} {d : D}, RepL K F ds vs → ds[i]? = some d → ∃ v, vs[i]? = some v ∧ Rep K F d v
  | [], _, _, _, _, e => by simp at e
  | d :: ds, vs, 0, x, h, e => by
    simp only [RepL] at h
    obtain ⟨v, r, rfl, h1, h2⟩ := h
    simp at e; subst e
    exact ⟨v, rfl, h1⟩
  | d :: ds, vs, i + 1, x, h, e => by
    simp only [RepL] at h
    obtain ⟨v, r, rfl, h1, h2⟩ := h
    obtain ⟨u, h3, h4⟩ := RepL.get (i := i) h2 (by simpa using e)
    exact ⟨u, by simpa using h3, h4⟩
theorem RepL.get' {F : Hp} : ∀ {ds : List D} {vs : List V} {i : Nat} {v : V}, RepL K F ds vs → vs[i]? = some v → ∃ d, ds[i]? = some d ∧ Rep K F d v
  | [], vs, i, v, h, e => by simp only [RepL] at h; subst h; simp at e
  | d :: ds, vs, 0, x, h, e => by
    simp only [RepL] at h
    obtain ⟨v, r, rfl, h1, h2⟩ := h
    simp at e; subst e
    exact ⟨d, rfl, h1⟩
  | d :: ds, vs, i + 1, x, h, e => by
    simp only [RepL] at h
    obtain ⟨v, r, rfl, h1, h2⟩ := h
    obtain ⟨u, h3, h4⟩ := RepL.get' (i := i) h2 (by simpa using e)
    exact ⟨u, by simpa using h3, h4⟩
theorem RepL.take {F : Hp} : ∀ {ds : List D} {vs : List V} (n : Nat), RepL K F ds vs → RepL K F (ds.take n) (vs.take n)
  | _, _, 0, _ => RepL.nil
  | [], vs, n + 1, h => by simp only [RepL] at h; subst h; exact RepL.nil
  | d :: ds, vs, n + 1, h => by
    simp only [RepL] at h
    obtain ⟨v, r, rfl, h1, h2⟩ := h
    exact RepL.cons h1 (RepL.take n h2)
theorem RepL.drop {F : Hp} : ∀ {ds : List D} {vs : List V} (n : Nat), RepL K F ds vs → RepL K F (ds.drop n) (vs.drop n)
  | _, _, 0, h => h
  | [], vs, n + 1, h => by simp only [RepL] at h; subst h; exact RepL.nil
  | d :: ds, vs, n + 1, h => by
    simp only [RepL] at h
    obtain ⟨v, r, rfl, h1, h2⟩ := h
    exact RepL.drop n h2
theorem RepL.reverse {F : Hp} : ∀ {ds : List D} {vs : List V}, RepL K F ds vs → RepL K F ds.reverse vs.reverse
  | [], vs, h => by simp only [RepL] at h; subst h; exact RepL.nil
  | d :: ds, vs, h => by
    simp only [RepL] at h
    obtain ⟨v, r, rfl, h1, h2⟩ := h
    rw [List.reverse_cons, List.reverse_cons]
    exact RepL.append (RepL.reverse h2) (RepL.cons h1 RepL.nil)
theorem RepL.set {F : Hp} {d : D} {v : V} (hd : Rep K F d v) : ∀ {ds : List D} {vs : List V} (i : Nat), RepL K F ds vs → RepL K F (ds.set i d) (vs.set i v)
  | [], vs, i, h => by simp only [RepL] at h; subst h; exact RepL.nil
  | e :: ds, vs, 0, h => by
    simp only [RepL] at h
    obtain ⟨w, r, rfl, h1, h2⟩ := h
    exact RepL.cons hd h2
  | e :: ds, vs, i + 1, h => by
    simp only [RepL] at h
    obtain ⟨w, r, rfl, h1, h2⟩ := h
    exact RepL.cons h1 (RepL.set hd i h2)
theorem RepL.eraseIdx {F : Hp} : ∀ {ds : List D} {vs : List V} (i : Nat), RepL K F ds vs → RepL K F (ds.eraseIdx i) (vs.eraseIdx i)
  | [], vs, i, h => by simp only [RepL] at h; subst h; exact RepL.nil
  | e :: ds, vs, 0, h => by
    simp only [RepL] at h
    obtain ⟨w, r, rfl, h1, h2⟩ := h
    exact h2
  | e :: ds, vs, i + 1, h => by
    simp only [RepL] at h
    obtain ⟨w, r, rfl, h1, h2⟩ := h
    exact RepL.cons h1 (RepL.eraseIdx i h2)
theorem RepL.dropLast {F : Hp} {ds : List D} {vs : List V} (h : RepL K F ds vs) : RepL K F ds.dropLast vs.dropLast := by
  rw [List.dropLast_eq_take, List.dropLast_eq_take, RepL.length h]
  exact RepL.take _ h
theorem RepL.rep {F : Hp} {ds : List D} {vs : List V} (h : RepL K F ds vs) : ∀ k : Nat, RepL K F (List.replicate k ds).flatten (List.replicate k vs).flatten
  | 0 => RepL.nil
  | k + 1 => by
    rw [List.replicate_succ, List.replicate_succ, List.flatten_cons, List.flatten_cons]
    exact RepL.append h (RepL.rep h k)
/-- the address of what may be written -/
theorem Obj.there {F H : Hp} {a : Addr} {d : D} (h : Obj K F H a d) : ∃ o, H a = some o := by
  cases d <;> simp only [Obj] at h
  · obtain ⟨vs, e, _⟩ := h; exact ⟨_, e⟩
  · rcases h with ⟨vs, e, _⟩ | ⟨l, e, _⟩ <;> exact ⟨_, e⟩
theorem Obj.repT {F H : Hp} {a : Addr} {d : D} (h : Obj K F H a d) : RepT K F H d (.ref a) := by
  cases d <;> simp only [Obj] at h
  · obtain ⟨vs, e, r⟩ := h
    exact ⟨a, vs, rfl, .inl e, r⟩
  · rcases h with ⟨vs, e, r⟩ | ⟨l, e, r⟩
    · exact .inl ⟨a, vs, rfl, .inl e, r⟩
    · exact .inr (.inl ⟨a, l, rfl, .inl e, r⟩)
theorem Obj.sub {F F' H H' : Hp} {a : Addr} {d : D} (s : Sub F F') (e : H' a = H a) (h : Obj K F H a d) : Obj K F' H' a d := by
  cases d <;> simp only [Obj] at h ⊢
  · obtain ⟨vs, q, r⟩ := h; exact ⟨vs, by rw [e]; exact q, RepL.sub s _ _ r⟩
  · rcases h with ⟨vs, q, r⟩ | ⟨l, q, r, n⟩
    · exact .inl ⟨vs, by rw [e]; exact q, RepK.sub s _ _ r⟩
    · exact .inr ⟨l, by rw [e]; exact q, RepN.sub s _ _ r, n⟩
theorem Rep.repT {F H : Hp} (s : Sub F H) : ∀ {d : D} {v : V}, Rep K F d v → RepT K F H d v
  | .none, v, h => h
  | .bool b, v, h => h
  | .int i, v, h => h
  | .str x, v, h => h
  | .list ds, v, h => by
    simp only [Rep] at h
    obtain ⟨a, vs, o, e, q, r⟩ := h
    exact ⟨a, vs, e, .inr ⟨o, s _ _ q⟩, r⟩
  | .tuple ds, v, h => h
  | .dict kvs, v, h => by
    simp only [Rep] at h
    rcases h with ⟨a, kv, o, e, q, r⟩ | ⟨a, l, o, e, q, r⟩ | ⟨a, ns, e1, e2, q⟩
    · exact .inl ⟨a, kv, e, .inr ⟨o, s _ _ q⟩, r⟩
    · exact .inr (.inl ⟨a, l, e, .inr ⟨o, s _ _ q⟩, r⟩)
    · exact .inr (.inr ⟨a, ns, e1, e2, q.imp (fun ⟨o, z⟩ => ⟨o, s _ _ z⟩) id⟩)
/-- how a thing is given away: with its object told -/
inductive Fz : HO → HO → Prop
  | lst (vs : List V) (o : PySem.Obj) : Fz (.lst vs) (.frz o (.lst vs))
  | dK (kv : List (Key × V)) (o : PySem.Obj) : Fz (.dK kv) (.frz o (.dK kv))
  | ext (φ : Heap → Prop) (o : PySem.Obj) : Fz (.ext φ) (.frz o (.ext φ))
/-- what is one's own is given away for good -/
theorem Obj.freeze {F H : Hp} {a : Addr} {d : D} {o o' : HO} (hF : F a = Option.none) (ho : H a = some o) (hz : Fz o o') (h : Obj K F H a d) : Rep K (L2.upd F a o') d (.ref a) := by
  have s : Sub F (L2.upd F a o') := Sub.upd hF
  cases d <;> simp only [Obj] at h
  · obtain ⟨vs, q, r⟩ := h
    rw [ho] at q; cases q
    cases hz
    simp only [Rep]
    exact ⟨a, vs, _, rfl, upd_same, RepL.sub s _ _ r⟩
  · rcases h with ⟨vs, q, r⟩ | ⟨l, q, r, n⟩
    · rw [ho] at q; cases q
      cases hz
      simp only [Rep]
      exact .inl ⟨a, vs, _, rfl, upd_same, RepK.sub s _ _ r⟩
    · rw [ho] at q; cases q
      cases hz
      simp only [Rep]
      exact .inr (.inl ⟨a, l, _, rfl, upd_same, RepN.sub s _ _ r, n⟩)
theorem Sub.freeze {F H : Hp} {a : Addr} {o : HO} (s : Sub F H) (hF : F a = Option.none) : Sub (L2.upd F a o) (L2.upd H a o) := fun b u e => by
  by_cases h : b = a
  · subst h; rw [upd_same] at e ⊢; exact e
  · rw [upd_ne h] at e ⊢; exact s b u e
/-- it can be given away -/
theorem Obj.fz {X : Cx} {pins : List (Addr × PySem.Obj)} {σ : L2.St} {s : Shared} {F H : Hp} {a : Addr} {d : D} (I : L2.Inv X pins σ H s) (h : Obj K F H a d) : ∃ o o', H a = some o ∧ Fz o o' ∧ L2.Inv X pins σ (L2.upd H a o') s := by
  cases d <;> simp only [Obj] at h
  · obtain ⟨vs, q, r⟩ := h
    obtain ⟨od, I2⟩ := I.lock q True.intro
    exact ⟨_, _, q, .lst vs od, I2⟩
  · rcases h with ⟨vs, q, r⟩ | ⟨l, q, r, n⟩
    · obtain ⟨od, I2⟩ := I.lock q True.intro
      exact ⟨_, _, q, .dK vs od, I2⟩
    · obtain ⟨od, I2⟩ := I.lock q True.intro
      exact ⟨_, _, q, .ext _ od, I2⟩
end

/-! ### places -/
abbrev Sg := L2.St
theorem set_at {α : Type} {l : List α} {i j : Nat} {x y : α} (h : (l.set i x)[j]? = some y) : (j = i ∧ y = x) ∨ (j ≠ i ∧ l[j]? = some y) := by
  by_cases e : j = i
  · subst e
    by_cases hl : j < l.length
    · rw [List.getElem?_set_self hl] at h
      cases h
      exact .inl ⟨rfl, rfl⟩
    · rw [List.getElem?_eq_none (by simpa using hl)] at h
      cases h
  · rw [List.getElem?_set_ne (Ne.symm e)] at h
    exact .inr ⟨e, h⟩
def own? : Slot → Option D
  | .ow d => some d
  | .bo d => some d
  | _ => none
def val? : Slot → Option D
  | .fr d => some d
  | .bf d => some d
  | _ => none
/-- the addresses of one's own objects, of those that were lent -/
def OwA (ρ : Pl) (σ : Sg) (a : Addr) : Prop := ∃ (i : Nat) (d : D), ρ[i]? = some (.ow d) ∧ σ[i]? = some (some (.ref a))
def BoA (ρ : Pl) (σ : Sg) (a : Addr) : Prop := ∃ (i : Nat) (d : D), ρ[i]? = some (.bo d) ∧ σ[i]? = some (some (.ref a))
structure Wf (K : KW) (F H : Hp) (ρ : Pl) (σ : Sg) : Prop where
  sub : Sub F H
  len : ρ.length = σ.length
  fr : ∀ (i : Nat) (s : Slot) (d : D), ρ[i]? = some s → val? s = some d → ∃ v, σ[i]? = some (some v) ∧ Rep K F d v
  own : ∀ (i : Nat) (s : Slot) (d : D), ρ[i]? = some s → own? s = some d → ∃ a, σ[i]? = some (some (.ref a)) ∧ F a = Option.none ∧ Obj K F H a d
  sep : ∀ (i j : Nat) (s t : Slot) (d e : D) (a : Addr), ρ[i]? = some s → ρ[j]? = some t → own? s = some d → own? t = some e → σ[i]? = some (some (.ref a)) → σ[j]? = some (some (.ref a)) → i = j
/-- where one began -/
structure En where
  F : Hp
  H : Hp
  ρ : Pl
  σ : Sg
abbrev En.O (e : En) : Addr → Prop := OwA e.ρ e.σ
abbrev En.B (e : En) : Addr → Prop := BoA e.ρ e.σ
structure Live (K : KW) (e : En) (F H : Hp) (ρ : Pl) (σ : Sg) : Prop where
  wf : Wf K F H ρ σ
  ff : Sub e.F F
  hh : ∀ a o, e.H a = some o → ¬ e.O a → ¬ e.B a → H a = some o
  dom : ∀ a, H a = Option.none → e.H a = Option.none
  new : ∀ a o, F a = some o → e.F a = Option.none → e.H a = Option.none ∨ e.O a ∨ e.B a
  ow : ∀ a, OwA ρ σ a → e.H a = Option.none ∨ e.O a
  bo : ∀ (i : Nat) (d : D), ρ[i]? = some (.bo d) → (∃ d0, e.ρ[i]? = some (.bo d0)) ∧ σ[i]? = e.σ[i]?
  bf : ∀ (i : Nat) (d : D), ρ[i]? = some (.bf d) → ((∃ d0, e.ρ[i]? = some (.bo d0)) ∨ ∃ d0, e.ρ[i]? = some (.bf d0)) ∧ σ[i]? = e.σ[i]?
/-- a result: new, or for good -/
def Res (K : KW) (e : En) (F H : Hp) (ρ : Pl) (σ : Sg) (d : D) (w : Bool) (v : V) : Prop :=
  if w = true then ∃ a, v = .ref a ∧ Obj K F H a d ∧ F a = Option.none ∧ (e.H a = Option.none ∨ e.O a) ∧ ¬ OwA ρ σ a ∧ ¬ BoA ρ σ a else Rep K F d v
section
variable {K : KW} {F H F' H' : Hp} {ρ ρ' : Pl} {σ σ' : Sg} {e : En}
theorem Wf.owA (w : Wf K F H ρ σ) {a : Addr} (h : OwA ρ σ a) : F a = Option.none ∧ ∃ o, H a = some o := by
  obtain ⟨i, d, h1, h2⟩ := h
  obtain ⟨b, h3, h4, h5⟩ := w.own i _ d h1 rfl
  rw [h2] at h3
  cases h3
  exact ⟨h4, h5.there⟩
theorem Wf.boA (w : Wf K F H ρ σ) {a : Addr} (h : BoA ρ σ a) : F a = Option.none ∧ ∃ o, H a = some o := by
  obtain ⟨i, d, h1, h2⟩ := h
  obtain ⟨b, h3, h4, h5⟩ := w.own i _ d h1 rfl
  rw [h2] at h3
  cases h3
  exact ⟨h4, h5.there⟩
theorem Wf.live (w : Wf K F H ρ σ) : Live K ⟨F, H, ρ, σ⟩ F H ρ σ :=
  ⟨w, Sub.refl _, fun _ _ h _ _ => h, fun _ h => h, fun a o h n => (by rw [show (⟨F, H, ρ, σ⟩ : En).F a = F a from rfl, h] at n; cases n), fun _ h => .inr h, fun i d h => ⟨⟨d, h⟩, rfl⟩, fun i d h => ⟨.inr ⟨d, h⟩, rfl⟩⟩
theorem Live.boA (l : Live K e F H ρ σ) {a : Addr} (h : BoA ρ σ a) : e.B a := by
  obtain ⟨i, d, h1, h2⟩ := h
  obtain ⟨⟨d0, h3⟩, h4⟩ := l.bo i d h1
  exact ⟨i, d0, h3, by rw [← h4]; exact h2⟩
theorem Live.trans (l : Live K e F H ρ σ) (m : Live K ⟨F, H, ρ, σ⟩ F' H' ρ' σ') : Live K e F' H' ρ' σ' := by
  refine ⟨m.wf, l.ff.trans m.ff, fun a o h nO nB => ?_, fun a h => l.dom a (m.dom a h), fun a o h n => ?_, fun a h => ?_, fun i d h => ?_, fun i d h => ?_⟩
  · have h1 := l.hh a o h nO nB
    refine m.hh a o h1 (fun z => ?_) (fun z => nB (l.boA z))
    rcases l.ow a z with q | q
    · rw [q] at h; cases h
    · exact nO q
  · cases q : F a with
    | some u => exact l.new a u q n
    | none =>
      rcases m.new a o h q with z | z | z
      · exact .inl (l.dom a z)
      · rcases l.ow a z with y | y
        · exact .inl y
        · exact .inr (.inl y)
      · exact .inr (.inr (l.boA z))
  · rcases m.ow a h with z | z
    · exact .inl (l.dom a z)
    · exact l.ow a z
  · obtain ⟨⟨d0, h1⟩, h2⟩ := m.bo i d h
    obtain ⟨h3, h4⟩ := l.bo i d0 h1
    exact ⟨h3, h2.trans h4⟩
  · obtain ⟨h1, h2⟩ := m.bf i d h
    rcases h1 with ⟨d0, h1⟩ | ⟨d0, h1⟩
    · obtain ⟨h3, h4⟩ := l.bo i d0 h1
      exact ⟨.inl h3, h2.trans h4⟩
    · obtain ⟨h3, h4⟩ := l.bf i d0 h1
      exact ⟨h3, h2.trans h4⟩
theorem Res.trans {d : D} {w : Bool} {v : V} (l : Live K e F H ρ σ) (r : Res K ⟨F, H, ρ, σ⟩ F' H' ρ' σ' d w v) : Res K e F' H' ρ' σ' d w v := by
  unfold Res at r ⊢
  split
  · rename_i hw
    rw [if_pos hw] at r
    obtain ⟨a, h1, h2, h3, h4, h5⟩ := r
    refine ⟨a, h1, h2, h3, ?_, h5⟩
    rcases h4 with z | z
    · exact .inl (l.dom a z)
    · exact l.ow a z
  · rename_i hw
    rwa [if_neg hw] at r
/-- what is neither looked at nor one's own is there still -/
theorem Live.keep (l : Live K e F H ρ σ) {a : Addr} {d : D} (h : Obj K e.F e.H a d) (nF : e.F a = Option.none) (nO : ¬ e.O a) (nB : ¬ e.B a) : Obj K F H a d ∧ F a = Option.none ∧ ¬ OwA ρ σ a ∧ ¬ BoA ρ σ a := by
  obtain ⟨o, ho⟩ := h.there
  have h1 := l.hh a o ho nO nB
  refine ⟨h.sub l.ff (h1.trans ho.symm), ?_, fun z => ?_, fun z => nB (l.boA z)⟩
  · cases q : F a with
    | none => rfl
    | some u =>
      rcases l.new a u q nF with z | z | z
      · rw [z] at ho; cases ho
      · exact absurd z nO
      · exact absurd z nB
  · rcases l.ow a z with q | q
    · rw [q] at ho; cases ho
    · exact nO q
end
end PV

set_option Elab.async false
set_option linter.all false
set_option maxRecDepth 100000
set_option maxHeartbeats 4000000
namespace PV
open PySem L2 PyProof.Rows PySem.Spec
theorem small63 {j : Int} (h : smallI j = true) : -(2 ^ 63) ≤ j ∧ j < 2 ^ 63 := by
  unfold smallI at h
  simp only [Bool.and_eq_true, decide_eq_true_eq] at h
  omega
theorem tmulA (l : Addr) (items : Array Value) (n : Nat) (sl : Array (Option Value)) (dd : Option Addr) (x : Int) (u : Tok) (c0 : (decide (x < -(2 ^ 63)) || decide (x ≥ 2 ^ 63)) = false) (c1 : (items.isEmpty || x == 1) = true) :
    Meets (Builtin.«tuple.__mul__» ⟨[.ref l, .int x u], []⟩) (fun _ R s => s.heap.get? l = some { cls := .type "tuple", dict := dd, data := .seq items n, slots := sl } ∧ R (.ok (.ret (Value.ref l))) s) :=
  .of_wp fun prog w A R s h => by
    obtain ⟨hp, g, d, tk, os⟩ := s
    obtain ⟨hl, h⟩ := h
    have f1 := AutoSeq1.idx_int
    wp_walk using wpAny_loadPart' hl
    refine wpAny_ite_false (decide_eq_false (by rw [c0]; exact Bool.false_ne_true)) ?_
    wp_walk using wpAny_loadPart' hl
    try (refine wpAny_ite_true (decide_eq_true c1) ?_; wp_walk using wpAny_loadPart' hl)
    exact ⟨_, rfl, h⟩
theorem tmulB (l : Addr) (items : Array Value) (n : Nat) (sl : Array (Option Value)) (dd : Option Addr) (x : Int) (u : Tok) (c0 : (decide (x < -(2 ^ 63)) || decide (x ≥ 2 ^ 63)) = false) (c1 : (items.isEmpty || x == 1) = false)
    (c2 : (decide (x ≤ 0) || items.isEmpty) = true) :
    Meets (Builtin.«tuple.__mul__» ⟨[.ref l, .int x u], []⟩) (fun _ R s => s.heap.get? l = some { cls := .type "tuple", dict := dd, data := .seq items n, slots := sl } ∧
      R (.ok (.ret (Value.ref s.heap.objs.size))) { s with heap := s.heap.push { cls := Value.type "tuple", data := Data.seq #[] }, toks := s.toks }) :=
  .of_wp fun prog w A R s h => by
    obtain ⟨hp, g, d, tk, os⟩ := s
    obtain ⟨hl, h⟩ := h
    have f1 := AutoSeq1.idx_int
    wp_walk using wpAny_loadPart' hl
    refine wpAny_ite_false (decide_eq_false (by rw [c0]; exact Bool.false_ne_true)) ?_
    wp_walk using wpAny_loadPart' hl
    repeat (first
      | (refine wpAny_ite_false (decide_eq_false (by rw [c1]; exact Bool.false_ne_true)) ?_; wp_walk using wpAny_loadPart' hl)
      | (refine wpAny_ite_true (decide_eq_true c2) ?_; wp_walk using wpAny_loadPart' hl))
    exact ⟨_, rfl, h⟩
section
variable {X : Cx}
theorem op_repT1 : OpR X (binaryOp .Mult) (fun x y H Q => ∃ l k xs, x = .ref l ∧ y = .int k ∧ SqT X.kw H l xs ∧ smallI k = true ∧ xs.length * k.toNat ≤ 65536 ∧ xs.length ≤ 65536 ∧ k ≤ 65536 ∧ ((xs = [] ∨ k = 1) → Q (.ref l) H) ∧ (¬ (xs = [] ∨ k = 1) → ∀ p o, H p = Option.none → o.dict = Option.none → Q (.ref p) (upd H p (.frz o (.tup (List.replicate k.toNat xs).flatten))))) := by
  intro pins s σ H x y v u Q I rx ry h
  obtain ⟨l, k, xs, rfl, rfl, hT, hk, hz, hz1, hz2, q1, q2⟩ := h
  cases rx
  obtain ⟨t, rfl⟩ := ry
  obtain ⟨its, r, ⟨⟨cls, dd, data, sl⟩, ho, hc, n, hd⟩, hs⟩ := I.tuple hT
  simp only at hc hd
  subst hc hd
  have hle : its.length = xs.length := r.length.symm
  have e63 := small63 hk
  have c0 : (decide (k < -(2 ^ 63)) || decide (k ≥ 2 ^ 63)) = false := by
    rw [decide_eq_false (by omega), decide_eq_false (by omega)] <;> rfl
  have hem : its.toArray.isEmpty = its.isEmpty := by simp
  by_cases hw : xs = [] ∨ k = 1
  · have c1 : (its.toArray.isEmpty || k == 1) = true := by
      rcases hw with z | z
      · have : its = [] := List.length_eq_zero_iff.mp (by rw [hle, z]; rfl)
        rw [hem, this]; rfl
      · rw [z]; simp
    refine wpAny_binaryOp_repeat_ref (T := "tuple") (U := "int") (by decide) ⟨_, ho, rfl⟩ (fun s' => typeIs_int s' k t) noFill_tuple_mul F.fills_int_mul F.slot_int_rmul repeat_tuple F.slot_int_index.lookup
      (call_meets F.slot_int_rmul (typeIs_int s k t) F.entry_int_rmul (F.args_int_rmul_2 _ _) (int_rmul_tuple k t l its.toArray n dd sl)
        ⟨ho, rfl, ⟨_, ho, rfl⟩, call_meets F.slot_tuple_mul ⟨_, ho, rfl⟩ F.entry_tuple_mul (F.args_tuple_mul_2 _ _) (tmulA l its.toArray n sl dd k t c0 c1) ⟨ho, ?_⟩⟩)
    exact ⟨.ref l, H, I, rfl, q1 hw⟩
  · have hne : its ≠ [] := fun e => hw (.inl (List.length_eq_zero_iff.mp (by rw [← hle, e]; rfl)))
    have hk1 : k ≠ 1 := fun e => hw (.inr e)
    have hi : its.toArray.isEmpty = false := by
      cases its with
      | nil => exact absurd rfl hne
      | cons a b => rfl
    have c1 : (its.toArray.isEmpty || k == 1) = false := by
      rw [hi, Bool.false_or]
      exact beq_eq_false_iff_ne.mpr hk1
    by_cases h0 : k ≤ 0
    · have c2 : (decide (k ≤ 0) || its.toArray.isEmpty) = true := by rw [decide_eq_true h0]; rfl
      refine wpAny_binaryOp_repeat_ref (T := "tuple") (U := "int") (by decide) ⟨_, ho, rfl⟩ (fun s' => typeIs_int s' k t) noFill_tuple_mul F.fills_int_mul F.slot_int_rmul repeat_tuple F.slot_int_index.lookup
        (call_meets F.slot_int_rmul (typeIs_int s k t) F.entry_int_rmul (F.args_int_rmul_2 _ _) (int_rmul_tuple k t l its.toArray n dd sl)
          ⟨ho, rfl, ⟨_, ho, rfl⟩, call_meets F.slot_tuple_mul ⟨_, ho, rfl⟩ F.entry_tuple_mul (F.args_tuple_mul_2 _ _) (tmulB l its.toArray n sl dd k t c0 c1 c2) ⟨ho, ?_⟩⟩)
      have e0 : k.toNat = 0 := by omega
      have q := q2 hw s.heap.objs.size { cls := Value.type "tuple", data := Data.seq #[] } (I.hok.fresh (Nat.le_refl _)) rfl
      rw [e0] at q
      refine ⟨.ref s.heap.objs.size, _, I.laid (t' := s.toks) (o := .frz { cls := Value.type "tuple", data := Data.seq #[] } (.tup [])) (fun b ob q => Heap.get?_push_of_some _ q) (Nat.le_refl _) ?_, rfl, q⟩
      exact ⟨Heap.get?_push_size _ rfl, Nat.zero_le _, [], .nil, IsTup.new _ _⟩
    · have hsz0 : its.toArray.size = xs.length := by rw [List.size_toArray, hle]
      have hm : ((its.toArray.size : Nat) : Int) * k ≤ 65536 := by
        rw [hsz0]
        have e1 : (k.toNat : Int) = k := Int.toNat_of_nonneg (by omega)
        rw [← e1, ← Int.natCast_mul]
        omega
      have flen : (List.replicate k.toNat its).flatten.length ≤ sizeLine := by
        rw [PyProof.Rows.lm_len_rep_flat, hle, sizeLine_eq, Nat.mul_comm]
        omega
      have c2 : (decide (k ≤ 0) || its.toArray.isEmpty) = false := by
        rw [hi, Bool.or_false]
        exact decide_eq_false h0
      have c4 : Builtin.Tuple.tupleTooMany (((its.toArray.size : Nat) : Int) * k) = false := by
        unfold Builtin.Tuple.tupleTooMany
        rw [sizeLine_eq]
        exact decide_eq_false (by omega)
      refine wpAny_binaryOp_repeat_ref (T := "tuple") (U := "int") (by decide) ⟨_, ho, rfl⟩ (fun s' => typeIs_int s' k t) noFill_tuple_mul F.fills_int_mul F.slot_int_rmul repeat_tuple F.slot_int_index.lookup
        (call_meets F.slot_int_rmul (typeIs_int s k t) F.entry_int_rmul (F.args_int_rmul_2 _ _) (int_rmul_tuple k t l its.toArray n dd sl)
          ⟨ho, rfl, ⟨_, ho, rfl⟩, call_meets F.slot_tuple_mul ⟨_, ho, rfl⟩ F.entry_tuple_mul (F.args_tuple_mul_2 _ _) (tuple_mulW l its.toArray n dd sl k t c0 c1 c2 (by omega) c4 (by rw [size_rep, List.size_toArray]; exact flen)) ⟨ho, ?_⟩⟩)
      rw [size_rep]
      refine ⟨.ref s.heap.objs.size, _, I.laid (t' := s.toks) (o := .frz { cls := Value.type "tuple", data := Data.seq (List.replicate k.toNat its).flatten.toArray } (.tup (List.replicate k.toNat xs).flatten)) (fun b ob q => Heap.get?_push_of_some _ q) (Nat.le_refl _) ?_, rfl, q2 hw s.heap.objs.size { cls := Value.type "tuple", data := Data.seq (List.replicate k.toNat its).flatten.toArray } (I.hok.fresh (Nat.le_refl _)) rfl⟩
      exact ⟨Heap.get?_push_size _ rfl, by rw [PyProof.Rows.lm_len_rep_flat, sizeLine_eq, Nat.mul_comm]; omega, _, r.rep k.toNat, IsTup.new _ _⟩

/-! ### tuples made, told as they stand -/
/-- a display -/
def tTupU (t : TA) : TE := fun σ H Q => t σ H fun xs H1 => xs.length ≤ sizeLine ∧ ∀ p o, H1 p = Option.none → o.dict = Option.none → Q (.ref p) (upd H1 p (.frz o (.tup xs)))
theorem pe_tupU {es : List Expr} {t : TA} {pos : Pos} {n : Nat} (h : PA X es t) : PE X (.Tuple es n pos) (tTupU t) := by
  refine ⟨fun pins s σ H Q I hq => ?_⟩
  refine wpAny_Tuple_spliced (thn (h.run pos pins s σ H _ I hq) fun us s1 ⟨xs, H1, I1, r, z, q⟩ => ⟨by rw [← r.length]; exact z, ?_⟩)
  have hf : H1 s1.heap.objs.size = Option.none := I1.hok.fresh (Nat.le_refl _)
  refine ⟨.ref s1.heap.objs.size, _, I1.laid (t' := s1.toks) (o := .frz { cls := .type "tuple", data := .seq us.toArray } (.tup xs)) (fun b u e => Heap.get?_push_of_some _ e) (Nat.le_refl _) ?_, rfl, q s1.heap.objs.size { cls := .type "tuple", data := .seq us.toArray } hf rfl⟩
  exact ⟨Heap.get?_push_size _ rfl, z, us, r, ⟨_, Heap.get?_push_size _ rfl, rfl, _, rfl⟩⟩
theorem op_catU : OpR X (binaryOp .Add) (fun x y H Q => ∃ a b xs ys, x = .ref a ∧ y = .ref b ∧ SqT X.kw H a xs ∧ SqT X.kw H b ys ∧ xs.length + ys.length ≤ sizeLine ∧
    (xs = [] → Q (.ref b) H) ∧ (xs ≠ [] → ys = [] → Q (.ref a) H) ∧ (xs ≠ [] → ys ≠ [] → ∀ p o, H p = Option.none → o.dict = Option.none → Q (.ref p) (upd H p (.frz o (.tup (xs ++ ys)))))) := by
  intro pins s σ H x y v u Q I rx ry h
  obtain ⟨a, b, xs, ys, rfl, rfl, ha, hb, hz, q0, q1, q2⟩ := h
  cases rx
  cases ry
  obtain ⟨its, r1, p1, _⟩ := I.tuple ha
  obtain ⟨its2, r2, p2, _⟩ := I.tuple hb
  by_cases hx : xs = []
  · subst hx
    cases r1
    exact cat_tup0 p1 p2 ⟨.ref b, H, I, rfl, q0 rfl⟩
  · refine HT.cat_tup p1 p2 (fun z => hx (r1.nil_iff.mp z)) (fun z => ⟨.ref a, H, I, rfl, q1 hx (r2.nil_iff.mp z)⟩) (fun z => ?_) (by rw [← r1.length, ← r2.length]; exact hz)
    refine ⟨.ref s.heap.objs.size, _, I.laid (t' := s.toks) (o := .frz { cls := .type "tuple", data := .seq (its ++ its2).toArray } (.tup (xs ++ ys))) (fun b ob q => Heap.get?_push_of_some _ q) (Nat.le_refl _) ?_, rfl, q2 hx (fun w => z (r2.nil_iff.mpr w)) s.heap.objs.size { cls := .type "tuple", data := .seq (its ++ its2).toArray } (I.hok.fresh (Nat.le_refl _)) rfl⟩
    exact ⟨Heap.get?_push_size _ rfl, by rw [List.length_append]; exact hz, _, r1.append r2, IsTup.new _ _⟩
theorem sl_tupU : SlR X (fun x lo hi H Q => ∃ a xs, x = .ref a ∧ SqT X.kw H a xs ∧
    (HT.sIx xs.length 0 lo = 0 ∧ HT.sIx xs.length xs.length hi = xs.length → Q (.ref a) H) ∧ (¬ (HT.sIx xs.length 0 lo = 0 ∧ HT.sIx xs.length xs.length hi = xs.length) → ∀ p o, H p = Option.none → o.dict = Option.none → Q (.ref p) (upd H p (.frz o (.tup (cutV xs lo hi)))))) := by
  intro pins s σ H x v vl vu lo hi sl Q I rx hs pl pu h
  obtain ⟨a, xs, rfl, hx, q1, q2⟩ := h
  cases rx
  obtain ⟨its, r, ht, hz⟩ := I.tuple hx
  have hlen : its.toArray.size = xs.length := by rw [List.size_toArray]; exact r.length.symm
  refine ⟨"tuple", _, PyProof.Rows.slot_tuple_getitem.lookup, ht.typeIs, ?_⟩
  by_cases hw : HT.sIx xs.length 0 lo = 0 ∧ HT.sIx xs.length xs.length hi = xs.length
  · exact getItem_tuple_whole ht hs pl pu (by rw [hlen]; exact hw) ⟨.ref a, H, I, rfl, q1 hw⟩
  · refine HT.getItem_tuple_cut ht hs pl pu (by rw [hlen]; exact hw) ?_ (by rw [hlen]; exact hz)
    rw [hlen]
    refine ⟨.ref s.heap.objs.size, _, I.laid (t' := s.toks) (o := .frz { cls := .type "tuple", data := .seq ((its.toArray.toList.drop (HT.sIx xs.length 0 lo)).take (HT.sIx xs.length xs.length hi - HT.sIx xs.length 0 lo)).toArray } (.tup (cutV xs lo hi))) (fun b ob q => Heap.get?_push_of_some _ q) (Nat.le_refl _) ?_, rfl, q2 hw s.heap.objs.size { cls := .type "tuple", data := .seq ((its.toArray.toList.drop (HT.sIx xs.length 0 lo)).take (HT.sIx xs.length xs.length hi - HT.sIx xs.length 0 lo)).toArray } (I.hok.fresh (Nat.le_refl _)) rfl⟩
    exact ⟨Heap.get?_push_size _ rfl, Nat.le_trans (cutV_length xs lo hi) hz, _, (r.drop (HT.sIx xs.length 0 lo)).take (HT.sIx xs.length xs.length hi - HT.sIx xs.length 0 lo), IsTup.new _ _⟩
theorem call_tuple_ofU : CallR X (.type "tuple") (fun xs H Q => ∃ p ys, xs = [.ref p] ∧ ((SqL X.kw H p ys ∧ ∀ l o, H l = Option.none → o.dict = Option.none → Q (.ref l) (upd H l (.frz o (.tup ys)))) ∨ (SqT X.kw H p ys ∧ Q (.ref p) H))) := by
  intro pins s σ H xs us Q I r h
  obtain ⟨p, ys, rfl, h⟩ := h
  obtain ⟨u, rfl, rx⟩ := vals1 r
  cases rx
  rcases h with ⟨hq, q⟩ | ⟨hq, q⟩
  · obtain ⟨its, r', pl, hz⟩ := I.list hq
    have hlen := r'.length
    refine call_tuple_list pl.isList (fun h' kp => ?_) (by simp only [List.size_toArray] <;> omega)
    have I1 : L2.Inv X pins σ H { s with heap := h' } := I.kept (t' := s.toks) kp
    have I2 : L2.Inv X pins σ (upd H h'.objs.size (.frz { cls := .type "tuple", data := .seq its.toArray } (.tup ys))) { s with heap := h'.push { cls := .type "tuple", data := .seq its.toArray } } :=
      I1.laid (t' := s.toks) (fun b o e => Heap.get?_push_of_some _ e) (Nat.le_refl _) (show ObjOk X.prog X.w _ _ _ (.frz _ (.tup ys)) from ⟨Heap.get?_push_size _ rfl, hz, its, r', IsTup.new _ _⟩)
    exact ⟨.ref h'.objs.size, _, I2, rfl, q h'.objs.size { cls := .type "tuple", data := .seq its.toArray } (I1.hok.fresh (Nat.le_refl _)) rfl⟩
  · obtain ⟨its, r', pl, hz⟩ := I.tuple hq
    exact call_tuple_same pl ⟨.ref p, H, I, rfl, q⟩
end
end PV

set_option Elab.async false
set_option linter.all false
set_option maxRecDepth 100000
set_option maxHeartbeats 1000000
/-! PV: dicts whose keys are tuples. -/
namespace PV
open PySem L2 PyProof.Rows
/-! ### keys -/
theorem nkey_tup {ds : List D} {b : NestedKey} (h : nkey (.tuple ds) = some b) : ∃ ks, nkeys ds = some ks ∧ b = .tup ks := by
  simp only [nkey] at h
  split at h
  · rename_i ks hk
    cases h
    exact ⟨ks, hk, rfl⟩
  · cases h
mutual
theorem nkey_eqv : ∀ (d e : D) (a b : NestedKey), nkey d = some a → nkey e = some b → PyData.eqv d e = decide (a = b)
  | .none, e, a, b, h, h' => by
    simp only [nkey, Option.some.injEq] at h
    subst h
    cases e with
    | none => simp only [nkey, Option.some.injEq] at h'; subst h'; simp [PyData.eqv]
    | bool y => simp only [nkey, Option.some.injEq] at h'; subst h'; simp [PyData.eqv]
    | int y => simp only [nkey, Option.some.injEq] at h'; subst h'; simp [PyData.eqv]
    | str y => simp only [nkey, Option.some.injEq] at h'; subst h'; simp [PyData.eqv]
    | tuple y => obtain ⟨ks, _, rfl⟩ := nkey_tup h'; simp [PyData.eqv]
    | list y => simp [nkey] at h'
    | dict y => simp [nkey] at h'
  | .bool x, e, a, b, h, h' => by
    simp only [nkey, Option.some.injEq] at h
    subst h
    cases e with
    | none => simp only [nkey, Option.some.injEq] at h'; subst h'; simp [PyData.eqv]
    | bool y => simp only [nkey, Option.some.injEq] at h'; subst h'; cases x <;> cases y <;> simp [PyData.eqv]
    | int y => simp only [nkey, Option.some.injEq] at h'; subst h'; cases x <;> simp [PyData.eqv, Bool.beq_eq_decide_eq]
    | str y => simp only [nkey, Option.some.injEq] at h'; subst h'; simp [PyData.eqv]
    | tuple y => obtain ⟨ks, _, rfl⟩ := nkey_tup h'; simp [PyData.eqv]
    | list y => simp [nkey] at h'
    | dict y => simp [nkey] at h'
  | .int x, e, a, b, h, h' => by
    simp only [nkey, Option.some.injEq] at h
    subst h
    cases e with
    | none => simp only [nkey, Option.some.injEq] at h'; subst h'; simp [PyData.eqv]
    | bool y => simp only [nkey, Option.some.injEq] at h'; subst h'; cases y <;> simp [PyData.eqv, Bool.beq_eq_decide_eq]
    | int y => simp only [nkey, Option.some.injEq] at h'; subst h'; simp [PyData.eqv, Bool.beq_eq_decide_eq]
    | str y => simp only [nkey, Option.some.injEq] at h'; subst h'; simp [PyData.eqv]
    | tuple y => obtain ⟨ks, _, rfl⟩ := nkey_tup h'; simp [PyData.eqv]
    | list y => simp [nkey] at h'
    | dict y => simp [nkey] at h'
  | .str x, e, a, b, h, h' => by
    simp only [nkey, Option.some.injEq] at h
    subst h
    cases e with
    | none => simp only [nkey, Option.some.injEq] at h'; subst h'; simp [PyData.eqv]
    | bool y => simp only [nkey, Option.some.injEq] at h'; subst h'; simp [PyData.eqv]
    | int y => simp only [nkey, Option.some.injEq] at h'; subst h'; simp [PyData.eqv]
    | str y => simp only [nkey, Option.some.injEq] at h'; subst h'; simp [PyData.eqv, Bool.beq_eq_decide_eq]
    | tuple y => obtain ⟨ks, _, rfl⟩ := nkey_tup h'; simp [PyData.eqv]
    | list y => simp [nkey] at h'
    | dict y => simp [nkey] at h'
  | .tuple ds, e, a, b, h, h' => by
    obtain ⟨ks, hk, rfl⟩ := nkey_tup h
    cases e with
    | none => simp only [nkey, Option.some.injEq] at h'; subst h'; simp [PyData.eqv]
    | bool y => simp only [nkey, Option.some.injEq] at h'; subst h'; simp [PyData.eqv]
    | int y => simp only [nkey, Option.some.injEq] at h'; subst h'; simp [PyData.eqv]
    | str y => simp only [nkey, Option.some.injEq] at h'; subst h'; simp [PyData.eqv]
    | tuple es =>
      obtain ⟨ls, hl, rfl⟩ := nkey_tup h'
      simp only [PyData.eqv]
      rw [nkeys_eqv ds es ks ls hk hl]
      simp
    | list y => simp [nkey] at h'
    | dict y => simp [nkey] at h'
  | .list ds, e, a, b, h, h' => by simp [nkey] at h
  | .dict ds, e, a, b, h, h' => by simp [nkey] at h
theorem nkeys_eqv : ∀ (ds es : List D) (as bs : List NestedKey), nkeys ds = some as → nkeys es = some bs → PyData.eqvAll ds es = decide (as = bs)
  | [], es, as, bs, h, h' => by
    simp only [nkeys, Option.some.injEq] at h
    subst h
    cases es with
    | nil => simp only [nkeys, Option.some.injEq] at h'; subst h'; simp [PyData.eqvAll]
    | cons e es =>
      simp only [nkeys] at h'
      split at h' <;> cases h'
      simp [PyData.eqvAll]
  | d :: ds, es, as, bs, h, h' => by
    simp only [nkeys] at h
    split at h
    · rename_i k ks h1 h2
      cases h
      cases es with
      | nil => simp only [nkeys, Option.some.injEq] at h'; subst h'; simp [PyData.eqvAll]
      | cons e es =>
        simp only [nkeys] at h'
        split at h'
        · rename_i l ls h3 h4
          cases h'
          simp only [PyData.eqvAll]
          rw [nkey_eqv d e k l h1 h3, nkeys_eqv ds es ks ls h2 h4]
          by_cases e1 : k = l <;> by_cases e2 : ks = ls <;> simp [e1, e2]
        · cases h'
    · cases h
end
theorem nkeyT_of {d : D} {k : NestedKey} (h : nkeyT d = some k) : ∃ ds, d = .tuple ds ∧ nkey d = some k ∧ k.depth ≤ 8 := by
  unfold nkeyT at h
  split at h
  · rename_i ds
    split at h
    · rename_i k' hk
      split at h
      · rename_i hd
        cases h
        exact ⟨ds, rfl, hk, hd⟩
      · cases h
    · cases h
  · cases h
theorem nkeyT_eqv {d e : D} {a b : NestedKey} (h : nkeyT d = some a) (h' : nkeyT e = some b) : PyData.eqv d e = decide (a = b) := by
  obtain ⟨_, _, h1, _⟩ := nkeyT_of h
  obtain ⟨_, _, h2, _⟩ := nkeyT_of h'
  exact nkey_eqv d e a b h1 h2
theorem keyT_of {d : D} (h : keyT d = true) : ∃ k, nkeyT d = some k := Option.isSome_iff_exists.mp h
section
variable {K : KW} {F H : Hp}
theorem repK_plain : ∀ {kvs : List (D × D)} {kv : List (Key × V)}, RepK K F kvs kv → plainD kvs = true
  | [], kv, h => rfl
  | (j, d) :: r, kv, h => by
    simp only [RepK] at h
    obtain ⟨i, v, s, rfl, rfl, _⟩ := h
    cases i <;> rfl
theorem repN_plain : ∀ {kvs : List (D × D)} {l : List (NestedKey × Addr × V)}, RepN K F kvs l → plainT kvs = true ∧ (plainD kvs = true → kvs = [])
  | [], l, h => ⟨rfl, fun _ => rfl⟩
  | (j, d) :: r, l, h => by
    simp only [RepN] at h
    obtain ⟨i, a, v, s, rfl, h1, _⟩ := h
    obtain ⟨ds, rfl, _⟩ := nkeyT_of h1
    exact ⟨rfl, fun z => by cases z⟩
theorem repK_plainT {kvs : List (D × D)} {kv : List (Key × V)} (h : RepK K F kvs kv) (z : plainT kvs = true) : kvs = [] := by
  cases kvs with
  | nil => rfl
  | cons p r =>
    obtain ⟨j, d⟩ := p
    simp only [RepK] at h
    obtain ⟨i, v, s, rfl, rfl, _⟩ := h
    cases i <;> cases z
/-- the place of a key -/
def atN (l : List (NestedKey × Addr × V)) (k : NestedKey) : Option V := (l.find? fun p => decide (p.1 = k)).map fun p => p.2.2
def putN (l : List (NestedKey × Addr × V)) (k : NestedKey) (a : Addr) (v : V) : List (NestedKey × Addr × V) :=
  if (l.any fun p => decide (p.1 = k)) = true then l.map (fun p => if p.1 = k then (p.1, p.2.1, v) else p) else l ++ [(k, a, v)]
theorem RepN.length : ∀ {kvs : List (D × D)} {l : List (NestedKey × Addr × V)}, RepN K F kvs l → l.length = kvs.length
  | [], l, h => by simp only [RepN] at h; subst h; rfl
  | (j, d) :: r, l, h => by
    simp only [RepN] at h
    obtain ⟨i, a, v, s, rfl, _, _, _, h2⟩ := h
    simp [RepN.length h2]
theorem RepN.val : ∀ {kvs : List (D × D)} {l : List (NestedKey × Addr × V)} {q : D} {k : NestedKey}, nkeyT q = some k → RepN K F kvs l → match dGet q kvs with
    | some d => ∃ v, atN l k = some v ∧ Rep K F d v
    | none => atN l k = none
  | [], l, q, k, hq, h => by simp only [RepN] at h; subst h; rfl
  | (j, d) :: r, l, q, k, hq, h => by
    simp only [RepN] at h
    obtain ⟨i, a, v, s, rfl, h0, h1, h2, h3⟩ := h
    have ih := RepN.val hq h3
    unfold dGet
    rw [nkeyT_eqv h0 hq]
    by_cases e : i = k
    · rw [if_pos (decide_eq_true e)]
      exact ⟨v, by simp [atN, e], h2⟩
    · rw [if_neg (by rw [decide_eq_false e]; exact Bool.false_ne_true)]
      have e2 : atN ((i, a, v) :: s) k = atN s k := by simp [atN, e]
      rw [e2]
      exact ih
theorem RepN.any : ∀ {kvs : List (D × D)} {l : List (NestedKey × Addr × V)} {q : D} {k : NestedKey}, nkeyT q = some k → RepN K F kvs l → (kvs.any fun p => PyData.eqv p.1 q) = l.any fun p => decide (p.1 = k)
  | [], l, q, k, hq, h => by simp only [RepN] at h; subst h; rfl
  | (j, d) :: r, l, q, k, hq, h => by
    simp only [RepN] at h
    obtain ⟨i, a, v, s, rfl, h0, h1, h2, h3⟩ := h
    rw [List.any_cons, List.any_cons, RepN.any hq h3, nkeyT_eqv h0 hq]
theorem RepN.map {d : D} {v : V} (hd : Rep K F d v) : ∀ {kvs : List (D × D)} {l : List (NestedKey × Addr × V)} {q : D} {k : NestedKey}, nkeyT q = some k → RepN K F kvs l → RepN K F (kvs.map fun p => if PyData.eqv p.1 q = true then (p.1, d) else p) (l.map fun p => if p.1 = k then (p.1, p.2.1, v) else p)
  | [], l, q, k, hq, h => by simp only [RepN] at h; subst h; simp only [List.map_nil, RepN]
  | (j, e) :: r, l, q, k, hq, h => by
    simp only [RepN] at h
    obtain ⟨i, a, u, s, rfl, h0, h1, h2, h3⟩ := h
    have ih := RepN.map hd hq h3
    rw [List.map_cons, List.map_cons, nkeyT_eqv h0 hq]
    by_cases e : i = k
    · rw [if_pos (decide_eq_true e), if_pos e]
      simp only [RepN]
      exact ⟨i, a, v, _, rfl, h0, h1, hd, ih⟩
    · rw [if_neg (by rw [decide_eq_false e]; exact Bool.false_ne_true), if_neg e]
      simp only [RepN]
      exact ⟨i, a, u, _, rfl, h0, h1, h2, ih⟩
theorem RepN.snoc {d q : D} {v : V} {a : Addr} {k : NestedKey} (hq : nkeyT q = some k) (ha : Rep K F q (.ref a)) (hd : Rep K F d v) : ∀ {kvs : List (D × D)} {l : List (NestedKey × Addr × V)}, RepN K F kvs l → RepN K F (kvs ++ [(q, d)]) (l ++ [(k, a, v)])
  | [], l, h => by
    simp only [RepN] at h; subst h
    show RepN K F [(q, d)] [(k, a, v)]
    simp only [RepN]
    exact ⟨k, a, v, [], rfl, hq, ha, hd, rfl⟩
  | (j, e) :: r, l, h => by
    simp only [RepN] at h
    obtain ⟨i, b, u, s, rfl, h0, h1, h2, h3⟩ := h
    have ih := RepN.snoc hq ha hd h3
    rw [List.cons_append, List.cons_append]
    simp only [RepN]
    exact ⟨i, b, u, _, rfl, h0, h1, h2, ih⟩
theorem RepN.put {d q : D} {v : V} {a : Addr} {k : NestedKey} (hq : nkeyT q = some k) (ha : Rep K F q (.ref a)) (hd : Rep K F d v) {kvs : List (D × D)} {l : List (NestedKey × Addr × V)} (h : RepN K F kvs l) : RepN K F (dPut q d kvs) (putN l k a v) := by
  unfold dPut putN
  rw [h.any hq]
  split
  · exact h.map hd hq
  · exact h.snoc hq ha hd
theorem dPut_ne {q d : D} {kvs : List (D × D)} : dPut q d kvs ≠ [] := by
  unfold dPut
  split
  · rename_i h
    intro e
    rw [List.map_eq_nil_iff] at e
    subst e
    cases h
  · simp
theorem dPut_len {q d : D} {kvs : List (D × D)} : (dPut q d kvs).length ≤ kvs.length + 1 := by
  unfold dPut
  split <;> simp
theorem RepN.get : ∀ {kvs : List (D × D)} {l : List (NestedKey × Addr × V)} {i : Nat} {p : D × D}, RepN K F kvs l → kvs[i]? = some p → ∃ k a v, l[i]? = some (k, a, v) ∧ nkeyT p.1 = some k ∧ Rep K F p.1 (.ref a) ∧ Rep K F p.2 v
  | [], l, i, p, h, e => by simp at e
  | q :: r, l, i, p, h, e => by
    simp only [RepN] at h
    obtain ⟨j, b, u, s, rfl, h0, h1, h2, h3⟩ := h
    cases i with
    | zero =>
      simp at e
      subst e
      exact ⟨j, b, u, rfl, h0, h1, h2⟩
    | succ i =>
      obtain ⟨k, a, v, z⟩ := RepN.get (i := i) h3 (by simpa using e)
      exact ⟨k, a, v, by simpa using z.1, z.2⟩
theorem RepN.all {kvs : List (D × D)} {l : List (NestedKey × Addr × V)} (h : RepN K F kvs l) : ∀ x ∈ l, ∃ d, nkeyT d = some x.1 ∧ Rep K F d (.ref x.2.1) := fun x hx => by
  obtain ⟨i, hi, e⟩ := List.getElem_of_mem hx
  have hl := h.length
  have hp : kvs[i]? = some kvs[i] := List.getElem?_eq_getElem (by omega)
  obtain ⟨k, a, v, z1, z2, z3, _⟩ := h.get hp
  rw [List.getElem?_eq_getElem hi, e] at z1
  cases z1
  exact ⟨_, z2, z3⟩
end
/-! ### in the heap -/
section
variable {X : Cx} {F H : Hp} {σ : Sg} {s : Shared} {pins : List (Addr × PySem.Obj)}
mutual
theorem nkey_is (I : L2.Inv X pins σ H s) (hs : Sub F H) : ∀ (d : D) (v : V) (u : Value) (k : NestedKey), Rep X.kw F d v → RelV v u → nkey d = some k → NestedIs s.heap k u
  | .none, v, u, k, r, ru, h => by
    simp only [nkey, Option.some.injEq] at h
    subst h
    simp only [Rep] at r
    subst r
    obtain rfl : u = Value.none := ru
    exact .none
  | .bool b, v, u, k, r, ru, h => by
    simp only [nkey, Option.some.injEq] at h
    subst h
    simp only [Rep] at r
    subst r
    obtain rfl : u = Value.bool b := ru
    exact .bool rfl
  | .int b, v, u, k, r, ru, h => by
    simp only [nkey, Option.some.injEq] at h
    subst h
    simp only [Rep] at r
    subst r
    obtain ⟨t, rfl⟩ := (show ∃ t, u = Value.int b t from ru)
    exact .int _ _
  | .str b, v, u, k, r, ru, h => by
    simp only [nkey, Option.some.injEq] at h
    subst h
    simp only [Rep] at r
    subst r
    obtain ⟨t, rfl⟩ := (show ∃ t, u = Value.str b t from ru)
    exact .text _ _
  | .tuple ds, v, u, k, r, ru, h => by
    simp only [nkey] at h
    split at h
    · rename_i ks hk
      cases h
      simp only [Rep] at r
      obtain ⟨a, vs, rfl, q, rl⟩ := r
      obtain rfl : u = Value.ref a := ru
      obtain ⟨its, rv, ⟨o, ho, hc, n, hd⟩, hz⟩ := I.tuple (SqT.sub hs q.sq)
      exact .tup ho hc hd (by rw [List.toList_toArray]; exact nkeys_is I hs ds vs its ks rl rv hk)
    · cases h
  | .list ds, v, u, k, r, ru, h => by simp [nkey] at h
  | .dict ds, v, u, k, r, ru, h => by simp [nkey] at h
theorem nkeys_is (I : L2.Inv X pins σ H s) (hs : Sub F H) : ∀ (ds : List D) (vs : List V) (us : List Value) (ks : List NestedKey), RepL X.kw F ds vs → Vals vs us → nkeys ds = some ks → NestedAll s.heap ks us
  | [], vs, us, ks, r, ru, h => by
    simp only [nkeys, Option.some.injEq] at h
    subst h
    simp only [RepL] at r
    subst r
    cases ru
    exact .nil
  | d :: ds, vs, us, ks, r, ru, h => by
    simp only [nkeys] at h
    split at h
    · rename_i k ks' h1 h2
      cases h
      simp only [RepL] at r
      obtain ⟨v, r', rfl, r1, r2⟩ := r
      cases ru with
      | cons q1 q2 => exact .cons (nkey_is I hs d v _ k r1 q1 h1) (nkeys_is I hs ds r' _ ks' r2 q2 h2)
    · cases h
end
theorem key_is (I : L2.Inv X pins σ H s) (hs : Sub F H) {d : D} {a : Addr} {k : NestedKey} (r : Rep X.kw F d (.ref a)) (h : nkeyT d = some k) : (nestedKind X.prog X.w).is s.heap k a := by
  obtain ⟨ds, _, h1, h2⟩ := nkeyT_of h
  exact ⟨nkey_is I hs d (.ref a) (.ref a) k r rfl h1, h2⟩
/-- how it stands -/
abbrev PN (l : List (NestedKey × Addr × V)) (xs : List (NestedKey × Addr × Value)) : Prop := Paired (fun p q => p.1 = q.1 ∧ p.2.1 = q.2.1 ∧ RelV p.2.2 q.2.2) l xs
theorem pn_at : ∀ {l : List (NestedKey × Addr × V)} {xs : List (NestedKey × Addr × Value)} {k : NestedKey}, PN l xs → match atN l k with
    | some v => ∃ p, atKey xs k = some p ∧ RelV v p.2
    | none => atKey xs k = none
  | _, _, k, .nil => rfl
  | _, _, k, .cons (a := (i, a, v)) (b := (j, b, u)) h t => by
    obtain ⟨h1, h2, h3⟩ := h
    simp only at h1 h2 h3
    subst h1; subst h2
    have ih := pn_at (k := k) t
    by_cases e : i = k
    · subst e
      simp only [atN, List.find?_cons, decide_true, Option.map_some]
      exact ⟨(a, u), by simp [atKey], h3⟩
    · have e1 : ∀ r, atN ((i, a, v) :: r) k = atN r k := fun r => by simp [atN, e]
      have e2 : ∀ r, atKey ((i, a, u) :: r) k = atKey r k := fun r => by simp [atKey, e]
      rw [e1, e2]
      exact ih
theorem pn_any : ∀ {l : List (NestedKey × Addr × V)} {xs : List (NestedKey × Addr × Value)} {k : NestedKey}, PN l xs → (l.any fun p => decide (p.1 = k)) = (atKey xs k).isSome
  | _, _, k, .nil => rfl
  | _, _, k, .cons (a := (i, a, v)) (b := (j, b, u)) h t => by
    obtain ⟨h1, h2, h3⟩ := h
    simp only at h1 h2 h3
    subst h1; subst h2
    have ih := pn_any (k := k) t
    by_cases e : i = k
    · simp [atKey, e]
    · have e2 : ∀ r, atKey ((i, a, u) :: r) k = atKey r k := fun r => by simp [atKey, e]
      rw [List.any_cons, e2, ← ih]
      simp [e]
theorem pn_map {k : NestedKey} {v : V} {u : Value} (hv : RelV v u) : ∀ {l : List (NestedKey × Addr × V)} {xs : List (NestedKey × Addr × Value)}, PN l xs → PN (l.map fun p => if p.1 = k then (p.1, p.2.1, v) else p) (xs.map (putAt k u))
  | _, _, .nil => .nil
  | _, _, .cons (a := (i, a, w)) (b := (j, b, z)) h t => by
    obtain ⟨h1, h2, h3⟩ := h
    simp only at h1 h2 h3
    subst h1; subst h2
    refine .cons ?_ (pn_map hv t)
    unfold putAt
    by_cases e : i = k
    · simp only [e, if_true, true_and]
      exact hv
    · simp only [e, if_false, true_and]
      exact h3
theorem pn_snoc {k : NestedKey} {a : Addr} {v : V} {u : Value} (hv : RelV v u) : ∀ {l : List (NestedKey × Addr × V)} {xs : List (NestedKey × Addr × Value)}, PN l xs → PN (l ++ [(k, a, v)]) (xs ++ [(k, a, u)])
  | _, _, .nil => .cons ⟨rfl, rfl, hv⟩ .nil
  | _, _, .cons h t => .cons h (pn_snoc hv t)
theorem pn_put {k : NestedKey} {a : Addr} {v : V} {u : Value} (hv : RelV v u) {l : List (NestedKey × Addr × V)} {xs : List (NestedKey × Addr × Value)} (h : PN l xs) : PN (putN l k a v) (storedH xs k a u) := by
  unfold putN storedH
  rw [pn_any h]
  split
  · exact pn_map hv h
  · exact pn_snoc hv h
theorem pn_mem {l : List (NestedKey × Addr × V)} {xs : List (NestedKey × Addr × Value)} (h : PN l xs) : ∀ y ∈ xs, ∃ x ∈ l, x.1 = y.1 ∧ x.2.1 = y.2.1 := by
  induction h with
  | nil => intro y hy; cases hy
  | cons h t ih =>
    intro y hy
    rcases List.mem_cons.mp hy with rfl | hy
    · exact ⟨_, List.mem_cons_self, h.1, h.2.1⟩
    · obtain ⟨x, hx, z⟩ := ih y hy
      exact ⟨x, List.mem_cons_of_mem _ hx, z⟩
/-- a dict that may have tuples as keys: what is in it, in the heap -/
structure DH (X : Cx) (F : Hp) (s : Shared) (a : Addr) (kvs : List (D × D)) (l : List (NestedKey × Addr × V)) (xs : List (NestedKey × Addr × Value)) : Prop where
  rep : RepN X.kw F kvs l
  pn : PN l xs
  dh : s.heap.DictOfH (nestedKind X.prog X.w) a xs
  len : kvs.length ≤ sizeLine
  sys : (a == sysModules) = false
theorem dh_ext {a : Addr} {kvs : List (D × D)} {l : List (NestedKey × Addr × V)} (I : L2.Inv X pins σ H s) (hs : Sub F H) (hr : Rd H a (DNo X.w a l)) (r : RepN X.kw F kvs l) : ∃ xs, DH X F s a kvs l xs := by
  obtain ⟨⟨z1, z2, xs, pn, o, es, ep, h1, h2, h3, h4, h5⟩, _⟩ := (show ObjOk X.prog X.w H s.heap a (DNo X.w a l) from hr.ok I.hok)
  refine ⟨xs, r, pn, ⟨o, es, ep, h1, h2, h3, h4, fun y hy => ?_, h5⟩, by rw [← r.length]; exact z1, z2⟩
  obtain ⟨x, hx, e1, e2⟩ := pn_mem pn y hy
  obtain ⟨d, q1, q2⟩ := r.all x hx
  rw [← e1, ← e2]
  exact key_is I hs q2 q1
theorem dh_nil {a : Addr} (I : L2.Inv X pins σ H s) (hr : Rd H a (.dK [])) : DH X F s a [] [] [] := by
  obtain ⟨z, z2, vs, rel, o, es, ep, h1, h2, h3, h4, h5, h6⟩ := (show ObjOk X.prog X.w H s.heap a (.dK []) from hr.ok I.hok)
  cases rel
  have he : es.toList = [] := by
    cases hh : es.toList with
    | nil => rfl
    | cons e r => rw [hh] at h5; cases h5
  exact ⟨by simp only [RepN], .nil, ⟨o, es, ep, h1, h2, h3, he, fun y hy => absurd hy (by simp), List.nodup_nil⟩, Nat.zero_le _, z2⟩
theorem dh_any {v : V} {kvs : List (D × D)} (I : L2.Inv X pins σ H s) (hs : Sub F H) (h : RepT X.kw F H (.dict kvs) v) (hp : plainT kvs = true) : ∃ a l xs, v = .ref a ∧ DH X F s a kvs l xs := by
  rcases h with ⟨a, kv, rfl, hr, r⟩ | ⟨a, l, rfl, hr, r, n⟩ | ⟨a, ns, rfl, rfl, hr⟩
  · obtain rfl := repK_plainT r hp
    simp only [RepK] at r
    subst r
    exact ⟨a, [], [], rfl, dh_nil I hr⟩
  · obtain ⟨xs, q⟩ := dh_ext I hs hr r
    exact ⟨a, l, xs, rfl, q⟩
  · cases hp
variable {a b : Addr} {kvs : List (D × D)} {l : List (NestedKey × Addr × V)} {xs : List (NestedKey × Addr × Value)} {q : D} {k : NestedKey}
theorem DH.get (h : DH X F s a kvs l xs) (hq : nkeyT q = some k) : match dGet q kvs with
    | some d => ∃ v p, atKey xs k = some p ∧ RelV v p.2 ∧ Rep X.kw F d v
    | none => atKey xs k = none := by
  have h1 := h.rep.val hq
  have h2 := pn_at (k := k) h.pn
  split at h1
  · obtain ⟨v, e, r⟩ := h1
    rw [e] at h2
    obtain ⟨p, e2, r2⟩ := h2
    exact ⟨v, p, e2, r2, r⟩
  · rw [h1] at h2
    exact h2
theorem DH.isSome (h : DH X F s a kvs l xs) (hq : nkeyT q = some k) : (atKey xs k).isSome = (dGet q kvs).isSome := by
  have g := h.get hq
  split at g
  · rename_i d e
    obtain ⟨v, p, e1, _⟩ := g
    rw [e, e1] <;> rfl
  · rename_i e
    rw [e, g] <;> rfl
theorem dn_in {neg : Bool} {Q : Value → Shared → Prop} {E : Value → Shared → Prop} (hu : X.A.units + 65 < cLine) (I : L2.Inv X pins σ H s) (hs : Sub F H) (h : DH X F s a kvs l xs) (hq : nkeyT q = some k) (rq : Rep X.kw F q (.ref b))
    (hQ : ∀ tk, Q (.bool (if neg then !(dGet q kvs).isSome else (dGet q kvs).isSome)) { s with toks := tk }) : wpAny (model X.prog X.w) X.A (compareOp (if neg then .NotIn else .In) (.ref b) (.ref a)) Q E s := by
  have hroom : (nestedKind X.prog X.w).room X.A.in1 := by show X.A.units + 1 + 8 < cLine; omega
  have e := h.isSome hq
  cases neg with
  | false =>
    refine wpAny_in_heap hroom (key_is I hs rq hq) h.sys h.dh ?_
    rw [e]
    exact hQ _
  | true =>
    show wpAny _ _ (do return .bool (!(← contains (.ref a) (.ref b)))) Q E s
    refine wpAny_bind (wpAny_contains_heap hroom (key_is I hs rq hq) h.sys h.dh (wpAny_pure ?_))
    rw [e]
    exact hQ _
theorem dn_getItem {d : D} {Q : Value → Shared → Prop} {E : Value → Shared → Prop} (hu : X.A.units + 65 < cLine) (I : L2.Inv X pins σ H s) (hs : Sub F H) (h : DH X F s a kvs l xs) (hq : nkeyT q = some k) (rq : Rep X.kw F q (.ref b)) (hg : dGet q kvs = some d)
    (hQ : ∀ v u tk, RelV v u → Rep X.kw F d v → Q u { s with toks := tk }) : wpAny (model X.prog X.w) X.A (getItem (.ref a) (.ref b)) Q E s := by
  have hroom : (nestedKind X.prog X.w).room X.A.in1 := by show X.A.units + 1 + 8 < cLine; omega
  have g := h.get hq
  rw [hg] at g
  obtain ⟨v, p, e1, r1, r2⟩ := g
  exact wpAny_getItem_heap hroom (key_is I hs rq hq) h.dh e1 (hQ v _ _ r1 r2)
theorem dn_get1 {Q : Value → Shared → Prop} {E : Value → Shared → Prop} (hu : X.A.units + 65 < cLine) (I : L2.Inv X pins σ H s) (hs : Sub F H) (h : DH X F s a kvs l xs) (hq : nkeyT q = some k) (rq : Rep X.kw F q (.ref b))
    (hQ : ∀ v u tk, RelV v u → Rep X.kw F ((dGet q kvs).getD .none) v → Q u { s with toks := tk }) : wpAny (model X.prog X.w) X.A (call (.builtin "dict.get") [.ref a, .ref b]) Q E s := by
  have hroom : (nestedKind X.prog X.w).room X.A.in1 := by show X.A.units + 1 + 8 < cLine; omega
  have g := h.get hq
  refine call_meetsIn PySem.F.slot_dict_get h.dh.typeIs PySem.F.entry_dict_get (PySem.F.args_dict_get_2 _ _) (meetsH_dict_get _ a b h.sys) ⟨hroom, k, xs, key_is I hs rq hq, h.dh, ?_⟩
  split at g
  · rename_i d e
    obtain ⟨v, p, e1, r1, r2⟩ := g
    rw [e] at hQ
    rw [e1]
    exact hQ v _ _ r1 r2
  · rename_i e
    rw [e] at hQ
    rw [g]
    exact hQ .non _ _ rfl (by simp only [Option.getD_none, Rep])
theorem dn_get2 {z : D} {vz : V} {uz : Value} {Q : Value → Shared → Prop} {E : Value → Shared → Prop} (hu : X.A.units + 65 < cLine) (I : L2.Inv X pins σ H s) (hs : Sub F H) (h : DH X F s a kvs l xs) (hq : nkeyT q = some k) (rq : Rep X.kw F q (.ref b)) (rz : RelV vz uz) (hz : Rep X.kw F z vz)
    (hQ : ∀ v u tk, RelV v u → Rep X.kw F ((dGet q kvs).getD z) v → Q u { s with toks := tk }) : wpAny (model X.prog X.w) X.A (call (.builtin "dict.get") [.ref a, .ref b, uz]) Q E s := by
  have hroom : (nestedKind X.prog X.w).room X.A.in1 := by show X.A.units + 1 + 8 < cLine; omega
  have g := h.get hq
  refine call_meetsIn PySem.F.slot_dict_get h.dh.typeIs PySem.F.entry_dict_get (PySem.F.args_dict_get_3 _ _ _) (meetsH_dict_get_default _ a b h.sys uz) ⟨hroom, k, xs, key_is I hs rq hq, h.dh, ?_⟩
  split at g
  · rename_i d e
    obtain ⟨v, p, e1, r1, r2⟩ := g
    rw [e] at hQ
    rw [e1]
    exact hQ v _ _ r1 r2
  · rename_i e
    rw [e] at hQ
    rw [g]
    exact hQ vz _ _ rz hz
theorem dn_len {Q : Value → Shared → Prop} {E : Value → Shared → Prop} (h : DH X F s a kvs l xs) (hQ : ∀ t tk, Q (.int kvs.length t) { s with toks := tk } ) : wpAny (model X.prog X.w) X.A (call (.builtin "len") [.ref a]) Q E s := by
  have hxl : xs.length = kvs.length := by rw [← h.pn.length, h.rep.length]
  have hz := h.len
  refine call_len_dictH h.sys h.dh (by rw [hxl]; rw [sizeLine_eq] at hz; omega) ?_
  rw [hxl]
  exact hQ _ _
/-- the dict stands with one more -/
theorem dn_new {h' : Heap} {H' : Hp} {a : Addr} {l : List (NestedKey × Addr × V)} {xs : List (NestedKey × Addr × Value)} (hl : l.length ≤ sizeLine) (hsys : (a == sysModules) = false) (pn : PN l xs) (hd : h'.DictOfH (nestedKind X.prog X.w) a xs) : ObjOk X.prog X.w H' h' a (DNo X.w a l) := by
  obtain ⟨o, es, ep, h1, h2, h3, h4, h5, h6⟩ := hd
  refine ⟨⟨hl, hsys, xs, pn, o, es, ep, h1, h2, h3, h4, h6⟩, ⟨o, h1⟩, fun g1 g2 hg hk => ?_⟩
  obtain ⟨z1, z2, xs', pn', o', es', ep', q1, q2, q3, q4, q5⟩ := hg
  exact ⟨z1, z2, xs', pn', o', es', ep', hk _ q1, q2, q3, q4, q5⟩
theorem putN_len {l : List (NestedKey × Addr × V)} {k : NestedKey} {a : Addr} {v : V} : (putN l k a v).length ≤ l.length + 1 := by
  unfold putN
  split <;> simp
theorem dn_dictSet {d : D} {v : V} {u : Value} {Q : Unit → Shared → Prop} {E : Value → Shared → Prop} {A : Around} (hu : A.units + 64 < cLine) (I : L2.Inv X pins σ H s) (hs : Sub F H) (h : DH X F s a kvs l xs) (mu : Mut (H a)) (hl : kvs.length < sizeLine) (hq : nkeyT q = some k) (rq : Rep X.kw F q (.ref b)) (rv : RelV v u)
    (hQ : ∀ s', L2.Inv X pins σ (upd H a (DNo X.w a (putN l k b v))) s' → Q () s') : wpAny (model X.prog X.w) A (dictSet a (.ref b) u) Q E s := by
  have hroom : (nestedKind X.prog X.w).room A := by show A.units + 8 < cLine; omega
  have hxl : xs.length = kvs.length := by rw [← h.pn.length, h.rep.length]
  refine wpAny_dictSet_heap (hsz := by rw [hxl]; omega) hroom (key_is I hs rq hq) h.dh fun h' hd hsb => hQ _ ?_
  have he : ∃ q, h'.get? a = some q := let ⟨q, _, _, hq, _⟩ := hd; ⟨q, hq⟩
  refine d_write I mu hsb he (dn_new ?_ h.sys (pn_put rv h.pn) hd)
  have := putN_len (l := l) (k := k) (a := b) (v := v)
  have := h.rep.length
  omega
theorem dn_setItem {d : D} {v : V} {u : Value} {Q : Unit → Shared → Prop} {E : Value → Shared → Prop} (hu : X.A.units + 65 < cLine) (I : L2.Inv X pins σ H s) (hs : Sub F H) (h : DH X F s a kvs l xs) (mu : Mut (H a)) (hl : kvs.length < sizeLine) (hq : nkeyT q = some k) (rq : Rep X.kw F q (.ref b)) (rv : RelV v u)
    (hQ : ∀ s', L2.Inv X pins σ (upd H a (DNo X.w a (putN l k b v))) s' → Q () s') : wpAny (model X.prog X.w) X.A (setItem (.ref a) (.ref b) u) Q E s := by
  have hroom : (nestedKind X.prog X.w).room X.A.in1 := by show X.A.units + 1 + 8 < cLine; omega
  have hxl : xs.length = kvs.length := by rw [← h.pn.length, h.rep.length]
  refine wpAny_setItem_heap (hsz := by rw [hxl]; omega) hroom (key_is I hs rq hq) h.dh fun h' hd hsb => hQ _ ?_
  have he : ∃ q, h'.get? a = some q := let ⟨q, _, _, hq, _⟩ := hd; ⟨q, hq⟩
  refine d_write I mu hsb he (dn_new ?_ h.sys (pn_put rv h.pn) hd)
  have := putN_len (l := l) (k := k) (a := b) (v := v)
  have := h.rep.length
  omega
end
end PV

set_option Elab.async false
set_option linter.all false
set_option maxRecDepth 100000
set_option maxHeartbeats 1000000
/-! PV: the operations by values. -/
namespace PV
open PySem L2 PyProof.Rows

/-- what an operation leaves -/
structure OpPost (F H F' H' : Hp) : Prop where
  ff : Sub F F'
  sub : Sub F' H'
  hh : Sub H H'
  new : ∀ a o, F' a = some o → F a = Option.none → H a = Option.none
def OpRes (K : KW) (H F' H' : Hp) (d : D) (w : Bool) (v : V) : Prop :=
  if w = true then ∃ a, v = .ref a ∧ Obj K F' H' a d ∧ F' a = Option.none ∧ H a = Option.none else Rep K F' d v
def opQ (K : KW) (F H : Hp) (d : D) (w : Bool) (Q : VK) : Prop := ∀ F' H' v, OpPost F H F' H' → OpRes K H F' H' d w v → Q v H'

section
variable {K : KW} {F H : Hp} {Q : VK} {d : D} {v : V}
theorem OpPost.refl (s : Sub F H) : OpPost F H F H := ⟨Sub.refl _, s, Sub.refl _, fun a o h n => by rw [h] at n; cases n⟩
theorem OpPost.laid {p : Addr} {o : HO} (s : Sub F H) (hp : H p = Option.none) : OpPost F H F (upd H p o) := ⟨Sub.refl _, s.trans (Sub.upd hp), Sub.upd hp, fun a o h n => by rw [h] at n; cases n⟩
theorem free_of (s : Sub F H) {p : Addr} (hp : H p = Option.none) : F p = Option.none := by
  cases q : F p with
  | none => rfl
  | some o => rw [s p o q] at hp; cases hp
theorem OpPost.laidF {p : Addr} {o : HO} (s : Sub F H) (hp : H p = Option.none) : OpPost F H (upd F p o) (upd H p o) := by
  refine ⟨Sub.upd (free_of s hp), fun a u e => ?_, Sub.upd hp, fun a u e n => ?_⟩
  · by_cases h : a = p
    · subst h; rw [upd_same] at e ⊢; exact e
    · rw [upd_ne h] at e ⊢; exact s a u e
  · by_cases h : a = p
    · subst h; exact hp
    · rw [upd_ne h, n] at e; cases e
theorem opQ.val (q : opQ K F H d false Q) (s : Sub F H) (r : Rep K F d v) : Q v H := q F H v (OpPost.refl s) (by unfold OpRes; rw [if_neg Bool.false_ne_true]; exact r)
theorem opQ.newT {ds : List D} {vs : List V} {p : Addr} {o : PySem.Obj} (q : opQ K F H (.tuple ds) false Q) (s : Sub F H) (r : RepL K F ds vs) (hp : H p = Option.none) (hd : o.dict = Option.none) : Q (.ref p) (upd H p (.frz o (.tup vs))) := by
  refine q (upd F p (.frz o (.tup vs))) _ _ (OpPost.laidF s hp) ?_
  unfold OpRes
  rw [if_neg Bool.false_ne_true]
  simp only [Rep]
  exact ⟨p, vs, rfl, .inl ⟨o, upd_same, hd⟩, RepL.sub (Sub.upd (free_of s hp)) _ _ r⟩
theorem opQ.newL {ds : List D} {vs : List V} {p : Addr} (q : opQ K F H (.list ds) true Q) (s : Sub F H) (r : RepL K F ds vs) (hp : H p = Option.none) : Q (.ref p) (upd H p (.lst vs)) := by
  refine q F _ _ (OpPost.laid s hp) ?_
  unfold OpRes
  rw [if_pos rfl]
  exact ⟨p, rfl, ⟨vs, upd_same, r⟩, free_of s hp, hp⟩
theorem opQ.newD {kvs : List (D × D)} {kv : List (Key × V)} {p : Addr} (q : opQ K F H (.dict kvs) true Q) (s : Sub F H) (r : RepK K F kvs kv) (hp : H p = Option.none) : Q (.ref p) (upd H p (.dK kv)) := by
  refine q F _ _ (OpPost.laid s hp) ?_
  unfold OpRes
  rw [if_pos rfl]
  exact ⟨p, rfl, .inl ⟨kv, upd_same, r⟩, free_of s hp, hp⟩
theorem opQ.newN {kvs : List (D × D)} {l : List (NestedKey × Addr × V)} {p : Addr} (q : opQ K F H (.dict kvs) true Q) (s : Sub F H) (r : RepN K F kvs l) (n : kvs ≠ []) (hp : H p = Option.none) : Q (.ref p) (upd H p (DNo K.w p l)) := by
  refine q F _ _ (OpPost.laid s hp) ?_
  unfold OpRes
  rw [if_pos rfl]
  exact ⟨p, rfl, .inr ⟨l, upd_same, r, n⟩, free_of s hp, hp⟩
theorem rep_bl {b : Bool} : Rep K F (.bool b) (.bl b) := by simp only [Rep]
theorem rep_int {i : Int} : Rep K F (.int i) (.int i) := by simp only [Rep]
theorem rep_str {x : Str} : Rep K F (.str x) (.str x) := by simp only [Rep]
theorem rep_none : Rep K F .none .non := by simp only [Rep]
theorem repT_int {i : Int} (h : RepT K F H (.int i) v) : v = .int i := by simpa only [RepT, Rep] using h
theorem repT_str {i : Str} (h : RepT K F H (.str i) v) : v = .str i := by simpa only [RepT, Rep] using h
theorem repT_bl {i : Bool} (h : RepT K F H (.bool i) v) : v = .bl i := by simpa only [RepT, Rep] using h
theorem repT_none (h : RepT K F H .none v) : v = .non := by simpa only [RepT, Rep] using h
theorem LIM_eq : LIM = sizeLine := by rw [sizeLine_eq]; rfl
end

def binOp : BOp → Operator
  | .add => .Add
  | .sub => .Sub
  | .mul => .Mult
  | .fdiv => .FloorDiv
  | .mod => .Mod
  | .pow => .Pow
def rBin (K : KW) (o : BOp) : R2 := fun x y H Q => ∃ F d e r w, opBin o d e = some (r, w) ∧ Sub F H ∧ RepT K F H d x ∧ RepT K F H e y ∧ opQ K F H r w Q

section
variable {X : Cx}
theorem mulOk_of {i j : Int} (h : mulOk i j = true) : CMul i j := by
  unfold mulOk at h
  simp only [Bool.or_eq_true, Bool.and_eq_true, decide_eq_true_eq] at h
  exact h
theorem RepL.nil_of {F : Hp} {ds : List D} {vs : List V} {K : KW} (h : RepL K F ds vs) (z : vs = []) : ds = [] := by
  have e := h.length
  rw [z] at e
  exact List.length_eq_zero_iff.mp e.symm
theorem repT_tup {K : KW} {F H : Hp} {ds : List D} {v : V} (h : RepT K F H (.tuple ds) v) : ∃ a vs, v = .ref a ∧ SqU K F a vs ∧ RepL K F ds vs := by
  simpa only [RepT, Rep] using h
theorem repT_lst {K : KW} {F H : Hp} {ds : List D} {v : V} (h : RepT K F H (.list ds) v) : ∃ a vs, v = .ref a ∧ Rd H a (.lst vs) ∧ RepL K F ds vs := by
  simpa only [RepT, Rep] using h
theorem repT_dic {K : KW} {F H : Hp} {kvs : List (D × D)} {y : V} (h : RepT K F H (.dict kvs) y) : (∃ a kv, y = .ref a ∧ Rd H a (.dK kv) ∧ RepK K F kvs kv) ∨ (∃ a l, y = .ref a ∧ Rd H a (DNo K.w a l) ∧ RepN K F kvs l ∧ kvs ≠ []) ∨ ScrR K H kvs y := h
/-- .. whose keys are ints and texts -/
theorem repT_dicK {K : KW} {F H : Hp} {kvs : List (D × D)} {y : V} (h : RepT K F H (.dict kvs) y) (hp : plainD kvs = true) : ∃ a kv, y = .ref a ∧ Rd H a (.dK kv) ∧ RepK K F kvs kv := by
  rcases repT_dic h with z | ⟨a, l, _, _, r, n⟩ | ⟨a, ns, rfl, _, _⟩
  · exact z
  · exact absurd ((repN_plain r).2 hp) n
  · cases hp
/-- a dict in the heap, or the script -/
theorem repT_dicR {K : KW} {F H : Hp} {kvs : List (D × D)} {y : V} (h : RepT K F H (.dict kvs) y) : ∃ a, y = .ref a := by
  rcases repT_dic h with ⟨a, _, z, _⟩ | ⟨a, _, z, _⟩ | ⟨a, _, _, z, _⟩ <;> exact ⟨a, z⟩
theorem dOk_of {k : D} {kvs : List (D × D)} (h : dOk k kvs = true) : (keyOk k = true ∧ plainD kvs = true) ∨ (∃ j, nkeyT k = some j) ∧ plainT kvs = true := by
  unfold dOk at h
  simp only [Bool.or_eq_true, Bool.and_eq_true] at h
  rcases h with h | h
  · exact .inl h
  · exact .inr ⟨keyT_of h.1, h.2⟩
theorem key_ref {K : KW} {F H : Hp} {k : D} {j : NestedKey} {v : V} (hj : nkeyT k = some j) (h : RepT K F H k v) : ∃ b, v = .ref b ∧ Rep K F k (.ref b) := by
  obtain ⟨ds, rfl, _⟩ := nkeyT_of hj
  have h2 : Rep K F (.tuple ds) v := h
  have h3 := h2
  simp only [Rep] at h3
  obtain ⟨a, vs, rfl, _⟩ := h3
  exact ⟨a, rfl, h2⟩
theorem rep_tup {K : KW} {F : Hp} {ds : List D} {vs : List V} {a : Addr} (h : SqU K F a vs) (r : RepL K F ds vs) : Rep K F (.tuple ds) (.ref a) := by
  simp only [Rep]
  exact ⟨a, vs, rfl, h, r⟩
theorem lst_rd {pins : List (Addr × PySem.Obj)} {s : Shared} {σ : L2.St} {H : Hp} {l : Addr} {xs : List V} (I : L2.Inv X pins σ H s) (h : Rd H l (.lst xs)) :
    ∃ (its : List Value) (n : Nat), Vals xs its ∧ xs.length = its.length ∧ xs.length ≤ sizeLine ∧ s.heap.get? l = some { cls := .type "list", data := .seq its.toArray n } := by
  obtain ⟨z, its, n, r, e⟩ := (show ObjOk X.prog X.w H s.heap l (.lst xs) from h.ok I.hok)
  exact ⟨its, n, r, r.length, z, e⟩
theorem op_catR : OpR X (binaryOp .Add) (fun x y H Q => ∃ l b xs zs, x = .ref l ∧ y = .ref b ∧ Rd H l (.lst xs) ∧ Rd H b (.lst zs) ∧ xs.length + zs.length ≤ sizeLine ∧ ∀ p, H p = Option.none → Q (.ref p) (upd H p (.lst (xs ++ zs)))) := by
  intro pins s σ H x y v u Q I rx ry h
  obtain ⟨l, b, xs, zs, rfl, rfl, h1, h2, hz, q⟩ := h
  cases rx; cases ry
  obtain ⟨is, n, r, hl, _, e⟩ := lst_rd I h1
  obtain ⟨js, m, r', hl', _, e'⟩ := lst_rd I h2
  refine PySem.P.add_list e e' ?_ (by simp only [List.size_toArray]; omega)
  rw [show is.toArray ++ js.toArray = (is ++ js).toArray by simp]
  exact ⟨.ref _, _, I.lnew (t' := s.toks) (Vals.append r r') (by rw [List.length_append]; omega), rfl, q _ I.fresh⟩
theorem op_repR : OpR X (binaryOp .Mult) (fun x y H Q => ∃ l k xs, x = .ref l ∧ y = .int k ∧ Rd H l (.lst xs) ∧ -(2 ^ 63) ≤ k ∧ k < 2 ^ 63 ∧ xs.length * k.toNat ≤ sizeLine ∧ ∀ p, H p = Option.none → Q (.ref p) (upd H p (.lst (List.replicate k.toNat xs).flatten))) := by
  intro pins s σ H x y v u Q I rx ry h
  obtain ⟨l, k, xs, rfl, rfl, hR, b1, b2, hz, q⟩ := h
  cases rx
  obtain ⟨t, rfl⟩ := ry
  obtain ⟨is, n, r, hl, _, e⟩ := lst_rd I hR
  have hsz : is.toArray.size * k.toNat ≤ sizeLine := by rw [List.size_toArray, ← hl]; exact hz
  have c1 : ¬ is.toArray.size * k.toNat > (2 ^ 63 - 1) / 8 := by have : (sizeLine : Nat) ≤ (2 ^ 63 - 1) / 8 := by decide
                                                                 omega
  have c2 : ¬ (!Builtin.List.listFitsIndex k) = true := by rw [fitsIndex_both b1 b2]; simp
  have c3 : ¬ Builtin.List.listTooLong (is.toArray.size * k.toNat) = true := by rw [notLongL hsz]; simp
  have new : List.foldl (fun x1 x2 => x1 ++ x2) #[] (List.replicate (if is.toArray.isEmpty = true then 0 else k.toNat) is.toArray) = (List.replicate k.toNat is).flatten.toArray := by
    have f : ∀ m : Nat, List.foldl (fun x1 x2 => x1 ++ x2) #[] (List.replicate m is.toArray) = (List.replicate m is).flatten.toArray := fun m => by
      have z := foldl_rep is m []
      rwa [List.nil_append] at z
    rw [f]
    cases is with
    | nil => simp
    | cons a r' => simp
  refine wpAny_binaryOp_repeat_ref (T := "list") (U := "int") (by decide) ⟨_, e, rfl⟩ (fun s' => typeIs_int s' k t) noFill_list_mul PySem.F.fills_int_mul PySem.F.slot_int_rmul repeat_list PySem.F.slot_int_index.lookup ?_
  refine call_meets PySem.F.slot_int_rmul (typeIs_int s k t) PySem.F.entry_int_rmul (PySem.F.args_int_rmul_2 _ _) (int___rmul___int_list k t l is.toArray n) ⟨e, rfl, ⟨_, e, rfl⟩, ?_⟩
  refine call_meets PySem.F.slot_list_mul ⟨_, e, rfl⟩ PySem.F.entry_list_mul (PySem.F.args_list_mul_2 _ _) (AutoListH.list___mul___list_int_3 l is.toArray n k t c2 c1 c3) ⟨e, ?_⟩
  rw [new]
  exact ⟨.ref _, _, I.lnew (t' := s.toks) (r.rep k.toNat) (by rw [PyProof.Rows.lm_len_rep_flat, Nat.mul_comm]; exact hz), rfl, q _ I.fresh⟩
theorem bin_ok {o : BOp} : OpR X (binaryOp (binOp o)) (rBin X.kw o) := by
  intro pins s σ H x y v u Q I rx ry h
  obtain ⟨F, d, e, r, w, h0, hs, hd, he, q⟩ := h
  unfold opBin at h0
  split at h0
  · cases h0
    obtain rfl := repT_int hd; obtain rfl := repT_int he
    exact op_add pins s σ H _ _ v u Q I rx ry ⟨_, _, rfl, rfl, q.val hs rep_int⟩
  · split at h0
    · cases h0
      obtain rfl := repT_str hd; obtain rfl := repT_str he
      exact op_add_str pins s σ H _ _ v u Q I rx ry ⟨_, _, rfl, rfl, by rw [← LIM_eq]; assumption, q.val hs rep_str⟩
    · cases h0
  · rename_i xs ys
    split at h0
    · cases h0
      obtain ⟨a, vs, rfl, q1, r1⟩ := repT_tup hd
      obtain ⟨b, ws, rfl, q2, r2⟩ := repT_tup he
      have e1 := r1.length
      have e2 := r2.length
      refine op_catU pins s σ H _ _ v u Q I rx ry ⟨a, b, vs, ws, rfl, rfl, SqT.sub hs q1.sq, SqT.sub hs q2.sq, by rw [e1, e2, ← LIM_eq]; assumption, fun z => ?_, fun _ z => ?_, fun _ _ p o hp ho => ?_⟩
      · obtain rfl := r1.nil_of z
        exact q.val hs (rep_tup q2 r2)
      · obtain rfl := r2.nil_of z
        rw [List.append_nil] at q
        exact q.val hs (rep_tup q1 r1)
      · exact q.newT hs (r1.append r2) hp ho
    · cases h0
  · rename_i xs ys
    split at h0
    · cases h0
      obtain ⟨a, vs, rfl, q1, r1⟩ := repT_lst hd
      obtain ⟨b, ws, rfl, q2, r2⟩ := repT_lst he
      have e1 := r1.length
      have e2 := r2.length
      exact op_catR pins s σ H _ _ v u Q I rx ry ⟨a, b, vs, ws, rfl, rfl, q1, q2, by rw [e1, e2, ← LIM_eq]; assumption, fun p hp => q.newL hs (r1.append r2) hp⟩
    · cases h0
  · cases h0
    obtain rfl := repT_int hd; obtain rfl := repT_int he
    exact op_sub pins s σ H _ _ v u Q I rx ry ⟨_, _, rfl, rfl, q.val hs rep_int⟩
  · split at h0
    · cases h0
      obtain rfl := repT_int hd; obtain rfl := repT_int he
      exact op_mul pins s σ H _ _ v u Q I rx ry ⟨_, _, rfl, rfl, mulOk_of (by assumption), q.val hs rep_int⟩
    · cases h0
  · rename_i xs j
    split at h0
    · rename_i hc
      simp only [Bool.and_eq_true, decide_eq_true_eq] at hc
      cases h0
      obtain ⟨a, vs, rfl, q1, r1⟩ := repT_tup hd
      obtain rfl := repT_int he
      have e1 := r1.length
      refine op_repT1 pins s σ H _ _ v u Q I rx ry ⟨a, j, vs, rfl, rfl, SqT.sub hs q1.sq, hc.1.1.1, by rw [e1]; exact hc.1.1.2, by rw [e1]; exact hc.1.2, hc.2, fun z => ?_, fun _ p o hp ho => q.newT hs (r1.rep _) hp ho⟩
      rcases z with z | z
      · obtain rfl := r1.nil_of z
        have e0 : (List.replicate j.toNat ([] : List D)).flatten = [] := by simp
        rw [e0] at q
        exact q.val hs (rep_tup q1 r1)
      · subst z
        have e0 : (List.replicate (1 : Int).toNat xs).flatten = xs := by simp
        rw [e0] at q
        exact q.val hs (rep_tup q1 r1)
    · cases h0
  · rename_i xs j
    split at h0
    · rename_i hc
      simp only [Bool.and_eq_true, decide_eq_true_eq] at hc
      cases h0
      obtain ⟨a, vs, rfl, q1, r1⟩ := repT_lst hd
      obtain rfl := repT_int he
      have e1 := r1.length
      have e63 := small63 hc.1
      exact op_repR pins s σ H _ _ v u Q I rx ry ⟨a, j, vs, rfl, rfl, q1, e63.1, e63.2, by rw [e1, ← LIM_eq]; exact hc.2, fun p hp => q.newL hs (r1.rep _) hp⟩
    · cases h0
  · split at h0
    · rename_i hc
      cases h0
      obtain rfl := repT_int hd; obtain rfl := repT_int he
      exact op_fdivN pins s σ H _ _ v u Q I rx ry ⟨_, _, rfl, rfl, hc, q.val hs rep_int⟩
    · cases h0
  · split at h0
    · rename_i hc
      cases h0
      obtain rfl := repT_int hd; obtain rfl := repT_int he
      exact op_modN pins s σ H _ _ v u Q I rx ry ⟨_, _, rfl, rfl, hc, q.val hs rep_int⟩
    · cases h0
  · split at h0
    · rename_i hc
      cases h0
      obtain rfl := repT_int hd; obtain rfl := repT_int he
      exact op_pow pins s σ H _ _ v u Q I rx ry ⟨_, _, rfl, rfl, hc, q.val hs rep_int⟩
    · cases h0
  · cases h0
end

/-! ### data, for == and in -/
section
variable {K : KW} {F H : Hp}
mutual
theorem Rep.dp (s : Sub F H) : ∀ (d : D) (v : V), d.plain = true → Rep K F d v → Dp K H v d
  | .none, v, _, h => by simp only [Rep] at h; subst h; exact .non
  | .bool b, v, _, h => by simp only [Rep] at h; subst h; exact .bl b
  | .int i, v, _, h => by simp only [Rep] at h; subst h; exact .int i
  | .str x, v, _, h => by simp only [Rep] at h; subst h; exact .str x
  | .list ds, v, hc, h => by
    simp only [Rep] at h
    obtain ⟨a, vs, o, rfl, q, r⟩ := h
    exact .lst (.inl (.inr ⟨o, s _ _ q⟩)) (RepL.dp s ds vs (by simpa [PyData.plain] using hc) r)
  | .tuple ds, v, hc, h => by
    simp only [Rep] at h
    obtain ⟨a, vs, rfl, q, r⟩ := h
    exact .tup (SqT.sub s q.sq) (RepL.dp s ds vs (by simpa [PyData.plain] using hc) r)
  | .dict kvs, v, hc, h => by simp [PyData.plain] at hc
theorem RepL.dp (s : Sub F H) : ∀ (ds : List D) (vs : List V), PyData.plainAll ds = true → RepL K F ds vs → DpAll K H vs ds
  | [], vs, _, h => by simp only [RepL] at h; subst h; exact .nil
  | d :: ds, vs, hc, h => by
    simp only [RepL] at h
    obtain ⟨v, r, rfl, h1, h2⟩ := h
    simp only [PyData.plainAll, Bool.and_eq_true] at hc
    exact .cons (Rep.dp s d v hc.1 h1) (RepL.dp s ds r hc.2 h2)
end
theorem okD_of {d : D} (h : okD d = true) : d.plain = true ∧ PyData.depth d ≤ 64 := by
  unfold okD at h
  simpa only [Bool.and_eq_true, decide_eq_true_eq] using h
theorem RepT.dp (s : Sub F H) {d : D} {v : V} (hc : okD d = true) (h : RepT K F H d v) : Dp K H v d := by
  have hc' := (okD_of hc).1
  cases d with
  | list ds =>
    obtain ⟨a, vs, rfl, q, r⟩ := repT_lst h
    exact .lst (.inl q) (RepL.dp s ds vs (by simpa [PyData.plain] using hc') r)
  | dict kvs => simp [PyData.plain] at hc'
  | none => exact Rep.dp s _ _ hc' h
  | bool b => exact Rep.dp s _ _ hc' h
  | int b => exact Rep.dp s _ _ hc' h
  | str b => exact Rep.dp s _ _ hc' h
  | tuple b => exact Rep.dp s _ _ hc' h
end

/-! ### comparisons -/
def cmpOp : COp → CmpOp
  | .eq => .Eq
  | .ne => .NotEq
  | .lt => .Lt
  | .le => .LtE
  | .gt => .Gt
  | .ge => .GtE
  | .isIn => .In
  | .notIn => .NotIn
  | .isN => .Is
  | .notN => .IsNot
def rCmp (K : KW) (o : COp) : R2 := fun x y H Q => ∃ F d e b, opCmp o d e = some b ∧ Sub F H ∧ RepT K F H d x ∧ RepT K F H e y ∧ Q (.bl b) H

/-! dicts -/
def dkey : D → Option Key
  | .int i => some (.inl i)
  | .str x => some (.inr x)
  | _ => none
theorem keyOk_of {k : D} (h : keyOk k = true) : ∃ j, k = keyD j := by
  cases k <;> simp [keyOk] at h
  · exact ⟨.inl _, rfl⟩
  · exact ⟨.inr _, rfl⟩
theorem eqv_key (j k : Key) : PyData.eqv (keyD j) (keyD k) = decide (j = k) := by
  cases j <;> cases k <;> simp [keyD, PyData.eqv]
  · rename_i a b
    rw [Bool.beq_eq_decide_eq]
  · rename_i a b
    rw [Bool.beq_eq_decide_eq]
section
variable {K : KW} {F H : Hp}
theorem RepK.val : ∀ {kvs : List (D × D)} {kv : List (Key × V)} (k : Key), RepK K F kvs kv → match dGet (keyD k) kvs with
    | some d => ∃ v, valV kv k = some v ∧ Rep K F d v
    | none => valV kv k = none
  | [], kv, k, h => by simp only [RepK] at h; subst h; rfl
  | (j, d) :: r, kv, k, h => by
    simp only [RepK] at h
    obtain ⟨i, v, s, rfl, rfl, h1, h2⟩ := h
    have ih := RepK.val k h2
    unfold dGet
    rw [eqv_key]
    by_cases e : i = k
    · rw [if_pos (decide_eq_true e)]
      exact ⟨v, by rw [valV_pos e], h1⟩
    · rw [if_neg (by rw [decide_eq_false e]; exact Bool.false_ne_true)]
      rw [valV_neg e]
      exact ih
theorem RepK.length : ∀ {kvs : List (D × D)} {kv : List (Key × V)}, RepK K F kvs kv → kv.length = kvs.length
  | [], kv, h => by simp only [RepK] at h; subst h; rfl
  | (j, d) :: r, kv, h => by
    simp only [RepK] at h
    obtain ⟨i, v, s, rfl, rfl, h1, h2⟩ := h
    simp [RepK.length h2]
theorem RepK.any : ∀ {kvs : List (D × D)} {kv : List (Key × V)} (k : Key), RepK K F kvs kv → (kvs.any fun p => PyData.eqv p.1 (keyD k)) = kv.any fun p => decide (p.1 = k)
  | [], kv, k, h => by simp only [RepK] at h; subst h; rfl
  | (j, d) :: r, kv, k, h => by
    simp only [RepK] at h
    obtain ⟨i, v, s, rfl, rfl, h1, h2⟩ := h
    rw [List.any_cons, List.any_cons, RepK.any k h2, eqv_key]
theorem RepK.map {d : D} {v : V} (hd : Rep K F d v) : ∀ {kvs : List (D × D)} {kv : List (Key × V)} (k : Key), RepK K F kvs kv → RepK K F (kvs.map fun p => if PyData.eqv p.1 (keyD k) = true then (p.1, d) else p) (kv.map fun p => if p.1 = k then (p.1, v) else p)
  | [], kv, k, h => by simp only [RepK] at h; subst h; simp only [List.map_nil, RepK]
  | (j, e) :: r, kv, k, h => by
    simp only [RepK] at h
    obtain ⟨i, u, s, rfl, rfl, h1, h2⟩ := h
    have ih := RepK.map hd k h2
    rw [List.map_cons, List.map_cons, eqv_key]
    by_cases e : i = k
    · rw [if_pos (decide_eq_true e), if_pos e]
      simp only [RepK]
      exact ⟨i, v, _, rfl, rfl, hd, ih⟩
    · rw [if_neg (by rw [decide_eq_false e]; exact Bool.false_ne_true), if_neg e]
      simp only [RepK]
      exact ⟨i, u, _, rfl, rfl, h1, ih⟩
theorem RepK.snoc {d : D} {v : V} (hd : Rep K F d v) : ∀ {kvs : List (D × D)} {kv : List (Key × V)} (k : Key), RepK K F kvs kv → RepK K F (kvs ++ [(keyD k, d)]) (kv ++ [(k, v)])
  | [], kv, k, h => by
    simp only [RepK] at h; subst h
    show RepK K F [(keyD k, d)] [(k, v)]
    simp only [RepK]
    exact ⟨k, v, [], rfl, rfl, hd, rfl⟩
  | (j, e) :: r, kv, k, h => by
    simp only [RepK] at h
    obtain ⟨i, u, s, rfl, rfl, h1, h2⟩ := h
    have ih := RepK.snoc hd k h2
    rw [List.cons_append, List.cons_append]
    simp only [RepK]
    exact ⟨i, u, _, rfl, rfl, h1, ih⟩
theorem RepK.put {d : D} {v : V} (hd : Rep K F d v) {kvs : List (D × D)} {kv : List (Key × V)} (k : Key) (h : RepK K F kvs kv) : RepK K F (dPut (keyD k) d kvs) (putK kv k v) := by
  unfold dPut putK
  rw [h.any k]
  split
  · exact h.map hd k
  · exact h.snoc hd k
theorem repK_scr {kvs : List (D × D)} {kv : List (Key × V)} (h : RepK K F kvs kv) : ∀ ns, kvs ≠ scrD ns := by
  intro ns e
  subst e
  simp only [scrD, RepK] at h
  obtain ⟨j, v, s, e1, e2, _⟩ := h
  cases j <;> simp [keyD] at e2
end

section
variable {X : Cx}
theorem isN_ok {K : KW} {F H : Hp} {d : D} {x : V} (h : RepT K F H d x) : decide (x = .non) = isNone d := by
  cases d with
  | none => obtain rfl := repT_none h; rfl
  | bool b => obtain rfl := repT_bl h; rfl
  | int b => obtain rfl := repT_int h; rfl
  | str b => obtain rfl := repT_str h; rfl
  | list b => obtain ⟨a, vs, rfl, _⟩ := repT_lst h; rfl
  | tuple b => obtain ⟨a, vs, rfl, _⟩ := repT_tup h; rfl
  | dict b => obtain ⟨a, rfl⟩ := repT_dicR h; rfl
theorem cmp_ok {o : COp} (hu : X.A.units + 65 < cLine) : OpR X (compareOp (cmpOp o)) (rCmp X.kw o) := by
  intro pins s σ H x y v u Q I rx ry h
  obtain ⟨F, d, e, b, hC, hs, hd, he, q0⟩ := h
  have hu64 : X.A.units + 64 < cLine := by omega
  have hu1 : X.A.units + 1 < cLine := by omega
  have hu0 : X.A.units < cLine := by omega
  -- in
  have hin : ∀ (neg : Bool) (b : Bool), opIn d e = some b → Q (.bl (if neg then !b else b)) H → wpAny (model X.prog X.w) X.A (compareOp (if neg then .NotIn else .In) v u) (EP X pins σ Q) X.xe s := by
    intro neg b h0 q
    unfold opIn at h0
    split at h0
    · split at h0
      · cases h0
        obtain rfl := repT_str hd; obtain rfl := repT_str he
        cases neg
        · exact op_in_str pins s σ H _ _ v u Q I rx ry ⟨_, _, rfl, rfl, q⟩
        · exact L2.op_notin_str pins s σ H _ _ v u Q I rx ry ⟨_, _, rfl, rfl, q⟩
      · cases h0
    · split at h0
      · rename_i hc
        simp only [Bool.and_eq_true] at hc
        cases h0
        obtain ⟨p1, p2⟩ := okD_of hc.1
        obtain ⟨p3, p4⟩ := okD_of hc.2
        obtain ⟨as, r1⟩ := Dp.reads I _ _ _ (RepT.dp hs hc.1 hd) rx
        obtain ⟨bs, r2⟩ := Dp.reads I _ _ _ (RepT.dp hs hc.2 he) ry
        have hdp : ∀ n : Nat, X.A.units + 1 + min n (PyData.depth d) < cLine := fun n => Nat.lt_of_le_of_lt (Nat.add_le_add_left (Nat.min_le_right _ _) _) (by omega)
        cases neg
        · exact SeqAt.in_list_data r2 r1 (by simpa [PyData.plain] using p3) p1 (hdp _) ⟨.bl _, H, I, rfl, q⟩
        · exact SeqAt.notIn_list_data r2 r1 (by simpa [PyData.plain] using p3) p1 (hdp _) ⟨.bl _, H, I, rfl, q⟩
      · cases h0
    · split at h0
      · rename_i hc
        simp only [Bool.and_eq_true] at hc
        cases h0
        obtain ⟨p1, p2⟩ := okD_of hc.1
        obtain ⟨p3, p4⟩ := okD_of hc.2
        obtain ⟨as, r1⟩ := Dp.reads I _ _ _ (RepT.dp hs hc.1 hd) rx
        obtain ⟨bs, r2⟩ := Dp.reads I _ _ _ (RepT.dp hs hc.2 he) ry
        have hdp : ∀ n : Nat, X.A.units + 1 + min n (PyData.depth d) < cLine := fun n => Nat.lt_of_le_of_lt (Nat.add_le_add_left (Nat.min_le_right _ _) _) (by omega)
        cases neg
        · exact SeqAt.in_tuple_data r2 r1 (by simpa [PyData.plain] using p3) p1 (hdp _) ⟨.bl _, H, I, rfl, q⟩
        · exact SeqAt.notIn_tuple_data r2 r1 (by simpa [PyData.plain] using p3) p1 (hdp _) ⟨.bl _, H, I, rfl, q⟩
      · cases h0
    · rename_i kvs
      split at h0
      · rename_i hk
        cases h0
        rcases dOk_of hk with hk | ⟨⟨k, hk⟩, hp⟩
        · obtain ⟨k, rfl⟩ := keyOk_of hk.1
          obtain ⟨a, kv, rfl, hH, hr⟩ := repT_dicK he hk.2
          have hx : x = kV k := by cases k <;> first | exact repT_int hd | exact repT_str hd
          subst hx
          cases ry
          have g : DGet H a (kV k) (valV kv k) := .inl ⟨kv, k, hH, rfl, rfl⟩
          have e0 : (valV kv k).isSome = (dGet (keyD k) kvs).isSome := by
            have := hr.val k
            split at this
            · rename_i d' e'
              obtain ⟨v', e1, _⟩ := this
              rw [e1, e']; rfl
            · rename_i e'
              rw [this, e']; rfl
          cases neg
          · exact d_in hu1 I g rx fun s' I' => ⟨.bl _, H, I', rfl, by rw [e0]; exact q⟩
          · exact d_notIn hu1 I g rx fun s' I' => ⟨.bl _, H, I', rfl, by rw [e0]; exact q⟩
        · obtain ⟨b, rfl, rq⟩ := key_ref hk hd
          obtain ⟨a, l, xs, rfl, dh⟩ := dh_any I hs he hp
          cases rx
          cases ry
          refine dn_in (neg := neg) hu I hs dh hk rq fun tk => ⟨.bl _, H, I.tok _, rfl, q⟩
      · cases h0
    · cases h0
  unfold opCmp at hC
  split at hC
  · unfold pyEq at hC
    split at hC
    · rename_i hc
      simp only [Bool.and_eq_true] at hc
      cases hC
      obtain ⟨p1, p2⟩ := okD_of hc.1
      obtain ⟨p3, p4⟩ := okD_of hc.2
      obtain ⟨as, r1⟩ := Dp.reads I _ _ _ (RepT.dp hs hc.1 hd) rx
      obtain ⟨bs, r2⟩ := Dp.reads I _ _ _ (RepT.dp hs hc.2 he) ry
      exact SeqAt.eq_plain r1 r2 p1 p3 (Nat.lt_of_le_of_lt (Nat.add_le_add_left (Nat.min_le_left _ _) _) (by omega)) ⟨.bl _, H, I, rfl, q0⟩
    · cases hC
  · unfold pyEq at hC
    split at hC
    · rename_i hc
      simp only [Bool.and_eq_true] at hc
      cases hC
      obtain ⟨p1, p2⟩ := okD_of hc.1
      obtain ⟨p3, p4⟩ := okD_of hc.2
      obtain ⟨as, r1⟩ := Dp.reads I _ _ _ (RepT.dp hs hc.1 hd) rx
      obtain ⟨bs, r2⟩ := Dp.reads I _ _ _ (RepT.dp hs hc.2 he) ry
      exact SeqAt.ne_plain r1 r2 p1 p3 (Nat.lt_of_le_of_lt (Nat.add_le_add_left (Nat.min_le_left _ _) _) (by omega)) ⟨.bl _, H, I, rfl, q0⟩
    · cases hC
  · unfold opLt at hC
    split at hC
    · cases hC
      obtain rfl := repT_int hd; obtain rfl := repT_int he
      exact op_lt pins s σ H _ _ v u Q I rx ry ⟨_, _, rfl, rfl, q0⟩
    · cases hC
      obtain rfl := repT_str hd; obtain rfl := repT_str he
      exact op_lt_str pins s σ H _ _ v u Q I rx ry ⟨_, _, rfl, rfl, q0⟩
    · rename_i xs ys
      split at hC
      · rename_i hc
        simp only [Bool.and_eq_true, decide_eq_true_eq] at hc
        cases hC
        have c1 : (PyData.tuple xs).plain = true := hc.1.2
        have d1 := Rep.dp hs _ _ hc.1.2 hd
        have d2 := Rep.dp hs _ _ hc.2 he
        obtain ⟨as, r1⟩ := Dp.reads I _ _ _ d1 rx
        obtain ⟨bs, r2⟩ := Dp.reads I _ _ _ d2 ry
        exact W.rcLt_alike _ _ X.A s v u as bs r1 r2 hc.1.1.1 (by simp) (by have := hc.1.1.2; omega) X.prog X.w X.xe _ ⟨.bl _, H, I, rfl, q0⟩
      · cases hC
    · cases hC
  · cases hC
    obtain rfl := repT_int hd; obtain rfl := repT_int he
    exact op_le pins s σ H _ _ v u Q I rx ry ⟨_, _, rfl, rfl, q0⟩
  · cases hC
    obtain rfl := repT_int hd; obtain rfl := repT_int he
    exact op_gt pins s σ H _ _ v u Q I rx ry ⟨_, _, rfl, rfl, q0⟩
  · cases hC
    obtain rfl := repT_int hd; obtain rfl := repT_int he
    exact op_ge pins s σ H _ _ v u Q I rx ry ⟨_, _, rfl, rfl, q0⟩
  · cases hC
    obtain rfl := repT_str hd; obtain rfl := repT_str he
    exact op_le_str pins s σ H _ _ v u Q I rx ry ⟨_, _, rfl, rfl, q0⟩
  · cases hC
    obtain rfl := repT_str hd; obtain rfl := repT_str he
    exact op_gt_str pins s σ H _ _ v u Q I rx ry ⟨_, _, rfl, rfl, q0⟩
  · cases hC
    obtain rfl := repT_str hd; obtain rfl := repT_str he
    exact op_ge_str pins s σ H _ _ v u Q I rx ry ⟨_, _, rfl, rfl, q0⟩
  · exact hin false b hC q0
  · cases h9 : opIn d e with
    | none => rw [h9] at hC; cases hC
    | some c =>
      rw [h9] at hC
      cases hC
      exact hin true c h9 q0
  · cases hC
    obtain rfl := repT_none he
    refine op_isN pins s σ H _ _ v u Q I rx ry ⟨rfl, ?_⟩
    rw [isN_ok hd]
    exact q0
  · cases hC
    obtain rfl := repT_none he
    refine op_notN pins s σ H _ _ v u Q I rx ry ⟨rfl, ?_⟩
    rw [isN_ok hd]
    exact q0
  · cases hC
end
end PV

set_option Elab.async false
set_option linter.all false
set_option maxRecDepth 100000
set_option maxHeartbeats 1000000
/-! PV: subscripts, slices, built-ins by values. -/
namespace PV
open PySem L2 PyProof.Rows
section
variable {K : KW} {F H : Hp}
theorem RepTs.one {d : D} {xs : List V} (h : RepTs K F H [d] xs) : ∃ x, xs = [x] ∧ RepT K F H d x := by
  simp only [RepTs] at h
  obtain ⟨v, r, rfl, h1, rfl⟩ := h
  exact ⟨v, rfl, h1⟩
theorem RepTs.two {d e : D} {xs : List V} (h : RepTs K F H [d, e] xs) : ∃ x y, xs = [x, y] ∧ RepT K F H d x ∧ RepT K F H e y := by
  simp only [RepTs] at h
  obtain ⟨v, r, rfl, h1, u, t, rfl, h2, rfl⟩ := h
  exact ⟨v, u, rfl, h1, h2⟩
theorem RepTs.nil {xs : List V} (h : RepTs K F H [] xs) : xs = [] := by
  simpa only [RepTs] using h
/-- what is got out of a thing stands for good -/
theorem RepL.at {ds : List D} {vs : List V} {i : Int} {d : D} (r : RepL K F ds vs) (h : atI ds i = some d) : ∃ v, L2.atI vs i = some v ∧ Rep K F d v := by
  unfold atI at h
  unfold L2.atI
  have e : L2.ixN vs.length i = ixN ds.length i := by
    rw [r.length]; rfl
  rw [e]
  cases q : ixN ds.length i with
  | none => rw [q] at h; cases h
  | some j =>
    rw [q] at h
    exact r.get (i := j) h
theorem cut_eq {α : Type} (xs : List α) (lo hi : Option Int) : cut xs lo hi = (xs.drop (HT.sIx xs.length 0 lo)).take (HT.sIx xs.length xs.length hi - HT.sIx xs.length 0 lo) := by
  have e : ∀ n d o, clip n d o = HT.sIx n d o := by
    intro n d o
    cases o with
    | none => rfl
    | some v =>
      have h := HT.clip_eq v n d
      show (if v < 0 then (max (v + n) 0).toNat else (min v n).toNat) = _
      split at h
      · rename_i hv
        rw [if_pos hv, h]; rfl
      · rename_i hv
        rw [if_neg hv, h]; rfl
  unfold cut
  rw [e, e]
theorem RepL.cut {ds : List D} {vs : List V} (r : RepL K F ds vs) (lo hi : Option Int) : RepL K F (cut ds lo hi) (cutV vs lo hi) := by
  rw [cut_eq]
  unfold cutV
  rw [r.length]
  exact RepL.take _ (RepL.drop _ r)
theorem mapM_cons_some {α β : Type} {f : α → Option β} {x : α} {xs : List α} {ys : List β} (h : (x :: xs).mapM f = some ys) : ∃ y zs, f x = some y ∧ xs.mapM f = some zs ∧ ys = y :: zs := by
  rw [List.mapM_cons] at h
  cases e : f x with
  | none => rw [e] at h; cases h
  | some y =>
    rw [e] at h
    cases e2 : xs.mapM f with
    | none => rw [e2] at h; cases h
    | some zs => rw [e2] at h; cases h; exact ⟨y, zs, rfl, rfl, rfl⟩
theorem mapM_nil_some {α β : Type} {f : α → Option β} {ys : List β} (h : ([] : List α).mapM f = some ys) : ys = [] := by
  rw [List.mapM_nil] at h
  cases h; rfl
theorem repL_bools : ∀ {ds : List D} {vs : List V} {bs : List Bool}, RepL K F ds vs → ds.mapM asB = some bs → vs = bs.map V.bl
  | [], vs, bs, r, h => by
    simp only [RepL] at r
    have h := mapM_nil_some h
    subst r; subst h; rfl
  | d :: ds, vs, bs, r, h => by
    simp only [RepL] at r
    obtain ⟨v, s, rfl, h1, h2⟩ := r
    obtain ⟨y, cs, e0, e1, rfl⟩ := mapM_cons_some h
    cases d <;> simp [asB] at e0
    subst e0
    simp only [Rep] at h1
    subst h1
    rw [List.map_cons, ← repL_bools h2 e1]
theorem repL_strs : ∀ {ds : List D} {vs : List V} {bs : List Str}, RepL K F ds vs → ds.mapM asS = some bs → vs = bs.map V.str
  | [], vs, bs, r, h => by
    simp only [RepL] at r
    have h := mapM_nil_some h
    subst r; subst h; rfl
  | d :: ds, vs, bs, r, h => by
    simp only [RepL] at r
    obtain ⟨v, s, rfl, h1, h2⟩ := r
    obtain ⟨y, cs, e0, e1, rfl⟩ := mapM_cons_some h
    cases d <;> simp [asS] at e0
    subst e0
    simp only [Rep] at h1
    subst h1
    rw [List.map_cons, ← repL_strs h2 e1]
theorem asP_of {d : D} {k v : D} (h : asP d = some (k, v)) : ∃ j, k = keyD j ∧ d = .tuple [keyD j, v] := by
  unfold asP at h
  split at h
  · rename_i k' v'
    split at h
    · rename_i hk
      cases h
      obtain ⟨j, rfl⟩ := keyOk_of hk
      exact ⟨j, rfl, rfl⟩
    · cases h
  · cases h
theorem rep_key {j : Key} {v : V} (h : Rep K F (keyD j) v) : v = kV j := by
  cases j <;> simpa only [keyD, Rep, kV] using h
theorem repL_pairs : ∀ {ds : List D} {vs : List V} {ps : List (D × D)}, RepL K F ds vs → ds.mapM asP = some ps → ∃ (as : List Addr) (kvs : List (Key × V)), vs = as.map V.ref ∧ Paired (fun p kv => SqT K F p [kV kv.1, kv.2]) as kvs ∧ RepK K F ps kvs
  | [], vs, ps, r, h => by
    simp only [RepL] at r
    have h := mapM_nil_some h
    subst r; subst h
    exact ⟨[], [], rfl, .nil, by simp only [RepK]⟩
  | d :: ds, vs, ps, r, h => by
    simp only [RepL] at r
    obtain ⟨v, s, rfl, h1, h2⟩ := r
    obtain ⟨⟨k, e⟩, cs, q, e1, rfl⟩ := mapM_cons_some h
    obtain ⟨j, rfl, rfl⟩ := asP_of q
    obtain ⟨as, kvs, rfl, z1, z2⟩ := repL_pairs h2 e1
    obtain ⟨a, ws, rfl, q1, q2⟩ := repT_tup (H := F) h1
    simp only [RepL] at q2
    obtain ⟨u, t, rfl, y1, u2, t2, rfl, y2, rfl⟩ := q2
    obtain rfl := rep_key y1
    refine ⟨a :: as, (j, u2) :: kvs, rfl, .cons q1.sq z1, ?_⟩
    simp only [RepK]
    exact ⟨j, u2, kvs, rfl, rfl, y2, z2⟩
theorem RepK.merge : ∀ {more acc : List (D × D)} {m a : List (Key × V)}, RepK K F more m → RepK K F acc a → RepK K F (mergeD acc more) (mergeK a m)
  | [], acc, m, a, h, r => by simp only [RepK] at h; subst h; exact r
  | (k, d) :: more, acc, m, a, h, r => by
    simp only [RepK] at h
    obtain ⟨j, v, s, rfl, rfl, h1, h2⟩ := h
    show RepK K F (mergeD (dPut (keyD j) d acc) more) (mergeK (putK a j v) s)
    exact RepK.merge h2 (RepK.put h1 j r)
end

/-! ### subscripts -/
def rIdx (K : KW) : R2 := fun x y H Q => ∃ F d e r, opIdx d e = some r ∧ Sub F H ∧ RepT K F H d x ∧ RepT K F H e y ∧ opQ K F H r false Q
def rSlc (K : KW) : V → Option Int → Option Int → Hp → VK → Prop := fun x lo hi H Q => ∃ F d r w, opSlc d lo hi = some (r, w) ∧ Sub F H ∧ RepT K F H d x ∧ opQ K F H r w Q
section
variable {X : Cx}
theorem idx_ok (hu : X.A.units + 65 < cLine) : IxR X (rIdx X.kw) := by
  intro value slice pins s σ H x y v u Q I rx ry h hs
  obtain ⟨F, d, e, r, h0, hs', hd, he, q⟩ := h
  unfold opIdx at h0
  split at h0
  · obtain ⟨a, vs, rfl, q1, r1⟩ := repT_lst hd
    obtain rfl := repT_int he
    obtain ⟨v', z1, z2⟩ := r1.at h0
    exact ix_list value slice pins s σ H _ _ v u Q I rx ry ⟨a, vs, _, v', rfl, rfl, .inl q1, z1, q.val hs' z2⟩ hs
  · obtain ⟨a, vs, rfl, q1, r1⟩ := repT_tup hd
    obtain rfl := repT_int he
    obtain ⟨v', z1, z2⟩ := r1.at h0
    exact ix_tup value slice pins s σ H _ _ v u Q I rx ry ⟨a, vs, _, v', rfl, rfl, SqT.sub hs' q1.sq, z1, q.val hs' z2⟩ hs
  · split at h0
    · rename_i hl
      obtain rfl := repT_str hd
      obtain rfl := repT_int he
      cases q1 : atI _ _ with
      | none => rw [q1] at h0; cases h0
      | some c =>
        rw [q1] at h0
        cases h0
        exact ix_str value slice pins s σ H _ _ v u Q I rx ry ⟨_, _, c, rfl, rfl, by rw [← LIM_eq]; exact hl, q1, q.val hs' rep_str⟩ hs
    · cases h0
  · rename_i ns i
    obtain rfl := repT_int he
    rcases repT_dic hd with ⟨a, kv, rfl, hH, hr⟩ | ⟨a, l, rfl, hH, hr, _⟩ | ⟨a, ms, e1, rfl, hH⟩
    · exact absurd hr (by
        intro hr
        simp only [RepK] at hr
        obtain ⟨j, _, _, _, e2, _⟩ := hr
        cases j <;> simp [keyD] at e2)
    · cases (repN_plain hr).1
    · have e1' : ns = ms.map PyData.int := by
        simp only [scrD, List.cons.injEq, Prod.mk.injEq, PyData.list.injEq] at e1
        exact e1.1.2
      subst e1'
      unfold atI at h0
      cases q1 : ixN (ms.map PyData.int).length i with
      | none => rw [q1] at h0; cases h0
      | some j =>
        rw [q1] at h0
        have h0 : (ms.map PyData.int)[j]? = some r := h0
        rw [List.getElem?_map] at h0
        obtain ⟨m, e2, rfl⟩ := Option.map_eq_some_iff.mp h0
        have e3 : L2.atI (ms.map V.int) i = some (.int m) := by
          unfold L2.atI
          rw [List.length_map] at q1 ⊢
          have : L2.ixN ms.length i = some j := q1
          rw [this]
          show (ms.map V.int)[j]? = _
          rw [List.getElem?_map, e2]; rfl
        exact ix_list value slice pins s σ H _ _ v u Q I rx ry ⟨a, _, _, _, rfl, rfl, hH.sql, e3, q.val hs' rep_int⟩ hs
  · rename_i kvs k hno
    split at h0
    · rename_i hk
      rcases dOk_of hk with hk | ⟨⟨k, hk⟩, hp⟩
      · obtain ⟨k, rfl⟩ := keyOk_of hk.1
        obtain ⟨a, kv, rfl, hH, hr⟩ := repT_dicK hd hk.2
        have hx : y = kV k := by cases k <;> first | exact repT_int he | exact repT_str he
        subst hx
        cases rx
        have e0 := hr.val k
        rw [h0] at e0
        obtain ⟨v', e1, e2⟩ := e0
        have g : DGet H a (kV k) (some v') := .inl ⟨kv, k, hH, rfl, e1.symm⟩
        exact tail_any (dict_typeIs I g) PySem.F.slot_dict_getitem.lookup (d_getItem (by omega) I g ry fun w' s' I' rw' => ⟨v', H, I', rw', q.val hs' e2⟩) hs
      · obtain ⟨b, rfl, rq⟩ := key_ref hk he
        obtain ⟨a, l, xs, rfl, dh⟩ := dh_any I hs' hd hp
        cases rx
        cases ry
        exact tail_any dh.dh.typeIs PySem.F.slot_dict_getitem.lookup (dn_getItem hu I hs' dh hk rq h0 fun v u tk rv r => ⟨v, H, I.tok _, rv, q.val hs' r⟩) hs
    · cases h0
  · cases h0
theorem slc_ok : SlR X (rSlc X.kw) := by
  intro pins s σ H x v vl vu lo hi sl Q I rx hs pl pu h
  obtain ⟨F, d, r, w, h0, hs', hd, q⟩ := h
  unfold opSlc at h0
  split at h0
  · cases h0
    obtain ⟨a, vs, rfl, q1, r1⟩ := repT_lst hd
    exact sl_list pins s σ H _ v vl vu lo hi sl Q I rx hs pl pu ⟨a, vs, rfl, .inl q1, fun p hp => q.newL hs' (r1.cut lo hi) hp⟩
  · cases h0
    obtain ⟨a, vs, rfl, q1, r1⟩ := repT_tup hd
    refine sl_tupU pins s σ H _ v vl vu lo hi sl Q I rx hs pl pu ⟨a, vs, rfl, SqT.sub hs' q1.sq, fun z => ?_, fun _ p o hp ho => q.newT hs' (r1.cut lo hi) hp ho⟩
    have e := r1.cut lo hi
    unfold cutV at e
    rw [z.1, z.2] at e
    rw [List.drop_zero, Nat.sub_zero, List.take_length] at e
    exact q.val hs' (rep_tup q1 e)
  · cases h0
end

/-! ### built-ins -/
def bltName : Blt → Str
  | .len => "len" | .tuple => "tuple" | .list => "list" | .int => "int" | .sorted => "sorted" | .all => "all" | .any => "any" | .max2 => "max" | .min2 => "min" | .sset => "sorted" | .lset => "len" | .dictp => "dict"
def bltVal : Blt → Value
  | .len => .builtin "len" | .tuple => .type "tuple" | .list => .type "list" | .int => .type "int" | .sorted => .builtin "sorted" | .all => .builtin "all" | .any => .builtin "any" | .max2 => .builtin "max" | .min2 => .builtin "min"
  | .sset => .builtin "sorted" | .lset => .builtin "len" | .dictp => .type "dict"
def rBlt (K : KW) (b : Blt) : List V → Hp → VK → Prop := fun xs H Q => ∃ F ds r w, opBlt b ds = some (r, w) ∧ Sub F H ∧ RepTs K F H ds xs ∧ opQ K F H r w Q
section
variable {X : Cx}
theorem blt_ok {b : Blt} (hc : X.calm = true) (h1 : b ≠ .sorted) (h2 : b ≠ .sset) (h3 : b ≠ .lset) : CallR X (bltVal b) (rBlt X.kw b) := by
  intro pins s σ H xs us Q I rx h
  obtain ⟨F, ds, r, w, h0, hs, hd, q⟩ := h
  unfold opBlt at h0
  split at h0
  · cases h0
    obtain ⟨x, rfl, hx⟩ := hd.one
    obtain ⟨a, vs, rfl, q1, r1⟩ := repT_lst hx
    exact call_len pins s σ H _ us Q I rx ⟨_, _, rfl, .inl ⟨vs, .inl q1, rfl⟩, q.val hs (by rw [r1.length]; exact rep_int)⟩
  · cases h0
    obtain ⟨x, rfl, hx⟩ := hd.one
    obtain ⟨a, vs, rfl, q1, r1⟩ := repT_tup hx
    exact call_len pins s σ H _ us Q I rx ⟨_, _, rfl, .inr ⟨vs, SqT.sub hs q1.sq, rfl⟩, q.val hs (by rw [r1.length]; exact rep_int)⟩
  · cases h0
    obtain ⟨x, rfl, hx⟩ := hd.one
    rcases repT_dic hx with ⟨a, kv, rfl, hH, hr⟩ | ⟨a, l, rfl, hH, hr, _⟩ | ⟨a, ms, e1, rfl, hH⟩
    · exact absurd hr (by
        intro hr
        simp only [RepK] at hr
        obtain ⟨j, _, _, _, e2, _⟩ := hr
        cases j <;> simp [keyD] at e2)
    · cases (repN_plain hr).1
    · simp only [scrD, List.cons.injEq, Prod.mk.injEq, PyData.list.injEq] at e1
      obtain ⟨⟨_, e1⟩, _⟩ := e1
      subst e1
      rw [List.length_map] at q
      exact call_len pins s σ H _ us Q I rx ⟨_, _, rfl, .inl ⟨_, hH.sql, by rw [List.length_map]⟩, q.val hs rep_int⟩
  · rename_i kvs _
    split at h0
    · rename_i hk
      cases h0
      obtain ⟨x, rfl, hx⟩ := hd.one
      have inN : plainT kvs = true → opQ X.kw F H (.int kvs.length) false Q → wpAny (model X.prog X.w) X.A (call (.builtin "len") us) (EP X pins σ Q) X.xe s := fun hp q => by
        obtain ⟨a, l, xs, rfl, dh⟩ := dh_any I hs hx hp
        obtain ⟨u, eu, rx1⟩ := vals1 rx
        obtain rfl : u = Value.ref a := rx1
        subst eu
        exact dn_len dh fun t tk => ⟨.int _, H, I.tok _, ⟨_, rfl⟩, q.val hs rep_int⟩
      rcases repT_dic hx with ⟨a, kv, rfl, hH, hr⟩ | ⟨a, l, rfl, hH, hr, n⟩ | ⟨a, ms, rfl, rfl, hH⟩
      · obtain ⟨u, eu, rx1⟩ := vals1 rx
        obtain rfl : u = Value.ref a := rx1
        subst eu
        show wpAny (model X.prog X.w) X.A (call (.builtin "len") [.ref a]) (EP X pins σ Q) X.xe s
        exact d_len I hH fun t s' I' => ⟨.int _, H, I', ⟨_, rfl⟩, q.val hs (by rw [hr.length]; exact rep_int)⟩
      · exact inN (repN_plain hr).1 q
      · cases hk
    · cases h0
  · split at h0
    · rename_i hl
      cases h0
      obtain ⟨x, rfl, hx⟩ := hd.one
      obtain rfl := repT_str hx
      exact call_len pins s σ H _ us Q I rx ⟨_, _, rfl, ⟨by rw [← LIM_eq]; exact hl, rfl⟩, q.val hs rep_int⟩
    · cases h0
  · cases h0
    obtain ⟨x, rfl, hx⟩ := hd.one
    obtain ⟨a, vs, rfl, q1, r1⟩ := repT_lst hx
    exact call_tuple_ofU pins s σ H _ us Q I rx ⟨a, vs, rfl, .inl ⟨.inl q1, fun l o hl ho => q.newT hs r1 hl ho⟩⟩
  · cases h0
    obtain ⟨x, rfl, hx⟩ := hd.one
    obtain ⟨a, vs, rfl, q1, r1⟩ := repT_tup hx
    exact call_tuple_ofU pins s σ H _ us Q I rx ⟨a, vs, rfl, .inr ⟨SqT.sub hs q1.sq, q.val hs (rep_tup q1 r1)⟩⟩
  · cases h0
    obtain ⟨x, rfl, hx⟩ := hd.one
    obtain ⟨a, vs, rfl, q1, r1⟩ := repT_lst hx
    exact call_list_of pins s σ H _ us Q I rx ⟨a, vs, rfl, .inl (.inl q1), fun l hl => q.newL hs r1 hl⟩
  · cases h0
    obtain ⟨x, rfl, hx⟩ := hd.one
    obtain ⟨a, vs, rfl, q1, r1⟩ := repT_tup hx
    exact call_list_of pins s σ H _ us Q I rx ⟨a, vs, rfl, .inr (SqT.sub hs q1.sq), fun l hl => q.newL hs r1 hl⟩
  · cases h0
    obtain ⟨x, rfl, hx⟩ := hd.one
    obtain rfl := repT_int hx
    exact call_int1 pins s σ H _ us Q I rx (.inl ⟨_, rfl, q.val hs rep_int⟩)
  · cases h0
    obtain ⟨x, rfl, hx⟩ := hd.one
    obtain rfl := repT_bl hx
    exact call_int1 pins s σ H _ us Q I rx (.inr ⟨_, rfl, q.val hs rep_int⟩)
  · exact absurd rfl h1
  · rename_i ds'
    cases e : ds'.mapM asB with
    | none => rw [e] at h0; simp at h0
    | some bs =>
      rw [e] at h0
      simp at h0
      obtain ⟨rfl, rfl⟩ := h0
      obtain ⟨x, rfl, hx⟩ := hd.one
      obtain ⟨a, vs, rfl, q1, r1⟩ := repT_lst hx
      obtain rfl := repL_bools r1 e
      exact cr_all hc pins s σ H _ us Q I rx ⟨a, bs, rfl, .inl q1, q.val hs rep_bl⟩
  · rename_i ds'
    cases e : ds'.mapM asB with
    | none => rw [e] at h0; simp at h0
    | some bs =>
      rw [e] at h0
      simp at h0
      obtain ⟨rfl, rfl⟩ := h0
      obtain ⟨x, rfl, hx⟩ := hd.one
      obtain ⟨a, vs, rfl, q1, r1⟩ := repT_lst hx
      obtain rfl := repL_bools r1 e
      exact cr_any hc pins s σ H _ us Q I rx ⟨a, bs, rfl, .inl q1, q.val hs rep_bl⟩
  · cases h0
    obtain ⟨x, y, rfl, hx, hy⟩ := hd.two
    obtain rfl := repT_int hx
    obtain rfl := repT_int hy
    exact call_max2 hc pins s σ H _ us Q I rx ⟨_, _, rfl, q.val hs rep_int⟩
  · cases h0
    obtain ⟨x, y, rfl, hx, hy⟩ := hd.two
    obtain rfl := repT_int hx
    obtain rfl := repT_int hy
    exact call_min2 hc pins s σ H _ us Q I rx ⟨_, _, rfl, q.val hs rep_int⟩
  · exact absurd rfl h2
  · exact absurd rfl h3
  · rename_i d
    cases d <;> simp [asL1] at h0
    rename_i ds'
    cases e : ds'.mapM asP with
    | none => rw [e] at h0; simp at h0
    | some ps =>
      rw [e] at h0
      simp at h0
      obtain ⟨rfl, rfl⟩ := h0
      obtain ⟨x, rfl, hx⟩ := hd.one
      obtain ⟨a, vs, rfl, q1, r1⟩ := repT_lst hx
      obtain ⟨as, kvs, rfl, z1, z2⟩ := repL_pairs r1 e
      refine call_dictP hc pins s σ H _ us Q I rx ⟨a, as, kvs, rfl, .inl q1, ?_, fun p hp => q.newD hs (z2.merge (acc := []) (a := []) (by simp only [RepK])) hp⟩
      exact Paired.mapP z1 fun p kv z => SqT.sub hs z
  · cases h0
/-- isinstance -/
def tyName : Ty → String
  | .str => "str" | .tuple => "tuple" | .list => "list" | .bool => "bool"
def dTy : D → String
  | .none => "NoneType" | .bool _ => "bool" | .int _ => "int" | .str _ => "str" | .list _ => "list" | .tuple _ => "tuple" | .dict _ => "dict"
theorem ty_of {K : KW} {F H : Hp} {d : D} {v : V} (s : Sub F H) (h : RepT K F H d v) (hd : ∀ kvs, d ≠ .dict kvs) : TyX K H v (.type (dTy d)) := by
  cases d with
  | none => obtain rfl := repT_none h; exact .base .non
  | bool b => obtain rfl := repT_bl h; exact .base (.bl _)
  | int b => obtain rfl := repT_int h; exact .base (.int _)
  | str b => obtain rfl := repT_str h; exact .base (.str _)
  | list b =>
    obtain ⟨a, vs, rfl, q, _⟩ := repT_lst h
    rcases q with q | ⟨o, q⟩
    · exact .base (.lst q)
    · exact .base (.frz q)
  | tuple b =>
    obtain ⟨a, vs, rfl, q, _⟩ := repT_tup h
    rcases SqT.sub s q.sq with (z | ⟨o, z⟩) | ⟨o, its, n, z, c, _⟩
    · exact .base (.tup z)
    · exact .fTuple z
    · exact .kTuple z c
  | dict b => exact absurd rfl (hd b)
end
end PV

set_option Elab.async false
set_option linter.all false
set_option maxRecDepth 100000
set_option maxHeartbeats 1000000
/-! PV: what the evaluator says of an expression, the model's run gives. -/
namespace PV
open PySem L2 PyProof.Rows

section
variable {K : KW} {F H F' H' : Hp} {ρ ρ' : Pl} {σ σ' : Sg} {e : En} {d : D} {w : Bool} {v : V}
theorem OpPost.live (wf : Wf K F H ρ σ) (p : OpPost F H F' H') : Live K ⟨F, H, ρ, σ⟩ F' H' ρ σ := by
  have nF : ∀ a o, H a = some o → F a = Option.none → F' a = Option.none := fun a o h n => by
    cases q : F' a with
    | none => rfl
    | some u => rw [p.new a u q n] at h; cases h
  refine ⟨⟨p.sub, wf.len, fun i s d h1 h2 => ?_, fun i s d h1 h2 => ?_, wf.sep⟩, p.ff, fun a o h _ _ => p.hh a o h, fun a h => ?_, fun a o h n => .inl (p.new a o h n), fun a h => .inr h, fun i d h => ⟨⟨d, h⟩, rfl⟩, fun i d h => ⟨.inr ⟨d, h⟩, rfl⟩⟩
  · obtain ⟨v, h3, h4⟩ := wf.fr i s d h1 h2
    exact ⟨v, h3, Rep.sub p.ff d v h4⟩
  · obtain ⟨a, h3, h4, h5⟩ := wf.own i s d h1 h2
    obtain ⟨o, ho⟩ := h5.there
    exact ⟨a, h3, nF a o ho h4, h5.sub p.ff ((p.hh a o ho).trans ho.symm)⟩
  · cases q : H a with
    | none => exact q
    | some u => rw [p.hh a u q] at h; cases h
theorem OpRes.res (wf : Wf K F H ρ σ) (r : OpRes K H F' H' d w v) : Res K ⟨F, H, ρ, σ⟩ F' H' ρ σ d w v := by
  unfold OpRes at r
  unfold Res
  split
  · rename_i hw
    rw [if_pos hw] at r
    obtain ⟨a, h1, h2, h3, h4⟩ := r
    refine ⟨a, h1, h2, h3, .inl h4, fun z => ?_, fun z => ?_⟩
    · obtain ⟨_, o, ho⟩ := wf.owA z
      rw [h4] at ho; cases ho
    · obtain ⟨_, o, ho⟩ := wf.boA z
      rw [h4] at ho; cases ho
  · rename_i hw
    rwa [if_neg hw] at r
/-- what is one's own is given away for good -/
theorem Live.freeze {a : Addr} {o o' : HO} (l : Live K e F H ρ σ) (ho : Obj K F H a d) (nF : F a = Option.none) (h1 : H a = some o) (hz : Fz o o') (nO : ¬ OwA ρ σ a) (nB : ¬ BoA ρ σ a) (hn : e.H a = Option.none ∨ e.O a ∨ e.B a) :
    Live K e (upd F a o') (upd H a o') ρ σ ∧ Rep K (upd F a o') d (.ref a) := by
  have sF : Sub F (upd F a o') := Sub.upd nF
  refine ⟨⟨⟨Sub.freeze l.wf.sub nF, l.wf.len, fun i s d h2 h3 => ?_, fun i s d h2 h3 => ?_, l.wf.sep⟩, l.ff.trans sF, fun b u q1 q2 q3 => ?_, fun b q => ?_, fun b u h n => ?_, l.ow, l.bo, l.bf⟩, ho.freeze nF h1 hz⟩
  · obtain ⟨v, h4, h5⟩ := l.wf.fr i s d h2 h3
    exact ⟨v, h4, Rep.sub sF d v h5⟩
  · obtain ⟨b, h4, h5, h6⟩ := l.wf.own i s d h2 h3
    have hb : b ≠ a := by
      rintro rfl
      cases s <;> simp [own?] at h3
      · exact nO ⟨i, _, h2, h4⟩
      · exact nB ⟨i, _, h2, h4⟩
    exact ⟨b, h4, by rw [upd_ne hb]; exact h5, h6.sub sF (upd_ne hb)⟩
  · have hb : b ≠ a := by
      rintro rfl
      rcases hn with z | z | z
      · rw [z] at q1; cases q1
      · exact q2 z
      · exact q3 z
    rw [upd_ne hb]
    exact l.hh b u q1 q2 q3
  · by_cases hb : b = a
    · subst hb; rw [upd_same] at q; cases q
    · rw [upd_ne hb] at q; exact l.dom b q
  · by_cases hb : b = a
    · subst hb; exact hn
    · rw [upd_ne hb] at h; exact l.new b u h n
theorem Wf.frz {i : Nat} {s s' : Slot} {a : Addr} {o o' : HO} (wf : Wf K F H ρ σ) (h1 : ρ[i]? = some s) (h2 : own? s = some d) (h3 : val? s' = some d) (h4 : (s = .ow d ∧ s' = .fr d) ∨ (s = .bo d ∧ s' = .bf d)) (h5 : σ[i]? = some (some (.ref a))) (ho : H a = some o) (hz : Fz o o') :
    Live K ⟨F, H, ρ, σ⟩ (upd F a o') (upd H a o') (ρ.set i s') σ ∧ Rep K (upd F a o') d (.ref a) := by
  obtain ⟨b, h5', h6, h7⟩ := wf.own i s d h1 h2
  rw [h5] at h5'
  cases h5'
  have sF : Sub F (upd F a o') := Sub.upd h6
  have noS' : own? s' = Option.none := by rcases h4 with ⟨_, rfl⟩ | ⟨_, rfl⟩ <;> rfl
  have hOB : OwA ρ σ a ∨ BoA ρ σ a := by
    rcases h4 with ⟨rfl, _⟩ | ⟨rfl, _⟩
    · exact .inl ⟨i, d, h1, h5⟩
    · exact .inr ⟨i, d, h1, h5⟩
  refine ⟨⟨⟨Sub.freeze wf.sub h6, by rw [List.length_set]; exact wf.len, fun j t e q1 q2 => ?_, fun j t e q1 q2 => ?_, fun j k t u e f b q1 q2 q3 q4 q5 q6 => ?_⟩, sF, fun b u q1 q2 q3 => ?_, fun b q => ?_, fun b u h n => ?_, fun b h => ?_, fun j e h => ?_, fun j e h => ?_⟩, h7.freeze h6 ho hz⟩
  · rcases set_at q1 with ⟨rfl, rfl⟩ | ⟨_, q1⟩
    · rw [h3] at q2; cases q2
      exact ⟨_, h5, h7.freeze h6 ho hz⟩
    · obtain ⟨v, z1, z2⟩ := wf.fr j t e q1 q2
      exact ⟨v, z1, Rep.sub sF e v z2⟩
  · rcases set_at q1 with ⟨rfl, rfl⟩ | ⟨hj, q1⟩
    · rw [noS'] at q2; cases q2
    · obtain ⟨b, z1, z2, z3⟩ := wf.own j t e q1 q2
      have hb : b ≠ a := by
        rintro rfl
        exact hj (wf.sep j i t s e d _ q1 h1 q2 h2 z1 h5)
      exact ⟨b, z1, by rw [upd_ne hb]; exact z2, z3.sub sF (upd_ne hb)⟩
  · rcases set_at q1 with ⟨rfl, rfl⟩ | ⟨_, q1⟩
    · rw [noS'] at q3; cases q3
    rcases set_at q2 with ⟨rfl, rfl⟩ | ⟨_, q2⟩
    · rw [noS'] at q4; cases q4
    exact wf.sep j k t u e f b q1 q2 q3 q4 q5 q6
  · have hb : b ≠ a := by
      rintro rfl
      rcases hOB with z | z
      · exact q2 z
      · exact q3 z
    rw [upd_ne hb]
    exact q1
  · by_cases hb : b = a
    · subst hb; rw [upd_same] at q; cases q
    · rw [upd_ne hb] at q; exact q
  · by_cases hb : b = a
    · subst hb; exact .inr hOB
    · rw [upd_ne hb] at h
      exact absurd h (by rw [show F b = Option.none from n]; intro z; cases z)
  · obtain ⟨j, e, q1, q2⟩ := h
    rcases set_at q1 with ⟨rfl, q⟩ | ⟨_, q1⟩
    · rw [← q] at noS'; cases noS'
    · exact .inr ⟨j, e, q1, q2⟩
  · rcases set_at h with ⟨rfl, q⟩ | ⟨_, h⟩
    · rw [← q] at noS'; cases noS'
    · exact ⟨⟨e, h⟩, rfl⟩
  · rcases set_at h with ⟨rfl, q⟩ | ⟨_, h⟩
    · rcases h4 with ⟨_, z⟩ | ⟨z, _⟩
      · rw [z] at q; cases q
      · exact ⟨.inl ⟨d, by rw [← z]; exact h1⟩, rfl⟩
    · exact ⟨.inr ⟨e, h⟩, rfl⟩
theorem Res.freeze {X : Cx} {pins : List (Addr × PySem.Obj)} {σ0 : L2.St} {s : Shared} (I : L2.Inv X pins σ0 H s) (l : Live K e F H ρ σ) (r : Res K e F H ρ σ d w v) : ∃ F' H', L2.Inv X pins σ0 H' s ∧ Live K e F' H' ρ σ ∧ Rep K F' d v := by
  unfold Res at r
  split at r
  · obtain ⟨a, rfl, h2, h3, h4, h5, h6⟩ := r
    obtain ⟨o, o', z1, z2, I2⟩ := h2.fz I
    refine ⟨_, _, I2, l.freeze h2 h3 z1 z2 h5 h6 ?_⟩
    rcases h4 with z | z
    · exact .inl z
    · exact .inr (.inl z)
  · exact ⟨F, H, I, l, r⟩
theorem res_val (r : Rep K F d v) : Res K e F H ρ σ d false v := by
  unfold Res
  rw [if_neg Bool.false_ne_true]
  exact r
/-- an operand -/
def OpV (K : KW) (F : Hp) (σ : Sg) : Op → V → Prop
  | .dv d, v => Rep K F d v
  | .sl i, v => σ[i]? = some (some v)
theorem OpV.sub (s : Sub F F') {o : Op} (h : OpV K F σ o v) : OpV K F' σ o v := by
  cases o with
  | dv d => exact Rep.sub s d v h
  | sl i => exact h
theorem OpV.repT (wf : Wf K F H ρ σ) {o : Op} (h : OpV K F σ o v) (hf : fetch ρ o = some d) : RepT K F H d v := by
  cases o with
  | dv d' =>
    cases hf
    exact Rep.repT wf.sub h
  | sl i =>
    have hf : (match ρ[i]? with
      | some (.ow d) => some d
      | some (.bo d) => some d
      | _ => none) = some d := hf
    have go : ∀ s, ρ[i]? = some s → own? s = some d → RepT K F H d v := fun s h1 h2 => by
      obtain ⟨a, h3, h4, h5⟩ := wf.own i s d h1 h2
      have h6 : σ[i]? = some (some v) := h
      rw [h6] at h3
      cases h3
      exact h5.repT
    split at hf
    · rename_i d' e1
      cases hf
      exact go _ e1 rfl
    · rename_i d' e1
      cases hf
      exact go _ e1 rfl
    · cases hf
end

/-! ### readings -/
section
variable (K : KW) (call : Call)
def tEv (x : X) : TE := fun σ H Q => ∃ F ρ d w ρ', ev call x ρ = some (d, w, ρ') ∧ Wf K F H ρ σ ∧ ∀ F' H' v, Live K ⟨F, H, ρ, σ⟩ F' H' ρ' σ → Res K ⟨F, H, ρ, σ⟩ F' H' ρ' σ d w v → Q v H'
/-- .. for good -/
def tFr (x : X) : TE := fun σ H Q => ∃ F ρ d w ρ', ev call x ρ = some (d, w, ρ') ∧ Wf K F H ρ σ ∧ ∀ F' H' v, Live K ⟨F, H, ρ, σ⟩ F' H' ρ' σ → Rep K F' d v → Q v H'
def tT (x : X) : TT := fun σ H Q => ∃ F ρ b w ρ', ev call x ρ = some (.bool b, w, ρ') ∧ Wf K F H ρ σ ∧ ∀ F' H', Live K ⟨F, H, ρ, σ⟩ F' H' ρ' σ → Q b H'
def tOp (x : X) : TE := fun σ H Q => ∃ F ρ o ρ', opn x (ev call x) ρ = some (o, ρ') ∧ Wf K F H ρ σ ∧ ∀ F' H' v, Live K ⟨F, H, ρ, σ⟩ F' H' ρ' σ → OpV K F' σ o v → Q v H'
/-- operands in a row -/
def OpVs (K : KW) (F : Hp) (σ : Sg) : List Op → List V → Prop
  | [], vs => vs = []
  | o :: os, vs => ∃ v r, vs = v :: r ∧ OpV K F σ o v ∧ OpVs K F σ os r
def tOps (xs : List X) : TA := fun σ H Q => ∃ F ρ os ρ', evOs call xs ρ = some (os, ρ') ∧ Wf K F H ρ σ ∧ ∀ F' H' vs, Live K ⟨F, H, ρ, σ⟩ F' H' ρ' σ → OpVs K F' σ os vs → Q vs H'
def tEvs (xs : List X) : TA := fun σ H Q => ∃ F ρ ds ρ', evs call xs ρ = some (ds, ρ') ∧ Wf K F H ρ σ ∧ ∀ F' H' vs, Live K ⟨F, H, ρ, σ⟩ F' H' ρ' σ → RepL K F' ds vs → Q vs H'
end
section
variable {K : KW} {call : Call} {F F' H : Hp} {σ : Sg} {ρ : Pl}
theorem OpVs.sub (s : Sub F F') : ∀ {os : List Op} {vs : List V}, OpVs K F σ os vs → OpVs K F' σ os vs
  | [], vs, h => h
  | o :: os, vs, h => by
    obtain ⟨v, r, rfl, h1, h2⟩ := h
    exact ⟨v, r, rfl, h1.sub s, OpVs.sub s h2⟩
theorem OpVs.repTs (wf : Wf K F H ρ σ) : ∀ {os : List Op} {ds : List D} {vs : List V}, OpVs K F σ os vs → fetchAll ρ os = some ds → RepTs K F H ds vs
  | [], ds, vs, h, hf => by
    simp only [fetchAll, Option.some.injEq] at hf
    subst hf
    simp only [RepTs]
    exact h
  | o :: os, ds, vs, h, hf => by
    obtain ⟨v, r, rfl, h1, h2⟩ := h
    simp only [fetchAll, Option.bind_eq_bind, Option.bind_eq_some_iff, Option.pure_def, Option.some.injEq] at hf
    obtain ⟨d, h3, es, h4, rfl⟩ := hf
    simp only [RepTs]
    exact ⟨v, r, rfl, h1.repT wf h3, OpVs.repTs wf h2 h4⟩
end
section
variable {call : Call} {X : Cx} {e : Expr} {x : PV.X} {pos : Pos}
theorem pe_fr (h : PE X e (tEv X.kw call x)) : PE X e (tFr X.kw call x) := by
  refine ⟨fun pins s σ H Q I q => ?_⟩
  obtain ⟨F, ρ, d, w, ρ', h0, wf, k⟩ := q
  refine thn (h.run pins s σ H (fun v H' => ∃ F', Live X.kw ⟨F, H, ρ, σ⟩ F' H' ρ' σ ∧ Res X.kw ⟨F, H, ρ, σ⟩ F' H' ρ' σ d w v) I ⟨F, ρ, d, w, ρ', h0, wf, fun F' H' v l r => ⟨F', l, r⟩⟩) fun u s1 ⟨v, H1, I1, r1, F1, l1, res⟩ => ?_
  obtain ⟨F2, H2, I2, l2, r2⟩ := res.freeze I1 l1
  exact ⟨v, H2, I2, r1, k F2 H2 v l2 r2⟩
theorem pe_opn (h : PE X e (tEv X.kw call x)) (hv : ∀ i, x = .var i → PE X e (tVar i)) : PE X e (tOp X.kw call x) := by
  refine ⟨fun pins s σ H Q I q => ?_⟩
  obtain ⟨F, ρ, o, ρ', h0, wf, k⟩ := q
  have gen : (∃ d w, ev call x ρ = some (d, w, ρ') ∧ o = .dv d) → wpAny (model X.prog X.w) X.A (eval e X.env) (EP X pins σ Q) X.xe s := fun ⟨d, w, h1, h2⟩ => by
    subst h2
    exact (pe_fr h).run pins s σ H Q I ⟨F, ρ, d, w, ρ', h1, wf, fun F' H' v l r => k F' H' v l r⟩
  unfold PV.opn at h0
  split at h0
  · rename_i i
    have pv := hv i rfl
    split at h0
    · rename_i d e1
      cases h0
      obtain ⟨v, h3, h4⟩ := wf.fr i _ d e1 rfl
      exact pv.run pins s σ H Q I ⟨v, h3, k F H v wf.live h4⟩
    · rename_i d e1
      cases h0
      obtain ⟨v, h3, h4⟩ := wf.fr i _ d e1 rfl
      exact pv.run pins s σ H Q I ⟨v, h3, k F H v wf.live h4⟩
    · rename_i d e1
      cases h0
      obtain ⟨a, h3, h4, h5⟩ := wf.own i _ d e1 rfl
      exact pv.run pins s σ H Q I ⟨_, h3, k F H _ wf.live h3⟩
    · rename_i d e1
      cases h0
      obtain ⟨a, h3, h4, h5⟩ := wf.own i _ d e1 rfl
      exact pv.run pins s σ H Q I ⟨_, h3, k F H _ wf.live h3⟩
    · cases h0
  · simp only [Option.bind_eq_bind, Option.bind_eq_some_iff, Option.pure_def, Option.some.injEq, Prod.exists, Prod.mk.injEq] at h0
    obtain ⟨d, w, ρ1, h1, rfl, rfl⟩ := h0
    exact gen ⟨d, w, h1, rfl⟩
/-- a name -/
theorem s_var {i : Nat} (pv : PE X e (tVar i)) : PE X e (tEv X.kw call (.var i)) := by
  refine ⟨fun pins s σ H Q I q => ?_⟩
  obtain ⟨F, ρ, d, w, ρ', h0, wf, k⟩ := q
  simp only [ev] at h0
  split at h0
  · rename_i d' e1
    cases h0
    obtain ⟨v, h3, h4⟩ := wf.fr i _ d e1 rfl
    exact pv.run pins s σ H Q I ⟨v, h3, k F H v wf.live (res_val h4)⟩
  · rename_i d' e1
    cases h0
    obtain ⟨v, h3, h4⟩ := wf.fr i _ d e1 rfl
    exact pv.run pins s σ H Q I ⟨v, h3, k F H v wf.live (res_val h4)⟩
  · rename_i d' e1
    cases h0
    obtain ⟨a, h3, h4, h5⟩ := wf.own i _ d e1 rfl
    obtain ⟨o, o', z1, z2, I2⟩ := h5.fz I
    obtain ⟨l, r⟩ := wf.frz e1 rfl (s' := .fr d) rfl (.inl ⟨rfl, rfl⟩) h3 z1 z2
    exact pv.run pins s σ _ Q I2 ⟨_, h3, k _ _ _ l (res_val r)⟩
  · rename_i d' e1
    cases h0
    obtain ⟨a, h3, h4, h5⟩ := wf.own i _ d e1 rfl
    obtain ⟨o, o', z1, z2, I2⟩ := h5.fz I
    obtain ⟨l, r⟩ := wf.frz e1 rfl (s' := .bf d) rfl (.inr ⟨rfl, rfl⟩) h3 z1 z2
    exact pv.run pins s σ _ Q I2 ⟨_, h3, k _ _ _ l (res_val r)⟩
  · cases h0

theorem s_cst {d : D} {v : V} (h : PE X e (tC v)) (r : Rep X.kw (fun _ => Option.none) d v) : PE X e (tEv X.kw call (.cst d)) := by
  refine ⟨fun pins s σ H Q I q => h.run pins s σ H Q I ?_⟩
  obtain ⟨F, ρ, d', w, ρ', h0, wf, k⟩ := q
  simp only [ev] at h0
  cases h0
  exact k F H v wf.live (res_val (Rep.sub (fun a o h => (by simp at h)) d v r))
/-- a test whose value is a bool -/
theorem evs_len : ∀ {xs : List PV.X} {ρ ρ' : Pl} {ds : List D}, evs call xs ρ = some (ds, ρ') → ds.length = xs.length
  | [], ρ, ρ', ds, h => by simp only [evs] at h; cases h; rfl
  | x :: xs, ρ, ρ', ds, h => by
    simp only [evs, Option.bind_eq_bind, Option.bind_eq_some_iff, Option.pure_def, Option.some.injEq, Prod.exists, Prod.mk.injEq] at h
    obtain ⟨d1, w1, ρ1, h1, ds2, ρ2, h2, rfl, rfl⟩ := h
    simp [evs_len h2]
theorem s_val (h : PE X e (tEv X.kw call x)) (he : ∀ whole, isTrue e X.env whole = (do let v ← whole; standAt e.pos; holding [v] (truthy v))) : PT X e (tT X.kw call x) := by
  refine ⟨fun pins s σ H Q I q => (pt_val h he).run pins s σ H Q I ?_⟩
  obtain ⟨F, ρ, b, w, ρ', h0, wf, k⟩ := q
  refine ⟨F, ρ, _, w, ρ', h0, wf, fun F' H' v l r => ?_⟩
  unfold Res at r
  split at r
  · obtain ⟨a, _, h2, _⟩ := r
    exact absurd h2 (by simp only [Obj]; exact id)
  · simp only [Rep] at r
    exact ⟨b, r, k F' H' l⟩
variable {a b c : Expr} {xa xb xc : PV.X}
theorem s_bin {o : BOp} (ha : PE X a (tOp X.kw call xa)) (hb : PE X b (tOp X.kw call xb)) : PE X (.BinOp a (binOp o) b pos) (tEv X.kw call (.bin o xa xb)) := by
  refine ⟨fun pins s σ H Q I q => (pe_op bin_ok ha hb).run pins s σ H Q I ?_⟩
  obtain ⟨F, ρ, d, w, ρ', h0, wf, k⟩ := q
  simp only [ev, Option.bind_eq_bind, Option.bind_eq_some_iff, Option.pure_def, Option.some.injEq, Prod.exists, Prod.mk.injEq] at h0
  obtain ⟨o1, ρ1, h1, o2, ρ2, h2, d1, h3, d2, h4, r, w', h5, rfl, rfl, rfl⟩ := h0
  refine ⟨F, ρ, o1, ρ1, h1, wf, fun F1 H1 v1 l1 p1 => ⟨F1, ρ1, o2, ρ2, h2, l1.wf, fun F2 H2 v2 l2 p2 => ?_⟩⟩
  refine ⟨F2, d1, d2, _, _, h5, l2.wf.sub, (p1.sub l2.ff).repT l2.wf h3, p2.repT l2.wf h4, fun F3 H3 v3 post res => ?_⟩
  have l12 := l1.trans l2
  exact k F3 H3 v3 (l12.trans (post.live l2.wf)) (Res.trans l12 (res.res l2.wf))
theorem t_cmp {o : COp} {σ : Sg} {H : Hp} {Q : VK} (h : ∃ F ρ bb w ρ', ev call (.cmp o xa xb) ρ = some (.bool bb, w, ρ') ∧ Wf X.kw F H ρ σ ∧ ∀ F' H', Live X.kw ⟨F, H, ρ, σ⟩ F' H' ρ' σ → Q (.bl bb) H') :
    L2.tOp (rCmp X.kw o) (tOp X.kw call xa) (tOp X.kw call xb) σ H Q := by
  obtain ⟨F, ρ, bb, w, ρ', h0, wf, k⟩ := h
  simp only [ev, Option.bind_eq_bind, Option.bind_eq_some_iff, Option.pure_def, Option.some.injEq, Prod.exists, Prod.mk.injEq, PyData.bool.injEq] at h0
  obtain ⟨o1, ρ1, h1, o2, ρ2, h2, d1, h3, d2, h4, r, h5, rfl, rfl, rfl⟩ := h0
  refine ⟨F, ρ, o1, ρ1, h1, wf, fun F1 H1 v1 l1 p1 => ⟨F1, ρ1, o2, ρ2, h2, l1.wf, fun F2 H2 v2 l2 p2 => ?_⟩⟩
  exact ⟨F2, d1, d2, _, h5, l2.wf.sub, (p1.sub l2.ff).repT l2.wf h3, p2.repT l2.wf h4, k F2 H2 (l1.trans l2)⟩
/-- a value that is a bool whatever happens -/
theorem tEv_bool {σ : Sg} {H : Hp} {Q : VK} (hb : ∀ ρ d w ρ', ev call x ρ = some (d, w, ρ') → w = false ∧ ∃ bb, d = .bool bb) (h : tEv X.kw call x σ H Q) : ∃ F ρ bb w ρ', ev call x ρ = some (.bool bb, w, ρ') ∧ Wf X.kw F H ρ σ ∧ ∀ F' H', Live X.kw ⟨F, H, ρ, σ⟩ F' H' ρ' σ → Q (.bl bb) H' := by
  obtain ⟨F, ρ, d, w, ρ', h0, wf, k⟩ := h
  obtain ⟨rfl, bb, rfl⟩ := hb _ _ _ _ h0
  exact ⟨F, ρ, bb, _, ρ', h0, wf, fun F' H' l => k F' H' _ l (res_val rep_bl)⟩
theorem s_cmp {o : COp} (hu : X.A.units + 65 < cLine) (ha : PE X a (tOp X.kw call xa)) (hb : PE X b (tOp X.kw call xb)) (hm : behindInMarks (cmpOp o) b = false) : PE X (.Compare a [cmpOp o] [b] pos) (tEv X.kw call (.cmp o xa xb)) := by
  refine ⟨fun pins s σ H Q I q => (pe_cmpR (cmp_ok hu) ha hb hm).run pins s σ H Q I (t_cmp (tEv_bool (fun ρ d w ρ' h0 => ?_) q))⟩
  simp only [ev, Option.bind_eq_bind, Option.bind_eq_some_iff, Option.pure_def, Option.some.injEq, Prod.exists, Prod.mk.injEq] at h0
  obtain ⟨o1, ρ1, h1, o2, ρ2, h2, d1, h3, d2, h4, r, h5, rfl, rfl, rfl⟩ := h0
  exact ⟨rfl, _, rfl⟩
theorem s_cmpT {o : COp} (hu : X.A.units + 65 < cLine) (ha : PE X a (tOp X.kw call xa)) (hb : PE X b (tOp X.kw call xb)) (hm : behindInMarks (cmpOp o) b = false) : PT X (.Compare a [cmpOp o] [b] pos) (tT X.kw call (.cmp o xa xb)) := by
  refine ⟨fun pins s σ H Q I q => (pt_cmpR (cmp_ok hu) ha hb hm).run pins s σ H Q I (t_cmp ?_)⟩
  obtain ⟨F, ρ, bb, w, ρ', h0, wf, k⟩ := q
  exact ⟨F, ρ, bb, w, ρ', h0, wf, fun F' H' l => ⟨bb, rfl, k F' H' l⟩⟩
theorem t_chain {o p : COp} {σ : Sg} {H : Hp} {Q : VK} (h : ∃ F ρ bb w ρ', ev call (.chain o p xa xb xc) ρ = some (.bool bb, w, ρ') ∧ Wf X.kw F H ρ σ ∧ ∀ F' H', Live X.kw ⟨F, H, ρ, σ⟩ F' H' ρ' σ → Q (.bl bb) H') :
    tChain (rCmp X.kw o) (rCmp X.kw p) (tOp X.kw call xa) (tOp X.kw call xb) (tOp X.kw call xc) σ H Q := by
  obtain ⟨F, ρ, bb, w, ρ', h0, wf, k⟩ := h
  simp only [ev, Option.bind_eq_bind, Option.bind_eq_some_iff, Option.pure_def, Prod.exists] at h0
  obtain ⟨o1, ρ1, h1, o2, ρ2, h2, d1, h3, d2, h4, r, h5, h6⟩ := h0
  refine ⟨F, ρ, o1, ρ1, h1, wf, fun F1 H1 v1 l1 p1 => ⟨F1, ρ1, o2, ρ2, h2, l1.wf, fun F2 H2 v2 l2 p2 => ?_⟩⟩
  refine ⟨F2, d1, d2, r, h5, l2.wf.sub, (p1.sub l2.ff).repT l2.wf h3, p2.repT l2.wf h4, r, rfl, ?_⟩
  cases r with
  | false =>
    simp only [Bool.false_eq_true, if_false, Option.some.injEq, Prod.mk.injEq, PyData.bool.injEq] at h6 ⊢
    obtain ⟨rfl, rfl, rfl⟩ := h6
    exact k F2 H2 (l1.trans l2)
  | true =>
    simp only [if_true, Option.bind_eq_some_iff, Option.some.injEq, Prod.exists, Prod.mk.injEq, PyData.bool.injEq] at h6 ⊢
    obtain ⟨o3, ρ3, h7, d3, h8, d4, h9, r2, h10, rfl, rfl, rfl⟩ := h6
    refine ⟨F2, ρ2, o3, ρ3, h7, l2.wf, fun F3 H3 v3 l3 p3 => ?_⟩
    exact ⟨F3, d3, d4, _, h10, l3.wf.sub, (p2.sub l3.ff).repT l3.wf h8, p3.repT l3.wf h9, k F3 H3 ((l1.trans l2).trans l3)⟩
theorem s_chain {o p : COp} (hu : X.A.units + 65 < cLine) (ha : PE X a (tOp X.kw call xa)) (hb : PE X b (tOp X.kw call xb)) (hc : PE X c (tOp X.kw call xc)) (hm : lastMarks [cmpOp o, cmpOp p] [b, c] = false) :
    PE X (.Compare a [cmpOp o, cmpOp p] [b, c] pos) (tEv X.kw call (.chain o p xa xb xc)) := by
  refine ⟨fun pins s σ H Q I q => (pe_chain (cmp_ok hu) (cmp_ok hu) ha hb hc hm).run pins s σ H Q I (t_chain (tEv_bool (fun ρ d w ρ' h0 => ?_) q))⟩
  simp only [ev, Option.bind_eq_bind, Option.bind_eq_some_iff, Option.pure_def, Prod.exists] at h0
  obtain ⟨o1, ρ1, h1, o2, ρ2, h2, d1, h3, d2, h4, r, h5, h6⟩ := h0
  cases r with
  | false =>
    simp only [Bool.false_eq_true, if_false, Option.some.injEq, Prod.mk.injEq] at h6
    obtain ⟨rfl, rfl, rfl⟩ := h6
    exact ⟨rfl, _, rfl⟩
  | true =>
    simp only [if_true, Option.bind_eq_some_iff, Option.some.injEq, Prod.exists, Prod.mk.injEq] at h6
    obtain ⟨o3, ρ3, h7, d3, h8, d4, h9, r2, h10, rfl, rfl, rfl⟩ := h6
    exact ⟨rfl, _, rfl⟩
theorem s_chainT {o p : COp} (hu : X.A.units + 65 < cLine) (ha : PE X a (tOp X.kw call xa)) (hb : PE X b (tOp X.kw call xb)) (hc : PE X c (tOp X.kw call xc)) (hm : lastMarks [cmpOp o, cmpOp p] [b, c] = false) :
    PT X (.Compare a [cmpOp o, cmpOp p] [b, c] pos) (tT X.kw call (.chain o p xa xb xc)) := by
  refine ⟨fun pins s σ H Q I q => (pt_chain (cmp_ok hu) (cmp_ok hu) ha hb hc hm).run pins s σ H Q I (t_chain ?_)⟩
  obtain ⟨F, ρ, bb, w, ρ', h0, wf, k⟩ := q
  exact ⟨F, ρ, bb, w, ρ', h0, wf, fun F' H' l => ⟨bb, rfl, k F' H' l⟩⟩

/-! and, or, not -/
def tL (K : KW) (f : Pl → Option (D × Bool × Pl)) : TE := fun σ H Q => ∃ F ρ d w ρ', f ρ = some (d, w, ρ') ∧ Wf K F H ρ σ ∧ ∀ F' H' v, Live K ⟨F, H, ρ, σ⟩ F' H' ρ' σ → Rep K F' d v → Q v H'
def tLT (K : KW) (f : Pl → Option (D × Bool × Pl)) : TT := fun σ H Q => ∃ F ρ b w ρ', f ρ = some (.bool b, w, ρ') ∧ Wf K F H ρ σ ∧ ∀ F' H', Live K ⟨F, H, ρ, σ⟩ F' H' ρ' σ → Q b H'
variable {rest : List Expr} {xs : List PV.X}
theorem asB_of {d : D} {b : Bool} (h : asB d = some b) : d = .bool b := by
  cases d <;> simp [asB] at h
  rw [h]
theorem s_and1 (ha : PE X a (tEv X.kw call xa)) : PE X (.BoolOp .And [a] pos) (tL X.kw (evAnd call [xa])) := by
  refine ⟨fun pins s σ H Q I q => (pe_one (pe_fr ha)).run pins s σ H Q I ?_⟩
  obtain ⟨F, ρ, d, w, ρ', h0, wf, k⟩ := q
  simp only [evAnd, Option.bind_eq_bind, Option.bind_eq_some_iff, Option.pure_def, Option.some.injEq, Prod.exists, Prod.mk.injEq] at h0
  obtain ⟨d1, w1, ρ1, h1, rfl, rfl, rfl⟩ := h0
  exact ⟨F, ρ, _, w1, _, h1, wf, k⟩
theorem s_or1 (ha : PE X a (tEv X.kw call xa)) : PE X (.BoolOp .Or [a] pos) (tL X.kw (evOr call [xa])) := by
  refine ⟨fun pins s σ H Q I q => (pe_one (pe_fr ha)).run pins s σ H Q I ?_⟩
  obtain ⟨F, ρ, d, w, ρ', h0, wf, k⟩ := q
  simp only [evOr, Option.bind_eq_bind, Option.bind_eq_some_iff, Option.pure_def, Option.some.injEq, Prod.exists, Prod.mk.injEq] at h0
  obtain ⟨d1, w1, ρ1, h1, rfl, rfl, rfl⟩ := h0
  exact ⟨F, ρ, _, w1, _, h1, wf, k⟩
theorem s_andC (ha : PE X a (tEv X.kw call xa)) (hb : PE X (.BoolOp .And (b :: rest) pos) (tL X.kw (evAnd call (xb :: xs)))) : PE X (.BoolOp .And (a :: b :: rest) pos) (tL X.kw (evAnd call (xa :: xb :: xs))) := by
  refine ⟨fun pins s σ H Q I q => (pe_and (pe_fr ha) hb).run pins s σ H Q I ?_⟩
  obtain ⟨F, ρ, d, w, ρ', h0, wf, k⟩ := q
  simp only [evAnd, Option.bind_eq_bind, Option.bind_eq_some_iff, Option.pure_def, Prod.exists] at h0
  obtain ⟨d1, w1, ρ1, h1, bb, h2, h3⟩ := h0
  obtain rfl := asB_of h2
  refine ⟨F, ρ, _, w1, ρ1, h1, wf, fun F1 H1 v1 l1 r1 => ?_⟩
  simp only [Rep] at r1
  refine ⟨bb, r1, ?_⟩
  cases bb with
  | false =>
    simp only [Bool.false_eq_true, if_false, Option.some.injEq, Prod.mk.injEq] at h3 ⊢
    obtain ⟨rfl, rfl, rfl⟩ := h3
    exact k F1 H1 _ l1 rep_bl
  | true =>
    simp only [if_true] at h3 ⊢
    exact ⟨F1, ρ1, d, w, ρ', h3, l1.wf, fun F2 H2 v2 l2 r2 => k F2 H2 v2 (l1.trans l2) r2⟩
theorem s_orC (ha : PE X a (tEv X.kw call xa)) (hb : PE X (.BoolOp .Or (b :: rest) pos) (tL X.kw (evOr call (xb :: xs)))) : PE X (.BoolOp .Or (a :: b :: rest) pos) (tL X.kw (evOr call (xa :: xb :: xs))) := by
  refine ⟨fun pins s σ H Q I q => (pe_or (pe_fr ha) hb).run pins s σ H Q I ?_⟩
  obtain ⟨F, ρ, d, w, ρ', h0, wf, k⟩ := q
  simp only [evOr, Option.bind_eq_bind, Option.bind_eq_some_iff, Option.pure_def, Prod.exists] at h0
  obtain ⟨d1, w1, ρ1, h1, bb, h2, h3⟩ := h0
  obtain rfl := asB_of h2
  refine ⟨F, ρ, _, w1, ρ1, h1, wf, fun F1 H1 v1 l1 r1 => ?_⟩
  simp only [Rep] at r1
  refine ⟨bb, r1, ?_⟩
  cases bb with
  | true =>
    simp only [if_true, Option.some.injEq, Prod.mk.injEq] at h3 ⊢
    obtain ⟨rfl, rfl, rfl⟩ := h3
    exact k F1 H1 _ l1 rep_bl
  | false =>
    simp only [Bool.false_eq_true, if_false] at h3 ⊢
    exact ⟨F1, ρ1, d, w, ρ', h3, l1.wf, fun F2 H2 v2 l2 r2 => k F2 H2 v2 (l1.trans l2) r2⟩
theorem s_and (h : PE X e (tL X.kw (evAnd call xs))) (hw : ∀ ρ d w ρ', evAnd call xs ρ = some (d, w, ρ') → w = false) : PE X e (tEv X.kw call (.and xs)) := by
  refine ⟨fun pins s σ H Q I q => h.run pins s σ H Q I ?_⟩
  obtain ⟨F, ρ, d, w, ρ', h0, wf, k⟩ := q
  simp only [ev] at h0
  obtain rfl := hw _ _ _ _ h0
  exact ⟨F, ρ, d, _, ρ', h0, wf, fun F' H' v l r => k F' H' v l (res_val r)⟩
theorem s_or (h : PE X e (tL X.kw (evOr call xs))) (hw : ∀ ρ d w ρ', evOr call xs ρ = some (d, w, ρ') → w = false) : PE X e (tEv X.kw call (.or xs)) := by
  refine ⟨fun pins s σ H Q I q => h.run pins s σ H Q I ?_⟩
  obtain ⟨F, ρ, d, w, ρ', h0, wf, k⟩ := q
  simp only [ev] at h0
  obtain rfl := hw _ _ _ _ h0
  exact ⟨F, ρ, d, _, ρ', h0, wf, fun F' H' v l r => k F' H' v l (res_val r)⟩
theorem evAnd_w : ∀ (xs : List PV.X) (ρ : Pl) d w ρ', evAnd call xs ρ = some (d, w, ρ') → w = false
  | [], ρ, d, w, ρ', h => by simp only [evAnd] at h; cases h
  | [x], ρ, d, w, ρ', h => by
    simp only [evAnd, Option.bind_eq_bind, Option.bind_eq_some_iff, Option.pure_def, Option.some.injEq, Prod.exists, Prod.mk.injEq] at h
    obtain ⟨d1, w1, ρ1, h1, rfl, rfl, rfl⟩ := h
    rfl
  | x :: y :: xs, ρ, d, w, ρ', h => by
    simp only [evAnd, Option.bind_eq_bind, Option.bind_eq_some_iff, Option.pure_def, Prod.exists] at h
    obtain ⟨d1, w1, ρ1, h1, bb, h2, h3⟩ := h
    cases bb with
    | false =>
      simp only [Bool.false_eq_true, if_false, Option.some.injEq, Prod.mk.injEq] at h3
      exact h3.2.1.symm
    | true =>
      simp only [if_true] at h3
      exact evAnd_w (y :: xs) ρ1 d w ρ' h3
theorem evOr_w : ∀ (xs : List PV.X) (ρ : Pl) d w ρ', evOr call xs ρ = some (d, w, ρ') → w = false
  | [], ρ, d, w, ρ', h => by simp only [evOr] at h; cases h
  | [x], ρ, d, w, ρ', h => by
    simp only [evOr, Option.bind_eq_bind, Option.bind_eq_some_iff, Option.pure_def, Option.some.injEq, Prod.exists, Prod.mk.injEq] at h
    obtain ⟨d1, w1, ρ1, h1, rfl, rfl, rfl⟩ := h
    rfl
  | x :: y :: xs, ρ, d, w, ρ', h => by
    simp only [evOr, Option.bind_eq_bind, Option.bind_eq_some_iff, Option.pure_def, Prod.exists] at h
    obtain ⟨d1, w1, ρ1, h1, bb, h2, h3⟩ := h
    cases bb with
    | true =>
      simp only [if_true, Option.some.injEq, Prod.mk.injEq] at h3
      exact h3.2.1.symm
    | false =>
      simp only [Bool.false_eq_true, if_false] at h3
      exact evOr_w (y :: xs) ρ1 d w ρ' h3
theorem t_and1 (ha : PT X a (tT X.kw call xa)) : PW X (.BoolOp .And [a] pos) (tLT X.kw (evAnd call [xa])) := by
  refine ⟨fun wh pins s σ H Q I q => (pw_and1 ha).run wh pins s σ H Q I ?_⟩
  obtain ⟨F, ρ, d, w, ρ', h0, wf, k⟩ := q
  simp only [evAnd, Option.bind_eq_bind, Option.bind_eq_some_iff, Option.pure_def, Option.some.injEq, Prod.exists, Prod.mk.injEq] at h0
  obtain ⟨d1, w1, ρ1, h1, rfl, rfl, rfl⟩ := h0
  exact ⟨F, ρ, _, w1, _, h1, wf, k⟩
theorem t_or1 (ha : PT X a (tT X.kw call xa)) : PW X (.BoolOp .Or [a] pos) (tLT X.kw (evOr call [xa])) := by
  refine ⟨fun wh pins s σ H Q I q => (pw_or1 ha).run wh pins s σ H Q I ?_⟩
  obtain ⟨F, ρ, d, w, ρ', h0, wf, k⟩ := q
  simp only [evOr, Option.bind_eq_bind, Option.bind_eq_some_iff, Option.pure_def, Option.some.injEq, Prod.exists, Prod.mk.injEq] at h0
  obtain ⟨d1, w1, ρ1, h1, rfl, rfl, rfl⟩ := h0
  exact ⟨F, ρ, _, w1, _, h1, wf, k⟩
theorem t_andC (ha : PT X a (tT X.kw call xa)) (hb : PW X (.BoolOp .And (b :: rest) pos) (tLT X.kw (evAnd call (xb :: xs)))) : PW X (.BoolOp .And (a :: b :: rest) pos) (tLT X.kw (evAnd call (xa :: xb :: xs))) := by
  refine ⟨fun wh pins s σ H Q I q => (pw_and ha hb).run wh pins s σ H Q I ?_⟩
  obtain ⟨F, ρ, d, w, ρ', h0, wf, k⟩ := q
  simp only [evAnd, Option.bind_eq_bind, Option.bind_eq_some_iff, Option.pure_def, Prod.exists] at h0
  obtain ⟨d1, w1, ρ1, h1, bb, h2, h3⟩ := h0
  obtain rfl := asB_of h2
  refine ⟨F, ρ, bb, w1, ρ1, h1, wf, fun F1 H1 l1 => ?_⟩
  cases bb with
  | false =>
    simp only [Bool.false_eq_true, if_false, Option.some.injEq, Prod.mk.injEq, PyData.bool.injEq] at h3 ⊢
    obtain ⟨rfl, rfl, rfl⟩ := h3
    exact k F1 H1 l1
  | true =>
    simp only [if_true] at h3 ⊢
    exact ⟨F1, ρ1, d, w, ρ', h3, l1.wf, fun F2 H2 l2 => k F2 H2 (l1.trans l2)⟩
theorem t_orC (ha : PT X a (tT X.kw call xa)) (hb : PW X (.BoolOp .Or (b :: rest) pos) (tLT X.kw (evOr call (xb :: xs)))) : PW X (.BoolOp .Or (a :: b :: rest) pos) (tLT X.kw (evOr call (xa :: xb :: xs))) := by
  refine ⟨fun wh pins s σ H Q I q => (pw_or ha hb).run wh pins s σ H Q I ?_⟩
  obtain ⟨F, ρ, d, w, ρ', h0, wf, k⟩ := q
  simp only [evOr, Option.bind_eq_bind, Option.bind_eq_some_iff, Option.pure_def, Prod.exists] at h0
  obtain ⟨d1, w1, ρ1, h1, bb, h2, h3⟩ := h0
  obtain rfl := asB_of h2
  refine ⟨F, ρ, bb, w1, ρ1, h1, wf, fun F1 H1 l1 => ?_⟩
  cases bb with
  | true =>
    simp only [if_true, Option.some.injEq, Prod.mk.injEq, PyData.bool.injEq] at h3 ⊢
    obtain ⟨rfl, rfl, rfl⟩ := h3
    exact k F1 H1 l1
  | false =>
    simp only [Bool.false_eq_true, if_false] at h3 ⊢
    exact ⟨F1, ρ1, d, w, ρ', h3, l1.wf, fun F2 H2 l2 => k F2 H2 (l1.trans l2)⟩
theorem t_and (h : PW X e (tLT X.kw (evAnd call xs))) : PT X e (tT X.kw call (.and xs)) := h.pt
theorem t_or (h : PW X e (tLT X.kw (evOr call xs))) : PT X e (tT X.kw call (.or xs)) := h.pt
theorem s_not (ha : PE X a (tEv X.kw call xa)) : PE X (.UnaryOp .Not a pos) (tEv X.kw call (.not xa)) := by
  refine ⟨fun pins s σ H Q I q => (pe_not (pe_fr ha)).run pins s σ H Q I ?_⟩
  obtain ⟨F, ρ, d, w, ρ', h0, wf, k⟩ := q
  simp only [ev, Option.bind_eq_bind, Option.bind_eq_some_iff, Option.pure_def, Option.some.injEq, Prod.exists, Prod.mk.injEq] at h0
  obtain ⟨d1, w1, ρ1, h1, bb, h2, rfl, rfl, rfl⟩ := h0
  obtain rfl := asB_of h2
  refine ⟨F, ρ, _, w1, _, h1, wf, fun F1 H1 v1 l1 r1 => ?_⟩
  simp only [Rep] at r1
  exact ⟨bb, r1, k F1 H1 _ l1 (res_val rep_bl)⟩
theorem s_notT (ha : PT X a (tT X.kw call xa)) : PT X (.UnaryOp .Not a pos) (tT X.kw call (.not xa)) := by
  refine ⟨fun pins s σ H Q I q => (pt_not ha).run pins s σ H Q I ?_⟩
  obtain ⟨F, ρ, d, w, ρ', h0, wf, k⟩ := q
  simp only [ev, Option.bind_eq_bind, Option.bind_eq_some_iff, Option.pure_def, Option.some.injEq, Prod.exists, Prod.mk.injEq, PyData.bool.injEq] at h0
  obtain ⟨d1, w1, ρ1, h1, bb, h2, rfl, rfl, rfl⟩ := h0
  obtain rfl := asB_of h2
  exact ⟨F, ρ, bb, w1, _, h1, wf, fun F1 H1 l1 => k F1 H1 l1⟩
theorem s_ite (hc : PT X c (tT X.kw call xc)) (ha : PE X a (tEv X.kw call xa)) (hb : PE X b (tEv X.kw call xb)) : PE X (.IfExp c a b pos) (tEv X.kw call (.ite xc xa xb)) := by
  refine ⟨fun pins s σ H Q I q => (pe_ifExp hc ha hb).run pins s σ H Q I ?_⟩
  obtain ⟨F, ρ, d, w, ρ', h0, wf, k⟩ := q
  simp only [ev, Option.bind_eq_bind, Option.bind_eq_some_iff, Option.pure_def, Prod.exists] at h0
  obtain ⟨d1, w1, ρ1, h1, bb, h2, h3⟩ := h0
  obtain rfl := asB_of h2
  refine ⟨F, ρ, bb, w1, ρ1, h1, wf, fun F1 H1 l1 => ?_⟩
  cases bb with
  | true =>
    simp only [if_true] at h3 ⊢
    exact ⟨F1, ρ1, d, w, ρ', h3, l1.wf, fun F2 H2 v2 l2 r2 => k F2 H2 v2 (l1.trans l2) (Res.trans l1 r2)⟩
  | false =>
    simp only [Bool.false_eq_true, if_false] at h3 ⊢
    exact ⟨F1, ρ1, d, w, ρ', h3, l1.wf, fun F2 H2 v2 l2 r2 => k F2 H2 v2 (l1.trans l2) (Res.trans l1 r2)⟩
/-! items in a row -/
theorem s_evs0 : PA X [] (tEvs X.kw call []) := by
  refine ⟨fun pos pins s σ H Q I q => pa_nil.run pos pins s σ H Q I ?_⟩
  obtain ⟨F, ρ, ds, ρ', h0, wf, k⟩ := q
  simp only [evs] at h0
  cases h0
  exact k F H [] wf.live RepL.nil
theorem s_evsC (ha : PE X a (tEv X.kw call xa)) (hr : PA X rest (tEvs X.kw call xs)) (hs : starEach (a :: rest) X.env = (false, eval a X.env) :: starEach rest X.env) : PA X (a :: rest) (tEvs X.kw call (xa :: xs)) := by
  refine ⟨fun pos pins s σ H Q I q => (pa_cons (pe_fr ha) hr hs).run pos pins s σ H Q I ?_⟩
  obtain ⟨F, ρ, ds, ρ', h0, wf, k⟩ := q
  simp only [evs, Option.bind_eq_bind, Option.bind_eq_some_iff, Option.pure_def, Option.some.injEq, Prod.exists, Prod.mk.injEq] at h0
  obtain ⟨d1, w1, ρ1, h1, ds2, ρ2, h2, rfl, rfl⟩ := h0
  refine ⟨F, ρ, d1, w1, ρ1, h1, wf, fun F1 H1 v1 l1 r1 => ⟨F1, ρ1, ds2, _, h2, l1.wf, fun F2 H2 vs l2 r2 => ?_⟩⟩
  exact k F2 H2 (v1 :: vs) (l1.trans l2) (RepL.cons (Rep.sub l2.ff _ _ r1) r2)
theorem s_ops0 : PA X [] (tOps X.kw call []) := by
  refine ⟨fun pos pins s σ H Q I q => pa_nil.run pos pins s σ H Q I ?_⟩
  obtain ⟨F, ρ, ds, ρ', h0, wf, k⟩ := q
  simp only [evOs] at h0
  cases h0
  exact k F H [] wf.live rfl
theorem s_opsC (ha : PE X a (tOp X.kw call xa)) (hr : PA X rest (tOps X.kw call xs)) (hs : starEach (a :: rest) X.env = (false, eval a X.env) :: starEach rest X.env) : PA X (a :: rest) (tOps X.kw call (xa :: xs)) := by
  refine ⟨fun pos pins s σ H Q I q => (pa_cons ha hr hs).run pos pins s σ H Q I ?_⟩
  obtain ⟨F, ρ, ds, ρ', h0, wf, k⟩ := q
  simp only [evOs, Option.bind_eq_bind, Option.bind_eq_some_iff, Option.pure_def, Option.some.injEq, Prod.exists, Prod.mk.injEq] at h0
  obtain ⟨d1, ρ1, h1, ds2, ρ2, h2, rfl, rfl⟩ := h0
  refine ⟨F, ρ, d1, ρ1, h1, wf, fun F1 H1 v1 l1 r1 => ⟨F1, ρ1, ds2, _, h2, l1.wf, fun F2 H2 vs l2 r2 => ?_⟩⟩
  exact k F2 H2 (v1 :: vs) (l1.trans l2) ⟨v1, vs, rfl, r1.sub l2.ff, r2⟩
theorem s_tup {n : Nat} (h : PA X rest (tEvs X.kw call xs)) (hl : xs.length ≤ 1000) : PE X (.Tuple rest n pos) (tEv X.kw call (.tup xs)) := by
  refine ⟨fun pins s σ H Q I q => (pe_tupU h).run pins s σ H Q I ?_⟩
  obtain ⟨F, ρ, d, w, ρ', h0, wf, k⟩ := q
  simp only [ev, Option.bind_eq_bind, Option.bind_eq_some_iff, Option.pure_def, Option.some.injEq, Prod.exists, Prod.mk.injEq] at h0
  obtain ⟨ds, ρ1, h1, rfl, rfl, rfl⟩ := h0
  refine ⟨F, ρ, ds, _, h1, wf, fun F1 H1 vs l1 r1 => ⟨?_, fun p o hp ho => ?_⟩⟩
  · rw [r1.length, evs_len h1]
    exact Nat.le_trans hl (by rw [sizeLine_eq]; decide)
  · refine opQ.newT (fun F' H' v post res => ?_) l1.wf.sub r1 hp ho
    exact k F' H' v (l1.trans (post.live l1.wf)) (Res.trans l1 (res.res l1.wf))
theorem s_lst (h : PA X rest (tEvs X.kw call xs)) (hl : xs.length ≤ 1000) : PE X (.List rest pos) (tEv X.kw call (.lst xs)) := by
  refine ⟨fun pins s σ H Q I q => (pe_lst h).run pins s σ H Q I ?_⟩
  obtain ⟨F, ρ, d, w, ρ', h0, wf, k⟩ := q
  simp only [ev, Option.bind_eq_bind, Option.bind_eq_some_iff, Option.pure_def, Option.some.injEq, Prod.exists, Prod.mk.injEq] at h0
  obtain ⟨ds, ρ1, h1, rfl, rfl, rfl⟩ := h0
  refine ⟨F, ρ, ds, _, h1, wf, fun F1 H1 vs l1 r1 => ⟨?_, fun p hp => ?_⟩⟩
  · rw [r1.length, evs_len h1]
    exact Nat.le_trans hl (by rw [sizeLine_eq]; decide)
  · refine opQ.newL (fun F' H' v post res => ?_) l1.wf.sub r1 hp
    exact k F' H' v (l1.trans (post.live l1.wf)) (Res.trans l1 (res.res l1.wf))
theorem s_dic0 : PE X (.Dict [] [] pos) (tEv X.kw call .dic0) := by
  refine ⟨fun pins s σ H Q I q => pe_dnewK.run pins s σ H Q I ?_⟩
  obtain ⟨F, ρ, d, w, ρ', h0, wf, k⟩ := q
  simp only [ev] at h0
  cases h0
  intro p hp
  refine opQ.newD (K := X.kw) (kvs := []) (fun F' H' v post res => ?_) wf.sub (by simp only [RepK]) hp
  exact k F' H' v (post.live wf) (res.res wf)
theorem s_idx (hu : X.A.units + 65 < cLine) (ha : PE X a (tOp X.kw call xa)) (hb : PE X b (tOp X.kw call xb)) (hs : PlainIx b) : PE X (.Subscript a b pos) (tEv X.kw call (.idx xa xb)) := by
  refine ⟨fun pins s σ H Q I q => (pe_ix (idx_ok hu) ha hb hs).run pins s σ H Q I ?_⟩
  obtain ⟨F, ρ, d, w, ρ', h0, wf, k⟩ := q
  simp only [ev, Option.bind_eq_bind, Option.bind_eq_some_iff, Option.pure_def, Option.some.injEq, Prod.exists, Prod.mk.injEq] at h0
  obtain ⟨o1, ρ1, h1, o2, ρ2, h2, d1, h3, d2, h4, r, h5, rfl, rfl, rfl⟩ := h0
  refine ⟨F, ρ, o1, ρ1, h1, wf, fun F1 H1 v1 l1 p1 => ⟨F1, ρ1, o2, ρ2, h2, l1.wf, fun F2 H2 v2 l2 p2 => ?_⟩⟩
  refine ⟨F2, d1, d2, _, h5, l2.wf.sub, (p1.sub l2.ff).repT l2.wf h3, p2.repT l2.wf h4, fun F3 H3 v3 post res => ?_⟩
  have l12 := l1.trans l2
  exact k F3 H3 v3 (l12.trans (post.live l2.wf)) (Res.trans l12 (res.res l2.wf))
def tOI (K : KW) (call : Call) (xo : Option PV.X) : TO := fun σ H Q => ∃ F ρ o ρ', evOI call xo ρ = some (o, ρ') ∧ Wf K F H ρ σ ∧ ∀ F' H', Live K ⟨F, H, ρ, σ⟩ F' H' ρ' σ → Q o H'
theorem s_po0 : PO X none (tOI X.kw call none) := by
  refine ⟨fun pins s σ H Q I q => po_none.run pins s σ H Q I ?_⟩
  obtain ⟨F, ρ, o, ρ', h0, wf, k⟩ := q
  simp only [evOI] at h0
  cases h0
  exact k F H wf.live
theorem s_po1 (ha : PE X a (tEv X.kw call xa)) : PO X (some a) (tOI X.kw call (some xa)) := by
  refine ⟨fun pins s σ H Q I q => (po_some (pe_fr ha)).run pins s σ H Q I ?_⟩
  obtain ⟨F, ρ, o, ρ', h0, wf, k⟩ := q
  simp only [evOI, Option.bind_eq_bind, Option.bind_eq_some_iff, Option.pure_def, Option.some.injEq, Prod.exists, Prod.mk.injEq] at h0
  obtain ⟨d1, w1, ρ1, h1, i, h2, rfl, rfl⟩ := h0
  refine ⟨F, ρ, d1, w1, _, h1, wf, fun F1 H1 v1 l1 r1 => ?_⟩
  cases d1 <;> simp [asI] at h2
  subst h2
  simp only [Rep] at r1
  exact ⟨_, r1, k F1 H1 l1⟩
theorem s_slc {lo hi : Option Expr} {xl xh : Option PV.X} {p2 : Pos} (ha : PE X a (tOp X.kw call xa)) (hl : PO X lo (tOI X.kw call xl)) (hh : PO X hi (tOI X.kw call xh)) : PE X (.Subscript a (.Slice lo hi none p2) pos) (tEv X.kw call (.slc xa xl xh)) := by
  refine ⟨fun pins s σ H Q I q => (pe_slice slc_ok ha hl hh).run pins s σ H Q I ?_⟩
  obtain ⟨F, ρ, d, w, ρ', h0, wf, k⟩ := q
  simp only [ev, Option.bind_eq_bind, Option.bind_eq_some_iff, Option.pure_def, Option.some.injEq, Prod.exists, Prod.mk.injEq] at h0
  obtain ⟨o1, ρ1, h1, i1, ρ2, h2, i2, ρ3, h3, d1, h4, r, w', h5, rfl, rfl, rfl⟩ := h0
  refine ⟨F, ρ, o1, ρ1, h1, wf, fun F1 H1 v1 l1 p1 => ⟨F1, ρ1, i1, ρ2, h2, l1.wf, fun F2 H2 l2 => ⟨F2, ρ2, i2, _, h3, l2.wf, fun F3 H3 l3 => ?_⟩⟩⟩
  refine ⟨F3, d1, _, _, h5, l3.wf.sub, ((p1.sub l2.ff).sub l3.ff).repT l3.wf h4, fun F4 H4 v4 post res => ?_⟩
  have l123 := (l1.trans l2).trans l3
  exact k F4 H4 v4 (l123.trans (post.live l3.wf)) (Res.trans l123 (res.res l3.wf))
end
end PV

set_option Elab.async false
set_option linter.all false
set_option maxRecDepth 100000
set_option maxHeartbeats 1000000
/-! PV: calls of defs. -/
namespace PV
open PySem L2 PyProof.Rows
section
variable {K : KW} {F H F' H' : Hp} {ρ ρ' : Pl} {σ : Sg}
theorem lend_get : ∀ {os : List Op} {as : List (D × Bool)} {j : Nat} {p : D × Bool}, lend ρ os = some as → as[j]? = some p → ∃ o, os[j]? = some o ∧ fetch ρ o = some p.1 ∧ p.2 = isSl o
  | [], as, j, p, h, e => by
    simp only [lend, Option.some.injEq] at h
    subst h
    simp at e
  | o :: os, as, j, p, h, e => by
    simp only [lend, Option.bind_eq_bind, Option.bind_eq_some_iff, Option.pure_def, Option.some.injEq] at h
    obtain ⟨d, h1, ds, h2, rfl⟩ := h
    cases j with
    | zero =>
      simp at e
      subst e
      exact ⟨o, rfl, h1, rfl⟩
    | succ j =>
      obtain ⟨o', h3, h4⟩ := lend_get (j := j) h2 (by simpa using e)
      exact ⟨o', by simpa using h3, h4⟩
theorem lend_len : ∀ {os : List Op} {as : List (D × Bool)}, lend ρ os = some as → as.length = os.length
  | [], as, h => by
    simp only [lend, Option.some.injEq] at h
    subst h; rfl
  | o :: os, as, h => by
    simp only [lend, Option.bind_eq_bind, Option.bind_eq_some_iff, Option.pure_def, Option.some.injEq] at h
    obtain ⟨d, h1, ds, h2, rfl⟩ := h
    simp [lend_len h2]
theorem opVs_get : ∀ {os : List Op} {vs : List V} {j : Nat} {o : Op}, OpVs K F σ os vs → os[j]? = some o → ∃ v, vs[j]? = some v ∧ OpV K F σ o v
  | [], vs, j, o, h, e => by simp at e
  | o :: os, vs, j, o', h, e => by
    obtain ⟨v, r, rfl, h1, h2⟩ := h
    cases j with
    | zero =>
      simp at e
      subst e
      exact ⟨v, rfl, h1⟩
    | succ j =>
      obtain ⟨v', h3, h4⟩ := opVs_get (j := j) h2 (by simpa using e)
      exact ⟨v', by simpa using h3, h4⟩
theorem opVs_len : ∀ {os : List Op} {vs : List V}, OpVs K F σ os vs → vs.length = os.length
  | [], vs, h => by have h : vs = [] := h; subst h; rfl
  | o :: os, vs, h => by
    obtain ⟨v, r, rfl, h1, h2⟩ := h
    simp [opVs_len h2]
theorem opVs_append : ∀ {os os' : List Op} {vs vs' : List V}, OpVs K F σ os vs → OpVs K F σ os' vs' → OpVs K F σ (os ++ os') (vs ++ vs')
  | [], os', vs, vs', h, h' => by have h : vs = [] := h; subst h; exact h'
  | o :: os, os', vs, vs', h, h' => by
    obtain ⟨v, r, rfl, h1, h2⟩ := h
    exact ⟨v, r ++ vs', rfl, h1, opVs_append h2 h'⟩
theorem mem_slots : ∀ {os : List Op} {j i : Nat}, os[j]? = some (.sl i) → i ∈ slotsOf os
  | [], j, i, h => by simp at h
  | .dv d :: os, j, i, h => by
    cases j with
    | zero => simp at h
    | succ j => exact mem_slots (os := os) (j := j) (by simpa using h)
  | .sl k :: os, j, i, h => by
    cases j with
    | zero =>
      simp at h
      subst h
      exact List.mem_cons_self
    | succ j => exact List.mem_cons_of_mem _ (mem_slots (os := os) (j := j) (by simpa using h))
theorem slots_inj : ∀ {os : List Op} {j k i : Nat}, distinct (slotsOf os) = true → os[j]? = some (.sl i) → os[k]? = some (.sl i) → j = k
  | [], j, k, i, _, h, _ => by simp at h
  | .dv d :: os, j, k, i, hd, h, h' => by
    cases j with
    | zero => simp at h
    | succ j =>
      cases k with
      | zero => simp at h'
      | succ k => rw [slots_inj (os := os) (j := j) (k := k) hd (by simpa using h) (by simpa using h')]
  | .sl m :: os, j, k, i, hd, h, h' => by
    simp only [slotsOf, distinct, Bool.and_eq_true, Bool.not_eq_true', List.contains_eq_mem, decide_eq_false_iff_not] at hd
    cases j with
    | zero =>
      cases k with
      | zero => rfl
      | succ k =>
        simp at h
        subst h
        exact absurd (mem_slots (os := os) (j := k) (by simpa using h')) hd.1
    | succ j =>
      cases k with
      | zero =>
        simp at h'
        subst h'
        exact absurd (mem_slots (os := os) (j := j) (by simpa using h)) hd.1
      | succ k => rw [slots_inj (os := os) (j := j) (k := k) hd.2 (by simpa using h) (by simpa using h')]
theorem fetch_sl {i : Nat} {d : D} (h : fetch ρ (.sl i) = some d) : ∃ s, ρ[i]? = some s ∧ own? s = some d := by
  have h : (match ρ[i]? with
      | some (.ow d) => some d
      | some (.bo d) => some d
      | _ => none) = some d := h
  split at h
  · rename_i e; cases h; exact ⟨_, e, rfl⟩
  · rename_i e; cases h; exact ⟨_, e, rfl⟩
  · cases h
theorem slotA_fr {p : D × Bool} {d : D} (h : val? (slotA p) = some d) : p = (d, false) := by
  obtain ⟨e, b⟩ := p
  cases b <;> simp [slotA, val?] at h ⊢
  exact h
theorem slotA_own {p : D × Bool} {d : D} (h : own? (slotA p) = some d) : p = (d, true) := by
  obtain ⟨e, b⟩ := p
  cases b <;> simp [slotA, own?] at h ⊢
  exact h
/-- a callee's places at the call -/
theorem lend_wf {os : List Op} {as : List (D × Bool)} {vs : List V} (wf : Wf K F H ρ σ) (ho : OpVs K F σ os vs) (hl : lend ρ os = some as) (hd : distinct (slotsOf os) = true) : Wf K F H (as.map slotA) (vs.map some) := by
  have get : ∀ (j : Nat) (s : Slot), (as.map slotA)[j]? = some s → ∃ p o v, as[j]? = some p ∧ s = slotA p ∧ os[j]? = some o ∧ fetch ρ o = some p.1 ∧ p.2 = isSl o ∧ vs[j]? = some v ∧ OpV K F σ o v := fun j s h => by
    rw [List.getElem?_map] at h
    obtain ⟨p, h1, h2⟩ := Option.map_eq_some_iff.mp h
    obtain ⟨o, h3, h4, h5⟩ := lend_get hl h1
    obtain ⟨v, h6, h7⟩ := opVs_get ho h3
    exact ⟨p, o, v, h1, h2.symm, h3, h4, h5, h6, h7⟩
  have owns : ∀ (j : Nat) (s : Slot) (d : D), (as.map slotA)[j]? = some s → own? s = some d → ∃ i t a, os[j]? = some (.sl i) ∧ ρ[i]? = some t ∧ own? t = some d ∧ σ[i]? = some (some (.ref a)) ∧ vs[j]? = some (.ref a) ∧ F a = none ∧ Obj K F H a d := fun j s d h1 h2 => by
    obtain ⟨p, o, v, q1, rfl, q3, q4, q5, q6, q7⟩ := get j s h1
    obtain rfl := slotA_own h2
    cases o with
    | dv e => simp [isSl] at q5
    | sl i =>
      obtain ⟨t, h3, h4⟩ := fetch_sl q4
      obtain ⟨a, h5, h6, h7⟩ := wf.own i t d h3 h4
      have q7 : σ[i]? = some (some v) := q7
      rw [h5] at q7
      cases q7
      exact ⟨i, t, a, q3, h3, h4, h5, q6, h6, h7⟩
  refine ⟨wf.sub, ?_, fun j s d h1 h2 => ?_, fun j s d h1 h2 => ?_, fun j k s t d e a h1 h2 h3 h4 h5 h6 => ?_⟩
  · rw [List.length_map, List.length_map, lend_len hl, opVs_len ho]
  · obtain ⟨p, o, v, q1, rfl, q3, q4, q5, q6, q7⟩ := get j s h1
    obtain rfl := slotA_fr h2
    refine ⟨v, by rw [List.getElem?_map, q6]; rfl, ?_⟩
    cases o with
    | sl i => simp [isSl] at q5
    | dv e =>
      have q4 : some e = some d := q4
      cases q4
      exact q7
  · obtain ⟨i, t, a, z1, z2, z3, z4, z5, z6, z7⟩ := owns j s d h1 h2
    exact ⟨a, by rw [List.getElem?_map, z5]; rfl, z6, z7⟩
  · obtain ⟨i, t1, a1, z1, z2, z3, z4, z5, z6, z7⟩ := owns j s d h1 h3
    obtain ⟨i2, t2, a2, y1, y2, y3, y4, y5, y6, y7⟩ := owns k t e h2 h4
    rw [List.getElem?_map, z5] at h5
    rw [List.getElem?_map, y5] at h6
    cases h5
    cases h6
    have := wf.sep i i2 _ _ _ _ a z2 y2 z3 y3 z4 y4
    subst this
    exact slots_inj hd z1 y1
/-- how a lent place comes back -/
def Back (s : Slot) (t : Slot) (s' : Slot) : Prop :=
  (∃ d0 d, s = .ow d0 ∧ t = .bo d ∧ s' = .ow d) ∨ (∃ d0 d, s = .bo d0 ∧ t = .bo d ∧ s' = .bo d) ∨ (∃ d0 d, s = .ow d0 ∧ t = .bf d ∧ s' = .fr d) ∨ (∃ d0 d, s = .bo d0 ∧ t = .bf d ∧ s' = .bf d)
theorem giveBack_at : ∀ {os : List Op} {ss : List Slot} {ρ ρ' : Pl}, giveBack ρ os ss = some ρ' → distinct (slotsOf os) = true → ρ'.length = ρ.length ∧
    ∀ (i : Nat) (s' : Slot), ρ'[i]? = some s' → (i ∉ slotsOf os ∧ ρ[i]? = some s') ∨ ∃ (j : Nat) (s t : Slot), os[j]? = some (Op.sl i) ∧ ρ[i]? = some s ∧ ss[j]? = some t ∧ Back s t s'
  | [], ss, ρ, ρ', h, _ => by
    cases ss with
    | nil =>
      simp only [giveBack, Option.some.injEq] at h
      subst h
      exact ⟨rfl, fun i s' h => .inl ⟨by simp [slotsOf], h⟩⟩
    | cons s ss => simp [giveBack] at h
  | .dv d :: os, ss, ρ, ρ', h, hd => by
    cases ss with
    | nil => simp [giveBack] at h
    | cons s ss =>
      simp only [giveBack] at h
      obtain ⟨h1, h2⟩ := giveBack_at h hd
      refine ⟨h1, fun i s' h3 => ?_⟩
      rcases h2 i s' h3 with z | ⟨j, s, t, z1, z2, z3, z4⟩
      · exact .inl z
      · exact .inr ⟨j + 1, s, t, by simpa using z1, z2, by simpa using z3, z4⟩
  | .sl m :: os, ss, ρ, ρ', h, hd => by
    cases ss with
    | nil => simp [giveBack] at h
    | cons t ss =>
      simp only [slotsOf, distinct, Bool.and_eq_true, Bool.not_eq_true', List.contains_eq_mem, decide_eq_false_iff_not] at hd
      have go : ∀ s s2, ρ[m]? = some s → Back s t s2 → giveBack (ρ.set m s2) os ss = some ρ' → ρ'.length = ρ.length ∧
          ∀ (i : Nat) (s' : Slot), ρ'[i]? = some s' → (i ∉ slotsOf (.sl m :: os) ∧ ρ[i]? = some s') ∨ ∃ (j : Nat) (s t' : Slot), (Op.sl m :: os)[j]? = some (Op.sl i) ∧ ρ[i]? = some s ∧ (t :: ss)[j]? = some t' ∧ Back s t' s' := fun s s2 e1 e2 e3 => by
        obtain ⟨h1, h2⟩ := giveBack_at e3 hd.2
        refine ⟨by rw [h1, List.length_set], fun i s' h3 => ?_⟩
        rcases h2 i s' h3 with ⟨z0, z⟩ | ⟨j, s3, t3, z1, z2, z3, z4⟩
        · rcases set_at z with ⟨rfl, rfl⟩ | ⟨hi, z⟩
          · exact .inr ⟨0, s, t, rfl, e1, rfl, e2⟩
          · refine .inl ⟨?_, z⟩
            simp only [slotsOf, List.mem_cons, not_or]
            exact ⟨hi, z0⟩
        · rcases set_at z2 with ⟨rfl, rfl⟩ | ⟨hi, z2⟩
          · exact absurd (mem_slots z1) hd.1
          · exact .inr ⟨j + 1, s3, t3, by simpa using z1, z2, by simpa using z3, z4⟩
      simp only [giveBack] at h
      split at h
      · rename_i e1
        exact go _ _ e1 (.inl ⟨_, _, rfl, rfl, rfl⟩) h
      · rename_i e1
        exact go _ _ e1 (.inr (.inl ⟨_, _, rfl, rfl, rfl⟩)) h
      · rename_i e1
        exact go _ _ e1 (.inr (.inr (.inl ⟨_, _, rfl, rfl, rfl⟩))) h
      · rename_i e1
        exact go _ _ e1 (.inr (.inr (.inr ⟨_, _, rfl, rfl, rfl⟩))) h
      · cases h
/-- behind a call -/
theorem call_live {os : List Op} {as : List (D × Bool)} {vs : List V} {ss : List Slot} (wf : Wf K F H ρ σ) (ho : OpVs K F σ os vs) (hl : lend ρ os = some as) (hd : distinct (slotsOf os) = true)
    (l : Live K ⟨F, H, as.map slotA, vs.map some⟩ F' H' ss (vs.map some)) (hg : giveBack ρ os ss = some ρ') : Live K ⟨F, H, ρ, σ⟩ F' H' ρ' σ ∧ ∀ a, OwA ρ' σ a → OwA ρ σ a := by
  obtain ⟨glen, gat⟩ := giveBack_at hg hd
  -- what was lent is one's own
  have noO : ∀ a, ¬ OwA (as.map slotA) (vs.map some) a := fun a ⟨j, d, h1, _⟩ => by
    rw [List.getElem?_map] at h1
    obtain ⟨p, _, h2⟩ := Option.map_eq_some_iff.mp h1
    unfold slotA at h2
    split at h2 <;> cases h2
  have lentB : ∀ a, BoA (as.map slotA) (vs.map some) a → ∃ (j i : Nat) (t : Slot) (d : D), os[j]? = some (.sl i) ∧ ρ[i]? = some t ∧ own? t = some d ∧ σ[i]? = some (some (.ref a)) := fun a ⟨j, d, h1, h2⟩ => by
    rw [List.getElem?_map] at h1 h2
    obtain ⟨p, h3, h4⟩ := Option.map_eq_some_iff.mp h1
    obtain rfl := slotA_own (d := d) (by rw [h4]; rfl)
    obtain ⟨o, h5, h6, h7⟩ := lend_get hl h3
    cases o with
    | dv e => simp [isSl] at h7
    | sl i =>
      obtain ⟨t, h8, h9⟩ := fetch_sl h6
      obtain ⟨v, h10, h11⟩ := opVs_get ho h5
      rw [h10] at h2
      cases h2
      exact ⟨j, i, t, d, h5, h8, h9, h11⟩
  have ownB : ∀ a, BoA (as.map slotA) (vs.map some) a → OwA ρ σ a ∨ BoA ρ σ a := fun a h => by
    obtain ⟨j, i, t, d, h1, h2, h3, h4⟩ := lentB a h
    cases t <;> simp [own?] at h3
    · exact .inl ⟨i, _, h2, h4⟩
    · exact .inr ⟨i, _, h2, h4⟩
  -- a place behind, by what it was
  have was : ∀ (i : Nat) (s' : Slot) (d : D), ρ'[i]? = some s' → own? s' = some d → ∃ s d0, ρ[i]? = some s ∧ own? s = some d0 ∧ (s = .ow d0 ↔ s' = .ow d) := fun i s' d h1 h2 => by
    rcases gat i s' h1 with ⟨_, z⟩ | ⟨j, s, t, z1, z2, z3, z4⟩
    · cases s' <;> simp [own?] at h2
      · subst h2; exact ⟨_, _, z, rfl, by simp⟩
      · subst h2; exact ⟨_, _, z, rfl, by simp⟩
    · rcases z4 with ⟨d0, d1, rfl, rfl, rfl⟩ | ⟨d0, d1, rfl, rfl, rfl⟩ | ⟨d0, d1, rfl, rfl, rfl⟩ | ⟨d0, d1, rfl, rfl, rfl⟩ <;> simp [own?] at h2
      · subst h2; exact ⟨_, _, z2, rfl, by simp⟩
      · subst h2; exact ⟨_, _, z2, rfl, by simp⟩
  have ow : ∀ a, OwA ρ' σ a → OwA ρ σ a := fun a h => by
    obtain ⟨i, d, h1, h2⟩ := h
    obtain ⟨s0, d0, q1, q2, q3⟩ := was i _ d h1 rfl
    refine ⟨i, d0, ?_, h2⟩
    rw [← q3.mpr rfl]; exact q1
  refine ⟨?_, ow⟩
  refine ⟨⟨l.wf.sub, glen.trans wf.len, fun i s' d h1 h2 => ?_, fun i s' d h1 h2 => ?_, fun i j s t d e a h1 h2 h3 h4 h5 h6 => ?_⟩, l.ff, fun a o h nO nB => ?_, l.dom, fun a o h n => ?_, fun a h => ?_, fun i d h => ?_, fun i d h => ?_⟩
  · rcases gat i s' h1 with ⟨_, z⟩ | ⟨j, s, t, z1, z2, z3, z4⟩
    · obtain ⟨v, y1, y2⟩ := wf.fr i s' d z h2
      exact ⟨v, y1, Rep.sub l.ff d v y2⟩
    · have key : ∀ d1, t = .bf d1 → d1 = d → ∃ v, σ[i]? = some (some v) ∧ Rep K F' d v := fun d1 e1 e2 => by
        subst e2
        obtain ⟨v, y1, y2⟩ := l.wf.fr j t d1 z3 (by rw [e1]; rfl)
        rw [List.getElem?_map] at y1
        obtain ⟨v', y3, y4⟩ := Option.map_eq_some_iff.mp y1
        cases y4
        obtain ⟨v2, y5, y6⟩ := opVs_get ho z1
        rw [y3] at y5
        cases y5
        exact ⟨v, y6, y2⟩
      rcases z4 with ⟨d0, d1, rfl, rfl, rfl⟩ | ⟨d0, d1, rfl, rfl, rfl⟩ | ⟨d0, d1, rfl, rfl, rfl⟩ | ⟨d0, d1, rfl, rfl, rfl⟩ <;> simp [val?] at h2
      · exact key d1 rfl h2
      · exact key d1 rfl h2
  · rcases gat i s' h1 with ⟨z0, z⟩ | ⟨j, s, t, z1, z2, z3, z4⟩
    · obtain ⟨a, y1, y2, y3⟩ := wf.own i s' d z h2
      have nB : ¬ BoA (as.map slotA) (vs.map some) a := fun q => by
        obtain ⟨j, i2, t, d2, q1, q2, q3, q4⟩ := lentB a q
        have := wf.sep i i2 _ _ _ _ a z q2 h2 q3 y1 q4
        subst this
        exact z0 (mem_slots q1)
      obtain ⟨y4, y5, _, _⟩ := l.keep (a := a) (d := d) y3 y2 (noO a) nB
      exact ⟨a, y1, y5, y4⟩
    · have key : ∀ d1, t = .bo d1 → d1 = d → ∃ a, σ[i]? = some (some (.ref a)) ∧ F' a = none ∧ Obj K F' H' a d := fun d1 e1 e2 => by
        subst e2
        obtain ⟨a, y1, y2, y7⟩ := l.wf.own j t d1 z3 (by rw [e1]; rfl)
        rw [List.getElem?_map] at y1
        obtain ⟨v', y3, y4⟩ := Option.map_eq_some_iff.mp y1
        cases y4
        obtain ⟨v2, y5, y6⟩ := opVs_get ho z1
        rw [y3] at y5
        cases y5
        exact ⟨a, y6, y2, y7⟩
      rcases z4 with ⟨d0, d1, rfl, rfl, rfl⟩ | ⟨d0, d1, rfl, rfl, rfl⟩ | ⟨d0, d1, rfl, rfl, rfl⟩ | ⟨d0, d1, rfl, rfl, rfl⟩ <;> simp [own?] at h2
      · exact key d1 rfl h2
      · exact key d1 rfl h2
  · obtain ⟨s0, d0, q1, q2, _⟩ := was i s d h1 h3
    obtain ⟨s1, d1, q3, q4, _⟩ := was j t e h2 h4
    exact wf.sep i j _ _ _ _ a q1 q3 q2 q4 h5 h6
  · exact l.hh a o h (noO a) fun q => (ownB a q).elim nO nB
  · rcases l.new a o h n with z | z | z
    · exact .inl z
    · exact absurd z (noO a)
    · exact .inr (ownB a z)
  · exact .inr (ow a h)
  · refine ⟨?_, rfl⟩
    obtain ⟨s0, d0, q1, q2, q3⟩ := was i _ d h rfl
    cases s0 <;> simp [own?] at q2
    · subst q2
      exact absurd (q3.mp rfl) (by simp)
    · subst q2
      exact ⟨_, q1⟩
  · refine ⟨?_, rfl⟩
    rcases gat i _ h with ⟨_, z⟩ | ⟨j, s, t, z1, z2, z3, z4⟩
    · exact .inr ⟨d, z⟩
    · rcases z4 with ⟨d0, d1, rfl, rfl, q⟩ | ⟨d0, d1, rfl, rfl, q⟩ | ⟨d0, d1, rfl, rfl, q⟩ | ⟨d0, d1, rfl, rfl, q⟩ <;> cases q
      exact .inl ⟨_, z2⟩
theorem call_res {as : List (D × Bool)} {vs : List V} {ss : List Slot} {d : D} {w : Bool} {v : V} (wf : Wf K F H ρ σ) (lv : Live K ⟨F, H, ρ, σ⟩ F' H' ρ' σ) (ow : ∀ a, OwA ρ' σ a → OwA ρ σ a)
    (r : Res K ⟨F, H, as.map slotA, vs.map some⟩ F' H' ss (vs.map some) d w v) : Res K ⟨F, H, ρ, σ⟩ F' H' ρ' σ d w v := by
  unfold Res at r ⊢
  split
  · rename_i hw
    rw [if_pos hw] at r
    obtain ⟨a, h1, h2, h3, h4, h5⟩ := r
    have hn : H a = none := by
      rcases h4 with z | ⟨j, e, z, _⟩
      · exact z
      · rw [List.getElem?_map] at z
        obtain ⟨p, _, z2⟩ := Option.map_eq_some_iff.mp z
        unfold slotA at z2
        split at z2 <;> cases z2
    refine ⟨a, h1, h2, h3, .inl hn, fun z => ?_, fun z => ?_⟩
    · obtain ⟨_, o, ho⟩ := wf.owA (ow a z)
      rw [hn] at ho; cases ho
    · obtain ⟨_, o, ho⟩ := wf.boA (lv.boA z)
      rw [hn] at ho; cases ho
  · rename_i hw
    rwa [if_neg hw] at r
end
end PV

set_option Elab.async false
set_option linter.all false
set_option maxRecDepth 100000
set_option maxHeartbeats 1000000
/-! PV: calls as expressions: of defs, of built-ins, of methods. -/
namespace PV
open PySem L2 PyProof.Rows
/-- what a def promises: the evaluator's word -/
def spEv (K : KW) (call : Call) (f n : Nat) : Sp := fun vs H Q _ => vs.length = n ∧ ∃ F as d w ss, call f as = some (d, w, ss) ∧ Wf K F H (as.map slotA) (vs.map some) ∧
  ∀ F' H' v, Live K ⟨F, H, as.map slotA, vs.map some⟩ F' H' ss (vs.map some) → Res K ⟨F, H, as.map slotA, vs.map some⟩ F' H' ss (vs.map some) d w v → Q v H'
section
variable {K : KW} {call : Call} {F H : Hp} {ρ ρ' : Pl} {σ : Sg} {Q : VK} {E : XK}
theorem calL_sp {f n : Nat} {os : List Op} {vs : List V} {d : D} {w : Bool} (h : calL call f os ρ = some (d, w, ρ')) (hn : os.length = n) (wf : Wf K F H ρ σ) (ho : OpVs K F σ os vs)
    (k : ∀ F' H' v, Live K ⟨F, H, ρ, σ⟩ F' H' ρ' σ → Res K ⟨F, H, ρ, σ⟩ F' H' ρ' σ d w v → Q v H') : spEv K call f n vs H Q E := by
  unfold calL at h
  split at h
  · rename_i hd
    simp only [Option.bind_eq_bind, Option.bind_eq_some_iff, Option.pure_def, Option.some.injEq, Prod.exists, Prod.mk.injEq] at h
    obtain ⟨as, h1, d', w', ss, h2, ρ2, h3, rfl, rfl, rfl⟩ := h
    refine ⟨by rw [opVs_len ho, hn], F, as, _, _, ss, h2, lend_wf wf ho h1 hd, fun F' H' v l r => ?_⟩
    obtain ⟨lv, ow⟩ := call_live wf ho h1 hd l h3
    exact k F' H' v lv (call_res wf lv ow r)
  · cases h
end
section
variable {call : Call} {X : Cx} {e : Expr} {rest : List Expr} {xs ks : List PV.X} {pos p : Pos} {f k n : Nat} {nm : Str} {fa : Addr} {fd : FuncData} {ps : List Str}
theorem evOs_len : ∀ {xs : List PV.X} {ρ ρ' : Pl} {ds : List Op}, evOs call xs ρ = some (ds, ρ') → ds.length = xs.length
  | [], ρ, ρ', ds, h => by simp only [evOs] at h; cases h; rfl
  | x :: xs, ρ, ρ', ds, h => by
    simp only [evOs, Option.bind_eq_bind, Option.bind_eq_some_iff, Option.pure_def, Option.some.injEq, Prod.exists, Prod.mk.injEq] at h
    obtain ⟨d1, ρ1, h1, ds2, ρ2, h2, rfl, rfl⟩ := h
    simp [evOs_len h2]
/-- defaults -/
theorem opVs_dfl {F : Hp} {σ : Sg} : ∀ {ds : List D} {vs : List V}, RepL X.kw (fun _ => Option.none) ds vs → OpVs X.kw F σ (ds.map Op.dv) vs
  | [], vs, h => by simp only [RepL] at h; exact h
  | d :: ds, vs, h => by
    simp only [RepL] at h
    obtain ⟨v, r, rfl, h1, h2⟩ := h
    exact ⟨v, r, rfl, Rep.sub (fun a o z => (by simp at z)) d v h1, opVs_dfl h2⟩
theorem s_cal {dfl : List D} {dvs : List V} {ds : List Value} (FK : FnOk X.prog X.w X.kw X.mg X.base CX0 k fa fd ps (spEv X.kw call f n)) (hr : Room k X.A) (hg : Gl X nm) (hm : X.mg nm = some (.ref fa)) (hk : PySem.W.keepIn X.kw (.ref fa) = true)
    (hb : Binds X.kw fd ps ds) (hd : Vals dvs ds) (hdr : RepL X.kw (fun _ => Option.none) dfl dvs) (hn : xs.length + dfl.length = n) (ha : PA X (e :: rest) (tOps X.kw call xs)) (hdb : (nm == ("__debug__" : Str)) = false)
    (he : starEach (e :: rest) X.env = (false, eval e X.env) :: starEach rest X.env) (hpl : (backTo pos (starEach rest X.env)).any (·.1) = false) :
    PE X (.Call (.Name nm p) (e :: rest) [] pos) (tEv X.kw call (.cal f xs dfl)) := by
  refine ⟨fun pins s σ H Q I q => (pe_call (E := E0) FK hr hg hm hk hb hd pass0 ha hdb he hpl).run pins s σ H Q I ?_⟩
  obtain ⟨F, ρ, d, w, ρ', h0, wf, kk⟩ := q
  simp only [ev, Option.bind_eq_bind, Option.bind_eq_some_iff, Prod.exists] at h0
  obtain ⟨os, ρ1, h1, h2⟩ := h0
  refine ⟨F, ρ, os, ρ1, h1, wf, fun F1 H1 vs l1 o1 => ?_⟩
  refine calL_sp h2 (by rw [List.length_append, List.length_map, evOs_len h1]; exact hn) l1.wf (opVs_append o1 (opVs_dfl hdr)) fun F' H' v l r => kk F' H' v (l1.trans l) (Res.trans l1 r)
theorem s_cal0 {dfl : List D} {dvs : List V} {ds : List Value} (FK : FnOk X.prog X.w X.kw X.mg X.base CX0 k fa fd ps (spEv X.kw call f n)) (hr : Room k X.A) (hg : Gl X nm) (hm : X.mg nm = some (.ref fa)) (hk : PySem.W.keepIn X.kw (.ref fa) = true)
    (hb : Binds X.kw fd ps ds) (hd : Vals dvs ds) (hdr : RepL X.kw (fun _ => Option.none) dfl dvs) (hn : dfl.length = n) (hdb : (nm == ("__debug__" : Str)) = false) :
    PE X (.Call (.Name nm p) [] [] pos) (tEv X.kw call (.cal f [] dfl)) := by
  refine ⟨fun pins s σ H Q I q => (pe_call0 (E := E0) FK hr hg hm hk hb hd pass0 hdb).run pins s σ H Q I ?_⟩
  obtain ⟨F, ρ, d, w, ρ', h0, wf, kk⟩ := q
  simp only [ev, evOs, Option.bind_eq_bind, Option.bind_eq_some_iff, Prod.exists, Option.some.injEq, Prod.mk.injEq] at h0
  obtain ⟨os, ρ1, ⟨rfl, rfl⟩, h2⟩ := h0
  show spEv X.kw call f n ([] ++ dvs) H Q E0
  refine calL_sp h2 (by rw [List.length_append, List.length_map]; simpa using hn) wf (opVs_append (vs := []) rfl (opVs_dfl hdr)) fun F' H' v l r => kk F' H' v l r
/-- keywords -/
theorem s_calk {ns : List Str} {kws : List Keyword} {g : List Value → List Value → List Value} (FK : FnOk X.prog X.w X.kw X.mg X.base CX0 k fa fd ps (spEv X.kw call f n)) (hr : Room k X.A) (hg : Gl X nm) (hm : X.mg nm = some (.ref fa)) (hk : PySem.W.keepIn X.kw (.ref fa) = true)
    (hb : KBinds X.kw fd ps ns g (fun vs zs => vs ++ zs)) (hn : xs.length + ks.length = n) (ha : PA X (e :: rest) (tOps X.kw call xs)) (hkw : PK X kws (tOps X.kw call ks)) (hdb : (nm == ("__debug__" : Str)) = false)
    (hall : (backToKw pos (keywordEach kws X.env)).all (·.1.isSome) = true) (hks : (backToKw pos (keywordEach kws X.env)).filterMap (·.1) = ns)
    (he : starEach (e :: rest) X.env = (false, eval e X.env) :: starEach rest X.env) (hpl : ((backTo pos (starEach (e :: rest) X.env)).any (·.1) || (backToKw pos (keywordEach kws X.env)).any (·.1.isNone)) = false) :
    PE X (.Call (.Name nm p) (e :: rest) kws pos) (tEv X.kw call (.calk f xs ks)) := by
  refine ⟨fun pins s σ H Q I q => (pe_callK (E := E0) FK hr hg hm hk hb pass0 ha hkw hall hks hdb he hpl).run pins s σ H Q I ?_⟩
  obtain ⟨F, ρ, d, w, ρ', h0, wf, kk⟩ := q
  simp only [ev, Option.bind_eq_bind, Option.bind_eq_some_iff, Prod.exists] at h0
  obtain ⟨os, ρ1, h1, os2, ρ2, h2, h3⟩ := h0
  refine ⟨F, ρ, os, ρ1, h1, wf, fun F1 H1 vs l1 o1 => ⟨F1, ρ1, os2, ρ2, h2, l1.wf, fun F2 H2 zs l2 o2 => ?_⟩⟩
  have l12 := l1.trans l2
  refine calL_sp h3 (by rw [List.length_append, evOs_len h1, evOs_len h2]; exact hn) l2.wf (opVs_append (o1.sub l2.ff) o2) fun F' H' v l r => kk F' H' v (l12.trans l) (Res.trans l12 r)
theorem s_kw0 : PK X [] (tOps X.kw call []) := by
  refine ⟨fun pos pins s σ H Q I q => pk_nil.run pos pins s σ H Q I ?_⟩
  obtain ⟨F, ρ, ds, ρ', h0, wf, k⟩ := q
  simp only [evOs] at h0
  cases h0
  exact k F H [] wf.live rfl
theorem s_kwC {a : Expr} {xa : PV.X} {kw : Option Str} {kpos : Pos} {kws : List Keyword} (ha : PE X a (tOp X.kw call xa)) (hr : PK X kws (tOps X.kw call xs)) : PK X (⟨kw, a, kpos⟩ :: kws) (tOps X.kw call (xa :: xs)) := by
  refine ⟨fun pos pins s σ H Q I q => (pk_cons ha hr).run pos pins s σ H Q I ?_⟩
  obtain ⟨F, ρ, ds, ρ', h0, wf, k⟩ := q
  simp only [evOs, Option.bind_eq_bind, Option.bind_eq_some_iff, Option.pure_def, Option.some.injEq, Prod.exists, Prod.mk.injEq] at h0
  obtain ⟨d1, ρ1, h1, ds2, ρ2, h2, rfl, rfl⟩ := h0
  refine ⟨F, ρ, d1, ρ1, h1, wf, fun F1 H1 v1 l1 r1 => ⟨F1, ρ1, ds2, _, h2, l1.wf, fun F2 H2 vs l2 r2 => ?_⟩⟩
  exact k F2 H2 (v1 :: vs) (l1.trans l2) ⟨v1, vs, rfl, r1.sub l2.ff, r2⟩
/-- a built-in by its name -/
def bltTy : Blt → Bool
  | .tuple | .list | .int | .dictp => true
  | _ => false
theorem t_blt {b : Blt} {σ : Sg} {H : Hp} {Q : VK} (h : tEv X.kw call (.blt b xs) σ H Q) : tCB (rBlt X.kw b) (tOps X.kw call xs) σ H Q := by
  obtain ⟨F, ρ, d, w, ρ', h0, wf, k⟩ := h
  simp only [ev, Option.bind_eq_bind, Option.bind_eq_some_iff, Option.pure_def, Option.some.injEq, Prod.exists, Prod.mk.injEq] at h0
  obtain ⟨os, ρ1, h1, ds, h2, r, w', h3, rfl, rfl, rfl⟩ := h0
  refine ⟨F, ρ, os, _, h1, wf, fun F1 H1 vs l1 o1 => ⟨F1, ds, _, _, h3, l1.wf.sub, o1.repTs l1.wf h2, fun F2 H2 v2 post res => ?_⟩⟩
  exact k F2 H2 v2 (l1.trans (post.live l1.wf)) (Res.trans l1 (res.res l1.wf))
theorem s_blt {b : Blt} (hc : X.calm = true) (h1 : b ≠ .sorted) (h2 : b ≠ .sset) (h3 : b ≠ .lset) (hg : Gl X (bltName b)) (hm : X.mg (bltName b) = none) (ha : PA X (e :: rest) (tOps X.kw call xs))
    (he : starEach (e :: rest) X.env = (false, eval e X.env) :: starEach rest X.env) (hpl : (backTo pos (starEach rest X.env)).any (·.1) = false) :
    PE X (.Call (.Name (bltName b) p) (e :: rest) [] pos) (tEv X.kw call (.blt b xs)) := by
  have ok := blt_ok (X := X) (b := b) hc h1 h2 h3
  refine ⟨fun pins s σ H Q I q => ?_⟩
  have t := t_blt q
  cases b <;> first
    | exact absurd rfl h1
    | exact absurd rfl h2
    | exact absurd rfl h3
    | exact (pe_callB ok hg hm (by decide +kernel) ha (by decide +kernel) (by decide +kernel) he hpl).run pins s σ H Q I t
    | exact (pe_callTy ok hg hm (by decide +kernel) ha (by decide +kernel) (by decide +kernel) he hpl).run pins s σ H Q I t
end
end PV

set_option Elab.async false
set_option linter.all false
set_option maxRecDepth 100000
set_option maxHeartbeats 1000000
/-! PV: methods, isinstance. -/
namespace PV
open PySem L2 PyProof.Rows
section
variable {call : Call} {X : Cx} {a e : Expr} {rest : List Expr} {xa : PV.X} {xs : List PV.X} {pos p cpos apos : Pos}
/-- what must be seen of the text at a method's call -/
structure Mseen (X : Cx) (o : Expr) (m : Str) (apos : Pos) (es : List Expr) (cpos : Pos) : Prop where
  base : attributeBase o m X.env (eval o X.env) = eval o X.env
  few : ((backTo cpos (starEach es X.env)).all (fun x => !x.1) && (backToKw cpos (keywordEach [] X.env)).all (fun x => x.1.isSome)
    && decide (es.length + ([] : List Keyword).length + (if ([] : List Keyword).isEmpty then 0 else 1) < 30)) = true
  line : (apos.endLine == cpos.line) = true
theorem few_nostar {l : List (Bool × Sem Value)} (h : l.all (fun x => !x.1) = true) : l.any (·.1) = false := by
  induction l with
  | nil => rfl
  | cons x l ih =>
    simp only [List.all_cons, Bool.and_eq_true, Bool.not_eq_true'] at h
    rw [List.any_cons, h.1, ih h.2]; rfl
/-- a method by its type: the receiver's kind is known as it is asked -/
def MtK (m : Mth) : Nat → Option (String × String)
  | 3 => match m with | .upper => some ("str", "str.upper") | .join => some ("str", "str.join") | .split => some ("str", "str.split") | _ => none
  | 4 => match m with | .index => some ("list", "list.index") | .count => some ("list", "list.count") | _ => none
  | 5 => match m with | .index => some ("tuple", "tuple.index") | .count => some ("tuple", "tuple.count") | _ => none
  | 6 => match m with | .get1 => some ("dict", "dict.get") | .get2 => some ("dict", "dict.get") | _ => none
  | _ => none
def mthName : Mth → Str
  | .index => "index" | .get1 => "get" | .get2 => "get" | .join => "join" | .split => "split" | .count => "count" | .upper => "upper"
theorem mt_slot {m : Mth} {n : Nat} {T id : String} (h : MtK m n = some (T, id)) : PlainAttrs T ∧ PySem.Slot T (mthName m) id ∧ typeOf (.builtin id) = pure (.type "method_descriptor") := by
  unfold MtK at h
  split at h
  · cases m <;> simp at h <;> obtain ⟨rfl, rfl⟩ := h
    · exact ⟨PySem.F.plainAttrs_str, PySem.F.slot_str_join, PySem.F.type_str_join⟩
    · exact ⟨PySem.F.plainAttrs_str, PySem.F.slot_str_split, PySem.F.type_str_split⟩
    · exact ⟨PySem.F.plainAttrs_str, PySem.F.slot_str_upper, PySem.F.type_str_upper⟩
  · cases m <;> simp at h <;> obtain ⟨rfl, rfl⟩ := h
    · exact ⟨PySem.F.plainAttrs_list, PySem.F.slot_list_index, PySem.F.type_list_index⟩
    · exact ⟨PySem.F.plainAttrs_list, PySem.F.slot_list_count, PySem.F.type_list_count⟩
  · cases m <;> simp at h <;> obtain ⟨rfl, rfl⟩ := h
    · exact ⟨PySem.F.plainAttrs_tuple, PySem.F.slot_tuple_index, PySem.F.type_tuple_index⟩
    · exact ⟨PySem.F.plainAttrs_tuple, PySem.F.slot_tuple_count, PySem.F.type_tuple_count⟩
  · cases m <;> simp at h <;> obtain ⟨rfl, rfl⟩ := h
    · exact ⟨PySem.F.plainAttrs_dict, PySem.F.slot_dict_get, PySem.F.type_dict_get⟩
    · exact ⟨PySem.F.plainAttrs_dict, PySem.F.slot_dict_get, PySem.F.type_dict_get⟩
  · cases h
/-- a dict, not the script -/
def realD : List (D × D) → Bool
  | (.none, _) :: _ => false
  | _ => true
theorem plainD_real {kvs : List (D × D)} (h : plainD kvs = true) : realD kvs = true := by
  cases kvs with
  | nil => rfl
  | cons p r => obtain ⟨k, v⟩ := p; cases k <;> first | rfl | cases h
theorem plainT_real {kvs : List (D × D)} (h : plainT kvs = true) : realD kvs = true := by
  cases kvs with
  | nil => rfl
  | cons p r => obtain ⟨k, v⟩ := p; cases k <;> first | rfl | cases h
theorem dOk_real {k : D} {kvs : List (D × D)} (h : dOk k kvs = true) : realD kvs = true := by
  rcases dOk_of h with h | h
  · exact plainD_real h.2
  · exact plainT_real h.2
theorem dict_ty {H : Hp} {σ : Sg} {s : Shared} {pins : List (Addr × PySem.Obj)} {a : Addr} {kv : List (Key × V)} (I : L2.Inv X pins σ H s) (h : Rd H a (.dK kv)) : ∃ o, s.heap.get? a = some o ∧ o.ExactDict := by
  obtain ⟨_, _, vs, _, o, es, ep, h1, h2, _⟩ := (show ObjOk X.prog X.w H s.heap a (.dK kv) from h.ok I.hok)
  exact ⟨o, h1, h2⟩
theorem kind_is {F H : Hp} {σ : Sg} {s : Shared} {pins : List (Addr × PySem.Obj)} {d : D} {x : V} {v : Value} {m : Mth} {T id : String} (I : L2.Inv X pins σ H s) (hs : Sub F H) (rx : L2.RelV x v) (h : RepT X.kw F H d x) (hk : MtK m (kindD d) = some (T, id)) (hp : ∀ kvs, d = .dict kvs → realD kvs = true) :
    s.TypeIs v T ∧ ∀ b, v = .ref b → ∃ ob, s.heap.get? b = some ob ∧ ob.dict = none := by
  cases d with
  | none => simp [kindD, MtK] at hk
  | bool b => simp [kindD, MtK] at hk
  | int b => simp [kindD, MtK] at hk
  | str b =>
    have hT : T = "str" := by cases m <;> simp [kindD, MtK] at hk <;> exact hk.1.symm
    subst hT
    obtain rfl := repT_str h
    obtain ⟨t, rfl⟩ := rx
    exact ⟨typeIs_str s _ t, fun _ e => nomatch e⟩
  | list ds =>
    have hT : T = "list" := by cases m <;> simp [kindD, MtK] at hk <;> exact hk.1.symm
    subst hT
    obtain ⟨b, vs, rfl, q, _⟩ := repT_lst h
    cases rx
    obtain ⟨its, n, _, _, _, e⟩ := lst_rd I q
    exact ⟨⟨_, e, rfl⟩, fun c z => by cases z; exact ⟨_, e, rfl⟩⟩
  | tuple ds =>
    have hT : T = "tuple" := by cases m <;> simp [kindD, MtK] at hk <;> exact hk.1.symm
    subst hT
    obtain ⟨b, vs, rfl, q, _⟩ := repT_tup h
    cases rx
    rcases SqU.sub hs q with ⟨o, h1, h2⟩ | ⟨o, its, n, h1, h2, h3, _⟩
    · obtain ⟨h3, _, _, _, o2, h4, h5, _⟩ := (show ObjOk X.prog X.w H s.heap b (.frz o (.tup vs)) from I.hok b _ h1)
      rw [h3] at h4
      cases h4
      exact ⟨⟨o, h3, h5⟩, fun c z => by cases z; exact ⟨o, h3, h2⟩⟩
    · exact ⟨⟨o, I.kIn _ _ h1, h2⟩, fun c z => by cases z; exact ⟨o, I.kIn _ _ h1, h3⟩⟩
  | dict kvs =>
    have hT : T = "dict" := by cases m <;> simp [kindD, MtK] at hk <;> exact hk.1.symm
    subst hT
    have key : ∃ b o, x = .ref b ∧ s.heap.get? b = some o ∧ o.ExactDict := by
      rcases repT_dic h with ⟨b, kv, rfl, q, _⟩ | ⟨b, l, rfl, q, r, n⟩ | ⟨b, ns, rfl, rfl, q⟩
      · obtain ⟨o, h1, h2⟩ := dict_ty I q
        exact ⟨b, o, rfl, h1, h2⟩
      · obtain ⟨xs, dh⟩ := dh_ext I hs q r
        obtain ⟨o, es, ep, h1, h2, _⟩ := dh.dh
        exact ⟨b, o, rfl, h1, h2⟩
      · have := hp _ rfl
        cases this
    obtain ⟨b, o, rfl, h1, h2⟩ := key
    cases rx
    exact ⟨⟨o, h1, h2.1⟩, fun c z => by cases z; exact ⟨o, h1, h2.2.1⟩⟩
theorem repT_flat {K : KW} {F H : Hp} {d : D} {v : V} (h : RepT K F H d v) (hf : flatD d = true) : Rep K F d v := by
  cases d <;> first | exact h | (simp [flatD] at hf)
theorem seq_strs {F H : Hp} {d : D} {ds : List D} {ys : List Str} {x : V} (hs : Sub F H) (h : RepT X.kw F H d x) (h1 : asL d = some ds) (h2 : ds.mapM asS = some ys) : ∃ p, x = .ref p ∧ (SqL X.K H p (ys.map V.str) ∨ SqT X.K H p (ys.map V.str)) := by
  cases d <;> simp [asL] at h1
  · subst h1
    obtain ⟨a, vs, rfl, q1, r1⟩ := repT_lst h
    obtain rfl := repL_strs r1 h2
    exact ⟨a, rfl, .inl (.inl q1)⟩
  · subst h1
    obtain ⟨a, vs, rfl, q1, r1⟩ := repT_tup h
    obtain rfl := repL_strs r1 h2
    exact ⟨a, rfl, .inr (SqT.sub hs q1.sq)⟩
theorem repL_ofStrs {K : KW} {F : Hp} : ∀ ys : List Str, RepL K F (ys.map .str) (ys.map V.str)
  | [] => RepL.nil
  | y :: ys => RepL.cons (by simp only [Rep]) (repL_ofStrs ys)
theorem mth_ok {F H : Hp} {σ : Sg} {s : Shared} {pins : List (Addr × PySem.Obj)} {m : Mth} {d r : D} {ds : List D} {w : Bool} {x : V} {xs : List V} {v : Value} {us : List Value} {Q : VK} {T id : String} (hu : X.A.units + 65 < cLine)
    (I : L2.Inv X pins σ H s) (hs : Sub F H) (h0 : opMth m d ds = some (r, w)) (hk : MtK m (kindD d) = some (T, id)) (rx : L2.RelV x v) (rs : Vals xs us) (hd : RepT X.kw F H d x) (hds : RepTs X.kw F H ds xs) (q : opQ X.kw F H r w Q) :
    wpAny (model X.prog X.w) X.A (PySem.call (.builtin id) (v :: us)) (EP X pins σ Q) X.xe s := by
  unfold opMth at h0
  split at h0
  · rename_i ds' z
    simp only [Option.bind_eq_bind, Option.bind_eq_some_iff, Option.pure_def] at h0
    obtain ⟨zs, h1, h2⟩ := h0
    split at h2
    · rename_i hz
      cases h2
      simp only [kindD, MtK, Option.some.injEq, Prod.mk.injEq] at hk
      obtain ⟨rfl, rfl⟩ := hk
      obtain ⟨b, vs, rfl, q1, r1⟩ := repT_lst hd
      obtain ⟨y, rfl, hy⟩ := hds.one
      obtain rfl := repT_str hy
      obtain rfl := repL_strs r1 h1
      obtain ⟨u, rfl, t, rfl⟩ := vals1 rs
      cases rx
      obtain ⟨its, rv, pl, hz'⟩ := I.list (.inl q1)
      refine SeqAt.list_index_strs pl.isList (Vals.strs rv) (by rw [List.length_map] at hz'; exact hz') hz ?_
      exact ⟨.int (zs.idxOf z : Nat), H, I.tok _, ⟨_, rfl⟩, q.val hs rep_int⟩
    · cases h2
  · rename_i ds' z
    simp only [Option.bind_eq_bind, Option.bind_eq_some_iff, Option.pure_def] at h0
    obtain ⟨zs, h1, h2⟩ := h0
    split at h2
    · rename_i hz
      cases h2
      simp only [kindD, MtK, Option.some.injEq, Prod.mk.injEq] at hk
      obtain ⟨rfl, rfl⟩ := hk
      obtain ⟨b, vs, rfl, q1, r1⟩ := repT_tup hd
      obtain ⟨y, rfl, hy⟩ := hds.one
      obtain rfl := repT_str hy
      obtain rfl := repL_strs r1 h1
      obtain ⟨u, rfl, t, rfl⟩ := vals1 rs
      cases rx
      obtain ⟨its, rv, pl, hz'⟩ := I.tuple (SqT.sub hs q1.sq)
      refine SeqAt.tuple_index_strs pl (Vals.strs rv) hz ?_
      exact ⟨.int (zs.idxOf z : Nat), H, I.tok _, ⟨_, rfl⟩, q.val hs rep_int⟩
    · cases h2
  · rename_i ds' z
    split at h0
    · rename_i hc
      cases h0
      simp only [Bool.and_eq_true] at hc
      simp only [kindD, MtK, Option.some.injEq, Prod.mk.injEq] at hk
      obtain ⟨rfl, rfl⟩ := hk
      obtain ⟨p1, p2⟩ := okD_of hc.1
      obtain ⟨p3, _⟩ := okD_of hc.2
      obtain ⟨b, vs, rfl, q1, r1⟩ := repT_tup hd
      obtain ⟨y, rfl, hy⟩ := hds.one
      obtain ⟨u, rfl, ru⟩ := vals1 rs
      cases rx
      obtain ⟨as, z1⟩ := Dp.reads I _ _ _ (RepT.dp hs hc.1 hy) ru
      obtain ⟨bs, z2⟩ := Dp.reads I _ _ _ (RepT.dp hs hc.2 hd) (show RelV (.ref b) (.ref b) from rfl)
      cases z2 with
      | tuple e1 e2 e3 e4 =>
        refine SeqAt.count_tuple_data ⟨_, e1, e2, _, e3⟩ e4 z1 (by simpa [PyData.plain] using p3) p1 (Nat.lt_of_le_of_lt (Nat.add_le_add_left (Nat.min_le_right _ _) _) (by omega)) ?_
        exact ⟨.int _, H, I.tok _, ⟨_, rfl⟩, q.val hs rep_int⟩
    · cases h0
  · rename_i ds' z
    split at h0
    · rename_i hc
      cases h0
      simp only [Bool.and_eq_true] at hc
      simp only [kindD, MtK, Option.some.injEq, Prod.mk.injEq] at hk
      obtain ⟨rfl, rfl⟩ := hk
      obtain ⟨p1, p2⟩ := okD_of hc.1
      obtain ⟨p3, _⟩ := okD_of hc.2
      obtain ⟨b, vs, rfl, q1, r1⟩ := repT_lst hd
      obtain ⟨y, rfl, hy⟩ := hds.one
      obtain ⟨u, rfl, ru⟩ := vals1 rs
      cases rx
      obtain ⟨as, z1⟩ := Dp.reads I _ _ _ (RepT.dp hs hc.1 hy) ru
      obtain ⟨bs, z2⟩ := Dp.reads I _ _ _ (RepT.dp hs hc.2 hd) (show RelV (.ref b) (.ref b) from rfl)
      cases z2 with
      | list e1 e2 e3 e4 =>
        refine SeqAt.count_list_data ⟨_, e1, e2, _, e3⟩ e4 z1 (by simpa [PyData.plain] using p3) p1 (Nat.lt_of_le_of_lt (Nat.add_le_add_left (Nat.min_le_right _ _) _) (by omega)) ?_
        exact ⟨.int _, H, I.tok _, ⟨_, rfl⟩, q.val hs rep_int⟩
    · cases h0
  · rename_i z
    split at h0
    · rename_i hc
      cases h0
      simp only [kindD, MtK, Option.some.injEq, Prod.mk.injEq] at hk
      obtain ⟨rfl, rfl⟩ := hk
      obtain rfl := repT_str hd
      obtain rfl := hds.nil
      exact mt_upper pins s σ H _ _ v us Q I rx rs ⟨_, rfl, rfl, hc, q.val hs rep_str⟩
    · cases h0
  · rename_i z d'
    simp only [Option.bind_eq_bind, Option.bind_eq_some_iff, Option.pure_def] at h0
    obtain ⟨ds', h1, ys, h2, h3⟩ := h0
    split at h3
    · rename_i hc
      cases h3
      simp only [kindD, MtK, Option.some.injEq, Prod.mk.injEq] at hk
      obtain ⟨rfl, rfl⟩ := hk
      obtain rfl := repT_str hd
      obtain ⟨y, rfl, hy⟩ := hds.one
      obtain ⟨p, rfl, hp⟩ := seq_strs hs hy h1 h2
      exact mt_join pins s σ H _ _ v us Q I rx rs ⟨_, p, ys, rfl, rfl, hp, hc, q.val hs rep_str⟩
    · cases h3
  · rename_i z y
    split at h0
    · rename_i hc
      cases h0
      simp only [kindD, MtK, Option.some.injEq, Prod.mk.injEq] at hk
      obtain ⟨rfl, rfl⟩ := hk
      obtain rfl := repT_str hd
      obtain ⟨y', rfl, hy⟩ := hds.one
      obtain rfl := repT_str hy
      exact mt_split pins s σ H _ _ v us Q I rx rs ⟨_, _, rfl, rfl, hc.1, by rw [← LIM_eq]; exact hc.2, fun p hp => q.newL hs (repL_ofStrs _) hp⟩
    · cases h0
  · rename_i kvs k
    split at h0
    · rename_i hc
      cases h0
      simp only [kindD, MtK, Option.some.injEq, Prod.mk.injEq] at hk
      obtain ⟨rfl, rfl⟩ := hk
      obtain ⟨y, rfl, hy⟩ := hds.one
      rcases dOk_of hc with hc | ⟨⟨k, hk⟩, hp⟩
      · obtain ⟨k, rfl⟩ := keyOk_of hc.1
        obtain ⟨b, kv, rfl, hH, hr⟩ := repT_dicK hd hc.2
        have hx : y = kV k := by cases k <;> first | exact repT_int hy | exact repT_str hy
        subst hx
        cases rx
        obtain ⟨u, rfl, ru⟩ := vals1 rs
        refine d_get1 (by omega) I (.inl ⟨kv, k, hH, rfl, rfl⟩) ru fun w' s' I' rw' => ⟨_, H, I', rw', q.val hs ?_⟩
        have e0 := hr.val k
        split at e0
        · rename_i d' e'
          obtain ⟨v', e1, e2⟩ := e0
          rw [e', e1]; exact e2
        · rename_i e'
          rw [e', e0]; exact rep_none
      · obtain ⟨c, rfl, rq⟩ := key_ref hk hy
        obtain ⟨b, l, xs, rfl, dh⟩ := dh_any I hs hd hp
        cases rx
        obtain ⟨u, rfl, ru⟩ := vals1 rs
        cases ru
        exact dn_get1 hu I hs dh hk rq fun v' u' tk r1 r2 => ⟨v', H, I.tok _, r1, q.val hs r2⟩
    · cases h0
  · rename_i kvs k z
    split at h0
    · rename_i hc
      cases h0
      rw [Bool.and_eq_true] at hc
      simp only [kindD, MtK, Option.some.injEq, Prod.mk.injEq] at hk
      obtain ⟨rfl, rfl⟩ := hk
      obtain ⟨y, z', rfl, hy, hz⟩ := hds.two
      rcases dOk_of hc.1 with hc1 | ⟨⟨k, hk⟩, hp⟩
      · obtain ⟨k, rfl⟩ := keyOk_of hc1.1
        obtain ⟨b, kv, rfl, hH, hr⟩ := repT_dicK hd hc1.2
        have hx : y = kV k := by cases k <;> first | exact repT_int hy | exact repT_str hy
        subst hx
        cases rx
        obtain ⟨u, u2, rfl, ru, ru2⟩ := vals2 rs
        refine d_get2 (by omega) I (.inl ⟨kv, k, hH, rfl, rfl⟩) ru ru2 fun w' s' I' rw' => ⟨_, H, I', rw', q.val hs ?_⟩
        have e0 := hr.val k
        split at e0
        · rename_i d' e'
          obtain ⟨v', e1, e2⟩ := e0
          rw [e', e1]; exact e2
        · rename_i e'
          rw [e', e0]; exact repT_flat hz hc.2
      · obtain ⟨c, rfl, rq⟩ := key_ref hk hy
        obtain ⟨b, l, xs, rfl, dh⟩ := dh_any I hs hd hp
        cases rx
        obtain ⟨u, u2, rfl, ru, ru2⟩ := vals2 rs
        cases ru
        exact dn_get2 hu I hs dh hk rq ru2 (repT_flat hz hc.2) fun v' u' tk r1 r2 => ⟨v', H, I.tok _, r1, q.val hs r2⟩
    · cases h0
  · cases h0

/-- what a method is asked of is of its kind -/
theorem mth_kind {m : Mth} {d r : D} {ds : List D} {w : Bool} (h6 : opMth m d ds = some (r, w)) : (∃ T id, MtK m (kindD d) = some (T, id)) ∧ ∀ kvs, d = .dict kvs → realD kvs = true := by
  unfold opMth at h6
  split at h6 <;> first | cases h6 | skip
  all_goals first
    | (refine ⟨⟨_, _, rfl⟩, fun kvs z => ?_⟩; cases z; done)
    | skip
  · refine ⟨⟨_, _, rfl⟩, fun kvs z => ?_⟩
    cases z
    split at h6
    · rename_i hc
      exact dOk_real hc
    · cases h6
  · refine ⟨⟨_, _, rfl⟩, fun kvs z => ?_⟩
    cases z
    split at h6
    · rename_i hc
      rw [Bool.and_eq_true] at hc
      exact dOk_real hc.1
    · cases h6
theorem s_mth {m : Mth} (hu : X.A.units + 65 < cLine) (ms : Mseen X a (mthName m) apos (e :: rest) cpos) (ha : PE X a (tOp X.kw call xa)) (hr : PA X (e :: rest) (tOps X.kw call xs)) (he : starEach (e :: rest) X.env = (false, eval e X.env) :: starEach rest X.env) :
    PE X (.Call (.Attribute a (mthName m) apos) (e :: rest) [] cpos) (tEv X.kw call (.mth m xa xs)) := by
  refine ⟨fun pins s σ H Q I q => ?_⟩
  obtain ⟨F, ρ, d, w, ρ', h0, wf, k⟩ := q
  simp only [ev, Option.bind_eq_bind, Option.bind_eq_some_iff, Option.pure_def, Option.some.injEq, Prod.exists, Prod.mk.injEq] at h0
  obtain ⟨o1, ρ1, h1, d0, h2, os, ρ2, h3, d1, h4, ds, h5, r, w', h6, rfl, rfl, rfl⟩ := h0
  unfold opMthK at h6
  split at h6
  · rename_i hkd
    have hK := mth_kind h6
    obtain ⟨⟨T, id, hT⟩, hP⟩ := hK
    obtain ⟨m1, m2, m3⟩ := mt_slot hT
    refine wpAny_Call_method_late ms.base ms.few ms.line rfl (thn (ha.run pins s σ H (fun x H1 => ∃ F1, Live X.kw ⟨F, H, ρ, σ⟩ F1 H1 ρ1 σ ∧ OpV X.kw F1 σ o1 x) I ⟨F, ρ, o1, ρ1, h1, wf, fun F1 H1 v1 l1 p1 => ⟨F1, l1, p1⟩⟩) fun v s1 ⟨x, H1, I1, r1, F1, l1, p1⟩ => ?_)
    have hP0 : ∀ kvs, d0 = .dict kvs → realD kvs = true := fun kvs z => by
      subst z
      cases kvs with
      | nil => rfl
      | cons p t =>
        obtain ⟨k', v'⟩ := p
        cases k' <;> try rfl
        exfalso
        -- the script stays what it is
        have e1 : kindD d1 = 6 := hkd.symm
        cases d1 <;> simp [kindD] at e1
        rename_i kvs1
        have hp1 := hP _ rfl
        rcases repT_dic (p1.repT l1.wf h2) with ⟨b, kv, rfl, q, hr'⟩ | ⟨b, l, rfl, q, hr', _⟩ | ⟨b, ns, es, rfl, q⟩
        · simp only [RepK] at hr'
          obtain ⟨j, _, _, _, e2, _⟩ := hr'
          cases j <;> simp [keyD] at e2
        · simp only [RepN] at hr'
          obtain ⟨j, _, _, _, _, e2, _⟩ := hr'
          cases e2
        cases o1 with
        | dv d' =>
          have h2' : some d' = some _ := h2
          have h4' : some d' = some _ := h4
          rw [h2'] at h4'
          cases h4'
          cases hp1
        | sl i =>
          obtain ⟨t, z1, z2⟩ := fetch_sl h2
          obtain ⟨c, z3, z4, z5⟩ := l1.wf.own i t _ z1 z2
          rcases z5 with ⟨kv, z6, z7⟩ | ⟨kv, z6, z7, _⟩
          · simp only [RepK] at z7
            obtain ⟨j, _, _, _, e2, _⟩ := z7
            cases j <;> simp [keyD] at e2
          · simp only [RepN] at z7
            obtain ⟨j, _, _, _, _, e2, _⟩ := z7
            cases e2
    rw [← hkd] at hT
    obtain ⟨t1, t2⟩ := kind_is I1 l1.wf.sub r1 (p1.repT l1.wf h2) hT hP0
    refine ⟨T, id, m1, m2, m3, t1, t2, ?_⟩
    have hA := hr.run cpos pins s1 σ H1 (fun vs H2 => ∃ F2, Live X.kw ⟨F1, H1, ρ1, σ⟩ F2 H2 ρ2 σ ∧ OpVs X.kw F2 σ os vs) I1 ⟨F1, ρ1, os, ρ2, h3, l1.wf, fun F2 H2 vs l2 p2 => ⟨F2, l2, p2⟩⟩
    have hplain : (backTo cpos (starEach rest X.env)).any (·.1) = false := by
      have z := ms.few
      simp only [Bool.and_eq_true] at z
      have z1 := few_nostar z.1.1
      rw [he] at z1
      have z1 : (false || (backTo cpos (starEach rest X.env)).any (·.1)) = false := z1
      simpa using z1
    rw [he] at hA ⊢
    refine Calls.callWith_builtin (by show (false || (backTo cpos (starEach rest X.env)).any (·.1)) = false; rw [hplain] <;> rfl) (Calls.evalArgs_plain ?_)
    refine thn hA fun us s2 ⟨vs, H2, I2, r2, F2, l2, p2⟩ => ?_
    refine mth_ok hu I2 l2.wf.sub h6 (by rw [← hkd]; exact hT) r1 r2 ((p1.sub l2.ff).repT l2.wf h4) (p2.repTs l2.wf h5) fun F3 H3 v3 post res => ?_
    have l12 := l1.trans l2
    exact k F3 H3 v3 (l12.trans (post.live l2.wf)) (Res.trans l12 (res.res l2.wf))
  · cases h6
theorem s_upper (ha : PE X a (tOp X.kw call xa)) (m1 : attributeBase a "upper" X.env (eval a X.env) = eval a X.env) (m3 : (apos.endLine == cpos.line) = true) : PE X (.Call (.Attribute a "upper" apos) [] [] cpos) (tEv X.kw call (.mth .upper xa [])) := by
  refine ⟨fun pins s σ H Q I q => (pe_upper ha m1 m3).run pins s σ H Q I ?_⟩
  obtain ⟨F, ρ, d, w, ρ', h0, wf, k⟩ := q
  simp only [ev, Option.bind_eq_bind, Option.bind_eq_some_iff, Option.pure_def, Option.some.injEq, Prod.exists, Prod.mk.injEq] at h0
  obtain ⟨o1, ρ1, h1, d0, h2, os, ρ2, h3, d1, h4, ds, h5, r, w', h6, rfl, rfl, rfl⟩ := h0
  simp only [evOs, Option.some.injEq, Prod.mk.injEq] at h3
  obtain ⟨rfl, rfl⟩ := h3
  simp only [fetchAll, Option.some.injEq] at h5
  subst h5
  rw [h2] at h4
  cases h4
  refine ⟨F, ρ, o1, ρ1, h1, wf, fun F1 H1 v l p => ?_⟩
  have ht := p.repT l.wf h2
  unfold opMthK at h6
  rw [if_pos rfl] at h6
  cases d0 with
  | str x =>
    obtain rfl := repT_str ht
    simp only [opMth] at h6
    split at h6
    · rename_i hl
      cases h6
      exact ⟨⟨x, rfl⟩, x, rfl, rfl, hl, k F1 H1 _ l (res_val rep_str)⟩
    · cases h6
  | _ => simp [opMth] at h6
end
end PV

set_option Elab.async false
set_option linter.all false
set_option maxRecDepth 100000
set_option maxHeartbeats 1000000
/-! PV: objects of one's own, written; pop; isinstance. -/
namespace PV
open PySem L2 PyProof.Rows
section
variable {K : KW} {F H : Hp} {ρ : Pl} {σ : Sg}
theorem Wf.write {i : Nat} {s s' : Slot} {d d' : D} {a : Addr} {o' : HO} (wf : Wf K F H ρ σ) (h1 : ρ[i]? = some s) (h3 : (s = .ow d ∧ s' = .ow d') ∨ (s = .bo d ∧ s' = .bo d')) (ha : σ[i]? = some (some (.ref a))) (hn : Obj K F (upd H a o') a d') :
    Live K ⟨F, H, ρ, σ⟩ F (upd H a o') (ρ.set i s') σ := by
  have h2 : own? s = some d := by rcases h3 with ⟨rfl, _⟩ | ⟨rfl, _⟩ <;> rfl
  have h2' : own? s' = some d' := by rcases h3 with ⟨_, rfl⟩ | ⟨_, rfl⟩ <;> rfl
  have nv : val? s' = none := by rcases h3 with ⟨_, rfl⟩ | ⟨_, rfl⟩ <;> rfl
  obtain ⟨b, q1, q2, q3⟩ := wf.own i s d h1 h2
  rw [ha] at q1
  cases q1
  obtain ⟨o, ho⟩ := q3.there
  have hOB : OwA ρ σ a ∨ BoA ρ σ a := by
    rcases h3 with ⟨rfl, _⟩ | ⟨rfl, _⟩
    · exact .inl ⟨i, d, h1, ha⟩
    · exact .inr ⟨i, d, h1, ha⟩
  have back : ∀ (j : Nat) (t : Slot) (e : D), (ρ.set i s')[j]? = some t → own? t = some e → ∃ t0 e0, ρ[j]? = some t0 ∧ own? t0 = some e0 := fun j t e z1 z2 => by
    rcases set_at z1 with ⟨rfl, rfl⟩ | ⟨_, z1⟩
    · exact ⟨s, d, h1, h2⟩
    · exact ⟨t, e, z1, z2⟩
  refine ⟨⟨fun b u e => ?_, by rw [List.length_set]; exact wf.len, fun j t e z1 z2 => ?_, fun j t e z1 z2 => ?_, fun j k t u e f b z1 z2 z3 z4 z5 z6 => ?_⟩, Sub.refl _, fun b u e nO nB => ?_, fun b e => ?_, fun b u e n => ?_, fun b e => ?_, fun j e z => ?_, fun j e z => ?_⟩
  · rw [upd_ne]
    · exact wf.sub b u e
    · rintro rfl; rw [q2] at e; cases e
  · rcases set_at z1 with ⟨rfl, rfl⟩ | ⟨_, z1⟩
    · rw [nv] at z2; cases z2
    · exact wf.fr j t e z1 z2
  · rcases set_at z1 with ⟨rfl, rfl⟩ | ⟨hj, z1⟩
    · rw [h2'] at z2; cases z2
      exact ⟨a, ha, q2, hn⟩
    · obtain ⟨c, y1, y2, y3⟩ := wf.own j t e z1 z2
      refine ⟨c, y1, y2, y3.sub (Sub.refl _) (upd_ne ?_)⟩
      rintro rfl
      exact hj (wf.sep j i t s e d _ z1 h1 z2 h2 y1 ha)
  · obtain ⟨t0, e0, y1, y2⟩ := back j t e z1 z3
    obtain ⟨u0, f0, y3, y4⟩ := back k u f z2 z4
    exact wf.sep j k _ _ _ _ b y1 y3 y2 y4 z5 z6
  · rw [upd_ne]
    · exact e
    · rintro rfl
      exact hOB.elim nO nB
  · by_cases hb : b = a
    · subst hb; rw [upd_same] at e; cases e
    · rw [upd_ne hb] at e; exact e
  · rw [show F b = none from n] at e; cases e
  · obtain ⟨j, e, z1, z2⟩ := e
    refine .inr ?_
    rcases set_at z1 with ⟨rfl, z⟩ | ⟨_, z1⟩
    · rcases h3 with ⟨rfl, _⟩ | ⟨_, rfl⟩
      · exact ⟨j, d, h1, z2⟩
      · cases z
    · exact ⟨j, e, z1, z2⟩
  · rcases set_at z with ⟨rfl, y⟩ | ⟨_, z⟩
    · rcases h3 with ⟨_, rfl⟩ | ⟨rfl, _⟩
      · cases y
      · exact ⟨⟨d, h1⟩, rfl⟩
    · exact ⟨⟨e, z⟩, rfl⟩
  · rcases set_at z with ⟨rfl, y⟩ | ⟨_, z⟩
    · rw [← y] at nv; cases nv
    · exact ⟨.inr ⟨e, z⟩, rfl⟩
end
section
variable {call : Call} {X : Cx} {a e : Expr} {rest : List Expr} {xa : PV.X} {xs : List PV.X} {pos p cpos apos : Pos} {i : Nat}
theorem ownL_of {ρ : Pl} {zs : List D} (h : ownL ρ i = some zs) : ρ[i]? = some (.ow (.list zs)) := by
  unfold ownL at h
  split at h
  · rename_i e; cases h; exact e
  · cases h
theorem pop_ev {ρ ρ' : Pl} {d : D} {w : Bool} (h : ev call (.pop i xs) ρ = some (d, w, ρ')) : ∃ os ρ1 ds ys zs, ρ[i]? = some (.ow (.list ys)) ∧ evOs call xs ρ = some (os, ρ1) ∧ fetchAll ρ1 os = some ds ∧ ρ1[i]? = some (.ow (.list zs)) ∧ w = false ∧ ∃ zs', popD zs ds = some (d, zs') ∧ ρ' = ρ1.set i (.ow (.list zs')) := by
  simp only [ev, Option.bind_eq_bind, Option.bind_eq_some_iff, Option.pure_def, Option.some.injEq, Prod.exists, Prod.mk.injEq] at h
  obtain ⟨ys, h0, os, ρ1, h1, ds, h2, zs, h3, y, zs', h4, rfl, rfl, rfl⟩ := h
  exact ⟨os, ρ1, ds, ys, zs, ownL_of h0, h1, h2, ownL_of h3, rfl, zs', h4, rfl⟩
theorem s_pop0 (pv : PE X a (tVar i)) (hbase : attributeBase a "pop" X.env (eval a X.env) = eval a X.env) (hline : (apos.endLine == cpos.line) = true) : PE X (.Call (.Attribute a "pop" apos) [] [] cpos) (tEv X.kw call (.pop i [])) := by
  refine ⟨fun pins s σ H Q I q => (pe_bm0 PySem.F.plainAttrs_list PySem.F.slot_list_pop PySem.F.type_list_pop (fun pins s σ H x xs v us Q => mt_pop pins s σ H x xs v us Q) pv hbase hline).run pins s σ H Q I ?_⟩
  obtain ⟨F, ρ, d, w, ρ', h0, wf, k⟩ := q
  obtain ⟨os, ρ1, ds, ys, zs, hY, h1, h2, h3, rfl, zs', h4, rfl⟩ := pop_ev h0
  simp only [evOs, Option.some.injEq, Prod.mk.injEq] at h1
  obtain ⟨rfl, rfl⟩ := h1
  simp only [fetchAll, Option.some.injEq] at h2
  subst h2
  obtain ⟨b, e1, e2, vs, e3, e4⟩ := wf.own i _ _ h3 rfl
  simp only [popD, Option.bind_eq_bind, Option.bind_eq_some_iff, Option.pure_def, Option.some.injEq, Prod.mk.injEq] at h4
  obtain ⟨y, h5, rfl, rfl⟩ := h4
  obtain ⟨v, h6, h7⟩ := e4.get h5
  refine ⟨_, e1, .inl ⟨rfl, vs, SqL.of e3⟩, b, vs, v, rfl, rfl, e3, by rw [e4.length]; exact h6, ?_⟩
  have l := wf.write (o' := .lst vs.dropLast) h3 (.inl ⟨rfl, rfl⟩) (d' := .list zs.dropLast) e1 ⟨_, upd_same, e4.dropLast⟩
  exact k F _ v l (res_val h7)
theorem s_pop1 {xb : PV.X} (hxs : xs = [xb]) (pv : PE X a (tVar i)) (ms : Mseen X a "pop" apos [e] cpos) (hr : PA X [e] (tOps X.kw call xs)) (he : starEach [e] X.env = (false, eval e X.env) :: starEach [] X.env) :
    PE X (.Call (.Attribute a "pop" apos) [e] [] cpos) (tEv X.kw call (.pop i xs)) := by
  have hplain : (backTo cpos (starEach [] X.env)).any (·.1) = false := by
    have z := ms.few
    simp only [Bool.and_eq_true] at z
    have z1 := few_nostar z.1.1
    rw [he] at z1
    have z1 : (false || (backTo cpos (starEach [] X.env)).any (·.1)) = false := z1
    simpa using z1
  refine ⟨fun pins s σ H Q I q => (pe_bm PySem.F.plainAttrs_list PySem.F.slot_list_pop PySem.F.type_list_pop (fun pins s σ H x xs v us Q => mt_popAt pins s σ H x xs v us Q) pv hr ms.base ms.few ms.line he hplain).run pins s σ H Q I ?_⟩
  obtain ⟨F, ρ, d, w, ρ', h0, wf, k⟩ := q
  obtain ⟨os, ρ1, ds, ys, zs, hY, h1, h2, h3, rfl, zs', h4, rfl⟩ := pop_ev h0
  obtain ⟨b, e1, e2, vs0, e3, e4⟩ := wf.own i _ _ hY rfl
  refine ⟨_, e1, .inl ⟨rfl, vs0, SqL.of e3⟩, F, ρ, os, ρ1, h1, wf, fun F1 H1 us l1 o1 => ?_⟩
  obtain ⟨b', y1, y2, vs, y3, y4⟩ := l1.wf.own i _ _ h3 rfl
  rw [e1] at y1
  cases y1
  have hds := o1.repTs l1.wf h2
  unfold popD at h4
  split at h4
  · have := evOs_len h1
    subst hxs
    cases os with
    | nil => cases this
    | cons o os =>
      obtain ⟨v, r, e, _⟩ := o1
      rw [hds.nil] at e
      cases e
  · rename_i kk
    split at h4
    · rename_i hk
      simp only [Option.bind_eq_bind, Option.bind_eq_some_iff, Option.pure_def, Option.some.injEq, Prod.mk.injEq] at h4
      obtain ⟨j, h5, y, h6, rfl, rfl⟩ := h4
      obtain ⟨x, rfl, hx⟩ := hds.one
      obtain rfl := repT_int hx
      obtain ⟨v, z1, z2⟩ := y4.get h6
      have e63 := small63 hk
      have hj : L2.ixN vs.length kk = some j := by rw [y4.length]; exact h5
      refine ⟨b, vs, kk, j, v, rfl, rfl, y3, e63.1, e63.2, (ixN_seq hj).1, z1, ?_⟩
      have l := l1.wf.write (o' := .lst (vs.eraseIdx j)) h3 (.inl ⟨rfl, rfl⟩) (d' := .list (zs.eraseIdx j)) e1 ⟨_, upd_same, y4.eraseIdx j⟩
      exact k F1 _ v (l1.trans l) (res_val z2)
    · cases h4
  · cases h4
/-- isinstance -/
theorem kit_all (d : D) (t : Ty) (h : kindD d ≠ 6) : kitB (dTy d) (tyName t) = some (isTy t d) := by
  cases d <;> first | exact absurd rfl h | (cases t <;> (simp only [dTy, tyName, isTy]; decide +kernel))
theorem s_isi {t : Ty} {q1 q2 : Pos} (hg : Gl X "isinstance") (hm : X.mg "isinstance" = none) (hg2 : Gl X (Str.ofString (tyName t))) (hm2 : X.mg (Str.ofString (tyName t)) = none) (ha : PE X a (tOp X.kw call xa))
    (he : starEach [a, .Name (Str.ofString (tyName t)) q2] X.env = (false, eval a X.env) :: starEach [.Name (Str.ofString (tyName t)) q2] X.env) :
    PE X (.Call (.Name "isinstance" q1) [a, .Name (Str.ofString (tyName t)) q2] [] pos) (tEv X.kw call (.isi xa t)) := by
  have hb : PE X (.Name (Str.ofString (tyName t)) q2) (tC (.ty (tyName t))) := by
    cases t <;> exact pe_bltn hg2 hm2 (by decide +kernel) rfl (by decide +kernel) (by decide +kernel)
  refine ⟨fun pins s σ H Q I q => (pe_callB call_isi hg hm (by decide +kernel) (pa_cons ha (pa_cons hb pa_nil rfl) he) (by decide +kernel) (by decide +kernel) he rfl).run pins s σ H Q I ?_⟩
  obtain ⟨F, ρ, d, w, ρ', h0, wf, k⟩ := q
  simp only [ev, Option.bind_eq_bind, Option.bind_eq_some_iff, Option.pure_def, Option.some.injEq, Prod.exists, Prod.mk.injEq] at h0
  obtain ⟨o1, ρ1, h1, d1, h2, h3⟩ := h0
  split at h3
  · cases h3
  · rename_i hk
    cases h3
    refine ⟨F, ρ, o1, _, h1, wf, fun F1 H1 v1 l1 p1 => ?_⟩
    refine ⟨v1, .ty (tyName t), _, _, isTy t d1, rfl, .ty _, ty_of l1.wf.sub (p1.repT l1.wf h2) (fun kvs z => hk (by rw [z]; rfl)), kit_ty (kit_all d1 t hk), ?_⟩
    exact k F1 H1 _ l1 (res_val rep_bl)
end
end PV

set_option Elab.async false
set_option linter.all false
set_option maxRecDepth 100000
set_option maxHeartbeats 1000000
/-! PV: places stored, forgotten, restored; what is walked. -/
namespace PV
open PySem L2 PyProof.Rows
section
variable {K : KW} {F H F' H' F1 H1 : Hp} {ρ ρ' ρ1 : Pl} {σ σ' : Sg} {e : En} {d : D} {w : Bool} {v : V}
theorem setS_eq {i : Nat} {s : Slot} (h : setS ρ i s = some ρ') : ρ' = ρ.set i s ∧ i < ρ.length ∧ (∀ d, ρ[i]? ≠ some (.bo d)) ∧ ∀ d, ρ[i]? ≠ some (.bf d) := by
  unfold setS at h
  split at h
  · cases h
  · cases h
  · rename_i s0 hb hf e1
    cases h
    exact ⟨rfl, (List.getElem?_eq_some_iff.mp e1).1, fun d z => hb d (Option.some.inj (e1.symm.trans z)), fun d z => hf d (Option.some.inj (e1.symm.trans z))⟩
  · cases h
/-- a place is stored -/
theorem Live.setS {i : Nat} (l : Live K e F H ρ σ) (h : setS ρ i (if w = true then .ow d else .fr d) = some ρ') (r : Res K e F H ρ σ d w v) : Live K e F H ρ' (σ.set i (some v)) := by
  obtain ⟨rfl, hi, nb, nf⟩ := setS_eq h
  have hiσ : i < σ.length := by rw [← l.wf.len]; exact hi
  have oth : ∀ (j : Nat), j ≠ i → (σ.set i (some v))[j]? = σ[j]? := fun j hj => List.getElem?_set_ne (Ne.symm hj)
  have self : (σ.set i (some v))[i]? = some (some v) := List.getElem?_set_self hiσ
  cases w with
  | false =>
    simp only [Bool.false_eq_true, if_false] at h r ⊢
    unfold Res at r
    rw [if_neg Bool.false_ne_true] at r
    refine ⟨⟨l.wf.sub, by simp [l.wf.len], fun j s d' h1 h2 => ?_, fun j s d' h1 h2 => ?_, fun j k s t d1 d2 a h1 h2 h3 h4 h5 h6 => ?_⟩, l.ff, l.hh, l.dom, l.new, fun a h1 => ?_, fun j d' h1 => ?_, fun j d' h1 => ?_⟩
    · rcases set_at h1 with ⟨rfl, rfl⟩ | ⟨hj, h1⟩
      · simp only [val?, Option.some.injEq] at h2
        subst h2
        exact ⟨v, self, r⟩
      · rw [oth j hj]
        exact l.wf.fr j s d' h1 h2
    · rcases set_at h1 with ⟨rfl, rfl⟩ | ⟨hj, h1⟩
      · simp [own?] at h2
      · rw [oth j hj]
        exact l.wf.own j s d' h1 h2
    · rcases set_at h1 with ⟨rfl, rfl⟩ | ⟨hj, h1⟩
      · simp [own?] at h3
      rcases set_at h2 with ⟨rfl, rfl⟩ | ⟨hk, h2⟩
      · simp [own?] at h4
      rw [oth j hj] at h5
      rw [oth k hk] at h6
      exact l.wf.sep j k s t d1 d2 a h1 h2 h3 h4 h5 h6
    · obtain ⟨j, d', z1, z2⟩ := h1
      rcases set_at z1 with ⟨rfl, q⟩ | ⟨hj, z1⟩
      · cases q
      · rw [oth j hj] at z2
        exact l.ow a ⟨j, d', z1, z2⟩
    · rcases set_at h1 with ⟨rfl, q⟩ | ⟨hj, h1⟩
      · cases q
      · rw [oth j hj]
        exact l.bo j d' h1
    · rcases set_at h1 with ⟨rfl, q⟩ | ⟨hj, h1⟩
      · cases q
      · rw [oth j hj]
        exact l.bf j d' h1
  | true =>
    simp only [if_true] at h r ⊢
    unfold Res at r
    rw [if_pos rfl] at r
    obtain ⟨a, rfl, q1, q2, q3, q4, q5⟩ := r
    have noA : ∀ (j : Nat) (s : Slot) (d' : D), ρ[j]? = some s → own? s = some d' → σ[j]? ≠ some (some (.ref a)) := fun j s d' z1 z2 z3 => by
      cases s <;> simp [own?] at z2
      · exact q4 ⟨j, _, z1, z3⟩
      · exact q5 ⟨j, _, z1, z3⟩
    refine ⟨⟨l.wf.sub, by simp [l.wf.len], fun j s d' h1 h2 => ?_, fun j s d' h1 h2 => ?_, fun j k s t d1 d2 b h1 h2 h3 h4 h5 h6 => ?_⟩, l.ff, l.hh, l.dom, l.new, fun b h1 => ?_, fun j d' h1 => ?_, fun j d' h1 => ?_⟩
    · rcases set_at h1 with ⟨rfl, rfl⟩ | ⟨hj, h1⟩
      · simp [val?] at h2
      · rw [oth j hj]
        exact l.wf.fr j s d' h1 h2
    · rcases set_at h1 with ⟨rfl, rfl⟩ | ⟨hj, h1⟩
      · simp only [own?, Option.some.injEq] at h2
        subst h2
        exact ⟨a, self, q2, q1⟩
      · rw [oth j hj]
        exact l.wf.own j s d' h1 h2
    · rcases set_at h1 with ⟨y1, y2⟩ | ⟨hj, h1'⟩
      · subst y1 y2
        rw [self] at h5
        cases h5
        rcases set_at h2 with ⟨y3, _⟩ | ⟨hk, h2'⟩
        · exact y3.symm
        · rw [oth k hk] at h6
          exact absurd h6 (noA k t d2 h2' h4)
      · rw [oth j hj] at h5
        rcases set_at h2 with ⟨y1, y2⟩ | ⟨hk, h2'⟩
        · subst y1 y2
          rw [self] at h6
          cases h6
          exact absurd h5 (noA j s d1 h1' h3)
        · rw [oth k hk] at h6
          exact l.wf.sep j k s t d1 d2 b h1' h2' h3 h4 h5 h6
    · obtain ⟨j, d', z1, z2⟩ := h1
      rcases set_at z1 with ⟨rfl, q⟩ | ⟨hj, z1⟩
      · rw [self] at z2
        cases z2
        exact q3
      · rw [oth j hj] at z2
        exact l.ow b ⟨j, d', z1, z2⟩
    · rcases set_at h1 with ⟨rfl, q⟩ | ⟨hj, h1⟩
      · cases q
      · rw [oth j hj]
        exact l.bo j d' h1
    · rcases set_at h1 with ⟨rfl, q⟩ | ⟨hj, h1⟩
      · cases q
      · rw [oth j hj]
        exact l.bf j d' h1
/-! ### places forgotten -/
theorem wipeP_len : ∀ {vs : List Nat}, (wipeP ρ vs).length = ρ.length
  | [] => rfl
  | v :: vs => by unfold wipeP; rw [List.length_set, wipeP_len]
theorem wipeP_at : ∀ {vs : List Nat} {i : Nat} {s : Slot}, (wipeP ρ vs)[i]? = some s → s = .no ∨ (ρ[i]? = some s ∧ i ∉ vs)
  | [], i, s, h => .inr ⟨h, by simp⟩
  | v :: vs, i, s, h => by
    unfold wipeP at h
    rcases set_at h with ⟨rfl, rfl⟩ | ⟨hi, h⟩
    · exact .inl rfl
    · rcases wipeP_at h with z | ⟨z1, z2⟩
      · exact .inl z
      · exact .inr ⟨z1, by simp only [List.mem_cons, not_or]; exact ⟨hi, z2⟩⟩
theorem wipeP_out : ∀ {vs : List Nat} {i : Nat}, i ∉ vs → (wipeP ρ vs)[i]? = ρ[i]?
  | [], i, _ => rfl
  | v :: vs, i, h => by
    simp only [List.mem_cons, not_or] at h
    unfold wipeP
    rw [List.getElem?_set_ne (Ne.symm h.1)]
    exact wipeP_out h.2
/-- forgetting loses nothing that must be kept -/
theorem Live.forget {ρ2 : Pl} {σ2 : Sg} (l : Live K e F H ρ σ) (hl : ρ2.length = σ2.length) (h : ∀ (i : Nat) (s : Slot), ρ2[i]? = some s → s = .no ∨ (ρ[i]? = some s ∧ σ2[i]? = σ[i]?)) : Live K e F H ρ2 σ2 := by
  have get : ∀ (i : Nat) (s : Slot) (d : D), ρ2[i]? = some s → (val? s = some d ∨ own? s = some d) → ρ[i]? = some s ∧ σ2[i]? = σ[i]? := fun i s d h1 h2 => by
    rcases h i s h1 with rfl | z
    · simp [val?, own?] at h2
    · exact z
  refine ⟨⟨l.wf.sub, hl, fun i s d h1 h2 => ?_, fun i s d h1 h2 => ?_, fun i j s t d d2 a h1 h2 h3 h4 h5 h6 => ?_⟩, l.ff, l.hh, l.dom, l.new, fun a h1 => ?_, fun i d h1 => ?_, fun i d h1 => ?_⟩
  · obtain ⟨z1, z2⟩ := get i s d h1 (.inl h2)
    rw [z2]; exact l.wf.fr i s d z1 h2
  · obtain ⟨z1, z2⟩ := get i s d h1 (.inr h2)
    rw [z2]; exact l.wf.own i s d z1 h2
  · obtain ⟨z1, z2⟩ := get i s d h1 (.inr h3)
    obtain ⟨z3, z4⟩ := get j t d2 h2 (.inr h4)
    rw [z2] at h5
    rw [z4] at h6
    exact l.wf.sep i j s t d d2 a z1 z3 h3 h4 h5 h6
  · obtain ⟨i, d, h2, h3⟩ := h1
    obtain ⟨z1, z2⟩ := get i _ d h2 (.inr rfl)
    rw [z2] at h3
    exact l.ow a ⟨i, d, z1, h3⟩
  · obtain ⟨z1, z2⟩ := get i _ d h1 (.inr rfl)
    rw [z2]; exact l.bo i d z1
  · obtain ⟨z1, z2⟩ := get i _ d h1 (.inl rfl)
    rw [z2]; exact l.bf i d z1
theorem Live.wipe (l : Live K e F H ρ σ) (vs : List Nat) : Live K e F H (wipeP ρ vs) (L2.wipe σ vs) := by
  refine l.forget (by rw [wipeP_len, wipe_length]; exact l.wf.len) fun i s h => ?_
  rcases wipeP_at h with z | ⟨z1, z2⟩
  · exact .inl z
  · exact .inr ⟨z1, wipe_out z2⟩
theorem killS_len : ∀ {vs : List Nat}, (killS ρ vs).length = ρ.length
  | [] => rfl
  | v :: vs => by
    unfold killS
    split
    · exact killS_len
    · exact killS_len
    · rw [List.length_set, killS_len]
theorem killS_at : ∀ {vs : List Nat} {i : Nat} {s : Slot}, (killS ρ vs)[i]? = some s → s = .no ∨ ρ[i]? = some s
  | [], i, s, h => .inr h
  | v :: vs, i, s, h => by
    unfold killS at h
    split at h
    · exact killS_at h
    · exact killS_at h
    · rcases set_at h with ⟨rfl, rfl⟩ | ⟨hi, h⟩
      · exact .inl rfl
      · exact killS_at h
theorem Live.kill (l : Live K e F H ρ σ) (vs : List Nat) : Live K e F H (killS ρ vs) σ := by
  refine l.forget (by rw [killS_len]; exact l.wf.len) fun i s h => ?_
  rcases killS_at h with z | z
  · exact .inl z
  · exact .inr ⟨z, rfl⟩
/-! a block's own names as they were -/
theorem back_len : ∀ {vs : List Nat}, (back ρ ρ1 vs).length = ρ1.length
  | [] => rfl
  | v :: vs => by unfold back; rw [List.length_set, back_len]
theorem back_at : ∀ {vs : List Nat} {i : Nat} {s : Slot}, (back ρ ρ1 vs)[i]? = some s → (i ∈ vs ∧ s = ρ.getD i .no) ∨ (i ∉ vs ∧ ρ1[i]? = some s)
  | [], i, s, h => .inr ⟨by simp, h⟩
  | v :: vs, i, s, h => by
    unfold back at h
    rcases set_at h with ⟨rfl, rfl⟩ | ⟨hi, h⟩
    · exact .inl ⟨List.mem_cons_self, rfl⟩
    · rcases back_at h with ⟨z1, z2⟩ | ⟨z1, z2⟩
      · exact .inl ⟨List.mem_cons_of_mem _ z1, z2⟩
      · exact .inr ⟨by simp only [List.mem_cons, not_or]; exact ⟨hi, z1⟩, z2⟩
theorem back_live {vs : List Nat} (wf : Wf K F1 H1 ρ σ) (l : Live K ⟨F1, H1, wipeP ρ vs, L2.wipe σ vs⟩ F H ρ1 (L2.wipe σ vs)) : Live K ⟨F1, H1, ρ, σ⟩ F H (back ρ ρ1 vs) σ := by
  have hlen : ρ1.length = ρ.length := by rw [l.wf.len, wipe_length, wf.len]
  have out : ∀ i, i ∉ vs → (L2.wipe σ vs)[i]? = σ[i]? := fun i h => wipe_out h
  have wO : ∀ a, OwA (wipeP ρ vs) (L2.wipe σ vs) a → ∃ i d, i ∉ vs ∧ ρ[i]? = some (Slot.ow d) ∧ σ[i]? = some (some (.ref a)) := fun a ⟨i, d, h1, h2⟩ => by
    rcases wipeP_at h1 with z | ⟨z1, z2⟩
    · cases z
    · exact ⟨i, d, z2, z1, by rw [← out i z2]; exact h2⟩
  have wB : ∀ a, BoA (wipeP ρ vs) (L2.wipe σ vs) a → ∃ i d, i ∉ vs ∧ ρ[i]? = some (Slot.bo d) ∧ σ[i]? = some (some (.ref a)) := fun a ⟨i, d, h1, h2⟩ => by
    rcases wipeP_at h1 with z | ⟨z1, z2⟩
    · cases z
    · exact ⟨i, d, z2, z1, by rw [← out i z2]; exact h2⟩
  have old : ∀ (i : Nat) (s : Slot), i ∈ vs → (back ρ ρ1 vs)[i]? = some s → s = ρ.getD i .no → s = .no ∨ ρ[i]? = some s := fun i s _ _ h => by
    cases e : ρ[i]? with
    | none => exact .inl (by rw [h, List.getD_eq_getElem?_getD, e]; rfl)
    | some t => exact .inr (by rw [h, List.getD_eq_getElem?_getD, e]; rfl)
  -- a place of the block's that is one's own: kept
  have kept : ∀ (i : Nat) (s : Slot) (d : D), i ∈ vs → ρ[i]? = some s → own? s = some d → ∃ a, σ[i]? = some (some (.ref a)) ∧ F a = none ∧ Obj K F H a d ∧ ¬ OwA ρ1 (L2.wipe σ vs) a ∧ ¬ BoA ρ1 (L2.wipe σ vs) a := fun i s d hi h1 h2 => by
    obtain ⟨a, z1, z2, z3⟩ := wf.own i s d h1 h2
    have nO : ¬ OwA (wipeP ρ vs) (L2.wipe σ vs) a := fun q => by
      obtain ⟨j, d', y1, y2, y3⟩ := wO a q
      exact y1 (wf.sep i j _ _ _ _ a h1 y2 h2 rfl z1 y3 ▸ hi)
    have nB : ¬ BoA (wipeP ρ vs) (L2.wipe σ vs) a := fun q => by
      obtain ⟨j, d', y1, y2, y3⟩ := wB a q
      exact y1 (wf.sep i j _ _ _ _ a h1 y2 h2 rfl z1 y3 ▸ hi)
    obtain ⟨y1, y2, y3, y4⟩ := l.keep (a := a) (d := d) z3 z2 nO nB
    exact ⟨a, z1, y2, y1, y3, y4⟩
  have isOwn : ∀ (s : Slot) (d : D) (i : Nat) (a : Addr), ρ1[i]? = some s → own? s = some d → (L2.wipe σ vs)[i]? = some (some (.ref a)) → OwA ρ1 (L2.wipe σ vs) a ∨ BoA ρ1 (L2.wipe σ vs) a := fun s d i a h1 h2 h3 => by
    cases s <;> simp [own?] at h2
    · exact .inl ⟨i, _, h1, h3⟩
    · exact .inr ⟨i, _, h1, h3⟩
  refine ⟨⟨l.wf.sub, by rw [back_len, hlen]; exact wf.len, fun i s d h1 h2 => ?_, fun i s d h1 h2 => ?_, fun i j s t d d2 a h1 h2 h3 h4 h5 h6 => ?_⟩, l.ff, fun a o h nO nB => ?_, l.dom, fun a o h n => ?_, fun a h => ?_, fun i d h => ?_, fun i d h => ?_⟩
  · rcases back_at h1 with ⟨z1, z2⟩ | ⟨z1, z2⟩
    · rcases old i s z1 h1 z2 with rfl | z
      · simp [val?] at h2
      · obtain ⟨v, y1, y2⟩ := wf.fr i s d z h2
        exact ⟨v, y1, Rep.sub l.ff d v y2⟩
    · rw [← out i z1]
      exact l.wf.fr i s d z2 h2
  · rcases back_at h1 with ⟨z1, z2⟩ | ⟨z1, z2⟩
    · rcases old i s z1 h1 z2 with rfl | z
      · simp [own?] at h2
      · obtain ⟨a, y1, y2, y3, _⟩ := kept i s d z1 z h2
        exact ⟨a, y1, y2, y3⟩
    · rw [← out i z1]
      exact l.wf.own i s d z2 h2
  · rcases back_at h1 with ⟨z1, z2⟩ | ⟨z1, z2⟩
    · rcases old i s z1 h1 z2 with rfl | z
      · simp [own?] at h3
      · rcases back_at h2 with ⟨y1, y2⟩ | ⟨y1, y2⟩
        · rcases old j t y1 h2 y2 with rfl | y
          · simp [own?] at h4
          · exact wf.sep i j s t d d2 a z y h3 h4 h5 h6
        · obtain ⟨b, x1, _, _, x4, x5⟩ := kept i s d z1 z h3
          rw [h5] at x1
          cases x1
          rw [← out j y1] at h6
          exact (isOwn t d2 j a y2 h4 h6).elim (fun q => absurd q x4) fun q => absurd q x5
    · rcases back_at h2 with ⟨y1, y2⟩ | ⟨y1, y2⟩
      · rcases old j t y1 h2 y2 with rfl | y
        · simp [own?] at h4
        · obtain ⟨b, x1, _, _, x4, x5⟩ := kept j t d2 y1 y h4
          rw [h6] at x1
          cases x1
          rw [← out i z1] at h5
          exact (isOwn s d i a z2 h3 h5).elim (fun q => absurd q x4) fun q => absurd q x5
      · rw [← out i z1] at h5
        rw [← out j y1] at h6
        exact l.wf.sep i j s t d d2 a z2 y2 h3 h4 h5 h6
  · refine l.hh a o h (fun q => ?_) fun q => ?_
    · obtain ⟨i, d, _, y2, y3⟩ := wO a q
      exact nO ⟨i, d, y2, y3⟩
    · obtain ⟨i, d, _, y2, y3⟩ := wB a q
      exact nB ⟨i, d, y2, y3⟩
  · rcases l.new a o h n with z | z | z
    · exact .inl z
    · obtain ⟨i, d, _, y2, y3⟩ := wO a z
      exact .inr (.inl ⟨i, d, y2, y3⟩)
    · obtain ⟨i, d, _, y2, y3⟩ := wB a z
      exact .inr (.inr ⟨i, d, y2, y3⟩)
  · obtain ⟨i, d, h1, h2⟩ := h
    rcases back_at h1 with ⟨z1, z2⟩ | ⟨z1, z2⟩
    · rcases old i _ z1 h1 z2 with q | z
      · cases q
      · exact .inr ⟨i, d, z, h2⟩
    · rw [← out i z1] at h2
      rcases l.ow a ⟨i, d, z2, h2⟩ with q | q
      · exact .inl q
      · obtain ⟨j, d', _, y2, y3⟩ := wO a q
        exact .inr ⟨j, d', y2, y3⟩
  · refine ⟨?_, rfl⟩
    rcases back_at h with ⟨z1, z2⟩ | ⟨z1, z2⟩
    · rcases old i _ z1 h z2 with q | z
      · cases q
      · exact ⟨d, z⟩
    · obtain ⟨⟨d0, y1⟩, _⟩ := l.bo i d z2
      rcases wipeP_at (show (wipeP ρ vs)[i]? = some (.bo d0) from y1) with q | ⟨q, _⟩
      · cases q
      · exact ⟨d0, q⟩
  · refine ⟨?_, rfl⟩
    rcases back_at h with ⟨z1, z2⟩ | ⟨z1, z2⟩
    · rcases old i _ z1 h z2 with q | z
      · cases q
      · exact .inr ⟨d, z⟩
    · obtain ⟨y1, _⟩ := l.bf i d z2
      rcases y1 with ⟨d0, y1⟩ | ⟨d0, y1⟩
      · rcases wipeP_at (show (wipeP ρ vs)[i]? = some (.bo d0) from y1) with q | ⟨q, _⟩
        · cases q
        · exact .inl ⟨d0, q⟩
      · rcases wipeP_at (show (wipeP ρ vs)[i]? = some (.bf d0) from y1) with q | ⟨q, _⟩
        · cases q
        · exact .inr ⟨d0, q⟩
end
end PV

set_option Elab.async false
set_option linter.all false
set_option maxRecDepth 100000
set_option maxHeartbeats 1000000
/-! PV: zip of two or three, enumerate, over lists and tuples in any mix. -/
namespace PV
open PySem L2 PyProof.Rows
/-- an object that stands as it is for good -/
def Fx (K : KW) (F : Hp) (a : Addr) (o : PySem.Obj) : Prop := (∃ u, F a = some (.frz o u)) ∨ K.fr.lookup a = some o
/-- a sequence that does -/
structure Sq (K : KW) (F : Hp) (a : Addr) (o : PySem.Obj) (b : Bool) (vs : List V) (its : List Value) : Prop where
  fx : Fx K F a o
  cls : o.cls = .type (if b then "list" else "tuple")
  dat : ∃ n, o.data = .seq its.toArray n
  val : Vals vs its
def itO (b : Bool) (a : Addr) : PySem.Obj := { cls := .type (if b then "list_iterator" else "tuple_iterator"), data := .fields #[.ref a, .int 0 0] }
def SqSt (b : Bool) (it a : Addr) (items : Array Value) (i : Nat) (h : Heap) : Prop := if b = true then h.IsListIter it a i ∧ h.IsList a items else h.IsTupleIter it a i ∧ h.IsTuple a items
def SqH (b : Bool) (a : Addr) (items : Array Value) (h : Heap) : Prop := if b = true then h.IsList a items else h.IsTuple a items
section
variable {X : Cx} {F H : Hp} {σ : Sg} {s : Shared} {pins : List (Addr × PySem.Obj)} {K : KW} {a it : Addr} {o : PySem.Obj} {b : Bool} {vs : List V} {its : List Value}
theorem Fx.sub {F' : Hp} (hs : Sub F F') (h : Fx K F a o) : Fx K F' a o := h.imp (fun ⟨u, e⟩ => ⟨u, hs _ _ e⟩) id
theorem Fx.get (I : L2.Inv X pins σ H s) (h : Fx X.kw H a o) : s.heap.get? a = some o := by
  rcases h with ⟨u, e⟩ | e
  · exact (show ObjOk X.prog X.w H s.heap a (.frz o u) from I.hok a _ e).1
  · exact I.kIn _ _ e
theorem sq_of {d : D} {ds : List D} {v : V} (I : L2.Inv X pins σ H s) (hs : Sub F H) (h : Rep X.kw F d v) (hd : asL d = some ds) : ∃ a o b vs its, v = .ref a ∧ Sq X.kw F a o b vs its ∧ RepL X.kw F ds vs := by
  cases d <;> simp [asL] at hd
  · subst hd
    simp only [Rep] at h
    obtain ⟨a, vs, o, rfl, q, r⟩ := h
    obtain ⟨e1, _, its, n, rv, e2⟩ := (show ObjOk X.prog X.w H s.heap a (.frz o (.lst vs)) from I.hok a _ (hs _ _ q))
    rw [e1] at e2
    cases e2
    exact ⟨a, _, true, vs, its, rfl, ⟨.inl ⟨_, q⟩, rfl, ⟨n, rfl⟩, rv⟩, r⟩
  · subst hd
    simp only [Rep] at h
    obtain ⟨a, vs, rfl, q, r⟩ := h
    rcases q with ⟨o, q, _⟩ | ⟨o, its, n, q1, q2, _, q4, _, q6⟩
    · obtain ⟨e1, _, its, rv, o', e2, e3, n, e4⟩ := (show ObjOk X.prog X.w H s.heap a (.frz o (.tup vs)) from I.hok a _ (hs _ _ q))
      rw [e1] at e2
      cases e2
      exact ⟨a, _, false, vs, its, rfl, ⟨.inl ⟨_, q⟩, e3, ⟨n, e4⟩, rv⟩, r⟩
    · exact ⟨a, o, false, vs, its.toList, rfl, ⟨.inr q1, q2, ⟨n, by simpa using q4⟩, q6⟩, r⟩
theorem Sq.at {h : Heap} (q : Sq K F a o b vs its) (e : h.get? a = some o) : SqH b a its.toArray h := by
  obtain ⟨n, hd⟩ := q.dat
  unfold SqH
  cases b with
  | true => rw [if_pos rfl]; exact ⟨o, e, q.cls, n, hd⟩
  | false => rw [if_neg Bool.false_ne_true]; exact ⟨o, e, q.cls, n, hd⟩
theorem sq_draws {P : Program} {w : World} {A : Around} {items : Array Value} (hh : A.handled = none) (hne : a ≠ it) : Draws P w A it [it, a] items.size (fun i v => items[i]? = some v) (SqSt b it a items) := by
  cases b with
  | true => exact Draws.list hh it a hne items
  | false => exact Draws.tuple hh it a hne items
theorem sq_begins (b : Bool) (a : Addr) (items : Array Value) : Begins (.ref a) (itO b a) (SqH b a items) := by
  cases b with
  | true => exact begins_list a items
  | false => exact begins_tuple a items
theorem sq_new {h : Heap} {items : Array Value} (e : h.get? it = some (itO b a)) (hq : SqH b a items h) : SqSt b it a items 0 h := by
  cases b with
  | true => exact ⟨⟨_, e, rfl, rfl⟩, hq⟩
  | false => exact ⟨⟨_, e, rfl, rfl⟩, hq⟩
theorem sq_cell {h : Heap} {items : Array Value} {i : Nat} (st : SqSt b it a items i h) : ∃ o, h.get? it = some o ∧ ∀ v, o.data ≠ .cell v := by
  cases b with
  | true => obtain ⟨⟨o, e, _, d⟩, _⟩ := st; exact ⟨o, e, fun v q => by rw [d] at q; cases q⟩
  | false => obtain ⟨⟨o, e, _, d⟩, _⟩ := st; exact ⟨o, e, fun v q => by rw [d] at q; cases q⟩
end
/-- rows that come in new tuples, from objects that stand for good -/
def ItF (K : KW) (seqs : List (Addr × PySem.Obj)) (n : Nat) (row : Nat → List V → Prop) : It :=
  ⟨fun i H => (∀ p ∈ seqs, Fx K H p.1 p.2) ∧ i < n, fun i H v H' => ∃ T vs, v = .ref T ∧ H T = none ∧ H' = upd H T (.tup vs) ∧ row i vs, fun i H => (∀ p ∈ seqs, Fx K H p.1 p.2) ∧ n ≤ i⟩
theorem turn_goes {K : KW} {P : Program} {elts : List Expr} {kk : Nat} {tpos : Pos} {I : Addr} {cells fp wr : List Addr} {n : Nat} {Y : Nat → Heap → Value → Heap → Prop} {St : Nat → Heap → Prop} {seqs : List (Addr × PySem.Obj)} {row : Nat → List V → Prop}
    (W : ∀ A : Around, A.handled = none → GoesN P K.w A (.Tuple elts kk tpos) I fp wr n Y St) (hI : I ∈ cells) (hfp : ∀ b ∈ fp, b ∈ cells ∨ ∃ o, (b, o) ∈ seqs) (hwr : ∀ b ∈ wr, b ∈ cells)
    (hobj : ∀ i h, St i h → ∀ b ∈ cells, ∃ o, h.get? b = some o ∧ ∀ v, o.data ≠ .cell v)
    (hY : ∀ i h₀ v h, Y i h₀ v h → ∃ T us vs, v = .ref T ∧ h₀.objs.size ≤ T ∧ h.IsTuple T us ∧ Vals vs us.toList ∧ us.size ≤ 3 ∧ row i vs)
    (hself : ∀ (A : Around) i (h0 : Heap) (s : Shared) (Q : Value → Shared → Prop) (E : Value → Shared → Prop), St i h0 → (∀ b ∈ cells, ∀ o, h0.get? b = some o → s.heap.get? b = some o) → Q (.ref I) s → wpAny (model P K.w) A (pyIter (.ref I)) Q E s) :
    Turn P K.w K.fr (.Tuple elts kk tpos) (ItF K seqs n row) cells I (fun i h => ∃ h0, St i h0 ∧ i ≤ n ∧ (∀ p ∈ seqs, h0.get? p.1 = some p.2) ∧ ∀ b ∈ cells, ∀ o, h0.get? b = some o → h.get? b = some o) where
  mem := hI
  obj := fun i h ⟨h0, st, _, _, k⟩ b hb => by
    obtain ⟨o, e, nc⟩ := hobj i h0 st b hb
    exact ⟨o, k b hb o e, nc⟩
  keep := fun i h h' ⟨h0, st, hn, q, k⟩ k2 => ⟨h0, st, hn, q, fun b hb o e => k2 b hb o (k b hb o e)⟩
  item := by
    intro X hP hw hK hc i pins s σ H E Iv hf ⟨h0, st, hn, hs0, k⟩ ⟨hfx, hi⟩
    have eK : X.kw = K := by
      cases K
      simp only at hw hK
      subst hw hK
      rfl
    subst eK
    subst hP
    have fx : ∀ p ∈ seqs, s.heap.get? p.1 = some p.2 := fun p hp => (hfx p hp).get Iv
    have sts : St i s.heap := (W X.A (Iv.ok.hd hc)).frame i h0 s.heap st fun b hb o e => by
      rcases hfp b hb with z | ⟨o', z⟩
      · exact k b z o e
      · have := hs0 _ z
        rw [e] at this
        cases this
        exact fx _ z
    refine wpAny_mono ((W X.A (Iv.ok.hd hc)).goes i s (fun v s2 => ∃ x H', L2.Inv X pins σ H' s2 ∧ L2.RelV x v ∧ (ItF X.kw seqs n row).yld i H x H' ∧ (∃ h0, St (i + 1) h0 ∧ i + 1 ≤ n ∧ (∀ p ∈ seqs, h0.get? p.1 = some p.2) ∧ ∀ b ∈ cells, ∀ o, h0.get? b = some o → s2.heap.get? b = some o) ∧ ∀ b ∈ cells, H' b = none) E hi sts
      fun v h' tk hy st' hk _ => ?_) (fun r s1 h1 => h1) fun _ _ e => e
    obtain ⟨T, us, vs, rfl, hT, ht, rv, hsz, hr⟩ := hY _ _ _ _ hy
    have hk' : ∀ b o, b ∉ cells → s.heap.get? b = some o → h'.get? b = some o := fun b o hb e => hk b o (fun z => hb (hwr b z)) e
    have new : ObjOk X.prog X.w (upd H T (.tup vs)) h' T (.tup vs) := by
      refine ⟨?_, us.toList, rv, (show h'.IsTuple T us.toList.toArray by rw [Array.toArray_toList]; exact ht)⟩
      have h3 : vs.length = us.size := (Paired.length rv).trans Array.length_toList
      rw [h3, sizeLine_eq]
      omega
    have I1 : L2.Inv X pins σ (upd H T (.tup vs)) { s with heap := h', toks := tk } := Iv.turnedNew (ch := cells) hk' hf hT new
    have lt : ∀ b ∈ cells, b < s.heap.objs.size := fun b hb => by
      obtain ⟨o, e, _⟩ := hobj i s.heap sts b hb
      exact Heap.lt_size e
    refine ⟨.ref T, _, I1, rfl, ⟨T, vs, rfl, Iv.hok.fresh hT, rfl, hr⟩, ⟨h', st', hi, fun p hp => ?_, fun b _ o e => e⟩, fun b hb => ?_⟩
    · have : Fx X.kw (upd H T (.tup vs)) p.1 p.2 := (hfx p hp).sub (Sub.upd (Iv.hok.fresh hT))
      exact this.get I1
    · rw [upd_ne (Nat.ne_of_lt (Nat.lt_of_lt_of_le (lt b hb) hT))]
      exact (hf b hb).1
  done := by
    intro X hP hw hK hc i pins s σ H E Iv hf ⟨h0, st, hn, hs0, k⟩ ⟨hfx, hi⟩
    have eK : X.kw = K := by
      cases K
      simp only at hw hK
      subst hw hK
      rfl
    subst eK
    subst hP
    have fx : ∀ p ∈ seqs, s.heap.get? p.1 = some p.2 := fun p hp => (hfx p hp).get Iv
    have sts : St i s.heap := (W X.A (Iv.ok.hd hc)).frame i h0 s.heap st fun b hb o e => by
      rcases hfp b hb with z | ⟨o', z⟩
      · exact k b z o e
      · have := hs0 _ z
        rw [e] at this
        cases this
        exact fx _ z
    obtain rfl : i = n := Nat.le_antisymm hn hi
    refine (W X.A (Iv.ok.hd hc)).stops s (fun s1 => L2.Inv X pins σ H s1) E sts fun h' tk hk _ => ?_
    exact Iv.turnedL (ch := cells) (fun b o hb e => hk b o (fun z => hb (hwr b z)) e) hf
  self := fun A i s Q E ⟨h0, st, _, _, k⟩ h => hself A i h0 s Q E st k h
/-! the three -/
section
variable {X : Cx} {F H : Hp} {σ : Sg} {s : Shared} {pins : List (Addr × PySem.Obj)} {K : KW} {P : Program} {elts : List Expr} {kk : Nat} {tpos : Pos}
def rowZ2 (vs ws : List V) (i : Nat) (r : List V) : Prop := ∃ x y, vs[i]? = some x ∧ ws[i]? = some y ∧ r = [x, y]
def rowZ3 (vs ws us : List V) (i : Nat) (r : List V) : Prop := ∃ x y z, vs[i]? = some x ∧ ws[i]? = some y ∧ us[i]? = some z ∧ r = [x, y, z]
def rowEn (vs : List V) (i : Nat) (r : List V) : Prop := ∃ x, vs[i]? = some x ∧ r = [.int (i : Nat), x]
theorem vals_at {vs : List V} {its : List Value} (r : Vals vs its) {i : Nat} {u : Value} (h : its.toArray[i]? = some u) : ∃ x, vs[i]? = some x ∧ RelV x u := by
  rw [List.getElem?_toArray] at h
  have hi : i < its.length := (List.getElem?_eq_some_iff.mp h).1
  have hl := r.length
  have hv : vs[i]? = some vs[i] := List.getElem?_eq_getElem (by omega)
  obtain ⟨u', h1, h2⟩ := r.get hv
  rw [h] at h1
  cases h1
  exact ⟨_, hv, h2⟩
theorem of_pair {p : Addr × PySem.Obj} {a b : Addr} {oa ob : PySem.Obj} {Q : Addr → PySem.Obj → Prop} (h : p ∈ [(a, oa), (b, ob)]) (ha : Q a oa) (hb : Q b ob) : Q p.1 p.2 := by
  rcases List.mem_cons.mp h with rfl | h
  · exact ha
  · rw [List.mem_singleton.mp h]; exact hb
theorem turn_z2 {a b z TI TO i1 i2 : Addr} {oa ob : PySem.Obj} {ba bb : Bool} {va vb : List V} {ia ib : List Value} (S : ZipSep2 z TI TO i1 i2 [i1, a] [i2, b]) (na : a ≠ i1) (nb : b ≠ i2) (ha : Sq K F a oa ba va ia) (hb : Sq K F b ob bb vb ib) :
    Turn P K.w K.fr (.Tuple elts kk tpos) (ItF K [(a, oa), (b, ob)] (min ia.toArray.size ib.toArray.size) (rowZ2 va vb)) [z, TI, TO, i1, i2] z
      (fun i h => ∃ h0, (IsZip h0 z TI TO .none ∧ IsTupOf2 h0 TI (.ref i1) (.ref i2) ∧ (∃ a1 a2, IsTupOf2 h0 TO a1 a2) ∧ SqSt ba i1 a ia.toArray i h0 ∧ SqSt bb i2 b ib.toArray i h0) ∧ i ≤ min ia.toArray.size ib.toArray.size ∧ (∀ p ∈ [(a, oa), (b, ob)], h0.get? p.1 = some p.2) ∧ ∀ c ∈ [z, TI, TO, i1, i2], ∀ o, h0.get? c = some o → h.get? c = some o) := by
  refine turn_goes (K := K) (fp := z :: TI :: TO :: ([i1, a] ++ [i2, b])) (wr := [z, TO, i1, i2]) (Y := fun i h₀ v h => ∃ T x y, v = .ref T ∧ h₀.objs.size ≤ T ∧ ia.toArray[i]? = some x ∧ ib.toArray[i]? = some y ∧ h.IsTuple T #[x, y])
    (St := fun i h => IsZip h z TI TO .none ∧ IsTupOf2 h TI (.ref i1) (.ref i2) ∧ (∃ a1 a2, IsTupOf2 h TO a1 a2) ∧ SqSt ba i1 a ia.toArray i h ∧ SqSt bb i2 b ib.toArray i h)
    (fun A hh => GoesN.zip2 S (sq_draws (A := A.in1) hh na) (sq_draws (A := A.in1) hh nb)) List.mem_cons_self (fun c hc => ?_) (fun c hc => ?_) (fun i h st c hc => ?_) (fun i h₀ v h hy => ?_) (fun A i h0 s Q E st k h => ?_)
  · simp only [List.mem_cons, List.mem_append, List.not_mem_nil, or_false] at hc ⊢
    rcases hc with q | q | q | (q | q) | (q | q)
    · exact .inl (.inl q)
    · exact .inl (.inr (.inl q))
    · exact .inl (.inr (.inr (.inl q)))
    · exact .inl (.inr (.inr (.inr (.inl q))))
    · exact .inr ⟨oa, .inl (by rw [q])⟩
    · exact .inl (.inr (.inr (.inr (.inr q))))
    · exact .inr ⟨ob, .inr (by rw [q])⟩
  · simp only [List.mem_cons, List.not_mem_nil, or_false] at hc ⊢
    rcases hc with q | q | q | q
    · exact .inl q
    · exact .inr (.inr (.inl q))
    · exact .inr (.inr (.inr (.inl q)))
    · exact .inr (.inr (.inr (.inr q)))
  · obtain ⟨hz, hTI, ⟨x, y, hTO⟩, h1, h2⟩ := st
    simp only [List.mem_cons, List.not_mem_nil, or_false] at hc
    rcases hc with rfl | rfl | rfl | rfl | rfl
    · exact ⟨_, hz, fun v q => nomatch q⟩
    · exact ⟨_, hTI, fun v q => nomatch q⟩
    · exact ⟨_, hTO, fun v q => nomatch q⟩
    · exact sq_cell h1
    · exact sq_cell h2
  · obtain ⟨T, x, y, rfl, h1, h2, h3, h4⟩ := hy
    obtain ⟨u, q1, q2⟩ := vals_at ha.val h2
    obtain ⟨t, q3, q4⟩ := vals_at hb.val h3
    exact ⟨T, #[x, y], [u, t], rfl, h1, h4, (.cons q2 (.cons q4 .nil)), by simp, u, t, q1, q3, rfl⟩
  · exact wpAny_pyIter_zip (k z List.mem_cons_self _ st.1) h
theorem turn_z3 {a b c z TI TO i1 i2 i3 : Addr} {oa ob oc : PySem.Obj} {ba bb bc : Bool} {va vb vc : List V} {ia ib ic : List Value} (S : ZipSep3 z TI TO i1 i2 i3 [i1, a] [i2, b] [i3, c]) (na : a ≠ i1) (nb : b ≠ i2) (nc : c ≠ i3) (ha : Sq K F a oa ba va ia) (hb : Sq K F b ob bb vb ib) (hc : Sq K F c oc bc vc ic) :
    Turn P K.w K.fr (.Tuple elts kk tpos) (ItF K [(a, oa), (b, ob), (c, oc)] (min (min ia.toArray.size ib.toArray.size) ic.toArray.size) (rowZ3 va vb vc)) [z, TI, TO, i1, i2, i3] z
      (fun i h => ∃ h0, (IsZip h0 z TI TO .none ∧ IsTupOf3 h0 TI (.ref i1) (.ref i2) (.ref i3) ∧ (∃ a1 a2 a3, IsTupOf3 h0 TO a1 a2 a3) ∧ SqSt ba i1 a ia.toArray i h0 ∧ SqSt bb i2 b ib.toArray i h0 ∧ SqSt bc i3 c ic.toArray i h0) ∧ i ≤ min (min ia.toArray.size ib.toArray.size) ic.toArray.size ∧ (∀ p ∈ [(a, oa), (b, ob), (c, oc)], h0.get? p.1 = some p.2) ∧ ∀ c ∈ [z, TI, TO, i1, i2, i3], ∀ o, h0.get? c = some o → h.get? c = some o) := by
  refine turn_goes (K := K) (fp := z :: TI :: TO :: ([i1, a] ++ [i2, b] ++ [i3, c])) (wr := [z, TO, i1, i2, i3]) (Y := fun i h₀ v h => ∃ T x y u, v = .ref T ∧ h₀.objs.size ≤ T ∧ ia.toArray[i]? = some x ∧ ib.toArray[i]? = some y ∧ ic.toArray[i]? = some u ∧ h.IsTuple T #[x, y, u])
    (St := fun i h => IsZip h z TI TO .none ∧ IsTupOf3 h TI (.ref i1) (.ref i2) (.ref i3) ∧ (∃ a1 a2 a3, IsTupOf3 h TO a1 a2 a3) ∧ SqSt ba i1 a ia.toArray i h ∧ SqSt bb i2 b ib.toArray i h ∧ SqSt bc i3 c ic.toArray i h)
    (fun A hh => GoesN.zip3 S (sq_draws (A := A.in1) hh na) (sq_draws (A := A.in1) hh nb) (sq_draws (A := A.in1) hh nc)) List.mem_cons_self (fun d hd => ?_) (fun d hd => ?_) (fun i h st d hd => ?_) (fun i h₀ v h hy => ?_) (fun A i h0 s Q E st k h => ?_)
  · simp only [List.mem_cons, List.mem_append, List.not_mem_nil, or_false] at hd ⊢
    rcases hd with q | q | q | ((q | q) | (q | q)) | (q | q)
    · exact .inl (.inl q)
    · exact .inl (.inr (.inl q))
    · exact .inl (.inr (.inr (.inl q)))
    · exact .inl (.inr (.inr (.inr (.inl q))))
    · exact .inr ⟨oa, .inl (by rw [q])⟩
    · exact .inl (.inr (.inr (.inr (.inr (.inl q)))))
    · exact .inr ⟨ob, .inr (.inl (by rw [q]))⟩
    · exact .inl (.inr (.inr (.inr (.inr (.inr q)))))
    · exact .inr ⟨oc, .inr (.inr (by rw [q]))⟩
  · simp only [List.mem_cons, List.not_mem_nil, or_false] at hd ⊢
    rcases hd with q | q | q | q | q
    · exact .inl q
    · exact .inr (.inr (.inl q))
    · exact .inr (.inr (.inr (.inl q)))
    · exact .inr (.inr (.inr (.inr (.inl q))))
    · exact .inr (.inr (.inr (.inr (.inr q))))
  · obtain ⟨hz, hTI, ⟨x, y, u, hTO⟩, h1, h2, h3⟩ := st
    simp only [List.mem_cons, List.not_mem_nil, or_false] at hd
    rcases hd with rfl | rfl | rfl | rfl | rfl | rfl
    · exact ⟨_, hz, fun v q => nomatch q⟩
    · exact ⟨_, hTI, fun v q => nomatch q⟩
    · exact ⟨_, hTO, fun v q => nomatch q⟩
    · exact sq_cell h1
    · exact sq_cell h2
    · exact sq_cell h3
  · obtain ⟨T, x, y, u, rfl, h1, h2, h3, h4, h5⟩ := hy
    obtain ⟨x', q1, q2⟩ := vals_at ha.val h2
    obtain ⟨y', q3, q4⟩ := vals_at hb.val h3
    obtain ⟨u', q5, q6⟩ := vals_at hc.val h4
    exact ⟨T, #[x, y, u], [x', y', u'], rfl, h1, h5, .cons q2 (.cons q4 (.cons q6 .nil)), by simp, x', y', u', q1, q3, q5, rfl⟩
  · exact wpAny_pyIter_zip (k z List.mem_cons_self _ st.1) h
theorem turn_en {a e it : Addr} {oa : PySem.Obj} {ba : Bool} {va : List V} {ia : List Value} (na : a ≠ it) (hei : e ≠ it) (hea : e ≠ a) (ha : Sq K F a oa ba va ia) :
    Turn P K.w K.fr (.Tuple elts kk tpos) (ItF K [(a, oa)] ia.toArray.size (rowEn va)) [e, it] e
      (fun i h => ∃ h0, ((∃ old, IsEnum h0 e it (0 + (i : Int)) old) ∧ SqSt ba it a ia.toArray i h0) ∧ i ≤ ia.toArray.size ∧ (∀ p ∈ [(a, oa)], h0.get? p.1 = some p.2) ∧ ∀ c ∈ [e, it], ∀ o, h0.get? c = some o → h.get? c = some o) := by
  refine turn_goes (K := K) (fp := e :: [it, a]) (wr := [e, it]) (Y := fun i h₀ v h => ∃ T t x, v = .ref T ∧ h₀.objs.size ≤ T ∧ ia.toArray[i]? = some x ∧ h.IsTuple T #[.int (0 + (i : Int)) t, x])
    (St := fun i h => (∃ old, IsEnum h e it (0 + (i : Int)) old) ∧ SqSt ba it a ia.toArray i h)
    (fun A hh => GoesN.enumFrom 0 (sq_draws (A := A.in1) hh na) e hei (by simp [hei, hea]) List.mem_cons_self) List.mem_cons_self (fun d hd => ?_) (fun d hd => hd) (fun i h st d hd => ?_) (fun i h₀ v h hy => ?_) (fun A i h0 s Q E st k h => ?_)
  · simp only [List.mem_cons, List.not_mem_nil, or_false] at hd ⊢
    rcases hd with q | q | q
    · exact .inl (.inl q)
    · exact .inl (.inr q)
    · exact .inr ⟨oa, by rw [q]⟩
  · obtain ⟨⟨old, he⟩, h1⟩ := st
    simp only [List.mem_cons, List.not_mem_nil, or_false] at hd
    rcases hd with rfl | rfl
    · exact ⟨_, he, fun v q => nomatch q⟩
    · exact sq_cell h1
  · obtain ⟨T, t, x, rfl, h1, h2, h3⟩ := hy
    obtain ⟨x', q1, q2⟩ := vals_at ha.val h2
    exact ⟨T, #[.int (0 + (i : Int)) t, x], [.int (i : Nat), x'], rfl, h1, h3, .cons ⟨t, by rw [Int.zero_add]⟩ (.cons q2 .nil), by show 2 ≤ 3; decide, x', q1, rfl⟩
  · obtain ⟨⟨old, he⟩, _⟩ := st
    exact wpAny_pyIter_enum (k e List.mem_cons_self _ he) h
end
section
variable {X : Cx} {e e2 e3 : Expr} {ta : TA} {p pos tpos : Pos} {elts : List Expr} {kk : Nat}
/-- zip of two -/
theorem pi_z2 (hg : Gl X "zip") (hm : X.mg "zip" = none) (ha : PA X [e, e2] ta) (hs : starEach [e, e2] X.env = (false, eval e X.env) :: starEach [e2] X.env) (hpl : (backTo pos (starEach [e2] X.env)).any (·.1) = false) :
    PI X (.Tuple elts kk tpos) (.Call (.Name "zip" p) [e, e2] [] pos) (fun σ H R => ta σ H fun vs H1 => ∃ F d1 d2 x y ds es, vs = [x, y] ∧ Sub F H1 ∧ Rep X.kw F d1 x ∧ Rep X.kw F d2 y ∧ asL d1 = some ds ∧ asL d2 = some es ∧
      ∀ a b oa ob va vb, Fx X.kw F a oa → Fx X.kw F b ob → RepL X.kw F ds va → RepL X.kw F es vb → R (ItF X.kw [(a, oa), (b, ob)] (min va.length vb.length) (rowZ2 va vb)) H1) := by
  refine ⟨fun pins s σ H R I h => ?_⟩
  refine Call_ (ld_blt I hg hm PyProof.Rows.boot_zip (PyProof.Rows.callWith_type1 (thn (ha.run pos pins s σ H _ I h) fun us s1 ⟨vs, H1, I1, r1, q1⟩ => ?_) hs hpl))
  obtain ⟨F, d1, d2, x, y, ds, es, rfl, hsub, hx, hy, l1, l2, q⟩ := q1
  obtain ⟨u, u2, rfl, ru, ru2⟩ := vals2 r1
  obtain ⟨a, oa, ba, va, ia, rfl, sa, ra⟩ := sq_of I1 hsub hx l1
  obtain ⟨b, ob, bb, vb, ib, rfl, sb, rb⟩ := sq_of I1 hsub hy l2
  cases ru; cases ru2
  have ga : s1.heap.get? a = some oa := (sa.fx.sub hsub).get I1
  have gb : s1.heap.get? b = some ob := (sb.fx.sub hsub).get I1
  have la : a < s1.heap.objs.size := Heap.lt_size ga
  have lb : b < s1.heap.objs.size := Heap.lt_size gb
  refine zip_begins2 (sq_begins ba a ia.toArray) (sq_begins bb b ib.toArray) (sa.at ga) (sb.at gb) fun h' hz hTI hTO h1 h2 hsz hk => wpAny_pyIter_zip hz ?_
  have I2 : L2.Inv X pins σ H1 { s1 with heap := h' } := I1.kept (t' := s1.toks) hk
  have lenA : ia.toArray.size = va.length := by rw [List.size_toArray]; exact (Paired.length sa.val).symm
  have lenB : ib.toArray.size = vb.length := by rw [List.size_toArray]; exact (Paired.length sb.val).symm
  have tz := turn_z2 (K := X.kw) (P := X.prog) (elts := elts) (kk := kk) (tpos := tpos) (zip_sep2 (N := s1.heap.objs.size) (fp1 := [a]) (fp2 := [b]) (fun c hc => by rw [List.mem_singleton.mp hc]; exact la) (fun c hc => by rw [List.mem_singleton.mp hc]; exact lb)) (Nat.ne_of_lt la) (Nat.ne_of_lt (Nat.lt_succ_of_lt lb)) sa sb
  rw [lenA, lenB] at tz
  refine ⟨_, _, _, _, H1, rfl, I2, tz, ⟨h', ⟨hz, hTI, ⟨_, _, hTO⟩, sq_new h1 (sa.at (hk _ _ ga)), sq_new h2 (sb.at (hk _ _ gb))⟩, Nat.zero_le _, fun p hp => ?_, fun c _ o e => e⟩, fun c hc => ?_, q a b oa ob va vb sa.fx sb.fx ra rb⟩
  · exact of_pair (Q := fun a o => h'.get? a = some o) hp (hk _ _ ga) (hk _ _ gb)
  · have hle : s1.heap.objs.size ≤ c := by
      simp only [List.mem_cons, List.not_mem_nil, or_false] at hc
      rcases hc with rfl | rfl | rfl | rfl | rfl
      · exact Nat.le_add_right _ _
      · exact Nat.le_add_right _ _
      · exact Nat.le_add_right _ _
      · exact Nat.le_refl _
      · exact Nat.le_add_right _ _
    exact I1.fpOk hle (I1.hok.fresh hle)
theorem vals3 {x y z : V} {us : List Value} (h : Vals [x, y, z] us) : ∃ u v w, us = [u, v, w] ∧ RelV x u ∧ RelV y v ∧ RelV z w := by
  cases h with
  | cons r1 t => cases t with
    | cons r2 t => cases t with
      | cons r3 t => cases t; exact ⟨_, _, _, rfl, r1, r2, r3⟩
theorem pi_z3 (hg : Gl X "zip") (hm : X.mg "zip" = none) (ha : PA X [e, e2, e3] ta) (hs : starEach [e, e2, e3] X.env = (false, eval e X.env) :: starEach [e2, e3] X.env) (hpl : (backTo pos (starEach [e2, e3] X.env)).any (·.1) = false) :
    PI X (.Tuple elts kk tpos) (.Call (.Name "zip" p) [e, e2, e3] [] pos) (fun σ H R => ta σ H fun vs H1 => ∃ F d1 d2 d3 x y z ds es fs, vs = [x, y, z] ∧ Sub F H1 ∧ Rep X.kw F d1 x ∧ Rep X.kw F d2 y ∧ Rep X.kw F d3 z ∧ asL d1 = some ds ∧ asL d2 = some es ∧ asL d3 = some fs ∧
      ∀ a b c oa ob oc va vb vc, Fx X.kw F a oa → Fx X.kw F b ob → Fx X.kw F c oc → RepL X.kw F ds va → RepL X.kw F es vb → RepL X.kw F fs vc → R (ItF X.kw [(a, oa), (b, ob), (c, oc)] (min (min va.length vb.length) vc.length) (rowZ3 va vb vc)) H1) := by
  refine ⟨fun pins s σ H R I h => ?_⟩
  refine Call_ (ld_blt I hg hm PyProof.Rows.boot_zip (PyProof.Rows.callWith_type1 (thn (ha.run pos pins s σ H _ I h) fun us s1 ⟨vs, H1, I1, r1, q1⟩ => ?_) hs hpl))
  obtain ⟨F, d1, d2, d3, x, y, z, ds, es, fs, rfl, hsub, hx, hy, hz, l1, l2, l3, q⟩ := q1
  obtain ⟨u, u2, u3, rfl, ru, ru2, ru3⟩ := vals3 r1
  obtain ⟨a, oa, ba, va, ia, rfl, sa, ra⟩ := sq_of I1 hsub hx l1
  obtain ⟨b, ob, bb, vb, ib, rfl, sb, rb⟩ := sq_of I1 hsub hy l2
  obtain ⟨c, oc, bc, vc, ic, rfl, sc, rc⟩ := sq_of I1 hsub hz l3
  cases ru; cases ru2; cases ru3
  have ga : s1.heap.get? a = some oa := (sa.fx.sub hsub).get I1
  have gb : s1.heap.get? b = some ob := (sb.fx.sub hsub).get I1
  have gc : s1.heap.get? c = some oc := (sc.fx.sub hsub).get I1
  have la : a < s1.heap.objs.size := Heap.lt_size ga
  have lb : b < s1.heap.objs.size := Heap.lt_size gb
  have lc : c < s1.heap.objs.size := Heap.lt_size gc
  refine zip_begins3 (sq_begins ba a ia.toArray) (sq_begins bb b ib.toArray) (sq_begins bc c ic.toArray) (sa.at ga) (sb.at gb) (sc.at gc) fun h' hz hTI hTO h1 h2 h3 hsz hk => wpAny_pyIter_zip hz ?_
  have I2 : L2.Inv X pins σ H1 { s1 with heap := h' } := I1.kept (t' := s1.toks) hk
  have lenA : ia.toArray.size = va.length := by rw [List.size_toArray]; exact (Paired.length sa.val).symm
  have lenB : ib.toArray.size = vb.length := by rw [List.size_toArray]; exact (Paired.length sb.val).symm
  have lenC : ic.toArray.size = vc.length := by rw [List.size_toArray]; exact (Paired.length sc.val).symm
  have tz := turn_z3 (K := X.kw) (P := X.prog) (elts := elts) (kk := kk) (tpos := tpos) (zip_sep3 (N := s1.heap.objs.size) (fp1 := [a]) (fp2 := [b]) (fp3 := [c]) (fun d hd => by rw [List.mem_singleton.mp hd]; exact la) (fun d hd => by rw [List.mem_singleton.mp hd]; exact lb) (fun d hd => by rw [List.mem_singleton.mp hd]; exact lc)) (Nat.ne_of_lt la) (Nat.ne_of_lt (Nat.lt_succ_of_lt lb)) (Nat.ne_of_lt (Nat.lt_of_lt_of_le lc (Nat.le_add_right _ _))) sa sb sc
  rw [lenA, lenB, lenC] at tz
  refine ⟨_, _, _, _, H1, rfl, I2, tz, ⟨h', ⟨hz, hTI, ⟨_, _, _, hTO⟩, sq_new h1 (sa.at (hk _ _ ga)), sq_new h2 (sb.at (hk _ _ gb)), sq_new h3 (sc.at (hk _ _ gc))⟩, Nat.zero_le _, fun p hp => ?_, fun c _ o e => e⟩, fun d hd => ?_, q a b c oa ob oc va vb vc sa.fx sb.fx sc.fx ra rb rc⟩
  · simp only [List.mem_cons, List.not_mem_nil, or_false] at hp
    rcases hp with rfl | rfl | rfl
    · exact hk _ _ ga
    · exact hk _ _ gb
    · exact hk _ _ gc
  · have hle : s1.heap.objs.size ≤ d := by
      simp only [List.mem_cons, List.not_mem_nil, or_false] at hd
      rcases hd with rfl | rfl | rfl | rfl | rfl | rfl
      · exact Nat.le_add_right _ _
      · exact Nat.le_add_right _ _
      · exact Nat.le_add_right _ _
      · exact Nat.le_refl _
      · exact Nat.le_add_right _ _
      · exact Nat.le_add_right _ _
    exact I1.fpOk hle (I1.hok.fresh hle)
theorem meets_en {v : Value} {o : PySem.Obj} {Hh : Heap → Prop} (B : Begins v o Hh) : Meets (Builtin.«enumerate.__new__» ⟨[.type "enumerate", v], []⟩) (fun _ R s => Hh s.heap ∧
      R (.ok (.ret (.ref (s.heap.push o).objs.size))) { s with heap := (s.heap.push o).push { cls := .type "enumerate", data := .fields #[.none, .bool false, .ref s.heap.objs.size, rawInt 0, .none, .none] } }) := by
  refine .of_wp fun prog w A R s h => ?_
  obtain ⟨hp, g, d, tk, os⟩ := s
  obtain ⟨h1, h⟩ := h
  have hsub := sub_enumerate
  have begin1 : ∀ {A' : Around} {E : Value → Shared → Prop} {Q : Value → Shared → Prop}, Q (.ref hp.objs.size) ⟨hp.push o, g, d, tk, os⟩ → wpAny (model prog w) A' (pyIter v) Q E ⟨hp, g, d, tk, os⟩ := fun q => B.iter prog w _ _ ⟨hp, g, d, tk, os⟩ _ h1 q
  wp_walk using begin1
  first
    | exact ⟨_, rfl, h⟩
    | (refine wpAny_stack_any fun st => wpAny_pure ?_
       split
       · rename_i c _ _ _ _ _
         cases (c == Value.type "enumerate")
         · wp_walk using begin1
           exact ⟨_, rfl, h⟩
         · wp_walk using begin1
           exact ⟨_, rfl, h⟩
       · wp_walk using begin1
         exact ⟨_, rfl, h⟩)
theorem call_en {A : Around} {E : Value → Shared → Prop} {s : Shared} {P : Program} {w : World} {v : Value} {o : PySem.Obj} {Hh : Heap → Prop} {Q : Value → Shared → Prop} (B : Begins v o Hh) (h1 : Hh s.heap)
    (h : ∀ h', IsEnum h' (s.heap.objs.size + 1) s.heap.objs.size 0 .none → h'.get? s.heap.objs.size = some o → (∀ b o, s.heap.get? b = some o → h'.get? b = some o) → Q (.ref (s.heap.objs.size + 1)) { s with heap := h' }) :
    wpAny (model P w) A (call (.type "enumerate") [v]) Q E s := by
  refine callType_new PySem.F.called_enumerate (by decide) (PySem.F.typeCall_enumerate_1 _) (PySem.F.newCall_enumerate_1 _) (fun obj => PySem.F.args_object_init_2 obj _) PySem.F.entry_enumerate_new (meets_en B) ⟨h1, ?_⟩
  have hz : (s.heap.push o).objs.size = s.heap.objs.size + 1 := Heap.size_push ..
  have he := Heap.get?_push_size (s.heap.push o) (o := { cls := .type "enumerate", data := .fields #[.none, .bool false, .ref s.heap.objs.size, rawInt 0, .none, .none] }) rfl
  rw [hz] at he
  show _ ∧ _
  rw [hz]
  exact ⟨⟨_, he, rfl⟩, h _ he (Heap.get?_push_of_some _ (Heap.get?_push_size _ B.free)) fun b o x => Heap.get?_push_of_some _ (Heap.get?_push_of_some _ x)⟩
/-- enumerate -/
theorem pi_en (hg : Gl X "enumerate") (hm : X.mg "enumerate" = none) (ha : PA X [e] ta) (hs : starEach [e] X.env = [(false, eval e X.env)]) :
    PI X (.Tuple elts kk tpos) (.Call (.Name "enumerate" p) [e] [] pos) (fun σ H R => ta σ H fun vs H1 => ∃ F d1 x ds, vs = [x] ∧ Sub F H1 ∧ Rep X.kw F d1 x ∧ asL d1 = some ds ∧
      ∀ a oa va, Fx X.kw F a oa → RepL X.kw F ds va → R (ItF X.kw [(a, oa)] va.length (rowEn va)) H1) := by
  refine ⟨fun pins s σ H R I h => ?_⟩
  refine Call_ (ld_blt I hg hm boot_enumerate (PyProof.Rows.callWith_type1 (thn (ha.run pos pins s σ H _ I h) fun us s1 ⟨vs, H1, I1, r1, q1⟩ => ?_) hs rfl))
  obtain ⟨F, d1, x, ds, rfl, hsub, hx, l1, q⟩ := q1
  obtain ⟨u, rfl, ru⟩ := vals1 r1
  obtain ⟨a, oa, ba, va, ia, rfl, sa, ra⟩ := sq_of I1 hsub hx l1
  cases ru
  have ga : s1.heap.get? a = some oa := (sa.fx.sub hsub).get I1
  have la : a < s1.heap.objs.size := Heap.lt_size ga
  have lenA : ia.toArray.size = va.length := by rw [List.size_toArray]; exact (Paired.length sa.val).symm
  have fin : ∀ h', IsEnum h' (s1.heap.objs.size + 1) s1.heap.objs.size 0 .none → h'.get? s1.heap.objs.size = some (itO ba a) → (∀ b o, s1.heap.get? b = some o → h'.get? b = some o) → PIE X pins σ (.Tuple elts kk tpos) R (.ref (s1.heap.objs.size + 1)) { s1 with heap := h' } := fun h' he h1 hk => by
    have I2 : L2.Inv X pins σ H1 { s1 with heap := h' } := I1.kept (t' := s1.toks) hk
    have tz := turn_en (K := X.kw) (P := X.prog) (elts := elts) (kk := kk) (tpos := tpos) (e := s1.heap.objs.size + 1) (it := s1.heap.objs.size) (Nat.ne_of_lt la) (Nat.succ_ne_self _) (Nat.ne_of_gt (Nat.lt_succ_of_lt la)) sa
    rw [lenA] at tz
    refine ⟨_, _, _, _, H1, rfl, I2, tz, ⟨h', ⟨⟨_, he⟩, sq_new h1 (sa.at (hk _ _ ga))⟩, Nat.zero_le _, fun p hp => ?_, fun c _ o e => e⟩, fun d hd => ?_, q a oa va sa.fx ra⟩
    · rw [List.mem_singleton.mp hp]
      exact hk _ _ ga
    · have hle : s1.heap.objs.size ≤ d := by
        simp only [List.mem_cons, List.not_mem_nil, or_false] at hd
        rcases hd with rfl | rfl
        · exact Nat.le_add_right _ _
        · exact Nat.le_refl _
      exact I1.fpOk hle (I1.hok.fresh hle)
  exact call_en (sq_begins ba a ia.toArray) (sa.at ga) fun h' he h1 hk => wpAny_pyIter_enum he (fin h' he h1 hk)
end
end PV

set_option Elab.async false
set_option linter.all false
set_option maxRecDepth 100000
set_option maxHeartbeats 1000000
/-! PV: what is walked; comprehensions. -/
namespace PV
open PySem L2 PyProof.Rows
section
variable {K : KW} {F H F' H' F1 H1 : Hp} {ρ ρ' ρ1 : Pl} {σ σ' : Sg} {e : En} {d : D} {w : Bool} {v : V}
/-- an item has come: as it stands, or in a new tuple -/
def YV (K : KW) (new : Bool) (F H : Hp) (d : D) (x : V) (H' : Hp) : Prop :=
  if new = true then ∃ T ds vs, H T = none ∧ H' = upd H T (.tup vs) ∧ x = .ref T ∧ d = .tuple ds ∧ RepL K F ds vs else H' = H ∧ Rep K F d x
def newK : IK → Bool
  | .zip => true
  | .zip3 => true
  | .enu => true
  | _ => false
/-- what is walked yields these -/
def YF (K : KW) (new : Bool) (F : Hp) (J : It) (items : List D) : Prop :=
  ∀ F' H', Sub F F' → Sub F' H' → ∀ i, (items.length ≤ i → J.stop i H') ∧ ∀ d, items[i]? = some d → J.go i H' ∧ ∀ x H'', J.yld i H' x H'' → YV K new F' H' d x H''
theorem YF.sub {new : Bool} {J : It} {items : List D} (s : Sub F F') (h : YF K new F J items) : YF K new F' J items := fun F2 H2 s1 s2 => h F2 H2 (s.trans s1) s2
theorem itl_yf {a : Addr} {o : PySem.Obj} {ds : List D} {vs : List V} (h : F a = some (.frz o (.lst vs))) (r : RepL K F ds vs) : YF K false F (Itl K a) ds := fun F' H' s1 s2 i => by
  have q : SqL K H' a vs := .inl (.inr ⟨o, s2 _ _ (s1 _ _ h)⟩)
  refine ⟨fun hi => ⟨vs, q, by rw [r.length]; exact hi⟩, fun d hd => ?_⟩
  obtain ⟨x, hx, rx⟩ := r.get hd
  refine ⟨⟨vs, x, q, hx⟩, fun y H'' ⟨e1, e2⟩ => ?_⟩
  have e3 := e2 vs q
  rw [hx] at e3
  cases e3
  exact ⟨e1, Rep.sub s1 _ _ rx⟩
theorem itt_yf {a : Addr} {ds : List D} {vs : List V} (h : SqU K F a vs) (r : RepL K F ds vs) : YF K false F (Itt K a) ds := fun F' H' s1 s2 i => by
  have q : SqT K H' a vs := ((h.sub s1).sub s2).sq
  refine ⟨fun hi => ⟨vs, q, by rw [r.length]; exact hi⟩, fun d hd => ?_⟩
  obtain ⟨x, hx, rx⟩ := r.get hd
  refine ⟨⟨vs, x, q, hx⟩, fun y H'' ⟨e1, e2⟩ => ?_⟩
  have e3 := e2 vs q
  rw [hx] at e3
  cases e3
  exact ⟨e1, Rep.sub s1 _ _ rx⟩
theorem its_yf (x : Str) : YF K false F (Its x) (x.cps.toList.map fun c => .str ⟨#[c]⟩) := fun F' H' s1 s2 i => by
  refine ⟨fun hi => (show x.cps.size ≤ i by simpa using hi), fun d hd => ?_⟩
  rw [List.getElem?_map, Option.map_eq_some_iff] at hd
  obtain ⟨c, hc, rfl⟩ := hd
  rw [Array.getElem?_toList] at hc
  refine ⟨(Array.getElem?_eq_some_iff.mp hc).1, fun y H'' ⟨e1, c', e2, e3⟩ => ?_⟩
  rw [hc] at e2
  cases e2
  refine ⟨e1, ?_⟩
  simp only [Rep]
  exact e3
theorem itr_yf (lo hi : Int) : YF K false F (Itr lo (hi - lo).toNat) (rngD lo hi) := fun F' H' s1 s2 i => by
  refine ⟨fun h => (show (hi - lo).toNat ≤ i by simpa [rngD] using h), fun d hd => ?_⟩
  simp only [rngD, List.getElem?_map, Option.map_eq_some_iff] at hd
  obtain ⟨k, hk, rfl⟩ := hd
  obtain ⟨h1, h2⟩ := List.getElem?_eq_some_iff.mp hk
  simp at h1 h2
  subst h2
  refine ⟨(show i < (hi - lo).toNat by omega), fun y H'' ⟨e1, e2⟩ => ⟨e1, ?_⟩⟩
  simp only [Rep]
  exact e2
theorem enuD_get : ∀ {ds : List D} {n i : Nat} {d : D}, (enuD n ds)[i]? = some d → ∃ d', ds[i]? = some d' ∧ d = .tuple [.int ((n + i : Nat) : Int), d']
  | [], n, i, d, h => by simp [enuD] at h
  | x :: ds, n, 0, d, h => by
    simp [enuD] at h
    exact ⟨x, rfl, by rw [← h]; rfl⟩
  | x :: ds, n, i + 1, d, h => by
    simp only [enuD, List.getElem?_cons_succ] at h
    obtain ⟨d', h1, h2⟩ := enuD_get h
    exact ⟨d', by simpa using h1, by rw [h2, show n + 1 + i = n + (i + 1) by omega]⟩
theorem enuD_len : ∀ {ds : List D} {n : Nat}, (enuD n ds).length = ds.length
  | [], n => rfl
  | x :: ds, n => by simp [enuD, enuD_len]
theorem itf_yf {seqs : List (Addr × PySem.Obj)} {n : Nat} {row : Nat → List V → Prop} {items : List D} (hs : ∀ p ∈ seqs, Fx K F p.1 p.2) (hn : items.length = n) (hr : ∀ i vs, row i vs → ∃ ds, items[i]? = some (.tuple ds) ∧ RepL K F ds vs) : YF K true F (ItF K seqs n row) items := fun F' H' s1 s2 i => by
  have fx : ∀ p ∈ seqs, Fx K H' p.1 p.2 := fun p hp => ((hs p hp).sub s1).sub s2
  refine ⟨fun hi => ⟨fx, hn ▸ hi⟩, fun d hd => ⟨⟨fx, hn ▸ (List.getElem?_eq_some_iff.mp hd).1⟩, fun y H'' ⟨T, vs, e1, e2, e3, e4⟩ => ?_⟩⟩
  obtain ⟨ds, z1, z2⟩ := hr i vs e4
  rw [hd] at z1
  cases z1
  exact ⟨T, ds, vs, e2, e3, e1, rfl, RepL.sub s1 _ _ z2⟩
theorem rep_at {ds : List D} {vs : List V} {i : Nat} {x : V} (r : RepL K F ds vs) (h : vs[i]? = some x) : ∃ d, ds[i]? = some d ∧ Rep K F d x := by
  have hi : i < ds.length := by rw [← r.length]; exact (List.getElem?_eq_some_iff.mp h).1
  obtain ⟨y, h1, h2⟩ := r.get (List.getElem?_eq_getElem hi)
  rw [h] at h1
  cases h1
  exact ⟨_, List.getElem?_eq_getElem hi, h2⟩
theorem enuD_at : ∀ {ds : List D} {n i : Nat} {d : D}, ds[i]? = some d → (enuD n ds)[i]? = some (.tuple [.int ((n + i : Nat) : Int), d])
  | [], n, i, d, h => by simp at h
  | x :: ds, n, 0, d, h => by
    simp at h
    simp [enuD, h]
  | x :: ds, n, i + 1, d, h => by
    simp only [List.getElem?_cons_succ] at h
    simp only [enuD, List.getElem?_cons_succ]
    rw [enuD_at h, show n + 1 + i = n + (i + 1) by omega]
theorem row_z2 {ds es : List D} {vs ws : List V} (r1 : RepL K F ds vs) (r2 : RepL K F es ws) : ∀ i rs, rowZ2 vs ws i rs → ∃ xs, ((ds.zip es).map fun p => PyData.tuple [p.1, p.2])[i]? = some (.tuple xs) ∧ RepL K F xs rs := fun i rs ⟨x, y, h1, h2, h3⟩ => by
  subst h3
  obtain ⟨d1, q1, t1⟩ := rep_at r1 h1
  obtain ⟨d2, q2, t2⟩ := rep_at r2 h2
  refine ⟨[d1, d2], ?_, RepL.cons t1 (RepL.cons t2 RepL.nil)⟩
  have e' : (ds.zip es)[i]? = some (d1, d2) := List.getElem?_zip_eq_some.mpr ⟨q1, q2⟩
  rw [List.getElem?_map, e']
  rfl
theorem row_z3 {ds es fs : List D} {vs ws us : List V} (r1 : RepL K F ds vs) (r2 : RepL K F es ws) (r3 : RepL K F fs us) : ∀ i rs, rowZ3 vs ws us i rs → ∃ xs, ((ds.zip (es.zip fs)).map fun p => PyData.tuple [p.1, p.2.1, p.2.2])[i]? = some (.tuple xs) ∧ RepL K F xs rs := fun i rs ⟨x, y, z, h1, h2, h3, h4⟩ => by
  subst h4
  obtain ⟨d1, q1, t1⟩ := rep_at r1 h1
  obtain ⟨d2, q2, t2⟩ := rep_at r2 h2
  obtain ⟨d3, q3, t3⟩ := rep_at r3 h3
  refine ⟨[d1, d2, d3], ?_, RepL.cons t1 (RepL.cons t2 (RepL.cons t3 RepL.nil))⟩
  have e : (es.zip fs)[i]? = some (d2, d3) := List.getElem?_zip_eq_some.mpr ⟨q2, q3⟩
  have e' : (ds.zip (es.zip fs))[i]? = some (d1, (d2, d3)) := List.getElem?_zip_eq_some.mpr ⟨q1, e⟩
  rw [List.getElem?_map, e']
  rfl
theorem row_en {ds : List D} {vs : List V} (r1 : RepL K F ds vs) : ∀ i rs, rowEn vs i rs → ∃ xs, (enuD 0 ds)[i]? = some (.tuple xs) ∧ RepL K F xs rs := fun i rs ⟨x, h1, h2⟩ => by
  subst h2
  obtain ⟨d1, q1, t1⟩ := rep_at r1 h1
  refine ⟨_, enuD_at q1, RepL.cons ?_ (RepL.cons t1 RepL.nil)⟩
  simp only [Rep, Nat.zero_add]
def iEv (K : KW) (call : Call) (k : IK) (xs : List X) : TI := fun σ H R => ∃ F ρ ds ρ' items, evs call xs ρ = some (ds, ρ') ∧ itemsOf k ds = some items ∧ Wf K F H ρ σ ∧ ∀ F' H' J, Live K ⟨F, H, ρ, σ⟩ F' H' ρ' σ → YF K (newK k) F' J items → R J H'
end
section
variable {call : Call} {X : Cx} {e e2 tg : Expr} {x : PV.X} {xs : List PV.X} {pos p : Pos}
theorem i_seq (h : PE X e (tEv X.kw call x)) : PI X tg e (iEv X.kw call .seq [x]) := by
  refine ⟨fun pins s σ H R I q => ?_⟩
  obtain ⟨F, ρ, ds, ρ', items, h1, h2, wf, k⟩ := q
  simp only [evs, Option.bind_eq_bind, Option.bind_eq_some_iff, Option.pure_def, Option.some.injEq, Prod.exists, Prod.mk.injEq] at h1
  obtain ⟨d, w, ρ1, h3, _, _, ⟨rfl, rfl⟩, rfl, rfl⟩ := h1
  cases d with
  | list ds =>
    simp only [itemsOf, Option.some.injEq] at h2
    subst h2
    refine (pi_list (tg := tg) (pe_fr h)).run pins s σ H R I ⟨F, ρ, _, w, _, h3, wf, fun F' H' v l r => ?_⟩
    simp only [Rep] at r
    obtain ⟨a, vs, o, rfl, r1, r2⟩ := r
    exact ⟨a, rfl, ⟨vs, .inl (.inr ⟨o, l.wf.sub _ _ r1⟩)⟩, k F' H' _ l (itl_yf r1 r2)⟩
  | tuple ds =>
    simp only [itemsOf, Option.some.injEq] at h2
    subst h2
    refine (pi_tup (tg := tg) (pe_fr h)).run pins s σ H R I ⟨F, ρ, _, w, _, h3, wf, fun F' H' v l r => ?_⟩
    simp only [Rep] at r
    obtain ⟨a, vs, rfl, r1, r2⟩ := r
    exact ⟨a, rfl, ⟨vs, (r1.sub l.wf.sub).sq⟩, k F' H' _ l (itt_yf r1 r2)⟩
  | str y =>
    simp only [itemsOf, Option.some.injEq] at h2
    subst h2
    refine (pi_str (tg := tg) (pe_fr h)).run pins s σ H R I ⟨F, ρ, _, w, _, h3, wf, fun F' H' v l r => ?_⟩
    simp only [Rep] at r
    exact ⟨y, r, k F' H' _ l (its_yf y)⟩
  | none => simp [itemsOf] at h2
  | bool b => simp [itemsOf] at h2
  | int i => simp [itemsOf] at h2
  | dict kvs => simp [itemsOf] at h2
theorem smallI_of {i : Int} (h : smallI i = true) : -(2 ^ 62) ≤ i ∧ i < 2 ^ 62 := by
  simpa [smallI] using h
theorem i_rng1 (hg : Gl X "range") (hm : X.mg "range" = none) (ha : PA X [e] (tEvs X.kw call xs)) (hs : starEach [e] X.env = [(false, eval e X.env)]) : PI X tg (.Call (.Name "range" p) [e] [] pos) (iEv X.kw call .rng1 xs) := by
  refine ⟨fun pins s σ H R I q => (pi_range1 (tg := tg) hg hm ha hs).run pins s σ H R I ?_⟩
  obtain ⟨F, ρ, ds, ρ', items, h1, h2, wf, k⟩ := q
  refine ⟨F, ρ, ds, ρ', h1, wf, fun F' H' vs l r => ?_⟩
  unfold itemsOf at h2
  split at h2 <;> try (first | (exfalso; assumption) | (rename_i hk; cases hk; done))
  all_goals try (cases h2; done)
  rename_i n _
  split at h2
  · rename_i hs
    obtain ⟨z1, z2⟩ := smallI_of hs
    cases h2
    simp only [RepL] at r
    obtain ⟨v, r, rfl, r1, rfl⟩ := r
    simp only [Rep] at r1
    subst r1
    have := itr_yf (K := X.kw) (F := F') 0 n
    rw [Int.sub_zero] at this
    exact ⟨n, rfl, z1, z2, k F' H' _ l this⟩
  · cases h2
theorem i_rng2 (hg : Gl X "range") (hm : X.mg "range" = none) (ha : PA X [e, e2] (tEvs X.kw call xs)) (hs : starEach [e, e2] X.env = [(false, eval e X.env), (false, eval e2 X.env)]) (hs2 : starEach [e2] X.env = [(false, eval e2 X.env)]) :
    PI X tg (.Call (.Name "range" p) [e, e2] [] pos) (iEv X.kw call .rng2 xs) := by
  refine ⟨fun pins s σ H R I q => (pi_range2 (tg := tg) hg hm ha hs hs2).run pins s σ H R I ?_⟩
  obtain ⟨F, ρ, ds, ρ', items, h1, h2, wf, k⟩ := q
  refine ⟨F, ρ, ds, ρ', h1, wf, fun F' H' vs l r => ?_⟩
  unfold itemsOf at h2
  split at h2 <;> try (first | (exfalso; assumption) | (rename_i hk; cases hk; done))
  all_goals try (cases h2; done)
  rename_i a b _
  split at h2
  · rename_i hs
    rw [Bool.and_eq_true] at hs
    obtain ⟨z1, z2⟩ := smallI_of hs.1
    obtain ⟨z3, z4⟩ := smallI_of hs.2
    cases h2
    simp only [RepL] at r
    obtain ⟨v, r, rfl, r1, v2, r', rfl, r2, rfl⟩ := r
    simp only [Rep] at r1 r2
    subst r1 r2
    exact ⟨a, b, rfl, ⟨z1, z2, z3, z4⟩, k F' H' _ l (itr_yf a b)⟩
  · cases h2
theorem i_enu {elts : List Expr} {kk : Nat} {tpos : Pos} (hg : Gl X "enumerate") (hm : X.mg "enumerate" = none) (ha : PA X [e] (tEvs X.kw call xs)) (hs : starEach [e] X.env = [(false, eval e X.env)]) :
    PI X (.Tuple elts kk tpos) (.Call (.Name "enumerate" p) [e] [] pos) (iEv X.kw call .enu xs) := by
  refine ⟨fun pins s σ H R I q => (pi_en hg hm ha hs).run pins s σ H R I ?_⟩
  obtain ⟨F, ρ, ds, ρ', items, h1, h2, wf, k⟩ := q
  refine ⟨F, ρ, ds, ρ', h1, wf, fun F' H' vs l r => ?_⟩
  unfold itemsOf at h2
  split at h2 <;> try (first | (exfalso; assumption) | (rename_i hk; cases hk; done))
  all_goals try (cases h2; done)
  rename_i d _
  simp only [Option.bind_eq_bind, Option.bind_eq_some_iff, Option.pure_def, Option.some.injEq] at h2
  obtain ⟨xs, h3, rfl⟩ := h2
  simp only [RepL] at r
  obtain ⟨v, r, rfl, r1, rfl⟩ := r
  exact ⟨F', d, v, xs, rfl, l.wf.sub, r1, h3, fun a oa va fx ra => k F' H' _ l (itf_yf (fun p hp => by rw [List.mem_singleton.mp hp]; exact fx) (by rw [enuD_len, ra.length]) (row_en ra))⟩
theorem i_zip {elts : List Expr} {kk : Nat} {tpos : Pos} (hg : Gl X "zip") (hm : X.mg "zip" = none) (ha : PA X [e, e2] (tEvs X.kw call xs))
    (hs : starEach [e, e2] X.env = (false, eval e X.env) :: starEach [e2] X.env) (hpl : (backTo pos (starEach [e2] X.env)).any (·.1) = false) :
    PI X (.Tuple elts kk tpos) (.Call (.Name "zip" p) [e, e2] [] pos) (iEv X.kw call .zip xs) := by
  refine ⟨fun pins s σ H R I q => (pi_z2 hg hm ha hs hpl).run pins s σ H R I ?_⟩
  obtain ⟨F, ρ, ds, ρ', items, h1, h2, wf, k⟩ := q
  refine ⟨F, ρ, ds, ρ', h1, wf, fun F' H' vs l r => ?_⟩
  unfold itemsOf at h2
  split at h2 <;> try (first | (exfalso; assumption) | (rename_i hk; cases hk; done))
  all_goals try (cases h2; done)
  rename_i d d2 _
  simp only [Option.bind_eq_bind, Option.bind_eq_some_iff, Option.pure_def, Option.some.injEq] at h2
  obtain ⟨xs, h3, ys, h4, rfl⟩ := h2
  simp only [RepL] at r
  obtain ⟨v, r, rfl, r1, v2, r', rfl, r2, rfl⟩ := r
  exact ⟨F', d, d2, v, v2, xs, ys, rfl, l.wf.sub, r1, r2, h3, h4, fun a b oa ob va vb fa fb ra rb => k F' H' _ l (itf_yf (fun p hp => of_pair (Q := Fx X.kw F') hp fa fb) (by rw [List.length_map, List.length_zip, ra.length, rb.length]) (row_z2 ra rb))⟩
theorem i_zip3 {e3 : Expr} {elts : List Expr} {kk : Nat} {tpos : Pos} (hg : Gl X "zip") (hm : X.mg "zip" = none) (ha : PA X [e, e2, e3] (tEvs X.kw call xs))
    (hs : starEach [e, e2, e3] X.env = (false, eval e X.env) :: starEach [e2, e3] X.env) (hpl : (backTo pos (starEach [e2, e3] X.env)).any (·.1) = false) :
    PI X (.Tuple elts kk tpos) (.Call (.Name "zip" p) [e, e2, e3] [] pos) (iEv X.kw call .zip3 xs) := by
  refine ⟨fun pins s σ H R I q => (pi_z3 hg hm ha hs hpl).run pins s σ H R I ?_⟩
  obtain ⟨F, ρ, ds, ρ', items, h1, h2, wf, k⟩ := q
  refine ⟨F, ρ, ds, ρ', h1, wf, fun F' H' vs l r => ?_⟩
  unfold itemsOf at h2
  split at h2 <;> try (first | (exfalso; assumption) | (rename_i hk; cases hk; done))
  all_goals try (cases h2; done)
  rename_i d d2 d3 _
  simp only [Option.bind_eq_bind, Option.bind_eq_some_iff, Option.pure_def, Option.some.injEq] at h2
  obtain ⟨xs, h3, ys, h4, zs, h5, rfl⟩ := h2
  simp only [RepL] at r
  obtain ⟨v, r, rfl, r1, v2, r', rfl, r2, v3, r'', rfl, r3, rfl⟩ := r
  exact ⟨F', d, d2, d3, v, v2, v3, xs, ys, zs, rfl, l.wf.sub, r1, r2, r3, h3, h4, h5, fun a b c oa ob oc va vb vc fa fb fc ra rb rc => k F' H' _ l (itf_yf (fun p hp => by
    simp only [List.mem_cons, List.not_mem_nil, or_false] at hp
    rcases hp with rfl | rfl | rfl
    · exact fa
    · exact fb
    · exact fc) (by rw [List.length_map, List.length_zip, List.length_zip, ra.length, rb.length, rc.length]; omega) (row_z3 ra rb rc))⟩

/-! ### targets -/
def gNames : List Nat → TGs
  | [] => gNil
  | i :: is => gCons (gName i) (gNames is)
def gT (K : KW) : Tg → TG
  | .nm i => gName i
  | .tup is => gTup K is.length (gNames is)
def tgOf : Tg → List Nat
  | .nm i => [i]
  | .tup is => is
def tgNew (b : Bool) : Tg → Bool
  | .nm _ => !b
  | .tup _ => true
end
section
variable {K : KW} {F H F' H' F1 H1 : Hp} {ρ ρ' ρ1 : Pl} {σ σ' : Sg} {e : En} {d : D} {w : Bool} {v : V}
/-- an object that is nobody's is laid or written -/
theorem Live.other {a : Addr} {o : HO} (l : Live K e F H ρ σ) (hF : F a = none) (hE : e.H a = none) (nO : ¬ OwA ρ σ a) (nB : ¬ BoA ρ σ a) : Live K e F (upd H a o) ρ σ := by
  have ne : ∀ (i : Nat) (s : Slot) (d : D) (b : Addr), ρ[i]? = some s → own? s = some d → σ[i]? = some (some (.ref b)) → b ≠ a := fun i s d b h1 h2 h3 z => by
    subst z
    cases s <;> simp [own?] at h2
    · exact nO ⟨i, _, h1, h3⟩
    · exact nB ⟨i, _, h1, h3⟩
  refine ⟨⟨fun b u h => ?_, l.wf.len, l.wf.fr, fun i s d h1 h2 => ?_, l.wf.sep⟩, l.ff, fun b u h q1 q2 => ?_, fun b h => ?_, l.new, l.ow, l.bo, l.bf⟩
  · rw [upd_ne (ne_of_none h hF)]
    exact l.wf.sub b u h
  · obtain ⟨b, z1, z2, z3⟩ := l.wf.own i s d h1 h2
    exact ⟨b, z1, z2, z3.sub (Sub.refl _) (upd_ne (ne i s d b h1 h2 z1))⟩
  · rw [upd_ne (ne_of_none h hE)]
    exact l.hh b u h q1 q2
  · by_cases hb : b = a
    · subst hb; exact hE
    · rw [upd_ne hb] at h
      exact l.dom b h
theorem Live.fresh {a : Addr} {o : HO} (l : Live K e F H ρ σ) (hn : H a = none) : Live K e F (upd H a o) ρ σ := by
  refine l.other ?_ (l.dom a hn) (fun z => ?_) fun z => ?_
  · cases q : F a with
    | none => rfl
    | some u => rw [l.wf.sub a u q] at hn; cases hn
  · obtain ⟨_, o, ho⟩ := l.wf.owA z
    rw [hn] at ho; cases ho
  · obtain ⟨_, o, ho⟩ := l.wf.boA z
    rw [hn] at ho; cases ho
/-- what of the places a target does not touch -/
theorem wipe_set {i : Nat} {x : Option V} : ∀ {own : List Nat} {σ : Sg}, i ∈ own → L2.wipe (σ.set i x) own = L2.wipe σ own
  | [], σ, h => by simp at h
  | j :: own, σ, h => by
    unfold L2.wipe
    by_cases hj : i ∈ own
    · rw [wipe_set hj]
    · obtain rfl : i = j := by
        rcases List.mem_cons.mp h with z | z
        · exact z
        · exact absurd z hj
      have : ∀ (own : List Nat), i ∉ own → L2.wipe (σ.set i x) own = (L2.wipe σ own).set i x := fun own => by
        induction own with
        | nil => intro _; rfl
        | cons k own ih =>
          intro hk
          simp only [List.mem_cons, not_or] at hk
          unfold L2.wipe
          rw [ih hk.2, List.set_comm _ _ hk.1]
      rw [this own hj, List.set_set]
theorem names_ok : ∀ {is : List Nat} {ds : List D} {vs : List V} {ρ ρ' : Pl} {σ : Sg} {Q : Sg → Hp → Prop}, Live K e F H ρ σ → RepL K F ds vs → setAll ρ is ds = some ρ' → (∀ σ', Live K e F H ρ' σ' → (∀ own : List Nat, (∀ i ∈ is, i ∈ own) → L2.wipe σ' own = L2.wipe σ own) → (∀ i, i ∉ is → σ'[i]? = σ[i]?) → Q σ' H) →
    gNames is vs σ H Q ∧ vs.length = is.length
  | [], [], vs, ρ, ρ', σ, Q, l, r, h, k => by
    simp only [setAll, Option.some.injEq] at h
    subst h
    simp only [RepL] at r
    subst r
    exact ⟨⟨rfl, k σ l (fun _ _ => rfl) fun _ _ => rfl⟩, rfl⟩
  | [], d :: ds, vs, ρ, ρ', σ, Q, l, r, h, k => by simp [setAll] at h
  | i :: is, [], vs, ρ, ρ', σ, Q, l, r, h, k => by simp [setAll] at h
  | i :: is, d :: ds, vs, ρ, ρ', σ, Q, l, r, h, k => by
    simp only [setAll, Option.bind_eq_bind, Option.bind_eq_some_iff] at h
    obtain ⟨ρ1, h1, h2⟩ := h
    simp only [RepL] at r
    obtain ⟨v, vr, rfl, r1, r2⟩ := r
    have l1 : Live K e F H ρ1 (σ.set i (some v)) := l.setS (w := false) h1 (res_val r1)
    have step := names_ok (Q := Q) l1 r2 h2 fun σ' l' hw ho => k σ' l' (fun own hi => ?_) fun j hj => ?_
    · exact ⟨⟨v, vr, rfl, step.1⟩, by simp [step.2]⟩
    · rw [hw own fun j hj => hi j (List.mem_cons_of_mem _ hj)]
      exact wipe_set (hi i List.mem_cons_self)
    · simp only [List.mem_cons, not_or] at hj
      rw [ho j hj.2, List.getElem?_set_ne (Ne.symm hj.1)]
theorem asgT_ok {tg : Tg} {new : Bool} {x : V} {H2 : Hp} {Q : Sg → Hp → Prop} (l : Live K e F H ρ σ) (h : asgT ρ tg d false = some ρ') (hn : tgNew new tg = true) (y : YV K new F H d x H2)
    (k : ∀ σ', Live K e F H2 ρ' σ' → (∀ own : List Nat, (∀ i ∈ tgOf tg, i ∈ own) → L2.wipe σ' own = L2.wipe σ own) → (∀ i, i ∉ tgOf tg → σ'[i]? = σ[i]?) → Q σ' H2) : gT K tg x σ H2 Q := by
  cases tg with
  | nm i =>
    cases new with
    | true => simp [tgNew] at hn
    | false =>
      obtain ⟨rfl, r⟩ := y
      have h : setS ρ i (.fr d) = some ρ' := h
      refine k _ (l.setS (w := false) h (res_val r)) (fun own ho => wipe_set (ho i (by simp [tgOf]))) fun j hj => ?_
      simp only [tgOf, List.mem_singleton] at hj
      exact List.getElem?_set_ne (Ne.symm hj)
  | tup is =>
    have hd : ∃ ds, d = .tuple ds ∧ setAll ρ is ds = some ρ' := by
      cases d <;> first | exact ⟨_, rfl, h⟩ | (simp [asgT] at h; done)
    obtain ⟨ds, rfl, h⟩ := hd
    · cases new with
      | true =>
        obtain ⟨T, ds', vs, h1, rfl, rfl, h3, r⟩ := y
        cases h3
        obtain ⟨z1, z2⟩ := names_ok (Q := Q) (l.fresh (o := .tup vs) h1) r h k
        exact ⟨T, vs, rfl, .inl (.inl upd_same), z2, z1⟩
      | false =>
        obtain ⟨rfl, r⟩ := y
        simp only [Rep] at r
        obtain ⟨a, vs, rfl, r1, r2⟩ := r
        obtain ⟨z1, z2⟩ := names_ok (Q := Q) l r2 h k
        exact ⟨a, vs, rfl, (r1.sub l.wf.sub).sq, z2, z1⟩
theorem wipe_wipe {own : List Nat} : ∀ {vs : List Nat} {σ : Sg}, (∀ i ∈ vs, i ∈ own) → L2.wipe (L2.wipe σ vs) own = L2.wipe σ own
  | [], σ, _ => rfl
  | v :: vs, σ, h => by
    show L2.wipe ((L2.wipe σ vs).set v none) own = _
    rw [wipe_set (h v List.mem_cons_self)]
    exact wipe_wipe fun i hi => h i (List.mem_cons_of_mem _ hi)
/-- a list that is being made -/
def Acc (K : KW) (e : En) (D : Addr) (σ : Sg) (F H : Hp) (ρ : Pl) (done : List PyData) : Prop :=
  Live K e F H ρ σ ∧ Obj K F H D (.list done) ∧ F D = none ∧ ¬ OwA ρ σ D ∧ ¬ BoA ρ σ D
theorem Acc.step {A : Addr} {done : List D} (a : Acc K e A σ F H ρ done) (l : Live K ⟨F, H, ρ, σ⟩ F' H' ρ' σ') : Acc K e A σ' F' H' ρ' done := by
  obtain ⟨a1, a2, a3, a4, a5⟩ := a
  obtain ⟨z1, z2, z3, z4⟩ := l.keep a2 a3 a4 a5
  exact ⟨a1.trans l, z1, z2, z3, z4⟩
theorem Acc.wipe {A : Addr} {done : List D} (a : Acc K e A σ F H ρ done) (vs : List Nat) : Acc K e A (L2.wipe σ vs) F H (wipeP ρ vs) done := a.step (a.1.wf.live.wipe vs)
theorem Acc.put {A : Addr} {done : List D} {y : V} (hE : e.H A = none) (a : Acc K e A σ F H ρ done) (r : Rep K F d y) : ∃ acc, H A = some (.lst acc) ∧ acc.length = done.length ∧ Acc K e A σ F (upd H A (.lst (acc ++ [y]))) ρ (done ++ [d]) := by
  obtain ⟨a1, a2, a3, a4, a5⟩ := a
  obtain ⟨acc, z1, z2⟩ := a2
  exact ⟨acc, z1, z2.length, a1.other a3 hE a4 a5, ⟨_, upd_same, RepL.append z2 (RepL.cons r RepL.nil)⟩, a3, a4, a5⟩
theorem Acc.new {A : Addr} (wf : Wf K F H ρ σ) (h : H A = none) : Acc K ⟨F, H, ρ, σ⟩ A σ F (upd H A (.lst [])) ρ [] := by
  have hF : F A = none := by
    cases q : F A with
    | none => rfl
    | some u => rw [wf.sub A u q] at h; cases h
  refine ⟨wf.live.fresh h, ⟨[], upd_same, RepL.nil⟩, hF, fun z => ?_, fun z => ?_⟩
  · obtain ⟨_, o, ho⟩ := wf.owA z
    rw [h] at ho; cases ho
  · obtain ⟨_, o, ho⟩ := wf.boA z
    rw [h] at ho; cases ho
/-- a comprehension's list, made -/
theorem Acc.res {A : Addr} {done : List D} {own : List Nat} (wf : Wf K F1 H1 ρ1 σ) (h : H1 A = none) (a : Acc K ⟨F1, H1, wipeP ρ1 own, L2.wipe σ own⟩ A (L2.wipe σ own) F H ρ done) :
    Live K ⟨F1, H1, ρ1, σ⟩ F H (back ρ1 ρ own) σ ∧ Res K ⟨F1, H1, ρ1, σ⟩ F H (back ρ1 ρ own) σ (.list done) true (.ref A) := by
  obtain ⟨a1, a2, a3, a4, a5⟩ := a
  refine ⟨back_live wf a1, ?_⟩
  unfold Res
  rw [if_pos rfl]
  refine ⟨A, rfl, a2, a3, .inl h, fun ⟨i, d, z1, z2⟩ => ?_, fun ⟨i, d, z1, z2⟩ => ?_⟩
  · rcases back_at z1 with ⟨q1, q2⟩ | ⟨q1, q2⟩
    · have : ρ1[i]? = some (.ow d) := by
        cases e : ρ1[i]? with
        | none => rw [List.getD_eq_getElem?_getD, e] at q2; cases q2
        | some t => rw [List.getD_eq_getElem?_getD, e] at q2; rw [← show _ = t from q2]
      obtain ⟨_, o, ho⟩ := wf.owA ⟨i, d, this, z2⟩
      rw [h] at ho; cases ho
    · exact a4 ⟨i, d, q2, by rw [wipe_out q1]; exact z2⟩
  · rcases back_at z1 with ⟨q1, q2⟩ | ⟨q1, q2⟩
    · have : ρ1[i]? = some (.bo d) := by
        cases e : ρ1[i]? with
        | none => rw [List.getD_eq_getElem?_getD, e] at q2; cases q2
        | some t => rw [List.getD_eq_getElem?_getD, e] at q2; rw [← show _ = t from q2]
      obtain ⟨_, o, ho⟩ := wf.boA ⟨i, d, this, z2⟩
      rw [h] at ho; cases ho
    · exact a5 ⟨i, d, q2, by rw [wipe_out q1]; exact z2⟩
def tIfs (K : KW) (call : Call) (xs : List X) : TT := fun σ H Q => ∃ F ρ b ρ', evIfs call xs ρ = some (b, ρ') ∧ Wf K F H ρ σ ∧ ∀ F' H', Live K ⟨F, H, ρ, σ⟩ F' H' ρ' σ → Q b H'
theorem lim_size {n m : Nat} (h : m ≤ LIM) (h2 : n < m) : n < sizeLine := Nat.lt_of_lt_of_le h2 (Nat.le_trans h (by decide))
section
variable {call : Call} {xe : X} {tg tg1 : Tg} {k k1 : IK} {its ifs its1 ifs1 : List X} {own own1 : List Nat}
theorem lc_ev (h : ev call (.lc xe tg k its ifs own) ρ = some (d, w, ρ')) : ∃ ds ρ1 items ys ρ2, evs call its ρ = some (ds, ρ1) ∧ itemsOf k ds = some items ∧ lcL (fun d ρ => do
      let ρ ← asgT ρ tg d false
      let (b, ρ) ← evIfs call ifs ρ
      if b then do
        let (y, _, ρ) ← ev call xe ρ
        pure ([y], wipeP ρ own)
      else pure ([], wipeP ρ own)) items (wipeP ρ1 own) = some (ys, ρ2) ∧ ys.length ≤ LIM ∧ d = .list ys ∧ w = true ∧ ρ' = back ρ1 ρ2 own := by
  simp only [ev, Option.bind_eq_bind, Option.bind_eq_some_iff, Option.pure_def, Prod.exists] at h
  obtain ⟨ds, ρ1, h1, items, h2, ys, ρ2, h3, h4⟩ := h
  split at h4
  · rename_i h5
    simp only [Option.some.injEq, Prod.mk.injEq] at h4
    obtain ⟨rfl, rfl, rfl⟩ := h4
    exact ⟨ds, ρ1, items, ys, ρ2, h1, h2, h3, h5, rfl, rfl, rfl⟩
  · cases h4
theorem lcL_cons {step : D → Pl → Option (List D × Pl)} {items : List D} {i : Nat} {rest : List D} (h : lcL step (items.drop i) ρ = some (rest, ρ')) (hi : i < items.length) : ∃ x ρ1 xs, step items[i] ρ = some (x, ρ1) ∧ lcL step (items.drop (i + 1)) ρ1 = some (xs, ρ') ∧ rest = x ++ xs := by
  rw [List.drop_eq_getElem_cons hi] at h
  simp only [lcL, Option.bind_eq_bind, Option.bind_eq_some_iff, Option.pure_def, Option.some.injEq, Prod.exists, Prod.mk.injEq] at h
  obtain ⟨x, ρ1, h1, xs, ρ2, h2, rfl, rfl⟩ := h
  exact ⟨x, ρ1, xs, h1, h2, rfl⟩
theorem t_lc {Q : VK} (h : tEv K call (.lc xe tg k its ifs own) σ H Q) (htg : ∀ i ∈ tgOf tg, i ∈ own) (hn : tgNew (newK k) tg = true) : tLc (iEv K call k its) (gT K tg) (tIfs K call ifs) (tFr K call xe) own σ H Q := by
  obtain ⟨F, ρ, d, w, ρ', h0, wf, kk⟩ := h
  obtain ⟨ds, ρ1, items, ys, ρ2, h1, h2, h3, h4, rfl, rfl, rfl⟩ := lc_ev h0
  refine ⟨F, ρ, ds, ρ1, items, h1, h2, wf, fun F1 H1 J l1 yf A hA => ?_⟩
  have wf1 : Wf K F1 H1 (wipeP ρ1 own) (L2.wipe σ own) := (l1.wf.live.wipe own).wf
  generalize hst : (fun (d : D) (ρ : Pl) => do
      let ρ ← asgT ρ tg d false
      let (b, ρ) ← evIfs call ifs ρ
      if b then do
        let (y, _, ρ) ← ev call xe ρ
        pure ([y], wipeP ρ own)
      else pure ([], wipeP ρ own)) = step at h3
  refine ⟨fun i m H => m = items.length - i ∧ i ≤ items.length ∧ ∃ F2 ρi done rest, Acc K ⟨F1, H1, wipeP ρ1 own, L2.wipe σ own⟩ A (L2.wipe σ own) F2 H ρi done ∧ lcL step (items.drop i) ρi = some (rest, ρ2) ∧ done ++ rest = ys,
    ⟨_, rfl, Nat.zero_le _, F1, _, [], ys, Acc.new wf1 hA, h3, rfl⟩, ?_⟩
  rintro i m H2 ⟨rfl, hi, F2, ρi, done, rest, acc, hL, hy⟩
  obtain ⟨y1, y2⟩ := yf F2 H2 acc.1.ff acc.1.wf.sub i
  by_cases hlt : i < items.length
  · right
    obtain ⟨go, yl⟩ := y2 items[i] (List.getElem?_eq_getElem hlt)
    obtain ⟨x, ρ3, xs, hs, hL', rfl⟩ := lcL_cons hL hlt
    refine ⟨go, fun H' => ∃ F2 ρi done rest, Acc K ⟨F1, H1, wipeP ρ1 own, L2.wipe σ own⟩ A (L2.wipe σ own) F2 H' ρi done ∧ lcL step (items.drop (i + 1)) ρi = some (rest, ρ2) ∧ done ++ rest = ys, fun H' n => ⟨items.length - (i + 1), by omega, rfl, hlt, n⟩, fun x' H' hyl => ?_⟩
    rw [← hst] at hs
    simp only [Option.bind_eq_bind, Option.bind_eq_some_iff, Prod.exists] at hs
    obtain ⟨ρa, ha, b, ρb, hb, hs⟩ := hs
    refine asgT_ok acc.1.wf.live ha hn (yl x' H' hyl) fun σ2 l2 hw _ => ?_
    have hw' : L2.wipe σ2 own = L2.wipe σ own := by rw [hw own htg, wipe_wipe fun i h => h]
    refine ⟨hw', F2, ρa, b, ρb, hb, l2.wf, fun F3 H3 l3 => ?_⟩
    have acc3 := (acc.step l2).step l3
    cases b with
    | false =>
      simp only [Bool.false_eq_true, if_false, Option.pure_def, Option.some.injEq, Prod.mk.injEq] at hs ⊢
      obtain ⟨rfl, rfl⟩ := hs
      exact ⟨F3, _, done, xs, hw' ▸ acc3.wipe own, hL', hy⟩
    | true =>
      simp only [if_true, Option.bind_eq_some_iff, Option.pure_def, Option.some.injEq, Prod.exists, Prod.mk.injEq] at hs ⊢
      obtain ⟨y, w', ρc, hc, rfl, rfl⟩ := hs
      refine ⟨F3, ρb, y, w', ρc, hc, l3.wf, fun F4 H4 v4 l4 r4 => ?_⟩
      obtain ⟨vs, z1, z2, z3⟩ := Acc.put hA ((acc3.step l4).wipe own) r4
      refine ⟨vs, z1, lim_size h4 ?_, F4, _, done ++ [y], xs, hw' ▸ z3, hL', by rw [← hy, List.append_assoc]⟩
      rw [z2, ← hy]
      simp
  · left
    have hi' : i = items.length := by omega
    subst hi'
    rw [List.drop_length] at hL
    simp only [lcL, Option.some.injEq, Prod.mk.injEq] at hL
    obtain ⟨rfl, rfl⟩ := hL
    rw [List.append_nil] at hy
    subst hy
    obtain ⟨z1, z2⟩ := acc.res l1.wf hA
    exact ⟨y1 (Nat.le_refl _), kk F2 H2 _ (l1.trans z1) (Res.trans l1 z2)⟩
theorem lc2_ev (h : ev call (.lc2 xe tg k its ifs tg1 k1 its1 ifs1 own own1) ρ = some (d, w, ρ')) : ∃ ds ρ1 items ys ρ2, evs call its ρ = some (ds, ρ1) ∧ itemsOf k ds = some items ∧ lcL (fun d ρ => do
      let ρ ← asgT ρ tg d false
      let (b, ρ) ← evIfs call ifs ρ
      if b then do
        let (ds1, ρ) ← evs call its1 ρ
        let items1 ← itemsOf k1 ds1
        let (ys, ρ) ← lcL (fun d ρ => do
          let ρ ← asgT ρ tg1 d false
          let (b, ρ) ← evIfs call ifs1 ρ
          if b then do
            let (y, _, ρ) ← ev call xe ρ
            pure ([y], wipeP ρ own1)
          else pure ([], wipeP ρ own1)) items1 (wipeP ρ own1)
        pure (ys, wipeP ρ own)
      else pure ([], wipeP ρ own)) items (wipeP ρ1 own) = some (ys, ρ2) ∧ ys.length ≤ LIM ∧ d = .list ys ∧ w = true ∧ ρ' = back ρ1 ρ2 own := by
  simp only [ev, Option.bind_eq_bind, Option.bind_eq_some_iff, Option.pure_def, Prod.exists] at h
  obtain ⟨ds, ρ1, h1, items, h2, ys, ρ2, h3, h4⟩ := h
  split at h4
  · rename_i h5
    simp only [Option.some.injEq, Prod.mk.injEq] at h4
    obtain ⟨rfl, rfl, rfl⟩ := h4
    exact ⟨ds, ρ1, items, ys, ρ2, h1, h2, h3, h5, rfl, rfl, rfl⟩
  · cases h4
theorem t_lc2 {Q : VK} (h : tEv K call (.lc2 xe tg k its ifs tg1 k1 its1 ifs1 own own1) σ H Q) (htg : ∀ i ∈ tgOf tg, i ∈ own) (hn : tgNew (newK k) tg = true) (htg1 : ∀ i ∈ tgOf tg1, i ∈ own1) (hn1 : tgNew (newK k1) tg1 = true) (hv : ∀ i ∈ own1, i ∈ own) :
    tLc2 (iEv K call k its) (gT K tg) (tIfs K call ifs) (iEv K call k1 its1) (gT K tg1) (tIfs K call ifs1) (tFr K call xe) own own1 σ H Q := by
  obtain ⟨F, ρ, d, w, ρ', h0, wf, kk⟩ := h
  obtain ⟨ds, ρ1, items, ys, ρ2, h1, h2, h3, h4, rfl, rfl, rfl⟩ := lc2_ev h0
  refine ⟨F, ρ, ds, ρ1, items, h1, h2, wf, fun F1 H1 J l1 yf A hA => ?_⟩
  have wf1 : Wf K F1 H1 (wipeP ρ1 own) (L2.wipe σ own) := (l1.wf.live.wipe own).wf
  generalize hst1 : (fun (d : D) (ρ : Pl) => do
      let ρ ← asgT ρ tg1 d false
      let (b, ρ) ← evIfs call ifs1 ρ
      if b then do
        let (y, _, ρ) ← ev call xe ρ
        pure ([y], wipeP ρ own1)
      else pure ([], wipeP ρ own1)) = step1 at h3
  generalize hst : (fun (d : D) (ρ : Pl) => do
      let ρ ← asgT ρ tg d false
      let (b, ρ) ← evIfs call ifs ρ
      if b then do
        let (ds1, ρ) ← evs call its1 ρ
        let items1 ← itemsOf k1 ds1
        let (ys, ρ) ← lcL step1 items1 (wipeP ρ own1)
        pure (ys, wipeP ρ own)
      else pure ([], wipeP ρ own)) = step at h3
  refine ⟨fun i m H => m = items.length - i ∧ i ≤ items.length ∧ ∃ F2 ρi done rest, Acc K ⟨F1, H1, wipeP ρ1 own, L2.wipe σ own⟩ A (L2.wipe σ own) F2 H ρi done ∧ lcL step (items.drop i) ρi = some (rest, ρ2) ∧ done ++ rest = ys,
    ⟨_, rfl, Nat.zero_le _, F1, _, [], ys, Acc.new wf1 hA, h3, rfl⟩, ?_⟩
  rintro i m H2 ⟨rfl, hi, F2, ρi, done, rest, acc, hL, hy⟩
  obtain ⟨y1, y2⟩ := yf F2 H2 acc.1.ff acc.1.wf.sub i
  by_cases hlt : i < items.length
  · right
    obtain ⟨go, yl⟩ := y2 items[i] (List.getElem?_eq_getElem hlt)
    obtain ⟨x, ρ3, xs, hs, hL', rfl⟩ := lcL_cons hL hlt
    refine ⟨go, fun H' => ∃ F2 ρi done rest, Acc K ⟨F1, H1, wipeP ρ1 own, L2.wipe σ own⟩ A (L2.wipe σ own) F2 H' ρi done ∧ lcL step (items.drop (i + 1)) ρi = some (rest, ρ2) ∧ done ++ rest = ys, fun H' n => ⟨items.length - (i + 1), by omega, rfl, hlt, n⟩, fun x' H' hyl => ?_⟩
    rw [← hst] at hs
    simp only [Option.bind_eq_bind, Option.bind_eq_some_iff, Prod.exists] at hs
    obtain ⟨ρa, ha, b, ρb, hb, hs⟩ := hs
    refine asgT_ok acc.1.wf.live ha hn (yl x' H' hyl) fun σ2 l2 hw _ => ?_
    have hw' : L2.wipe σ2 own = L2.wipe σ own := by rw [hw own htg, wipe_wipe fun i h => h]
    refine ⟨hw', F2, ρa, b, ρb, hb, l2.wf, fun F3 H3 l3 => ?_⟩
    have acc3 := (acc.step l2).step l3
    cases b with
    | false =>
      simp only [Bool.false_eq_true, if_false, Option.pure_def, Option.some.injEq, Prod.mk.injEq] at hs ⊢
      obtain ⟨rfl, rfl⟩ := hs
      exact ⟨F3, _, done, xs, hw' ▸ acc3.wipe own, hL', hy⟩
    | true =>
      simp only [if_true, Option.bind_eq_some_iff, Option.pure_def, Option.some.injEq, Prod.exists, Prod.mk.injEq] at hs ⊢
      obtain ⟨ds1, ρc, hc, items1, hc2, ys1, ρd, hd, rfl, rfl⟩ := hs
      refine ⟨F3, ρb, ds1, ρc, items1, hc, hc2, l3.wf, fun F4 H4 J1 l4 yf1 => ?_⟩
      have acc4 := (acc3.step l4).wipe own1
      refine ⟨fun j m H => m = items1.length - j ∧ j ≤ items1.length ∧ ∃ F5 ρj done1 rest1, Acc K ⟨F1, H1, wipeP ρ1 own, L2.wipe σ own⟩ A (L2.wipe σ2 own1) F5 H ρj done1 ∧ Sub F4 F5 ∧ lcL step1 (items1.drop j) ρj = some (rest1, ρd) ∧ done1 ++ rest1 = done ++ ys1,
        ⟨_, rfl, Nat.zero_le _, F4, _, done, ys1, acc4, Sub.refl _, hd, rfl⟩, ?_⟩
      rintro j m H5 ⟨rfl, hj, F5, ρj, done1, rest1, acc5, s45, hL1, hy1⟩
      obtain ⟨y3, y4⟩ := yf1 F5 H5 s45 acc5.1.wf.sub j
      by_cases hlt1 : j < items1.length
      · right
        obtain ⟨go1, yl1⟩ := y4 items1[j] (List.getElem?_eq_getElem hlt1)
        obtain ⟨x1, ρe, xs1, hs1, hL1', rfl⟩ := lcL_cons hL1 hlt1
        refine ⟨go1, fun H' => ∃ F5 ρj done1 rest1, Acc K ⟨F1, H1, wipeP ρ1 own, L2.wipe σ own⟩ A (L2.wipe σ2 own1) F5 H' ρj done1 ∧ Sub F4 F5 ∧ lcL step1 (items1.drop (j + 1)) ρj = some (rest1, ρd) ∧ done1 ++ rest1 = done ++ ys1, fun H' n => ⟨items1.length - (j + 1), by omega, rfl, hlt1, n⟩, fun x2 H6 hyl1 => ?_⟩
        rw [← hst1] at hs1
        simp only [Option.bind_eq_bind, Option.bind_eq_some_iff, Prod.exists] at hs1
        obtain ⟨ρf, hf, b1, ρg, hg, hs1⟩ := hs1
        refine asgT_ok acc5.1.wf.live hf hn1 (yl1 x2 H6 hyl1) fun σ3 l6 hw1 _ => ?_
        have hw1' : L2.wipe σ3 own1 = L2.wipe σ2 own1 := by rw [hw1 own1 htg1, wipe_wipe fun i h => h]
        refine ⟨hw1', F5, ρf, b1, ρg, hg, l6.wf, fun F7 H7 l7 => ?_⟩
        have acc7 := (acc5.step l6).step l7
        have s47 : Sub F4 F7 := s45.trans l7.ff
        cases b1 with
        | false =>
          simp only [Bool.false_eq_true, if_false, Option.pure_def, Option.some.injEq, Prod.mk.injEq] at hs1 ⊢
          obtain ⟨rfl, rfl⟩ := hs1
          exact ⟨F7, _, done1, xs1, hw1' ▸ acc7.wipe own1, s47, hL1', hy1⟩
        | true =>
          simp only [if_true, Option.bind_eq_some_iff, Option.pure_def, Option.some.injEq, Prod.exists, Prod.mk.injEq] at hs1 ⊢
          obtain ⟨y, w', ρh, hh, rfl, rfl⟩ := hs1
          refine ⟨F7, ρg, y, w', ρh, hh, l7.wf, fun F8 H8 v8 l8 r8 => ?_⟩
          obtain ⟨vs, z1, z2, z3⟩ := Acc.put hA ((acc7.step l8).wipe own1) r8
          refine ⟨vs, z1, lim_size h4 ?_, F8, _, done1 ++ [y], xs1, hw1' ▸ z3, s47.trans l8.ff, hL1', by rw [← hy1, List.append_assoc]⟩
          rw [z2, ← hy, ← List.append_assoc, ← hy1]
          simp
      · left
        have hj' : j = items1.length := by omega
        subst hj'
        rw [List.drop_length] at hL1
        simp only [lcL, Option.some.injEq, Prod.mk.injEq] at hL1
        obtain ⟨rfl, rfl⟩ := hL1
        rw [List.append_nil] at hy1
        subst hy1
        refine ⟨y3 (Nat.le_refl _), F5, _, done ++ ys1, xs, ?_, hL', by rw [List.append_assoc]; exact hy⟩
        have := acc5.wipe own
        rwa [wipe_wipe hv, hw'] at this
  · left
    have hi' : i = items.length := by omega
    subst hi'
    rw [List.drop_length] at hL
    simp only [lcL, Option.some.injEq, Prod.mk.injEq] at hL
    obtain ⟨rfl, rfl⟩ := hL
    rw [List.append_nil] at hy
    subst hy
    obtain ⟨z1, z2⟩ := acc.res l1.wf hA
    exact ⟨y1 (Nat.le_refl _), kk F2 H2 _ (l1.trans z1) (Res.trans l1 z2)⟩
end
end
end PV

set_option Elab.async false
set_option linter.all false
set_option maxRecDepth 100000
set_option maxHeartbeats 1000000
/-! PV: statements. -/
namespace PV
open PySem L2 PyProof.Rows
section
variable {K : KW} {F H F' H' F1 H1 : Hp} {ρ ρ' ρ1 : Pl} {σ σ' σ1 : Sg} {e : En} {d : D} {w : Bool} {v : V}
/-- what the end of a statement is to reach -/
def EndOk (K : KW) (e : En) (D : Ends) (fl : Fl) (ρ' : Pl) : Prop := ∀ F' H' σ', Live K e F' H' ρ' σ' → match fl with
  | .nx => D.nx σ' H'
  | .bk => D.bk σ' H'
  | .ct => D.ct σ' H'
  | .rt d w => ∀ v, Res K e F' H' ρ' σ' d w v → D.rt v H'
theorem EndOk.trans {D : Ends} {fl : Fl} (k : EndOk K e D fl ρ') (l : Live K e F1 H1 ρ1 σ1) : EndOk K ⟨F1, H1, ρ1, σ1⟩ D fl ρ' := fun F' H' σ' l2 => by
  have := k F' H' σ' (l.trans l2)
  cases fl with
  | nx => exact this
  | bk => exact this
  | ct => exact this
  | rt d w => exact fun v r => this v (Res.trans l r)
def tS (K : KW) (call : Call) (s : S) : TS := fun D σ H => ∃ F ρ fl ρ', evS call s ρ = some (fl, ρ') ∧ Wf K F H ρ σ ∧ EndOk K ⟨F, H, ρ, σ⟩ D fl ρ'
def tSs (K : KW) (call : Call) (ss : List S) : TS := fun D σ H => ∃ F ρ fl ρ', evSs call ss ρ = some (fl, ρ') ∧ Wf K F H ρ σ ∧ EndOk K ⟨F, H, ρ, σ⟩ D fl ρ'
end
section
variable {call : Call} {X : Cx} {a b c e tg : Expr} {xe xa xb xc : PV.X} {xs : List PV.X} {pos pos' p : Pos} {st : Stmt} {rest body orelse : List Stmt} {s : S} {ss sb : List S} {i : Nat}
theorem ss_nil : PSs X [] (tSs X.kw call []) := by
  refine ⟨fun pins s σ H D I q => pss_nil.run pins s σ H D I ?_⟩
  obtain ⟨F, ρ, fl, ρ', h0, wf, k⟩ := q
  simp only [evSs, Option.some.injEq, Prod.mk.injEq] at h0
  obtain ⟨rfl, rfl⟩ := h0
  exact k F H σ wf.live
theorem ss_cons (h1 : PS X st (tS X.kw call s)) (h2 : PSs X rest (tSs X.kw call ss)) : PSs X (st :: rest) (tSs X.kw call (s :: ss)) := by
  refine ⟨fun pins s0 σ H D I q => (pss_cons h1 h2).run pins s0 σ H D I ?_⟩
  obtain ⟨F, ρ, fl, ρ', h0, wf, k⟩ := q
  simp only [evSs] at h0
  cases h : evS call s ρ with
  | none => rw [h] at h0; cases h0
  | some r =>
    obtain ⟨f1, ρ1⟩ := r
    rw [h] at h0
    cases f1 with
    | nx => exact ⟨F, ρ, _, ρ1, h, wf, fun F1 H1 σ1 l1 => ⟨F1, ρ1, fl, ρ', h0, l1.wf, k.trans l1⟩⟩
    | bk => cases h0; exact ⟨F, ρ, _, _, h, wf, k⟩
    | ct => cases h0; exact ⟨F, ρ, _, _, h, wf, k⟩
    | rt d w => cases h0; exact ⟨F, ρ, _, _, h, wf, k⟩
theorem st_pass : PS X (.Pass pos) (tS X.kw call .pass) := by
  refine ⟨fun pins s σ H D I q => ps_pass.run pins s σ H D I ?_⟩
  obtain ⟨F, ρ, fl, ρ', h0, wf, k⟩ := q
  simp only [evS, Option.some.injEq, Prod.mk.injEq] at h0
  obtain ⟨rfl, rfl⟩ := h0
  exact k F H σ wf.live
theorem st_doc {x j} : PS X (.Expr (.Constant (.str x) j pos) pos') (tS X.kw call .pass) := by
  refine ⟨fun pins s σ H D I q => ps_doc.run pins s σ H D I ?_⟩
  obtain ⟨F, ρ, fl, ρ', h0, wf, k⟩ := q
  simp only [evS, Option.some.injEq, Prod.mk.injEq] at h0
  obtain ⟨rfl, rfl⟩ := h0
  exact k F H σ wf.live
theorem st_brk : PS X (.Break pos) (tS X.kw call .brk) := by
  refine ⟨fun pins s σ H D I q => ps_break.run pins s σ H D I ?_⟩
  obtain ⟨F, ρ, fl, ρ', h0, wf, k⟩ := q
  simp only [evS, Option.some.injEq, Prod.mk.injEq] at h0
  obtain ⟨rfl, rfl⟩ := h0
  exact k F H σ wf.live
theorem st_cont : PS X (.Continue pos) (tS X.kw call .cont) := by
  refine ⟨fun pins s σ H D I q => ps_continue.run pins s σ H D I ?_⟩
  obtain ⟨F, ρ, fl, ρ', h0, wf, k⟩ := q
  simp only [evS, Option.some.injEq, Prod.mk.injEq] at h0
  obtain ⟨rfl, rfl⟩ := h0
  exact k F H σ wf.live
theorem st_never : PS X st (tS X.kw call .never) := by
  refine ⟨fun pins s σ H D I q => ps_never.run pins s σ H D I ?_⟩
  obtain ⟨F, ρ, fl, ρ', h0, wf, k⟩ := q
  simp only [evS] at h0
  cases h0
theorem st_ret0 : PS X (.Return none pos) (tS X.kw call .ret0) := by
  refine ⟨fun pins s σ H D I q => ps_retN.run pins s σ H D I ?_⟩
  obtain ⟨F, ρ, fl, ρ', h0, wf, k⟩ := q
  simp only [evS, Option.some.injEq, Prod.mk.injEq] at h0
  obtain ⟨rfl, rfl⟩ := h0
  exact k F H σ wf.live .non (res_val (by simp only [Rep]))
/-- a name's own object is given away -/
theorem own_out {K : KW} {F H : Hp} {ρ : Pl} {σ : Sg} {d : D} (wf : Wf K F H ρ σ) (h : ρ[i]? = some (.ow d)) : ∃ v, σ[i]? = some (some v) ∧ Live K ⟨F, H, ρ, σ⟩ F H (ρ.set i .no) σ ∧ Res K ⟨F, H, ρ, σ⟩ F H (ρ.set i .no) σ d true v := by
  obtain ⟨a, h1, h2, h3⟩ := wf.own i _ d h rfl
  have l : Live K ⟨F, H, ρ, σ⟩ F H (ρ.set i .no) σ := wf.live.forget (by rw [List.length_set]; exact wf.len) fun j s hj => by
    rcases set_at hj with ⟨rfl, rfl⟩ | ⟨_, hj⟩
    · exact .inl rfl
    · exact .inr ⟨hj, rfl⟩
  refine ⟨_, h1, l, ?_⟩
  unfold Res
  rw [if_pos rfl]
  refine ⟨a, rfl, h3, h2, .inr ⟨i, d, h, h1⟩, fun ⟨j, d', z1, z2⟩ => ?_, fun ⟨j, d', z1, z2⟩ => ?_⟩
  · rcases set_at z1 with ⟨rfl, z⟩ | ⟨hj, z1⟩
    · cases z
    · exact hj (wf.sep j i _ _ _ _ a z1 h rfl rfl z2 h1)
  · rcases set_at z1 with ⟨rfl, z⟩ | ⟨hj, z1⟩
    · cases z
    · exact hj (wf.sep j i _ _ _ _ a z1 h rfl rfl z2 h1)
theorem st_ret (he : PE X e (tEv X.kw call xe)) (hv : ∀ i, xe = .var i → PE X e (tVar i)) : PS X (.Return (some e) pos) (tS X.kw call (.ret xe)) := by
  refine ⟨fun pins s σ H D I q => ?_⟩
  obtain ⟨F, ρ, fl, ρ', h0, wf, k⟩ := q
  have gen : ∀ d w, ev call xe ρ = some (d, w, ρ') → fl = .rt d w → wpAny (model X.prog X.w) X.A (exec (.Return (some e) pos) X.env) (SP X pins D) X.xe s := fun d w h1 h2 => by
    subst h2
    exact (ps_ret he).run pins s σ H D I ⟨F, ρ, d, w, ρ', h1, wf, fun F' H' v l r => k F' H' σ l v r⟩
  simp only [evS] at h0
  split at h0
  · rename_i i
    split at h0
    · rename_i d h
      cases h0
      obtain ⟨v, h1, l, r⟩ := own_out wf h
      exact (ps_ret (hv i rfl)).run pins s σ H D I ⟨v, h1, k F H σ l v r⟩
    · rename_i d h
      cases h0
      exact gen d false (by simp only [ev, h]) rfl
    · rename_i d h
      cases h0
      exact gen d false (by simp only [ev, h]) rfl
    · rename_i d h
      cases h0
      exact gen d false (by simp only [ev, h]) rfl
    · cases h0
  · simp only [Option.bind_eq_bind, Option.bind_eq_some_iff, Option.pure_def, Option.some.injEq, Prod.exists, Prod.mk.injEq] at h0
    obtain ⟨d, w, ρ1, h1, rfl, rfl⟩ := h0
    exact gen d w h1 rfl
theorem st_exp (he : PE X e (tEv X.kw call xe)) (hs : swapsWith e none pos.line X.env = pure false) : PS X (.Expr e pos) (tS X.kw call (.exp xe)) := by
  refine ⟨fun pins s σ H D I q => (ps_expr he hs).run pins s σ H D I ?_⟩
  obtain ⟨F, ρ, fl, ρ', h0, wf, k⟩ := q
  simp only [evS, Option.bind_eq_bind, Option.bind_eq_some_iff, Option.pure_def, Option.some.injEq, Prod.exists, Prod.mk.injEq] at h0
  obtain ⟨d, w, ρ1, h1, rfl, rfl⟩ := h0
  exact ⟨F, ρ, d, w, _, h1, wf, fun F' H' v l r => k F' H' σ l⟩
theorem st_ife (hc : PT X c (tT X.kw call xc)) (ha : PSs X body (tSs X.kw call ss)) (hb : PSs X orelse (tSs X.kw call sb)) : PS X (.If c body orelse pos) (tS X.kw call (.ife xc ss sb)) := by
  refine ⟨fun pins s σ H D I q => (ps_if hc ha hb).run pins s σ H D I ?_⟩
  obtain ⟨F, ρ, fl, ρ', h0, wf, k⟩ := q
  simp only [evS, Option.bind_eq_bind, Option.bind_eq_some_iff, Prod.exists] at h0
  obtain ⟨d, w, ρ1, h1, bb, h2, h3⟩ := h0
  obtain rfl := asB_of h2
  refine ⟨F, ρ, bb, w, ρ1, h1, wf, fun F1 H1 l1 => ?_⟩
  cases bb with
  | true =>
    simp only [if_true] at h3 ⊢
    exact ⟨F1, ρ1, fl, ρ', h3, l1.wf, k.trans l1⟩
  | false =>
    simp only [Bool.false_eq_true, if_false] at h3 ⊢
    exact ⟨F1, ρ1, fl, ρ', h3, l1.wf, k.trans l1⟩
/-! stores -/
theorem t_asg {D : Ends} {σ : Sg} {H : Hp} (h : tS X.kw call (.asg (.nm i) xe) D σ H) : tEv X.kw call xe σ H fun x H1 => gName i x σ H1 D.nx := by
  obtain ⟨F, ρ, fl, ρ', h0, wf, k⟩ := h
  simp only [evS, Option.bind_eq_bind, Option.bind_eq_some_iff, Option.pure_def, Option.some.injEq, Prod.exists, Prod.mk.injEq] at h0
  obtain ⟨d, w, ρ1, h1, ρ2, h2, rfl, rfl⟩ := h0
  refine ⟨F, ρ, d, w, ρ1, h1, wf, fun F1 H1 v l r => ?_⟩
  exact k F1 H1 _ (l.setS h2 r)
theorem st_asg {y : Str} (hN : X.N.Nodup) (hi : X.N[i]? = some y) (hx : Loc X.env.scope y) (he : PE X e (tEv X.kw call xe)) (hs : swapsWith e (some (.Name y pos')) pos.line X.env = pure false) (hf : X.fn y = true ∨ X.env.scope.names.lookup y = some .local) :
    PS X (.Assign [.Name y pos'] e pos) (tS X.kw call (.asg (.nm i) xe)) :=
  ⟨fun pins s σ H D I q => (ps_set hN hi hx he hs hf).run pins s σ H D I (t_asg q)⟩
theorem st_asgT {tgt : Tg} (he : PE X e (tEv X.kw call xe)) (hg : PG X tg (gT X.kw tgt)) (hn : ∃ is, tgt = .tup is) (hs : swapsWithSole [tg] e pos.line X.env = pure false) (hw : swappedStores [tg] e X.env = pure none) (h1 : (assignEach [tg] X.env).map (·.2) = [assign tg X.env]) :
    PS X (.Assign [tg] e pos) (tS X.kw call (.asg tgt xe)) := by
  refine ⟨fun pins s σ H D I q => (ps_asg (pe_fr he) hg hs hw h1).run pins s σ H D I ?_⟩
  obtain ⟨is, rfl⟩ := hn
  obtain ⟨F, ρ, fl, ρ', h0, wf, k⟩ := q
  simp only [evS, Option.bind_eq_bind, Option.bind_eq_some_iff, Option.pure_def, Option.some.injEq, Prod.exists, Prod.mk.injEq] at h0
  obtain ⟨d, w, ρ1, h1, ρ2, h2, rfl, rfl⟩ := h0
  refine ⟨F, ρ, d, w, ρ1, h1, wf, fun F1 H1 v l r => ?_⟩
  exact asgT_ok (new := false) l (show asgT ρ1 (.tup is) d false = some ρ2 from h2) rfl ⟨rfl, r⟩ fun σ' l' _ _ => k F1 H1 σ' l'

/-! two or three names at once -/
def ResL (K : KW) (e : En) (F H : Hp) (ρ : Pl) (σ : Sg) : List (D × Bool) → List V → List Addr → Prop
  | [], vs, as => vs = [] ∧ as = []
  | (d, w) :: ds, vs, as => ∃ v r bs, vs = v :: r ∧ ResL K e F H ρ σ ds r bs ∧ Res K e F H ρ σ d w v ∧ (if w = true then ∃ a, v = .ref a ∧ a ∉ bs ∧ as = a :: bs else as = bs)
end
section
variable {K : KW} {F H F' H' F1 H1 : Hp} {ρ ρ' ρ1 : Pl} {σ σ' σ1 : Sg} {e : En} {d : D} {w : Bool} {v : V}
theorem ResL.from : ∀ {ds : List (D × Bool)} {vs : List V} {as : List Addr}, ResL K e F H ρ σ ds vs as → ∀ a ∈ as, e.H a = none ∨ e.O a
  | [], vs, as, h, a, ha => by rw [h.2] at ha; simp at ha
  | (d, w) :: ds, vs, as, h, a, ha => by
    obtain ⟨v, r, bs, rfl, h1, h2, h3⟩ := h
    split at h3
    · rename_i hw
      obtain ⟨b, rfl, h4, rfl⟩ := h3
      rcases List.mem_cons.mp ha with rfl | ha
      · unfold Res at h2
        rw [if_pos hw] at h2
        obtain ⟨c, z1, _, _, z2, _⟩ := h2
        cases z1
        exact z2
      · exact ResL.from h1 a ha
    · subst h3
      exact ResL.from h1 a ha
theorem ResL.trans (l : Live K e F H ρ σ) : ∀ {ds : List (D × Bool)} {vs : List V} {as : List Addr}, ResL K ⟨F, H, ρ, σ⟩ F' H' ρ' σ' ds vs as → ResL K e F' H' ρ' σ' ds vs as
  | [], vs, as, h => h
  | (d, w) :: ds, vs, as, h => by
    obtain ⟨v, r, bs, rfl, h1, h2, h3⟩ := h
    exact ⟨v, r, bs, rfl, ResL.trans l h1, Res.trans l h2, h3⟩
theorem Res.keep (l : Live K ⟨F, H, ρ, σ⟩ F' H' ρ' σ') (r : Res K e F H ρ σ d w v) : Res K e F' H' ρ' σ' d w v := by
  unfold Res at r ⊢
  split
  · rename_i hw
    rw [if_pos hw] at r
    obtain ⟨a, rfl, h2, h3, h4, h5, h6⟩ := r
    obtain ⟨z1, z2, z3, z4⟩ := l.keep h2 h3 h5 h6
    exact ⟨a, rfl, z1, z2, h4, z3, z4⟩
  · rename_i hw
    rw [if_neg hw] at r
    exact Rep.sub l.ff d v r
/-- another name's place changes -/
theorem Res.other {i : Nat} {s : Slot} {u : Option V} (h : ∀ a, v = .ref a → w = true → (own? s = none ∨ u ≠ some (.ref a))) (r : Res K e F H ρ σ d w v) : Res K e F H (ρ.set i s) (σ.set i u) d w v := by
  unfold Res at r ⊢
  split
  · rename_i hw
    rw [if_pos hw] at r
    obtain ⟨a, rfl, h2, h3, h4, h5, h6⟩ := r
    refine ⟨a, rfl, h2, h3, h4, fun ⟨j, d', z1, z2⟩ => ?_, fun ⟨j, d', z1, z2⟩ => ?_⟩
    · rcases set_at z1 with ⟨rfl, rfl⟩ | ⟨hj, z1⟩
      · rcases set_at z2 with ⟨_, z⟩ | ⟨hj, _⟩
        · rcases h a rfl hw with q | q
          · cases q
          · exact q z.symm
        · exact hj rfl
      · rw [List.getElem?_set_ne (Ne.symm hj)] at z2
        exact h5 ⟨j, d', z1, z2⟩
    · rcases set_at z1 with ⟨rfl, rfl⟩ | ⟨hj, z1⟩
      · rcases set_at z2 with ⟨_, z⟩ | ⟨hj, _⟩
        · rcases h a rfl hw with q | q
          · cases q
          · exact q z.symm
        · exact hj rfl
      · rw [List.getElem?_set_ne (Ne.symm hj)] at z2
        exact h6 ⟨j, d', z1, z2⟩
  · rename_i hw
    rw [if_neg hw] at r
    exact r
theorem ResL.other {i : Nat} {s : Slot} {u : Option V} : ∀ {ds : List (D × Bool)} {vs : List V} {as : List Addr}, (∀ a ∈ as, own? s = none ∨ u ≠ some (.ref a)) → ResL K e F H ρ σ ds vs as → ResL K e F H (ρ.set i s) (σ.set i u) ds vs as
  | [], vs, as, h, r => r
  | (d, w) :: ds, vs, as, h, r => by
    obtain ⟨v, r, bs, rfl, h1, h2, h3⟩ := r
    refine ⟨v, r, bs, rfl, ResL.other (fun a ha => h a ?_) h1, Res.other (fun a ha hw => h a ?_) h2, h3⟩
    · split at h3
      · obtain ⟨b, _, _, rfl⟩ := h3
        exact List.mem_cons_of_mem _ ha
      · rw [h3]; exact ha
    · rw [if_pos hw] at h3
      obtain ⟨b, h4, _, rfl⟩ := h3
      rw [ha] at h4
      cases h4
      exact List.mem_cons_self
def sets (σ : Sg) : List Nat → List V → Sg
  | i :: is, v :: vs => sets (σ.set i (some v)) is vs
  | _, _ => σ
theorem Live.setPar : ∀ {is : List Nat} {ds : List (D × Bool)} {vs : List V} {as : List Addr} {ρ ρ' : Pl} {σ : Sg}, Live K e F H ρ σ → ResL K e F H ρ σ ds vs as → setPar ρ is ds = some ρ' → Live K e F H ρ' (sets σ is vs) ∧ vs.length = is.length
  | [], [], vs, as, ρ, ρ', σ, l, r, h => by
    simp only [PV.setPar, Option.some.injEq] at h
    subst h
    obtain ⟨rfl, rfl⟩ := r
    exact ⟨l, rfl⟩
  | [], _ :: _, vs, as, ρ, ρ', σ, l, r, h => by simp [PV.setPar] at h
  | _ :: _, [], vs, as, ρ, ρ', σ, l, r, h => by simp [PV.setPar] at h
  | i :: is, (d, w) :: ds, vs, as, ρ, ρ', σ, l, r, h => by
    simp only [PV.setPar, Option.bind_eq_bind, Option.bind_eq_some_iff] at h
    obtain ⟨ρ1, h1, h2⟩ := h
    obtain ⟨v, r, bs, rfl, r1, r2, r3⟩ := r
    have l1 := l.setS h1 r2
    obtain ⟨e1, _⟩ := setS_eq h1
    have r1' : ResL K e F H ρ1 (σ.set i (some v)) ds r bs := by
      rw [e1]
      refine ResL.other (fun a ha => ?_) r1
      cases w with
      | false => exact .inl rfl
      | true =>
        right
        rw [if_pos rfl] at r3
        obtain ⟨b, rfl, h4, _⟩ := r3
        intro z
        cases z
        exact h4 ha
    obtain ⟨z1, z2⟩ := Live.setPar l1 r1' h2
    exact ⟨z1, by simp [z2]⟩
def tRs (K : KW) (call : Call) (xs : List X) : TA := fun σ H Q => ∃ F ρ ds ρ', evRs call xs ρ = some (ds, ρ') ∧ Wf K F H ρ σ ∧ ∀ F' H' vs as, Live K ⟨F, H, ρ, σ⟩ F' H' ρ' σ → ResL K ⟨F, H, ρ, σ⟩ F' H' ρ' σ ds vs as → Q vs H'
end
section
variable {call : Call} {X : Cx} {a b c e tg : Expr} {xe xa xb xc : PV.X} {xs : List PV.X} {es : List Expr} {pos pos' p : Pos} {st : Stmt} {rest body orelse : List Stmt} {s : S} {ss sb : List S} {i : Nat}
theorem s_rs0 : PA X [] (tRs X.kw call []) := by
  refine ⟨fun pos pins s σ H Q I q => pa_nil.run pos pins s σ H Q I ?_⟩
  obtain ⟨F, ρ, ds, ρ', h0, wf, k⟩ := q
  simp only [evRs] at h0
  cases h0
  exact k F H [] [] wf.live ⟨rfl, rfl⟩
theorem s_rsC (ha : PE X a (tEv X.kw call xa)) (hr : PA X es (tRs X.kw call xs)) (hs : starEach (a :: es) X.env = (false, eval a X.env) :: starEach es X.env) : PA X (a :: es) (tRs X.kw call (xa :: xs)) := by
  refine ⟨fun pos pins s σ H Q I q => (pa_cons ha hr hs).run pos pins s σ H Q I ?_⟩
  obtain ⟨F, ρ, ds, ρ', h0, wf, k⟩ := q
  simp only [evRs, Option.bind_eq_bind, Option.bind_eq_some_iff, Option.pure_def, Option.some.injEq, Prod.exists, Prod.mk.injEq] at h0
  obtain ⟨d1, w1, ρ1, h1, ds2, ρ2, h2, rfl, rfl⟩ := h0
  refine ⟨F, ρ, d1, w1, ρ1, h1, wf, fun F1 H1 v1 l1 r1 => ⟨F1, ρ1, ds2, _, h2, l1.wf, fun F2 H2 vs as l2 r2 => ?_⟩⟩
  have r1' := Res.keep l2 r1
  cases w1 with
  | false => exact k F2 H2 (v1 :: vs) as (l1.trans l2) ⟨v1, vs, as, rfl, ResL.trans l1 r2, r1', by simp⟩
  | true =>
    unfold Res at r1
    rw [if_pos rfl] at r1
    obtain ⟨a, rfl, h3, h4, h5, h6, h7⟩ := r1
    refine k F2 H2 (.ref a :: vs) (a :: as) (l1.trans l2) ⟨.ref a, vs, as, rfl, ResL.trans l1 r2, r1', ?_⟩
    rw [if_pos rfl]
    refine ⟨a, rfl, fun hm => ?_, rfl⟩
    obtain ⟨o, ho⟩ := h3.there
    rcases ResL.from r2 a hm with z | z
    · rw [show H1 a = none from z] at ho; cases ho
    · exact h6 z
theorem t_par {D : Ends} {σ : Sg} {H : Hp} {is : List Nat} (h : tS X.kw call (.par is xs) D σ H) : tRs X.kw call xs σ H fun vs H1 => vs.length = is.length ∧ D.nx (sets σ is vs) H1 := by
  obtain ⟨F, ρ, fl, ρ', h0, wf, k⟩ := h
  simp only [evS, Option.bind_eq_bind, Option.bind_eq_some_iff, Option.pure_def, Option.some.injEq, Prod.exists, Prod.mk.injEq] at h0
  obtain ⟨ds, ρ1, h1, ρ2, h2, rfl, rfl⟩ := h0
  refine ⟨F, ρ, ds, ρ1, h1, wf, fun F1 H1 vs as l r => ?_⟩
  obtain ⟨z1, z2⟩ := l.setPar r h2
  exact ⟨z2, k F1 H1 _ z1⟩
theorem st_par2 {i j : Nat} {x y : Str} {px py pt : Pos} {kt k2 pt2} (hc : X.calm = true) (hN : X.N.Nodup) (hi : X.N[i]? = some x) (hj : X.N[j]? = some y) (hij : i ≠ j)
    (hx : X.env.scope.names.lookup x = some .local) (hy : X.env.scope.names.lookup y = some .local) (ha : PA X [a, b] (tRs X.kw call xs))
    (hw : swappedStores [.Tuple [.Name x px, .Name y py] kt pt] (.Tuple [a, b] k2 pt2) X.env = pure (some [x, y]))
    (hs : swapsWithSole [.Tuple [.Name x px, .Name y py] kt pt] (.Tuple [a, b] k2 pt2) pos.line X.env = pure false) :
    PS X (.Assign [.Tuple [.Name x px, .Name y py] kt pt] (.Tuple [a, b] k2 pt2) pos) (tS X.kw call (.par [i, j] xs)) := by
  refine ⟨fun pins s σ H D I q => (ps_par hc hN hi hj hij hx hy ha hw hs).run pins s σ H D I ?_⟩
  obtain ⟨F, ρ, ds, ρ', h0, wf, k⟩ := t_par q
  refine ⟨F, ρ, ds, ρ', h0, wf, fun F1 H1 vs as l r => ?_⟩
  obtain ⟨z1, z2⟩ := k F1 H1 vs as l r
  match vs, z1, z2 with
  | [v, w], _, z2 => exact ⟨v, w, rfl, z2⟩
theorem st_par3 {i j m : Nat} {x y z : Str} {px py pz pt : Pos} {kt k2 pt2} (hc : X.calm = true) (hN : X.N.Nodup) (hi : X.N[i]? = some x) (hj : X.N[j]? = some y) (hl : X.N[m]? = some z) (hij : i ≠ j) (hil : i ≠ m) (hjl : j ≠ m)
    (hx : X.env.scope.names.lookup x = some .local) (hy : X.env.scope.names.lookup y = some .local) (hz : X.env.scope.names.lookup z = some .local) (ha : PA X [a, b, c] (tRs X.kw call xs))
    (hw : swappedStores [.Tuple [.Name x px, .Name y py, .Name z pz] kt pt] (.Tuple [a, b, c] k2 pt2) X.env = pure (some [x, y, z]))
    (hs : swapsWithSole [.Tuple [.Name x px, .Name y py, .Name z pz] kt pt] (.Tuple [a, b, c] k2 pt2) pos.line X.env = pure false) :
    PS X (.Assign [.Tuple [.Name x px, .Name y py, .Name z pz] kt pt] (.Tuple [a, b, c] k2 pt2) pos) (tS X.kw call (.par [i, j, m] xs)) := by
  refine ⟨fun pins s σ H D I q => (ps_par3 hc hN hi hj hl hij hil hjl hx hy hz ha hw hs).run pins s σ H D I ?_⟩
  obtain ⟨F, ρ, ds, ρ', h0, wf, k⟩ := t_par q
  refine ⟨F, ρ, ds, ρ', h0, wf, fun F1 H1 vs as l r => ?_⟩
  obtain ⟨z1, z2⟩ := k F1 H1 vs as l r
  match vs, z1, z2 with
  | [u, v, w], _, z2 => exact ⟨u, v, w, rfl, z2⟩
theorem gNames_sets {Q : Sg → Hp → Prop} {H : Hp} : ∀ {is : List Nat} {vs : List V} {σ : Sg}, vs.length = is.length → Q (sets σ is vs) H → gNames is vs σ H Q
  | [], [], σ, _, q => ⟨rfl, q⟩
  | i :: is, v :: vs, σ, h, q => ⟨v, vs, rfl, gNames_sets (by simpa using h) q⟩
  | [], _ :: _, σ, h, q => by simp at h
  | _ :: _, [], σ, h, q => by simp at h
/-- more names: by way of a tuple -/
theorem st_parN {is : List Nat} {k2 pt2} (ha : PA X es (tRs X.kw call xs)) (hg : PG X tg (gT X.kw (.tup is))) (hl : is.length ≤ 1000) (hs : swapsWithSole [tg] (.Tuple es k2 pt2) pos.line X.env = pure false) (hw : swappedStores [tg] (.Tuple es k2 pt2) X.env = pure none) (h1 : (assignEach [tg] X.env).map (·.2) = [assign tg X.env]) :
    PS X (.Assign [tg] (.Tuple es k2 pt2) pos) (tS X.kw call (.par is xs)) := by
  refine ⟨fun pins s σ H D I q => (ps_asg (pe_tup ha) hg hs hw h1).run pins s σ H D I ?_⟩
  obtain ⟨F, ρ, ds, ρ', h0, wf, k⟩ := q
  simp only [evS, Option.bind_eq_bind, Option.bind_eq_some_iff, Option.pure_def, Option.some.injEq, Prod.exists, Prod.mk.injEq] at h0
  obtain ⟨ds, ρ1, h2, ρ2, h3, rfl, rfl⟩ := h0
  refine ⟨F, ρ, ds, ρ1, h2, wf, fun F1 H1 vs as l r => ?_⟩
  obtain ⟨z1, z2⟩ := l.setPar r h3
  refine ⟨?_, fun T hT => ?_⟩
  · rw [z2]; exact Nat.le_trans hl (by rw [sizeLine_eq]; decide)
  · exact ⟨T, vs, rfl, .inl (.inl upd_same), z2, gNames_sets z2 (k F1 _ _ (z1.fresh hT))⟩

/-! an object written -/
theorem key_refS {K : KW} {F : Hp} {k : D} {j : NestedKey} {v : V} (hj : nkeyT k = some j) (h : Rep K F k v) : ∃ b, v = .ref b ∧ Rep K F k (.ref b) := by
  obtain ⟨ds, rfl, _⟩ := nkeyT_of hj
  have h3 := h
  simp only [Rep] at h3
  obtain ⟨a, vs, rfl, _⟩ := h3
  exact ⟨a, rfl, h⟩
def rSetN (K : KW) : TSet := fun o i v H Q => ∃ a F kvs l q k b, o = .ref a ∧ i = .ref b ∧ Sub F H ∧ ((H a = some (DNo K.w a l) ∧ RepN K F kvs l) ∨ (H a = some (.dK []) ∧ kvs = [] ∧ l = [])) ∧ kvs.length < sizeLine ∧ nkeyT q = some k ∧ Rep K F q (.ref b) ∧ Q (upd H a (DNo K.w a (putN l k b v)))
theorem set_dn (hu : X.A.units + 65 < cLine) : PSet X (rSetN X.kw) := by
  intro pins s σ H o i v ov iv u Q I ro ri rv h
  obtain ⟨a, F, kvs, l, q, k, b, eo, ei, hs, ha, hl, hq, rq, z⟩ := h
  subst eo ei
  cases (show ov = Value.ref a from ro)
  cases (show iv = Value.ref b from ri)
  rcases ha with ⟨ha, r⟩ | ⟨ha, rfl, rfl⟩
  · obtain ⟨xs, hd⟩ := dh_ext I hs (.inl ha) r
    exact dn_setItem (d := q) hu I hs hd (by rw [ha]; trivial) hl hq rq rv fun s' I' => ⟨_, I', z⟩
  · exact dn_setItem (d := q) hu I hs (dh_nil I (.inl ha)) (by rw [ha]; trivial) hl hq rq rv fun s' I' => ⟨_, I', z⟩
def rSet (K : KW) : TSet := fun o i v H Q => (rSetL o i v H Q ∨ rSetD o i v H Q) ∨ rSetN K o i v H Q
theorem set_any (hu : X.A.units + 65 < cLine) : PSet X (rSet X.kw) := fun pins s σ H o i v ov iv u Q I r1 r2 r3 h => by
  rcases h with (h | h) | h
  · exact set_list pins s σ H o i v ov iv u Q I r1 r2 r3 h
  · exact set_dict (by omega) pins s σ H o i v ov iv u Q I r1 r2 r3 h
  · exact set_dn hu pins s σ H o i v ov iv u Q I r1 r2 r3 h
def tSub (K : KW) (to ti tv : TE) : TS := fun D σ H => tv σ H fun v H1 => to σ H1 fun x H2 => ti σ H2 fun y H3 => rSet K x y v H3 fun H4 => D.nx σ H4
theorem ps_sub {o k : Expr} {to ti tv : TE} (hu : X.A.units + 65 < cLine) (ho : PE X o to) (hi : PE X k ti) (hv : PE X e tv) (hs : swapsWith e (some (.Subscript o k pos')) pos.line X.env = pure false) : PS X (.Assign [.Subscript o k pos'] e pos) (tSub X.kw to ti tv) := by
  refine ⟨fun pins s σ H D I h => ?_⟩
  refine wpAny_Assign_Subscript (thn (hv.run pins s σ H _ I h) fun r s1 ⟨v, H1, I1, rv, q1⟩ => thn (ho.run pins s1 σ H1 _ I1 q1) fun u s2 ⟨x, H2, I2, rx, q2⟩ => thn (hi.run pins s2 σ H2 _ I2 q2) fun iv s3 ⟨y, H3, I3, ry, q3⟩ => ?_) hs
  exact thn (set_any hu pins s3 σ H3 x y v u iv r _ I3 rx ry rv q3) fun _ s4 ⟨H4, I4, q4⟩ => ⟨σ, H4, I4, q4⟩
theorem st_set {o k : Expr} {xk : PV.X} (hu : X.A.units + 65 < cLine) (pv : PE X o (tVar i)) (hk : PE X k (tEv X.kw call xk)) (he : PE X e (tEv X.kw call xe)) (hs : swapsWith e (some (.Subscript o k pos')) pos.line X.env = pure false) :
    PS X (.Assign [.Subscript o k pos'] e pos) (tS X.kw call (.set i xk xe)) := by
  refine ⟨fun pins s σ H D I q => (ps_sub hu pv (pe_fr hk) (pe_fr he) hs).run pins s σ H D I ?_⟩
  obtain ⟨F, ρ, fl, ρ', h0, wf, kk⟩ := q
  simp only [evS, Option.bind_eq_bind, Option.bind_eq_some_iff, Option.pure_def, Option.some.injEq, Prod.exists, Prod.mk.injEq] at h0
  obtain ⟨d, w, ρ1, h1, d0, h1', dk, wk, ρ2, h2, ρ3, h3, rfl, rfl⟩ := h0
  refine ⟨F, ρ, d, w, ρ1, h1, wf, fun F1 H1 v l1 r1 => ?_⟩
  obtain ⟨s0, e0, o0⟩ := fetch_sl h1'
  obtain ⟨a, e1, _⟩ := l1.wf.own i s0 d0 e0 o0
  refine ⟨_, e1, F1, ρ1, dk, wk, ρ2, h2, l1.wf, fun F2 H2 vk l2 r2 => ?_⟩
  have r1' := Rep.sub l2.ff _ _ r1
  unfold setAt at h3
  split at h3
  · rename_i xs e2
    simp only [Option.bind_eq_bind, Option.bind_eq_some_iff, Option.pure_def, Option.some.injEq] at h3
    obtain ⟨kk', h4, j, h5, rfl⟩ := h3
    obtain rfl : dk = .int kk' := by cases dk <;> simp [asI] at h4; rw [h4]
    obtain ⟨a', e3, e4, vs, e5, e6⟩ := l2.wf.own i _ _ e2 rfl
    rw [e1] at e3
    cases e3
    have l3 := l2.wf.write (o' := .lst (vs.set j v)) e2 (.inl ⟨rfl, rfl⟩) (d' := .list (xs.set j d)) e1 ⟨_, upd_same, RepL.set r1' j e6⟩
    simp only [Rep] at r2
    exact .inl <| .inl ⟨a, vs, kk', j, rfl, r2, e5, by rw [e6.length]; exact h5, kk F2 _ σ ((l1.trans l2).trans l3)⟩
  · rename_i xs e2
    simp only [Option.bind_eq_bind, Option.bind_eq_some_iff, Option.pure_def, Option.some.injEq] at h3
    obtain ⟨kk', h4, j, h5, rfl⟩ := h3
    obtain rfl : dk = .int kk' := by cases dk <;> simp [asI] at h4; rw [h4]
    obtain ⟨a', e3, e4, vs, e5, e6⟩ := l2.wf.own i _ _ e2 rfl
    rw [e1] at e3
    cases e3
    have l3 := l2.wf.write (o' := .lst (vs.set j v)) e2 (.inr ⟨rfl, rfl⟩) (d' := .list (xs.set j d)) e1 ⟨_, upd_same, RepL.set r1' j e6⟩
    simp only [Rep] at r2
    exact .inl <| .inl ⟨a, vs, kk', j, rfl, r2, e5, by rw [e6.length]; exact h5, kk F2 _ σ ((l1.trans l2).trans l3)⟩
  · rename_i kvs e2
    split at h3
    · rename_i hk'
      rw [Bool.and_eq_true, decide_eq_true_eq] at hk'
      simp only [Option.some.injEq] at h3
      subst h3
      have hlk : kvs.length < sizeLine := hk'.2
      obtain ⟨a', e3, e4, ob⟩ := l2.wf.own i _ _ e2 rfl
      rw [e1] at e3
      cases e3
      rcases dOk_of hk'.1 with ⟨hj, hp⟩ | ⟨⟨j, hj⟩, hp⟩
      · obtain ⟨j, rfl⟩ := keyOk_of hj
        rcases ob with ⟨kv, e5, e6⟩ | ⟨l, e5, e6, n⟩
        · have l3 := l2.wf.write (o' := .dK (putK kv j v)) e2 (.inl ⟨rfl, rfl⟩) (d' := .dict (dPut (keyD j) d kvs)) e1 (.inl ⟨_, upd_same, RepK.put r1' j e6⟩)
          have := rep_key r2
          subst this
          refine .inl <| .inr ⟨a, _, rfl, DPut.k e5 ?_, kk F2 _ σ ((l1.trans l2).trans l3)⟩
          rw [e6.length]
          exact hlk
        · exact absurd ((repN_plain e6).2 hp) n
      · obtain ⟨b, rfl, rq⟩ := key_refS hj r2
        rcases ob with ⟨kv, e5, e6⟩ | ⟨l, e5, e6, n⟩
        · obtain rfl := repK_plainT e6 hp
          simp only [RepK] at e6
          subst e6
          have l3 := l2.wf.write (o' := DNo X.w a (putN [] j b v)) e2 (.inl ⟨rfl, rfl⟩) (d' := .dict (dPut dk d [])) e1 (.inr ⟨_, upd_same, RepN.put hj rq r1' (by simp only [RepN]), dPut_ne⟩)
          exact .inr ⟨a, F2, [], [], dk, j, b, rfl, rfl, l2.wf.sub, .inr ⟨e5, rfl, rfl⟩, hlk, hj, rq, kk F2 _ σ ((l1.trans l2).trans l3)⟩
        · have l3 := l2.wf.write (o' := DNo X.w a (putN l j b v)) e2 (.inl ⟨rfl, rfl⟩) (d' := .dict (dPut dk d kvs)) e1 (.inr ⟨_, upd_same, RepN.put hj rq r1' e6, dPut_ne⟩)
          exact .inr ⟨a, F2, kvs, l, dk, j, b, rfl, rfl, l2.wf.sub, .inl ⟨e5, e6⟩, hlk, hj, rq, kk F2 _ σ ((l1.trans l2).trans l3)⟩
    · cases h3
  · cases h3
theorem st_app {o : Expr} {apos cpos : Pos} (pv : PE X o (tVar i)) (ms : Mseen X o "append" apos [e] cpos) (he : PE X e (tEv X.kw call xe)) (hs : starEach [e] X.env = (false, eval e X.env) :: starEach [] X.env)
    (hsw : swapsWith (.Call (.Attribute o "append" apos) [e] [] cpos) none pos.line X.env = pure false) : PS X (.Expr (.Call (.Attribute o "append" apos) [e] [] cpos) pos) (tS X.kw call (.app i xe)) := by
  have hplain : (backTo cpos (starEach [] X.env)).any (·.1) = false := by
    have z := ms.few
    simp only [Bool.and_eq_true] at z
    have z1 := few_nostar z.1.1
    rw [hs] at z1
    have z1 : (false || (backTo cpos (starEach [] X.env)).any (·.1)) = false := z1
    simpa using z1
  refine ⟨fun pins s σ H D I q => (ps_expr (pe_bm PySem.F.plainAttrs_list PySem.F.slot_list_append PySem.F.type_list_append (fun pins s σ H x xs v us Q => mt_append pins s σ H x xs v us Q) pv (s_evsC he s_evs0 hs) ms.base ms.few ms.line hs hplain) hsw).run pins s σ H D I ?_⟩
  obtain ⟨F, ρ, fl, ρ', h0, wf, kk⟩ := q
  simp only [evS, Option.bind_eq_bind, Option.bind_eq_some_iff, Option.pure_def, Option.some.injEq, Prod.exists, Prod.mk.injEq] at h0
  obtain ⟨ys, h1, d, w, ρ1, h2, ρ2, h3, rfl, rfl⟩ := h0
  obtain ⟨b, e1, e2, vs0, e3, e4⟩ := wf.own i _ _ (ownL_of h1) rfl
  have hv : evs call [xe] ρ = some ([d], ρ1) := by simp [evs, h2]
  refine ⟨_, e1, .inl ⟨rfl, vs0, SqL.of e3⟩, F, ρ, [d], ρ1, hv, wf, fun F1 H1 us l1 r1 => ?_⟩
  simp only [RepL] at r1
  obtain ⟨v, r, rfl, r1, rfl⟩ := r1
  unfold appAt at h3
  split at h3
  · rename_i xs e5
    split at h3
    · rename_i hl
      simp only [Option.some.injEq] at h3
      subst h3
      obtain ⟨b', y1, y2, vs, y3, y4⟩ := l1.wf.own i _ _ e5 rfl
      rw [e1] at y1
      cases y1
      have l3 := l1.wf.write (o' := .lst (vs ++ [v])) e5 (.inl ⟨rfl, rfl⟩) (d' := .list (xs ++ [d])) e1 ⟨_, upd_same, RepL.append y4 (RepL.cons r1 RepL.nil)⟩
      exact ⟨b, vs, v, rfl, rfl, y3, by rw [y4.length]; exact hl, kk F1 _ σ (l1.trans l3)⟩
    · cases h3
  · cases h3
/-! loops -/
theorem Res.kill {K : KW} {e : En} {F H : Hp} {ρ : Pl} {σ : Sg} {d : D} {w : Bool} {v : V} (vs : List Nat) (r : Res K e F H ρ σ d w v) : Res K e F H (killS ρ vs) σ d w v := by
  unfold Res at r ⊢
  split
  · rename_i hw
    rw [if_pos hw] at r
    obtain ⟨a, rfl, h2, h3, h4, h5, h6⟩ := r
    refine ⟨a, rfl, h2, h3, h4, fun ⟨j, d', z1, z2⟩ => ?_, fun ⟨j, d', z1, z2⟩ => ?_⟩
    · rcases killS_at z1 with z | z
      · cases z
      · exact h5 ⟨j, d', z, z2⟩
    · rcases killS_at z1 with z | z
      · cases z
      · exact h6 ⟨j, d', z, z2⟩
  · rename_i hw
    rw [if_neg hw] at r
    exact r
theorem st_for {iter : Expr} {tgt : Tg} {k : IK} {its : List PV.X} {kill : List Nat} (hp : PassesOwn (model X.prog X.w) X.A X.env X.xe) (hc : X.calm = true) (hi : PI X tg iter (iEv X.kw call k its)) (hg : PG X tg (gT X.kw tgt)) (hn : tgNew (newK k) tgt = true) (hb : PSs X body (tSs X.kw call sb))
    (hs : ∀ x, foldedSetIterable iter X.env x = pure x) : PS X (.For tg iter body [] pos) (tS X.kw call (.for tgt k its sb kill)) := by
  refine ⟨fun pins s σ H D I q => (ps_for hp hc hi hg hb hs).run pins s σ H D I ?_⟩
  obtain ⟨F, ρ, fl, ρ', h0, wf, kk⟩ := q
  simp only [evS, Option.bind_eq_bind, Option.bind_eq_some_iff, Prod.exists] at h0
  obtain ⟨ds, ρ1, h1, items, h2, h3⟩ := h0
  refine ⟨F, ρ, ds, ρ1, items, h1, h2, wf, fun F1 H1 J l1 yf => ?_⟩
  generalize hst : (fun (d : PyData) (ρ : Pl) => (asgT ρ tgt d false).bind fun ρ => (evSs call sb ρ).bind fun x => pure (x.1, killS x.2 kill)) = step at h3
  refine ⟨fun i m σ1 H => m = items.length - i ∧ i ≤ items.length ∧ ∃ F2 ρ2, Live X.kw ⟨F1, H1, ρ1, σ⟩ F2 H ρ2 σ1 ∧ forL step (items.drop i) ρ2 = some (fl, ρ'), ⟨_, rfl, Nat.zero_le _, F1, ρ1, l1.wf.live, h3⟩, ?_⟩
  rintro i m σ1 H2 ⟨rfl, hi', F2, ρ2, l2, hL⟩
  obtain ⟨y1, y2⟩ := yf F2 H2 l2.ff l2.wf.sub i
  by_cases hlt : i < items.length
  · right
    obtain ⟨go, yl⟩ := y2 items[i] (List.getElem?_eq_getElem hlt)
    refine ⟨go, fun σ' H' => ∃ F2 ρ2, Live X.kw ⟨F1, H1, ρ1, σ⟩ F2 H' ρ2 σ' ∧ forL step (items.drop (i + 1)) ρ2 = some (fl, ρ'), fun σ' H' n => ⟨items.length - (i + 1), by omega, rfl, hlt, n⟩, fun x H' hyl => ?_⟩
    rw [List.drop_eq_getElem_cons hlt] at hL
    simp only [forL] at hL
    cases hs' : step items[i] ρ2 with
    | none => rw [hs'] at hL; cases hL
    | some r =>
      obtain ⟨f, ρ3⟩ := r
      rw [hs'] at hL
      rw [← hst] at hs'
      simp only [Option.bind_eq_some_iff, Option.pure_def, Option.some.injEq, Prod.exists, Prod.mk.injEq] at hs'
      obtain ⟨ρa, ha, f', ρb, hb', rfl, rfl⟩ := hs'
      refine asgT_ok l2.wf.live ha hn (yl x H' hyl) fun σ2 l3 _ _ => ?_
      refine ⟨F2, ρa, f', ρb, hb', l3.wf, fun F4 H4 σ4 l4 => ?_⟩
      have l24 := (l2.trans l3).trans l4
      cases f' with
      | nx => exact ⟨F4, _, l24.kill kill, hL⟩
      | ct => exact ⟨F4, _, l24.kill kill, hL⟩
      | bk =>
        cases hL
        exact kk F4 H4 σ4 ((l1.trans l24).kill kill)
      | rt d w =>
        cases hL
        exact fun v r => kk F4 H4 σ4 ((l1.trans l24).kill kill) v (Res.kill kill (Res.trans l1 (Res.trans (l2.trans l3) r)))
  · left
    have hi2 : i = items.length := by omega
    subst hi2
    rw [List.drop_length] at hL
    simp only [forL, Option.some.injEq, Prod.mk.injEq] at hL
    obtain ⟨rfl, rfl⟩ := hL
    exact ⟨y1 (Nat.le_refl _), kk F2 H2 σ1 (l1.trans l2)⟩
theorem st_whl {kill : List Nat} (hp : PassesOwn (model X.prog X.w) X.A X.env X.xe) (hc : PT X c (tT X.kw call xc)) (hb : PSs X body (tSs X.kw call sb)) : PS X (.While c body [] pos) (tS X.kw call (.whl xc sb kill)) := by
  refine ⟨fun pins s σ H D I q => (ps_while hp hc hb).run pins s σ H D I ?_⟩
  obtain ⟨F, ρ, fl, ρ', h0, wf, kk⟩ := q
  simp only [evS, Option.bind_eq_bind] at h0
  generalize ht : (fun (ρ : Pl) => (ev call xc ρ).bind fun x => (asB x.1).bind fun b => pure (b, x.2.2)) = test at h0
  generalize hst : (fun (ρ : Pl) => (evSs call sb ρ).bind fun x => pure (x.1, killS x.2 kill)) = step at h0
  refine ⟨fun m σ1 H1 => ∃ F1 ρ1, Live X.kw ⟨F, H, ρ, σ⟩ F1 H1 ρ1 σ1 ∧ whlL test step m ρ1 = some (fl, ρ'), ⟨WHILES, F, ρ, wf.live, h0⟩, ?_⟩
  rintro m σ1 H1 ⟨F1, ρ1, l1, hL⟩
  cases m with
  | zero => simp [whlL] at hL
  | succ m =>
    simp only [whlL] at hL
    cases ht' : test ρ1 with
    | none => rw [ht'] at hL; cases hL
    | some r =>
      obtain ⟨b, ρ2⟩ := r
      rw [ht'] at hL
      rw [← ht] at ht'
      simp only [Option.bind_eq_some_iff, Option.pure_def, Option.some.injEq, Prod.exists, Prod.mk.injEq] at ht'
      obtain ⟨d, w, ρ3, h1, b', h2, rfl, rfl⟩ := ht'
      obtain rfl := asB_of h2
      refine ⟨F1, ρ1, b', w, _, h1, l1.wf, fun F2 H2 l2 => ?_⟩
      have l12 := l1.trans l2
      cases b' with
      | false =>
        cases hL
        simp only [Bool.false_eq_true, if_false]
        exact kk F2 H2 σ1 l12
      | true =>
        simp only [if_true] at hL ⊢
        refine ⟨fun σ' H' => ∃ F1 ρ1, Live X.kw ⟨F, H, ρ, σ⟩ F1 H' ρ1 σ' ∧ whlL test step m ρ1 = some (fl, ρ'), fun σ' H' n => ⟨m, Nat.lt_succ_self m, n⟩, ?_⟩
        cases hs' : step ρ3 with
        | none => rw [hs'] at hL; cases hL
        | some r =>
          obtain ⟨f, ρ4⟩ := r
          rw [hs'] at hL
          rw [← hst] at hs'
          simp only [Option.bind_eq_some_iff, Option.pure_def, Option.some.injEq, Prod.exists, Prod.mk.injEq] at hs'
          obtain ⟨f', ρb, hb', rfl, rfl⟩ := hs'
          refine ⟨F2, ρ3, f', ρb, hb', l2.wf, fun F4 H4 σ4 l4 => ?_⟩
          have l24 := l12.trans l4
          cases f' with
          | nx => exact ⟨F4, _, l24.kill kill, hL⟩
          | ct => exact ⟨F4, _, l24.kill kill, hL⟩
          | bk =>
            cases hL
            exact kk F4 H4 σ4 (l24.kill kill)
          | rt d w =>
            cases hL
            exact fun v r => kk F4 H4 σ4 (l24.kill kill) v (Res.kill kill (Res.trans l12 r))

theorem st_asgLc {y : Str} {py spos : Pos} {elt tg iter : Expr} {ifs : List Expr} {scope : Scope} {own : List (Str × Nat)} {own' : List Nat} {tgt : Tg} {k : IK} {its xifs : List PV.X} (hc : X.calm = true) (hN : X.N.Nodup) (hy : X.N[i]? = some y) (hyl : X.env.scope.names.lookup y = some .local)
    (hsw : swapsWith (.ListComp elt [⟨tg, iter, ifs, 0⟩] scope pos) (some (.Name y py)) spos.line X.env = pure true) (hi : PI X tg iter (iEv X.kw call k its)) (ok : BlkOk X.N X.env.scope scope own) (ho : own.map (·.2) = own')
    (hg : ∀ (s : Shared) (H : Hp) (C : Addr) (cl : List (Str × Addr)) (fp : List Addr), PG (X.blk s H scope (compEnvC scope cl C X.env) fp) tg (gT X.kw tgt)) (ht : ∀ (s : Shared) (H : Hp) (C : Addr) (cl : List (Str × Addr)) (fp : List Addr), PTs (X.blk s H scope (compEnvC scope cl C X.env) fp) ifs (tIfs X.kw call xifs))
    (he : ∀ (s : Shared) (H : Hp) (C : Addr) (cl : List (Str × Addr)) (fp : List Addr), PE (X.blk s H scope (compEnvC scope cl C X.env) fp) elt (tEv X.kw call xe)) (htg : ∀ i ∈ tgOf tgt, i ∈ own') (hn : tgNew (newK k) tgt = true) (hs : ∀ x, foldedSetIterable iter X.env x = pure x) :
    PS X (.Assign [.Name y py] (.ListComp elt [⟨tg, iter, ifs, 0⟩] scope pos) spos) (tS X.kw call (.asg (.nm i) (.lc xe tgt k its xifs own'))) := by
  refine ⟨fun pins s σ H D I q => (ps_setLc hc hN hy hyl hsw hi ok hg ht (te := tFr X.kw call xe) (fun s H C cl fp => pe_fr (he s H C cl fp)) hs).run pins s σ H D I ?_⟩
  rw [ho]
  exact t_lc (t_asg q) htg hn
theorem st_asgLc2 {y : Str} {py spos : Pos} {elt tg iter tg1 iter1 : Expr} {ifs ifs1 : List Expr} {scope : Scope} {own : List (Str × Nat)} {own' own1 : List Nat} {tgt tgt1 : Tg} {k k1 : IK} {its xifs its1 xifs1 : List PV.X} (hc : X.calm = true) (hN : X.N.Nodup) (hy : X.N[i]? = some y) (hyl : X.env.scope.names.lookup y = some .local)
    (hsw : swapsWith (.ListComp elt [⟨tg, iter, ifs, 0⟩, ⟨tg1, iter1, ifs1, 0⟩] scope pos) (some (.Name y py)) spos.line X.env = pure true) (hi : PI X tg iter (iEv X.kw call k its)) (ok : BlkOk X.N X.env.scope scope own) (ho : own.map (·.2) = own') (hv : ∀ i ∈ own1, i ∈ own')
    (hg : ∀ (s : Shared) (H : Hp) (C : Addr) (cl : List (Str × Addr)) (fp : List Addr), PG (X.blk s H scope (compEnvC scope cl C X.env) fp) tg (gT X.kw tgt)) (ht : ∀ (s : Shared) (H : Hp) (C : Addr) (cl : List (Str × Addr)) (fp : List Addr), PTs (X.blk s H scope (compEnvC scope cl C X.env) fp) ifs (tIfs X.kw call xifs))
    (hi1 : ∀ (s : Shared) (H : Hp) (C : Addr) (cl : List (Str × Addr)) (fp : List Addr), PI (X.blk s H scope (compEnvC scope cl C X.env) fp) tg1 iter1 (iEv X.kw call k1 its1))
    (hg1 : ∀ (s : Shared) (H : Hp) (C : Addr) (cl : List (Str × Addr)) (fp : List Addr), PG (X.blk s H scope (compEnvC scope cl C X.env) fp) tg1 (gT X.kw tgt1)) (ht1 : ∀ (s : Shared) (H : Hp) (C : Addr) (cl : List (Str × Addr)) (fp : List Addr), PTs (X.blk s H scope (compEnvC scope cl C X.env) fp) ifs1 (tIfs X.kw call xifs1))
    (he : ∀ (s : Shared) (H : Hp) (C : Addr) (cl : List (Str × Addr)) (fp : List Addr), PE (X.blk s H scope (compEnvC scope cl C X.env) fp) elt (tEv X.kw call xe)) (htg : ∀ i ∈ tgOf tgt, i ∈ own') (hn : tgNew (newK k) tgt = true) (htg1 : ∀ i ∈ tgOf tgt1, i ∈ own1) (hn1 : tgNew (newK k1) tgt1 = true)
    (hs : ∀ x, foldedSetIterable iter X.env x = pure x) (hs1 : ∀ env x, foldedSetIterable iter1 env x = pure x) :
    PS X (.Assign [.Name y py] (.ListComp elt [⟨tg, iter, ifs, 0⟩, ⟨tg1, iter1, ifs1, 0⟩] scope pos) spos) (tS X.kw call (.asg (.nm i) (.lc2 xe tgt k its xifs tgt1 k1 its1 xifs1 own' own1))) := by
  refine ⟨fun pins s σ H D I q => (ps_setLc2 hc hN hy hyl hsw hi ok (vs1 := own1) (by rw [ho]; exact hv) hg ht hi1 hg1 ht1 (te := tFr X.kw call xe) (fun s H C cl fp => pe_fr (he s H C cl fp)) hs hs1).run pins s σ H D I ?_⟩
  rw [ho]
  exact t_lc2 (t_asg q) htg hn htg1 hn1 hv
theorem s_lc {elt tg iter : Expr} {ifs : List Expr} {scope : Scope} {own : List (Str × Nat)} {own' : List Nat} {tgt : Tg} {k : IK} {its xifs : List PV.X} (hc : X.calm = true) (hN : X.N.Nodup) (hi : PI X tg iter (iEv X.kw call k its)) (ok : BlkOk X.N X.env.scope scope own) (ho : own.map (·.2) = own')
    (hg : ∀ (s : Shared) (H : Hp) (C : Addr) (cl : List (Str × Addr)) (fp : List Addr), PG (X.blk s H scope (compEnvC scope cl C X.env) fp) tg (gT X.kw tgt)) (ht : ∀ (s : Shared) (H : Hp) (C : Addr) (cl : List (Str × Addr)) (fp : List Addr), PTs (X.blk s H scope (compEnvC scope cl C X.env) fp) ifs (tIfs X.kw call xifs))
    (he : ∀ (s : Shared) (H : Hp) (C : Addr) (cl : List (Str × Addr)) (fp : List Addr), PE (X.blk s H scope (compEnvC scope cl C X.env) fp) elt (tEv X.kw call xe)) (htg : ∀ i ∈ tgOf tgt, i ∈ own') (hn : tgNew (newK k) tgt = true) (hs : ∀ x, foldedSetIterable iter X.env x = pure x) :
    PE X (.ListComp elt [⟨tg, iter, ifs, 0⟩] scope pos) (tEv X.kw call (.lc xe tgt k its xifs own')) := by
  refine ⟨fun pins s σ H Q I q => (pe_lc hc hN hi ok hg ht (te := tFr X.kw call xe) (fun s H C cl fp => pe_fr (he s H C cl fp)) hs).run pins s σ H Q I ?_⟩
  rw [ho]
  exact t_lc q htg hn
theorem s_lc2 {elt tg iter tg1 iter1 : Expr} {ifs ifs1 : List Expr} {scope : Scope} {own : List (Str × Nat)} {own' own1 : List Nat} {tgt tgt1 : Tg} {k k1 : IK} {its xifs its1 xifs1 : List PV.X} (hc : X.calm = true) (hN : X.N.Nodup) (hi : PI X tg iter (iEv X.kw call k its)) (ok : BlkOk X.N X.env.scope scope own) (ho : own.map (·.2) = own') (hv : ∀ i ∈ own1, i ∈ own')
    (hg : ∀ (s : Shared) (H : Hp) (C : Addr) (cl : List (Str × Addr)) (fp : List Addr), PG (X.blk s H scope (compEnvC scope cl C X.env) fp) tg (gT X.kw tgt)) (ht : ∀ (s : Shared) (H : Hp) (C : Addr) (cl : List (Str × Addr)) (fp : List Addr), PTs (X.blk s H scope (compEnvC scope cl C X.env) fp) ifs (tIfs X.kw call xifs))
    (hi1 : ∀ (s : Shared) (H : Hp) (C : Addr) (cl : List (Str × Addr)) (fp : List Addr), PI (X.blk s H scope (compEnvC scope cl C X.env) fp) tg1 iter1 (iEv X.kw call k1 its1))
    (hg1 : ∀ (s : Shared) (H : Hp) (C : Addr) (cl : List (Str × Addr)) (fp : List Addr), PG (X.blk s H scope (compEnvC scope cl C X.env) fp) tg1 (gT X.kw tgt1)) (ht1 : ∀ (s : Shared) (H : Hp) (C : Addr) (cl : List (Str × Addr)) (fp : List Addr), PTs (X.blk s H scope (compEnvC scope cl C X.env) fp) ifs1 (tIfs X.kw call xifs1))
    (he : ∀ (s : Shared) (H : Hp) (C : Addr) (cl : List (Str × Addr)) (fp : List Addr), PE (X.blk s H scope (compEnvC scope cl C X.env) fp) elt (tEv X.kw call xe)) (htg : ∀ i ∈ tgOf tgt, i ∈ own') (hn : tgNew (newK k) tgt = true) (htg1 : ∀ i ∈ tgOf tgt1, i ∈ own1) (hn1 : tgNew (newK k1) tgt1 = true)
    (hs : ∀ x, foldedSetIterable iter X.env x = pure x) (hs1 : ∀ env x, foldedSetIterable iter1 env x = pure x) :
    PE X (.ListComp elt [⟨tg, iter, ifs, 0⟩, ⟨tg1, iter1, ifs1, 0⟩] scope pos) (tEv X.kw call (.lc2 xe tgt k its xifs tgt1 k1 its1 xifs1 own' own1)) := by
  refine ⟨fun pins s σ H Q I q => (pe_lc2 hc hN hi ok (vs1 := own1) (by rw [ho]; exact hv) hg ht hi1 hg1 ht1 (te := tFr X.kw call xe) (fun s H C cl fp => pe_fr (he s H C cl fp)) hs hs1).run pins s σ H Q I ?_⟩
  rw [ho]
  exact t_lc2 q htg hn htg1 hn1 hv
theorem s_ifs0 : PTs X [] (tIfs X.kw call []) := by
  refine ⟨fun pins s σ H Q I q => pts_nil.run pins s σ H Q I ?_⟩
  obtain ⟨F, ρ, b, ρ', h0, wf, k⟩ := q
  simp only [evIfs, Option.some.injEq, Prod.mk.injEq] at h0
  obtain ⟨rfl, rfl⟩ := h0
  exact k F H wf.live
theorem s_ifs1 (hc : PT X c (tT X.kw call xc)) : PTs X [c] (tIfs X.kw call [xc]) := by
  refine ⟨fun pins s σ H Q I q => (pts_one hc).run pins s σ H Q I ?_⟩
  obtain ⟨F, ρ, b, ρ', h0, wf, k⟩ := q
  simp only [evIfs, Option.bind_eq_bind, Option.bind_eq_some_iff, Option.pure_def, Prod.exists] at h0
  obtain ⟨d, w, ρ1, h1, bb, h2, h3⟩ := h0
  obtain rfl := asB_of h2
  refine ⟨F, ρ, bb, w, ρ1, h1, wf, fun F1 H1 l => ?_⟩
  cases bb <;> (simp only [Bool.false_eq_true, if_false, if_true, Option.some.injEq, Prod.mk.injEq] at h3; obtain ⟨rfl, rfl⟩ := h3; exact k F1 H1 l)
end
end PV

set_option Elab.async false
set_option linter.all false
set_option maxRecDepth 100000
set_option maxHeartbeats 1000000
/-! PV: a def's promise from its body's reading. -/
namespace PV
open PySem L2 PyProof.Rows
section
variable {K : KW} {F H F' H' : Hp} {ρ0 ρ' : Pl} {σ0 σ' : Sg} {d : D} {w : Bool} {v : V} {m m' : Nat}
theorem lentS_no {s : Slot} : ∀ d, lentS s ≠ .ow d := fun d h => by cases s <;> simp [lentS] at h
theorem lentS_bo {s : Slot} {d : D} (h : lentS s = .bo d) : s = .bo d := by cases s <;> simp [lentS] at h; rw [h]
theorem lentS_bf {s : Slot} {d : D} (h : lentS s = .bf d) : s = .bf d := by cases s <;> simp [lentS] at h; rw [h]
theorem lents_len : ∀ {n : Nat} {ρ : Pl}, (lents n ρ).length = n
  | 0, ρ => rfl
  | n + 1, [] => by simp [lents, lents_len]
  | n + 1, s :: ρ => by simp [lents, lents_len]
theorem lents_get : ∀ {n i : Nat} {ρ : Pl} {s : Slot}, (lents n ρ)[i]? = some s → i < n ∧ (s = .no ∨ ∃ t, ρ[i]? = some t ∧ lentS t = s)
  | 0, i, ρ, s, h => by simp [lents] at h
  | n + 1, 0, [], s, h => by
    simp [lents] at h
    exact ⟨Nat.succ_pos n, .inl h.symm⟩
  | n + 1, i + 1, [], s, h => by
    simp only [lents, List.getElem?_cons_succ] at h
    obtain ⟨h1, h2⟩ := lents_get h
    refine ⟨Nat.succ_lt_succ h1, ?_⟩
    rcases h2 with z | ⟨t, z, _⟩
    · exact .inl z
    · simp at z
  | n + 1, 0, t :: ρ, s, h => by
    simp [lents] at h
    exact ⟨Nat.succ_pos n, .inr ⟨t, rfl, h⟩⟩
  | n + 1, i + 1, t :: ρ, s, h => by
    simp only [lents, List.getElem?_cons_succ] at h
    obtain ⟨h1, h2⟩ := lents_get h
    exact ⟨Nat.succ_lt_succ h1, by simpa using h2⟩
/-- a place that is not nothing -/
theorem lent_get {n i : Nat} {s : Slot} (h : (lents n ρ')[i]? = some s) (hs : s ≠ .no) : i < n ∧ ∃ t, ρ'[i]? = some t ∧ lentS t = s := by
  obtain ⟨h1, h2⟩ := lents_get h
  rcases h2 with z | z
  · exact absurd z hs
  · exact ⟨h1, z⟩
theorem pad_get {α : Type} {l : List α} {x y : α} {n i : Nat} (h : (l ++ List.replicate n x)[i]? = some y) : l[i]? = some y ∨ y = x := by
  rw [List.getElem?_append] at h
  split at h
  · exact .inl h
  · rw [List.getElem?_replicate] at h
    split at h
    · right; cases h; rfl
    · cases h
theorem pad_in {α : Type} {l : List α} {x y : α} {n i : Nat} (h : l[i]? = some y) : (l ++ List.replicate n x)[i]? = some y := by
  rw [List.getElem?_append_left (List.getElem?_eq_some_iff.mp h).1]; exact h
theorem pad_lt {α : Type} {l : List α} {x : α} {n i : Nat} (h : i < l.length) : (l ++ List.replicate n x)[i]? = l[i]? := List.getElem?_append_left h
theorem owA_pad {a : Addr} : OwA (ρ0 ++ List.replicate m .no) (σ0 ++ List.replicate m' none) a ↔ OwA ρ0 σ0 a := by
  constructor
  · rintro ⟨i, d, h1, h2⟩
    rcases pad_get h1 with z1 | z1
    · rcases pad_get h2 with z2 | z2
      · exact ⟨i, d, z1, z2⟩
      · cases z2
    · cases z1
  · rintro ⟨i, d, h1, h2⟩
    exact ⟨i, d, pad_in h1, pad_in h2⟩
theorem boA_pad {a : Addr} : BoA (ρ0 ++ List.replicate m .no) (σ0 ++ List.replicate m' none) a ↔ BoA ρ0 σ0 a := by
  constructor
  · rintro ⟨i, d, h1, h2⟩
    rcases pad_get h1 with z1 | z1
    · rcases pad_get h2 with z2 | z2
      · exact ⟨i, d, z1, z2⟩
      · cases z2
    · cases z1
  · rintro ⟨i, d, h1, h2⟩
    exact ⟨i, d, pad_in h1, pad_in h2⟩
theorem Wf.pad (wf : Wf K F H ρ0 σ0) (h : m = m') : Wf K F H (ρ0 ++ List.replicate m .no) (σ0 ++ List.replicate m' none) := by
  subst h
  refine ⟨wf.sub, by simp [wf.len], fun i s d h1 h2 => ?_, fun i s d h1 h2 => ?_, fun i j s t d d2 a h1 h2 h3 h4 h5 h6 => ?_⟩
  · rcases pad_get h1 with z | rfl
    · obtain ⟨v, z1, z2⟩ := wf.fr i s d z h2
      exact ⟨v, pad_in z1, z2⟩
    · simp [val?] at h2
  · rcases pad_get h1 with z | rfl
    · obtain ⟨v, z1, z2⟩ := wf.own i s d z h2
      exact ⟨v, pad_in z1, z2⟩
    · simp [own?] at h2
  · rcases pad_get h1 with z1 | rfl
    · rcases pad_get h2 with z2 | rfl
      · rcases pad_get h5 with z5 | z5
        · rcases pad_get h6 with z6 | z6
          · exact wf.sep i j s t d d2 a z1 z2 h3 h4 z5 z6
          · cases z6
        · cases z5
      · simp [own?] at h4
    · simp [own?] at h3
theorem Live.leave {n : Nat} (hn : n = ρ0.length) (wf : Wf K F H ρ0 σ0) (hm : m = m') (l : Live K ⟨F, H, ρ0 ++ List.replicate m .no, σ0 ++ List.replicate m' none⟩ F' H' ρ' σ') : Live K ⟨F, H, ρ0, σ0⟩ F' H' (lents n ρ') σ0 := by
  have hσ : σ0.length = n := by rw [hn, wf.len]
  have same : ∀ (i : Nat), i < n → σ'[i]? = (σ0 ++ List.replicate m' none)[i]? → σ'[i]? = σ0[i]? := fun i hi h => by
    rw [h, pad_lt (by rw [hσ]; exact hi)]
  refine ⟨⟨l.wf.sub, by rw [lents_len, hσ], fun i s d h1 h2 => ?_, fun i s d h1 h2 => ?_, fun i j s t d d2 a h1 h2 h3 h4 h5 h6 => ?_⟩, l.ff, fun a o h nO nB => ?_, l.dom, fun a o h nF => ?_, fun a h => ?_, fun i d h => ?_, fun i d h => ?_⟩
  · obtain ⟨hi, t, z1, z2⟩ := lent_get h1 (by rintro rfl; simp [val?] at h2)
    cases s <;> simp [val?] at h2
    · cases t <;> simp [lentS] at z2
    · subst h2
      obtain rfl := lentS_bf z2
      obtain ⟨v, q1, q2⟩ := l.wf.fr i _ _ z1 rfl
      rw [same i hi (l.bf i _ z1).2] at q1
      exact ⟨v, q1, q2⟩
  · obtain ⟨hi, t, z1, z2⟩ := lent_get h1 (by rintro rfl; simp [own?] at h2)
    cases s <;> simp [own?] at h2
    · exact absurd z2 (lentS_no _)
    · subst h2
      obtain rfl := lentS_bo z2
      obtain ⟨v, q1, q2⟩ := l.wf.own i _ _ z1 rfl
      rw [same i hi (l.bo i _ z1).2] at q1
      exact ⟨v, q1, q2⟩
  · obtain ⟨hi, t1, z1, z2⟩ := lent_get h1 (by rintro rfl; simp [own?] at h3)
    obtain ⟨hj, t2, z3, z4⟩ := lent_get h2 (by rintro rfl; simp [own?] at h4)
    cases s <;> simp [own?] at h3
    · exact absurd z2 (lentS_no _)
    cases t <;> simp [own?] at h4
    · exact absurd z4 (lentS_no _)
    obtain rfl := lentS_bo z2
    obtain rfl := lentS_bo z4
    rw [← same i hi (l.bo i _ z1).2] at h5
    rw [← same j hj (l.bo j _ z3).2] at h6
    exact l.wf.sep i j _ _ _ _ a z1 z3 rfl rfl h5 h6
  · exact l.hh a o h (fun z => nO (owA_pad.mp z)) fun z => nB (boA_pad.mp z)
  · rcases l.new a o h nF with z | z | z
    · exact .inl z
    · exact .inr (.inl (owA_pad.mp z))
    · exact .inr (.inr (boA_pad.mp z))
  · obtain ⟨i, d, h1, _⟩ := h
    obtain ⟨hi, t, _, z2⟩ := lent_get h1 (by simp)
    exact absurd z2 (lentS_no _)
  · obtain ⟨hi, t, z1, z2⟩ := lent_get h (by simp)
    obtain rfl := lentS_bo z2
    obtain ⟨⟨d0, q⟩, _⟩ := l.bo i d z1
    refine ⟨⟨d0, ?_⟩, rfl⟩
    have q : (ρ0 ++ List.replicate m .no)[i]? = some (.bo d0) := q
    rwa [pad_lt (by rw [← hn]; exact hi)] at q
  · obtain ⟨hi, t, z1, z2⟩ := lent_get h (by simp)
    obtain rfl := lentS_bf z2
    refine ⟨?_, rfl⟩
    rcases (l.bf i d z1).1 with ⟨d0, q⟩ | ⟨d0, q⟩
    · have q : (ρ0 ++ List.replicate m .no)[i]? = some (.bo d0) := q
      rw [pad_lt (by rw [← hn]; exact hi)] at q
      exact .inl ⟨d0, q⟩
    · have q : (ρ0 ++ List.replicate m .no)[i]? = some (.bf d0) := q
      rw [pad_lt (by rw [← hn]; exact hi)] at q
      exact .inr ⟨d0, q⟩
theorem Res.leave {n : Nat} (hn : n = ρ0.length) (wf : Wf K F H ρ0 σ0) (l : Live K ⟨F, H, ρ0 ++ List.replicate m .no, σ0 ++ List.replicate m' none⟩ F' H' ρ' σ') (r : Res K ⟨F, H, ρ0 ++ List.replicate m .no, σ0 ++ List.replicate m' none⟩ F' H' ρ' σ' d w v) :
    Res K ⟨F, H, ρ0, σ0⟩ F' H' (lents n ρ') σ0 d w v := by
  unfold Res at r ⊢
  split
  · rename_i hw
    rw [if_pos hw] at r
    obtain ⟨a, rfl, h2, h3, h4, h5, h6⟩ := r
    refine ⟨a, rfl, h2, h3, ?_, fun ⟨i, d, z1, _⟩ => ?_, fun ⟨i, d, z1, z2⟩ => ?_⟩
    · rcases h4 with z | z
      · exact .inl z
      · exact .inr (owA_pad.mp z)
    · obtain ⟨hi, t, _, z2⟩ := lent_get z1 (by simp)
      exact absurd z2 (lentS_no _)
    · obtain ⟨hi, t, q1, q2⟩ := lent_get z1 (by simp)
      obtain rfl := lentS_bo q2
      refine h6 ⟨i, d, q1, ?_⟩
      rw [(l.bo i d q1).2]
      show (σ0 ++ List.replicate m' none)[i]? = _
      rw [pad_lt (by rw [← wf.len, ← hn]; exact hi)]
      exact z2
  · rename_i hw
    rw [if_neg hw] at r
    exact r
end
section
variable {P : Program} {w : World} {K : KW} {mg : Str → Option Value} {base : Heap} {fs : List Fn}
theorem runF_of {call : Call} {fn : Fn} {as : List (D × Bool)} {d : D} {w : Bool} {ss : List Slot} (h : runF call fn as = some (d, w, ss)) : as.length = fn.np ∧ ∃ fl ρ, evSs call fn.body (envOf fn as) = some (fl, ρ) ∧ ss = lents fn.np ρ ∧ (fl = .rt d w ∨ (fl = .nx ∧ d = .none ∧ w = false)) := by
  unfold runF at h
  split at h
  · rename_i hl
    refine ⟨hl, ?_⟩
    split at h
    · rename_i d' w' ρ e1
      cases h
      exact ⟨_, _, e1, rfl, .inl rfl⟩
    · rename_i ρ e1
      cases h
      exact ⟨_, _, e1, rfl, .inr ⟨rfl, rfl, rfl⟩⟩
    · cases h
  · cases h
/-- the places' number stays -/
theorem fn_ok {x qual : Str} {st : Stmt} {f : Addr} {fd : FuncData} {N ps : List Str} {k i n : Nat} {fn : Fn} (F : Fun K x qual st f fd) (S : FnScope N ps (defScope st)) (hfs : fs[i]? = some fn) (hp : fn.np = ps.length) (hN : fn.nn = N.length) (hle : ps.length ≤ N.length) (hn : n = ps.length)
    (hbody : ∀ (cdv : Value) (A : Around) (outer : List Env) (s : Shared) (H : Hp) (E : XK), Room k (A.deeper (envOfC qual (defScope st) s.heap.objs.size f cdv)) →
      PSs (cxOf CX0 P w K mg base N qual (defScope st) f cdv A outer s H E).nox (defBody st) (tSs K (callN fs k) fn.body)) : FnOk P w K mg base CX0 (k + 1) f fd ps (spEv K (callN fs (k + 1)) i n) := by
  subst hn
  refine F.ok S (fun vs H Q E h => h.1) (fun cdv A outer s H vs Q E hr h => ⟨_, hbody cdv A outer s H E hr, ?_⟩)
  obtain ⟨hl, F0, as, d, w', ss, h1, wf, kk⟩ := h
  simp only [callN, hfs] at h1
  obtain ⟨ha, fl, ρ, h2, rfl, h3⟩ := runF_of h1
  have hlen : (as.map slotA).length = as.length := List.length_map _
  have wf' : Wf K F0 H (envOf fn as) (L2.start N vs) := by
    unfold envOf L2.start
    exact wf.pad (by rw [hN, ha, hp, hl])
  refine ⟨F0, envOf fn as, fl, ρ, h2, wf', fun F' H' σ' l => ?_⟩
  have l' := Live.leave (n := fn.np) (by rw [hlen, ha]) wf (by rw [hN, ha, hp, hl]) l
  rcases h3 with rfl | ⟨rfl, rfl, rfl⟩
  · exact fun v r => kk F' H' v l' (Res.leave (by rw [hlen, ha]) wf l r)
  · exact kk F' H' .non l' (res_val (by simp only [Rep]))
end
end PV

set_option Elab.async false
set_option linter.all false
set_option maxRecDepth 100000
set_option maxHeartbeats 1000000
/-! PV: the words of which a reading is put together. -/
namespace PV
open PySem L2 PyProof.Rows
/-- a module's constant -/
def CstAt (K : KW) (mg : Str → Option Value) (x : Str) (d : D) : Prop := ∃ u v, mg x = some u ∧ RelV v u ∧ Rep K (fun _ => none) d v
/-- a def, promised at a level -/
def CallOk (P : Program) (K : KW) (mg : Str → Option Value) (base : Heap) (fs : List Fn) (nm : Str) (i : Nat) (ps : List Str) (dfl : List D) (k : Nat) : Prop :=
  ∃ fa fd ds dvs, mg nm = some (.ref fa) ∧ PySem.W.keepIn K (.ref fa) = true ∧ Binds K fd ps ds ∧ Vals dvs ds ∧ RepL K (fun _ => none) dfl dvs ∧ FnOk P K.w K.fr mg base CX0 k fa fd ps (spEv K (callN fs k) i ps.length)
/-- a def of the text -/
def DefAt (K : KW) (mg : Str → Option Value) (nm : Str) (st : Stmt) (ps : List Str) (dfl : List D) : Prop :=
  ∃ fa fd ds dvs, mg nm = some (.ref fa) ∧ Fun K nm nm st fa fd ∧ Binds K fd ps ds ∧ Vals dvs ds ∧ RepL K (fun _ => none) dfl dvs
def isVar : X → Bool
  | .var _ => true
  | _ => false
section
variable {call : Call} {X : Cx} {a b c e tg : Expr} {xe xa xb xc x : PV.X} {xs : List PV.X} {rest : List Expr} {pos pos' p : Pos} {y : Str} {d : D}
theorem hu65 {k : Nat} {A : Around} (r : Room k A) : A.units + 65 < cLine := by have := r.un; omega
theorem hu1 {k : Nat} {A : Around} (r : Room k A) : A.units + 1 < cLine := by have := r.un; omega
theorem e_var (i : Nat) (hN : X.N[i]? = some y := by rfl) (hv : Vis X.env.scope y := by first | exact Or.inl rfl | exact Or.inr (Or.inl rfl) | exact Or.inr (Or.inr rfl)) (hd : (y == ("__debug__" : Str)) = false := by decide +kernel)
    (hcd : (y == ("__classdict__" : Str)) = false := by decide +kernel) : PE X (.Name y p) (tEv X.kw call (.var i)) := s_var (pe_var hN hv hd hcd)
theorem o_var (i : Nat) (hN : X.N[i]? = some y := by rfl) (hv : Vis X.env.scope y := by first | exact Or.inl rfl | exact Or.inr (Or.inl rfl) | exact Or.inr (Or.inr rfl)) (hd : (y == ("__debug__" : Str)) = false := by decide +kernel)
    (hcd : (y == ("__classdict__" : Str)) = false := by decide +kernel) : PE X (.Name y p) (tOp X.kw call (.var i)) :=
  pe_opn (s_var (pe_var hN hv hd hcd)) fun j h => by cases h; exact pe_var hN hv hd hcd
theorem o_ev (h : PE X e (tEv X.kw call x)) (hx : isVar x = false := by rfl) : PE X e (tOp X.kw call x) := pe_opn h fun i z => by subst z; cases hx
theorem e_int {i : Int} {j} : PE X (.Constant (.int i) j pos) (tEv X.kw call (.cst (.int i))) := s_cst pe_int rep_int
theorem e_str {i : Str} {j} : PE X (.Constant (.str i) j pos) (tEv X.kw call (.cst (.str i))) := s_cst pe_str rep_str
theorem e_bl {i : Bool} {j} : PE X (.Constant (.bool i) j pos) (tEv X.kw call (.cst (.bool i))) := s_cst pe_bl rep_bl
theorem e_non {j} : PE X (.Constant .none j pos) (tEv X.kw call (.cst .none)) := s_cst pe_non rep_none
theorem e_neg {i : Int} {j} {p2 : Pos} : PE X (.UnaryOp .USub (.Constant (.int i) j p2) pos) (tEv X.kw call (.cst (.int (-i)))) :=
  s_cst (v := .int (-i)) ⟨fun pins s σ H Q I q => (pe_un un_neg pe_int).run pins s σ H Q I ⟨i, rfl, q⟩⟩ rep_int
theorem e_glob (h : CstAt X.kw X.mg y d) (hg : Gl X y := by rfl) (hd : (y == ("__debug__" : Str)) = false := by decide +kernel) : PE X (.Name y p) (tEv X.kw call (.cst d)) := by
  obtain ⟨u, v, h1, h2, h3⟩ := h
  exact s_cst (pe_glob hg h1 h2 hd) h3
theorem e_val (h : PE X e (tEv X.kw call x)) (he : ∀ whole, isTrue e X.env whole = (do let v ← whole; standAt e.pos; holding [v] (truthy v)) := by intro _; rfl) : PT X e (tT X.kw call x) := s_val h he
theorem e_cmp {k : Nat} (o : COp) (r : Room k X.A) (ha : PE X a (tOp X.kw call xa)) (hb : PE X b (tOp X.kw call xb)) (hm : behindInMarks (cmpOp o) b = false := by rfl) : PE X (.Compare a [cmpOp o] [b] pos) (tEv X.kw call (.cmp o xa xb)) := s_cmp (hu65 r) ha hb hm
theorem e_cmpT {k : Nat} (o : COp) (r : Room k X.A) (ha : PE X a (tOp X.kw call xa)) (hb : PE X b (tOp X.kw call xb)) (hm : behindInMarks (cmpOp o) b = false := by rfl) : PT X (.Compare a [cmpOp o] [b] pos) (tT X.kw call (.cmp o xa xb)) := s_cmpT (hu65 r) ha hb hm
theorem e_chain {k : Nat} (o q : COp) (r : Room k X.A) (ha : PE X a (tOp X.kw call xa)) (hb : PE X b (tOp X.kw call xb)) (hc : PE X c (tOp X.kw call xc)) (hm : lastMarks [cmpOp o, cmpOp q] [b, c] = false := by rfl) : PE X (.Compare a [cmpOp o, cmpOp q] [b, c] pos) (tEv X.kw call (.chain o q xa xb xc)) := s_chain (hu65 r) ha hb hc hm
theorem e_chainT {k : Nat} (o q : COp) (r : Room k X.A) (ha : PE X a (tOp X.kw call xa)) (hb : PE X b (tOp X.kw call xb)) (hc : PE X c (tOp X.kw call xc)) (hm : lastMarks [cmpOp o, cmpOp q] [b, c] = false := by rfl) : PT X (.Compare a [cmpOp o, cmpOp q] [b, c] pos) (tT X.kw call (.chain o q xa xb xc)) := s_chainT (hu65 r) ha hb hc hm
theorem e_and (h : PE X e (tL X.kw (evAnd call xs))) : PE X e (tEv X.kw call (.and xs)) := s_and h (evAnd_w xs)
theorem e_or (h : PE X e (tL X.kw (evOr call xs))) : PE X e (tEv X.kw call (.or xs)) := s_or h (evOr_w xs)
theorem a_evs (ha : PE X a (tEv X.kw call xa)) (hr : PA X rest (tEvs X.kw call xs)) (hs : starEach (a :: rest) X.env = (false, eval a X.env) :: starEach rest X.env := by rfl) : PA X (a :: rest) (tEvs X.kw call (xa :: xs)) := s_evsC ha hr hs
theorem a_ops (ha : PE X a (tOp X.kw call xa)) (hr : PA X rest (tOps X.kw call xs)) (hs : starEach (a :: rest) X.env = (false, eval a X.env) :: starEach rest X.env := by rfl) : PA X (a :: rest) (tOps X.kw call (xa :: xs)) := s_opsC ha hr hs
theorem a_rs (ha : PE X a (tEv X.kw call xa)) (hr : PA X rest (tRs X.kw call xs)) (hs : starEach (a :: rest) X.env = (false, eval a X.env) :: starEach rest X.env := by rfl) : PA X (a :: rest) (tRs X.kw call (xa :: xs)) := s_rsC ha hr hs
theorem e_tup {n : Nat} (h : PA X rest (tEvs X.kw call xs)) (hl : xs.length ≤ 1000 := by decide +kernel) : PE X (.Tuple rest n pos) (tEv X.kw call (.tup xs)) := s_tup h hl
theorem e_lst (h : PA X rest (tEvs X.kw call xs)) (hl : xs.length ≤ 1000 := by decide +kernel) : PE X (.List rest pos) (tEv X.kw call (.lst xs)) := s_lst h hl
theorem e_idx {k : Nat} (r : Room k X.A) (ha : PE X a (tOp X.kw call xa)) (hb : PE X b (tOp X.kw call xb)) (hs : PlainIx b := by intro _ _; rfl) : PE X (.Subscript a b pos) (tEv X.kw call (.idx xa xb)) := s_idx (hu65 r) ha hb hs
theorem e_cal {fs : List Fn} {nm : Str} {f k : Nat} {ps : List Str} {dfl : List D} (C : CallOk X.prog X.kw X.mg X.base fs nm f ps dfl k) (r : Room k X.A) (ha : PA X (e :: rest) (tOps X.kw (callN fs k) xs))
    (hg : Gl X nm := by rfl) (hn : xs.length + dfl.length = ps.length := by rfl) (hdb : (nm == ("__debug__" : Str)) = false := by decide +kernel) (he : starEach (e :: rest) X.env = (false, eval e X.env) :: starEach rest X.env := by rfl) (hpl : (backTo pos (starEach rest X.env)).any (·.1) = false := by rfl) :
    PE X (.Call (.Name nm p) (e :: rest) [] pos) (tEv X.kw (callN fs k) (.cal f xs dfl)) := by
  obtain ⟨fa, fd, ds, dvs, h1, h2, h3, h4, h5, h6⟩ := C
  exact s_cal h6 r hg h1 h2 h3 h4 h5 hn ha hdb he hpl
theorem e_cal0 {fs : List Fn} {nm : Str} {f k : Nat} {ps : List Str} {dfl : List D} (C : CallOk X.prog X.kw X.mg X.base fs nm f ps dfl k) (r : Room k X.A)
    (hg : Gl X nm := by rfl) (hn : dfl.length = ps.length := by rfl) (hdb : (nm == ("__debug__" : Str)) = false := by decide +kernel) :
    PE X (.Call (.Name nm p) [] [] pos) (tEv X.kw (callN fs k) (.cal f [] dfl)) := by
  obtain ⟨fa, fd, ds, dvs, h1, h2, h3, h4, h5, h6⟩ := C
  exact s_cal0 h6 r hg h1 h2 h3 h4 h5 hn hdb
theorem e_blt (b : Blt) (hm : X.mg (bltName b) = none) (ha : PA X (e :: rest) (tOps X.kw call xs)) (hc : X.calm = true := by rfl) (h1 : b ≠ .sorted := by decide) (h2 : b ≠ .sset := by decide) (h3 : b ≠ .lset := by decide) (hg : Gl X (bltName b) := by rfl)
    (he : starEach (e :: rest) X.env = (false, eval e X.env) :: starEach rest X.env := by rfl) (hpl : (backTo pos (starEach rest X.env)).any (·.1) = false := by rfl) :
    PE X (.Call (.Name (bltName b) p) (e :: rest) [] pos) (tEv X.kw call (.blt b xs)) := s_blt hc h1 h2 h3 hg hm ha he hpl
theorem e_isi (t : Ty) {q1 q2 : Pos} (hm : X.mg "isinstance" = none) (hm2 : X.mg (Str.ofString (tyName t)) = none) (ha : PE X a (tOp X.kw call xa)) (hg : Gl X "isinstance" := by rfl) (hg2 : Gl X (Str.ofString (tyName t)) := by rfl)
    (he : starEach [a, .Name (Str.ofString (tyName t)) q2] X.env = (false, eval a X.env) :: starEach [.Name (Str.ofString (tyName t)) q2] X.env := by rfl) :
    PE X (.Call (.Name "isinstance" q1) [a, .Name (Str.ofString (tyName t)) q2] [] pos) (tEv X.kw call (.isi xa t)) := s_isi hg hm hg2 hm2 ha he
theorem e_mth {k : Nat} (m : Mth) {apos cpos : Pos} (r : Room k X.A) (ha : PE X a (tOp X.kw call xa)) (hr : PA X (e :: rest) (tOps X.kw call xs))
    (m1 : attributeBase a (mthName m) X.env (eval a X.env) = eval a X.env := by rfl)
    (m2 : ((backTo cpos (starEach (e :: rest) X.env)).all (fun x => !x.1) && (backToKw cpos (keywordEach [] X.env)).all (fun x => x.1.isSome)
      && decide ((e :: rest).length + ([] : List Keyword).length + (if ([] : List Keyword).isEmpty then 0 else 1) < 30)) = true := by rfl)
    (m3 : (apos.endLine == cpos.line) = true := by rfl) (he : starEach (e :: rest) X.env = (false, eval e X.env) :: starEach rest X.env := by rfl) :
    PE X (.Call (.Attribute a (mthName m) apos) (e :: rest) [] cpos) (tEv X.kw call (.mth m xa xs)) := s_mth (hu65 r) ⟨m1, m2, m3⟩ ha hr he
theorem e_upper {apos cpos : Pos} (ha : PE X a (tOp X.kw call xa)) (m1 : attributeBase a "upper" X.env (eval a X.env) = eval a X.env := by rfl) (m3 : (apos.endLine == cpos.line) = true := by rfl) :
    PE X (.Call (.Attribute a "upper" apos) [] [] cpos) (tEv X.kw call (.mth .upper xa [])) := s_upper ha m1 m3
theorem e_pop0 (i : Nat) {apos cpos : Pos} (hN : X.N[i]? = some y := by rfl) (hv : Vis X.env.scope y := by first | exact Or.inl rfl | exact Or.inr (Or.inl rfl) | exact Or.inr (Or.inr rfl)) (hd : (y == ("__debug__" : Str)) = false := by decide +kernel)
    (hcd : (y == ("__classdict__" : Str)) = false := by decide +kernel) (m1 : attributeBase (.Name y p) "pop" X.env (eval (.Name y p) X.env) = eval (.Name y p) X.env := by rfl) (m3 : (apos.endLine == cpos.line) = true := by rfl) :
    PE X (.Call (.Attribute (.Name y p) "pop" apos) [] [] cpos) (tEv X.kw call (.pop i [])) := s_pop0 (pe_var hN hv hd hcd) m1 m3
theorem e_pop1 (i : Nat) {apos cpos : Pos} (ha : PA X [e] (tOps X.kw call [x])) (hN : X.N[i]? = some y := by rfl) (hv : Vis X.env.scope y := by first | exact Or.inl rfl | exact Or.inr (Or.inl rfl) | exact Or.inr (Or.inr rfl)) (hd : (y == ("__debug__" : Str)) = false := by decide +kernel)
    (hcd : (y == ("__classdict__" : Str)) = false := by decide +kernel) (m1 : attributeBase (.Name y p) "pop" X.env (eval (.Name y p) X.env) = eval (.Name y p) X.env := by rfl)
    (m2 : ((backTo cpos (starEach [e] X.env)).all (fun x => !x.1) && (backToKw cpos (keywordEach [] X.env)).all (fun x => x.1.isSome)
      && decide ([e].length + ([] : List Keyword).length + (if ([] : List Keyword).isEmpty then 0 else 1) < 30)) = true := by rfl)
    (m3 : (apos.endLine == cpos.line) = true := by rfl) (he : starEach [e] X.env = (false, eval e X.env) :: starEach [] X.env := by rfl) :
    PE X (.Call (.Attribute (.Name y p) "pop" apos) [e] [] cpos) (tEv X.kw call (.pop i [x])) := s_pop1 rfl (pe_var hN hv hd hcd) ⟨m1, m2, m3⟩ ha he
/-! what is walked -/
theorem w_rng1 (hm : X.mg "range" = none) (ha : PA X [e] (tEvs X.kw call xs)) (hg : Gl X "range" := by rfl) (hs : starEach [e] X.env = [(false, eval e X.env)] := by rfl) : PI X tg (.Call (.Name "range" p) [e] [] pos) (iEv X.kw call .rng1 xs) := i_rng1 hg hm ha hs
theorem w_rng2 (hm : X.mg "range" = none) (ha : PA X [e, a] (tEvs X.kw call xs)) (hg : Gl X "range" := by rfl) (hs : starEach [e, a] X.env = [(false, eval e X.env), (false, eval a X.env)] := by rfl) (hs2 : starEach [a] X.env = [(false, eval a X.env)] := by rfl) :
    PI X tg (.Call (.Name "range" p) [e, a] [] pos) (iEv X.kw call .rng2 xs) := i_rng2 hg hm ha hs hs2
theorem w_enu {elts : List Expr} {kk : Nat} {tpos : Pos} (hm : X.mg "enumerate" = none) (ha : PA X [e] (tEvs X.kw call xs)) (hg : Gl X "enumerate" := by rfl) (hs : starEach [e] X.env = [(false, eval e X.env)] := by rfl) :
    PI X (.Tuple elts kk tpos) (.Call (.Name "enumerate" p) [e] [] pos) (iEv X.kw call .enu xs) := i_enu hg hm ha hs
theorem w_zip {elts : List Expr} {kk : Nat} {tpos : Pos} (hm : X.mg "zip" = none) (ha : PA X [e, a] (tEvs X.kw call xs)) (hg : Gl X "zip" := by rfl)
    (hs : starEach [e, a] X.env = (false, eval e X.env) :: starEach [a] X.env := by rfl) (hpl : (backTo pos (starEach [a] X.env)).any (·.1) = false := by rfl) :
    PI X (.Tuple elts kk tpos) (.Call (.Name "zip" p) [e, a] [] pos) (iEv X.kw call .zip xs) := i_zip hg hm ha hs hpl
theorem w_zip3 {elts : List Expr} {kk : Nat} {tpos : Pos} (hm : X.mg "zip" = none) (ha : PA X [e, a, b] (tEvs X.kw call xs)) (hg : Gl X "zip" := by rfl)
    (hs : starEach [e, a, b] X.env = (false, eval e X.env) :: starEach [a, b] X.env := by rfl) (hpl : (backTo pos (starEach [a, b] X.env)).any (·.1) = false := by rfl) :
    PI X (.Tuple elts kk tpos) (.Call (.Name "zip" p) [e, a, b] [] pos) (iEv X.kw call .zip3 xs) := i_zip3 hg hm ha hs hpl
/-! targets -/
theorem g_nm (i : Nat) (hnd : X.N.Nodup) (hi : X.N[i]? = some y := by rfl) (hx : Loc X.env.scope y := by first | exact Or.inl rfl | exact Or.inr rfl) (hf : X.fn y = true ∨ X.env.scope.names.lookup y = some .local := by first | exact .inl rfl | exact .inr rfl) : PG X (.Name y p) (gT X.kw (.nm i)) := pg_name hnd hi hx hf
theorem gs_nil : PGs X [] (gNames []) := pgs_nil
theorem gs_cons {is : List Nat} {es : List Expr} (i : Nat) (hnd : X.N.Nodup) (h2 : PGs X es (gNames is)) (hi : X.N[i]? = some y := by rfl) (hx : Loc X.env.scope y := by first | exact Or.inl rfl | exact Or.inr rfl) (hf : X.fn y = true ∨ X.env.scope.names.lookup y = some .local := by first | exact .inl rfl | exact .inr rfl)
    (hs : (assignEach (.Name y p :: es) X.env).map (·.2) = assign (.Name y p) X.env :: (assignEach es X.env).map (·.2) := by rfl) : PGs X (.Name y p :: es) (gNames (i :: is)) := pgs_cons (pg_name hnd hi hx hf) h2 hs
theorem g_tup {is : List Nat} {es : List Expr} {k : Nat} (h : PGs X es (gNames is)) (hc : X.calm = true := by rfl) (hn : (assignEach es X.env).length = is.length := by rfl) (hst : (assignEach es X.env).findIdx? (·.1) = none := by rfl) : PG X (.Tuple es k pos) (gT X.kw (.tup is)) := pg_tup hc h hn hst
/-! comprehensions -/
theorem e_lc {elt iter : Expr} {ifs : List Expr} {scope : Scope} (own : List (Str × Nat)) {tgt : Tg} {k : IK} {its xifs : List PV.X} (hnd : X.N.Nodup) (ok : blkC X.N X.env.scope scope own = true) (hi : PI X tg iter (iEv X.kw call k its))
    (hg : ∀ (s : Shared) (H : Hp) (C : Addr) (cl : List (Str × Addr)) (fp : List Addr), PG (X.blk s H scope (compEnvC scope cl C X.env) fp) tg (gT X.kw tgt)) (ht : ∀ (s : Shared) (H : Hp) (C : Addr) (cl : List (Str × Addr)) (fp : List Addr), PTs (X.blk s H scope (compEnvC scope cl C X.env) fp) ifs (tIfs X.kw call xifs))
    (he : ∀ (s : Shared) (H : Hp) (C : Addr) (cl : List (Str × Addr)) (fp : List Addr), PE (X.blk s H scope (compEnvC scope cl C X.env) fp) elt (tEv X.kw call xe)) (hc : X.calm = true := by rfl) (htg : ∀ i ∈ tgOf tgt, i ∈ own.map (·.2) := by decide) (hn : tgNew (newK k) tgt = true := by rfl) (hs : ∀ x, foldedSetIterable iter X.env x = pure x := by intro _; rfl) :
    PE X (.ListComp elt [⟨tg, iter, ifs, 0⟩] scope pos) (tEv X.kw call (.lc xe tgt k its xifs (own.map (·.2)))) := s_lc hc hnd hi (blkOk_by ok) rfl hg ht he htg hn hs
theorem e_lc2 {elt iter tg1 iter1 : Expr} {ifs ifs1 : List Expr} {scope : Scope} (own : List (Str × Nat)) (own1 : List Nat) {tgt tgt1 : Tg} {k k1 : IK} {its xifs its1 xifs1 : List PV.X} (hnd : X.N.Nodup) (ok : blkC X.N X.env.scope scope own = true) (hi : PI X tg iter (iEv X.kw call k its))
    (hg : ∀ (s : Shared) (H : Hp) (C : Addr) (cl : List (Str × Addr)) (fp : List Addr), PG (X.blk s H scope (compEnvC scope cl C X.env) fp) tg (gT X.kw tgt)) (ht : ∀ (s : Shared) (H : Hp) (C : Addr) (cl : List (Str × Addr)) (fp : List Addr), PTs (X.blk s H scope (compEnvC scope cl C X.env) fp) ifs (tIfs X.kw call xifs))
    (hi1 : ∀ (s : Shared) (H : Hp) (C : Addr) (cl : List (Str × Addr)) (fp : List Addr), PI (X.blk s H scope (compEnvC scope cl C X.env) fp) tg1 iter1 (iEv X.kw call k1 its1))
    (hg1 : ∀ (s : Shared) (H : Hp) (C : Addr) (cl : List (Str × Addr)) (fp : List Addr), PG (X.blk s H scope (compEnvC scope cl C X.env) fp) tg1 (gT X.kw tgt1)) (ht1 : ∀ (s : Shared) (H : Hp) (C : Addr) (cl : List (Str × Addr)) (fp : List Addr), PTs (X.blk s H scope (compEnvC scope cl C X.env) fp) ifs1 (tIfs X.kw call xifs1))
    (he : ∀ (s : Shared) (H : Hp) (C : Addr) (cl : List (Str × Addr)) (fp : List Addr), PE (X.blk s H scope (compEnvC scope cl C X.env) fp) elt (tEv X.kw call xe)) (hc : X.calm = true := by rfl) (htg : ∀ i ∈ tgOf tgt, i ∈ own.map (·.2) := by decide) (hn : tgNew (newK k) tgt = true := by rfl) (htg1 : ∀ i ∈ tgOf tgt1, i ∈ own1 := by decide) (hn1 : tgNew (newK k1) tgt1 = true := by rfl)
    (hv : ∀ i ∈ own1, i ∈ own.map (·.2) := by decide) (hs : ∀ x, foldedSetIterable iter X.env x = pure x := by intro _; rfl) (hs1 : ∀ env x, foldedSetIterable iter1 env x = pure x := by intro _ _; rfl) :
    PE X (.ListComp elt [⟨tg, iter, ifs, 0⟩, ⟨tg1, iter1, ifs1, 0⟩] scope pos) (tEv X.kw call (.lc2 xe tgt k its xifs tgt1 k1 its1 xifs1 (own.map (·.2)) own1)) := s_lc2 hc hnd hi (blkOk_by ok) rfl hv hg ht hi1 hg1 ht1 he htg hn htg1 hn1 hs hs1

/-! statements -/
section
variable {st : Stmt} {body orelse : List Stmt} {ss sb : List S} {tgt : Tg} {es : List Expr}
theorem d_ret (he : PE X e (tEv X.kw call x)) (hx : isVar x = false := by rfl) : PS X (.Return (some e) pos) (tS X.kw call (.ret x)) := st_ret he fun i z => by subst z; cases hx
theorem d_retV (i : Nat) (hN : X.N[i]? = some y := by rfl) (hv : Vis X.env.scope y := by first | exact Or.inl rfl | exact Or.inr (Or.inl rfl) | exact Or.inr (Or.inr rfl)) (hd : (y == ("__debug__" : Str)) = false := by decide +kernel)
    (hcd : (y == ("__classdict__" : Str)) = false := by decide +kernel) : PS X (.Return (some (.Name y p)) pos) (tS X.kw call (.ret (.var i))) := st_ret (s_var (pe_var hN hv hd hcd)) fun j z => by cases z; exact pe_var hN hv hd hcd
theorem d_exp (he : PE X e (tEv X.kw call x)) (hs : swapsWith e none pos.line X.env = pure false := by rfl) : PS X (.Expr e pos) (tS X.kw call (.exp x)) := st_exp he hs
theorem d_asg (i : Nat) (hnd : X.N.Nodup) (he : PE X e (tEv X.kw call x)) (hi : X.N[i]? = some y := by rfl) (hx : Loc X.env.scope y := by first | exact Or.inl rfl | exact Or.inr rfl) (hs : swapsWith e (some (.Name y pos')) pos.line X.env = pure false := by rfl) (hf : X.fn y = true ∨ X.env.scope.names.lookup y = some .local := by first | exact .inl rfl | exact .inr rfl) :
    PS X (.Assign [.Name y pos'] e pos) (tS X.kw call (.asg (.nm i) x)) := st_asg hnd hi hx he hs hf
theorem d_asgT {is : List Nat} (he : PE X e (tEv X.kw call x)) (hg : PG X tg (gT X.kw (.tup is))) (hs : swapsWithSole [tg] e pos.line X.env = pure false := by rfl) (hw : swappedStores [tg] e X.env = pure none := by rfl) (h1 : (assignEach [tg] X.env).map (·.2) = [assign tg X.env] := by rfl) :
    PS X (.Assign [tg] e pos) (tS X.kw call (.asg (.tup is) x)) := st_asgT he hg ⟨is, rfl⟩ hs hw h1
theorem d_asgLc (i : Nat) {elt iter : Expr} {ifs : List Expr} {scope : Scope} (own : List (Str × Nat)) {k : IK} {its xifs : List PV.X} (hnd : X.N.Nodup) (ok : blkC X.N X.env.scope scope own = true) (hi : PI X tg iter (iEv X.kw call k its))
    (hg : ∀ (s : Shared) (H : Hp) (C : Addr) (cl : List (Str × Addr)) (fp : List Addr), PG (X.blk s H scope (compEnvC scope cl C X.env) fp) tg (gT X.kw tgt)) (ht : ∀ (s : Shared) (H : Hp) (C : Addr) (cl : List (Str × Addr)) (fp : List Addr), PTs (X.blk s H scope (compEnvC scope cl C X.env) fp) ifs (tIfs X.kw call xifs))
    (he : ∀ (s : Shared) (H : Hp) (C : Addr) (cl : List (Str × Addr)) (fp : List Addr), PE (X.blk s H scope (compEnvC scope cl C X.env) fp) elt (tEv X.kw call xe)) (hc : X.calm = true := by rfl) (hy : X.N[i]? = some y := by rfl) (hyl : X.env.scope.names.lookup y = some .local := by rfl)
    (hsw : swapsWith (.ListComp elt [⟨tg, iter, ifs, 0⟩] scope pos) (some (.Name y p)) pos'.line X.env = pure true := by rfl)
    (htg : ∀ i ∈ tgOf tgt, i ∈ own.map (·.2) := by decide) (hn : tgNew (newK k) tgt = true := by rfl) (hs : ∀ x, foldedSetIterable iter X.env x = pure x := by intro _; rfl) :
    PS X (.Assign [.Name y p] (.ListComp elt [⟨tg, iter, ifs, 0⟩] scope pos) pos') (tS X.kw call (.asg (.nm i) (.lc xe tgt k its xifs (own.map (·.2))))) := st_asgLc hc hnd hy hyl hsw hi (blkOk_by ok) rfl hg ht he htg hn hs
theorem d_asgLc2 (i : Nat) {elt iter tg1 iter1 : Expr} {ifs ifs1 : List Expr} {scope : Scope} (own : List (Str × Nat)) (own1 : List Nat) {tgt1 : Tg} {k k1 : IK} {its xifs its1 xifs1 : List PV.X} (hnd : X.N.Nodup) (ok : blkC X.N X.env.scope scope own = true) (hi : PI X tg iter (iEv X.kw call k its))
    (hg : ∀ (s : Shared) (H : Hp) (C : Addr) (cl : List (Str × Addr)) (fp : List Addr), PG (X.blk s H scope (compEnvC scope cl C X.env) fp) tg (gT X.kw tgt)) (ht : ∀ (s : Shared) (H : Hp) (C : Addr) (cl : List (Str × Addr)) (fp : List Addr), PTs (X.blk s H scope (compEnvC scope cl C X.env) fp) ifs (tIfs X.kw call xifs))
    (hi1 : ∀ (s : Shared) (H : Hp) (C : Addr) (cl : List (Str × Addr)) (fp : List Addr), PI (X.blk s H scope (compEnvC scope cl C X.env) fp) tg1 iter1 (iEv X.kw call k1 its1))
    (hg1 : ∀ (s : Shared) (H : Hp) (C : Addr) (cl : List (Str × Addr)) (fp : List Addr), PG (X.blk s H scope (compEnvC scope cl C X.env) fp) tg1 (gT X.kw tgt1)) (ht1 : ∀ (s : Shared) (H : Hp) (C : Addr) (cl : List (Str × Addr)) (fp : List Addr), PTs (X.blk s H scope (compEnvC scope cl C X.env) fp) ifs1 (tIfs X.kw call xifs1))
    (he : ∀ (s : Shared) (H : Hp) (C : Addr) (cl : List (Str × Addr)) (fp : List Addr), PE (X.blk s H scope (compEnvC scope cl C X.env) fp) elt (tEv X.kw call xe)) (hc : X.calm = true := by rfl) (hy : X.N[i]? = some y := by rfl) (hyl : X.env.scope.names.lookup y = some .local := by rfl)
    (hsw : swapsWith (.ListComp elt [⟨tg, iter, ifs, 0⟩, ⟨tg1, iter1, ifs1, 0⟩] scope pos) (some (.Name y p)) pos'.line X.env = pure true := by rfl)
    (htg : ∀ i ∈ tgOf tgt, i ∈ own.map (·.2) := by decide) (hn : tgNew (newK k) tgt = true := by rfl) (htg1 : ∀ i ∈ tgOf tgt1, i ∈ own1 := by decide) (hn1 : tgNew (newK k1) tgt1 = true := by rfl)
    (hv : ∀ i ∈ own1, i ∈ own.map (·.2) := by decide) (hs : ∀ x, foldedSetIterable iter X.env x = pure x := by intro _; rfl) (hs1 : ∀ env x, foldedSetIterable iter1 env x = pure x := by intro _ _; rfl) :
    PS X (.Assign [.Name y p] (.ListComp elt [⟨tg, iter, ifs, 0⟩, ⟨tg1, iter1, ifs1, 0⟩] scope pos) pos') (tS X.kw call (.asg (.nm i) (.lc2 xe tgt k its xifs tgt1 k1 its1 xifs1 (own.map (·.2)) own1))) := st_asgLc2 hc hnd hy hyl hsw hi (blkOk_by ok) rfl hv hg ht hi1 hg1 ht1 he htg hn htg1 hn1 hs hs1
theorem d_par2 (i j : Nat) {x y : Str} {px py pt : Pos} {kt k2 pt2} (hnd : X.N.Nodup) (ha : PA X [a, b] (tRs X.kw call xs)) (hc : X.calm = true := by rfl) (hi : X.N[i]? = some x := by rfl) (hj : X.N[j]? = some y := by rfl) (hij : i ≠ j := by decide)
    (hx : X.env.scope.names.lookup x = some .local := by rfl) (hy : X.env.scope.names.lookup y = some .local := by rfl)
    (hw : swappedStores [.Tuple [.Name x px, .Name y py] kt pt] (.Tuple [a, b] k2 pt2) X.env = pure (some [x, y]) := by rfl)
    (hs : swapsWithSole [.Tuple [.Name x px, .Name y py] kt pt] (.Tuple [a, b] k2 pt2) pos.line X.env = pure false := by rfl) :
    PS X (.Assign [.Tuple [.Name x px, .Name y py] kt pt] (.Tuple [a, b] k2 pt2) pos) (tS X.kw call (.par [i, j] xs)) := st_par2 hc hnd hi hj hij hx hy ha hw hs
theorem d_par3 (i j m : Nat) {x y z : Str} {px py pz pt : Pos} {kt k2 pt2} (hnd : X.N.Nodup) (ha : PA X [a, b, c] (tRs X.kw call xs)) (hc : X.calm = true := by rfl) (hi : X.N[i]? = some x := by rfl) (hj : X.N[j]? = some y := by rfl) (hl : X.N[m]? = some z := by rfl) (hij : i ≠ j := by decide) (hil : i ≠ m := by decide) (hjl : j ≠ m := by decide)
    (hx : X.env.scope.names.lookup x = some .local := by rfl) (hy : X.env.scope.names.lookup y = some .local := by rfl) (hz : X.env.scope.names.lookup z = some .local := by rfl)
    (hw : swappedStores [.Tuple [.Name x px, .Name y py, .Name z pz] kt pt] (.Tuple [a, b, c] k2 pt2) X.env = pure (some [x, y, z]) := by rfl)
    (hs : swapsWithSole [.Tuple [.Name x px, .Name y py, .Name z pz] kt pt] (.Tuple [a, b, c] k2 pt2) pos.line X.env = pure false := by rfl) :
    PS X (.Assign [.Tuple [.Name x px, .Name y py, .Name z pz] kt pt] (.Tuple [a, b, c] k2 pt2) pos) (tS X.kw call (.par [i, j, m] xs)) := st_par3 hc hnd hi hj hl hij hil hjl hx hy hz ha hw hs
theorem d_parN {is : List Nat} {k2 pt2} (ha : PA X es (tRs X.kw call xs)) (hg : PG X tg (gT X.kw (.tup is))) (hl : is.length ≤ 1000 := by decide) (hs : swapsWithSole [tg] (.Tuple es k2 pt2) pos.line X.env = pure false := by rfl) (hw : swappedStores [tg] (.Tuple es k2 pt2) X.env = pure none := by rfl) (h1 : (assignEach [tg] X.env).map (·.2) = [assign tg X.env] := by rfl) :
    PS X (.Assign [tg] (.Tuple es k2 pt2) pos) (tS X.kw call (.par is xs)) := st_parN ha hg hl hs hw h1
theorem d_set {n : Nat} (i : Nat) {k : Expr} {xk : PV.X} (r : Room n X.A) (hk : PE X k (tEv X.kw call xk)) (he : PE X e (tEv X.kw call x)) (hN : X.N[i]? = some y := by rfl) (hv : Vis X.env.scope y := by first | exact Or.inl rfl | exact Or.inr (Or.inl rfl) | exact Or.inr (Or.inr rfl)) (hd : (y == ("__debug__" : Str)) = false := by decide +kernel)
    (hcd : (y == ("__classdict__" : Str)) = false := by decide +kernel) (hs : swapsWith e (some (.Subscript (.Name y p) k pos')) pos.line X.env = pure false := by rfl) :
    PS X (.Assign [.Subscript (.Name y p) k pos'] e pos) (tS X.kw call (.set i xk x)) := st_set (hu65 r) (pe_var hN hv hd hcd) hk he hs
theorem d_app (i : Nat) {apos cpos : Pos} (he : PE X e (tEv X.kw call x)) (hN : X.N[i]? = some y := by rfl) (hv : Vis X.env.scope y := by first | exact Or.inl rfl | exact Or.inr (Or.inl rfl) | exact Or.inr (Or.inr rfl)) (hd : (y == ("__debug__" : Str)) = false := by decide +kernel)
    (hcd : (y == ("__classdict__" : Str)) = false := by decide +kernel) (m1 : attributeBase (.Name y p) "append" X.env (eval (.Name y p) X.env) = eval (.Name y p) X.env := by rfl)
    (m2 : ((backTo cpos (starEach [e] X.env)).all (fun x => !x.1) && (backToKw cpos (keywordEach [] X.env)).all (fun x => x.1.isSome)
      && decide ([e].length + ([] : List Keyword).length + (if ([] : List Keyword).isEmpty then 0 else 1) < 30)) = true := by rfl)
    (m3 : (apos.endLine == cpos.line) = true := by rfl) (hs : starEach [e] X.env = (false, eval e X.env) :: starEach [] X.env := by rfl) (hsw : swapsWith (.Call (.Attribute (.Name y p) "append" apos) [e] [] cpos) none pos.line X.env = pure false := by rfl) :
    PS X (.Expr (.Call (.Attribute (.Name y p) "append" apos) [e] [] cpos) pos) (tS X.kw call (.app i x)) := st_app (pe_var hN hv hd hcd) ⟨m1, m2, m3⟩ he hs hsw
theorem d_for {iter : Expr} {k : IK} {its : List PV.X} {kill : List Nat} (hi : PI X tg iter (iEv X.kw call k its)) (hg : PG X tg (gT X.kw tgt)) (hb : PSs X body (tSs X.kw call sb)) (hn : tgNew (newK k) tgt = true := by rfl) (hp : PassesOwn (model X.prog X.w) X.A X.env X.xe := by exact PassesOwn.never) (hc : X.calm = true := by rfl)
    (hs : ∀ x, foldedSetIterable iter X.env x = pure x := by intro _; rfl) : PS X (.For tg iter body [] pos) (tS X.kw call (.for tgt k its sb kill)) := st_for hp hc hi hg hn hb hs
theorem d_whl {kill : List Nat} (hc : PT X c (tT X.kw call xc)) (hb : PSs X body (tSs X.kw call sb)) (hp : PassesOwn (model X.prog X.w) X.A X.env X.xe := by exact PassesOwn.never) : PS X (.While c body [] pos) (tS X.kw call (.whl xc sb kill)) := st_whl hp hc hb
end
end
end PV

set_option Elab.async false
set_option linter.all false
set_option maxRecDepth 100000
set_option maxHeartbeats 1000000
/-! PV: all defs at all levels; the law's promise. -/
namespace PV
open PySem L2 PyProof.Rows
section
variable {P : Program} {K : KW} {mg : Str → Option Value} {base : Heap} {fs : List Fn} {nm : Str} {st : Stmt} {ps N : List Str} {dfl : List D} {i k : Nat} {fn : Fn}
theorem call_zero (h : DefAt K mg nm st ps dfl) : CallOk P K mg base fs nm i ps dfl 0 := by
  obtain ⟨fa, fd, ds, dvs, h1, h2, h3, h4, h5⟩ := h
  refine ⟨fa, fd, ds, dvs, h1, h2.kp, h3, h4, h5, ⟨fun vs H Q E h => h.1, fun A outer s H args us vs Q E _ _ _ _ h => ?_⟩⟩
  obtain ⟨_, _, _, _, _, _, h, _⟩ := h
  simp only [callN] at h
  cases h
theorem call_stub {n m : Nat} (h : DefAt K mg nm st ps dfl) (hfs : fs[i]? = some ⟨n, m, [.never]⟩) : CallOk P K mg base fs nm i ps dfl k := by
  obtain ⟨fa, fd, ds, dvs, h1, h2, h3, h4, h5⟩ := h
  refine ⟨fa, fd, ds, dvs, h1, h2.kp, h3, h4, h5, ⟨fun vs H Q E h => h.1, fun A outer s H args us vs Q E _ _ _ _ h => ?_⟩⟩
  obtain ⟨_, _, _, _, _, _, h, _⟩ := h
  cases k with
  | zero => simp only [callN] at h; cases h
  | succ k =>
    simp only [callN, hfs] at h
    obtain ⟨_, fl, ρ, h2, _⟩ := runF_of h
    simp only [evSs, evS] at h2
    cases h2
theorem call_succ (h : DefAt K mg nm st ps dfl) (S : FnScope N ps (defScope st))
    (hb : ∀ {f : Addr} {cdv : Value} {A : Around} {outer : List Env} {s : Shared} {H : Hp} {E : XK}, Room k (A.deeper (envOfC nm (defScope st) s.heap.objs.size f cdv)) →
      PSs (cxOf CX0 P K.w K.fr mg base N nm (defScope st) f cdv A outer s H E).nox (defBody st) (tSs K (callN fs k) fn.body)) (hfs : fs[i]? = some fn := by rfl) (hp : fn.np = ps.length := by rfl) (hN : fn.nn = N.length := by rfl) (hle : ps.length ≤ N.length := by decide) :
    CallOk P K mg base fs nm i ps dfl (k + 1) := by
  obtain ⟨fa, fd, ds, dvs, h1, h2, h3, h4, h5⟩ := h
  exact ⟨fa, fd, ds, dvs, h1, h2.kp, h3, h4, h5, fn_ok h2 S hfs hp hN hle rfl fun cdv A outer s H E r => hb r⟩
def spLaw (K : KW) : Sp := fun vs H Q _ => ∃ (a : Addr) (ns : List Int), vs = [.ref a] ∧ ns.length ≤ 63 ∧ Only H ∧ SqL K H a (ns.map V.int) ∧ ∀ H', Q (.bl true) H'
theorem only_sq {H : Hp} {a : Addr} {xs : List V} (h : Only H) (q : SqL K H a xs) : SqS K H a xs := by
  rcases q with (q | ⟨o, q⟩) | q
  · rcases h a with z | ⟨o, ys, z⟩
    · rw [z] at q; cases q
    · rw [z] at q; cases q
  · exact .inl ⟨o, q⟩
  · exact .inr q
theorem law_sp {fa : Addr} {fd : FuncData} (F : FnOk P K.w K.fr mg base CX0 k fa fd ["script"] (spEv K (callN fs k) i 1)) (hp : ∀ ns : List Int, ns.length ≤ 63 → ∃ w ss, callN fs k i [(.dict (scrD ns), false)] = some (.bool true, w, ss)) : FnOk P K.w K.fr mg base CX0 k fa fd ["script"] (spLaw K) := by
  refine F.imp fun vs H Q E h => ?_
  obtain ⟨a, ns, rfl, hl, hO, hS, kk⟩ := h
  obtain ⟨w', ss, he⟩ := hp ns hl
  refine ⟨rfl, H, [(.dict (scrD ns), false)], _, w', ss, he, ⟨Sub.refl H, rfl, fun j s d h1 h2 => ?_, fun j s d h1 h2 => ?_, fun i j s t d d2 b h1 h2 h3 h4 h5 h6 => ?_⟩, fun F' H' v l r => ?_⟩
  · cases j with
    | zero =>
      cases h1
      cases h2
      refine ⟨_, rfl, ?_⟩
      simp only [Rep]
      exact .inr (.inr ⟨a, ns, rfl, rfl, only_sq hO hS⟩)
    | succ j => simp at h1
  · cases j with
    | zero => cases h1; cases h2
    | succ j => simp at h1
  · cases i with
    | zero => cases h1; cases h3
    | succ j => simp at h1
  · unfold Res at r
    split at r
    · obtain ⟨b, _, h2, _⟩ := r
      exact absurd h2 (by simp only [Obj]; exact id)
    · simp only [Rep] at r
      subst r
      exact kk H'
theorem law_fn {i : Nat} {fa : Addr} (hfa : mg "law" = some (.ref fa)) (h : DefAt K mg "law" st ["script"] []) (S : FnScope N ["script"] (defScope st))
    (hbind : ∀ (kV doc pm : Value) (an : Option Addr) (cdv ct : Value) (s : Shared) (u : Value), BindsTo s (PySem.W.fnOf "law" "law" (defArgs st) (defBody st) (defScope st) .none kV doc pm an cdv ct) ⟨[u], []⟩ [("script", u)])
    (hb : ∀ {base : Heap} {f : Addr} {cdv : Value} {A : Around} {outer : List Env} {s : Shared} {H : Hp} {E : XK}, Room k (A.deeper (envOfC "law" (defScope st) s.heap.objs.size f cdv)) →
      PSs (cxOf CX0 P K.w K.fr mg base N "law" (defScope st) f cdv A outer s H E).nox (defBody st) (tSs K (callN fs k) fn.body)) (hfs : fs[i]? = some fn) (hp : fn.np = 1) (hN : fn.nn = N.length) (hle : 1 ≤ N.length)
    (hlaw : ∀ ns : List Int, ns.length ≤ 63 → ∃ w ss, callN fs (k + 1) i [(.dict (scrD ns), false)] = some (.bool true, w, ss)) :
    ∃ fd : FuncData, (∀ (s : Shared) (u : Value), BindsTo s fd ⟨[u], []⟩ [("script", u)]) ∧ ∀ base : Heap, FnOk P K.w K.fr mg base CX0 (k + 1) fa fd ["script"] (spLaw K) := by
  obtain ⟨fa', fd, ds, dvs, h1, h2, h3, h4, h5⟩ := h
  rw [hfa] at h1
  cases h1
  refine ⟨fd, ?_, fun base => law_sp (fn_ok h2 S hfs hp hN hle rfl fun cdv A outer s H E r => hb r) hlaw⟩
  obtain ⟨oc, od, kV, doc, pm, an, cdv, ct, osl, rfl, lk, hcd⟩ := h2.ex
  exact fun s u => hbind kV doc pm an cdv ct s u
theorem walk {l : PySem.W.OpenLaw} {q : Program} {loose : List Str} {XP : (Str → Option Value) → Heap → Prop} {YP : World → Heap → Prop} {d : DefRec} {K : Params → PySem.W.Frag} {k : Nat} (hk : Room k callerA) (hn : l.most = some 63) (hdf : d.params.defaults = [])
    (hY : ∀ (w : World) (h : Heap), YP w h → (K w.params).In h)
    (F : ∀ (w : World) (mg : Str → Option Value) (fa : Addr) (h : Heap), (K w.params).In h → h.Ns mainGlobals mg → mg d.name = some (.ref fa) →
      ∃ fd : FuncData, (∀ (s : Shared) (u : Value), BindsTo s fd ⟨[u], []⟩ [("script", u)]) ∧ ∀ base : Heap, FnOk l.prog w (K w.params) mg base CX0 k fa fd ["script"] (spLaw ⟨K w.params, w⟩)) :
    PySem.W.WalkO q loose XP YP l.row.toRowW d [] (fun f vs => PySem.call f vs) :=
  L2.walk_of (n := 63) (k := k) (x := "script") (CX := fun _ => CX0) (sp := fun w => spLaw ⟨K w.params, w⟩) hn (by decide) hdf hk hY (fun w mg fa h h1 h2 h3 => by
    obtain ⟨fd, z1, z2⟩ := F w mg fa h h1 h2 h3
    exact ⟨fd, z1, fun base _ _ => z2 base⟩) (fun _ _ a ns hl hO hS => ⟨a, ns, rfl, hl, hO, hS, fun _ => rfl⟩) fun _ _ _ _ _ z => z
/-! facts of the heap behind the top -/
theorem def_at {h : Heap} {f : Addr} {oc : Value} {od an : Option Addr} {osl : Array (Option Value)} {kV doc pm cdv ct : Value} (X : K.fr.In h) (G : h.Ns mainGlobals mg) (a : PySem.W.nsIn K mainGlobals nm = some (some (.ref f)))
    (l : K.fr.lookup f = some ⟨oc, od, .func (PySem.W.fnOf nm nm (defArgs st) (defBody st) (defScope st) .none kV doc pm an cdv ct), osl⟩) (c : PySem.W.codeIn K cdv nm = true) (k : PySem.W.keepIn K (.ref f) = true)
    (hb : ∀ (kV doc pm : Value) (an : Option Addr) (cdv ct : Value) (us : List Value), us.length = ps.length → bindArgs (PySem.W.fnOf nm nm (defArgs st) (defBody st) (defScope st) .none kV doc pm an cdv ct) ⟨us, []⟩ = pure (ps.zip us)) : DefAt K mg nm st ps [] := by
  have F := fun_mk (st := st) l c k
  exact ⟨f, _, [], [], PySem.W.mg_of X G a, F, F.binds hb, .nil, RepL.nil⟩
theorem cst_str {h : Heap} {x : Str} {z : Str} {t : Tok} (X : K.fr.In h) (G : h.Ns mainGlobals mg) (a : PySem.W.nsIn K mainGlobals x = some (some (.str z t))) : CstAt K mg x (.str z) := ⟨_, .str z, PySem.W.mg_of X G a, ⟨t, rfl⟩, rep_str⟩
theorem cst_int {h : Heap} {x : Str} {z : Int} {t : Tok} (X : K.fr.In h) (G : h.Ns mainGlobals mg) (a : PySem.W.nsIn K mainGlobals x = some (some (.int z t))) : CstAt K mg x (.int z) := ⟨_, .int z, PySem.W.mg_of X G a, ⟨t, rfl⟩, rep_int⟩
/-- items of a constant tuple -/
def CstL (K : KW) : List D → List Value → Prop
  | [], us => us = []
  | d :: ds, us => ∃ u r v, us = u :: r ∧ RelV v u ∧ Rep K (fun _ => none) d v ∧ CstL K ds r
theorem CstL.vals : ∀ {ds : List D} {us : List Value}, CstL K ds us → ∃ vs, Vals vs us ∧ RepL K (fun _ => none) ds vs
  | [], us, h => by
    have h : us = [] := h
    subst h
    exact ⟨[], .nil, RepL.nil⟩
  | d :: ds, us, h => by
    obtain ⟨u, r, v, rfl, h1, h2, h3⟩ := h
    obtain ⟨vs, h4, h5⟩ := CstL.vals h3
    exact ⟨v :: vs, .cons h1 h4, RepL.cons h2 h5⟩
theorem cst_tup {h : Heap} {x : Str} {p : Addr} {its : Array Value} {n : Nat} {sl : Array (Option Value)} {ds : List D} (X : K.fr.In h) (G : h.Ns mainGlobals mg) (a : PySem.W.nsIn K mainGlobals x = some (some (.ref p)))
    (l : K.fr.lookup p = some ⟨.type "tuple", none, .seq its n, sl⟩) (hz : its.size ≤ 1000) (hL : CstL K ds its.toList) : CstAt K mg x (.tuple ds) := by
  obtain ⟨vs, h1, h2⟩ := hL.vals
  refine ⟨_, .ref p, PySem.W.mg_of X G a, rfl, rep_tup (.inr ⟨_, its, n, l, rfl, rfl, rfl, Nat.le_trans hz (by decide), h1⟩) h2⟩
theorem cstL_str {z : Str} {t : Tok} {ds : List D} {us : List Value} (h : CstL K ds us) : CstL K (.str z :: ds) (.str z t :: us) := ⟨_, _, .str z, rfl, ⟨t, rfl⟩, rep_str, h⟩
theorem cstL_nil : CstL K [] [] := rfl
end
end PV

set_option Elab.async false
set_option linter.all false
set_option maxRecDepth 100000
set_option maxHeartbeats 1000000
/-! PV: t[::-1]. -/
namespace PV
open PySem L2 PyProof.Rows HT
section
variable {prog : Program} {w : World} {A : Around} {E : Value → Shared → Prop} {s : Shared}
theorem sliceApplied_rev {sl : Addr} {vs : Value} {n : Nat} {Q : Int × Int × Nat → Shared → Prop} (hs : s.heap.IsSliceOf sl .none .none vs) (ps : IsPart vs (some (-1)))
    (h : Q ((n : Int) - 1, -1, n) s) : wpAny (model prog w) A (Builtin.Slice.sliceApplied (.ref sl) (pure (n : Int))) Q E s := by
  obtain ⟨os, hos, hcs, hds⟩ := id hs
  unfold Builtin.Slice.sliceApplied Builtin.Slice.sliceFields
  refine wpAny_bind (wpAny_bind (wpAny_field hos hds (x := .none) rfl (wpAny_bind (wpAny_field hos hds (x := .none) rfl (wpAny_bind (wpAny_field hos hds (x := vs) rfl (wpAny_pure ?_)))))))
  refine wpAny_bind (slicePart_ ps ?_)
  show wpAny _ _ (if ((-1 : Int) == 0) = true then _ else _) _ _ s
  rw [if_neg (by decide)]
  refine wpAny_bind (slicePart_none (wpAny_bind (slicePart_none (wpAny_bind (wpAny_pure ?_)))))
  have e : Builtin.Slice.sliceAdjust none none (-1) (n : Int) = ((n : Int) - 1, -1) := rfl
  show wpAny _ _ (match Builtin.Slice.sliceAdjust none none (-1) (n : Int) with | (lo, hi) => pure (lo, (-1 : Int), Builtin.Slice.slicePlaces lo hi (-1))) _ _ s
  rw [e]
  have e2 : Builtin.Slice.slicePlaces ((n : Int) - 1) (-1) (-1) = n := by
    unfold Builtin.Slice.slicePlaces
    have h1 : ¬ ((-1 : Int) > 0) := by decide
    simp only [h1, if_false]
    split
    · have : ((n : Int) - 1 - -1 - -1 - 1) / (- -1) = (n : Int) := by rw [show (- -1 : Int) = 1 by decide, Int.ediv_one]; omega
      first | omega | (simp [this]) 
    · omega
  show wpAny _ _ (pure ((n : Int) - 1, (-1 : Int), Builtin.Slice.slicePlaces ((n : Int) - 1) (-1) (-1))) _ _ s
  rw [e2]
  exact wpAny_pure h
theorem fm_congr {α β : Type} {f g : α → Option β} : ∀ {l : List α}, (∀ x ∈ l, f x = g x) → l.filterMap f = l.filterMap g
  | [], _ => rfl
  | x :: l, h => by rw [List.filterMap_cons, List.filterMap_cons, h x List.mem_cons_self, fm_congr fun y hy => h y (List.mem_cons_of_mem _ hy)]
theorem pick_rev (xs : Array Value) : ((List.range xs.size).filterMap fun (m : Nat) => xs[((xs.size : Int) - 1 + (m : Int) * (-1)).toNat]?).toArray = xs.toList.reverse.toArray := by
  have e : ((List.range xs.size).filterMap fun (m : Nat) => xs[((xs.size : Int) - 1 + (m : Int) * (-1)).toNat]?) = ((List.range xs.size).map fun k => xs.size - 1 - k).filterMap (xs[·]?) := by
    rw [List.filterMap_map]
    refine fm_congr fun m hm => ?_
    have := List.mem_range.mp hm
    show xs[((xs.size : Int) - 1 + (m : Int) * (-1)).toNat]? = xs[xs.size - 1 - m]?
    congr 1
    omega
  rw [e, PySem.W.krv_range, List.filterMap_reverse, PySem.W.krv_all]
theorem getItem_tuple_rev {t sl : Addr} {items : Array Value} {vs : Value} {Q : Value → Shared → Prop} (ht : IsTup s.heap t items) (hs : s.heap.IsSliceOf sl .none .none vs) (ps : IsPart vs (some (-1)))
    (h : Q (.ref s.heap.objs.size) { s with heap := s.heap.push { cls := .type "tuple", data := .seq items.toList.reverse.toArray } })
    (hsz : items.size ≤ sizeLine) : wpAny (model prog w) A (getItem (.ref t) (.ref sl)) Q E s := by
  have htake : sizeOk (.seq items.toList.reverse.toArray) := by
    show items.toList.reverse.toArray.size ≤ sizeLine
    rw [List.size_toArray, List.length_reverse, Array.length_toList]
    omega
  obtain ⟨os, hos, hcs, hds⟩ := id hs
  have hTs : s.TypeIs (.ref sl) "slice" := ⟨os, hos, hcs⟩
  unfold getItem
  try with_reducible refine wpAny_holding ?_
  first | refine wpAny_bind (wpAny_pure ?_) | skip
  refine wpAny_bind (wpAny_sequenceKey ht.typeIs (by decide) ?_)
  refine wpAny_bind (wpAny_callSpecial?_slot (name := Str.ofString "__getitem__") ht.typeIs PyProof.Rows.slot_tuple_getitem
    (wpAny_call_entry PyProof.Rows.slot_tuple_getitem ht.typeIs entry_tuple_getitem ?_ (args_tuple_getitem _ _)))
  show wpAny _ _ (Builtin.Tuple.tupleItemsOf (.ref t) >>= _) _ _ s
  refine wpAny_bind (tupleItemsOf_ ht ?_)
  refine wpAny_bind (wpAny_typeOf hTs ?_)
  rw [if_pos (by decide)]
  refine wpAny_bind (sliceApplied_rev hs ps ?_)
  have hno : ¬ ((((items.size : Int) - 1) == 0 && (-1 : Int) == 1 && items.size == items.size) = true) := by
    rw [show ((-1 : Int) == 1) = false by decide, Bool.and_false, Bool.false_and]
    exact Bool.false_ne_true
  show wpAny _ _ (if (((items.size : Int) - 1) == 0 && (-1 : Int) == 1 && items.size == items.size) = true then _ else _) _ _ s
  rw [if_neg hno, pick_rev]
  first
    | exact wpAny_bind (m := Builtin.Tuple.tupleExact _) (wpAny_newObj_type (wpAny_pure ⟨_, rfl, wpAny_pure h⟩) htake)
    | exact wpAny_bind (m := Builtin.Tuple.tupleExact _) (wpAny_newObj_type (wpAny_bind (wpAny_pure (wpAny_pure ⟨_, rfl, wpAny_pure h⟩))) htake)
    | exact wpAny_bind (wpAny_bind (m := Builtin.Tuple.tupleExact _) (wpAny_newObj_type (wpAny_pure (wpAny_pure ⟨_, rfl, wpAny_pure h⟩)) htake))
    | exact wpAny_bind (wpAny_bind (m := Builtin.Tuple.tupleExact _) (wpAny_newObj_type (wpAny_pure ⟨_, rfl, wpAny_pure h⟩) htake))
end
section
variable {call : Call} {X : Cx} {e : Expr} {xa : PV.X} {k : Nat} {p1 p2 p3 pos : Pos}
/-- x[::-1], of lists and tuples -/
def rRev (K : KW) : V → Hp → VK → Prop := fun x H Q => ∃ F d r w, (match d with | .tuple ds => some (PyData.tuple ds.reverse, false) | .list ds => some (PyData.list ds.reverse, true) | _ => none) = some (r, w) ∧ Sub F H ∧ RepT K F H d x ∧ opQ K F H r w Q
theorem repL_rev {K : KW} {F : Hp} : ∀ {ds : List D} {vs : List V}, RepL K F ds vs → RepL K F ds.reverse vs.reverse
  | [], vs, h => by simp only [RepL] at h; subst h; exact RepL.nil
  | d :: ds, vs, h => by
    simp only [RepL] at h
    obtain ⟨v, r, rfl, h1, h2⟩ := h
    rw [List.reverse_cons, List.reverse_cons]
    exact RepL.append (repL_rev h2) (RepL.cons h1 RepL.nil)
theorem pe_rev {te : TE} (he : PE X e te) : PE X (.Subscript e (.Slice none none (some (.UnaryOp .USub (.Constant (.int 1) k p1) p2)) p3) pos) (fun σ H Q => te σ H fun x H1 => rRev X.kw x H1 Q) := by
  refine ⟨fun pins s σ H Q I h => ?_⟩
  refine Subscript_ (thn (he.run pins s σ H _ I h) fun v s1 ⟨x, H1, I1, r1, q1⟩ => ?_)
  obtain ⟨F, d, r, w, h0, hs, hd, q⟩ := q1
  have hst : PO X (some (.UnaryOp .USub (.Constant (.int 1) k p1) p2)) (tPart (tUn (rU fun i => .int (-i)) (tC (.int 1)))) := po_some (pe_un un_neg pe_int)
  refine wpAny_Slice (thn (po_none.run pins s1 σ H1 (fun o H2 => o = none ∧ H2 = H1) I1 ⟨rfl, rfl⟩) fun vl s2 ⟨l, H2, I2, pl, el, e2⟩ => ?_)
  subst el e2
  refine thn (po_none.run pins s2 σ H2 (fun o H3 => o = none ∧ H3 = H2) I2 ⟨rfl, rfl⟩) fun vu s3 ⟨u, H3, I3, pu, eu, e3⟩ => ?_
  subst eu e3
  refine thn (hst.run pins s3 σ H3 (fun o H4 => o = some (-1) ∧ H4 = H3) I3 ⟨1, rfl, -1, rfl, rfl, rfl⟩) fun vs s4 ⟨o, H4, I4, ps, eo, e4⟩ => ?_
  subst eo e4
  have I5 : L2.Inv X pins σ H4 { s4 with heap := s4.heap.push { cls := .type "slice", data := .fields #[vl, vu, vs] } } := I4.kept (t' := s4.toks) fun b ob q => Heap.get?_push_of_some _ q
  cases d with
  | list ds =>
    cases h0
    obtain ⟨a, xs, rfl, q1, r2⟩ := repT_lst hd
    cases r1
    obtain ⟨its, r, ht, hz⟩ := I5.list (.inl q1)
    have hlen := r.length
    show wpAny (model X.prog X.w) X.A (subscriptTail e (.Slice none none (some (.UnaryOp .USub (.Constant (.int 1) k p1) p2)) p3) (.ref a) (.ref s4.heap.objs.size)) (EP X pins σ Q) X.xe { s4 with heap := s4.heap.push { cls := .type "slice", data := .fields #[vl, vu, vs] } }
    refine tail_any (ops := [.ref a, .ref s4.heap.objs.size]) ht.isList.typeIs (PySem.slot_list_getitem.lookup) ?_ (by with_unfolding_all rfl)
    refine wpAny_getItem_list_slice ht.isList (Heap.IsSliceOf.new _ vl vu vs) pl pu ps (by decide) ?_ (by rw [List.size_toArray]; omega)
    rw [PySem.W.krv_pick]
    refine ⟨.ref _, _, I5.laid (t' := s4.toks) (o := .lst xs.reverse) (fun b ob q => Heap.get?_push_of_some _ q) (Nat.le_refl _) ?_, rfl, q.newL hs (repL_rev r2) (I5.hok.fresh (Nat.le_refl _))⟩
    exact ⟨by rw [List.length_reverse]; exact hz, _, 0, r.reverse, Heap.get?_push_size _ rfl⟩
  | tuple ds =>
    cases h0
    obtain ⟨a, xs, rfl, q1, r2⟩ := repT_tup hd
    cases r1
    obtain ⟨its, r, ht, hz⟩ := I5.tuple (SqT.sub hs q1.sq)
    have hlen := r.length
    cases pl
    cases pu
    show wpAny (model X.prog X.w) X.A (subscriptTail e (.Slice none none (some (.UnaryOp .USub (.Constant (.int 1) k p1) p2)) p3) (.ref a) (.ref s4.heap.objs.size)) (EP X pins σ Q) X.xe { s4 with heap := s4.heap.push { cls := .type "slice", data := .fields #[.none, .none, vs] } }
    refine tail_any (ops := [.ref a, .ref s4.heap.objs.size]) ht.typeIs (PyProof.Rows.slot_tuple_getitem.lookup) ?_ (by with_unfolding_all rfl)
    refine getItem_tuple_rev ht (Heap.IsSliceOf.new _ .none .none vs) ps ?_ (by rw [List.size_toArray]; omega)
    refine ⟨.ref _, _, I5.laid (t' := s4.toks) (o := .frz { cls := .type "tuple", data := .seq its.toArray.toList.reverse.toArray } (.tup xs.reverse)) (fun b ob q => Heap.get?_push_of_some _ q) (Nat.le_refl _) ?_, rfl, q.newT hs (repL_rev r2) (I5.hok.fresh (Nat.le_refl _)) rfl⟩
    exact ⟨Heap.get?_push_size _ rfl, by rw [List.length_reverse]; exact hz, _, r.reverse, IsTup.new _ _⟩
  | _ => cases h0
theorem s_rev (ha : PE X e (tOp X.kw call xa)) : PE X (.Subscript e (.Slice none none (some (.UnaryOp .USub (.Constant (.int 1) k p1) p2)) p3) pos) (tEv X.kw call (.rev xa)) := by
  refine ⟨fun pins s σ H Q I q => (pe_rev ha).run pins s σ H Q I ?_⟩
  obtain ⟨F, ρ, d, w, ρ', h0, wf, k⟩ := q
  simp only [ev, Option.bind_eq_bind, Option.bind_eq_some_iff, Prod.exists] at h0
  obtain ⟨o1, ρ1, h1, d0, h2, h3⟩ := h0
  refine ⟨F, ρ, o1, ρ1, h1, wf, fun F1 H1 v l p => ?_⟩
  have ht := p.repT l.wf h2
  cases d0 with
  | list ds =>
    cases h3
    exact ⟨F1, _, _, _, rfl, l.wf.sub, ht, fun F4 H4 v4 post res => k F4 H4 v4 (l.trans (post.live l.wf)) (Res.trans l (res.res l.wf))⟩
  | tuple ds =>
    cases h3
    exact ⟨F1, _, _, _, rfl, l.wf.sub, ht, fun F4 H4 v4 post res => k F4 H4 v4 (l.trans (post.live l.wf)) (Res.trans l (res.res l.wf))⟩
  | _ => cases h3
theorem e_rev (ha : PE X e (tOp X.kw call xa)) : PE X (.Subscript e (.Slice none none (some (.UnaryOp .USub (.Constant (.int 1) k p1) p2)) p3) pos) (tEv X.kw call (.rev xa)) := s_rev ha
end
end PV

set_option Elab.async false
set_option linter.all false
set_option maxRecDepth 100000
set_option maxHeartbeats 1000000
/-! PV: sorted texts. -/
namespace PV
open PySem L2 PyProof.Rows PySem.Spec
theorem strLt_eq (x y : Str) : strLt x y = ltCps x.cps.toList y.cps.toList := lt_meets x y
theorem str_ext {x y : Str} (h : x.cps.toList = y.cps.toList) : x = y := by
  cases x
  cases y
  simp only at h
  rw [Array.toList_inj.mp h]
/-- x no later than y -/
def leS (x y : Str) : Prop := strLt y x = false
theorem leS_iff {x y : Str} : leS x y ↔ ¬ y.cps.toList < x.cps.toList := by
  unfold leS strLt
  rw [decide_eq_false_iff_not]
theorem leS_total (x y : Str) : leS x y ∨ leS y x := by
  rw [leS_iff, leS_iff]
  exact Classical.not_and_iff_not_or_not.mp fun h => List.lt_asymm h.1 h.2
theorem leS_trans {x y z : Str} (h : leS x y) (k : leS y z) : leS x z := by
  rw [leS_iff] at *
  exact List.not_lt.mpr (List.le_trans (List.not_lt.mp h) (List.not_lt.mp k))
theorem leS_antisymm {x y : Str} (h : leS x y) (k : leS y x) : x = y := by
  rw [leS_iff] at *
  exact str_ext (List.le_antisymm (List.not_lt.mp h) (List.not_lt.mp k))
theorem insS_perm (x : Str) : ∀ l : List Str, (insS x l).Perm (x :: l)
  | [] => .refl _
  | y :: ys => by
    unfold insS
    split
    · exact ((insS_perm x ys).cons y).trans (.swap x y ys)
    · exact .refl _
theorem sortS_perm : ∀ l : List Str, (sortS l).Perm l
  | [] => .refl _
  | x :: xs => (insS_perm x (sortS xs)).trans ((sortS_perm xs).cons x)
theorem insS_pw (x : Str) : ∀ l : List Str, l.Pairwise leS → (insS x l).Pairwise leS
  | [], _ => List.pairwise_singleton _ _
  | y :: ys, h => by
    obtain ⟨h1, h2⟩ := List.pairwise_cons.mp h
    unfold insS
    split
    · rename_i hc
      refine List.pairwise_cons.mpr ⟨fun z hz => ?_, insS_pw x ys h2⟩
      rcases List.mem_cons.mp ((insS_perm x ys).mem_iff.mp hz) with rfl | hz
      · rcases leS_total y z with q | q
        · exact q
        · unfold leS at q
          rw [hc] at q
          cases q
      · exact h1 z hz
    · rename_i hc
      have hxy : leS x y := by
        unfold leS
        simpa using hc
      refine List.pairwise_cons.mpr ⟨fun z hz => ?_, h⟩
      rcases List.mem_cons.mp hz with rfl | hz
      · exact hxy
      · exact leS_trans hxy (h1 z hz)
theorem sortS_pw : ∀ l : List Str, (sortS l).Pairwise leS
  | [] => .nil
  | x :: xs => insS_pw x _ (sortS_pw xs)
theorem rising_pw : ∀ (p : Str) (l : List Str), risingS p l = true → (p :: l).Pairwise leS
  | p, [], _ => List.pairwise_singleton _ _
  | p, x :: r, h => by
    have h : (!ltCps x.cps.toList p.cps.toList && risingS x r) = true := h
    rw [Bool.and_eq_true, Bool.not_eq_true'] at h
    have hpx : leS p x := by
      unfold leS
      rw [strLt_eq]
      exact h.1
    have ih := rising_pw x r h.2
    refine List.pairwise_cons.mpr ⟨fun z hz => ?_, ih⟩
    rcases List.mem_cons.mp hz with rfl | hz
    · exact hpx
    · exact leS_trans hpx ((List.pairwise_cons.mp ih).1 z hz)
theorem sorted_pw : ∀ l : List Str, sortedS l = true → l.Pairwise leS
  | [], _ => .nil
  | x :: r, h => rising_pw x r h
theorem sorted_one {ys zs : List Str} (h : ys.Perm zs) (hs : sortedS ys = true) : ys = sortS zs :=
  List.Perm.eq_of_pairwise (fun _ _ _ _ a b => leS_antisymm a b) (sorted_pw ys hs) (sortS_pw zs) (h.trans (sortS_perm zs).symm)
theorem dedupS_mem : ∀ {l : List Str} {x : Str}, x ∈ dedupS l ↔ x ∈ l
  | [], x => by simp [dedupS]
  | y :: ys, x => by
    unfold dedupS
    split
    · rename_i hy
      rw [dedupS_mem, List.mem_cons]
      constructor
      · exact .inr
      · rintro (rfl | h)
        · exact dedupS_mem.mp hy
        · exact h
    · rw [List.mem_cons, List.mem_cons, dedupS_mem]
theorem dedupS_nodup : ∀ l : List Str, (dedupS l).Nodup
  | [] => List.nodup_nil
  | y :: ys => by
    unfold dedupS
    split
    · exact dedupS_nodup ys
    · rename_i hy
      exact List.nodup_cons.mpr ⟨hy, dedupS_nodup ys⟩
theorem dedupS_len : ∀ l : List Str, (dedupS l).length ≤ l.length
  | [] => Nat.le_refl _
  | y :: ys => by
    have ih := dedupS_len ys
    unfold dedupS
    split
    · exact Nat.le_succ_of_le ih
    · exact Nat.succ_le_succ ih
theorem dedupS_one {l xs : List Str} (nd : l.Nodup) (h : ∀ x, x ∈ l ↔ x ∈ xs) : l.Perm (dedupS xs) :=
  (List.perm_ext_iff_of_nodup nd (dedupS_nodup xs)).mpr fun x => (h x).trans dedupS_mem.symm
/-! texts as values -/
theorem asS_of {d : D} {x : Str} (h : asS d = some x) : d = .str x := by
  cases d <;> simp [asS] at h
  rw [h]
theorem mapS_of : ∀ {ds : List D} {xs : List Str}, ds.mapM asS = some xs → ds = xs.map .str
  | [], xs, h => by
    simp at h
    subst h
    rfl
  | d :: ds, xs, h => by
    simp only [List.mapM_cons, Option.bind_eq_bind, Option.bind_eq_some_iff, Option.pure_def, Option.some.injEq] at h
    obtain ⟨x, h1, ys, h2, rfl⟩ := h
    rw [asS_of h1, mapS_of h2]
    rfl
theorem repL_str {K : KW} {F : Hp} : ∀ {xs : List Str} {vs : List V}, RepL K F (xs.map .str) vs ↔ vs = xs.map V.str
  | [], vs => by simp only [List.map_nil, RepL]
  | x :: xs, vs => by
    simp only [List.map_cons, RepL, Rep]
    constructor
    · rintro ⟨v, r, rfl, rfl, h⟩
      rw [repL_str.mp h]
    · rintro rfl
      exact ⟨_, _, rfl, rfl, repL_str.mpr rfl⟩
end PV

set_option Elab.async false
set_option linter.all false
set_option maxRecDepth 100000
set_option maxHeartbeats 1000000
/-! PV: sorted of texts. -/
namespace PV
open PySem L2 PyProof.Rows PySem.Spec
section
variable {X : Cx} {call : Call} {e : Expr} {xs : List PV.X} {p pos : Pos}
theorem repK_keys {K : KW} {F : Hp} : ∀ {kvs : List (D × D)} {kv : List (Key × V)} {xs : List Str}, RepK K F kvs kv → kvs.map (·.1) = xs.map PyData.str → kv.map (·.1) = xs.map Sum.inr
  | [], kv, xs, h, e => by
    simp only [RepK] at h
    subst h
    cases xs with
    | nil => rfl
    | cons x xs => simp at e
  | q :: kvs, kv, xs, h, e => by
    simp only [RepK] at h
    obtain ⟨j, v, s, rfl, h1, h2, h3⟩ := h
    cases xs with
    | nil => simp at e
    | cons x xs =>
      simp only [List.map_cons, List.cons.injEq] at e ⊢
      refine ⟨?_, repK_keys h3 e.2⟩
      rw [h1] at e
      cases j with
      | inl i => simp [keyD] at e
      | inr y =>
        simp only [keyD, PyData.str.injEq] at e
        rw [e.1]
theorem sorted_ok (hc : X.calm = true) : CallR X (.builtin "sorted") (rBlt X.kw .sorted) := by
  intro pins s σ H vs us Q I rx h
  obtain ⟨F, ds, r, w, h0, hs, hd, q⟩ := h
  unfold opBlt at h0
  split at h0 <;> try (first | (exfalso; assumption) | (rename_i hk; cases hk; done))
  all_goals try (cases h0; done)
  rename_i d
  simp only [Option.map_eq_some_iff, Prod.mk.injEq] at h0
  obtain ⟨r', h0, rfl, rfl⟩ := h0
  obtain ⟨x, rfl, hx⟩ := hd.one
  unfold opSorted at h0
  split at h0
  · simp only [Option.bind_eq_bind, Option.bind_eq_some_iff] at h0
    obtain ⟨ys, h1, h2⟩ := h0
    split at h2
    · rename_i hl
      cases h2
      obtain rfl := mapS_of h1
      obtain ⟨a, vs, rfl, q1, r1⟩ := repT_lst hx
      obtain rfl := repL_str.mp r1
      refine cr_sortedS pins s σ H _ us Q I rx ⟨a, ys, rfl, .inl q1, hl, fun zs p hp hz hn => ?_⟩
      rw [← sorted_one hp hz] at q
      exact q.newL hs (repL_str.mpr rfl) hn
    · cases h2
  · rename_i kvs
    simp only [Option.bind_eq_bind, Option.bind_eq_some_iff] at h0
    obtain ⟨ys, h1, h2⟩ := h0
    split at h2
    · rename_i hl
      cases h2
      have hk := mapS_of h1
      rcases repT_dic hx with ⟨a, kv, rfl, hH, hr⟩ | ⟨a, l, rfl, _, hr, n⟩ | ⟨a, ms, rfl, rfl, hH⟩
      · refine call_sortedD hc pins s σ H _ us Q I rx ⟨a, kv, ys, rfl, hH, repK_keys hr hk, hl, fun zs p hp hz hn => ?_⟩
        rw [← sorted_one hp hz] at q
        exact q.newL hs (repL_str.mpr rfl) hn
      · cases kvs with
        | nil => exact absurd rfl n
        | cons p r =>
          simp only [RepN] at hr
          obtain ⟨j, _, _, _, _, e2, _⟩ := hr
          obtain ⟨ds, e3, _⟩ := nkeyT_of e2
          simp only [List.map_cons] at hk
          rw [e3] at hk
          cases ys <;> simp at hk
      · simp only [scrD, List.map_cons, List.map_nil] at hk
        cases ys <;> simp at hk
    · cases h2
  · cases h0
theorem e_sorted (hm : X.mg "sorted" = none) (ha : PA X [e] (tOps X.kw call xs)) (hc : X.calm = true := by rfl) (hg : Gl X "sorted" := by rfl) (he : starEach [e] X.env = (false, eval e X.env) :: starEach [] X.env := by rfl) (hpl : (backTo pos (starEach [] X.env)).any (·.1) = false := by rfl) :
    PE X (.Call (.Name "sorted" p) [e] [] pos) (tEv X.kw call (.blt .sorted xs)) := by
  refine ⟨fun pins s σ H Q I q => ?_⟩
  have t := t_blt q
  exact (pe_callB (sorted_ok hc) hg hm (by decide +kernel) ha (by decide +kernel) (by decide +kernel) he hpl).run pins s σ H Q I t
end
end PV

set_option Elab.async false
set_option linter.all false
set_option maxRecDepth 100000
set_option maxHeartbeats 1000000
/-! PV: sets of texts: len(set(..)), sorted(set(..)). -/
namespace PV
open PySem L2 PyProof.Rows PySem.Spec
/-- a row of a set of texts -/
def RowS (w : World) (e : Int × Value) : Prop := ∃ x t, e.2 = Value.str x t ∧ e.1 = hashStr w x
def txtOf (e : Int × Value) : Str := match e.2 with
  | .str x _ => x
  | _ => Str.empty
/-- the set at a has the texts l, each once -/
structure TxtSet (w : World) (h : Heap) (a : Addr) (l : List Str) : Prop where
  ex : ∃ o es ep t, h.get? a = some o ∧ o.ExactSet ∧ o.data = .set es ep t ∧ (∀ e ∈ es.toList, RowS w e) ∧ (es.toList.map txtOf).Perm l ∧ es.size < scanBound ∧ t.fits es.size = true ∧ Ris t.place.toList ∧ (w.params.followText "set-order" = true ∨ t.led = true)
  nd : l.Nodup
section
variable {P : Program} {w : World} {h h' : Heap} {a : Addr} {l : List Str} {A : Around} {E : Value → Shared → Prop} {s : Shared}
theorem TxtSet.at (R : TxtSet w h a l) (k : ∀ o, h.get? a = some o → h'.get? a = some o) : TxtSet w h' a l := by
  obtain ⟨⟨o, es, ep, t, ho, r⟩, nd⟩ := R
  exact ⟨⟨o, es, ep, t, k o ho, r⟩, nd⟩
theorem txt_is (k : Str) (u : Tok) : (strKind P w).is k (.str k u) = true := by
  show Value.isStrOf k (.str k u) = true
  simp [Value.isStrOf]
theorem rows_elems {es : List (Int × Value)} (g : ∀ e ∈ es, RowS w e) : ElemsOf (strKind P w) es := fun e he => by
  obtain ⟨x, t, h1, h2⟩ := g e he
  exact ⟨⟨x, by rw [h1]; exact txt_is x t, h2⟩, by rw [h1] <;> rfl⟩
theorem row_is {e : Int × Value} (g : RowS w e) (x : Str) : (strKind P w).is x e.2 = true ↔ txtOf e = x := by
  obtain ⟨y, t, h1, _⟩ := g
  unfold txtOf
  rw [h1]
  constructor
  · intro z
    exact ((strKind P w).inj (.str y t) x y z (txt_is y t)).symm
  · intro z
    have z : y = x := z
    rw [z]
    exact txt_is x t
/-- behind the table's own work -/
theorem put_rest {g : Bool → Sem Unit} (hg : ∀ (b : Bool) (s₁ : Shared) (Q' : Unit → Shared → Prop), Q' () s₁ → wpAny (model P w) A (g b) Q' E s₁)
    {o : PySem.Obj} {es es1 : Array (Int × Value)} {ep : Nat} {t t2 : SetTable} (ho : s.heap.get? a = some o) (hex : o.ExactSet) (hd : o.data = .set es ep t) (g1 : ∀ e ∈ es1.toList, RowS w e) (p1 : (es1.toList.map txtOf).Perm l) (nd : l.Nodup)
    (hb : es1.size < scanBound) (hf : t2.fits es1.size = true) (hr : Ris t2.place.toList) (hl : w.params.followText "set-order" = true ∨ t2.led = true) {wd : Bool} {R : Option Bool → Shared → Prop}
    (hR : ∀ h', Heap.SameBut a s.heap h' → TxtSet w h' a l → R (some true) { s with heap := h' }) :
    wpAny (model P w) A (do
        storeSet a es1 t2
        if (!wd && t2.tooFull) = true then do
            g (relayAll t2 es1 (SetTable.grown es1.size)).2.2
            storeSet a (relayAll t2 es1 (SetTable.grown es1.size)).1 (relayAll t2 es1 (SetTable.grown es1.size)).2.1
            pure (some true)
          else pure (some true)) R E s := by
  have ho1 := store_at (es' := es1) (t' := t2) ho hd
  have sb := Heap.SameBut.update s.heap a (PySem.Obj.putSet es1 t2)
  refine wpAny_bind (wpAny_storeSet_of ho hd ?_ (fits_of_scanBound hb))
  by_cases c : (!wd && t2.tooFull) = true
  · rw [if_pos c]
    obtain ⟨e3, e4, e5, e6⟩ : (relayAll t2 es1 (SetTable.grown es1.size)).1.toList.Perm es1.toList ∧ (relayAll t2 es1 (SetTable.grown es1.size)).2.1.fits (relayAll t2 es1 (SetTable.grown es1.size)).1.size = true ∧ Ris (relayAll t2 es1 (SetTable.grown es1.size)).2.1.place.toList ∧ (relayAll t2 es1 (SetTable.grown es1.size)).2.1.led = t2.led :=
      ⟨relayAll_perm _ _ _, relayAll_fits _ _ _, relayAll_ris _ _ _, relayAll_led _ _ _⟩
    have sz : (relayAll t2 es1 (SetTable.grown es1.size)).1.size = es1.size := by
      rw [← Array.length_toList, e3.length_eq, Array.length_toList]
    refine wpAny_bind (hg _ _ _ (wpAny_bind (wpAny_storeSet_of ho1 rfl ?_ (fits_of_scanBound (by rw [sz]; exact hb)))))
    refine wpAny_pure (hR _ (sb.trans (Heap.SameBut.update _ a _)) ⟨⟨_, _, _, _, store_at ho1 rfl, hex, rfl, fun e he => g1 e (e3.mem_iff.mp he), (e3.map txtOf).trans p1, by rw [sz]; exact hb, e4, e5, ?_⟩, nd⟩)
    rw [e6]
    exact hl
  · rw [if_neg c]
    exact wpAny_pure (hR _ sb ⟨⟨_, es1, _, t2, ho1, hex, rfl, g1, p1, hb, hf, hr, hl⟩, nd⟩)
theorem put_txt {x : Str} {u : Tok} {Q : Bool → Shared → Prop} (R : TxtSet w s.heap a l) (room : l.length + 1 < scanBound)
    (hQ : ∀ b h', Heap.SameBut a s.heap h' → TxtSet w h' a (if x ∈ l then l else x :: l) → Q b { s with heap := h' }) : wpAny (model P w) A (setAddHashed a (.str x u) (hashStr w x)) Q E s := by
  have R0 := R
  obtain ⟨⟨o, es, ep, t, ho, hex, hd, g, pm, hb, hf, hr, hl⟩, nd⟩ := R
  have hx : (strKind P w).is x (.str x u) = true := txt_is x u
  have hel : ElemsOf (strKind P w) es.toList := rows_elems g
  have hlen : es.size = l.length := by rw [← Array.length_toList, ← pm.length_eq, List.length_map]
  have mem : ∀ y, y ∈ l ↔ ∃ e ∈ es.toList, (strKind P w).is y e.2 = true := fun y => by
    rw [← pm.mem_iff, List.mem_map]
    exact ⟨fun ⟨e, he, z⟩ => ⟨e, he, (row_is (g e he) y).mpr z⟩, fun ⟨e, he, z⟩ => ⟨e, he, (row_is (g e he) y).mp z⟩⟩
  have hgw : ∀ (b : Bool) {s₁ : Shared} {Q' : Unit → Shared → Prop}, Q' () s₁ → wpAny (model P w) A (match b with | true => rule "set.scan.the-table-gave-way" | false => pure ()) Q' E s₁ :=
    fun b _ _ q => by cases b <;> first | exact wpAny_pure q | exact wpAny_rule q
  unfold setAddHashed setAddHashedIn
  refine wpAny_holding (wpAny_bind (wpAny_setState_of ho hd hf ?_))
  dsimp only
  rw [byScan_of rfl hb hel]
  simp only [↓reduceIte]
  unfold setAddByScan
  refine wpAny_bind (wpAny_bind (wpAny_rule (wpAny_bind (wpAny_setScan_of (knd := strKind P w) (k := x) hx ho hd hf hel ?_))))
  cases hfi : List.findIdx? (fun e => (strKind P w).is x e.2) es.toList with
  | some j =>
    dsimp only
    obtain ⟨hj, pj, _⟩ := List.findIdx?_eq_some_iff_getElem.mp hfi
    have hm : x ∈ l := (mem x).mpr ⟨es.toList[j], List.getElem_mem hj, pj⟩
    have q := hQ false s.heap (Heap.SameBut.refl a s.heap)
    rw [if_pos hm] at q
    exact wpAny_pure (wpAny_pure (q R0))
  | none =>
    dsimp only
    have hm : x ∉ l := fun z => by
      obtain ⟨e, he, z1⟩ := (mem x).mp z
      have c := List.findIdx?_eq_none_iff.mp hfi e he
      rw [z1] at c
      cases c
    obtain ⟨z1, z2, z3, z4⟩ : (layNew t es ((strKind P w).hash x) (.str x u)).1.toList.Perm (es.push ((strKind P w).hash x, Value.str x u)).toList ∧ (layNew t es ((strKind P w).hash x) (.str x u)).2.1.fits (layNew t es ((strKind P w).hash x) (.str x u)).1.size = true ∧
        Ris (layNew t es ((strKind P w).hash x) (.str x u)).2.1.place.toList ∧ (layNew t es ((strKind P w).hash x) (.str x u)).2.1.led = t.led :=
      ⟨layNew_perm t es _ _, layNew_fits t es _ _, layNew_ris t es _ _ hr, layNew_led t es _ _⟩
    have e0 : (strKind P w).hash x = hashStr w x := rfl
    rw [e0] at z1 z2 z3 z4
    generalize layNew t es (hashStr w x) (.str x u) = Z at z1 z2 z3 z4 ⊢
    obtain ⟨es1, t1, wd, gave⟩ := Z
    dsimp only at z1 z2 z3 z4 ⊢
    rw [Array.toList_push] at z1
    have z5 : es1.toList.Perm ((hashStr w x, Value.str x u) :: es.toList) := z1.trans (List.perm_append_singleton _ _)
    have g1 : ∀ e ∈ es1.toList, RowS w e := fun e he => by
      rcases List.mem_cons.mp (z5.mem_iff.mp he) with rfl | he
      · exact ⟨x, u, rfl, rfl⟩
      · exact g e he
    have p1 : (es1.toList.map txtOf).Perm (x :: l) := (z5.map txtOf).trans (pm.cons x)
    have nd1 : (x :: l).Nodup := List.nodup_cons.mpr ⟨hm, nd⟩
    have hb1 : es1.size < scanBound := by
      rw [← Array.length_toList, z5.length_eq, List.length_cons, Array.length_toList, hlen]
      exact room
    have hl1 : w.params.followText "set-order" = true ∨ t1.led = true := by rw [z4]; exact hl
    have fin : ∀ h', Heap.SameBut a s.heap h' → TxtSet w h' a (x :: l) → Q true { s with heap := h' } := fun h' sb r => by
      have q := hQ true h' sb
      rw [if_neg hm] at q
      exact q r
    refine wpAny_bind (hgw _ ?_)
    by_cases hpl : t1.plain = true
    · rw [if_pos hpl]
      refine wpAny_bind ?_
      rw [hashByValue_scannable 8 (x := Value.str x u) rfl]
      refine wpAny_pure (put_rest (fun b _ _ q => by cases b <;> first | exact wpAny_pure q | exact wpAny_rule q) ho hex hd g1 p1 nd1 hb1 ?_ ?_ ?_ fun h' sb r => ?_)
      · first | exact z2 | (split <;> first | exact z2 | exact SetTable.fits_plain_off z2)
      · first | exact z3 | (split <;> exact z3)
      · first | exact hl1 | (split <;> exact hl1)
      · dsimp only
        exact wpAny_pure (fin h' sb r)
    · rw [if_neg hpl]
      refine wpAny_bind (wpAny_pure ?_)
      simp only [↓reduceIte]
      refine put_rest (fun b _ _ q => by cases b <;> first | exact wpAny_pure q | exact wpAny_rule q) ho hex hd g1 p1 nd1 hb1 z2 z3 hl1 fun h' sb r => ?_
      dsimp only
      exact wpAny_pure (fin h' sb r)
/-- set.update's loop, over texts -/
theorem loop_txt {I : Addr} {fp wr : List Addr} {G : Array GenState → Array GenState → Prop} {n : Nat} {Pv : Nat → Value → Prop} {St : Nat → Shared → Prop} {R : Result → Shared → Prop}
    (W : WalksS P w A.in1 I fp wr G n Pv St) (S : Addr) (hSf : S ∉ fp) (xs : List Str) (hn : n = xs.length) (hb : xs.length + 1 < scanBound) (hval : ∀ i v, Pv i v → ∃ x t, xs[i]? = some x ∧ v = .str x t) :
    ∀ (m i : Nat) (s : Shared), m + i = n → St i s → (∃ l, l.length ≤ i ∧ (∀ x, x ∈ l ↔ x ∈ xs.take i) ∧ TxtSet w s.heap S l) →
      (∀ s' l, Moved (S :: wr) G s s' → (∀ x, x ∈ l ↔ x ∈ xs) → l.length ≤ n → TxtSet w s'.heap S l → R (.ok (.ret .none)) s') →
      codeAny (model P w) A (.builtin "set.update.loop" ⟨[.ref S, .ref I], []⟩) R s
  | 0, i, s, hm, hst, ⟨l, hl, ml, T⟩, hR => by
    obtain rfl : i = n := by omega
    refine codeAny_builtin F.entry_set_update_loop ?_
    rw [Around.under_plainId F.plain_set_update_loop _]
    show wpAny _ A.in1 (pyNext (.ref I) >>= _) _ _ s
    refine wpAny_bind (W.done s _ _ hst fun s' mv => ?_)
    have full : xs.take i = xs := List.take_of_length_le (Nat.le_of_eq hn.symm)
    rw [full] at ml
    exact wpAny_pure (hR s' l (mv.mono fun b hb => List.mem_cons_of_mem _ hb) ml hl (T.at fun o e => mv.heap S o (fun h => hSf (W.sub _ h)) e))
  | m + 1, i, s, hm, hst, ⟨l, hl, ml, T⟩, hR => by
    have hlt : i < n := by omega
    refine codeAny_builtin F.entry_set_update_loop ?_
    rw [Around.under_plainId F.plain_set_update_loop _]
    show wpAny _ A.in1 (pyNext (.ref I) >>= _) _ _ s
    refine wpAny_bind (W.item i s _ _ hlt hst fun v s' hP hst' mv => ?_)
    obtain ⟨x, t, hx, rfl⟩ := hval i v hP
    have T' : TxtSet w s'.heap S l := T.at fun o e => mv.heap S o (fun h => hSf (W.sub _ h)) e
    show wpAny _ A.in1 (holding [Value.str x t] (setAdd S (.str x t)) >>= _) _ _ s'
    refine wpAny_bind (wpAny_holding ?_)
    unfold setAdd
    refine wpAny_holding (wpAny_bind ((strKind P w).pyHash (k := x) (txt_is _ _) ?_))
    refine put_txt (s := { s' with toks := s'.toks + 1 }) T' (by omega) fun b h' sb T2 => ?_
    refine wpAny_pure ⟨plainId_quiet F.plain_set_update_loop _, loop_txt W S hSf xs hn hb hval m (i + 1) _ (by omega) (W.frame _ s' _ _ hst' (Nat.le_succ _) fun c hc o e => (sb.2 c fun z => hSf (z ▸ hc)).trans e)
      ⟨_, ?_, fun y => ?_, T2⟩ fun s2 l2 mv2 ml2 hl2 T3 => ?_⟩
    · split
      · omega
      · exact Nat.succ_le_succ hl
    · rw [List.take_add_one, hx]
      show _ ↔ y ∈ xs.take i ++ [x]
      rw [List.mem_append, List.mem_singleton]
      by_cases hxl : x ∈ l
      · rw [if_pos hxl, ml]
        constructor
        · exact .inl
        · rintro (z | rfl)
          · exact z
          · exact (ml _).mp hxl
      · rw [if_neg hxl, List.mem_cons, ml]
        exact Or.comm
    · exact hR s2 l2 (Moved.trans W.gtrans ((mv.mono fun b hb => List.mem_cons_of_mem _ hb).then_heap (Nat.le_succ _) fun c o hc e => (sb.2 c fun z => hc (z ▸ List.mem_cons_self)).trans e) mv2) ml2 hl2 T3
theorem txt_fresh {h : Heap} {a : Addr} (ho : h.get? a = some { cls := .type "set", dict := none, data := .set #[] 0 (.fresh 0 0 (!w.params.followText "set-order")) }) : TxtSet w h a [] := by
  refine ⟨⟨_, #[], 0, _, ho, ⟨rfl, rfl, rfl⟩, rfl, fun e he => by simp at he, .refl _, by decide, rfl, .nil, ?_⟩, List.nodup_nil⟩
  show _ ∨ (!w.params.followText "set-order") = true
  cases w.params.followText "set-order" <;> simp
set_option maxHeartbeats 3200000 in
theorem set_list {l : Addr} {items : Array Value} (xs : List Str) {Q : Value → Shared → Prop} (hh : A.handled = none) (hl : s.heap.IsList l items) (hit : StrsAre items.toList xs) (hb : xs.length + 1 < scanBound)
    (hQ : ∀ (h' : Heap) (tk : Nat) (m : List Str), TxtSet w h' s.heap.objs.size m → (∀ x, x ∈ m ↔ x ∈ xs) → (∀ b o, s.heap.get? b = some o → h'.get? b = some o) → Q (.ref s.heap.objs.size) { s with heap := h', toks := tk }) :
    wpAny (model P w) A (call (.type "set") [.ref l]) Q E s := by
  have sz : items.size = xs.length := by rw [← Array.length_toList]; exact StrsAre.length hit
  have new1 : (s.heap.push { cls := .type "set", dict := none, data := .set #[] 0 (.fresh 0 0 (!w.params.followText "set-order")) }).get? s.heap.objs.size = some { cls := .type "set", dict := none, data := .set #[] 0 (.fresh 0 0 (!w.params.followText "set-order")) } := Heap.get?_push_size _ rfl
  have z1 : (s.heap.push { cls := .type "set", dict := none, data := .set #[] 0 (.fresh 0 0 (!w.params.followText "set-order")) }).objs.size = s.heap.objs.size + 1 := Heap.size_push ..
  obtain ⟨c, tl, hmro⟩ := F.called_set.mro
  have k1 := F.called_set.made
  have k2 := F.called_set.sub
  have k3 := F.called_set.notType
  have k4 := F.called_set.canCreate
  have k5 := F.typeCall_set_1 (.ref l)
  refine wpAny_call (codeAny_of_tree ?_)
  show wpAny _ _ (callAny (.type "set") _) _ _ _
  refine wpAny_pure ⟨Code.quiet_builtin _ (by decide +kernel), codeAny_builtin F.entry_type_call ?_⟩
  rw [Around.under_plain (weight_type_call_type "set" [.ref l] []) rfl]
  repeat (any_goals (first | assumption | wp_step))
  refine codeAny_mono (code_set_led1 (.ref l) (E := E) (Q₁ := fun obj s₁ => obj = .ref s.heap.objs.size ∧ s₁ = { s with heap := s.heap.push { cls := .type "set", dict := none, data := .set #[] 0 (.fresh 0 0 (!w.params.followText "set-order")) } }) ⟨rfl, rfl⟩) fun r s₁ hr => ?_
  cases r with
  | error e => exact hr
  | ok fl =>
    cases fl with
    | ret obj =>
      obtain ⟨rfl, rfl⟩ := hr
      have isSet : Shared.TypeIs { s with heap := s.heap.push { cls := .type "set", dict := none, data := .set #[] 0 (.fresh 0 0 (!w.params.followText "set-order")) } } (.ref s.heap.objs.size) "set" := ⟨_, new1, rfl⟩
      have k6 := F.called_set.init.lookup
      have k7 := F.called_set.init.bind (.ref s.heap.objs.size)
      repeat (any_goals (first | assumption | wp_step))
      refine codeAny_mono (codeAny_call_builtin (R := wants (fun r s₂ => r = .none ∧ ∃ h' tk m, s₂ = { s with heap := h', toks := tk } ∧ TxtSet w h' s.heap.objs.size m ∧ (∀ x, x ∈ m ↔ x ∈ xs) ∧ ∀ b o, s.heap.get? b = some o → h'.get? b = some o) E)
        F.called_set.init.plain F.entry_set_init (check_set_init_1 isSet ?_)) fun r₂ s₂ hr₂ => ?_
      · have old : ∀ b o, s.heap.get? b = some o → b < s.heap.objs.size := fun b o e => Heap.lt_size e
        obtain ⟨ol, hol, hcl, nl, hdl⟩ := hl
        obtain ⟨ocls, odict, odata, oslots⟩ := ol
        simp only at hcl hdl
        subst hcl; subst hdl
        have hol1 : (s.heap.push { cls := .type "set", dict := none, data := .set #[] 0 (.fresh 0 0 (!w.params.followText "set-order")) }).get? l = some { cls := .type "list", dict := odict, data := .seq items nl, slots := oslots } := Heap.get?_push_of_some _ hol
        have isl : (s.heap.push { cls := .type "set", dict := none, data := .set #[] 0 (.fresh 0 0 (!w.params.followText "set-order")) }).IsList l items := ⟨_, hol1, rfl, nl, rfl⟩
        have m1 := F.sub_list_set
        have m2 := F.sub_list_frozenset
        have m3 : (Value.type "list" == Value.type "dict") = false := by decide
        unfold Builtin.«set.__init__» noKeywords Builtin.Frozenset.updateFrom
        generalize hPI : pyIter = PI
        wp_walk
        subst hPI
        refine wpAny_pyIter_list isl (wpAny_bind (wpAny_runValue ?_))
        have hlt := old l _ hol
        have hne : l ≠ (s.heap.push { cls := .type "set", dict := none, data := .set #[] 0 (.fresh 0 0 (!w.params.followText "set-order")) }).objs.size := by rw [z1]; exact Nat.ne_of_lt (Nat.lt_succ_of_lt hlt)
        refine loop_txt ((Walks.list (by simp [hh]) _ l hne items).toS) s.heap.objs.size ?_ xs sz hb (fun i v hv => ?_) items.size 0 _ rfl ⟨⟨_, Heap.get?_push_size _ rfl, rfl, rfl⟩, (isl.push _)⟩
          ⟨[], Nat.le_refl _, fun x => by simp, txt_fresh (Heap.get?_push_of_some _ new1)⟩ fun s' m mv mm _ T => ?_
        · rw [z1]
          simp only [List.mem_cons, List.not_mem_nil, or_false, not_or]
          exact ⟨Nat.ne_of_lt (Nat.lt_succ_self _), Nat.ne_of_gt hlt⟩
        · have hi : i < xs.length := by rw [← sz]; exact (Array.getElem?_eq_some_iff.mp hv).1
          obtain ⟨t, e⟩ := SS.strs_at hit i v (by rw [Array.getElem?_toList]; exact hv)
          exact ⟨xs[i], t, List.getElem?_eq_getElem hi, by rw [e, List.getD_eq_getElem?_getD, List.getElem?_eq_getElem hi] <;> rfl⟩
        · obtain ⟨h', g2, d', tk', os'⟩ := s'
          have eg : g2 = s.gens := mv.gens
          have ed : d' = s.drawn := mv.drawn
          have eo : os' = s.os := mv.os
          subst eg; subst ed; subst eo
          refine wpAny_pure ?_
          show wpAny _ _ (ret Value.none) _ _ _
          refine wpAny_pure ⟨rfl, h', tk', m, rfl, T, mm, fun b o e => ?_⟩
          have hb1 := old b o e
          refine mv.heap b o ?_ (Heap.get?_push_of_some _ (Heap.get?_push_of_some _ e))
          rw [z1]
          simp only [List.mem_cons, List.not_mem_nil, or_false, not_or]
          exact ⟨Nat.ne_of_lt hb1, Nat.ne_of_lt (Nat.lt_succ_of_lt hb1)⟩
      · cases r₂ with
        | error e => exact hr₂
        | ok fl₂ =>
          cases fl₂ with
          | ret r =>
            obtain ⟨rfl, h', tk, m, rfl, T, mm, keep⟩ := hr₂
            repeat (any_goals (first | assumption | wp_step))
            exact hQ _ _ _ T mm keep
          | _ => exact hr₂.elim
    | _ => exact hr.elim
set_option maxHeartbeats 3200000 in
theorem set_tuple {l : Addr} {items : Array Value} (xs : List Str) {Q : Value → Shared → Prop} (hh : A.handled = none) (hl : s.heap.IsTuple l items) (hit : StrsAre items.toList xs) (hb : xs.length + 1 < scanBound)
    (hQ : ∀ (h' : Heap) (tk : Nat) (m : List Str), TxtSet w h' s.heap.objs.size m → (∀ x, x ∈ m ↔ x ∈ xs) → (∀ b o, s.heap.get? b = some o → h'.get? b = some o) → Q (.ref s.heap.objs.size) { s with heap := h', toks := tk }) :
    wpAny (model P w) A (call (.type "set") [.ref l]) Q E s := by
  have sz : items.size = xs.length := by rw [← Array.length_toList]; exact StrsAre.length hit
  have new1 : (s.heap.push { cls := .type "set", dict := none, data := .set #[] 0 (.fresh 0 0 (!w.params.followText "set-order")) }).get? s.heap.objs.size = some { cls := .type "set", dict := none, data := .set #[] 0 (.fresh 0 0 (!w.params.followText "set-order")) } := Heap.get?_push_size _ rfl
  have z1 : (s.heap.push { cls := .type "set", dict := none, data := .set #[] 0 (.fresh 0 0 (!w.params.followText "set-order")) }).objs.size = s.heap.objs.size + 1 := Heap.size_push ..
  obtain ⟨c, tl, hmro⟩ := F.called_set.mro
  have k1 := F.called_set.made
  have k2 := F.called_set.sub
  have k3 := F.called_set.notType
  have k4 := F.called_set.canCreate
  have k5 := F.typeCall_set_1 (.ref l)
  refine wpAny_call (codeAny_of_tree ?_)
  show wpAny _ _ (callAny (.type "set") _) _ _ _
  refine wpAny_pure ⟨Code.quiet_builtin _ (by decide +kernel), codeAny_builtin F.entry_type_call ?_⟩
  rw [Around.under_plain (weight_type_call_type "set" [.ref l] []) rfl]
  repeat (any_goals (first | assumption | wp_step))
  refine codeAny_mono (code_set_led1 (.ref l) (E := E) (Q₁ := fun obj s₁ => obj = .ref s.heap.objs.size ∧ s₁ = { s with heap := s.heap.push { cls := .type "set", dict := none, data := .set #[] 0 (.fresh 0 0 (!w.params.followText "set-order")) } }) ⟨rfl, rfl⟩) fun r s₁ hr => ?_
  cases r with
  | error e => exact hr
  | ok fl =>
    cases fl with
    | ret obj =>
      obtain ⟨rfl, rfl⟩ := hr
      have isSet : Shared.TypeIs { s with heap := s.heap.push { cls := .type "set", dict := none, data := .set #[] 0 (.fresh 0 0 (!w.params.followText "set-order")) } } (.ref s.heap.objs.size) "set" := ⟨_, new1, rfl⟩
      have k6 := F.called_set.init.lookup
      have k7 := F.called_set.init.bind (.ref s.heap.objs.size)
      repeat (any_goals (first | assumption | wp_step))
      refine codeAny_mono (codeAny_call_builtin (R := wants (fun r s₂ => r = .none ∧ ∃ h' tk m, s₂ = { s with heap := h', toks := tk } ∧ TxtSet w h' s.heap.objs.size m ∧ (∀ x, x ∈ m ↔ x ∈ xs) ∧ ∀ b o, s.heap.get? b = some o → h'.get? b = some o) E)
        F.called_set.init.plain F.entry_set_init (check_set_init_1 isSet ?_)) fun r₂ s₂ hr₂ => ?_
      · have old : ∀ b o, s.heap.get? b = some o → b < s.heap.objs.size := fun b o e => Heap.lt_size e
        obtain ⟨ol, hol, hcl, nl, hdl⟩ := hl
        obtain ⟨ocls, odict, odata, oslots⟩ := ol
        simp only at hcl hdl
        subst hcl; subst hdl
        have hol1 : (s.heap.push { cls := .type "set", dict := none, data := .set #[] 0 (.fresh 0 0 (!w.params.followText "set-order")) }).get? l = some { cls := .type "tuple", dict := odict, data := .seq items nl, slots := oslots } := Heap.get?_push_of_some _ hol
        have isl : (s.heap.push { cls := .type "set", dict := none, data := .set #[] 0 (.fresh 0 0 (!w.params.followText "set-order")) }).IsTuple l items := ⟨_, hol1, rfl, nl, rfl⟩
        have m1 := F.sub_tuple_set
        have m2 := F.sub_tuple_frozenset
        have m3 : (Value.type "tuple" == Value.type "dict") = false := by decide
        unfold Builtin.«set.__init__» noKeywords Builtin.Frozenset.updateFrom
        generalize hPI : pyIter = PI
        wp_walk
        subst hPI
        refine wpAny_pyIter_tuple isl (wpAny_bind (wpAny_runValue ?_))
        have hlt := old l _ hol
        have hne : l ≠ (s.heap.push { cls := .type "set", dict := none, data := .set #[] 0 (.fresh 0 0 (!w.params.followText "set-order")) }).objs.size := by rw [z1]; exact Nat.ne_of_lt (Nat.lt_succ_of_lt hlt)
        refine loop_txt ((Walks.tuple (by simp [hh]) _ l hne items).toS) s.heap.objs.size ?_ xs sz hb (fun i v hv => ?_) items.size 0 _ rfl ⟨⟨_, Heap.get?_push_size _ rfl, rfl, rfl⟩, (isl.push _)⟩
          ⟨[], Nat.le_refl _, fun x => by simp, txt_fresh (Heap.get?_push_of_some _ new1)⟩ fun s' m mv mm _ T => ?_
        · rw [z1]
          simp only [List.mem_cons, List.not_mem_nil, or_false, not_or]
          exact ⟨Nat.ne_of_lt (Nat.lt_succ_self _), Nat.ne_of_gt hlt⟩
        · have hi : i < xs.length := by rw [← sz]; exact (Array.getElem?_eq_some_iff.mp hv).1
          obtain ⟨t, e⟩ := SS.strs_at hit i v (by rw [Array.getElem?_toList]; exact hv)
          exact ⟨xs[i], t, List.getElem?_eq_getElem hi, by rw [e, List.getD_eq_getElem?_getD, List.getElem?_eq_getElem hi] <;> rfl⟩
        · obtain ⟨h', g2, d', tk', os'⟩ := s'
          have eg : g2 = s.gens := mv.gens
          have ed : d' = s.drawn := mv.drawn
          have eo : os' = s.os := mv.os
          subst eg; subst ed; subst eo
          refine wpAny_pure ?_
          show wpAny _ _ (ret Value.none) _ _ _
          refine wpAny_pure ⟨rfl, h', tk', m, rfl, T, mm, fun b o e => ?_⟩
          have hb1 := old b o e
          refine mv.heap b o ?_ (Heap.get?_push_of_some _ (Heap.get?_push_of_some _ e))
          rw [z1]
          simp only [List.mem_cons, List.not_mem_nil, or_false, not_or]
          exact ⟨Nat.ne_of_lt hb1, Nat.ne_of_lt (Nat.lt_succ_of_lt hb1)⟩
      · cases r₂ with
        | error e => exact hr₂
        | ok fl₂ =>
          cases fl₂ with
          | ret r =>
            obtain ⟨rfl, h', tk, m, rfl, T, mm, keep⟩ := hr₂
            repeat (any_goals (first | assumption | wp_step))
            exact hQ _ _ _ T mm keep
          | _ => exact hr₂.elim
    | _ => exact hr.elim
end
end PV

set_option Elab.async false
set_option linter.all false
set_option maxRecDepth 100000
set_option maxHeartbeats 1000000
/-! PV: len(set(..)), sorted(set(..)) of texts. -/
namespace PV
open PySem L2 PyProof.Rows PySem.Spec
section
variable {P : Program} {w : World} {a : Addr} {l : List Str} {A : Around} {E : Value → Shared → Prop} {s : Shared}
theorem strs_txt {w : World} : ∀ {vs : List Value} {es : List (Int × Value)}, (∀ v ∈ vs, ∃ x t, v = Value.str x t) → StrsAre vs (vs.map fun v => txtOf ((0 : Int), v))
  | [], es, h => .nil
  | v :: vs, es, h => by
    obtain ⟨x, t, rfl⟩ := h v List.mem_cons_self
    exact .cons x t (strs_txt (w := w) (es := es) fun u hu => h u (List.mem_cons_of_mem _ hu))
theorem sorted_txt {Q : Value → Shared → Prop} (R : TxtSet w s.heap a l) (hh : A.handled = none) (h64 : l.length < 64)
    (hQ : ∀ s' p (out : Array Value) (c : Nat) (ys : List Str), (∀ b o, s.heap.get? b = some o → s'.heap.get? b = some o) → s'.gens = s.gens → s'.os = s.os → s.heap.objs.size ≤ p →
      s'.heap.get? p = some (seqObj "list" out c) → StrsAre out.toList ys → ys.Perm l → sortedS ys = true → Q (.ref p) s') :
    wpAny (model P w) A (call (.builtin "sorted") [.ref a]) Q E s := by
  obtain ⟨⟨o, es, ep, t, ho, hex, hd, g, pm0, hb, hf, hr, hl⟩, nd⟩ := R
  refine Calls.call_function_entry kind_sorted plain_sorted entry_sorted (args_sorted1 _) ?_
  unfold Builtin.«sorted»
  refine wpAny_bind (m := checkCount "sorted" 1 1 _) (wpAny_pure ?_)
  refine wpAny_bind (collect_set (A := A.in1) hh ⟨o, ho, hex.1, hd⟩ hf hb hr hl fun s1 vs k1 hz g1 o1 pm => ?_)
  have hS : StrsAre vs (vs.map fun v => txtOf ((0 : Int), v)) := strs_txt (w := w) (es := []) fun v hv => by
    obtain ⟨e, he, q⟩ := List.mem_map.mp (pm.mem_iff.mp hv)
    obtain ⟨x, t, h1, _⟩ := g e he
    exact ⟨x, t, by rw [← q]; exact h1⟩
  have pk : (vs.map fun v => txtOf ((0 : Int), v)).Perm l := by
    have q := pm.map fun v => txtOf ((0 : Int), v)
    rw [List.map_map] at q
    exact q.trans pm0
  have hvl : vs.length = l.length := by rw [← pk.length_eq, List.length_map]
  refine wpAny_bind (wpAny_newList ?_ (by rw [hvl, sizeLine_eq]; omega))
  have hoL : (s1.heap.push (seqObj "list" vs.toArray 0)).get? s1.heap.objs.size = some (seqObj "list" vs.toArray 0) := Heap.get?_push_size _ rfl
  refine wpAny_bind (wpAny_holding (wpAny_call_entry slot_list_sort ⟨_, hoL, rfl⟩ entry_list_sort
    (list_sort_treeK strKind_oneLt (s := { s1 with heap := s1.heap.push (seqObj "list" vs.toArray 0) }) hoL hS.keysOf (fun v₁ v₂ rest e => keyKind_strs (by rw [← e]; exact hS)) (by rw [hvl]; exact h64) fun st' hp hs => ⟨_, rfl, ?_⟩) (args_list_sort _)))
  obtain ⟨ys, a1, a2, a3⟩ := sorted_out_str hS hp hs
  obtain ⟨c, hc⟩ := sortedHeap_at (vs := vs) (out := (arrOf st').map (·.2)) hoL
  refine wpAny_pure ⟨_, rfl, hQ _ s1.heap.objs.size _ c ys (fun b u e => ?_) g1 o1 hz hc a1 (a2.trans pk) a3⟩
  have q := k1 b u e
  have hlt := Heap.lt_size q
  show (sortedHeap (s1.heap.push (seqObj "list" vs.toArray 0)) s1.heap.objs.size vs ((arrOf st').map (·.2))).get? b = some u
  rw [sortedHeap_old (Nat.ne_of_lt hlt) (by rw [size_push']; exact Nat.lt_succ_of_lt hlt)]
  exact Heap.get?_push_of_some _ q
end
section
variable {X : Cx} {call : Call} {e : Expr} {xs : List PV.X} {p p2 p3 pos : Pos} {K : KW} {F H : Hp}
/-- a list or a tuple of texts -/
theorem seq_txt {pins : List (Addr × PySem.Obj)} {σ : Sg} {s : Shared} {d : D} {ds : List D} {ys : List Str} {x : V} {v : Value} {Q : Value → Shared → Prop} (I : L2.Inv X pins σ H s) (hc : X.calm = true) (hs : Sub F H) (h : RepT X.kw F H d x) (rx : L2.RelV x v) (h1 : asL d = some ds) (h2 : ds.mapM asS = some ys) (hl : ys.length < 64)
    (hQ : ∀ (h' : Heap) (tk : Nat) (m : List Str) (a : Addr), TxtSet X.w h' a m → (∀ x, x ∈ m ↔ x ∈ ys) → L2.Inv X pins σ H { s with heap := h', toks := tk } → Q (.ref a) { s with heap := h', toks := tk }) :
    wpAny (model X.prog X.w) X.A (PySem.call (.type "set") [v]) Q X.xe s := by
  obtain rfl := mapS_of h2
  have hb : ys.length + 1 < scanBound := by unfold scanBound; omega
  cases d with
  | list zs =>
    cases h1
    obtain ⟨a, vs, rfl, q1, r1⟩ := repT_lst h
    obtain rfl := repL_str.mp r1
    obtain ⟨its, rv, pl, hz⟩ := I.list (.inl q1)
    obtain rfl : v = Value.ref a := rx
    exact set_list ys (I.ok.hd hc) pl.isList (by simpa using strsAre_of rv) hb fun h' tk m T mm k => hQ h' tk m _ T mm (I.kept k)
  | tuple zs =>
    cases h1
    obtain ⟨a, vs, rfl, q1, r1⟩ := repT_tup h
    obtain rfl := repL_str.mp r1
    obtain ⟨its, rv, pl, hz⟩ := I.tuple (q1.sub hs).sq
    obtain rfl : v = Value.ref a := rx
    exact set_tuple ys (I.ok.hd hc) (show s.heap.IsTuple a its.toArray from pl) (by simpa using strsAre_of rv) hb fun h' tk m T mm k => hQ h' tk m _ T mm (I.kept k)
  | none => cases h1
  | bool b => cases h1
  | int i => cases h1
  | str x => cases h1
  | dict k => cases h1
theorem e_lset (hm : X.mg "len" = none) (hm2 : X.mg "set" = none) (ha : PA X [e] (tOps X.kw call xs)) (hc : X.calm = true := by rfl) (hg : Gl X "len" := by rfl) (hg2 : Gl X "set" := by rfl) (hs : starEach [e] X.env = (false, eval e X.env) :: starEach [] X.env := by rfl) :
    PE X (.Call (.Name "len" p) [.Call (.Name "set" p2) [e] [] p3] [] pos) (tEv X.kw call (.blt .lset xs)) := by
  refine ⟨fun pins s σ H Q I q => ?_⟩
  have t := t_blt q
  refine Call_ (ld_blt I hg hm boot_len ?_)
  refine PyProof.Rows.callWith_builtin1 (PyProof.Rows.args_cons ?_ rfl) rfl rfl
  refine Call_ (ld_blt I hg2 hm2 boot_set (PyProof.Rows.callWith_type1 (thn (ha.run p3 pins s σ H _ I t) fun us s1 ⟨vs, H1, I1, r1, F1, ds, r, w, h0, hs1, hd, q1⟩ => ?_) hs rfl))
  unfold opBlt at h0
  split at h0 <;> try (first | (exfalso; assumption) | (rename_i hk; cases hk; done))
  all_goals try (cases h0; done)
  rename_i d
  simp only [Option.bind_eq_bind, Option.bind_eq_some_iff] at h0
  obtain ⟨zs, h1, ys, h2, h3⟩ := h0
  split at h3
  · rename_i hl
    cases h3
    obtain ⟨x, rfl, hx⟩ := hd.one
    obtain ⟨u, rfl, rx⟩ := vals1 r1
    refine seq_txt I1 hc hs1 hx rx h1 h2 hl fun h' tk m a T mm I2 => PyProof.Rows.args_nil ?_
    have hm' := (dedupS_one T.nd mm).length_eq
    obtain ⟨⟨o, es, ep, t, ho, hex, hd', g, pm, hb, hf, _⟩, _⟩ := T
    have sz : es.size = (dedupS ys).length := by rw [← hm', ← pm.length_eq, List.length_map, Array.length_toList]
    refine call_len_set ho hex hd' hf (by unfold scanBound at hb; omega) ⟨.int (dedupS ys).length, H1, I2.tok _, ⟨_, by rw [sz]⟩, q1.val hs1 rep_int⟩
  · cases h3
theorem e_sset (hm : X.mg "sorted" = none) (hm2 : X.mg "set" = none) (ha : PA X [e] (tOps X.kw call xs)) (hc : X.calm = true := by rfl) (hg : Gl X "sorted" := by rfl) (hg2 : Gl X "set" := by rfl) (hs : starEach [e] X.env = (false, eval e X.env) :: starEach [] X.env := by rfl) :
    PE X (.Call (.Name "sorted" p) [.Call (.Name "set" p2) [e] [] p3] [] pos) (tEv X.kw call (.blt .sset xs)) := by
  refine ⟨fun pins s σ H Q I q => ?_⟩
  have t := t_blt q
  refine Call_ (ld_blt I hg hm (by decide +kernel : bootBuiltins "sorted" = some (.builtin "sorted")) ?_)
  refine PyProof.Rows.callWith_builtin1 (PyProof.Rows.args_cons ?_ rfl) rfl rfl
  refine Call_ (ld_blt I hg2 hm2 boot_set (PyProof.Rows.callWith_type1 (thn (ha.run p3 pins s σ H _ I t) fun us s1 ⟨vs, H1, I1, r1, F1, ds, r, w, h0, hs1, hd, q1⟩ => ?_) hs rfl))
  unfold opBlt at h0
  split at h0 <;> try (first | (exfalso; assumption) | (rename_i hk; cases hk; done))
  all_goals try (cases h0; done)
  rename_i d
  simp only [Option.bind_eq_bind, Option.bind_eq_some_iff] at h0
  obtain ⟨zs, h1, ys, h2, h3⟩ := h0
  split at h3
  · rename_i hl
    cases h3
    obtain ⟨x, rfl, hx⟩ := hd.one
    obtain ⟨u, rfl, rx⟩ := vals1 r1
    refine seq_txt I1 hc hs1 hx rx h1 h2 hl fun h' tk m a T mm I2 => PyProof.Rows.args_nil ?_
    have pm := dedupS_one T.nd mm
    have h64 : m.length < 64 := by rw [pm.length_eq]; exact Nat.lt_of_le_of_lt (dedupS_len ys) hl
    refine sorted_txt T (I2.ok.hd hc) h64 fun s' p out c zs k g o hp hg' hi hperm hsrt => ?_
    have ez : zs = sortS (dedupS ys) := sorted_one (hperm.trans pm) hsrt
    have hlen : (zs.map V.str).length ≤ sizeLine := by rw [List.length_map, hperm.length_eq, sizeLine_eq]; omega
    have hn : H1 p = Option.none := I2.hok.fresh hp
    have J : L2.Inv X pins σ (upd H1 p (.lst (zs.map V.str))) { s' with os := ({ s1 with heap := h', toks := tk } : Shared).os } := by
      rw [← o]
      have J0 : L2.Inv X pins σ (upd H1 p (.lst (zs.map V.str))) { ({ s1 with heap := h', toks := tk } : Shared) with heap := s'.heap, gens := s'.gens, drawn := s'.drawn, toks := s'.toks } :=
        I2.call (ch := []) (Un.laid k hp hn) (I2.hok.laid k hp ⟨hlen, out.toList, c, vals_of_strs hi, hg'⟩) (by rw [g]; exact I2.bare) (fun _ z => nomatch z)
      have e : s' = { ({ s1 with heap := h', toks := tk } : Shared) with heap := s'.heap, gens := s'.gens, drawn := s'.drawn, toks := s'.toks } := by
        cases s'
        cases o
        rfl
      rw [e]
      exact J0
    have e2 : ({ s' with os := ({ s1 with heap := h', toks := tk } : Shared).os } : Shared) = s' := by
      cases s'
      cases o
      rfl
    rw [e2] at J
    refine ⟨.ref p, _, J, rfl, ?_⟩
    rw [ez]
    exact q1.newL hs1 (repL_str.mpr rfl) hn
  · cases h3
end
end PV

set_option Elab.async false
set_option linter.all false
set_option maxRecDepth 100000
set_option maxHeartbeats 1000000
/-! PV: the laws' own draws. -/
namespace PV
open PySem
def fBag : Fn := ⟨2, 5, [.asg (.nm 2) (.cst (.int 0)), .ife (.cmp .lt (.var 1) (.blt .len [.var 0])) [.asg (.nm 2) (.bin .mod (.blt .int [.idx (.var 0) (.var 1)]) (.bin .pow (.cst (.int 10)) (.cst (.int 60))))] [], .asg (.nm 3) (.bin .add (.bin .mul (.bin .mod (.blt .int [.var 2]) (.cst (.int 2147483629))) (.cst (.int 16807))) (.bin .mul (.bin .mul (.cst (.int 40009)) (.var 1)) (.var 1))), .asg (.nm 4) (.bin .add (.cst (.int 1)) (.bin .mod (.blt .int [.bin .add (.bin .add (.var 3) (.bin .mul (.cst (.int 7919)) (.var 1))) (.cst (.int 1009))]) (.cst (.int 2147483645)))), .ife (.cmp .lt (.var 2) (.bin .pow (.cst (.int 10)) (.cst (.int 18)))) [.ret (.lst [.cst (.int 0), .var 4])] [], .ret (.lst [.var 2, .var 4])]⟩
def fTake : Fn := ⟨2, 4, [.ife (.cmp .gt (.idx (.var 0) (.cst (.int 0))) (.cst (.int 0))) [.asg (.nm 2) (.bin .mod (.blt .int [.idx (.var 0) (.cst (.int 0))]) (.var 1)), .set 0 (.cst (.int 0)) (.bin .fdiv (.blt .int [.idx (.var 0) (.cst (.int 0))]) (.var 1)), .ret (.var 2)] [], .set 0 (.cst (.int 1)) (.bin .mod (.blt .int [.bin .mul (.idx (.var 0) (.cst (.int 1))) (.cst (.int 48271))]) (.cst (.int 2147483647))), .asg (.nm 3) (.bin .mul (.bin .fdiv (.blt .int [.idx (.var 0) (.cst (.int 1))]) (.cst (.int 13))) (.bin .add (.bin .mod (.blt .int [.idx (.var 0) (.cst (.int 1))]) (.cst (.int 32749))) (.cst (.int 17)))), .ret (.bin .mod (.blt .int [.bin .fdiv (.bin .mod (.blt .int [.var 3]) (.cst (.int 2147483629))) (.cst (.int 32))]) (.var 1))]⟩
def fOf (iTake : Nat) : Fn := ⟨2, 2, [.ret (.idx (.var 1) (.cal iTake [.var 0, .blt .len [.var 1]] []))]⟩
def fNames (iOf : Nat) : Fn := ⟨1, 3, [.asg (.nm 1) (.cal iOf [.var 0, .lst [.lst [.cst (.str "s"), .cst (.str "t"), .cst (.str "u")], .lst [.cst (.str "a"), .cst (.str "b"), .cst (.str "c")], .lst [.cst (.str "data"), .cst (.str "file"), .cst (.str "list")]]] []), .asg (.nm 2) (.lst [.lst [.cst (.str "x"), .cst (.str "y"), .cst (.str "page"), .cst (.str "w"), .cst (.str "z")], .lst [.cst (.str "news"), .cst (.str "m"), .cst (.str "mm"), .cst (.str "k"), .cst (.str "zz")], .lst [.cst (.str "one"), .cst (.str "two"), .cst (.str "three"), .cst (.str "four"), .cst (.str "five")]]), .ret (.tup [.var 1, .cal iOf [.var 0, .var 2] []])]⟩
def fSome (iTake iOf : Nat) : Fn := ⟨3, 5, [.asg (.nm 3) (.lst [.idx (.var 1) (.bin .sub (.cst (.int (-1))) (.cal iTake [.var 0, .blt .min2 [.cst (.int 2), .blt .len [.var 1]]] []))]), .for (.nm 4) .rng1 [.cal iTake [.var 0, .var 2] []] [.app 3 (.cal iOf [.var 0, .var 1] [])] [4], .ret (.blt .tuple [.blt .sset [.var 3]])]⟩
def bagD (c s : Int) : D := .list [.int c, .int s]
/-- a number below n is drawn -/
def TakeOk (call : Call) (i : Nat) : Prop := ∀ c s n : Int, 0 < n → n < 1073741824 → ∃ r c' s' : Int, call i [(bagD c s, true), (.int n, false)] = some (.int r, false, [.bo (bagD c' s'), .no]) ∧ 0 ≤ r ∧ r < n
theorem take_ok (call : Call) (c s n : Int) (hn : 0 < n) (hn2 : n < 1073741824) : ∃ r c' s', runF call fTake [(bagD c s, true), (.int n, false)] = some (.int r, false, [.bo (bagD c' s'), .no]) ∧ 0 ≤ r ∧ r < n := by
  have h0 : n ≠ 0 := by omega
  have h1 : n.natAbs < 1073741824 := by omega
  unfold bagD
  by_cases hc : 0 < c
  · refine ⟨c.fmod n, c.fdiv n, s, ?_, Int.fmod_nonneg_of_pos _ hn, Int.fmod_lt_of_pos _ hn⟩
    simp [fTake, runF, envOf, slotA, evSs, evS, ev, opn, fetch, evOs, evs, evOI, evAnd, evOr, evIfs, evRs, fetchAll, opIdx, opCmp, opBin, opBlt, opSlc, opMthK, opMth, opIn, opLt, kindD, isTy, asB, asI, asL, dOk, atI, ixN, setS, asgT, setAll, setPar, setAt, appAt, ownL, popD, calL, slotsOf, distinct, lend, giveBack, isSl, lents, lentS, killS, wipeP, back, forL, itemsOf, hc, h0, h1]
  · have hm : ∀ x : Int, mulOk x (((s * 48271).fmod 2147483647).fmod 32749 + 17) = true := fun x => by
      have := Int.fmod_nonneg_of_pos ((s * 48271).fmod 2147483647) (show (0 : Int) < 32749 by decide)
      have := Int.fmod_lt_of_pos ((s * 48271).fmod 2147483647) (show (0 : Int) < 32749 by decide)
      simp only [mulOk, Bool.or_eq_true, Bool.and_eq_true, decide_eq_true_eq]
      right
      omega
    have hm2 : mulOk s 48271 = true := by
      simp only [mulOk, Bool.or_eq_true, Bool.and_eq_true, decide_eq_true_eq]
      right
      omega
    refine ⟨Int.fmod (((((s * 48271).fmod 2147483647).fdiv 13 * (((s * 48271).fmod 2147483647).fmod 32749 + 17)).fmod 2147483629).fdiv 32) n, c, (s * 48271).fmod 2147483647, ?_, Int.fmod_nonneg_of_pos _ hn, Int.fmod_lt_of_pos _ hn⟩
    simp [fTake, runF, envOf, slotA, evSs, evS, ev, opn, fetch, evOs, evs, evOI, evAnd, evOr, evIfs, evRs, fetchAll, opIdx, opCmp, opBin, opBlt, opSlc, opMthK, opMth, opIn, opLt, kindD, isTy, asB, asI, asL, dOk, atI, ixN, setS, asgT, setAll, setPar, setAt, appAt, ownL, popD, calL, slotsOf, distinct, lend, giveBack, isSl, lents, lentS, killS, wipeP, back, forL, itemsOf, hc, h0, h1, hm, hm2]
theorem atI_lt {α : Type} {xs : List α} {r : Int} (h0 : 0 ≤ r) (h1 : r < xs.length) : ∃ x, atI xs r = some x ∧ x ∈ xs := by
  have hl : r.toNat < xs.length := by omega
  refine ⟨xs[r.toNat], ?_, List.getElem_mem hl⟩
  simp [atI, ixN, h0, h1, List.getElem?_eq_getElem hl]
/-- a member is drawn -/
def OfOk (call : Call) (i : Nat) : Prop := ∀ (c s : Int) (xs : List D) (w : Bool), xs ≠ [] → xs.length < 1000000 → ∃ (x : D) (c' s' : Int), call i [(bagD c s, true), (.list xs, w)] = some (x, false, [.bo (bagD c' s'), if w then .bo (.list xs) else .no]) ∧ x ∈ xs
theorem of_ok {call : Call} {iTake : Nat} (hT : TakeOk call iTake) (c s : Int) (xs : List D) (w : Bool) (hne : xs ≠ []) (hl : xs.length < 1000000) : ∃ (x : D) (c' s' : Int), runF call (fOf iTake) [(bagD c s, true), (.list xs, w)] = some (x, false, [.bo (bagD c' s'), if w then .bo (.list xs) else .no]) ∧ x ∈ xs := by
  have hpos : 0 < xs.length := List.length_pos_iff.mpr hne
  obtain ⟨r, c', s', h, h0, h1⟩ := hT c s xs.length (by omega) (by omega)
  obtain ⟨x, hx, hm⟩ := atI_lt h0 h1
  refine ⟨x, c', s', ?_, hm⟩
  simp only [atI, ixN] at hx
  cases w
  · simp [fOf, runF, envOf, slotA, evSs, evS, ev, opn, fetch, evOs, evs, evOI, evAnd, evOr, evIfs, evRs, fetchAll, opIdx, opCmp, opBin, opBlt, opSlc, opMthK, opMth, opIn, opLt, kindD, isTy, asB, asI, asL, dOk, atI, ixN, setS, asgT, setAll, setPar, setAt, appAt, ownL, popD, calL, slotsOf, distinct, lend, giveBack, isSl, lents, lentS, killS, wipeP, back, forL, itemsOf, h, hx]
  · simp [fOf, runF, envOf, slotA, evSs, evS, ev, opn, fetch, evOs, evs, evOI, evAnd, evOr, evIfs, evRs, fetchAll, opIdx, opCmp, opBin, opBlt, opSlc, opMthK, opMth, opIn, opLt, kindD, isTy, asB, asI, asL, dOk, atI, ixN, setS, asgT, setAll, setPar, setAt, appAt, ownL, popD, calL, slotsOf, distinct, lend, giveBack, isSl, lents, lentS, killS, wipeP, back, forL, itemsOf, h, hx]
/-- a loop none of whose turns leaves -/
theorem forL_nx {step : D → Pl → Option (Fl × Pl)} (I : Nat → Pl → Prop) : ∀ (items : List D) (i : Nat) (ρ : Pl), (∀ j d ρ, items[j]? = some d → I (i + j) ρ → ∃ ρ', step d ρ = some (.nx, ρ') ∧ I (i + j + 1) ρ') → I i ρ → ∃ ρ', forL step items ρ = some (.nx, ρ') ∧ I (i + items.length) ρ'
  | [], i, ρ, _, h => ⟨ρ, rfl, h⟩
  | d :: ds, i, ρ, hs, h => by
    obtain ⟨ρ1, e1, h1⟩ := hs 0 d ρ rfl h
    obtain ⟨ρ2, e2, h2⟩ := forL_nx I ds (i + 1) ρ1 (fun j d' ρ' hd hI => by
      have := hs (j + 1) d' ρ' (by simpa using hd) (by rw [show i + (j + 1) = i + 1 + j by omega]; exact hI)
      rw [show i + (j + 1) + 1 = i + 1 + j + 1 by omega] at this
      exact this) h1
    refine ⟨ρ2, by simp [forL, e1, e2], ?_⟩
    rw [List.length_cons, show i + (ds.length + 1) = i + 1 + ds.length by omega]
    exact h2
theorem bag_ok (call : Call) (ns : List Int) (k : Int) (h0 : 0 ≤ k) (h1 : k < 1000) : ∃ c s, runF call fBag [(.dict (scrD ns), false), (.int k, false)] = some (bagD c s, true, [.no, .no]) := by
  have m1 : ∀ x : Int, mulOk x 16807 = true := fun x => by
    simp only [mulOk, Bool.or_eq_true, Bool.and_eq_true, decide_eq_true_eq]
    right
    omega
  have m2 : ∀ x : Int, mulOk x k = true := fun x => by
    simp only [mulOk, Bool.or_eq_true, Bool.and_eq_true, decide_eq_true_eq]
    right
    omega
  have p1 : (((10 : Int) ^ 60)) ≠ 0 := by decide
  have p2 : (1000000000000000000000000000000000000000000000000000000000000 : Int) ≠ 0 := by decide
  unfold bagD scrD
  by_cases hk : k < ns.length
  · have hl : k.toNat < ns.length := by omega
    by_cases hc : (ns[k.toNat]).fmod 1000000000000000000000000000000000000000000000000000000000000 < 1000000000000000000
    · simp [fBag, runF, envOf, slotA, evSs, evS, ev, opn, fetch, evOs, evs, evOI, evAnd, evOr, evIfs, evRs, fetchAll, opIdx, opCmp, opBin, opBlt, opSlc, opMthK, opMth, opIn, opLt, kindD, isTy, asB, asI, asL, dOk, atI, ixN, setS, asgT, setAll, setPar, setAt, appAt, ownL, popD, calL, slotsOf, distinct, lend, giveBack, isSl, lents, lentS, killS, wipeP, back, forL, itemsOf, m1, m2, hk, h0, List.getElem?_eq_getElem hl, hc]
    · simp [fBag, runF, envOf, slotA, evSs, evS, ev, opn, fetch, evOs, evs, evOI, evAnd, evOr, evIfs, evRs, fetchAll, opIdx, opCmp, opBin, opBlt, opSlc, opMthK, opMth, opIn, opLt, kindD, isTy, asB, asI, asL, dOk, atI, ixN, setS, asgT, setAll, setPar, setAt, appAt, ownL, popD, calL, slotsOf, distinct, lend, giveBack, isSl, lents, lentS, killS, wipeP, back, forL, itemsOf, m1, m2, hk, h0, List.getElem?_eq_getElem hl, hc]
  · simp [fBag, runF, envOf, slotA, evSs, evS, ev, opn, fetch, evOs, evs, evOI, evAnd, evOr, evIfs, evRs, fetchAll, opIdx, opCmp, opBin, opBlt, opSlc, opMthK, opMth, opIn, opLt, kindD, isTy, asB, asI, asL, dOk, atI, ixN, setS, asgT, setAll, setPar, setAt, appAt, ownL, popD, calL, slotsOf, distinct, lend, giveBack, isSl, lents, lentS, killS, wipeP, back, forL, itemsOf, m1, m2, hk, h0]
def SS : List (List Str) := [["s", "t", "u"], ["a", "b", "c"], ["data", "file", "list"]]
def TT : List (List Str) := [["x", "y", "page", "w", "z"], ["news", "m", "mm", "k", "zz"], ["one", "two", "three", "four", "five"]]
def txts (xs : List Str) : List D := xs.map .str
def NamesOk (call : Call) (i : Nat) : Prop := ∀ c s : Int, ∃ (ss ts : List Str) (c' s' : Int), call i [(bagD c s, true)] = some (.tuple [.list (txts ss), .list (txts ts)], false, [.bo (bagD c' s')]) ∧ ss ∈ SS ∧ ts ∈ TT
theorem lnames_ok {call : Call} {iOf : Nat} (hO : OfOk call iOf) (c s : Int) : ∃ (ss ts : List Str) (c' s' : Int), runF call (fNames iOf) [(bagD c s, true)] = some (.tuple [.list (txts ss), .list (txts ts)], false, [.bo (bagD c' s')]) ∧ ss ∈ SS ∧ ts ∈ TT := by
  obtain ⟨x, c1, s1, h1, m1⟩ := hO c s [.list (txts ["s", "t", "u"]), .list (txts ["a", "b", "c"]), .list (txts ["data", "file", "list"])] false (by simp) (by simp)
  obtain ⟨y, c2, s2, h2, m2⟩ := hO c1 s1 [.list (txts ["x", "y", "page", "w", "z"]), .list (txts ["news", "m", "mm", "k", "zz"]), .list (txts ["one", "two", "three", "four", "five"])] true (by simp) (by simp)
  obtain ⟨ss, rfl, m1'⟩ : ∃ ss, x = .list (txts ss) ∧ ss ∈ SS := by
    simp only [List.mem_cons, List.not_mem_nil, or_false] at m1
    rcases m1 with rfl | rfl | rfl
    · exact ⟨_, rfl, by simp [SS]⟩
    · exact ⟨_, rfl, by simp [SS]⟩
    · exact ⟨_, rfl, by simp [SS]⟩
  obtain ⟨ts, rfl, m2'⟩ : ∃ ss, y = .list (txts ss) ∧ ss ∈ TT := by
    simp only [List.mem_cons, List.not_mem_nil, or_false] at m2
    rcases m2 with rfl | rfl | rfl
    · exact ⟨_, rfl, by simp [TT]⟩
    · exact ⟨_, rfl, by simp [TT]⟩
    · exact ⟨_, rfl, by simp [TT]⟩
  refine ⟨ss, ts, c2, s2, ?_, m1', m2'⟩
  simp only [txts, List.map_cons, List.map_nil] at h1 h2
  simp [fNames, runF, envOf, slotA, evSs, evS, ev, opn, fetch, evOs, evs, evOI, evAnd, evOr, evIfs, evRs, fetchAll, opIdx, opCmp, opBin, opBlt, opSlc, opMthK, opMth, opIn, opLt, kindD, isTy, asB, asI, asL, dOk, atI, ixN, setS, asgT, setAll, setPar, setAt, appAt, ownL, popD, calL, slotsOf, distinct, lend, giveBack, isSl, lents, lentS, killS, wipeP, back, forL, itemsOf, h1, h2, txts]
theorem rngD_get {n : Int} {j : Nat} {d : D} (h : (rngD 0 n)[j]? = some d) : d = .int j ∧ (j : Int) < n := by
  simp only [rngD, List.getElem?_map, Option.map_eq_some_iff] at h
  obtain ⟨k, hk, rfl⟩ := h
  obtain ⟨h1, h2⟩ := List.getElem?_eq_some_iff.mp hk
  simp at h1 h2
  subst h2
  exact ⟨by simp, by omega⟩
theorem mapM_strs : ∀ xs : List Str, (xs.map PyData.str).mapM asS = some xs
  | [] => rfl
  | x :: xs => by simp [asS, mapM_strs xs]
theorem mapM_strs' (xs : List Str) : List.mapM (asS ∘ PyData.str) xs = some xs := by
  have := mapM_strs xs
  rwa [List.mapM_map] at this
/-- some of the names, sorted, each once -/
def SomeOk (call : Call) (i : Nat) : Prop := ∀ (c s : Int) (xs : List Str) (most : Int) (w : Bool), xs ≠ [] → xs.length < 1000 → 0 < most → most < 60 →
  ∃ (ys : List Str) (c' s' : Int), call i [(bagD c s, true), (.list (txts xs), w), (.int most, false)] = some (.tuple (txts (sortS (dedupS ys))), false, [.bo (bagD c' s'), if w then .bo (.list (txts xs)) else .no, .no]) ∧ ys ≠ [] ∧ (ys.length : Int) ≤ most ∧ ∀ y ∈ ys, y ∈ xs
theorem some_ok {call : Call} {iTake iOf : Nat} (hT : TakeOk call iTake) (hO : OfOk call iOf) (c s : Int) (xs : List Str) (most : Int) (w : Bool) (hne : xs ≠ []) (hl : xs.length < 1000) (hm : 0 < most) (hm2 : most < 60) :
    ∃ (ys : List Str) (c' s' : Int), runF call (fSome iTake iOf) [(bagD c s, true), (.list (txts xs), w), (.int most, false)] = some (.tuple (txts (sortS (dedupS ys))), false, [.bo (bagD c' s'), if w then .bo (.list (txts xs)) else .no, .no]) ∧ ys ≠ [] ∧ (ys.length : Int) ≤ most ∧ ∀ y ∈ ys, y ∈ xs := by
  have hpos : 0 < xs.length := List.length_pos_iff.mpr hne
  have hmin : ∃ m : Int, 0 < m ∧ m ≤ xs.length ∧ m ≤ 2 ∧ (if (xs.length : Int) < 2 then (xs.length : Int) else 2) = m := by
    split
    · exact ⟨_, by omega, by omega, by omega, rfl⟩
    · exact ⟨_, by omega, by omega, by omega, rfl⟩
  obtain ⟨m, a1, a2, a3, a4⟩ := hmin
  obtain ⟨r, c1, s1, h1, b1, b2⟩ := hT c s m a1 (by omega)
  obtain ⟨q, c2, s2, h2, b3, b4⟩ := hT c1 s1 most hm (by omega)
  -- the first
  have hix : ((xs.length : Int) + (-1 - r)).toNat < xs.length := by omega
  let slot : Slot := if w then .bo (.list (txts xs)) else .fr (.list (txts xs))
  have loop := forL_nx (step := fun d ρ => do
      let ρ ← asgT ρ (.nm 4) d false
      let (f, ρ) ← evSs call [.app 3 (.cal iOf [.var 0, .var 1] [])] ρ
      pure (f, killS ρ [4])) (fun j ρ => ∃ (ys : List Str) (c s : Int), ρ = [.bo (bagD c s), slot, .fr (.int most), .ow (.list (txts ys)), .no] ∧ ys.length = j ∧ (∀ y ∈ ys, y ∈ xs)) (rngD 0 q) 1
      [.bo (bagD c2 s2), slot, .fr (.int most), .ow (.list (txts [xs[((xs.length : Int) + (-1 - r)).toNat]])), .no] (fun j d ρ hd hI => ?_) ⟨[xs[((xs.length : Int) + (-1 - r)).toNat]], c2, s2, rfl, rfl, by simp⟩
  · obtain ⟨ρ', e1, ys, c3, s3, rfl, hlen, hsub⟩ := loop
    have hq : (rngD 0 q).length = q.toNat := by simp [rngD]
    rw [hq] at hlen
    refine ⟨ys, c3, s3, ?_, by rintro rfl; simp at hlen; omega, by omega, hsub⟩
    have hlen64 : ys.length < 64 := by omega
    have n1 : ¬ r ≤ -1 := by omega
    have n2 : -(xs.length : Int) ≤ -1 - r := by omega
    have n3 : smallI q = true := by
      simp only [smallI, Bool.and_eq_true, decide_eq_true_eq]
      omega
    have n4 : (-1 - r + (xs.length : Int)).toNat = ((xs.length : Int) + (-1 - r)).toNat := by rw [Int.add_comm]
    simp only [slot, txts, List.map_cons, List.map_nil] at e1 h1 h2 ⊢
    cases w
    · simp [fSome, runF, envOf, slotA, evSs, evS, ev, opn, fetch, evOs, evs, evOI, evAnd, evOr, evIfs, evRs, fetchAll, opIdx, opCmp, opBin, opBlt, opSlc, opMthK, opMth, opIn, opLt, kindD, isTy, asB, asI, asL, dOk, atI, ixN, setS, asgT, setAll, setPar, setAt, appAt, ownL, popD, calL, slotsOf, distinct, lend, giveBack, isSl, lents, lentS, killS, wipeP, back, forL, itemsOf, a4, h1, h2, n1, n2, n3, n4, List.getElem?_eq_getElem hix, mapM_strs, hlen64, txts] at e1 ⊢
      simp [e1, runF, envOf, slotA, evSs, evS, ev, opn, fetch, evOs, evs, evOI, evAnd, evOr, evIfs, evRs, fetchAll, opIdx, opCmp, opBin, opBlt, opSlc, opMthK, opMth, opIn, opLt, kindD, isTy, asB, asI, asL, dOk, atI, ixN, setS, asgT, setAll, setPar, setAt, appAt, ownL, popD, calL, slotsOf, distinct, lend, giveBack, isSl, lents, lentS, killS, wipeP, back, forL, itemsOf, hlen64, mapM_strs, mapM_strs']
    · simp [fSome, runF, envOf, slotA, evSs, evS, ev, opn, fetch, evOs, evs, evOI, evAnd, evOr, evIfs, evRs, fetchAll, opIdx, opCmp, opBin, opBlt, opSlc, opMthK, opMth, opIn, opLt, kindD, isTy, asB, asI, asL, dOk, atI, ixN, setS, asgT, setAll, setPar, setAt, appAt, ownL, popD, calL, slotsOf, distinct, lend, giveBack, isSl, lents, lentS, killS, wipeP, back, forL, itemsOf, a4, h1, h2, n1, n2, n3, n4, List.getElem?_eq_getElem hix, mapM_strs, hlen64, txts] at e1 ⊢
      simp [e1, runF, envOf, slotA, evSs, evS, ev, opn, fetch, evOs, evs, evOI, evAnd, evOr, evIfs, evRs, fetchAll, opIdx, opCmp, opBin, opBlt, opSlc, opMthK, opMth, opIn, opLt, kindD, isTy, asB, asI, asL, dOk, atI, ixN, setS, asgT, setAll, setPar, setAt, appAt, ownL, popD, calL, slotsOf, distinct, lend, giveBack, isSl, lents, lentS, killS, wipeP, back, forL, itemsOf, hlen64, mapM_strs, mapM_strs']
  · obtain ⟨rfl, hjq⟩ := rngD_get hd
    obtain ⟨ys, c3, s3, rfl, hlen, hsub⟩ := hI
    obtain ⟨x, c4, s4, h3, hx⟩ := hO c3 s3 (txts xs) w (by simpa [txts] using hne) (by simp [txts]; omega)
    obtain ⟨y, hy, rfl⟩ : ∃ y, y ∈ xs ∧ PyData.str y = x := by simpa [txts] using hx
    have hlim : ys.length < LIM := by unfold LIM; omega
    refine ⟨_, ?_, ys ++ [y], c4, s4, rfl, by simp [hlen], fun z hz => ?_⟩
    · simp only [slot, txts, List.map_cons, List.map_nil, List.map_append] at h3 ⊢
      cases w
      · simp [runF, envOf, slotA, evSs, evS, ev, opn, fetch, evOs, evs, evOI, evAnd, evOr, evIfs, evRs, fetchAll, opIdx, opCmp, opBin, opBlt, opSlc, opMthK, opMth, opIn, opLt, kindD, isTy, asB, asI, asL, dOk, atI, ixN, setS, asgT, setAll, setPar, setAt, appAt, ownL, popD, calL, slotsOf, distinct, lend, giveBack, isSl, lents, lentS, killS, wipeP, back, forL, itemsOf, h3, hlim]
      · simp [runF, envOf, slotA, evSs, evS, ev, opn, fetch, evOs, evs, evOI, evAnd, evOr, evIfs, evRs, fetchAll, opIdx, opCmp, opBin, opBlt, opSlc, opMthK, opMth, opIn, opLt, kindD, isTy, asB, asI, asL, dOk, atI, ixN, setS, asgT, setAll, setPar, setAt, appAt, ownL, popD, calL, slotsOf, distinct, lend, giveBack, isSl, lents, lentS, killS, wipeP, back, forL, itemsOf, h3, hlim]
    · rcases List.mem_append.mp hz with hz | hz
      · exact hsub z hz
      · rw [List.mem_singleton.mp hz]
        exact hy
end PV

set_option Elab.async false
set_option linter.all false
set_option maxRecDepth 100000
set_option maxHeartbeats 2000000
/-! PV: the laws' own works. -/
namespace PV
open PySem L2
def fWorks (iTake iOf iNames iSome : Nat) : Fn := ⟨4, 17, [.asg (.tup [4, 5]) (.cal iNames [.var 0] []), .par [6, 7] [.slc (.var 4) none (some (.var 1)), .tup []], .for (.nm 8) .seq [.slc (.var 5) none (some (.var 2))] [.asg (.nm 9) (.cal iSome [.var 0, .var 6, .ite (.cmp .gt (.cal iTake [.var 0, .cst (.int 4)] []) (.cst (.int 0))) (.cst (.int 2)) (.cst (.int 3))] []), .asg (.nm 10) (.cal iOf [.var 0, .lst [.cst (.str "kept"), .cst (.str "kept"), .cst (.str "kept"), .cst (.str "asked"), .cst (.str "asked"), .cst (.str "pushed")]] []), .asg (.nm 7) (.bin .add (.var 7) (.tup [.tup [.var 8, .var 9, .var 10]])), .asg (.nm 6) (.bin .add (.var 6) (.lst [.var 8]))] [8, 9, 10], .asg (.nm 11) (.dic0), .asg (.nm 12) (.cal iOf [.var 0, .lst [.var 3, .var 3, .bin .sub (.var 3) (.cst (.int 1)), .cal iTake [.var 0, .bin .add (.var 3) (.cst (.int 1))] []]] []), .for (.nm 13) .seq [.slc (.lst [.cst (.str "ja"), .cst (.str "jb"), .cst (.str "k"), .cst (.str "refresh")]) none (some (.var 12))] [.par [14, 15] [.tup [], .slc (.var 5) none (some (.var 2))], .for (.nm 16) .rng1 [.bin .add (.cst (.int 1)) (.cal iOf [.var 0, .lst [.cst (.int 0), .cst (.int 0), .cst (.int 0), .cst (.int 1), .cst (.int 2)]] [])] [.ife (.cmp .ne (.var 15) (.lst [])) [.asg (.nm 14) (.bin .add (.var 14) (.tup [.pop 15 [.cal iTake [.var 0, .blt .len [.var 15]] []]]))] []] [16], .set 11 (.var 13) (.var 14)] [13, 14, 15, 16], .ret (.tup [.blt .tuple [.slc (.var 4) none (some (.var 1))], .var 7, .blt .tuple [.lc (.tup [.var 13, .idx (.var 11) (.var 13)]) (.nm 13) .seq [.blt .sorted [.var 11]] [] [13]]])]⟩
def MODES : List Str := ["kept", "asked", "pushed"]
def LABELS : List Str := ["ja", "jb", "k", "refresh"]
def rowD (r : Str × List Str × Str) : D := .tuple [.str r.1, .tuple (txts r.2.1), .str r.2.2]
def jobD (j : Str × List Str) : D := .tuple [.str j.1, .tuple (txts j.2)]
structure Works where
  ss : List Str
  rows : List (Str × List Str × Str)
  jobs : List (Str × List Str)
def worksD (W : Works) : D := .tuple [.tuple (txts W.ss), .tuple (W.rows.map rowD), .tuple (W.jobs.map jobD)]
structure GoodRow (known : List Str) (r : Str × List Str × Str) : Prop where
  parts : ∃ ys : List Str, ys ≠ [] ∧ ys.length ≤ 3 ∧ (∀ y ∈ ys, y ∈ known) ∧ r.2.1 = sortS (dedupS ys)
  mode : r.2.2 ∈ MODES
structure GoodJob (names : List Str) (j : Str × List Str) : Prop where
  ne : j.2 ≠ []
  len : j.2.length ≤ 3
  nd : j.2.Nodup
  sub : ∀ m ∈ j.2, m ∈ names
/-- works as the laws draw them -/
structure WOk (sn tn jn : Int) (W : Works) : Prop where
  ex : ∃ ss0 ∈ SS, ∃ ts0 ∈ TT, W.ss = ss0.take sn.toNat ∧ W.rows.map (·.1) = ts0.take tn.toNat ∧ (∀ (j : Nat) r, W.rows[j]? = some r → GoodRow (W.ss ++ ts0.take j) r) ∧
    (∃ m : Nat, m ≤ jn ∧ W.jobs.map (·.1) = LABELS.take m) ∧ ∀ j ∈ W.jobs, GoodJob (ts0.take tn.toNat) j
theorem cut_to {α : Type} (xs : List α) {v : Int} (h : 0 ≤ v) : cut xs none (some v) = xs.take v.toNat := by
  have h1 : ¬ v < 0 := by omega
  simp only [cut, clip, h1, if_false, List.drop_zero, Nat.sub_zero]
  by_cases h2 : v ≤ xs.length
  · congr 1; omega
  · rw [List.take_of_length_le (by omega), List.take_of_length_le (by omega)]
theorem TT_len {ts : List Str} (h : ts ∈ TT) : ts.length = 5 := by
  simp only [TT, List.mem_cons, List.not_mem_nil, or_false] at h
  rcases h with rfl | rfl | rfl <;> rfl
theorem SS_len {ts : List Str} (h : ts ∈ SS) : ts.length = 3 := by
  simp only [SS, List.mem_cons, List.not_mem_nil, or_false] at h
  rcases h with rfl | rfl | rfl <;> rfl
/-- the rows' loop, one turn -/
theorem works_row {call : Call} {iTake iOf iSome : Nat} (hT : TakeOk call iTake) (hO : OfOk call iOf) (hS : SomeOk call iSome) (c s : Int) (sn tn jn : Int) (a b : Slot) (known : List Str) (rows : List (Str × List Str × Str)) (name : Str) (rest : List Slot)
    (hk : known ≠ []) (hk2 : known.length < 900) (hr : rows.length < 900) :
    ∃ (r : Str × List Str × Str) (c' s' : Int), r.1 = name ∧ GoodRow known r ∧
      evSs call [.asg (.nm 9) (.cal iSome [.var 0, .var 6, .ite (.cmp .gt (.cal iTake [.var 0, .cst (.int 4)] []) (.cst (.int 0))) (.cst (.int 2)) (.cst (.int 3))] []), .asg (.nm 10) (.cal iOf [.var 0, .lst [.cst (.str "kept"), .cst (.str "kept"), .cst (.str "kept"), .cst (.str "asked"), .cst (.str "asked"), .cst (.str "pushed")]] []), .asg (.nm 7) (.bin .add (.var 7) (.tup [.tup [.var 8, .var 9, .var 10]])), .asg (.nm 6) (.bin .add (.var 6) (.lst [.var 8]))]
        (.bo (bagD c s) :: .fr (.int sn) :: .fr (.int tn) :: .fr (.int jn) :: a :: b :: .ow (.list (txts known)) :: .fr (.tuple (rows.map rowD)) :: .fr (.str name) :: .no :: .no :: rest) =
      some (.nx, .bo (bagD c' s') :: .fr (.int sn) :: .fr (.int tn) :: .fr (.int jn) :: a :: b :: .ow (.list (txts (known ++ [name]))) :: .fr (.tuple ((rows ++ [r]).map rowD)) :: .fr (.str name) :: .fr (.tuple (txts r.2.1)) :: .fr (.str r.2.2) :: rest) := by
  obtain ⟨q, c1, s1, h1, b1, b2⟩ := hT c s 4 (by decide) (by decide)
  have hl1 : rows.length + 1 ≤ LIM := by unfold LIM; omega
  have hl2 : known.length + 1 ≤ LIM := by unfold LIM; omega
  have fin : ∀ most : Int, 0 < most → most ≤ 3 → (if 0 < q then (2 : Int) else 3) = most → ∃ (r : Str × List Str × Str) (c' s' : Int), r.1 = name ∧ GoodRow known r ∧
      evSs call [.asg (.nm 9) (.cal iSome [.var 0, .var 6, .ite (.cmp .gt (.cal iTake [.var 0, .cst (.int 4)] []) (.cst (.int 0))) (.cst (.int 2)) (.cst (.int 3))] []), .asg (.nm 10) (.cal iOf [.var 0, .lst [.cst (.str "kept"), .cst (.str "kept"), .cst (.str "kept"), .cst (.str "asked"), .cst (.str "asked"), .cst (.str "pushed")]] []), .asg (.nm 7) (.bin .add (.var 7) (.tup [.tup [.var 8, .var 9, .var 10]])), .asg (.nm 6) (.bin .add (.var 6) (.lst [.var 8]))]
        (.bo (bagD c s) :: .fr (.int sn) :: .fr (.int tn) :: .fr (.int jn) :: a :: b :: .ow (.list (txts known)) :: .fr (.tuple (rows.map rowD)) :: .fr (.str name) :: .no :: .no :: rest) =
      some (.nx, .bo (bagD c' s') :: .fr (.int sn) :: .fr (.int tn) :: .fr (.int jn) :: a :: b :: .ow (.list (txts (known ++ [name]))) :: .fr (.tuple ((rows ++ [r]).map rowD)) :: .fr (.str name) :: .fr (.tuple (txts r.2.1)) :: .fr (.str r.2.2) :: rest) := fun most m1 m2 m3 => by
    obtain ⟨ys, c2, s2, h2, y1, y2, y3⟩ := hS c1 s1 known most true hk (by omega) m1 (by omega)
    obtain ⟨x, c3, s3, h3, hx⟩ := hO c2 s2 (txts ["kept", "kept", "kept", "asked", "asked", "pushed"]) false (by simp [txts]) (by simp [txts])
    obtain ⟨mode, hm, rfl⟩ : ∃ m, m ∈ MODES ∧ PyData.str m = x := by
      simp only [txts, List.map_cons, List.map_nil, List.mem_cons, List.not_mem_nil, or_false] at hx
      rcases hx with rfl | rfl | rfl | rfl | rfl | rfl <;> exact ⟨_, by simp [MODES], rfl⟩
    refine ⟨(name, sortS (dedupS ys), mode), c3, s3, rfl, ⟨⟨ys, y1, by omega, y3, rfl⟩, hm⟩, ?_⟩
    simp only [txts, List.map_cons, List.map_nil, List.map_append] at h2 h3 ⊢
    by_cases hq : 0 < q
    · rw [if_pos hq] at m3
      subst m3
      simp [runF, envOf, slotA, evSs, evS, ev, opn, fetch, evOs, evs, evOI, evAnd, evOr, evIfs, evRs, fetchAll, opIdx, opCmp, opBin, opBlt, opSlc, opMthK, opMth, opIn, opLt, kindD, isTy, asB, asI, asL, dOk, atI, ixN, setS, asgT, setAll, setPar, setAt, appAt, ownL, popD, calL, slotsOf, distinct, lend, giveBack, isSl, lents, lentS, killS, wipeP, back, forL, itemsOf, h1, h2, h3, hq, hl1, hl2, rowD, txts]
    · rw [if_neg hq] at m3
      subst m3
      simp [runF, envOf, slotA, evSs, evS, ev, opn, fetch, evOs, evs, evOI, evAnd, evOr, evIfs, evRs, fetchAll, opIdx, opCmp, opBin, opBlt, opSlc, opMthK, opMth, opIn, opLt, kindD, isTy, asB, asI, asL, dOk, atI, ixN, setS, asgT, setAll, setPar, setAt, appAt, ownL, popD, calL, slotsOf, distinct, lend, giveBack, isSl, lents, lentS, killS, wipeP, back, forL, itemsOf, h1, h2, h3, hq, hl1, hl2, rowD, txts]
  by_cases hq : 0 < q
  · exact fin 2 (by decide) (by decide) (if_pos hq)
  · exact fin 3 (by decide) (by decide) (if_neg hq)
/-! ### data of texts -/
def okS (x : Str) : Prop := okD (.str x) = true
theorem okS_all (x : Str) : okS x := by
  unfold okS okD
  rfl
theorem okAll_iff : ∀ xs : List Str, PyData.plainAll (txts xs) = true ∧ PyData.depthAll (txts xs) = 0
  | [] => ⟨rfl, rfl⟩
  | x :: xs => by
    obtain ⟨h1, h2⟩ := okAll_iff xs
    constructor
    · show (PyData.plain (.str x) && PyData.plainAll (txts xs)) = true
      rw [h1]; rfl
    · show max (PyData.depth (.str x)) (PyData.depthAll (txts xs)) = 0
      rw [h2]; rfl
theorem ok_list' (xs : List Str) : okD (.list (txts xs)) = true := by
  obtain ⟨h1, h2⟩ := okAll_iff xs
  simp only [okD, Bool.and_eq_true, decide_eq_true_eq]
  exact ⟨h1, by show PyData.depthAll (txts xs) + 1 ≤ 64; rw [h2]; decide⟩
theorem ok_tuple' (xs : List Str) : okD (.tuple (txts xs)) = true := by
  obtain ⟨h1, h2⟩ := okAll_iff xs
  simp only [okD, Bool.and_eq_true, decide_eq_true_eq]
  exact ⟨h1, by show PyData.depthAll (txts xs) + 1 ≤ 64; rw [h2]; decide⟩
theorem ok_list {xs : List Str} (h : ∀ x ∈ xs, okS x) : okD (.list (txts xs)) = true := ok_list' xs
theorem ok_tuple {xs : List Str} (h : ∀ x ∈ xs, okS x) : okD (.tuple (txts xs)) = true := ok_tuple' xs
theorem eqv_str (x y : Str) : PyData.eqv (.str x) (.str y) = decide (x = y) := by
  show (x == y) = _
  by_cases h : x = y
  · simp [h]
  · simp [h]
theorem eqv_txts : ∀ xs ys : List Str, PyData.eqvAll (txts xs) (txts ys) = decide (xs = ys)
  | [], [] => by simp [txts, PyData.eqvAll]
  | [], y :: ys => by simp [txts, PyData.eqvAll]
  | x :: xs, [] => by simp [txts, PyData.eqvAll]
  | x :: xs, y :: ys => by
    have ih := eqv_txts xs ys
    simp only [txts, List.map_cons, PyData.eqvAll, eqv_str] at ih ⊢
    rw [ih]
    by_cases h1 : x = y <;> by_cases h2 : xs = ys <;> simp [h1, h2]
theorem any_txts (x : Str) : ∀ ys : List Str, ((txts ys).any fun z => PyData.eqv z (.str x)) = decide (x ∈ ys)
  | [] => by simp [txts]
  | y :: ys => by
    have ih := any_txts x ys
    simp only [txts, List.map_cons, List.any_cons, eqv_str] at ih ⊢
    rw [ih]
    by_cases h1 : y = x
    · simp [h1]
    · have : ¬ x = y := fun z => h1 z.symm
      simp [h1, this]
theorem pyEq_list {xs ys : List Str} (h : ∀ x ∈ xs, okS x) (k : ∀ x ∈ ys, okS x) : pyEq (.list (txts xs)) (.list (txts ys)) = some (decide (xs = ys)) := by
  unfold pyEq
  rw [ok_list h, ok_list k, Bool.and_self, if_pos rfl]
  exact congrArg some (eqv_txts xs ys)
theorem pyEq_str {x y : Str} (h : okS x) (k : okS y) : pyEq (.str x) (.str y) = some (decide (x = y)) := by
  have h : okD (.str x) = true := h
  have k : okD (.str y) = true := k
  unfold pyEq
  rw [h, k, Bool.and_self, if_pos rfl, eqv_str]
theorem opIn_list {x : Str} {ys : List Str} (h : okS x) (k : ∀ x ∈ ys, okS x) : opIn (.str x) (.list (txts ys)) = some (decide (x ∈ ys)) := by
  have h : okD (.str x) = true := h
  unfold opIn
  simp only [h, ok_list k, Bool.and_self, if_true, any_txts]
theorem opIn_tuple {x : Str} {ys : List Str} (h : okS x) (k : ∀ x ∈ ys, okS x) : opIn (.str x) (.tuple (txts ys)) = some (decide (x ∈ ys)) := by
  have h : okD (.str x) = true := h
  unfold opIn
  simp only [h, ok_tuple k, Bool.and_self, if_true, any_txts]
def ALLS : List Str := SS.flatten ++ TT.flatten ++ MODES ++ LABELS
theorem allS_ok : ∀ x ∈ ALLS, okS x := by
  have : (ALLS.all fun x => okD (.str x)) = true := by decide +kernel
  exact fun x hx => List.all_eq_true.mp this x hx
theorem SS_ok {ts : List Str} (h : ts ∈ SS) : ∀ x ∈ ts, okS x := fun x hx => allS_ok x (by
  unfold ALLS
  exact List.mem_append_left _ (List.mem_append_left _ (List.mem_append_left _ (List.mem_flatten.mpr ⟨ts, h, hx⟩))))
theorem TT_ok {ts : List Str} (h : ts ∈ TT) : ∀ x ∈ ts, okS x := fun x hx => allS_ok x (by
  unfold ALLS
  exact List.mem_append_left _ (List.mem_append_left _ (List.mem_append_right _ (List.mem_flatten.mpr ⟨ts, h, hx⟩))))
theorem erase_map {α β : Type} (f : α → β) : ∀ (l : List α) (j : Nat), (l.map f).eraseIdx j = (l.eraseIdx j).map f
  | [], j => by simp
  | x :: xs, 0 => rfl
  | x :: xs, j + 1 => by simp [erase_map f xs j]
/-- a job's thing is drawn -/
theorem pick_turn {call : Call} {iTake : Nat} (hT : TakeOk call iTake) (c s : Int) (a1 a2 a3 a4 a5 a6 a7 a8 a9 a10 a11 a12 a13 t16 : Slot) (mk lf : List Str) (hok : ∀ x ∈ lf, okS x) (hl : lf.length < 1000) (hm : mk.length < 1000) :
    ∃ (c' s' : Int) (mk' lf' : List Str), (lf = [] ∧ mk' = mk ∧ lf' = lf ∨ ∃ y, mk' = mk ++ [y] ∧ lf.Perm (y :: lf')) ∧
    evSs call [.ife (.cmp .ne (.var 15) (.lst [])) [.asg (.nm 14) (.bin .add (.var 14) (.tup [.pop 15 [.cal iTake [.var 0, .blt .len [.var 15]] []]]))] []]
      [.bo (bagD c s), a1, a2, a3, a4, a5, a6, a7, a8, a9, a10, a11, a12, a13, .fr (.tuple (txts mk)), .ow (.list (txts lf)), t16] =
      some (.nx, [.bo (bagD c' s'), a1, a2, a3, a4, a5, a6, a7, a8, a9, a10, a11, a12, a13, .fr (.tuple (txts mk')), .ow (.list (txts lf')), t16]) := by
  have e0 : pyEq (.list (List.map PyData.str lf)) (.list []) = some (decide (lf = [])) := pyEq_list hok (ys := []) (by simp)
  by_cases hlf : lf = []
  · subst hlf
    refine ⟨c, s, mk, [], .inl ⟨rfl, rfl, rfl⟩, ?_⟩
    simp only [List.map_nil] at e0
    simp [runF, envOf, slotA, evSs, evS, ev, opn, fetch, evOs, evs, evOI, evAnd, evOr, evIfs, evRs, fetchAll, opIdx, opCmp, opBin, opBlt, opSlc, opMthK, opMth, opIn, opLt, kindD, isTy, asB, asI, asL, dOk, atI, ixN, setS, asgT, setAll, setPar, setAt, appAt, ownL, popD, calL, slotsOf, distinct, lend, giveBack, isSl, lents, lentS, killS, wipeP, back, forL, itemsOf, txts, e0]
  · have hpos : 0 < lf.length := List.length_pos_iff.mpr hlf
    obtain ⟨r, c1, s1, h1, b1, b2⟩ := hT c s lf.length (by omega) (by omega)
    have hr : r.toNat < lf.length := by omega
    have hsm : smallI r = true := by
      simp only [smallI, Bool.and_eq_true, decide_eq_true_eq]
      omega
    have hlim : mk.length + 1 ≤ LIM := by unfold LIM; omega
    refine ⟨c1, s1, mk ++ [lf[r.toNat]], lf.eraseIdx r.toNat, .inr ⟨_, rfl, (erase_perm lf r.toNat _ (List.getElem?_eq_getElem hr)).symm⟩, ?_⟩
    simp [runF, envOf, slotA, evSs, evS, ev, opn, fetch, evOs, evs, evOI, evAnd, evOr, evIfs, evRs, fetchAll, opIdx, opCmp, opBin, opBlt, opSlc, opMthK, opMth, opIn, opLt, kindD, isTy, asB, asI, asL, dOk, atI, ixN, setS, asgT, setAll, setPar, setAt, appAt, ownL, popD, calL, slotsOf, distinct, lend, giveBack, isSl, lents, lentS, killS, wipeP, back, forL, itemsOf, txts, e0, hlf, h1, hsm, b1, b2, hlim, List.getElem?_eq_getElem hr, erase_map]
def kvsD (jobs : List (Str × List Str)) : List (D × D) := jobs.map fun j => (.str j.1, .tuple (txts j.2))
theorem put_new (l : Str) (mk : List Str) (jobs : List (Str × List Str)) (h : l ∉ jobs.map (·.1)) : dPut (.str l) (.tuple (txts mk)) (kvsD jobs) = kvsD (jobs ++ [(l, mk)]) := by
  have : ((kvsD jobs).any fun p => PyData.eqv p.1 (.str l)) = false := by
    rw [List.any_eq_false]
    intro p hp
    obtain ⟨j, hj, rfl⟩ := List.mem_map.mp hp
    simp only [eqv_str, decide_eq_true_eq]
    rintro rfl
    exact h (List.mem_map.mpr ⟨j, hj, rfl⟩)
  unfold dPut
  rw [this, if_neg Bool.false_ne_true]
  simp [kvsD]
theorem get_job {jobs : List (Str × List Str)} (nd : (jobs.map (·.1)).Nodup) {j : Str × List Str} (hj : j ∈ jobs) : dGet (.str j.1) (kvsD jobs) = some (.tuple (txts j.2)) := by
  induction jobs with
  | nil => cases hj
  | cons k ks ih =>
    rw [List.map_cons, List.nodup_cons] at nd
    show (if PyData.eqv (.str k.1) (.str j.1) then some (PyData.tuple (txts k.2)) else dGet (.str j.1) (kvsD ks)) = _
    rw [eqv_str]
    rcases List.mem_cons.mp hj with rfl | hj
    · simp
    · have : k.1 ≠ j.1 := fun e => nd.1 (e ▸ List.mem_map.mpr ⟨j, hj, rfl⟩)
      simp [this, ih nd.2 hj]
theorem plain_kvs (jobs : List (Str × List Str)) : plainD (kvsD jobs) = true := by
  cases jobs <;> rfl
theorem TT_nodup {ts : List Str} (h : ts ∈ TT) : ts.Nodup := by
  simp only [TT, List.mem_cons, List.not_mem_nil, or_false] at h
  rcases h with rfl | rfl | rfl <;> decide +kernel
/-- one job is drawn -/
theorem job_turn {call : Call} {iTake iOf : Nat} (hT : TakeOk call iTake) (hO : OfOk call iOf) (c s tn : Int) (a1 a3 a4 a6 a7 a8 a9 a10 a12 : Slot) (ts : List Str) (hts : ts ∈ TT) (h1 : 1 ≤ tn) (h2 : tn ≤ 5) (l : Str) (jobs : List (Str × List Str)) (hl : l ∉ jobs.map (·.1)) (hj : jobs.length < 1000) :
    ∃ (c' s' : Int) (mk lf : List Str), GoodJob (ts.take tn.toNat) (l, mk) ∧
    evSs call [.par [14, 15] [.tup [], .slc (.var 5) none (some (.var 2))], .for (.nm 16) .rng1 [.bin .add (.cst (.int 1)) (.cal iOf [.var 0, .lst [.cst (.int 0), .cst (.int 0), .cst (.int 0), .cst (.int 1), .cst (.int 2)]] [])] [.ife (.cmp .ne (.var 15) (.lst [])) [.asg (.nm 14) (.bin .add (.var 14) (.tup [.pop 15 [.cal iTake [.var 0, .blt .len [.var 15]] []]]))] []] [16], .set 11 (.var 13) (.var 14)]
      [.bo (bagD c s), a1, .fr (.int tn), a3, a4, .fr (.list (txts ts)), a6, a7, a8, a9, a10, .ow (.dict (kvsD jobs)), a12, .fr (.str l), .no, .no, .no] =
      some (.nx, [.bo (bagD c' s'), a1, .fr (.int tn), a3, a4, .fr (.list (txts ts)), a6, a7, a8, a9, a10, .ow (.dict (kvsD (jobs ++ [(l, mk)]))), a12, .fr (.str l), .fr (.tuple (txts mk)), .ow (.list (txts lf)), .no]) := by
  obtain ⟨x, c1, s1, h3, hx⟩ := hO c s [.int 0, .int 0, .int 0, .int 1, .int 2] false (by simp) (by simp)
  obtain ⟨n, hn0, hn2, rfl⟩ : ∃ n : Int, 0 ≤ n ∧ n ≤ 2 ∧ x = .int n := by
    simp only [List.mem_cons, List.not_mem_nil, or_false] at hx
    rcases hx with rfl | rfl | rfl | rfl | rfl <;> exact ⟨_, by decide, by decide, rfl⟩
  have nd : (ts.take tn.toNat).Nodup := (List.take_sublist _ _).nodup (TT_nodup hts)
  have hlen : (ts.take tn.toNat).length = tn.toNat := by rw [List.length_take, TT_len hts]; omega
  have ok : ∀ x ∈ ts.take tn.toNat, okS x := fun x hx => TT_ok hts x (List.mem_of_mem_take hx)
  have loop := forL_nx (step := fun d ρ => do
      let ρ ← asgT ρ (.nm 16) d false
      let (f, ρ) ← evSs call [.ife (.cmp .ne (.var 15) (.lst [])) [.asg (.nm 14) (.bin .add (.var 14) (.tup [.pop 15 [.cal iTake [.var 0, .blt .len [.var 15]] []]]))] []] ρ
      pure (f, killS ρ [16])) (fun i ρ => ∃ (c s : Int) (mk lf : List Str), ρ = [.bo (bagD c s), a1, .fr (.int tn), a3, a4, .fr (.list (txts ts)), a6, a7, a8, a9, a10, .ow (.dict (kvsD jobs)), a12, .fr (.str l), .fr (.tuple (txts mk)), .ow (.list (txts lf)), .no] ∧
        mk.length ≤ i ∧ (mk ++ lf).Perm (ts.take tn.toNat) ∧ (1 ≤ i → mk ≠ [])) (rngD 0 (1 + n)) 0
      [.bo (bagD c1 s1), a1, .fr (.int tn), a3, a4, .fr (.list (txts ts)), a6, a7, a8, a9, a10, .ow (.dict (kvsD jobs)), a12, .fr (.str l), .fr (.tuple []), .ow (.list (txts (ts.take tn.toNat))), .no] (fun j d ρ hd hI => ?_)
      ⟨c1, s1, [], ts.take tn.toNat, rfl, Nat.le_refl _, by simp, by simp⟩
  · obtain ⟨ρ', e1, c2, s2, mk, lf, rfl, m1, m2, m3⟩ := loop
    have hq : 0 + (rngD 0 (1 + n)).length = (1 + n).toNat := by simp [rngD]
    rw [hq] at m1 m3
    have nd2 : (mk ++ lf).Nodup := m2.nodup_iff.mpr nd
    refine ⟨c2, s2, mk, lf, ⟨m3 (by omega), by simp only; omega, (List.sublist_append_left mk lf).nodup nd2, fun m hm => m2.mem_iff.mp (List.mem_append_left _ hm)⟩, ?_⟩
    have n3 : smallI (1 + n) = true := by
      simp only [smallI, Bool.and_eq_true, decide_eq_true_eq]
      omega
    have n4 : cut (List.map PyData.str ts) none (some tn) = List.map PyData.str (List.take tn.toNat ts) := by rw [cut_to _ (by omega), List.map_take]
    have n5 : (kvsD jobs).length < LIM := by simp only [kvsD, List.length_map]; unfold LIM; omega
    have n6 : dPut (.str l) (.tuple (List.map PyData.str mk)) (kvsD jobs) = kvsD (jobs ++ [(l, mk)]) := put_new l mk jobs hl
    simp only [txts] at e1 h3 ⊢
    simp [runF, envOf, slotA, evSs, evS, ev, opn, fetch, evOs, evs, evOI, evAnd, evOr, evIfs, evRs, fetchAll, opIdx, opCmp, opBin, opBlt, opSlc, opMthK, opMth, opIn, opLt, kindD, isTy, asB, asI, asL, dOk, atI, ixN, setS, asgT, setAll, setPar, setAt, appAt, ownL, popD, calL, slotsOf, distinct, lend, giveBack, isSl, lents, lentS, killS, wipeP, back, forL, itemsOf, h3, n3, n4, n5, n6, keyOk, plain_kvs] at e1 ⊢
    simp [runF, envOf, slotA, evSs, evS, ev, opn, fetch, evOs, evs, evOI, evAnd, evOr, evIfs, evRs, fetchAll, opIdx, opCmp, opBin, opBlt, opSlc, opMthK, opMth, opIn, opLt, kindD, isTy, asB, asI, asL, dOk, atI, ixN, setS, asgT, setAll, setPar, setAt, appAt, ownL, popD, calL, slotsOf, distinct, lend, giveBack, isSl, lents, lentS, killS, wipeP, back, forL, itemsOf, e1, n5, n6, keyOk, plain_kvs]
  · obtain ⟨rfl, hjq⟩ := rngD_get hd
    obtain ⟨c2, s2, mk, lf, rfl, m1, m2, m3⟩ := hI
    have hll : mk.length + lf.length = tn.toNat := by rw [← List.length_append, m2.length_eq, hlen]
    obtain ⟨c3, s3, mk', lf', hc, he⟩ := pick_turn hT c2 s2 a1 (.fr (.int tn)) a3 a4 (.fr (.list (txts ts))) a6 a7 a8 a9 a10 (.ow (.dict (kvsD jobs))) a12 (.fr (.str l)) (.fr (.int j)) mk lf (fun x hx => ok x (m2.mem_iff.mp (List.mem_append_right _ hx))) (by omega) (by omega)
    refine ⟨[.bo (bagD c3 s3), a1, .fr (.int tn), a3, a4, .fr (.list (txts ts)), a6, a7, a8, a9, a10, .ow (.dict (kvsD jobs)), a12, .fr (.str l), .fr (.tuple (txts mk')), .ow (.list (txts lf')), .no], ?_, c3, s3, mk', lf', rfl, ?_⟩
    · have ha : asgT [.bo (bagD c2 s2), a1, .fr (.int tn), a3, a4, .fr (.list (txts ts)), a6, a7, a8, a9, a10, .ow (.dict (kvsD jobs)), a12, .fr (.str l), .fr (.tuple (txts mk)), .ow (.list (txts lf)), .no] (.nm 16) (.int j) false = some [.bo (bagD c2 s2), a1, .fr (.int tn), a3, a4, .fr (.list (txts ts)), a6, a7, a8, a9, a10, .ow (.dict (kvsD jobs)), a12, .fr (.str l), .fr (.tuple (txts mk)), .ow (.list (txts lf)), .fr (.int j)] := by
        simp [asgT, setS]
      rw [ha]
      simp only [Option.bind_eq_bind, Option.bind_some, he, Option.pure_def]
      simp [killS]
    · rcases hc with ⟨rfl, rfl, rfl⟩ | ⟨y, rfl, hp⟩
      · refine ⟨by omega, m2, fun _ z => ?_⟩
        subst z
        have := m2.length_eq
        rw [hlen] at this
        simp at this
        omega
      · refine ⟨by rw [List.length_append]; simp; omega, ?_, fun _ z => by simp at z⟩
        rw [List.append_assoc]
        exact ((hp.symm.append_left mk)).trans m2
end PV

set_option Elab.async false
set_option linter.all false
set_option maxRecDepth 100000
set_option maxHeartbeats 4000000
/-! PV: the laws' own works, joined. -/
namespace PV
open PySem L2
def WorksOk (call : Call) (i : Nat) : Prop := ∀ c s sn tn jn : Int, 1 ≤ sn → sn ≤ 3 → 1 ≤ tn → tn ≤ 5 → 1 ≤ jn → jn ≤ 4 → ∃ (W : Works) (c' s' : Int), call i [(bagD c s, true), (.int sn, false), (.int tn, false), (.int jn, false)] = some (worksD W, false, [.bo (bagD c' s'), .no, .no, .no]) ∧ WOk sn tn jn W
theorem labels_sorted : ∀ m : Nat, m ≤ 4 → sortS (LABELS.take m) = LABELS.take m
  | 0, _ => by decide +kernel
  | 1, _ => by decide +kernel
  | 2, _ => by decide +kernel
  | 3, _ => by decide +kernel
  | 4, _ => by decide +kernel
  | n + 5, h => by omega
theorem labels_nodup : LABELS.Nodup := by decide +kernel
theorem take_succ_get {α : Type} {xs : List α} {j : Nat} {x : α} (h : xs[j]? = some x) : xs.take (j + 1) = xs.take j ++ [x] := by
  rw [List.take_add_one, h]; rfl
/-- a comprehension none of whose turns fails -/
theorem lcL_map {step : D → Pl → Option (List D × Pl)} {ρ : Pl} {f : D → D} : ∀ {items : List D}, (∀ d ∈ items, step d ρ = some ([f d], ρ)) → lcL step items ρ = some (items.map f, ρ)
  | [], _ => rfl
  | d :: ds, h => by
    simp [lcL, h d List.mem_cons_self, lcL_map fun x hx => h x (List.mem_cons_of_mem _ hx)]
section
variable {call : Call}
theorem evSs_cons {st : S} {ss : List S} {ρ ρ1 : Pl} {r : Option (Fl × Pl)} (h1 : evS call st ρ = some (.nx, ρ1)) (h2 : evSs call ss ρ1 = r) : evSs call (st :: ss) ρ = r := by
  simp only [evSs, h1]
  exact h2
theorem evS_for {t : Tg} {k : IK} {its : List X} {body : List S} {kill : List Nat} {ρ ρ1 : Pl} {ds items : List D} {r : Option (Fl × Pl)} (h1 : evs call its ρ = some (ds, ρ1)) (h2 : itemsOf k ds = some items) (h3 : forL (fun d ρ => do
      let ρ ← asgT ρ t d false
      let (f, ρ) ← evSs call body ρ
      pure (f, killS ρ kill)) items ρ1 = r) : evS call (.for t k its body kill) ρ = r := by
  rw [evS, h1]
  show (itemsOf k ds).bind _ = r
  rw [h2]
  exact h3
theorem ev_lc {e : X} {tg : Tg} {k : IK} {its ifs : List X} {own : List Nat} {ρ ρ1 ρ2 : Pl} {ds items ys : List D} (h1 : evs call its ρ = some (ds, ρ1)) (h2 : itemsOf k ds = some items) (h3 : lcL (fun d ρ => do
      let ρ ← asgT ρ tg d false
      let (b, ρ) ← evIfs call ifs ρ
      if b then do
        let (y, _, ρ) ← ev call e ρ
        pure ([y], wipeP ρ own)
      else pure ([], wipeP ρ own)) items (wipeP ρ1 own) = some (ys, ρ2)) (h4 : ys.length ≤ LIM) : ev call (.lc e tg k its ifs own) ρ = some (.list ys, true, back ρ1 ρ2 own) := by
  rw [ev, h1]
  show (itemsOf k ds).bind _ = _
  rw [h2]
  show Option.bind (lcL _ items (wipeP ρ1 own)) _ = _
  rw [h3]
  show (if ys.length ≤ LIM then _ else _) = _
  rw [if_pos h4]
  rfl
end
theorem txts_get {xs : List Str} {j : Nat} {d : D} (h : (txts xs)[j]? = some d) : ∃ l, xs[j]? = some l ∧ d = .str l := by
  rw [txts, List.getElem?_map, Option.map_eq_some_iff] at h
  obtain ⟨l, h1, h2⟩ := h
  exact ⟨l, h1, h2.symm⟩
theorem works_ok {call : Call} {iTake iOf iNames iSome : Nat} (hT : TakeOk call iTake) (hO : OfOk call iOf) (hN : NamesOk call iNames) (hS : SomeOk call iSome) (c s sn tn jn : Int) (h1 : 1 ≤ sn) (h2 : sn ≤ 3) (h3 : 1 ≤ tn) (h4 : tn ≤ 5) (h5 : 1 ≤ jn) (h6 : jn ≤ 4) :
    ∃ (W : Works) (c' s' : Int), runF call (fWorks iTake iOf iNames iSome) [(bagD c s, true), (.int sn, false), (.int tn, false), (.int jn, false)] = some (worksD W, false, [.bo (bagD c' s'), .no, .no, .no]) ∧ WOk sn tn jn W := by
  obtain ⟨ss, ts, c1, s1, e1, hss, hts⟩ := hN c s
  have ss3 := SS_len hss
  have ts5 := TT_len hts
  have k1 : cut (txts ss) none (some sn) = txts (ss.take sn.toNat) := by rw [cut_to _ (by omega), txts, txts, List.map_take]
  have k2 : cut (txts ts) none (some tn) = txts (ts.take tn.toNat) := by rw [cut_to _ (by omega), txts, txts, List.map_take]
  -- the rows
  have loop1 := forL_nx (step := fun d ρ => do
      let ρ ← asgT ρ (.nm 8) d false
      let (f, ρ) ← evSs call [.asg (.nm 9) (.cal iSome [.var 0, .var 6, .ite (.cmp .gt (.cal iTake [.var 0, .cst (.int 4)] []) (.cst (.int 0))) (.cst (.int 2)) (.cst (.int 3))] []), .asg (.nm 10) (.cal iOf [.var 0, .lst [.cst (.str "kept"), .cst (.str "kept"), .cst (.str "kept"), .cst (.str "asked"), .cst (.str "asked"), .cst (.str "pushed")]] []), .asg (.nm 7) (.bin .add (.var 7) (.tup [.tup [.var 8, .var 9, .var 10]])), .asg (.nm 6) (.bin .add (.var 6) (.lst [.var 8]))] ρ
      pure (f, killS ρ [8, 9, 10])) (fun i ρ => ∃ (c s : Int) (rows : List (Str × List Str × Str)), ρ = [.bo (bagD c s), .fr (.int sn), .fr (.int tn), .fr (.int jn), .fr (.list (txts ss)), .fr (.list (txts ts)), .ow (.list (txts (ss.take sn.toNat ++ (ts.take tn.toNat).take i))), .fr (.tuple (rows.map rowD)), .no, .no, .no, .no, .no, .no, .no, .no, .no] ∧
        rows.map (·.1) = (ts.take tn.toNat).take i ∧ ∀ (j : Nat) r, rows[j]? = some r → GoodRow (ss.take sn.toNat ++ ts.take j) r) (txts (ts.take tn.toNat)) 0
      [.bo (bagD c1 s1), .fr (.int sn), .fr (.int tn), .fr (.int jn), .fr (.list (txts ss)), .fr (.list (txts ts)), .ow (.list (txts (ss.take sn.toNat))), .fr (.tuple []), .no, .no, .no, .no, .no, .no, .no, .no, .no] (fun j d ρ hd hI => ?_)
      ⟨c1, s1, [], by simp, rfl, by simp⟩
  · obtain ⟨ρ1, f1, c2, s2, rows, rfl, r1, r2⟩ := loop1
    have len5 : (txts (ts.take tn.toNat)).length = tn.toNat := by simp [txts, ts5]; omega
    rw [len5, Nat.zero_add] at r1
    have tt : (ts.take tn.toNat).take tn.toNat = ts.take tn.toNat := List.take_of_length_le (by rw [List.length_take]; omega)
    rw [tt] at r1
    generalize hkn : Slot.ow (PyData.list (txts (ss.take sn.toNat ++ (ts.take tn.toNat).take (0 + (txts (ts.take tn.toNat)).length)))) = kn at f1
    -- how many jobs
    obtain ⟨q, c3, s3, e3, q1, q2⟩ := hT c2 s2 (jn + 1) (by omega) (by omega)
    obtain ⟨x, c4, s4, e4, hx⟩ := hO c3 s3 [.int jn, .int jn, .int (jn - 1), .int q] false (by simp) (by simp)
    obtain ⟨many, m0, m1, rfl⟩ : ∃ n : Int, 0 ≤ n ∧ n ≤ jn ∧ x = .int n := by
      simp only [List.mem_cons, List.not_mem_nil, or_false] at hx
      rcases hx with rfl | rfl | rfl | rfl
      · exact ⟨_, by omega, by omega, rfl⟩
      · exact ⟨_, by omega, by omega, rfl⟩
      · exact ⟨_, by omega, by omega, rfl⟩
      · exact ⟨_, q1, by omega, rfl⟩
    have k3 : cut (txts LABELS) none (some many) = txts (LABELS.take many.toNat) := by rw [cut_to _ m0, txts, txts, List.map_take]
    have loop2 := forL_nx (step := fun d ρ => do
        let ρ ← asgT ρ (.nm 13) d false
        let (f, ρ) ← evSs call [.par [14, 15] [.tup [], .slc (.var 5) none (some (.var 2))], .for (.nm 16) .rng1 [.bin .add (.cst (.int 1)) (.cal iOf [.var 0, .lst [.cst (.int 0), .cst (.int 0), .cst (.int 0), .cst (.int 1), .cst (.int 2)]] [])] [.ife (.cmp .ne (.var 15) (.lst [])) [.asg (.nm 14) (.bin .add (.var 14) (.tup [.pop 15 [.cal iTake [.var 0, .blt .len [.var 15]] []]]))] []] [16], .set 11 (.var 13) (.var 14)] ρ
        pure (f, killS ρ [13, 14, 15, 16])) (fun i ρ => ∃ (c s : Int) (jobs : List (Str × List Str)), ρ = [.bo (bagD c s), .fr (.int sn), .fr (.int tn), .fr (.int jn), .fr (.list (txts ss)), .fr (.list (txts ts)), kn, .fr (.tuple (rows.map rowD)), .no, .no, .no, .ow (.dict (kvsD jobs)), .fr (.int many), .no, .no, .no, .no] ∧
          jobs.map (·.1) = (LABELS.take many.toNat).take i ∧ ∀ j ∈ jobs, GoodJob (ts.take tn.toNat) j) (txts (LABELS.take many.toNat)) 0
        [.bo (bagD c4 s4), .fr (.int sn), .fr (.int tn), .fr (.int jn), .fr (.list (txts ss)), .fr (.list (txts ts)), kn, .fr (.tuple (rows.map rowD)), .no, .no, .no, .ow (.dict []), .fr (.int many), .no, .no, .no, .no] (fun j d ρ hd hI => ?_)
        ⟨c4, s4, [], rfl, rfl, by simp⟩
    · obtain ⟨ρ2, f2, c5, s5, jobs, rfl, j1, j2⟩ := loop2
      have lenL : LABELS.length = 4 := rfl
      have len2 : (LABELS.take many.toNat).take (0 + (txts (LABELS.take many.toNat)).length) = LABELS.take many.toNat := List.take_of_length_le (by simp [txts])
      rw [len2] at j1
      refine ⟨⟨ss.take sn.toNat, rows, jobs⟩, c5, s5, ?_, ⟨ss, hss, ts, hts, rfl, r1, r2, ⟨many.toNat, by omega, j1⟩, j2⟩⟩
      have g1 : List.mapM (asS ∘ fun p : D × D => p.1) (kvsD jobs) = some (LABELS.take many.toNat) := by
        rw [← j1]
        clear f2 j1 j2
        induction jobs with
        | nil => rfl
        | cons k ks ih =>
          simp only [kvsD, List.map_cons, List.mapM_cons] at ih ⊢
          simp [asS, ih]
      have g2 : (LABELS.take many.toNat).length < 64 := by rw [List.length_take, lenL]; omega
      have g2' : min many.toNat LABELS.length < 64 := by rw [lenL]; omega
      have g3 := labels_sorted many.toNat (by omega)
      have nd : (jobs.map (·.1)).Nodup := by rw [j1]; exact (List.take_sublist _ _).nodup labels_nodup
      have lc : ev call (.lc (.tup [.var 13, .idx (.var 11) (.var 13)]) (.nm 13) .seq [.blt .sorted [.var 11]] [] [13]) [.bo (bagD c5 s5), .fr (.int sn), .fr (.int tn), .fr (.int jn), .fr (.list (txts ss)), .fr (.list (txts ts)), kn, .fr (.tuple (rows.map rowD)), .no, .no, .no, .ow (.dict (kvsD jobs)), .fr (.int many), .no, .no, .no, .no] =
          some (.list (jobs.map jobD), true, [.bo (bagD c5 s5), .fr (.int sn), .fr (.int tn), .fr (.int jn), .fr (.list (txts ss)), .fr (.list (txts ts)), kn, .fr (.tuple (rows.map rowD)), .no, .no, .no, .ow (.dict (kvsD jobs)), .fr (.int many), .no, .no, .no, .no]) := by
        have hy : jobs.map jobD = (txts (LABELS.take many.toNat)).map fun d => .tuple [d, (dGet d (kvsD jobs)).getD .none] := by
          rw [← j1, txts, List.map_map, List.map_map]
          refine List.map_congr_left fun j hj => ?_
          show jobD j = .tuple [.str j.1, (dGet (.str j.1) (kvsD jobs)).getD .none]
          rw [get_job nd hj]
          rfl
        refine ev_lc (k := .seq) (ρ1 := [.bo (bagD c5 s5), .fr (.int sn), .fr (.int tn), .fr (.int jn), .fr (.list (txts ss)), .fr (.list (txts ts)), kn, .fr (.tuple (rows.map rowD)), .no, .no, .no, .ow (.dict (kvsD jobs)), .fr (.int many), .no, .no, .no, .no]) (ys := jobs.map jobD) (items := txts (LABELS.take many.toNat)) (ds := [.list (txts (LABELS.take many.toNat))]) (ρ2 := [.bo (bagD c5 s5), .fr (.int sn), .fr (.int tn), .fr (.int jn), .fr (.list (txts ss)), .fr (.list (txts ts)), kn, .fr (.tuple (rows.map rowD)), .no, .no, .no, .ow (.dict (kvsD jobs)), .fr (.int many), .no, .no, .no, .no]) ?_ rfl ?_ ?_
        · simp [runF, envOf, slotA, evSs, evS, ev, opn, fetch, evOs, evs, evOI, evAnd, evOr, evIfs, evRs, fetchAll, opIdx, opCmp, opBin, opBlt, opSlc, opMthK, opMth, opIn, opLt, kindD, isTy, asB, asI, asL, dOk, atI, ixN, setS, asgT, setAll, setPar, setAt, appAt, ownL, popD, calL, slotsOf, distinct, lend, giveBack, isSl, lents, lentS, killS, wipeP, back, forL, itemsOf, opSorted, g1, g2, g2', g3, txts]
        · rw [hy]
          refine lcL_map fun d hd => ?_
          obtain ⟨l, hl, rfl⟩ := List.mem_map.mp hd
          rw [← j1] at hl
          obtain ⟨j, hj, rfl⟩ := List.mem_map.mp hl
          have gj := get_job nd hj
          have pk := plain_kvs jobs
          generalize kvsD jobs = kv at gj pk ⊢
          simp [runF, envOf, slotA, evSs, evS, ev, opn, fetch, evOs, evs, evOI, evAnd, evOr, evIfs, evRs, fetchAll, opIdx, opCmp, opBin, opBlt, opSlc, opMthK, opMth, opIn, opLt, kindD, isTy, asB, asI, asL, dOk, atI, ixN, setS, asgT, setAll, setPar, setAt, appAt, ownL, popD, calL, slotsOf, distinct, lend, giveBack, isSl, lents, lentS, killS, wipeP, back, forL, itemsOf, gj, pk, keyOk]
        · have := congrArg List.length j1
          simp [lenL] at this ⊢
          unfold LIM
          omega
      have t : ev call (.blt .tuple [.lc (.tup [.var 13, .idx (.var 11) (.var 13)]) (.nm 13) .seq [.blt .sorted [.var 11]] [] [13]]) [.bo (bagD c5 s5), .fr (.int sn), .fr (.int tn), .fr (.int jn), .fr (.list (txts ss)), .fr (.list (txts ts)), kn, .fr (.tuple (rows.map rowD)), .no, .no, .no, .ow (.dict (kvsD jobs)), .fr (.int many), .no, .no, .no, .no] = some (.tuple (jobs.map jobD), false, [.bo (bagD c5 s5), .fr (.int sn), .fr (.int tn), .fr (.int jn), .fr (.list (txts ss)), .fr (.list (txts ts)), kn, .fr (.tuple (rows.map rowD)), .no, .no, .no, .ow (.dict (kvsD jobs)), .fr (.int many), .no, .no, .no, .no]) := by
        obtain ⟨Y, hY⟩ : ∃ Y, Y = X.lc (.tup [.var 13, .idx (.var 11) (.var 13)]) (.nm 13) .seq [.blt .sorted [.var 11]] [] [13] := ⟨_, rfl⟩
        have nv : ∀ ρ, opn Y (ev call Y) ρ = (ev call Y ρ).bind fun x => some (Op.dv x.1, x.2.2) := fun ρ => by subst hY; rfl
        rw [← hY] at lc ⊢
        simp [ev, evOs, nv, lc, fetchAll, fetch, opBlt]
      obtain ⟨Y, hY⟩ : ∃ Y, Y = X.blt .tuple [.lc (.tup [.var 13, .idx (.var 11) (.var 13)]) (.nm 13) .seq [.blt .sorted [.var 11]] [] [13]] := ⟨_, rfl⟩
      have labs : ([.str "ja", .str "jb", .str "k", .str "refresh"] : List D) = txts LABELS := rfl
      have b0 : envOf (fWorks iTake iOf iNames iSome) [(bagD c s, true), (.int sn, false), (.int tn, false), (.int jn, false)] = [.bo (bagD c s), .fr (.int sn), .fr (.int tn), .fr (.int jn), .no, .no, .no, .no, .no, .no, .no, .no, .no, .no, .no, .no, .no] := rfl
      unfold runF
      rw [if_pos (by rfl), b0]
      have main : evSs call (fWorks iTake iOf iNames iSome).body [.bo (bagD c s), .fr (.int sn), .fr (.int tn), .fr (.int jn), .no, .no, .no, .no, .no, .no, .no, .no, .no, .no, .no, .no, .no] = some (.rt (worksD ⟨ss.take sn.toNat, rows, jobs⟩) false, [.bo (bagD c5 s5), .fr (.int sn), .fr (.int tn), .fr (.int jn), .fr (.list (txts ss)), .fr (.list (txts ts)), kn, .fr (.tuple (rows.map rowD)), .no, .no, .no, .ow (.dict (kvsD jobs)), .fr (.int many), .no, .no, .no, .no]) := by
        refine evSs_cons (ρ1 := [.bo (bagD c1 s1), .fr (.int sn), .fr (.int tn), .fr (.int jn), .fr (.list (txts ss)), .fr (.list (txts ts)), .no, .no, .no, .no, .no, .no, .no, .no, .no, .no, .no]) (by simp [runF, envOf, slotA, evSs, evS, ev, opn, fetch, evOs, evs, evOI, evAnd, evOr, evIfs, evRs, fetchAll, opIdx, opCmp, opBin, opBlt, opSlc, opMthK, opMth, opIn, opLt, kindD, isTy, asB, asI, asL, dOk, atI, ixN, setS, asgT, setAll, setPar, setAt, appAt, ownL, popD, calL, slotsOf, distinct, lend, giveBack, isSl, lents, lentS, killS, wipeP, back, forL, itemsOf, e1]) ?_
        refine evSs_cons (ρ1 := [.bo (bagD c1 s1), .fr (.int sn), .fr (.int tn), .fr (.int jn), .fr (.list (txts ss)), .fr (.list (txts ts)), .ow (.list (txts (ss.take sn.toNat))), .fr (.tuple []), .no, .no, .no, .no, .no, .no, .no, .no, .no]) (by simp [runF, envOf, slotA, evSs, evS, ev, opn, fetch, evOs, evs, evOI, evAnd, evOr, evIfs, evRs, fetchAll, opIdx, opCmp, opBin, opBlt, opSlc, opMthK, opMth, opIn, opLt, kindD, isTy, asB, asI, asL, dOk, atI, ixN, setS, asgT, setAll, setPar, setAt, appAt, ownL, popD, calL, slotsOf, distinct, lend, giveBack, isSl, lents, lentS, killS, wipeP, back, forL, itemsOf, k1]) ?_
        refine evSs_cons (evS_for (items := txts (ts.take tn.toNat)) (ds := [.list (txts (ts.take tn.toNat))]) (by simp [runF, envOf, slotA, evSs, evS, ev, opn, fetch, evOs, evs, evOI, evAnd, evOr, evIfs, evRs, fetchAll, opIdx, opCmp, opBin, opBlt, opSlc, opMthK, opMth, opIn, opLt, kindD, isTy, asB, asI, asL, dOk, atI, ixN, setS, asgT, setAll, setPar, setAt, appAt, ownL, popD, calL, slotsOf, distinct, lend, giveBack, isSl, lents, lentS, killS, wipeP, back, forL, itemsOf, k2]) rfl f1) ?_
        refine evSs_cons (ρ1 := [.bo (bagD c2 s2), .fr (.int sn), .fr (.int tn), .fr (.int jn), .fr (.list (txts ss)), .fr (.list (txts ts)), kn, .fr (.tuple (rows.map rowD)), .no, .no, .no, .ow (.dict []), .no, .no, .no, .no, .no]) (by simp [runF, envOf, slotA, evSs, evS, ev, opn, fetch, evOs, evs, evOI, evAnd, evOr, evIfs, evRs, fetchAll, opIdx, opCmp, opBin, opBlt, opSlc, opMthK, opMth, opIn, opLt, kindD, isTy, asB, asI, asL, dOk, atI, ixN, setS, asgT, setAll, setPar, setAt, appAt, ownL, popD, calL, slotsOf, distinct, lend, giveBack, isSl, lents, lentS, killS, wipeP, back, forL, itemsOf]) ?_
        refine evSs_cons (ρ1 := [.bo (bagD c4 s4), .fr (.int sn), .fr (.int tn), .fr (.int jn), .fr (.list (txts ss)), .fr (.list (txts ts)), kn, .fr (.tuple (rows.map rowD)), .no, .no, .no, .ow (.dict []), .fr (.int many), .no, .no, .no, .no]) (by simp [runF, envOf, slotA, evSs, evS, ev, opn, fetch, evOs, evs, evOI, evAnd, evOr, evIfs, evRs, fetchAll, opIdx, opCmp, opBin, opBlt, opSlc, opMthK, opMth, opIn, opLt, kindD, isTy, asB, asI, asL, dOk, atI, ixN, setS, asgT, setAll, setPar, setAt, appAt, ownL, popD, calL, slotsOf, distinct, lend, giveBack, isSl, lents, lentS, killS, wipeP, back, forL, itemsOf, e3, e4]) ?_
        refine evSs_cons (evS_for (items := txts (LABELS.take many.toNat)) (ds := [.list (txts (LABELS.take many.toNat))]) (by simp [runF, envOf, slotA, evSs, evS, ev, opn, fetch, evOs, evs, evOI, evAnd, evOr, evIfs, evRs, fetchAll, opIdx, opCmp, opBin, opBlt, opSlc, opMthK, opMth, opIn, opLt, kindD, isTy, asB, asI, asL, dOk, atI, ixN, setS, asgT, setAll, setPar, setAt, appAt, ownL, popD, calL, slotsOf, distinct, lend, giveBack, isSl, lents, lentS, killS, wipeP, back, forL, itemsOf, labs, k3]) rfl f2) ?_
        rw [← hY] at t ⊢
        simp [runF, envOf, slotA, evSs, evS, ev, opn, fetch, evOs, evs, evOI, evAnd, evOr, evIfs, evRs, fetchAll, opIdx, opCmp, opBin, opBlt, opSlc, opMthK, opMth, opIn, opLt, kindD, isTy, asB, asI, asL, dOk, atI, ixN, setS, asgT, setAll, setPar, setAt, appAt, ownL, popD, calL, slotsOf, distinct, lend, giveBack, isSl, lents, lentS, killS, wipeP, back, forL, itemsOf, t, k1, worksD]
      rw [main]
      rfl
    · obtain ⟨l, hl, rfl⟩ := txts_get hd
      obtain ⟨c5, s5, jobs, rfl, j1, j2⟩ := hI
      rw [Nat.zero_add j] at j1 ⊢
      have hln : l ∉ jobs.map (·.1) := by
        rw [j1]
        intro hm
        obtain ⟨i, hi⟩ := List.mem_iff_getElem?.mp hm
        rw [List.getElem?_take] at hi
        split at hi
        · rename_i hij
          have nd : (LABELS.take many.toNat).Nodup := (List.take_sublist _ _).nodup labels_nodup
          have hi' := List.getElem?_eq_some_iff.mp hi
          have := (List.getElem?_inj hi'.1 nd).mp (hi.trans hl.symm)
          omega
        · cases hi
      have hjl : jobs.length < 1000 := by
        have := congrArg List.length j1
        simp at this
        omega
      obtain ⟨c6, s6, mk, lf, gj, he⟩ := job_turn hT hO c5 s5 tn (.fr (.int sn)) (.fr (.int jn)) (.fr (.list (txts ss))) kn (.fr (.tuple (rows.map rowD))) .no .no .no (.fr (.int many)) ts hts h3 h4 l jobs hln hjl
      refine ⟨_, ?_, c6, s6, jobs ++ [(l, mk)], rfl, ?_, ?_⟩
      · simp only [asgT, setS, List.getElem?_cons_succ, List.getElem?_cons_zero, List.set_cons_succ, List.set_cons_zero, Option.bind_eq_bind, Option.bind_some, Bool.false_eq_true, if_false, he, Option.pure_def]
        simp [killS]
      · rw [List.map_append, j1, take_succ_get hl]
        rfl
      · intro k hk
        rcases List.mem_append.mp hk with hk | hk
        · exact j2 k hk
        · rw [List.mem_singleton.mp hk]
          exact gj
  · obtain ⟨l, hl, rfl⟩ := txts_get hd
    obtain ⟨c5, s5, rows, rfl, r1, r2⟩ := hI
    rw [Nat.zero_add j] at r1 ⊢
    have hrl : rows.length = j := by
      have := congrArg List.length r1
      have hj := (List.getElem?_eq_some_iff.mp hl).1
      simp at this hj
      omega
    have hj5 : j < 5 := by
      have hj := (List.getElem?_eq_some_iff.mp hl).1
      simp at hj
      omega
    have tj : (ts.take tn.toNat).take j = ts.take j := by
      rw [List.take_take]
      congr 1
      have hj := (List.getElem?_eq_some_iff.mp hl).1
      simp at hj
      omega
    obtain ⟨r, c6, s6, rn, gr, he⟩ := works_row hT hO hS c5 s5 sn tn jn (.fr (.list (txts ss))) (.fr (.list (txts ts))) (ss.take sn.toNat ++ (ts.take tn.toNat).take j) rows l [.no, .no, .no, .no, .no, .no] (by
        intro z
        have := congrArg List.length z
        rw [List.length_append, List.length_take, ss3] at this
        simp only [List.length_nil] at this
        omega) (by simp; omega) (by omega)
    refine ⟨_, ?_, c6, s6, rows ++ [r], rfl, ?_, ?_⟩
    · simp only [asgT, setS, List.getElem?_cons_succ, List.getElem?_cons_zero, List.set_cons_succ, List.set_cons_zero, Option.bind_eq_bind, Option.bind_some, Bool.false_eq_true, if_false, he, Option.pure_def]
      simp only [take_succ_get hl, ← List.append_assoc]
      simp [killS]
    · rw [List.map_append, r1, take_succ_get hl]
      simp [rn]
    · intro i q hq
      rw [List.getElem?_append] at hq
      split at hq
      · exact r2 i q hq
      · rename_i hi
        have : i - rows.length = 0 := by
          by_cases hz : i - rows.length = 0
          · exact hz
          · obtain ⟨n, hn⟩ := Nat.exists_eq_succ_of_ne_zero hz
            rw [hn] at hq
            simp at hq
        rw [this] at hq
        simp at hq
        subst hq
        have hi2 : i = j := by omega
        subst hi2
        rw [tj] at gr
        exact gr
end PV

set_option Elab.async false
set_option linter.all false
set_option maxRecDepth 100000
set_option maxHeartbeats 4000000
/-! PV: works are found right. -/
namespace PV
open PySem L2
def fIsName : Fn := ⟨1, 2, [.ret (.and [.isi (.var 0) .str, .chain .le .le (.cst (.int 1)) (.blt .len [.var 0]) (.cst (.int 8)), .blt .all [.lc (.cmp .isIn (.var 1) (.cst (.str "abcdefghijklmnopqrstuvwxyz"))) (.nm 1) .seq [.var 0] [] [1]]])]⟩
def fIsRow : Fn := ⟨3, 3, [.ret (.and [.isi (.var 0) .tuple, .chain .le .le (.var 1) (.blt .len [.var 0]) (.var 2)])]⟩
def fAscends : Fn := ⟨1, 3, [.ret (.blt .all [.lc (.cmp .lt (.var 1) (.var 2)) (.tup [1, 2]) .zip [.var 0, .slc (.var 0) (some (.cst (.int 1))) none] [] [1, 2]])]⟩
def fAreNames (iName iRow iAsc : Nat) : Fn := ⟨3, 4, [.ret (.and [.cal iRow [.var 0, .var 1, .var 2] [], .blt .all [.lc (.cal iName [.var 3] []) (.nm 3) .seq [.var 0] [] [3]], .cal iAsc [.var 0] []])]⟩
def fIsThing (iName iRow iAre : Nat) : Fn := ⟨1, 1, [.ife (.or [.not (.cal iRow [.var 0, .cst (.int 3), .cst (.int 3)] []), .not (.cal iName [.idx (.var 0) (.cst (.int 0))] []), .not (.cal iAre [.idx (.var 0) (.cst (.int 1)), .cst (.int 1), .cst (.int 3)] [])]) [.ret (.cst (.bool false))] [], .ret (.and [.isi (.idx (.var 0) (.cst (.int 2))) .str, .cmp .isIn (.idx (.var 0) (.cst (.int 2))) (.cst (.tuple [(.str "kept"), (.str "pushed"), (.str "asked")]))])]⟩
def fIsJob (iName iRow : Nat) : Fn := ⟨2, 3, [.ife (.or [.not (.cal iRow [.var 1, .cst (.int 2), .cst (.int 2)] []), .not (.cal iName [.idx (.var 1) (.cst (.int 0))] []), .not (.cal iRow [.idx (.var 1) (.cst (.int 1)), .cst (.int 1), .cst (.int 5)] [])]) [.ret (.cst (.bool false))] [], .ife (.not (.blt .all [.lc (.and [.cal iName [.var 2] [], .cmp .isIn (.var 2) (.var 0)]) (.nm 2) .seq [.idx (.var 1) (.cst (.int 1))] [] [2]])) [.ret (.cst (.bool false))] [], .ret (.cmp .eq (.blt .lset [.idx (.var 1) (.cst (.int 1))]) (.blt .len [.idx (.var 1) (.cst (.int 1))]))]⟩
def fNamesOf : Fn := ⟨1, 2, [.ret (.lc (.idx (.var 1) (.cst (.int 0))) (.nm 1) .seq [.idx (.var 0) (.cst (.int 1))] [] [1])]⟩
def NAMES : List Str := SS.flatten ++ TT.flatten ++ LABELS
def isTrue1 : Option (D × Bool × List Slot) → Bool
  | some (.bool true, false, [.no]) => true
  | _ => false
theorem isTrue1_of {r : Option (D × Bool × List Slot)} (h : isTrue1 r = true) : r = some (.bool true, false, [.no]) := by
  unfold isTrue1 at h
  split at h
  · rfl
  · cases h
def NameOk (call : Call) (i : Nat) : Prop := ∀ x ∈ NAMES, call i [(.str x, false)] = some (.bool true, false, [.no])
theorem name_ok (call : Call) (x : Str) (hx : x ∈ NAMES) : runF call fIsName [(.str x, false)] = some (.bool true, false, [.no]) := by
  have h : (NAMES.all fun x => isTrue1 (runF call fIsName [(.str x, false)])) = true := by kernel_rfl
  exact isTrue1_of (List.all_eq_true.mp h x hx)
def RowOk (call : Call) (i : Nat) : Prop := ∀ (ds : List D) (a b : Int), a ≤ ds.length → (ds.length : Int) ≤ b → call i [(.tuple ds, false), (.int a, false), (.int b, false)] = some (.bool true, false, [.no, .no, .no])
theorem row_ok (call : Call) (ds : List D) (a b : Int) (h1 : a ≤ ds.length) (h2 : (ds.length : Int) ≤ b) : runF call fIsRow [(.tuple ds, false), (.int a, false), (.int b, false)] = some (.bool true, false, [.no, .no, .no]) := by
  simp [fIsRow, runF, envOf, slotA, evSs, evS, ev, opn, fetch, evOs, evs, evOI, evAnd, evOr, evIfs, evRs, fetchAll, opIdx, opCmp, opBin, opBlt, opSlc, opMthK, opMth, opIn, opLt, kindD, isTy, asB, asI, asL, dOk, atI, ixN, setS, asgT, setAll, setPar, setAt, appAt, ownL, popD, calL, slotsOf, distinct, lend, giveBack, isSl, lents, lentS, killS, wipeP, back, forL, itemsOf, h1, h2]
/-- all of a comprehension's tests are true -/
theorem all_true : ∀ n : Nat, (List.replicate n (PyData.bool true)).mapM asB = some (List.replicate n true)
  | 0 => rfl
  | n + 1 => by simp [List.replicate_succ, asB, all_true n]
theorem lcL_true {step : D → Pl → Option (List D × Pl)} {ρ : Pl} {items : List D} (h : ∀ d ∈ items, step d ρ = some ([.bool true], ρ)) : lcL step items ρ = some (List.replicate items.length (.bool true), ρ) := by
  rw [lcL_map (f := fun _ => .bool true) h]
  simp [List.map_const']
theorem ev_all {call : Call} {e : X} {tg : Tg} {k : IK} {its : List X} {own : List Nat} {ρ ρ1 : Pl} {ds items : List D} (h1 : evs call its ρ = some (ds, ρ1)) (h2 : itemsOf k ds = some items) (h3 : ∀ d ∈ items, ∃ ρ2 ρ3 w, asgT (wipeP ρ1 own) tg d false = some ρ2 ∧ ev call e ρ2 = some (.bool true, w, ρ3) ∧ wipeP ρ3 own = wipeP ρ1 own) (h4 : items.length ≤ LIM) :
    ev call (.blt .all [.lc e tg k its [] own]) ρ = some (.bool true, false, back ρ1 (wipeP ρ1 own) own) := by
  have lc := ev_lc (call := call) (e := e) (tg := tg) (ifs := []) (own := own) (ρ2 := wipeP ρ1 own) h1 h2 (lcL_true fun d hd => by
    obtain ⟨ρ2, ρ3, w, a1, a2, a3⟩ := h3 d hd
    simp only [a1, evIfs, a2, Option.bind_eq_bind, Option.bind_some, Option.pure_def, if_true, a3]) (by simpa using h4)
  obtain ⟨Y, hY⟩ : ∃ Y, Y = X.lc e tg k its [] own := ⟨_, rfl⟩
  have nv : ∀ ρ, opn Y (ev call Y) ρ = (ev call Y ρ).bind fun x => some (Op.dv x.1, x.2.2) := fun ρ => by subst hY; rfl
  rw [← hY] at lc ⊢
  simp [ev, evOs, nv, lc, fetchAll, fetch, opBlt, all_true]
def AscOk (call : Call) (i : Nat) : Prop := ∀ (xs : List Str), (∀ p ∈ xs.zip (xs.drop 1), strLt p.1 p.2 = true) → xs.length < 1000 → (call i [(.tuple (txts xs), false)] = some (.bool true, false, [.no]) ∧ call i [(.list (txts xs), false)] = some (.bool true, false, [.no]))
theorem zip_txts (xs ys : List Str) : ((txts xs).zip (txts ys)).map (fun p => PyData.tuple [p.1, p.2]) = (xs.zip ys).map fun p => .tuple [.str p.1, .str p.2] := by
  simp [txts, List.zip_map, List.map_map, Function.comp_def]
theorem cut_one (xs : List Str) : cut (txts xs) (some 1) none = txts (xs.drop 1) := by
  cases xs with
  | nil => rfl
  | cons x xs =>
    have h1 : ¬ ((1 : Int) < 0) := by decide
    have h2 : (min (1 : Int) ((txts (x :: xs)).length : Int)).toNat = 1 := by simp [txts]; omega
    simp only [cut, clip, h1, if_false, h2]
    rw [List.take_of_length_le (by simp)]
    simp [txts]
theorem asc_ok (call : Call) (xs : List Str) (h : ∀ p ∈ xs.zip (xs.drop 1), strLt p.1 p.2 = true) (hl : xs.length < 1000) :
    runF call fAscends [(.tuple (txts xs), false)] = some (.bool true, false, [.no]) ∧ runF call fAscends [(.list (txts xs), false)] = some (.bool true, false, [.no]) := by
  have turn : ∀ (v : D) (d : D), d ∈ (xs.zip (xs.drop 1)).map (fun p => PyData.tuple [.str p.1, .str p.2]) → ∃ ρ2 ρ3 w, asgT (wipeP [.fr v, .no, .no] [1, 2]) (.tup [1, 2]) d false = some ρ2 ∧ ev call (.cmp .lt (.var 1) (.var 2)) ρ2 = some (.bool true, w, ρ3) ∧ wipeP ρ3 [1, 2] = wipeP [.fr v, .no, .no] [1, 2] := fun v d hd => by
    obtain ⟨p, hp, rfl⟩ := List.mem_map.mp hd
    refine ⟨[.fr v, .fr (.str p.1), .fr (.str p.2)], [.fr v, .fr (.str p.1), .fr (.str p.2)], false, rfl, ?_, rfl⟩
    simp [runF, envOf, slotA, evSs, evS, ev, opn, fetch, evOs, evs, evOI, evAnd, evOr, evIfs, evRs, fetchAll, opIdx, opCmp, opBin, opBlt, opSlc, opMthK, opMth, opIn, opLt, kindD, isTy, asB, asI, asL, dOk, atI, ixN, setS, asgT, setAll, setPar, setAt, appAt, ownL, popD, calL, slotsOf, distinct, lend, giveBack, isSl, lents, lentS, killS, wipeP, back, forL, itemsOf, h p hp]
  have len : ((xs.zip (xs.drop 1)).map (fun p => PyData.tuple [.str p.1, .str p.2])).length ≤ LIM := by
    simp only [List.length_map, List.length_zip]
    unfold LIM
    omega
  constructor
  · have a := ev_all (call := call) (e := .cmp .lt (.var 1) (.var 2)) (tg := .tup [1, 2]) (k := .zip) (its := [.var 0, .slc (.var 0) (some (.cst (.int 1))) none]) (own := [1, 2]) (ρ := [.fr (.tuple (txts xs)), .no, .no]) (ρ1 := [.fr (.tuple (txts xs)), .no, .no]) (ds := [.tuple (txts xs), .tuple (txts (xs.drop 1))]) (by simp [runF, envOf, slotA, evSs, evS, ev, opn, fetch, evOs, evs, evOI, evAnd, evOr, evIfs, evRs, fetchAll, opIdx, opCmp, opBin, opBlt, opSlc, opMthK, opMth, opIn, opLt, kindD, isTy, asB, asI, asL, dOk, atI, ixN, setS, asgT, setAll, setPar, setAt, appAt, ownL, popD, calL, slotsOf, distinct, lend, giveBack, isSl, lents, lentS, killS, wipeP, back, forL, itemsOf, cut_one]) (by simp [itemsOf, asL, zip_txts]) (turn _) len
    unfold fAscends runF
    generalize hY : X.blt .all [.lc (.cmp .lt (.var 1) (.var 2)) (.tup [1, 2]) .zip [.var 0, .slc (.var 0) (some (.cst (.int 1))) none] [] [1, 2]] = Y at a ⊢
    have nr : ∀ ρ, evS call (.ret Y) ρ = (ev call Y ρ).bind fun x => some (.rt x.1 x.2.1, x.2.2) := fun ρ => by subst hY; rfl
    simp [envOf, slotA, evSs, nr, a, back, wipeP, lents, lentS]
  · have a := ev_all (call := call) (e := .cmp .lt (.var 1) (.var 2)) (tg := .tup [1, 2]) (k := .zip) (its := [.var 0, .slc (.var 0) (some (.cst (.int 1))) none]) (own := [1, 2]) (ρ := [.fr (.list (txts xs)), .no, .no]) (ρ1 := [.fr (.list (txts xs)), .no, .no]) (ds := [.list (txts xs), .list (txts (xs.drop 1))]) (by simp [runF, envOf, slotA, evSs, evS, ev, opn, fetch, evOs, evs, evOI, evAnd, evOr, evIfs, evRs, fetchAll, opIdx, opCmp, opBin, opBlt, opSlc, opMthK, opMth, opIn, opLt, kindD, isTy, asB, asI, asL, dOk, atI, ixN, setS, asgT, setAll, setPar, setAt, appAt, ownL, popD, calL, slotsOf, distinct, lend, giveBack, isSl, lents, lentS, killS, wipeP, back, forL, itemsOf, cut_one]) (by simp [itemsOf, asL, zip_txts]) (turn _) len
    unfold fAscends runF
    generalize hY : X.blt .all [.lc (.cmp .lt (.var 1) (.var 2)) (.tup [1, 2]) .zip [.var 0, .slc (.var 0) (some (.cst (.int 1))) none] [] [1, 2]] = Y at a ⊢
    have nr : ∀ ρ, evS call (.ret Y) ρ = (ev call Y ρ).bind fun x => some (.rt x.1 x.2.1, x.2.2) := fun ρ => by subst hY; rfl
    simp [envOf, slotA, evSs, nr, a, back, wipeP, lents, lentS]
end PV

set_option Elab.async false
set_option linter.all false
set_option maxRecDepth 100000
set_option maxHeartbeats 4000000
/-! PV: rows and jobs are found right. -/
namespace PV
open PySem L2
/-- strictly rising -/
def Asc (xs : List Str) : Prop := ∀ p ∈ xs.zip (xs.drop 1), strLt p.1 p.2 = true
theorem strLt_of {x y : Str} (h : leS x y) (ne : x ≠ y) : strLt x y = true := by
  cases q : strLt x y with
  | true => rfl
  | false => exact absurd (leS_antisymm h q) ne
theorem asc_of : ∀ {xs : List Str}, xs.Pairwise leS → xs.Nodup → Asc xs
  | [], _, _ => fun p hp => by simp at hp
  | [x], _, _ => fun p hp => by simp at hp
  | x :: y :: xs, h, nd => by
    obtain ⟨h1, h2⟩ := List.pairwise_cons.mp h
    obtain ⟨n1, n2⟩ := List.nodup_cons.mp nd
    intro p hp
    simp only [List.drop_succ_cons, List.drop_zero, List.zip_cons_cons, List.mem_cons] at hp
    rcases hp with rfl | hp
    · exact strLt_of (h1 y List.mem_cons_self) fun e => n1 (by
        have e : x = y := e
        rw [e]
        exact List.mem_cons_self)
    · exact asc_of h2 n2 p (by simpa using hp)
theorem names_okS {x : Str} (h : x ∈ NAMES) : okS x := allS_ok x (by
  unfold ALLS
  unfold NAMES at h
  rcases List.mem_append.mp h with h | h
  · exact List.mem_append_left _ (List.mem_append_left _ h)
  · exact List.mem_append_right _ h)
def AreOk (call : Call) (i : Nat) : Prop := ∀ (xs : List Str) (a b : Int), (∀ x ∈ xs, x ∈ NAMES) → Asc xs → a ≤ xs.length → (xs.length : Int) ≤ b → xs.length < 1000 → call i [(.tuple (txts xs), false), (.int a, false), (.int b, false)] = some (.bool true, false, [.no, .no, .no])
theorem txts_len (xs : List Str) : (txts xs).length = xs.length := by simp [txts]
theorem are_ok {call : Call} {iName iRow iAsc : Nat} (hN : NameOk call iName) (hR : RowOk call iRow) (hA : AscOk call iAsc) (xs : List Str) (a b : Int) (h1 : ∀ x ∈ xs, x ∈ NAMES) (h2 : Asc xs) (h3 : a ≤ xs.length) (h4 : (xs.length : Int) ≤ b) (h5 : xs.length < 1000) :
    runF call (fAreNames iName iRow iAsc) [(.tuple (txts xs), false), (.int a, false), (.int b, false)] = some (.bool true, false, [.no, .no, .no]) := by
  have e1 := hR (txts xs) a b (by rw [txts_len]; exact h3) (by rw [txts_len]; exact h4)
  have e2 := (hA xs h2 h5).1
  have e3 := ev_all (call := call) (e := .cal iName [.var 3] []) (tg := .nm 3) (k := .seq) (its := [.var 0]) (own := [3]) (ρ := [.fr (.tuple (txts xs)), .fr (.int a), .fr (.int b), .no]) (ρ1 := [.fr (.tuple (txts xs)), .fr (.int a), .fr (.int b), .no]) (ds := [.tuple (txts xs)]) (items := txts xs) (by simp [runF, envOf, slotA, evSs, evS, ev, opn, fetch, evOs, evs, evOI, evAnd, evOr, evIfs, evRs, fetchAll, opIdx, opCmp, opBin, opBlt, opSlc, opMthK, opMth, opIn, opLt, kindD, isTy, asB, asI, asL, dOk, atI, ixN, setS, asgT, setAll, setPar, setAt, appAt, ownL, popD, calL, slotsOf, distinct, lend, giveBack, isSl, lents, lentS, killS, wipeP, back, forL, itemsOf]) rfl (fun d hd => by
    obtain ⟨x, hx, rfl⟩ := List.mem_map.mp hd
    refine ⟨[.fr (.tuple (txts xs)), .fr (.int a), .fr (.int b), .fr (.str x)], [.fr (.tuple (txts xs)), .fr (.int a), .fr (.int b), .fr (.str x)], false, rfl, ?_, rfl⟩
    simp [runF, envOf, slotA, evSs, evS, ev, opn, fetch, evOs, evs, evOI, evAnd, evOr, evIfs, evRs, fetchAll, opIdx, opCmp, opBin, opBlt, opSlc, opMthK, opMth, opIn, opLt, kindD, isTy, asB, asI, asL, dOk, atI, ixN, setS, asgT, setAll, setPar, setAt, appAt, ownL, popD, calL, slotsOf, distinct, lend, giveBack, isSl, lents, lentS, killS, wipeP, back, forL, itemsOf, hN x (h1 x hx)]) (by rw [txts_len]; unfold LIM; omega)
  unfold fAreNames
  generalize hY : X.blt .all [.lc (.cal iName [.var 3] []) (.nm 3) .seq [.var 0] [] [3]] = Y at e3 ⊢
  simp [runF, envOf, slotA, evSs, evS, ev, opn, fetch, evOs, evs, evOI, evAnd, evOr, evIfs, evRs, fetchAll, opIdx, opCmp, opBin, opBlt, opSlc, opMthK, opMth, opIn, opLt, kindD, isTy, asB, asI, asL, dOk, atI, ixN, setS, asgT, setAll, setPar, setAt, appAt, ownL, popD, calL, slotsOf, distinct, lend, giveBack, isSl, lents, lentS, killS, wipeP, back, forL, itemsOf, e1, e2, e3]
def ThingOk (call : Call) (i : Nat) : Prop := ∀ r : Str × List Str × Str, r.1 ∈ NAMES → (∀ x ∈ r.2.1, x ∈ NAMES) → Asc r.2.1 → 1 ≤ r.2.1.length → r.2.1.length ≤ 3 → r.2.2 ∈ MODES → call i [(rowD r, false)] = some (.bool true, false, [.no])
theorem modes_in {m : Str} (h : m ∈ MODES) : opIn (.str m) (.tuple [.str "kept", .str "pushed", .str "asked"]) = some true := by
  have h1 := opIn_tuple (x := m) (ys := ["kept", "pushed", "asked"]) (allS_ok m (by unfold ALLS; exact List.mem_append_left _ (List.mem_append_right _ h))) (fun x hx => allS_ok x (by
    unfold ALLS
    refine List.mem_append_left _ (List.mem_append_right _ ?_)
    simp only [List.mem_cons, List.not_mem_nil, or_false, MODES] at hx ⊢
    rcases hx with rfl | rfl | rfl <;> simp))
  have h2 : m ∈ (["kept", "pushed", "asked"] : List Str) := by
    simp only [List.mem_cons, List.not_mem_nil, or_false, MODES] at h ⊢
    rcases h with rfl | rfl | rfl <;> simp
  rw [decide_eq_true h2] at h1
  exact h1
theorem thing_ok {call : Call} {iName iRow iAre : Nat} (hN : NameOk call iName) (hR : RowOk call iRow) (hA : AreOk call iAre) (r : Str × List Str × Str) (h1 : r.1 ∈ NAMES) (h2 : ∀ x ∈ r.2.1, x ∈ NAMES) (h3 : Asc r.2.1) (h4 : 1 ≤ r.2.1.length) (h5 : r.2.1.length ≤ 3) (h6 : r.2.2 ∈ MODES) :
    runF call (fIsThing iName iRow iAre) [(rowD r, false)] = some (.bool true, false, [.no]) := by
  have e1 := hR [.str r.1, .tuple (txts r.2.1), .str r.2.2] 3 3 (by simp) (by simp)
  have e2 := hN r.1 h1
  have e3 := hA r.2.1 1 3 h2 h3 (by omega) (by omega) (by omega)
  have e4 := modes_in h6
  unfold rowD fIsThing
  generalize hI : opIn = oi at e4
  simp [runF, envOf, slotA, evSs, evS, ev, opn, fetch, evOs, evs, evAnd, evOr, fetchAll, opIdx, opCmp, kindD, isTy, asB, asI, atI, ixN, calL, slotsOf, distinct, lend, giveBack, isSl, lents, lentS, e1, e2, e3, hI, e4]
theorem dedup_id : ∀ {xs : List Str}, xs.Nodup → dedupS xs = xs
  | [], _ => rfl
  | x :: xs, nd => by
    obtain ⟨h1, h2⟩ := List.nodup_cons.mp nd
    unfold dedupS
    rw [dedup_id h2, if_neg h1]
theorem pyEq_int (i j : Int) : pyEq (.int i) (.int j) = some (decide (i = j)) := by
  unfold pyEq
  rw [if_pos (by rfl)]
  show some (i == j) = _
  by_cases h : i = j <;> simp [h]
def JobOk (call : Call) (i : Nat) : Prop := ∀ (ns : List Str) (j : Str × List Str), j.1 ∈ NAMES → (∀ x ∈ ns, x ∈ NAMES) → (∀ x ∈ j.2, x ∈ ns) → j.2.Nodup → j.2 ≠ [] → j.2.length ≤ 3 → call i [(.list (txts ns), false), (jobD j, false)] = some (.bool true, false, [.no, .no])
theorem job_ok {call : Call} {iName iRow : Nat} (hN : NameOk call iName) (hR : RowOk call iRow) (ns : List Str) (j : Str × List Str) (h1 : j.1 ∈ NAMES) (h2 : ∀ x ∈ ns, x ∈ NAMES) (h3 : ∀ x ∈ j.2, x ∈ ns) (h4 : j.2.Nodup) (h5 : j.2 ≠ []) (h6 : j.2.length ≤ 3) :
    runF call (fIsJob iName iRow) [(.list (txts ns), false), (jobD j, false)] = some (.bool true, false, [.no, .no]) := by
  have hpos : 0 < j.2.length := List.length_pos_iff.mpr h5
  have e1 := hR [.str j.1, .tuple (txts j.2)] 2 2 (by simp) (by simp)
  have e2 := hN j.1 h1
  have e3 := hR (txts j.2) 1 5 (by rw [txts_len]; omega) (by rw [txts_len]; omega)
  have e4 := ev_all (call := call) (e := .and [.cal iName [.var 2] [], .cmp .isIn (.var 2) (.var 0)]) (tg := .nm 2) (k := .seq) (its := [.idx (.var 1) (.cst (.int 1))]) (own := [2]) (ρ := [.fr (.list (txts ns)), .fr (jobD j), .no]) (ρ1 := [.fr (.list (txts ns)), .fr (jobD j), .no]) (ds := [.tuple (txts j.2)]) (items := txts j.2) (by simp [runF, envOf, slotA, evSs, evS, ev, opn, fetch, evOs, evs, evOI, evAnd, evOr, evIfs, evRs, fetchAll, opIdx, opCmp, opBin, opBlt, opSlc, opMthK, opMth, opIn, opLt, kindD, isTy, asB, asI, asL, dOk, atI, ixN, setS, asgT, setAll, setPar, setAt, appAt, ownL, popD, calL, slotsOf, distinct, lend, giveBack, isSl, lents, lentS, killS, wipeP, back, forL, itemsOf, jobD]) rfl (fun d hd => by
    obtain ⟨x, hx, rfl⟩ := List.mem_map.mp hd
    refine ⟨[.fr (.list (txts ns)), .fr (jobD j), .fr (.str x)], [.fr (.list (txts ns)), .fr (jobD j), .fr (.str x)], false, rfl, ?_, rfl⟩
    have q := opIn_list (x := x) (ys := ns) (names_okS (h2 x (h3 x hx))) fun y hy => names_okS (h2 y hy)
    rw [decide_eq_true (h3 x hx)] at q
    have q2 := hN x (h2 x (h3 x hx))
    generalize hI : opIn = oi at q
    simp [runF, ev, opn, fetch, evOs, evAnd, opCmp, asB, calL, slotsOf, distinct, lend, giveBack, isSl, hI, q, q2]) (by rw [txts_len]; unfold LIM; omega)
  unfold fIsJob
  generalize hY : X.blt .all [.lc (.and [.cal iName [.var 2] [], .cmp .isIn (.var 2) (.var 0)]) (.nm 2) .seq [.idx (.var 1) (.cst (.int 1))] [] [2]] = Y at e4 ⊢
  have l1 : j.2.length < 64 := by omega
  unfold jobD at e4 ⊢
  simp only [txts] at e1 e3 e4 ⊢
  simp [runF, envOf, slotA, evSs, evS, ev, opn, fetch, evOs, evs, evOI, evAnd, evOr, evIfs, evRs, fetchAll, opIdx, opCmp, opBin, opBlt, opSlc, opMthK, opMth, opIn, opLt, kindD, isTy, asB, asI, asL, dOk, atI, ixN, setS, asgT, setAll, setPar, setAt, appAt, ownL, popD, calL, slotsOf, distinct, lend, giveBack, isSl, lents, lentS, killS, wipeP, back, forL, itemsOf, e1, e2, e3, e4, mapM_strs, mapM_strs', l1, dedup_id h4, pyEq_int]
end PV

set_option Elab.async false
set_option linter.all false
set_option maxRecDepth 100000
set_option maxHeartbeats 4000000
/-! PV: works are found right. -/
namespace PV
open PySem L2
def fIsWorks (iRow iAsc iAre iThing iJob iNamesOf : Nat) : Fn := ⟨1, 8, [.ife (.or [.not (.cal iRow [.var 0, .cst (.int 3), .cst (.int 3)] []), .not (.cal iAre [.idx (.var 0) (.cst (.int 0)), .cst (.int 1), .cst (.int 3)] []), .not (.cal iRow [.idx (.var 0) (.cst (.int 1)), .cst (.int 1), .cst (.int 5)] [])]) [.ret (.cst (.bool false))] [], .ife (.or [.not (.blt .all [.lc (.cal iThing [.var 6] []) (.nm 6) .seq [.idx (.var 0) (.cst (.int 1))] [] [6]]), .not (.cal iRow [.idx (.var 0) (.cst (.int 2)), .cst (.int 0), .cst (.int 4)] [])]) [.ret (.cst (.bool false))] [], .asg (.nm 1) (.blt .list [.idx (.var 0) (.cst (.int 0))]), .for (.tup [2, 3, 4]) .seq [.idx (.var 0) (.cst (.int 1))] [.ife (.or [.cmp .isIn (.var 2) (.var 1), .not (.blt .all [.lc (.cmp .isIn (.var 7) (.var 1)) (.nm 7) .seq [.var 3] [] [7]])]) [.ret (.cst (.bool false))] [], .app 1 (.var 2)] [2, 3, 4], .ife (.not (.blt .all [.lc (.cal iJob [.cal iNamesOf [.var 0] [], .var 5] []) (.nm 5) .seq [.idx (.var 0) (.cst (.int 2))] [] [5]])) [.ret (.cst (.bool false))] [], .ret (.cal iAsc [.lc (.idx (.var 5) (.cst (.int 0))) (.nm 5) .seq [.idx (.var 0) (.cst (.int 2))] [] [5]] [])]⟩
def NamesOfOk (call : Call) (i : Nat) : Prop := ∀ W : Works, W.rows.length < 1000 → call i [(worksD W, false)] = some (.list (txts (W.rows.map (·.1))), true, [.no])
theorem namesOf_ok (call : Call) (W : Works) (hl : W.rows.length < 1000) : runF call fNamesOf [(worksD W, false)] = some (.list (txts (W.rows.map (·.1))), true, [.no]) := by
  have e1 := ev_lc (call := call) (e := .idx (.var 1) (.cst (.int 0))) (tg := .nm 1) (k := .seq) (its := [.idx (.var 0) (.cst (.int 1))]) (ifs := []) (own := [1]) (ρ := [.fr (worksD W), .no]) (ρ1 := [.fr (worksD W), .no]) (ρ2 := [.fr (worksD W), .no]) (ds := [.tuple (W.rows.map rowD)]) (items := W.rows.map rowD) (ys := txts (W.rows.map (·.1))) (by simp [runF, envOf, slotA, evSs, evS, ev, opn, fetch, evOs, evs, evOI, evAnd, evOr, evIfs, evRs, fetchAll, opIdx, opCmp, opBin, opBlt, opSlc, opMthK, opMth, opIn, opLt, kindD, isTy, asB, asI, asL, dOk, atI, ixN, setS, asgT, setAll, setPar, setAt, appAt, ownL, popD, calL, slotsOf, distinct, lend, giveBack, isSl, lents, lentS, killS, wipeP, back, forL, itemsOf, worksD]) rfl (by
    have : txts (W.rows.map (·.1)) = (W.rows.map rowD).map fun d => (opIdx d (.int 0)).getD .none := by
      simp only [txts, List.map_map]
      rfl
    rw [this]
    refine lcL_map fun d hd => ?_
    obtain ⟨r, hr, rfl⟩ := List.mem_map.mp hd
    simp [runF, envOf, slotA, evSs, evS, ev, opn, fetch, evOs, evs, evOI, evAnd, evOr, evIfs, evRs, fetchAll, opIdx, opCmp, opBin, opBlt, opSlc, opMthK, opMth, opIn, opLt, kindD, isTy, asB, asI, asL, dOk, atI, ixN, setS, asgT, setAll, setPar, setAt, appAt, ownL, popD, calL, slotsOf, distinct, lend, giveBack, isSl, lents, lentS, killS, wipeP, back, forL, itemsOf, rowD]) (by rw [txts_len, List.length_map]; unfold LIM; omega)
  unfold fNamesOf
  generalize hY : X.lc (.idx (.var 1) (.cst (.int 0))) (.nm 1) .seq [.idx (.var 0) (.cst (.int 1))] [] [1] = Y at e1 ⊢
  have nr : ∀ ρ, evS call (.ret Y) ρ = (ev call Y ρ).bind fun x => some (.rt x.1 x.2.1, x.2.2) := fun ρ => by subst hY; rfl
  simp [runF, envOf, slotA, evSs, nr, e1, back, lents, lentS]
/-- the names of the texts that the laws draw -/
theorem draw_nodup {ss ts : List Str} (h1 : ss ∈ SS) (h2 : ts ∈ TT) : (ss ++ ts).Nodup := by
  simp only [SS, TT, List.mem_cons, List.not_mem_nil, or_false] at h1 h2
  rcases h1 with rfl | rfl | rfl <;> rcases h2 with rfl | rfl | rfl <;> decide +kernel
theorem SS_sorted {ss : List Str} (h : ss ∈ SS) : sortS ss = ss := by
  simp only [SS, List.mem_cons, List.not_mem_nil, or_false] at h
  rcases h with rfl | rfl | rfl <;> decide +kernel
theorem SS_asc {ss : List Str} (h : ss ∈ SS) (n : Nat) : Asc (ss.take n) := by
  have pw := sortS_pw ss
  rw [SS_sorted h] at pw
  have nd : ss.Nodup := by
    simp only [SS, List.mem_cons, List.not_mem_nil, or_false] at h
    rcases h with rfl | rfl | rfl <;> decide +kernel
  exact asc_of (pw.sublist (List.take_sublist _ _)) ((List.take_sublist _ _).nodup nd)
theorem labels_asc (m : Nat) : Asc (LABELS.take m) := by
  have pw := sortS_pw LABELS
  have e : sortS LABELS = LABELS := by decide +kernel
  rw [e] at pw
  exact asc_of (pw.sublist (List.take_sublist _ _)) ((List.take_sublist _ _).nodup labels_nodup)
theorem sort_asc (ys : List Str) : Asc (sortS (dedupS ys)) := asc_of (sortS_pw _) ((sortS_perm _).nodup_iff.mpr (dedupS_nodup ys))
theorem sort_mem {ys : List Str} {x : Str} : x ∈ sortS (dedupS ys) ↔ x ∈ ys := (sortS_perm _).mem_iff.trans dedupS_mem
theorem sort_len {ys : List Str} (h : ys ≠ []) : 1 ≤ (sortS (dedupS ys)).length ∧ (sortS (dedupS ys)).length ≤ ys.length := by
  constructor
  · cases ys with
    | nil => exact absurd rfl h
    | cons y ys => exact List.length_pos_of_mem (sort_mem.mpr List.mem_cons_self)
  · rw [(sortS_perm _).length_eq]
    exact dedupS_len ys
theorem ss_names {ss : List Str} (h : ss ∈ SS) : ∀ x ∈ ss, x ∈ NAMES := fun x hx => by
  unfold NAMES
  exact List.mem_append_left _ (List.mem_append_left _ (List.mem_flatten.mpr ⟨ss, h, hx⟩))
theorem ts_names {ts : List Str} (h : ts ∈ TT) : ∀ x ∈ ts, x ∈ NAMES := fun x hx => by
  unfold NAMES
  exact List.mem_append_left _ (List.mem_append_right _ (List.mem_flatten.mpr ⟨ts, h, hx⟩))
theorem la_names : ∀ x ∈ LABELS, x ∈ NAMES := fun x hx => by
  unfold NAMES
  exact List.mem_append_right _ hx
def IsWorksOk (call : Call) (i : Nat) : Prop := ∀ (sn tn jn : Int) (W : Works), WOk sn tn jn W → 1 ≤ sn → sn ≤ 3 → 1 ≤ tn → tn ≤ 5 → jn ≤ 4 → call i [(worksD W, false)] = some (.bool true, false, [.no])
theorem isWorks_ok {call : Call} {iRow iAsc iAre iThing iJob iNamesOf : Nat} (hR : RowOk call iRow) (hA : AscOk call iAsc) (hAre : AreOk call iAre) (hTh : ThingOk call iThing) (hJ : JobOk call iJob) (hNs : NamesOfOk call iNamesOf)
    (sn tn jn : Int) (W : Works) (hW : WOk sn tn jn W) (b1 : 1 ≤ sn) (b2 : sn ≤ 3) (b3 : 1 ≤ tn) (b4 : tn ≤ 5) (b5 : jn ≤ 4) :
    runF call (fIsWorks iRow iAsc iAre iThing iJob iNamesOf) [(worksD W, false)] = some (.bool true, false, [.no]) := by
  obtain ⟨ss0, hss, ts0, hts, eS, eR, gR, ⟨m, hm, eJ⟩, gJ⟩ := hW.ex
  have l3 := SS_len hss
  have l5 := TT_len hts
  have lS : W.ss.length = sn.toNat := by rw [eS, List.length_take]; omega
  have lR : W.rows.length = tn.toNat := by
    have := congrArg List.length eR
    rw [List.length_map, List.length_take] at this
    omega
  have lJ : W.jobs.length = m := by
    have := congrArg List.length eJ
    rw [List.length_map, List.length_take] at this
    have l4 : LABELS.length = 4 := rfl
    omega
  have nS : ∀ x ∈ W.ss, x ∈ NAMES := fun x hx => ss_names hss x (List.mem_of_mem_take (eS ▸ hx))
  have nR : ∀ x ∈ W.rows.map (·.1), x ∈ NAMES := fun x hx => ts_names hts x (List.mem_of_mem_take (eR ▸ hx))
  have nJ : ∀ j ∈ W.jobs, j.1 ∈ NAMES := fun j hj => la_names _ (List.mem_of_mem_take (by rw [← eJ]; exact List.mem_map.mpr ⟨j, hj, rfl⟩))
  have row : ∀ r ∈ W.rows, r.1 ∈ NAMES ∧ (∀ x ∈ r.2.1, x ∈ NAMES) ∧ Asc r.2.1 ∧ 1 ≤ r.2.1.length ∧ r.2.1.length ≤ 3 ∧ r.2.2 ∈ MODES := fun r hr => by
    obtain ⟨j, hj⟩ := List.mem_iff_getElem?.mp hr
    obtain ⟨⟨ys, y1, y2, y3, y4⟩, gm⟩ := gR j r hj
    refine ⟨nR _ (List.mem_map.mpr ⟨r, hr, rfl⟩), fun x hx => ?_, by rw [y4]; exact sort_asc ys, by rw [y4]; exact (sort_len y1).1, by rw [y4]; exact Nat.le_trans (sort_len y1).2 y2, gm⟩
    rw [y4] at hx
    rcases List.mem_append.mp (y3 x (sort_mem.mp hx)) with z | z
    · exact nS x z
    · exact ts_names hts x (List.mem_of_mem_take z)
  -- the tests
  have t1 := hR [.tuple (txts W.ss), .tuple (W.rows.map rowD), .tuple (W.jobs.map jobD)] 3 3 (by simp) (by simp)
  have t2 := hAre W.ss 1 3 nS (by rw [eS]; exact SS_asc hss _) (by omega) (by omega) (by omega)
  have t3 := hR (W.rows.map rowD) 1 5 (by rw [List.length_map]; omega) (by rw [List.length_map]; omega)
  have t5 := hR (W.jobs.map jobD) 0 4 (by omega) (by rw [List.length_map]; omega)
  have t7 := (hA (W.jobs.map (·.1)) (by rw [eJ]; exact labels_asc m) (by rw [List.length_map]; omega)).2
  have t8 := hNs W (by omega)
  have t4 := ev_all (call := call) (e := .cal iThing [.var 6] []) (tg := .nm 6) (k := .seq) (its := [.idx (.var 0) (.cst (.int 1))]) (own := [6]) (ρ := [.fr (worksD W), .no, .no, .no, .no, .no, .no, .no]) (ρ1 := [.fr (worksD W), .no, .no, .no, .no, .no, .no, .no]) (ds := [.tuple (W.rows.map rowD)]) (items := W.rows.map rowD) (by simp [runF, envOf, slotA, evSs, evS, ev, opn, fetch, evOs, evs, evOI, evAnd, evOr, evIfs, evRs, fetchAll, opIdx, opCmp, opBin, opBlt, opSlc, opMthK, opMth, opIn, opLt, kindD, isTy, asB, asI, asL, dOk, atI, ixN, setS, asgT, setAll, setPar, setAt, appAt, ownL, popD, calL, slotsOf, distinct, lend, giveBack, isSl, lents, lentS, killS, wipeP, back, forL, itemsOf, worksD]) rfl (fun d hd => by
    obtain ⟨r, hr, rfl⟩ := List.mem_map.mp hd
    obtain ⟨a1, a2, a3, a4, a5, a6⟩ := row r hr
    refine ⟨[.fr (worksD W), .no, .no, .no, .no, .no, .fr (rowD r), .no], [.fr (worksD W), .no, .no, .no, .no, .no, .fr (rowD r), .no], false, rfl, ?_, rfl⟩
    simp [runF, envOf, slotA, evSs, evS, ev, opn, fetch, evOs, evs, evOI, evAnd, evOr, evIfs, evRs, fetchAll, opIdx, opCmp, opBin, opBlt, opSlc, opMthK, opMth, opIn, opLt, kindD, isTy, asB, asI, asL, dOk, atI, ixN, setS, asgT, setAll, setPar, setAt, appAt, ownL, popD, calL, slotsOf, distinct, lend, giveBack, isSl, lents, lentS, killS, wipeP, back, forL, itemsOf, hTh r a1 a2 a3 a4 a5 a6]) (by rw [List.length_map]; unfold LIM; omega)
  have loop := forL_nx (step := fun d ρ => do
      let ρ ← asgT ρ (.tup [2, 3, 4]) d false
      let (f, ρ) ← evSs call [.ife (.or [.cmp .isIn (.var 2) (.var 1), .not (.blt .all [.lc (.cmp .isIn (.var 7) (.var 1)) (.nm 7) .seq [.var 3] [] [7]])]) [.ret (.cst (.bool false))] [], .app 1 (.var 2)] ρ
      pure (f, killS ρ [2, 3, 4])) (fun i ρ => ρ = [.fr (worksD W), .ow (.list (txts ((W.ss ++ (W.rows.map (·.1)).take i)))), .no, .no, .no, .no, .no, .no]) (W.rows.map rowD) 0 [.fr (worksD W), .ow (.list (txts (W.ss))), .no, .no, .no, .no, .no, .no] (fun j d ρ hd hI => ?_) (by simp)
  · obtain ⟨ρ1, f1, rfl⟩ := loop
    generalize hkn : Slot.ow (PyData.list (txts (W.ss ++ (W.rows.map (·.1)).take (0 + (W.rows.map rowD).length)))) = kn at f1
    have t6 := ev_all (call := call) (e := .cal iJob [.cal iNamesOf [.var 0] [], .var 5] []) (tg := .nm 5) (k := .seq) (its := [.idx (.var 0) (.cst (.int 2))]) (own := [5]) (ρ := [.fr (worksD W), kn, .no, .no, .no, .no, .no, .no]) (ρ1 := [.fr (worksD W), kn, .no, .no, .no, .no, .no, .no]) (ds := [.tuple (W.jobs.map jobD)]) (items := W.jobs.map jobD) (by simp [runF, envOf, slotA, evSs, evS, ev, opn, fetch, evOs, evs, evOI, evAnd, evOr, evIfs, evRs, fetchAll, opIdx, opCmp, opBin, opBlt, opSlc, opMthK, opMth, opIn, opLt, kindD, isTy, asB, asI, asL, dOk, atI, ixN, setS, asgT, setAll, setPar, setAt, appAt, ownL, popD, calL, slotsOf, distinct, lend, giveBack, isSl, lents, lentS, killS, wipeP, back, forL, itemsOf, worksD]) rfl (fun d hd => by
      obtain ⟨j, hj, rfl⟩ := List.mem_map.mp hd
      have g := gJ j hj
      have e := hJ (W.rows.map (·.1)) j (nJ j hj) nR (by rw [eR]; exact g.sub) g.nd g.ne g.len
      refine ⟨[.fr (worksD W), kn, .no, .no, .no, .fr (jobD j), .no, .no], [.fr (worksD W), kn, .no, .no, .no, .fr (jobD j), .no, .no], false, rfl, ?_, rfl⟩
      simp [runF, envOf, slotA, evSs, evS, ev, opn, fetch, evOs, evs, evOI, evAnd, evOr, evIfs, evRs, fetchAll, opIdx, opCmp, opBin, opBlt, opSlc, opMthK, opMth, opIn, opLt, kindD, isTy, asB, asI, asL, dOk, atI, ixN, setS, asgT, setAll, setPar, setAt, appAt, ownL, popD, calL, slotsOf, distinct, lend, giveBack, isSl, lents, lentS, killS, wipeP, back, forL, itemsOf, t8, e]) (by rw [List.length_map]; unfold LIM; omega)
    have t9 := ev_lc (call := call) (e := .idx (.var 5) (.cst (.int 0))) (tg := .nm 5) (k := .seq) (its := [.idx (.var 0) (.cst (.int 2))]) (ifs := []) (own := [5]) (ρ := [.fr (worksD W), kn, .no, .no, .no, .no, .no, .no]) (ρ1 := [.fr (worksD W), kn, .no, .no, .no, .no, .no, .no]) (ρ2 := [.fr (worksD W), kn, .no, .no, .no, .no, .no, .no]) (ds := [.tuple (W.jobs.map jobD)]) (items := W.jobs.map jobD) (ys := txts (W.jobs.map (·.1))) (by simp [runF, envOf, slotA, evSs, evS, ev, opn, fetch, evOs, evs, evOI, evAnd, evOr, evIfs, evRs, fetchAll, opIdx, opCmp, opBin, opBlt, opSlc, opMthK, opMth, opIn, opLt, kindD, isTy, asB, asI, asL, dOk, atI, ixN, setS, asgT, setAll, setPar, setAt, appAt, ownL, popD, calL, slotsOf, distinct, lend, giveBack, isSl, lents, lentS, killS, wipeP, back, forL, itemsOf, worksD]) rfl (by
      have : txts (W.jobs.map (·.1)) = (W.jobs.map jobD).map fun d => (opIdx d (.int 0)).getD .none := by
        simp only [txts, List.map_map]
        rfl
      rw [this]
      refine lcL_map fun d hd => ?_
      obtain ⟨r, hr, rfl⟩ := List.mem_map.mp hd
      simp [runF, envOf, slotA, evSs, evS, ev, opn, fetch, evOs, evs, evOI, evAnd, evOr, evIfs, evRs, fetchAll, opIdx, opCmp, opBin, opBlt, opSlc, opMthK, opMth, opIn, opLt, kindD, isTy, asB, asI, asL, dOk, atI, ixN, setS, asgT, setAll, setPar, setAt, appAt, ownL, popD, calL, slotsOf, distinct, lend, giveBack, isSl, lents, lentS, killS, wipeP, back, forL, itemsOf, jobD]) (by rw [txts_len, List.length_map]; unfold LIM; omega)
    have t10 : ev call (.cal iAsc [.lc (.idx (.var 5) (.cst (.int 0))) (.nm 5) .seq [.idx (.var 0) (.cst (.int 2))] [] [5]] []) [.fr (worksD W), kn, .no, .no, .no, .no, .no, .no] = some (.bool true, false, [.fr (worksD W), kn, .no, .no, .no, .no, .no, .no]) := by
      obtain ⟨Y, hY⟩ : ∃ Y, Y = X.lc (.idx (.var 5) (.cst (.int 0))) (.nm 5) .seq [.idx (.var 0) (.cst (.int 2))] [] [5] := ⟨_, rfl⟩
      have nv : ∀ ρ, opn Y (ev call Y) ρ = (ev call Y ρ).bind fun x => some (Op.dv x.1, x.2.2) := fun ρ => by subst hY; rfl
      rw [← hY] at t9 ⊢
      simp [ev, evOs, nv, t9, back, calL, slotsOf, distinct, lend, fetch, isSl, t7, giveBack]
    have b0 : envOf (fIsWorks iRow iAsc iAre iThing iJob iNamesOf) [(worksD W, false)] = [.fr (worksD W), .no, .no, .no, .no, .no, .no, .no] := rfl
    unfold runF
    rw [if_pos (by rfl), b0]
    have main : evSs call (fIsWorks iRow iAsc iAre iThing iJob iNamesOf).body [.fr (worksD W), .no, .no, .no, .no, .no, .no, .no] = some (.rt (.bool true) false, [.fr (worksD W), kn, .no, .no, .no, .no, .no, .no]) := by
      refine evSs_cons (ρ1 := [.fr (worksD W), .no, .no, .no, .no, .no, .no, .no]) ?_ ?_
      · simp only [worksD] at t1 t2 t3 ⊢
        simp [runF, envOf, slotA, evSs, evS, ev, opn, fetch, evOs, evs, evOI, evAnd, evOr, evIfs, evRs, fetchAll, opIdx, opCmp, opBin, opBlt, opSlc, opMthK, opMth, opIn, opLt, kindD, isTy, asB, asI, asL, dOk, atI, ixN, setS, asgT, setAll, setPar, setAt, appAt, ownL, popD, calL, slotsOf, distinct, lend, giveBack, isSl, lents, lentS, killS, wipeP, back, forL, itemsOf, t1, t2, t3]
      refine evSs_cons (ρ1 := [.fr (worksD W), .no, .no, .no, .no, .no, .no, .no]) ?_ ?_
      · generalize hY : X.blt .all [.lc (.cal iThing [.var 6] []) (.nm 6) .seq [.idx (.var 0) (.cst (.int 1))] [] [6]] = Y at t4 ⊢
        simp only [worksD] at t4 t5 ⊢
        simp [runF, envOf, slotA, evSs, evS, ev, opn, fetch, evOs, evs, evOI, evAnd, evOr, evIfs, evRs, fetchAll, opIdx, opCmp, opBin, opBlt, opSlc, opMthK, opMth, opIn, opLt, kindD, isTy, asB, asI, asL, dOk, atI, ixN, setS, asgT, setAll, setPar, setAt, appAt, ownL, popD, calL, slotsOf, distinct, lend, giveBack, isSl, lents, lentS, killS, wipeP, back, forL, itemsOf, t4, t5]
      refine evSs_cons (ρ1 := [.fr (worksD W), .ow (.list (txts (W.ss))), .no, .no, .no, .no, .no, .no]) (by simp [runF, envOf, slotA, evSs, evS, ev, opn, fetch, evOs, evs, evOI, evAnd, evOr, evIfs, evRs, fetchAll, opIdx, opCmp, opBin, opBlt, opSlc, opMthK, opMth, opIn, opLt, kindD, isTy, asB, asI, asL, dOk, atI, ixN, setS, asgT, setAll, setPar, setAt, appAt, ownL, popD, calL, slotsOf, distinct, lend, giveBack, isSl, lents, lentS, killS, wipeP, back, forL, itemsOf, worksD]) ?_
      refine evSs_cons (evS_for (items := W.rows.map rowD) (ds := [.tuple (W.rows.map rowD)]) (by simp [runF, envOf, slotA, evSs, evS, ev, opn, fetch, evOs, evs, evOI, evAnd, evOr, evIfs, evRs, fetchAll, opIdx, opCmp, opBin, opBlt, opSlc, opMthK, opMth, opIn, opLt, kindD, isTy, asB, asI, asL, dOk, atI, ixN, setS, asgT, setAll, setPar, setAt, appAt, ownL, popD, calL, slotsOf, distinct, lend, giveBack, isSl, lents, lentS, killS, wipeP, back, forL, itemsOf, worksD]) rfl f1) ?_
      refine evSs_cons (ρ1 := [.fr (worksD W), kn, .no, .no, .no, .no, .no, .no]) ?_ ?_
      · generalize hY : X.blt .all [.lc (.cal iJob [.cal iNamesOf [.var 0] [], .var 5] []) (.nm 5) .seq [.idx (.var 0) (.cst (.int 2))] [] [5]] = Y at t6 ⊢
        simp [runF, envOf, slotA, evSs, evS, ev, opn, fetch, evOs, evs, evOI, evAnd, evOr, evIfs, evRs, fetchAll, opIdx, opCmp, opBin, opBlt, opSlc, opMthK, opMth, opIn, opLt, kindD, isTy, asB, asI, asL, dOk, atI, ixN, setS, asgT, setAll, setPar, setAt, appAt, ownL, popD, calL, slotsOf, distinct, lend, giveBack, isSl, lents, lentS, killS, wipeP, back, forL, itemsOf, t6]
      generalize hY : X.cal iAsc [.lc (.idx (.var 5) (.cst (.int 0))) (.nm 5) .seq [.idx (.var 0) (.cst (.int 2))] [] [5]] [] = Y at t10 ⊢
      have nr : ∀ ρ, evS call (.ret Y) ρ = (ev call Y ρ).bind fun x => some (.rt x.1 x.2.1, x.2.2) := fun ρ => by subst hY; rfl
      simp [evSs, nr, t10]
    rw [main]
    rfl
  · rw [List.getElem?_map, Option.map_eq_some_iff] at hd
    obtain ⟨r, hr, rfl⟩ := hd
    subst hI
    rw [Nat.zero_add j]
    have hr1 : (W.rows.map (·.1))[j]? = some r.1 := by rw [List.getElem?_map, hr]; rfl
    have hjl := (List.getElem?_eq_some_iff.mp hr).1
    have tj : (W.rows.map (·.1)).take j = ts0.take j := by
      rw [eR, List.take_take]
      congr 1
      omega
    have nd := draw_nodup hss hts
    have hts1 : ts0[j]? = some r.1 := by
      rw [eR, List.getElem?_take] at hr1
      split at hr1
      · exact hr1
      · cases hr1
    have known : ∀ x ∈ W.ss ++ (W.rows.map (·.1)).take j, x ∈ NAMES := fun x hx => by
      rcases List.mem_append.mp hx with z | z
      · exact nS x z
      · exact nR x (List.mem_of_mem_take z)
    have notin : r.1 ∉ W.ss ++ (W.rows.map (·.1)).take j := by
      rw [tj]
      have sub : (W.ss ++ (ts0.take j ++ [r.1])).Sublist (ss0 ++ ts0) := by
        rw [eS, ← take_succ_get hts1]
        exact List.Sublist.append (List.take_sublist _ _) (List.take_sublist _ _)
      have nd2 := sub.nodup nd
      rw [← List.append_assoc, List.nodup_append] at nd2
      exact fun z => nd2.2.2 _ z _ (List.mem_singleton.mpr rfl) rfl
    obtain ⟨a1, a2, a3, a4, a5, a6⟩ := row r (List.mem_of_getElem? hr)
    have q1 := opIn_list (x := r.1) (ys := W.ss ++ (W.rows.map (·.1)).take j) (names_okS a1) fun y hy => names_okS (known y hy)
    rw [decide_eq_false notin] at q1
    have parts : ∀ x ∈ r.2.1, x ∈ W.ss ++ (W.rows.map (·.1)).take j := fun x hx => by
      obtain ⟨⟨ys, y1, y2, y3, y4⟩, gm⟩ := gR j r hr
      rw [y4] at hx
      rw [tj]
      exact y3 x (sort_mem.mp hx)
    have q2 := ev_all (call := call) (e := .cmp .isIn (.var 7) (.var 1)) (tg := .nm 7) (k := .seq) (its := [.var 3]) (own := [7]) (ρ := [.fr (worksD W), .ow (.list (txts ((W.ss ++ (W.rows.map (·.1)).take j)))), .fr (.str r.1), .fr (.tuple (txts r.2.1)), .fr (.str r.2.2), .no, .no, .no]) (ρ1 := [.fr (worksD W), .ow (.list (txts ((W.ss ++ (W.rows.map (·.1)).take j)))), .fr (.str r.1), .fr (.tuple (txts r.2.1)), .fr (.str r.2.2), .no, .no, .no]) (ds := [.tuple (txts r.2.1)]) (items := txts r.2.1) (by simp [runF, envOf, slotA, evSs, evS, ev, opn, fetch, evOs, evs, evOI, evAnd, evOr, evIfs, evRs, fetchAll, opIdx, opCmp, opBin, opBlt, opSlc, opMthK, opMth, opIn, opLt, kindD, isTy, asB, asI, asL, dOk, atI, ixN, setS, asgT, setAll, setPar, setAt, appAt, ownL, popD, calL, slotsOf, distinct, lend, giveBack, isSl, lents, lentS, killS, wipeP, back, forL, itemsOf]) rfl (fun d hd => by
      obtain ⟨x, hx, rfl⟩ := List.mem_map.mp hd
      refine ⟨[.fr (worksD W), .ow (.list (txts ((W.ss ++ (W.rows.map (·.1)).take j)))), .fr (.str r.1), .fr (.tuple (txts r.2.1)), .fr (.str r.2.2), .no, .no, .fr (.str x)], [.fr (worksD W), .ow (.list (txts ((W.ss ++ (W.rows.map (·.1)).take j)))), .fr (.str r.1), .fr (.tuple (txts r.2.1)), .fr (.str r.2.2), .no, .no, .fr (.str x)], false, rfl, ?_, rfl⟩
      have q := opIn_list (x := x) (ys := W.ss ++ (W.rows.map (·.1)).take j) (names_okS (a2 x hx)) fun y hy => names_okS (known y hy)
      rw [decide_eq_true (parts x hx)] at q
      generalize hI : opIn = oi at q
      generalize txts (W.ss ++ (W.rows.map (·.1)).take j) = kk at q ⊢
      simp [ev, opn, fetch, opCmp, hI, q]) (by rw [txts_len]; unfold LIM; omega)
    refine ⟨_, ?_, rfl⟩
    have ha : asgT [.fr (worksD W), .ow (.list (txts ((W.ss ++ (W.rows.map (·.1)).take j)))), .no, .no, .no, .no, .no, .no] (.tup [2, 3, 4]) (rowD r) false = some [.fr (worksD W), .ow (.list (txts ((W.ss ++ (W.rows.map (·.1)).take j)))), .fr (.str r.1), .fr (.tuple (txts r.2.1)), .fr (.str r.2.2), .no, .no, .no] := rfl
    have hlim : (txts (W.ss ++ (W.rows.map (·.1)).take j)).length < LIM := by
      rw [txts_len, List.length_append, List.length_take, List.length_map]
      unfold LIM
      omega
    have he : txts (W.ss ++ (W.rows.map (·.1)).take j) ++ [.str r.1] = txts (W.ss ++ (W.rows.map (·.1)).take (j + 1)) := by
      rw [take_succ_get hr1, ← List.append_assoc]
      simp [txts]
    simp only [ha, Option.bind_eq_bind, Option.bind_some]
    generalize hY : X.blt .all [.lc (.cmp .isIn (.var 7) (.var 1)) (.nm 7) .seq [.var 3] [] [7]] = Y at q2 ⊢
    rw [← he]
    generalize hI : opIn = oi at q1
    generalize txts (W.ss ++ (W.rows.map (·.1)).take j) = kk at q1 q2 hlim ⊢
    simp [evSs, evS, evOr, ev, opn, fetch, opCmp, asB, hI, q1, q2, back, wipeP, ownL, appAt, hlim, killS]
end PV

set_option Elab.async false
set_option linter.all false
set_option maxRecDepth 100000
set_option maxHeartbeats 2000000
/-! PV: values that may be any; comprehensions whose turns do not fail. -/
namespace PV
open PySem
/-! ### values of bounded depth and width -/
def Nc : Nat → D → Prop
  | _, .none => True
  | _, .bool _ => True
  | _, .int _ => True
  | _, .str x => x.length ≤ 300
  | k + 1, .list ds => ds.length ≤ 100 ∧ ∀ d ∈ ds, Nc k d
  | k + 1, .tuple ds => ds.length ≤ 100 ∧ ∀ d ∈ ds, Nc k d
  | 0, .list _ => False
  | 0, .tuple _ => False
  | _, .dict _ => False
theorem Nc.ok : ∀ {k : Nat} {d : D}, Nc k d → PyData.plain d = true ∧ PyData.depth d ≤ k := by
  have all : ∀ {k : Nat} {ds : List D}, (∀ d ∈ ds, PyData.plain d = true ∧ PyData.depth d ≤ k) → PyData.plainAll ds = true ∧ PyData.depthAll ds ≤ k := fun {k ds} => by
    induction ds with
    | nil => intro _; exact ⟨rfl, Nat.zero_le _⟩
    | cons d ds ih =>
      intro h
      obtain ⟨h1, h2⟩ := h d List.mem_cons_self
      obtain ⟨h3, h4⟩ := ih fun x hx => h x (List.mem_cons_of_mem _ hx)
      refine ⟨?_, ?_⟩
      · show (PyData.plain d && PyData.plainAll ds) = true
        rw [h1, h3]; rfl
      · show max (PyData.depth d) (PyData.depthAll ds) ≤ k
        omega
  intro k
  induction k with
  | zero =>
    intro d h
    cases d <;> first | exact ⟨rfl, Nat.le_refl _⟩ | exact absurd h (by simp [Nc])
  | succ k ih =>
    intro d h
    cases d with
    | list ds =>
      obtain ⟨h1, h2⟩ := all fun d hd => ih (h.2 d hd)
      exact ⟨h1, by show PyData.depthAll ds + 1 ≤ k + 1; omega⟩
    | tuple ds =>
      obtain ⟨h1, h2⟩ := all fun d hd => ih (h.2 d hd)
      exact ⟨h1, by show PyData.depthAll ds + 1 ≤ k + 1; omega⟩
    | dict kvs => exact absurd h (by simp [Nc])
    | _ => exact ⟨rfl, Nat.zero_le _⟩
theorem Nc.okD {k : Nat} {d : D} (h : Nc k d) (hk : k ≤ 60) : PV.okD d = true := by
  obtain ⟨h1, h2⟩ := h.ok
  simp only [PV.okD, h1, Bool.true_and, decide_eq_true_eq]
  omega
theorem Nc.mono : ∀ {k m : Nat} {d : D}, Nc k d → k ≤ m → Nc m d
  | 0, m, d, h, _ => by
    cases d <;> first | (cases m <;> exact h) | exact absurd h (by simp [Nc])
  | k + 1, 0, d, h, hm => by omega
  | k + 1, m + 1, d, h, hm => by
    cases d with
    | list ds => exact ⟨h.1, fun d hd => (h.2 d hd).mono (by omega)⟩
    | tuple ds => exact ⟨h.1, fun d hd => (h.2 d hd).mono (by omega)⟩
    | dict kvs => exact absurd h (by simp [Nc])
    | _ => exact h
/-- any value of a drawn kind -/
def Good (d : D) : Prop := Nc 50 d
theorem Nc.good {k : Nat} {d : D} (h : Nc k d) (hk : k ≤ 50 := by decide) : Good d := h.mono hk
theorem Good.ok {d : D} (h : Good d) : PV.okD d = true := Nc.okD h (by decide)
theorem Good.tup {ds : List D} (h : Good (.tuple ds)) : ds.length ≤ 100 ∧ ∀ d ∈ ds, Good d := ⟨h.1, fun d hd => (h.2 d hd).mono (by decide)⟩
theorem Good.str {x : Str} (h : Good (.str x)) : x.length ≤ 300 := h
theorem ok_lst {ds : List D} (h : ∀ d ∈ ds, Good d) : PV.okD (.list ds) = true := by
  have : ∀ ds : List D, (∀ d ∈ ds, Good d) → PyData.plainAll ds = true ∧ PyData.depthAll ds ≤ 50 := fun ds => by
    induction ds with
    | nil => intro _; exact ⟨rfl, Nat.zero_le _⟩
    | cons d ds ih =>
      intro h
      obtain ⟨h1, h2⟩ := Nc.ok (h d List.mem_cons_self)
      obtain ⟨h3, h4⟩ := ih fun x hx => h x (List.mem_cons_of_mem _ hx)
      refine ⟨?_, ?_⟩
      · show (PyData.plain d && PyData.plainAll ds) = true
        rw [h1, h3]; rfl
      · show max (PyData.depth d) (PyData.depthAll ds) ≤ 50
        omega
  obtain ⟨h1, h2⟩ := this ds h
  simp only [PV.okD, Bool.and_eq_true, decide_eq_true_eq]
  exact ⟨h1, by show PyData.depthAll ds + 1 ≤ 64; omega⟩
theorem ok_nil : PV.okD (.list []) = true := rfl
theorem pyEq_nil {ds : List D} (h : ∀ d ∈ ds, Good d) : pyEq (.list ds) (.list []) = some ds.isEmpty := by
  unfold pyEq
  rw [ok_lst h, ok_nil]
  cases ds <;> rfl
theorem pyEq_nilT {ds : List D} (h : Good (.tuple ds)) : pyEq (.tuple ds) (.tuple []) = some ds.isEmpty := by
  unfold pyEq
  rw [h.ok, show PV.okD (.tuple []) = true from rfl]
  cases ds <;> rfl
/-! ### comprehensions -/
section
variable {call : Call} {e c : X} {tg : Tg} {k : IK} {its : List X} {own : List Nat} {ρ ρ1 : Pl} {ds items : List D} {f : D → D} {p : D → Bool}
theorem ev_lcM (h1 : evs call its ρ = some (ds, ρ1)) (h2 : itemsOf k ds = some items) (h3 : ∀ d ∈ items, ∃ ρ2 ρ3 w, asgT (wipeP ρ1 own) tg d false = some ρ2 ∧ ev call e ρ2 = some (f d, w, ρ3) ∧ wipeP ρ3 own = wipeP ρ1 own) (h4 : items.length ≤ LIM) :
    ev call (.lc e tg k its [] own) ρ = some (.list (items.map f), true, back ρ1 (wipeP ρ1 own) own) :=
  ev_lc h1 h2 (lcL_map fun d hd => by
    obtain ⟨ρ2, ρ3, w, a1, a2, a3⟩ := h3 d hd
    simp only [a1, evIfs, a2, Option.bind_eq_bind, Option.bind_some, Option.pure_def, if_true, a3]) (by simpa using h4)
theorem lcL_filter {step : D → Pl → Option (List D × Pl)} {ρ : Pl} : ∀ {items : List D}, (∀ d ∈ items, step d ρ = some (if p d = true then [f d] else [], ρ)) → lcL step items ρ = some ((items.filter p).map f, ρ)
  | [], _ => rfl
  | d :: ds, h => by
    simp only [lcL, h d List.mem_cons_self, lcL_filter fun x hx => h x (List.mem_cons_of_mem _ hx), Option.bind_eq_bind, Option.bind_some, Option.pure_def, List.filter_cons]
    cases p d <;> rfl
theorem ev_lcF (h1 : evs call its ρ = some (ds, ρ1)) (h2 : itemsOf k ds = some items) (h3 : ∀ d ∈ items, ∃ ρ2 ρ3 w, asgT (wipeP ρ1 own) tg d false = some ρ2 ∧ ev call c ρ2 = some (.bool (p d), w, ρ3) ∧ wipeP ρ3 own = wipeP ρ1 own ∧ (p d = true → ∃ ρ4 w, ev call e ρ3 = some (f d, w, ρ4) ∧ wipeP ρ4 own = wipeP ρ1 own)) (h4 : items.length ≤ LIM) :
    ev call (.lc e tg k its [c] own) ρ = some (.list ((items.filter p).map f), true, back ρ1 (wipeP ρ1 own) own) :=
  ev_lc h1 h2 (lcL_filter fun d hd => by
    obtain ⟨ρ2, ρ3, w, a1, a2, a3, a4⟩ := h3 d hd
    cases hp : p d with
    | false =>
      rw [hp] at a2
      simp [a1, evIfs, a2, asB, a3]
    | true =>
      rw [hp] at a2
      obtain ⟨ρ4, w', a5, a6⟩ := a4 hp
      simp [a1, evIfs, a2, asB, a5, a6]) (by rw [List.length_map]; exact Nat.le_trans (List.length_filter_le _ _) h4)
/-- a list of tests -/
def bools (g : D → Bool) (l : List D) : List D := l.map fun d => .bool (g d)
theorem mapM_bools {g : D → Bool} : ∀ ds : List D, (bools g ds).mapM asB = some (ds.map g)
  | [] => rfl
  | b :: ds => by
    have := mapM_bools (g := g) ds
    simp only [bools] at this
    simp [bools, asB, this]
theorem ev_lcB {g : D → Bool} (h1 : evs call its ρ = some (ds, ρ1)) (h2 : itemsOf k ds = some items) (h3 : ∀ d ∈ items, ∃ ρ2 ρ3 w, asgT (wipeP ρ1 own) tg d false = some ρ2 ∧ ev call e ρ2 = some (.bool (g d), w, ρ3) ∧ wipeP ρ3 own = wipeP ρ1 own) (h4 : items.length ≤ LIM) :
    ev call (.lc e tg k its [] own) ρ = some (.list (bools g items), true, back ρ1 (wipeP ρ1 own) own) := ev_lcM h1 h2 h3 h4
end
theorem goodL {ds : List D} (h : ds.length ≤ 100) : ds.length ≤ LIM := by unfold LIM; omega
/-! ### names -/
def LET : Str := "abcdefghijklmnopqrstuvwxyz"
def letB (d : D) : Bool := match opIn d (.str LET) with
  | some b => b
  | none => false
def signs (x : Str) : List D := x.cps.toList.map fun c => .str ⟨#[c]⟩
def nameB : D → Bool
  | .str x => decide (1 ≤ x.length) && decide (x.length ≤ 8) && (signs x).all letB
  | _ => false
def NameE (call : Call) (i : Nat) : Prop := ∀ d, Good d → call i [(d, false)] = some (.bool (nameB d), false, [.no])
theorem sign_in {x : Str} {d : D} (h : d ∈ signs x) : opIn d (.str LET) = some (letB d) := by
  obtain ⟨c, _, rfl⟩ := List.mem_map.mp h
  rfl
theorem len_cps (x : Str) : x.cps.toList.length = x.length := Array.length_toList
theorem name_ev (call : Call) (d : D) (hd : Good d) : runF call fIsName [(d, false)] = some (.bool (nameB d), false, [.no]) := by
  cases d with
  | str x =>
    have hl := hd.str
    have a := ev_lcB (call := call) (e := .cmp .isIn (.var 1) (.cst (.str LET))) (tg := .nm 1) (k := .seq) (its := [.var 0]) (own := [1]) (ρ := [.fr (.str x), .no]) (ρ1 := [.fr (.str x), .no]) (ds := [.str x]) (items := signs x) (g := letB) (by simp [ev.eq_1, ev.eq_2, ev.eq_3, ev.eq_4, ev.eq_5, ev.eq_6, ev.eq_7, ev.eq_8, ev.eq_9, ev.eq_10, ev.eq_11, ev.eq_12, ev.eq_13, ev.eq_14, ev.eq_15, ev.eq_16, ev.eq_17, ev.eq_18, ev.eq_19, ev.eq_20, ev.eq_21, evS.eq_1, evS.eq_2, evS.eq_3, evS.eq_4, evS.eq_5, evS.eq_6, evS.eq_9, evS.eq_10, evS.eq_11, evS.eq_12, evS.eq_13, evS.eq_14, evS.eq_15, runF, envOf, slotA, evSs, opn, fetch, evOs, evs, evOI, evAnd, evOr, evIfs, evRs, fetchAll, opIdx, opCmp, opBin, opBlt, opSlc, opMthK, opMth, opIn, opLt, kindD, isTy, asB, asI, asL, dOk, atI, ixN, setS, asgT, setAll, setPar, setAt, appAt, ownL, popD, calL, slotsOf, distinct, lend, giveBack, isSl, lents, lentS, killS, wipeP, back, itemsOf]) rfl (fun d hd => by
      refine ⟨[.fr (.str x), .fr d], [.fr (.str x), .fr d], false, rfl, ?_, rfl⟩
      simp only [ev.eq_4, opn, List.getElem?_cons_succ, List.getElem?_cons_zero, Option.bind_eq_bind, Option.bind_some, fetch, ev.eq_1, opCmp, sign_in hd, Option.pure_def]) (by simp only [signs, List.length_map, len_cps]; unfold LIM; omega)
    simp only [LET] at a
    have hL : x.length ≤ LIM := by unfold LIM; omega
    simp only [fIsName]
    by_cases h1 : 1 ≤ x.length
    · by_cases h2 : x.length ≤ 8
      · have h1' : (1 : Int) ≤ x.length := by omega
        have h2' : (x.length : Int) ≤ 8 := by omega
        simp [ev.eq_1, ev.eq_2, ev.eq_3, ev.eq_4, ev.eq_5, ev.eq_6, ev.eq_7, ev.eq_8, ev.eq_9, ev.eq_10, ev.eq_11, ev.eq_12, ev.eq_13, ev.eq_14, ev.eq_15, ev.eq_16, ev.eq_17, ev.eq_18, ev.eq_19, ev.eq_20, ev.eq_21, evS.eq_1, evS.eq_2, evS.eq_3, evS.eq_4, evS.eq_5, evS.eq_6, evS.eq_9, evS.eq_10, evS.eq_11, evS.eq_12, evS.eq_13, evS.eq_14, evS.eq_15, runF, envOf, slotA, evSs, opn, fetch, evOs, evs, evOI, evAnd, evOr, evIfs, evRs, fetchAll, opIdx, opCmp, opBin, opBlt, opSlc, opMthK, opMth, opIn, opLt, kindD, isTy, asB, asI, asL, dOk, atI, ixN, setS, asgT, setAll, setPar, setAt, appAt, ownL, popD, calL, slotsOf, distinct, lend, giveBack, isSl, lents, lentS, killS, wipeP, back, itemsOf, nameB, a, mapM_bools, hL, h1, h2, h1', h2']
      · have h1' : (1 : Int) ≤ x.length := by omega
        have h2' : ¬ (x.length : Int) ≤ 8 := by omega
        simp [ev.eq_1, ev.eq_2, ev.eq_3, ev.eq_4, ev.eq_5, ev.eq_6, ev.eq_7, ev.eq_8, ev.eq_9, ev.eq_10, ev.eq_11, ev.eq_12, ev.eq_13, ev.eq_14, ev.eq_15, ev.eq_16, ev.eq_17, ev.eq_18, ev.eq_19, ev.eq_20, ev.eq_21, evS.eq_1, evS.eq_2, evS.eq_3, evS.eq_4, evS.eq_5, evS.eq_6, evS.eq_9, evS.eq_10, evS.eq_11, evS.eq_12, evS.eq_13, evS.eq_14, evS.eq_15, runF, envOf, slotA, evSs, opn, fetch, evOs, evs, evOI, evAnd, evOr, evIfs, evRs, fetchAll, opIdx, opCmp, opBin, opBlt, opSlc, opMthK, opMth, opIn, opLt, kindD, isTy, asB, asI, asL, dOk, atI, ixN, setS, asgT, setAll, setPar, setAt, appAt, ownL, popD, calL, slotsOf, distinct, lend, giveBack, isSl, lents, lentS, killS, wipeP, back, itemsOf, nameB, hL, h1, h2, h1', h2']
    · have h1' : ¬ (1 : Int) ≤ x.length := by omega
      simp [ev.eq_1, ev.eq_2, ev.eq_3, ev.eq_4, ev.eq_5, ev.eq_6, ev.eq_7, ev.eq_8, ev.eq_9, ev.eq_10, ev.eq_11, ev.eq_12, ev.eq_13, ev.eq_14, ev.eq_15, ev.eq_16, ev.eq_17, ev.eq_18, ev.eq_19, ev.eq_20, ev.eq_21, evS.eq_1, evS.eq_2, evS.eq_3, evS.eq_4, evS.eq_5, evS.eq_6, evS.eq_9, evS.eq_10, evS.eq_11, evS.eq_12, evS.eq_13, evS.eq_14, evS.eq_15, runF, envOf, slotA, evSs, opn, fetch, evOs, evs, evOI, evAnd, evOr, evIfs, evRs, fetchAll, opIdx, opCmp, opBin, opBlt, opSlc, opMthK, opMth, opIn, opLt, kindD, isTy, asB, asI, asL, dOk, atI, ixN, setS, asgT, setAll, setPar, setAt, appAt, ownL, popD, calL, slotsOf, distinct, lend, giveBack, isSl, lents, lentS, killS, wipeP, back, itemsOf, nameB, hL, h1, h1']
  | dict kvs => exact absurd hd (by simp [Good, Nc])
  | _ => simp [fIsName, ev.eq_1, ev.eq_2, ev.eq_3, ev.eq_4, ev.eq_5, ev.eq_6, ev.eq_7, ev.eq_8, ev.eq_9, ev.eq_10, ev.eq_11, ev.eq_12, ev.eq_13, ev.eq_14, ev.eq_15, ev.eq_16, ev.eq_17, ev.eq_18, ev.eq_19, ev.eq_20, ev.eq_21, evS.eq_1, evS.eq_2, evS.eq_3, evS.eq_4, evS.eq_5, evS.eq_6, evS.eq_9, evS.eq_10, evS.eq_11, evS.eq_12, evS.eq_13, evS.eq_14, evS.eq_15, runF, envOf, slotA, evSs, opn, fetch, evOs, evs, evOI, evAnd, evOr, evIfs, evRs, fetchAll, opIdx, opCmp, opBin, opBlt, opSlc, opMthK, opMth, opIn, opLt, kindD, isTy, asB, asI, asL, dOk, atI, ixN, setS, asgT, setAll, setPar, setAt, appAt, ownL, popD, calL, slotsOf, distinct, lend, giveBack, isSl, lents, lentS, killS, wipeP, back, itemsOf, nameB]
def fLName : Fn := ⟨1, 2, [.ife (.or [.not (.isi (.var 0) .str), .not (.chain .le .le (.cst (.int 1)) (.blt .len [.var 0]) (.cst (.int 8)))]) [.ret (.cst (.bool false))] [], .ret (.cmp .eq (.lc (.var 1) (.nm 1) .seq [.var 0] [.cmp .notIn (.var 1) (.cst (.str "abcdefghijklmnopqrstuvwxyz"))] [1]) (.lst []))]⟩
theorem filter_nil {α : Type} (p : α → Bool) (l : List α) : (l.filter p).isEmpty = l.all fun x => !p x := by
  induction l with
  | nil => rfl
  | cons x l ih =>
    rw [List.filter_cons, List.all_cons, ← ih]
    cases p x <;> rfl
theorem lname_ev (call : Call) (d : D) (hd : Good d) : runF call fLName [(d, false)] = some (.bool (nameB d), false, [.no]) := by
  cases d with
  | str x =>
    have hl := hd.str
    have a := ev_lcF (call := call) (e := .var 1) (c := .cmp .notIn (.var 1) (.cst (.str LET))) (f := id) (p := fun d => !letB d) (tg := .nm 1) (k := .seq) (its := [.var 0]) (own := [1]) (ρ := [.fr (.str x), .no]) (ρ1 := [.fr (.str x), .no]) (ds := [.str x]) (items := signs x) (by simp [ev.eq_1, ev.eq_2, ev.eq_3, ev.eq_4, ev.eq_5, ev.eq_6, ev.eq_7, ev.eq_8, ev.eq_9, ev.eq_10, ev.eq_11, ev.eq_12, ev.eq_13, ev.eq_14, ev.eq_15, ev.eq_16, ev.eq_17, ev.eq_18, ev.eq_19, ev.eq_20, ev.eq_21, evS.eq_1, evS.eq_2, evS.eq_3, evS.eq_4, evS.eq_5, evS.eq_6, evS.eq_9, evS.eq_10, evS.eq_11, evS.eq_12, evS.eq_13, evS.eq_14, evS.eq_15, runF, envOf, slotA, evSs, opn, fetch, evOs, evs, evOI, evAnd, evOr, evIfs, evRs, fetchAll, opIdx, opCmp, opBin, opBlt, opSlc, opMthK, opMth, opIn, opLt, kindD, isTy, asB, asI, asL, dOk, atI, ixN, setS, asgT, setAll, setPar, setAt, appAt, ownL, popD, calL, slotsOf, distinct, lend, giveBack, isSl, lents, lentS, killS, wipeP, back, itemsOf]) rfl (fun d hd => by
      refine ⟨[.fr (.str x), .fr d], [.fr (.str x), .fr d], false, rfl, ?_, rfl, fun _ => ⟨[.fr (.str x), .fr d], false, ?_, rfl⟩⟩
      · simp only [ev.eq_4, opn, List.getElem?_cons_succ, List.getElem?_cons_zero, Option.bind_eq_bind, Option.bind_some, fetch, ev.eq_1, opCmp, sign_in hd, Option.map_some, Option.pure_def]
      · simp [ev.eq_2]) (by simp only [signs, List.length_map, len_cps]; unfold LIM; omega)
    simp only [LET, List.map_id] at a
    have hL : x.length ≤ LIM := by unfold LIM; omega
    have g : ∀ d ∈ (signs x).filter (fun d => !letB d), Good d := fun d hd => by
      obtain ⟨c, _, rfl⟩ := List.mem_map.mp (List.mem_filter.mp hd).1
      show (1 : Nat) ≤ 300
      decide
    have q : pyEq (.list ((signs x).filter (fun d => !letB d))) (.list []) = some ((signs x).all letB) := by
      rw [pyEq_nil g, filter_nil]
      simp
    simp only [fLName]
    by_cases h1 : 1 ≤ x.length
    · by_cases h2 : x.length ≤ 8
      · have h1' : (1 : Int) ≤ x.length := by omega
        have h2' : (x.length : Int) ≤ 8 := by omega
        simp [ev.eq_1, ev.eq_2, ev.eq_3, ev.eq_4, ev.eq_5, ev.eq_6, ev.eq_7, ev.eq_8, ev.eq_9, ev.eq_10, ev.eq_11, ev.eq_12, ev.eq_13, ev.eq_14, ev.eq_15, ev.eq_16, ev.eq_17, ev.eq_18, ev.eq_19, ev.eq_20, ev.eq_21, evS.eq_1, evS.eq_2, evS.eq_3, evS.eq_4, evS.eq_5, evS.eq_6, evS.eq_9, evS.eq_10, evS.eq_11, evS.eq_12, evS.eq_13, evS.eq_14, evS.eq_15, runF, envOf, slotA, evSs, opn, fetch, evOs, evs, evOI, evAnd, evOr, evIfs, evRs, fetchAll, opIdx, opCmp, opBin, opBlt, opSlc, opMthK, opMth, opIn, opLt, kindD, isTy, asB, asI, asL, dOk, atI, ixN, setS, asgT, setAll, setPar, setAt, appAt, ownL, popD, calL, slotsOf, distinct, lend, giveBack, isSl, lents, lentS, killS, wipeP, back, itemsOf, nameB, a, q, hL, h1, h2, h1', h2']
      · have h1' : (1 : Int) ≤ x.length := by omega
        have h2' : ¬ (x.length : Int) ≤ 8 := by omega
        simp [ev.eq_1, ev.eq_2, ev.eq_3, ev.eq_4, ev.eq_5, ev.eq_6, ev.eq_7, ev.eq_8, ev.eq_9, ev.eq_10, ev.eq_11, ev.eq_12, ev.eq_13, ev.eq_14, ev.eq_15, ev.eq_16, ev.eq_17, ev.eq_18, ev.eq_19, ev.eq_20, ev.eq_21, evS.eq_1, evS.eq_2, evS.eq_3, evS.eq_4, evS.eq_5, evS.eq_6, evS.eq_9, evS.eq_10, evS.eq_11, evS.eq_12, evS.eq_13, evS.eq_14, evS.eq_15, runF, envOf, slotA, evSs, opn, fetch, evOs, evs, evOI, evAnd, evOr, evIfs, evRs, fetchAll, opIdx, opCmp, opBin, opBlt, opSlc, opMthK, opMth, opIn, opLt, kindD, isTy, asB, asI, asL, dOk, atI, ixN, setS, asgT, setAll, setPar, setAt, appAt, ownL, popD, calL, slotsOf, distinct, lend, giveBack, isSl, lents, lentS, killS, wipeP, back, itemsOf, nameB, hL, h1, h2, h1', h2']
    · have h1' : ¬ (1 : Int) ≤ x.length := by omega
      simp [ev.eq_1, ev.eq_2, ev.eq_3, ev.eq_4, ev.eq_5, ev.eq_6, ev.eq_7, ev.eq_8, ev.eq_9, ev.eq_10, ev.eq_11, ev.eq_12, ev.eq_13, ev.eq_14, ev.eq_15, ev.eq_16, ev.eq_17, ev.eq_18, ev.eq_19, ev.eq_20, ev.eq_21, evS.eq_1, evS.eq_2, evS.eq_3, evS.eq_4, evS.eq_5, evS.eq_6, evS.eq_9, evS.eq_10, evS.eq_11, evS.eq_12, evS.eq_13, evS.eq_14, evS.eq_15, runF, envOf, slotA, evSs, opn, fetch, evOs, evs, evOI, evAnd, evOr, evIfs, evRs, fetchAll, opIdx, opCmp, opBin, opBlt, opSlc, opMthK, opMth, opIn, opLt, kindD, isTy, asB, asI, asL, dOk, atI, ixN, setS, asgT, setAll, setPar, setAt, appAt, ownL, popD, calL, slotsOf, distinct, lend, giveBack, isSl, lents, lentS, killS, wipeP, back, itemsOf, nameB, hL, h1, h1']
  | dict kvs => exact absurd hd (by simp [Good, Nc])
  | _ => simp [fLName, ev.eq_1, ev.eq_2, ev.eq_3, ev.eq_4, ev.eq_5, ev.eq_6, ev.eq_7, ev.eq_8, ev.eq_9, ev.eq_10, ev.eq_11, ev.eq_12, ev.eq_13, ev.eq_14, ev.eq_15, ev.eq_16, ev.eq_17, ev.eq_18, ev.eq_19, ev.eq_20, ev.eq_21, evS.eq_1, evS.eq_2, evS.eq_3, evS.eq_4, evS.eq_5, evS.eq_6, evS.eq_9, evS.eq_10, evS.eq_11, evS.eq_12, evS.eq_13, evS.eq_14, evS.eq_15, runF, envOf, slotA, evSs, opn, fetch, evOs, evs, evOI, evAnd, evOr, evIfs, evRs, fetchAll, opIdx, opCmp, opBin, opBlt, opSlc, opMthK, opMth, opIn, opLt, kindD, isTy, asB, asI, asL, dOk, atI, ixN, setS, asgT, setAll, setPar, setAt, appAt, ownL, popD, calL, slotsOf, distinct, lend, giveBack, isSl, lents, lentS, killS, wipeP, back, itemsOf, nameB]
def rowB (d : D) (a b : Int) : Bool := match d with
  | .tuple ds => decide (a ≤ ds.length) && decide ((ds.length : Int) ≤ b)
  | _ => false
def RowE (call : Call) (i : Nat) : Prop := ∀ d, Good d → ∀ a b : Int, call i [(d, false), (.int a, false), (.int b, false)] = some (.bool (rowB d a b), false, [.no, .no, .no])
theorem row_ev (call : Call) (d : D) (hd : Good d) (a b : Int) : runF call fIsRow [(d, false), (.int a, false), (.int b, false)] = some (.bool (rowB d a b), false, [.no, .no, .no]) := by
  cases d with
  | tuple ds =>
    by_cases h1 : a ≤ ds.length <;> simp [fIsRow, ev.eq_1, ev.eq_2, ev.eq_3, ev.eq_4, ev.eq_5, ev.eq_6, ev.eq_7, ev.eq_8, ev.eq_9, ev.eq_10, ev.eq_11, ev.eq_12, ev.eq_13, ev.eq_14, ev.eq_15, ev.eq_16, ev.eq_17, ev.eq_18, ev.eq_19, ev.eq_20, ev.eq_21, evS.eq_1, evS.eq_2, evS.eq_3, evS.eq_4, evS.eq_5, evS.eq_6, evS.eq_9, evS.eq_10, evS.eq_11, evS.eq_12, evS.eq_13, evS.eq_14, evS.eq_15, runF, envOf, slotA, evSs, opn, fetch, evOs, evs, evOI, evAnd, evOr, evIfs, evRs, fetchAll, opIdx, opCmp, opBin, opBlt, opSlc, opMthK, opMth, opIn, opLt, kindD, isTy, asB, asI, asL, dOk, atI, ixN, setS, asgT, setAll, setPar, setAt, appAt, ownL, popD, calL, slotsOf, distinct, lend, giveBack, isSl, lents, lentS, killS, wipeP, back, itemsOf, rowB, h1]
  | dict kvs => exact absurd hd (by simp [Good, Nc])
  | _ => simp [fIsRow, ev.eq_1, ev.eq_2, ev.eq_3, ev.eq_4, ev.eq_5, ev.eq_6, ev.eq_7, ev.eq_8, ev.eq_9, ev.eq_10, ev.eq_11, ev.eq_12, ev.eq_13, ev.eq_14, ev.eq_15, ev.eq_16, ev.eq_17, ev.eq_18, ev.eq_19, ev.eq_20, ev.eq_21, evS.eq_1, evS.eq_2, evS.eq_3, evS.eq_4, evS.eq_5, evS.eq_6, evS.eq_9, evS.eq_10, evS.eq_11, evS.eq_12, evS.eq_13, evS.eq_14, evS.eq_15, runF, envOf, slotA, evSs, opn, fetch, evOs, evs, evOI, evAnd, evOr, evIfs, evRs, fetchAll, opIdx, opCmp, opBin, opBlt, opSlc, opMthK, opMth, opIn, opLt, kindD, isTy, asB, asI, asL, dOk, atI, ixN, setS, asgT, setAll, setPar, setAt, appAt, ownL, popD, calL, slotsOf, distinct, lend, giveBack, isSl, lents, lentS, killS, wipeP, back, itemsOf, rowB]
end PV

set_option Elab.async false
set_option linter.all false
set_option maxRecDepth 100000
set_option maxHeartbeats 2000000
/-! PV: what is recognized: the program's checks at any value. -/
namespace PV
open PySem
def itemsD : D → List D
  | .tuple ds => ds
  | _ => []
def strsOf (ds : List D) : List Str := ds.filterMap asS
theorem strsOf_txts (xs : List Str) : strsOf (txts xs) = xs := by
  induction xs with
  | nil => rfl
  | cons x xs ih => simp only [strsOf, txts] at ih; simp [strsOf, txts, asS, ih]
theorem name_str {d : D} (h : nameB d = true) : ∃ x, d = .str x := by
  cases d <;> first | exact ⟨_, rfl⟩ | simp [nameB] at h
theorem names_txts : ∀ {ds : List D}, ds.all nameB = true → ds = txts (strsOf ds)
  | [], _ => rfl
  | d :: ds, h => by
    simp only [List.all_cons, Bool.and_eq_true] at h
    obtain ⟨x, rfl⟩ := name_str h.1
    have := names_txts h.2
    simp only [strsOf, txts] at this ⊢
    simp only [List.filterMap_cons, asS, List.map_cons]
    rw [← this]
def ascS (xs : List Str) : Bool := (xs.zip (xs.drop 1)).all fun p => strLt p.1 p.2
def AscE (call : Call) (i : Nat) : Prop := ∀ (xs : List Str), xs.length < 1000 → (call i [(.tuple (txts xs), false)] = some (.bool (ascS xs), false, [.no]) ∧ call i [(.list (txts xs), false)] = some (.bool (ascS xs), false, [.no]))
theorem mapM_boolP {g : Str × Str → Bool} : ∀ ds : List (Str × Str), (ds.map fun p => PyData.bool (g p)).mapM asB = some (ds.map g)
  | [] => rfl
  | b :: ds => by
    have := mapM_boolP (g := g) ds
    simp [asB, this]
def ltD : D → Bool
  | .tuple [.str x, .str y] => strLt x y
  | _ => false
theorem asc_ev (call : Call) (xs : List Str) (hl : xs.length < 1000) :
    runF call fAscends [(.tuple (txts xs), false)] = some (.bool (ascS xs), false, [.no]) ∧ runF call fAscends [(.list (txts xs), false)] = some (.bool (ascS xs), false, [.no]) := by
  have turn : ∀ (v : D) (d : D), d ∈ (xs.zip (xs.drop 1)).map (fun p => PyData.tuple [.str p.1, .str p.2]) → ∃ ρ2 ρ3 w, asgT (wipeP [.fr v, .no, .no] [1, 2]) (.tup [1, 2]) d false = some ρ2 ∧ ev call (.cmp .lt (.var 1) (.var 2)) ρ2 = some (.bool (ltD d), w, ρ3) ∧ wipeP ρ3 [1, 2] = wipeP [.fr v, .no, .no] [1, 2] := fun v d hd => by
    obtain ⟨p, hp, rfl⟩ := List.mem_map.mp hd
    refine ⟨[.fr v, .fr (.str p.1), .fr (.str p.2)], [.fr v, .fr (.str p.1), .fr (.str p.2)], false, rfl, ?_, rfl⟩
    simp [ev.eq_1, ev.eq_2, ev.eq_3, ev.eq_4, ev.eq_5, ev.eq_6, ev.eq_7, ev.eq_8, ev.eq_9, ev.eq_10, ev.eq_11, ev.eq_12, ev.eq_13, ev.eq_14, ev.eq_15, ev.eq_16, ev.eq_17, ev.eq_18, ev.eq_19, ev.eq_20, ev.eq_21, evS.eq_1, evS.eq_2, evS.eq_3, evS.eq_4, evS.eq_5, evS.eq_6, evS.eq_9, evS.eq_10, evS.eq_11, evS.eq_12, evS.eq_13, evS.eq_14, evS.eq_15, runF, envOf, slotA, evSs, opn, fetch, evOs, evs, evOI, evAnd, evOr, evIfs, evRs, fetchAll, opIdx, opCmp, opBin, opBlt, opSlc, opMthK, opMth, opIn, opLt, kindD, isTy, asB, asI, asL, dOk, atI, ixN, setS, asgT, setAll, setPar, setAt, appAt, ownL, popD, calL, slotsOf, distinct, lend, giveBack, isSl, lents, lentS, killS, wipeP, back, itemsOf, ltD]
  have len : ((xs.zip (xs.drop 1)).map (fun p => PyData.tuple [.str p.1, .str p.2])).length ≤ LIM := by
    simp only [List.length_map, List.length_zip]
    unfold LIM
    omega
  have res : (((xs.zip (xs.drop 1)).map (fun p => PyData.tuple [.str p.1, .str p.2])).map ltD).all id = ascS xs := by
    simp [ascS, List.all_map, Function.comp_def, ltD]
  constructor
  · have a := ev_lcB (call := call) (e := .cmp .lt (.var 1) (.var 2)) (g := ltD) (tg := .tup [1, 2]) (k := .zip) (its := [.var 0, .slc (.var 0) (some (.cst (.int 1))) none]) (own := [1, 2]) (ρ := [.fr (.tuple (txts xs)), .no, .no]) (ρ1 := [.fr (.tuple (txts xs)), .no, .no]) (ds := [.tuple (txts xs), .tuple (txts (xs.drop 1))]) (by simp [ev.eq_1, ev.eq_2, ev.eq_3, ev.eq_4, ev.eq_5, ev.eq_6, ev.eq_7, ev.eq_8, ev.eq_9, ev.eq_10, ev.eq_11, ev.eq_12, ev.eq_13, ev.eq_14, ev.eq_15, ev.eq_16, ev.eq_17, ev.eq_18, ev.eq_19, ev.eq_20, ev.eq_21, evS.eq_1, evS.eq_2, evS.eq_3, evS.eq_4, evS.eq_5, evS.eq_6, evS.eq_9, evS.eq_10, evS.eq_11, evS.eq_12, evS.eq_13, evS.eq_14, evS.eq_15, runF, envOf, slotA, evSs, opn, fetch, evOs, evs, evOI, evAnd, evOr, evIfs, evRs, fetchAll, opIdx, opCmp, opBin, opBlt, opSlc, opMthK, opMth, opIn, opLt, kindD, isTy, asB, asI, asL, dOk, atI, ixN, setS, asgT, setAll, setPar, setAt, appAt, ownL, popD, calL, slotsOf, distinct, lend, giveBack, isSl, lents, lentS, killS, wipeP, back, itemsOf, cut_one]) (by simp [itemsOf, asL, zip_txts]) (turn _) len
    simp only [fAscends, runF, envOf, evSs, evS.eq_10, ev.eq_18, evOs, opn, a, Option.bind_eq_bind, Option.bind_some, Option.pure_def, fetchAll, fetch, opBlt, mapM_bools, res, List.length_cons, List.length_nil, List.map_cons, List.map_nil, slotA]
    simp [a, fetchAll, fetch, opBlt, mapM_bools, back, wipeP, lents, lentS, ascS, Function.comp_def, ltD]
  · have a := ev_lcB (call := call) (e := .cmp .lt (.var 1) (.var 2)) (g := ltD) (tg := .tup [1, 2]) (k := .zip) (its := [.var 0, .slc (.var 0) (some (.cst (.int 1))) none]) (own := [1, 2]) (ρ := [.fr (.list (txts xs)), .no, .no]) (ρ1 := [.fr (.list (txts xs)), .no, .no]) (ds := [.list (txts xs), .list (txts (xs.drop 1))]) (by simp [ev.eq_1, ev.eq_2, ev.eq_3, ev.eq_4, ev.eq_5, ev.eq_6, ev.eq_7, ev.eq_8, ev.eq_9, ev.eq_10, ev.eq_11, ev.eq_12, ev.eq_13, ev.eq_14, ev.eq_15, ev.eq_16, ev.eq_17, ev.eq_18, ev.eq_19, ev.eq_20, ev.eq_21, evS.eq_1, evS.eq_2, evS.eq_3, evS.eq_4, evS.eq_5, evS.eq_6, evS.eq_9, evS.eq_10, evS.eq_11, evS.eq_12, evS.eq_13, evS.eq_14, evS.eq_15, runF, envOf, slotA, evSs, opn, fetch, evOs, evs, evOI, evAnd, evOr, evIfs, evRs, fetchAll, opIdx, opCmp, opBin, opBlt, opSlc, opMthK, opMth, opIn, opLt, kindD, isTy, asB, asI, asL, dOk, atI, ixN, setS, asgT, setAll, setPar, setAt, appAt, ownL, popD, calL, slotsOf, distinct, lend, giveBack, isSl, lents, lentS, killS, wipeP, back, itemsOf, cut_one]) (by simp [itemsOf, asL, zip_txts]) (turn _) len
    simp only [fAscends, runF, envOf, evSs, evS.eq_10, ev.eq_18, evOs, opn, a, Option.bind_eq_bind, Option.bind_some, Option.pure_def, fetchAll, fetch, opBlt, mapM_bools, res, List.length_cons, List.length_nil, List.map_cons, List.map_nil, slotA]
    simp [a, fetchAll, fetch, opBlt, mapM_bools, back, wipeP, lents, lentS, ascS, Function.comp_def, ltD]
def namesB (d : D) (a b : Int) : Bool := rowB d a b && ((itemsD d).all nameB && ascS (strsOf (itemsD d)))
def AreE (call : Call) (i : Nat) : Prop := ∀ d, Good d → ∀ a b : Int, call i [(d, false), (.int a, false), (.int b, false)] = some (.bool (namesB d a b), false, [.no, .no, .no])
theorem row_tup {d : D} {a b : Int} (h : rowB d a b = true) : ∃ ds, d = .tuple ds ∧ a ≤ ds.length ∧ (ds.length : Int) ≤ b := by
  cases d with
  | tuple ds =>
    simp only [rowB, Bool.and_eq_true, decide_eq_true_eq] at h
    exact ⟨ds, rfl, h⟩
  | _ => simp [rowB] at h
theorem are_ev {call : Call} {iName iRow iAsc : Nat} (hN : NameE call iName) (hR : RowE call iRow) (hA : AscE call iAsc) (d : D) (hd : Good d) (a b : Int) : runF call (fAreNames iName iRow iAsc) [(d, false), (.int a, false), (.int b, false)] = some (.bool (namesB d a b), false, [.no, .no, .no]) := by
  have r := hR d hd a b
  cases hr : rowB d a b with
  | false =>
    rw [hr] at r
    simp [fAreNames, ev.eq_1, ev.eq_2, ev.eq_3, ev.eq_4, ev.eq_5, ev.eq_6, ev.eq_7, ev.eq_8, ev.eq_9, ev.eq_10, ev.eq_11, ev.eq_12, ev.eq_13, ev.eq_14, ev.eq_15, ev.eq_16, ev.eq_17, ev.eq_18, ev.eq_19, ev.eq_20, ev.eq_21, evS.eq_1, evS.eq_2, evS.eq_3, evS.eq_4, evS.eq_5, evS.eq_6, evS.eq_9, evS.eq_10, evS.eq_11, evS.eq_12, evS.eq_13, evS.eq_14, evS.eq_15, runF, envOf, slotA, evSs, opn, fetch, evOs, evs, evOI, evAnd, evOr, evIfs, evRs, fetchAll, opIdx, opCmp, opBin, opBlt, opSlc, opMthK, opMth, opIn, opLt, kindD, isTy, asB, asI, asL, dOk, atI, ixN, setS, asgT, setAll, setPar, setAt, appAt, ownL, popD, calL, slotsOf, distinct, lend, giveBack, isSl, lents, lentS, killS, wipeP, back, itemsOf, r, namesB, hr]
  | true =>
    rw [hr] at r
    obtain ⟨ds, rfl, h1, h2⟩ := row_tup hr
    obtain ⟨hl, hg⟩ := hd.tup
    have t := ev_lcB (call := call) (e := .cal iName [.var 3] []) (g := nameB) (tg := .nm 3) (k := .seq) (its := [.var 0]) (own := [3]) (ρ := [.fr (.tuple ds), .fr (.int a), .fr (.int b), .no]) (ρ1 := [.fr (.tuple ds), .fr (.int a), .fr (.int b), .no]) (ds := [.tuple ds]) (items := ds) (by simp [ev.eq_1, ev.eq_2, ev.eq_3, ev.eq_4, ev.eq_5, ev.eq_6, ev.eq_7, ev.eq_8, ev.eq_9, ev.eq_10, ev.eq_11, ev.eq_12, ev.eq_13, ev.eq_14, ev.eq_15, ev.eq_16, ev.eq_17, ev.eq_18, ev.eq_19, ev.eq_20, ev.eq_21, evS.eq_1, evS.eq_2, evS.eq_3, evS.eq_4, evS.eq_5, evS.eq_6, evS.eq_9, evS.eq_10, evS.eq_11, evS.eq_12, evS.eq_13, evS.eq_14, evS.eq_15, runF, envOf, slotA, evSs, opn, fetch, evOs, evs, evOI, evAnd, evOr, evIfs, evRs, fetchAll, opIdx, opCmp, opBin, opBlt, opSlc, opMthK, opMth, opIn, opLt, kindD, isTy, asB, asI, asL, dOk, atI, ixN, setS, asgT, setAll, setPar, setAt, appAt, ownL, popD, calL, slotsOf, distinct, lend, giveBack, isSl, lents, lentS, killS, wipeP, back, itemsOf]) rfl (fun d hd' => by
      refine ⟨[.fr (.tuple ds), .fr (.int a), .fr (.int b), .fr d], [.fr (.tuple ds), .fr (.int a), .fr (.int b), .fr d], false, rfl, ?_, rfl⟩
      simp [ev.eq_1, ev.eq_2, ev.eq_3, ev.eq_4, ev.eq_5, ev.eq_6, ev.eq_7, ev.eq_8, ev.eq_9, ev.eq_10, ev.eq_11, ev.eq_12, ev.eq_13, ev.eq_14, ev.eq_15, ev.eq_16, ev.eq_17, ev.eq_18, ev.eq_19, ev.eq_20, ev.eq_21, evS.eq_1, evS.eq_2, evS.eq_3, evS.eq_4, evS.eq_5, evS.eq_6, evS.eq_9, evS.eq_10, evS.eq_11, evS.eq_12, evS.eq_13, evS.eq_14, evS.eq_15, runF, envOf, slotA, evSs, opn, fetch, evOs, evs, evOI, evAnd, evOr, evIfs, evRs, fetchAll, opIdx, opCmp, opBin, opBlt, opSlc, opMthK, opMth, opIn, opLt, kindD, isTy, asB, asI, asL, dOk, atI, ixN, setS, asgT, setAll, setPar, setAt, appAt, ownL, popD, calL, slotsOf, distinct, lend, giveBack, isSl, lents, lentS, killS, wipeP, back, itemsOf, hN d (hg d hd')]) (goodL hl)
    cases hn : ds.all nameB with
    | false => simp [fAreNames, ev.eq_1, ev.eq_2, ev.eq_3, ev.eq_4, ev.eq_5, ev.eq_6, ev.eq_7, ev.eq_8, ev.eq_9, ev.eq_10, ev.eq_11, ev.eq_12, ev.eq_13, ev.eq_14, ev.eq_15, ev.eq_16, ev.eq_17, ev.eq_18, ev.eq_19, ev.eq_20, ev.eq_21, evS.eq_1, evS.eq_2, evS.eq_3, evS.eq_4, evS.eq_5, evS.eq_6, evS.eq_9, evS.eq_10, evS.eq_11, evS.eq_12, evS.eq_13, evS.eq_14, evS.eq_15, runF, envOf, slotA, evSs, opn, fetch, evOs, evs, evOI, evAnd, evOr, evIfs, evRs, fetchAll, opIdx, opCmp, opBin, opBlt, opSlc, opMthK, opMth, opIn, opLt, kindD, isTy, asB, asI, asL, dOk, atI, ixN, setS, asgT, setAll, setPar, setAt, appAt, ownL, popD, calL, slotsOf, distinct, lend, giveBack, isSl, lents, lentS, killS, wipeP, back, itemsOf, r, t, mapM_bools, List.all_map, Function.comp_def, namesB, hr, itemsD, hn]
    | true =>
      have e := (hA (strsOf ds) (by rw [← txts_len, ← names_txts hn]; omega)).1
      rw [← names_txts hn] at e
      simp [fAreNames, ev.eq_1, ev.eq_2, ev.eq_3, ev.eq_4, ev.eq_5, ev.eq_6, ev.eq_7, ev.eq_8, ev.eq_9, ev.eq_10, ev.eq_11, ev.eq_12, ev.eq_13, ev.eq_14, ev.eq_15, ev.eq_16, ev.eq_17, ev.eq_18, ev.eq_19, ev.eq_20, ev.eq_21, evS.eq_1, evS.eq_2, evS.eq_3, evS.eq_4, evS.eq_5, evS.eq_6, evS.eq_9, evS.eq_10, evS.eq_11, evS.eq_12, evS.eq_13, evS.eq_14, evS.eq_15, runF, envOf, slotA, evSs, opn, fetch, evOs, evs, evOI, evAnd, evOr, evIfs, evRs, fetchAll, opIdx, opCmp, opBin, opBlt, opSlc, opMthK, opMth, opIn, opLt, kindD, isTy, asB, asI, asL, dOk, atI, ixN, setS, asgT, setAll, setPar, setAt, appAt, ownL, popD, calL, slotsOf, distinct, lend, giveBack, isSl, lents, lentS, killS, wipeP, back, itemsOf, r, t, mapM_bools, List.all_map, Function.comp_def, namesB, hr, itemsD, hn, e]
def modeB : D → Bool
  | .str x => decide (x ∈ MODES)
  | _ => false
def thingB : D → Bool
  | .tuple [n, ps, m] => nameB n && (namesB ps 1 3 && modeB m)
  | _ => false
def ThingE (call : Call) (i : Nat) : Prop := ∀ d, Good d → call i [(d, false)] = some (.bool (thingB d), false, [.no])
theorem len3 {α : Type} {ds : List α} (h : ds.length = 3) : ∃ a b c, ds = [a, b, c] := by
  match ds, h with
  | [a, b, c], _ => exact ⟨a, b, c, rfl⟩
theorem len2 {α : Type} {ds : List α} (h : ds.length = 2) : ∃ a b, ds = [a, b] := by
  match ds, h with
  | [a, b], _ => exact ⟨a, b, rfl⟩
theorem thing_len {d : D} (h : rowB d 3 3 = false) : thingB d = false := by
  cases d with
  | tuple ds =>
    match ds with
    | [a, b, c] => simp [rowB] at h
    | [] => rfl
    | [_] => rfl
    | [_, _] => rfl
    | _ :: _ :: _ :: _ :: _ => rfl
  | _ => rfl
theorem mode_ev {x : Str} : opIn (.str x) (.tuple [.str "kept", .str "pushed", .str "asked"]) = some (modeB (.str x)) := by
  have h : opIn (.str x) (.tuple (txts ["kept", "pushed", "asked"])) = some (decide (x ∈ (["kept", "pushed", "asked"] : List Str))) := opIn_tuple (okS_all x) fun y _ => okS_all y
  have e : opIn (.str x) (.tuple [.str "kept", .str "pushed", .str "asked"]) = opIn (.str x) (.tuple (txts ["kept", "pushed", "asked"])) := rfl
  rw [e, h]
  congr 1
  simp only [modeB, MODES]
  apply decide_eq_decide.mpr
  simp only [List.mem_cons, List.not_mem_nil, or_false]
  constructor
  · rintro (h | h | h)
    · exact .inl h
    · exact .inr (.inr h)
    · exact .inr (.inl h)
  · rintro (h | h | h)
    · exact .inl h
    · exact .inr (.inr h)
    · exact .inr (.inl h)
theorem thing_ev {call : Call} {iName iRow iAre : Nat} (hN : NameE call iName) (hR : RowE call iRow) (hA : AreE call iAre) (d : D) (hd : Good d) : runF call (fIsThing iName iRow iAre) [(d, false)] = some (.bool (thingB d), false, [.no]) := by
  have r := hR d hd 3 3
  cases hr : rowB d 3 3 with
  | false =>
    rw [hr] at r
    simp [fIsThing, ev.eq_1, ev.eq_2, ev.eq_3, ev.eq_4, ev.eq_5, ev.eq_6, ev.eq_7, ev.eq_8, ev.eq_9, ev.eq_10, ev.eq_11, ev.eq_12, ev.eq_13, ev.eq_14, ev.eq_15, ev.eq_16, ev.eq_17, ev.eq_18, ev.eq_19, ev.eq_20, ev.eq_21, evS.eq_1, evS.eq_2, evS.eq_3, evS.eq_4, evS.eq_5, evS.eq_6, evS.eq_9, evS.eq_10, evS.eq_11, evS.eq_12, evS.eq_13, evS.eq_14, evS.eq_15, runF, envOf, slotA, evSs, opn, fetch, evOs, evs, evOI, evAnd, evOr, evIfs, evRs, fetchAll, opIdx, opCmp, opBin, opBlt, opSlc, opMthK, opMth, opIn, opLt, kindD, isTy, asB, asI, asL, dOk, atI, ixN, setS, asgT, setAll, setPar, setAt, appAt, ownL, popD, calL, slotsOf, distinct, lend, giveBack, isSl, lents, lentS, killS, wipeP, back, itemsOf, r, thing_len hr]
  | true =>
    rw [hr] at r
    obtain ⟨ds, rfl, h1, h2⟩ := row_tup hr
    obtain ⟨n, ps, m, rfl⟩ := len3 (show ds.length = 3 by omega)
    obtain ⟨hl, hg⟩ := hd.tup
    have en := hN n (hg n (by simp))
    have ep := hA ps (hg ps (by simp)) 1 3
    have gm := hg m (by simp)
    cases bn : nameB n with
    | false =>
      rw [bn] at en
      simp [fIsThing, ev.eq_1, ev.eq_2, ev.eq_3, ev.eq_4, ev.eq_5, ev.eq_6, ev.eq_7, ev.eq_8, ev.eq_9, ev.eq_10, ev.eq_11, ev.eq_12, ev.eq_13, ev.eq_14, ev.eq_15, ev.eq_16, ev.eq_17, ev.eq_18, ev.eq_19, ev.eq_20, ev.eq_21, evS.eq_1, evS.eq_2, evS.eq_3, evS.eq_4, evS.eq_5, evS.eq_6, evS.eq_9, evS.eq_10, evS.eq_11, evS.eq_12, evS.eq_13, evS.eq_14, evS.eq_15, runF, envOf, slotA, evSs, opn, fetch, evOs, evs, evOI, evAnd, evOr, evIfs, evRs, fetchAll, opIdx, opCmp, opBin, opBlt, opSlc, opMthK, opMth, opIn, opLt, kindD, isTy, asB, asI, asL, dOk, atI, ixN, setS, asgT, setAll, setPar, setAt, appAt, ownL, popD, calL, slotsOf, distinct, lend, giveBack, isSl, lents, lentS, killS, wipeP, back, itemsOf, r, en, thingB, bn]
    | true =>
      rw [bn] at en
      cases bp : namesB ps 1 3 with
      | false =>
        rw [bp] at ep
        simp [fIsThing, ev.eq_1, ev.eq_2, ev.eq_3, ev.eq_4, ev.eq_5, ev.eq_6, ev.eq_7, ev.eq_8, ev.eq_9, ev.eq_10, ev.eq_11, ev.eq_12, ev.eq_13, ev.eq_14, ev.eq_15, ev.eq_16, ev.eq_17, ev.eq_18, ev.eq_19, ev.eq_20, ev.eq_21, evS.eq_1, evS.eq_2, evS.eq_3, evS.eq_4, evS.eq_5, evS.eq_6, evS.eq_9, evS.eq_10, evS.eq_11, evS.eq_12, evS.eq_13, evS.eq_14, evS.eq_15, runF, envOf, slotA, evSs, opn, fetch, evOs, evs, evOI, evAnd, evOr, evIfs, evRs, fetchAll, opIdx, opCmp, opBin, opBlt, opSlc, opMthK, opMth, opIn, opLt, kindD, isTy, asB, asI, asL, dOk, atI, ixN, setS, asgT, setAll, setPar, setAt, appAt, ownL, popD, calL, slotsOf, distinct, lend, giveBack, isSl, lents, lentS, killS, wipeP, back, itemsOf, r, en, ep, thingB, bn, bp]
      | true =>
        rw [bp] at ep
        cases m with
        | str x =>
          have em := @mode_ev x
          simp [fIsThing, ev.eq_1, ev.eq_2, ev.eq_3, ev.eq_4, ev.eq_5, ev.eq_6, ev.eq_7, ev.eq_8, ev.eq_9, ev.eq_10, ev.eq_11, ev.eq_12, ev.eq_13, ev.eq_14, ev.eq_15, ev.eq_16, ev.eq_17, ev.eq_18, ev.eq_19, ev.eq_20, ev.eq_21, evS.eq_1, evS.eq_2, evS.eq_3, evS.eq_4, evS.eq_5, evS.eq_6, evS.eq_9, evS.eq_10, evS.eq_11, evS.eq_12, evS.eq_13, evS.eq_14, evS.eq_15, runF, envOf, slotA, evSs, opn, fetch, evOs, evs, evOI, evAnd, evOr, evIfs, evRs, fetchAll, opIdx, opCmp, opBin, opBlt, opSlc, opMthK, opMth, opLt, kindD, isTy, asB, asI, asL, dOk, atI, ixN, setS, asgT, setAll, setPar, setAt, appAt, ownL, popD, calL, slotsOf, distinct, lend, giveBack, isSl, lents, lentS, killS, wipeP, back, itemsOf, r, en, ep, thingB, bn, bp, em]
        | dict kvs => exact absurd gm (by simp [Good, Nc])
        | _ => simp [fIsThing, ev.eq_1, ev.eq_2, ev.eq_3, ev.eq_4, ev.eq_5, ev.eq_6, ev.eq_7, ev.eq_8, ev.eq_9, ev.eq_10, ev.eq_11, ev.eq_12, ev.eq_13, ev.eq_14, ev.eq_15, ev.eq_16, ev.eq_17, ev.eq_18, ev.eq_19, ev.eq_20, ev.eq_21, evS.eq_1, evS.eq_2, evS.eq_3, evS.eq_4, evS.eq_5, evS.eq_6, evS.eq_9, evS.eq_10, evS.eq_11, evS.eq_12, evS.eq_13, evS.eq_14, evS.eq_15, runF, envOf, slotA, evSs, opn, fetch, evOs, evs, evOI, evAnd, evOr, evIfs, evRs, fetchAll, opIdx, opCmp, opBin, opBlt, opSlc, opMthK, opMth, opIn, opLt, kindD, isTy, asB, asI, asL, dOk, atI, ixN, setS, asgT, setAll, setPar, setAt, appAt, ownL, popD, calL, slotsOf, distinct, lend, giveBack, isSl, lents, lentS, killS, wipeP, back, itemsOf, r, en, ep, thingB, bn, bp, modeB]
def memB (ns : List Str) : D → Bool
  | .str x => decide (x ∈ ns)
  | _ => false
def jobB (ns : List Str) : D → Bool
  | .tuple [n, ms] => nameB n && (rowB ms 1 5 && ((itemsD ms).all (memB ns) && decide ((dedupS (strsOf (itemsD ms))).length = (itemsD ms).length)))
  | _ => false
theorem job_len {ns : List Str} {d : D} (h : rowB d 2 2 = false) : jobB ns d = false := by
  cases d with
  | tuple ds =>
    match ds with
    | [a, b] => simp [rowB] at h
    | [] => rfl
    | [_] => rfl
    | _ :: _ :: _ :: _ => rfl
  | _ => rfl
theorem mem_txts {ns : List Str} : ∀ {ds : List D}, ds.all (memB ns) = true → ds = txts (strsOf ds)
  | [], _ => rfl
  | d :: ds, h => by
    simp only [List.all_cons, Bool.and_eq_true] at h
    cases d with
    | str x =>
      have := mem_txts h.2
      simp only [strsOf, txts] at this ⊢
      simp only [List.filterMap_cons, asS, List.map_cons]
      rw [← this]
    | _ => simp [memB] at h
def JobE (call : Call) (i : Nat) : Prop := ∀ (ns : List Str), (∀ x ∈ ns, nameB (.str x) = true) → ∀ d, Good d → call i [(.list (txts ns), false), (d, false)] = some (.bool (jobB ns d), false, [.no, .no])
theorem job_ev {call : Call} {iName iRow : Nat} (hN : NameE call iName) (hR : RowE call iRow) (ns : List Str) (hns : ∀ x ∈ ns, nameB (.str x) = true) (d : D) (hd : Good d) : runF call (fIsJob iName iRow) [(.list (txts ns), false), (d, false)] = some (.bool (jobB ns d), false, [.no, .no]) := by
  have r := hR d hd 2 2
  cases hr : rowB d 2 2 with
  | false =>
    rw [hr] at r
    simp [fIsJob, ev.eq_1, ev.eq_2, ev.eq_3, ev.eq_4, ev.eq_5, ev.eq_6, ev.eq_7, ev.eq_8, ev.eq_9, ev.eq_10, ev.eq_11, ev.eq_12, ev.eq_13, ev.eq_14, ev.eq_15, ev.eq_16, ev.eq_17, ev.eq_18, ev.eq_19, ev.eq_20, ev.eq_21, evS.eq_1, evS.eq_2, evS.eq_3, evS.eq_4, evS.eq_5, evS.eq_6, evS.eq_9, evS.eq_10, evS.eq_11, evS.eq_12, evS.eq_13, evS.eq_14, evS.eq_15, runF, envOf, slotA, evSs, opn, fetch, evOs, evs, evOI, evAnd, evOr, evIfs, evRs, fetchAll, opIdx, opCmp, opBin, opBlt, opSlc, opMthK, opMth, opIn, opLt, kindD, isTy, asB, asI, asL, dOk, atI, ixN, setS, asgT, setAll, setPar, setAt, appAt, ownL, popD, calL, slotsOf, distinct, lend, giveBack, isSl, lents, lentS, killS, wipeP, back, itemsOf, r, job_len hr]
  | true =>
    rw [hr] at r
    obtain ⟨ds, rfl, h1, h2⟩ := row_tup hr
    obtain ⟨n, ms, rfl⟩ := len2 (show ds.length = 2 by omega)
    obtain ⟨hl, hg⟩ := hd.tup
    have en := hN n (hg n (by simp))
    have gm := hg ms (by simp)
    have em := hR ms gm 1 5
    cases bn : nameB n with
    | false =>
      rw [bn] at en
      simp [fIsJob, ev.eq_1, ev.eq_2, ev.eq_3, ev.eq_4, ev.eq_5, ev.eq_6, ev.eq_7, ev.eq_8, ev.eq_9, ev.eq_10, ev.eq_11, ev.eq_12, ev.eq_13, ev.eq_14, ev.eq_15, ev.eq_16, ev.eq_17, ev.eq_18, ev.eq_19, ev.eq_20, ev.eq_21, evS.eq_1, evS.eq_2, evS.eq_3, evS.eq_4, evS.eq_5, evS.eq_6, evS.eq_9, evS.eq_10, evS.eq_11, evS.eq_12, evS.eq_13, evS.eq_14, evS.eq_15, runF, envOf, slotA, evSs, opn, fetch, evOs, evs, evOI, evAnd, evOr, evIfs, evRs, fetchAll, opIdx, opCmp, opBin, opBlt, opSlc, opMthK, opMth, opIn, opLt, kindD, isTy, asB, asI, asL, dOk, atI, ixN, setS, asgT, setAll, setPar, setAt, appAt, ownL, popD, calL, slotsOf, distinct, lend, giveBack, isSl, lents, lentS, killS, wipeP, back, itemsOf, r, en, jobB, bn]
    | true =>
      rw [bn] at en
      cases bm : rowB ms 1 5 with
      | false =>
        rw [bm] at em
        simp [fIsJob, ev.eq_1, ev.eq_2, ev.eq_3, ev.eq_4, ev.eq_5, ev.eq_6, ev.eq_7, ev.eq_8, ev.eq_9, ev.eq_10, ev.eq_11, ev.eq_12, ev.eq_13, ev.eq_14, ev.eq_15, ev.eq_16, ev.eq_17, ev.eq_18, ev.eq_19, ev.eq_20, ev.eq_21, evS.eq_1, evS.eq_2, evS.eq_3, evS.eq_4, evS.eq_5, evS.eq_6, evS.eq_9, evS.eq_10, evS.eq_11, evS.eq_12, evS.eq_13, evS.eq_14, evS.eq_15, runF, envOf, slotA, evSs, opn, fetch, evOs, evs, evOI, evAnd, evOr, evIfs, evRs, fetchAll, opIdx, opCmp, opBin, opBlt, opSlc, opMthK, opMth, opIn, opLt, kindD, isTy, asB, asI, asL, dOk, atI, ixN, setS, asgT, setAll, setPar, setAt, appAt, ownL, popD, calL, slotsOf, distinct, lend, giveBack, isSl, lents, lentS, killS, wipeP, back, itemsOf, r, en, em, jobB, bn, bm]
      | true =>
        rw [bm] at em
        obtain ⟨zs, rfl, h3, h4⟩ := row_tup bm
        obtain ⟨hl2, hg2⟩ := gm.tup
        have t := ev_lcB (call := call) (e := .and [.cal iName [.var 2] [], .cmp .isIn (.var 2) (.var 0)]) (g := memB ns) (tg := .nm 2) (k := .seq) (its := [.idx (.var 1) (.cst (.int 1))]) (own := [2]) (ρ := [.fr (.list (txts ns)), .fr (.tuple [n, .tuple zs]), .no]) (ρ1 := [.fr (.list (txts ns)), .fr (.tuple [n, .tuple zs]), .no]) (ds := [.tuple zs]) (items := zs) (by simp [ev.eq_1, ev.eq_2, ev.eq_3, ev.eq_4, ev.eq_5, ev.eq_6, ev.eq_7, ev.eq_8, ev.eq_9, ev.eq_10, ev.eq_11, ev.eq_12, ev.eq_13, ev.eq_14, ev.eq_15, ev.eq_16, ev.eq_17, ev.eq_18, ev.eq_19, ev.eq_20, ev.eq_21, evS.eq_1, evS.eq_2, evS.eq_3, evS.eq_4, evS.eq_5, evS.eq_6, evS.eq_9, evS.eq_10, evS.eq_11, evS.eq_12, evS.eq_13, evS.eq_14, evS.eq_15, runF, envOf, slotA, evSs, opn, fetch, evOs, evs, evOI, evAnd, evOr, evIfs, evRs, fetchAll, opIdx, opCmp, opBin, opBlt, opSlc, opMthK, opMth, opIn, opLt, kindD, isTy, asB, asI, asL, dOk, atI, ixN, setS, asgT, setAll, setPar, setAt, appAt, ownL, popD, calL, slotsOf, distinct, lend, giveBack, isSl, lents, lentS, killS, wipeP, back, itemsOf]) rfl (fun z hz => by
          refine ⟨[.fr (.list (txts ns)), .fr (.tuple [n, .tuple zs]), .fr z], [.fr (.list (txts ns)), .fr (.tuple [n, .tuple zs]), .fr z], false, rfl, ?_, rfl⟩
          have ez := hN z (hg2 z hz)
          cases bz : nameB z with
          | false =>
            rw [bz] at ez
            have : memB ns z = false := by
              cases hm : memB ns z with
              | false => rfl
              | true =>
                cases z with
                | str x =>
                  simp only [memB, decide_eq_true_eq] at hm
                  rw [hns x hm] at bz
                  cases bz
                | _ => simp [memB] at hm
            simp [ev.eq_1, ev.eq_2, ev.eq_3, ev.eq_4, ev.eq_5, ev.eq_6, ev.eq_7, ev.eq_8, ev.eq_9, ev.eq_10, ev.eq_11, ev.eq_12, ev.eq_13, ev.eq_14, ev.eq_15, ev.eq_16, ev.eq_17, ev.eq_18, ev.eq_19, ev.eq_20, ev.eq_21, evS.eq_1, evS.eq_2, evS.eq_3, evS.eq_4, evS.eq_5, evS.eq_6, evS.eq_9, evS.eq_10, evS.eq_11, evS.eq_12, evS.eq_13, evS.eq_14, evS.eq_15, runF, envOf, slotA, evSs, opn, fetch, evOs, evs, evOI, evAnd, evOr, evIfs, evRs, fetchAll, opIdx, opCmp, opBin, opBlt, opSlc, opMthK, opMth, opIn, opLt, kindD, isTy, asB, asI, asL, dOk, atI, ixN, setS, asgT, setAll, setPar, setAt, appAt, ownL, popD, calL, slotsOf, distinct, lend, giveBack, isSl, lents, lentS, killS, wipeP, back, itemsOf, ez, this]
          | true =>
            rw [bz] at ez
            obtain ⟨x, rfl⟩ := name_str bz
            have ei := opIn_list (ys := ns) (okS_all x) fun y _ => okS_all y
            simp [ev.eq_1, ev.eq_2, ev.eq_3, ev.eq_4, ev.eq_5, ev.eq_6, ev.eq_7, ev.eq_8, ev.eq_9, ev.eq_10, ev.eq_11, ev.eq_12, ev.eq_13, ev.eq_14, ev.eq_15, ev.eq_16, ev.eq_17, ev.eq_18, ev.eq_19, ev.eq_20, ev.eq_21, evS.eq_1, evS.eq_2, evS.eq_3, evS.eq_4, evS.eq_5, evS.eq_6, evS.eq_9, evS.eq_10, evS.eq_11, evS.eq_12, evS.eq_13, evS.eq_14, evS.eq_15, runF, envOf, slotA, evSs, opn, fetch, evOs, evs, evOI, evAnd, evOr, evIfs, evRs, fetchAll, opIdx, opCmp, opBin, opBlt, opSlc, opMthK, opMth, opLt, kindD, isTy, asB, asI, asL, dOk, atI, ixN, setS, asgT, setAll, setPar, setAt, appAt, ownL, popD, calL, slotsOf, distinct, lend, giveBack, isSl, lents, lentS, killS, wipeP, back, itemsOf, ez, ei, memB]) (goodL hl2)
        cases ba : zs.all (memB ns) with
        | false => simp [fIsJob, ev.eq_1, ev.eq_2, ev.eq_3, ev.eq_4, ev.eq_5, ev.eq_6, ev.eq_7, ev.eq_8, ev.eq_9, ev.eq_10, ev.eq_11, ev.eq_12, ev.eq_13, ev.eq_14, ev.eq_15, ev.eq_16, ev.eq_17, ev.eq_18, ev.eq_19, ev.eq_20, ev.eq_21, evS.eq_1, evS.eq_2, evS.eq_3, evS.eq_4, evS.eq_5, evS.eq_6, evS.eq_9, evS.eq_10, evS.eq_11, evS.eq_12, evS.eq_13, evS.eq_14, evS.eq_15, runF, envOf, slotA, evSs, opn, fetch, evOs, evs, evOI, evAnd, evOr, evIfs, evRs, fetchAll, opIdx, opCmp, opBin, opBlt, opSlc, opMthK, opMth, opIn, opLt, kindD, isTy, asB, asI, asL, dOk, atI, ixN, setS, asgT, setAll, setPar, setAt, appAt, ownL, popD, calL, slotsOf, distinct, lend, giveBack, isSl, lents, lentS, killS, wipeP, back, itemsOf, r, en, em, t, mapM_bools, List.all_map, Function.comp_def, jobB, bn, bm, itemsD, ba]
        | true =>
          have ez := mem_txts ba
          have el : (strsOf zs).length < 64 := by
            rw [← txts_len, ← ez]; omega
          have em2 : zs.mapM asS = some (strsOf zs) := by
            have := mapM_strs (strsOf zs)
            have q : (strsOf zs).map PyData.str = zs := ez.symm
            rw [q] at this
            exact this
          have eq := pyEq_int ((dedupS (strsOf zs)).length) zs.length
          have e3 : decide (((dedupS (strsOf zs)).length : Int) = (zs.length : Int)) = decide ((dedupS (strsOf zs)).length = zs.length) := by
            apply decide_eq_decide.mpr
            omega
          rw [e3] at eq
          simp [fIsJob, ev.eq_1, ev.eq_2, ev.eq_3, ev.eq_4, ev.eq_5, ev.eq_6, ev.eq_7, ev.eq_8, ev.eq_9, ev.eq_10, ev.eq_11, ev.eq_12, ev.eq_13, ev.eq_14, ev.eq_15, ev.eq_16, ev.eq_17, ev.eq_18, ev.eq_19, ev.eq_20, ev.eq_21, evS.eq_1, evS.eq_2, evS.eq_3, evS.eq_4, evS.eq_5, evS.eq_6, evS.eq_9, evS.eq_10, evS.eq_11, evS.eq_12, evS.eq_13, evS.eq_14, evS.eq_15, runF, envOf, slotA, evSs, opn, fetch, evOs, evs, evOI, evAnd, evOr, evIfs, evRs, fetchAll, opIdx, opCmp, opBin, opBlt, opSlc, opMthK, opMth, opIn, opLt, kindD, isTy, asB, asI, asL, dOk, atI, ixN, setS, asgT, setAll, setPar, setAt, appAt, ownL, popD, calL, slotsOf, distinct, lend, giveBack, isSl, lents, lentS, killS, wipeP, back, itemsOf, r, en, em, t, mapM_bools, List.all_map, Function.comp_def, jobB, bn, bm, itemsD, ba, em2, el, eq]
          exact decide_eq_decide.mpr Iff.rfl
end PV

set_option Elab.async false
set_option linter.all false
set_option maxRecDepth 100000
set_option maxHeartbeats 2000000
/-! PV: is_works at any value. -/
namespace PV
open PySem
def nmOf : D → Str
  | .tuple (.str n :: _) => n
  | _ => ""
def partsOf : D → List Str
  | .tuple [_, ps, _] => strsOf (itemsD ps)
  | _ => []
/-- a tuple that begins with a text -/
def headS (d : D) : Prop := ∃ n r, d = .tuple (.str n :: r)
theorem thing_head {d : D} (h : thingB d = true) : ∃ n ps m, d = .tuple [.str n, ps, m] ∧ namesB ps 1 3 = true ∧ nameB (.str n) = true := by
  unfold thingB at h
  split at h
  · rename_i n ps m
    simp only [Bool.and_eq_true] at h
    obtain ⟨x, rfl⟩ := name_str h.1
    exact ⟨x, ps, m, rfl, h.2.1, h.1⟩
  · cases h
theorem job_head {ns : List Str} {d : D} (h : jobB ns d = true) : headS d := by
  unfold jobB at h
  split at h
  · rename_i n ms
    simp only [Bool.and_eq_true] at h
    obtain ⟨x, rfl⟩ := name_str h.1
    exact ⟨x, _, rfl⟩
  · cases h
theorem heads_ev {call : Call} {j : Nat} {its : List X} {own : List Nat} {ρ ρ1 : Pl} {v : D} {ds : List D} (h1 : evs call its ρ = some ([.tuple ds], ρ1)) (h : ∀ d ∈ ds, headS d) (hl : ds.length ≤ 100)
    (ht : ∀ d, ∃ ρ2, asgT (wipeP ρ1 own) (.nm j) d false = some ρ2 ∧ ρ2[j]? = some (.fr d) ∧ wipeP ρ2 own = wipeP ρ1 own) :
    ev call (.lc (.idx (.var j) (.cst (.int 0))) (.nm j) .seq its [] own) ρ = some (.list (txts (ds.map nmOf)), true, back ρ1 (wipeP ρ1 own) own) := by
  have a := ev_lcM (call := call) (e := .idx (.var j) (.cst (.int 0))) (f := fun d => .str (nmOf d)) (tg := .nm j) (k := .seq) (its := its) (own := own) (ρ := ρ) (ρ1 := ρ1) (ds := [.tuple ds]) (items := ds) h1 rfl (fun d hd => by
    obtain ⟨ρ2, e1, e2, e3⟩ := ht d
    obtain ⟨n, r, rfl⟩ := h d hd
    refine ⟨ρ2, ρ2, false, e1, ?_, e3⟩
    have hq : ¬ ((0 : Int) < 0) := by decide
    simp [ev.eq_13, ev.eq_1, opn, e2, fetch, opIdx, atI, ixN, nmOf]) (goodL hl)
  rw [a]
  simp [txts, Function.comp_def]
def NamesOfE (call : Call) (i : Nat) : Prop := ∀ (a c : D) (ds : List D), ds.length ≤ 100 → (∀ d ∈ ds, headS d) → call i [(.tuple [a, .tuple ds, c], false)] = some (.list (txts (ds.map nmOf)), true, [.no])
theorem namesOf_ev (call : Call) (a c : D) (ds : List D) (hl : ds.length ≤ 100) (h : ∀ d ∈ ds, headS d) : runF call fNamesOf [(.tuple [a, .tuple ds, c], false)] = some (.list (txts (ds.map nmOf)), true, [.no]) := by
  have t := heads_ev (call := call) (j := 1) (its := [.idx (.var 0) (.cst (.int 1))]) (own := [1]) (ρ := [.fr (.tuple [a, .tuple ds, c]), .no]) (ρ1 := [.fr (.tuple [a, .tuple ds, c]), .no]) (v := .none) (by simp [ev.eq_1, ev.eq_2, ev.eq_3, ev.eq_4, ev.eq_5, ev.eq_6, ev.eq_7, ev.eq_8, ev.eq_9, ev.eq_10, ev.eq_11, ev.eq_12, ev.eq_13, ev.eq_14, ev.eq_15, ev.eq_16, ev.eq_17, ev.eq_18, ev.eq_19, ev.eq_20, ev.eq_21, evS.eq_1, evS.eq_2, evS.eq_3, evS.eq_4, evS.eq_5, evS.eq_6, evS.eq_9, evS.eq_10, evS.eq_11, evS.eq_12, evS.eq_13, evS.eq_14, evS.eq_15, runF, envOf, slotA, evSs, opn, fetch, evOs, evs, evOI, evAnd, evOr, evIfs, evRs, fetchAll, opIdx, opCmp, opBin, opBlt, opSlc, opMthK, opMth, opIn, opLt, kindD, isTy, asB, asI, asL, dOk, atI, ixN, setS, asgT, setAll, setPar, setAt, appAt, ownL, popD, calL, slotsOf, distinct, lend, giveBack, isSl, lents, lentS, killS, wipeP, back, itemsOf]) h hl (fun d => ⟨_, rfl, rfl, rfl⟩)
  simp [fNamesOf, ev.eq_1, ev.eq_2, ev.eq_3, ev.eq_4, ev.eq_5, ev.eq_6, ev.eq_7, ev.eq_8, ev.eq_9, ev.eq_10, ev.eq_11, ev.eq_12, ev.eq_13, ev.eq_14, ev.eq_15, ev.eq_16, ev.eq_17, ev.eq_18, ev.eq_19, ev.eq_20, ev.eq_21, evS.eq_1, evS.eq_2, evS.eq_3, evS.eq_4, evS.eq_5, evS.eq_6, evS.eq_9, evS.eq_10, evS.eq_11, evS.eq_12, evS.eq_13, evS.eq_14, evS.eq_15, runF, envOf, slotA, evSs, opn, fetch, evOs, evs, evOI, evAnd, evOr, evIfs, evRs, fetchAll, opIdx, opCmp, opBin, opBlt, opSlc, opMthK, opMth, opIn, opLt, kindD, isTy, asB, asI, asL, dOk, atI, ixN, setS, asgT, setAll, setPar, setAt, appAt, ownL, popD, calL, slotsOf, distinct, lend, giveBack, isSl, lents, lentS, killS, wipeP, back, itemsOf, t]
def thingsB : List Str → List D → Bool
  | _, [] => true
  | known, r :: rs => !(decide (nmOf r ∈ known)) && ((partsOf r).all (fun p => decide (p ∈ known)) && thingsB (known ++ [nmOf r]) rs)
/-- the loop over the things -/
def kStep (call : Call) : D → Pl → Option (Fl × Pl) := fun d ρ => do
  let ρ ← asgT ρ (.tup [2, 3, 4]) d false
  let (f, ρ) ← evSs call [.ife (.or [.cmp .isIn (.var 2) (.var 1), .not (.blt .all [.lc (.cmp .isIn (.var 7) (.var 1)) (.nm 7) .seq [.var 3] [] [7]])]) [.ret (.cst (.bool false))] [], .app 1 (.var 2)] ρ
  pure (f, killS ρ [2, 3, 4])
theorem names_of {d : D} {a b : Int} (h : namesB d a b = true) : ∃ zs, d = .tuple (txts zs) ∧ (∀ x ∈ zs, nameB (.str x) = true) ∧ ascS zs = true ∧ a ≤ zs.length ∧ (zs.length : Int) ≤ b := by
  unfold namesB at h
  simp only [Bool.and_eq_true] at h
  obtain ⟨ds, rfl, h1, h2⟩ := row_tup h.1
  have e := names_txts (ds := ds) h.2.1
  refine ⟨strsOf ds, by rw [← e], fun x hx => ?_, h.2.2, ?_, ?_⟩
  · have h3 : ds.all nameB = true := h.2.1
    rw [e] at h3
    exact List.all_eq_true.mp h3 _ (List.mem_map.mpr ⟨x, hx, rfl⟩)
  · rw [← txts_len, ← e]; exact h1
  · rw [← txts_len, ← e]; exact h2
theorem k_step (call : Call) (v : D) (known : List Str) (hk : known.length < 1000) (n : Str) (zs : List Str) (m : D) (hz : zs.length ≤ 3) :
    ∃ k2, kStep call (.tuple [.str n, .tuple (txts zs), m]) [.fr v, .ow (.list (txts known)), .no, .no, .no, .no, .no, .no] = some (if (!(decide (n ∈ known)) && zs.all (fun p => decide (p ∈ known))) = true then .nx else .rt (.bool false) false, [.fr v, .ow (.list (txts k2)), .no, .no, .no, .no, .no, .no]) ∧ ((!(decide (n ∈ known)) && zs.all (fun p => decide (p ∈ known))) = true → k2 = known ++ [n]) := by
  have i1 := opIn_list (x := n) (ys := known) (okS_all n) fun y _ => okS_all y
  have t := ev_lcB (call := call) (e := .cmp .isIn (.var 7) (.var 1)) (g := memB known) (tg := .nm 7) (k := .seq) (its := [.var 3]) (own := [7]) (ρ := [.fr v, .ow (.list (txts known)), .fr (.str n), .fr (.tuple (txts zs)), .fr m, .no, .no, .no]) (ρ1 := [.fr v, .ow (.list (txts known)), .fr (.str n), .fr (.tuple (txts zs)), .fr m, .no, .no, .no]) (ds := [.tuple (txts zs)]) (items := txts zs) (by simp [ev.eq_1, ev.eq_2, ev.eq_3, ev.eq_4, ev.eq_5, ev.eq_6, ev.eq_7, ev.eq_8, ev.eq_9, ev.eq_10, ev.eq_11, ev.eq_12, ev.eq_13, ev.eq_14, ev.eq_15, ev.eq_16, ev.eq_17, ev.eq_18, ev.eq_19, ev.eq_20, ev.eq_21, evS.eq_1, evS.eq_2, evS.eq_3, evS.eq_4, evS.eq_5, evS.eq_6, evS.eq_9, evS.eq_10, evS.eq_11, evS.eq_12, evS.eq_13, evS.eq_14, evS.eq_15, runF, envOf, slotA, evSs, opn, fetch, evOs, evs, evOI, evAnd, evOr, evIfs, evRs, fetchAll, opIdx, opCmp, opBin, opBlt, opSlc, opMthK, opMth, opLt, kindD, isTy, asB, asI, asL, dOk, atI, ixN, setS, asgT, setAll, setPar, setAt, appAt, ownL, popD, calL, slotsOf, distinct, lend, giveBack, isSl, lents, lentS, killS, wipeP, back, itemsOf]) rfl (fun z hz' => by
    obtain ⟨x, _, rfl⟩ := List.mem_map.mp hz'
    refine ⟨[.fr v, .ow (.list (txts known)), .fr (.str n), .fr (.tuple (txts zs)), .fr m, .no, .no, .fr (.str x)], [.fr v, .ow (.list (txts known)), .fr (.str n), .fr (.tuple (txts zs)), .fr m, .no, .no, .fr (.str x)], false, rfl, ?_, rfl⟩
    have ei := opIn_list (x := x) (ys := known) (okS_all x) fun y _ => okS_all y
    simp [ev.eq_1, ev.eq_2, ev.eq_3, ev.eq_4, ev.eq_5, ev.eq_6, ev.eq_7, ev.eq_8, ev.eq_9, ev.eq_10, ev.eq_11, ev.eq_12, ev.eq_13, ev.eq_14, ev.eq_15, ev.eq_16, ev.eq_17, ev.eq_18, ev.eq_19, ev.eq_20, ev.eq_21, evS.eq_1, evS.eq_2, evS.eq_3, evS.eq_4, evS.eq_5, evS.eq_6, evS.eq_9, evS.eq_10, evS.eq_11, evS.eq_12, evS.eq_13, evS.eq_14, evS.eq_15, runF, envOf, slotA, evSs, opn, fetch, evOs, evs, evOI, evAnd, evOr, evIfs, evRs, fetchAll, opIdx, opCmp, opBin, opBlt, opSlc, opMthK, opMth, opLt, kindD, isTy, asB, asI, asL, dOk, atI, ixN, setS, asgT, setAll, setPar, setAt, appAt, ownL, popD, calL, slotsOf, distinct, lend, giveBack, isSl, lents, lentS, killS, wipeP, back, itemsOf, ei, memB]) (by rw [txts_len]; unfold LIM; omega)
  have al : (txts zs).all (memB known) = zs.all (fun p => decide (p ∈ known)) := by
    simp [txts, List.all_map, Function.comp_def, memB]
  have hL : known.length < LIM := by unfold LIM; omega
  unfold kStep
  cases hn : decide (n ∈ known) with
  | true =>
    rw [hn] at i1
    refine ⟨known, ?_, fun h => by simp at h⟩
    simp [ev.eq_1, ev.eq_2, ev.eq_3, ev.eq_4, ev.eq_5, ev.eq_6, ev.eq_7, ev.eq_8, ev.eq_9, ev.eq_10, ev.eq_11, ev.eq_12, ev.eq_13, ev.eq_14, ev.eq_15, ev.eq_16, ev.eq_17, ev.eq_18, ev.eq_19, ev.eq_20, ev.eq_21, evS.eq_1, evS.eq_2, evS.eq_3, evS.eq_4, evS.eq_5, evS.eq_6, evS.eq_9, evS.eq_10, evS.eq_11, evS.eq_12, evS.eq_13, evS.eq_14, evS.eq_15, runF, envOf, slotA, evSs, opn, fetch, evOs, evs, evOI, evAnd, evOr, evIfs, evRs, fetchAll, opIdx, opCmp, opBin, opBlt, opSlc, opMthK, opMth, opLt, kindD, isTy, asB, asI, asL, dOk, atI, ixN, setS, asgT, setAll, setPar, setAt, appAt, ownL, popD, calL, slotsOf, distinct, lend, giveBack, isSl, lents, lentS, killS, wipeP, back, itemsOf, i1]
  | false =>
    rw [hn] at i1
    cases ha : zs.all (fun p => decide (p ∈ known)) with
    | false =>
      rw [ha] at al
      refine ⟨known, ?_, fun h => by simp at h⟩
      simp [ev.eq_1, ev.eq_2, ev.eq_3, ev.eq_4, ev.eq_5, ev.eq_6, ev.eq_7, ev.eq_8, ev.eq_9, ev.eq_10, ev.eq_11, ev.eq_12, ev.eq_13, ev.eq_14, ev.eq_15, ev.eq_16, ev.eq_17, ev.eq_18, ev.eq_19, ev.eq_20, ev.eq_21, evS.eq_1, evS.eq_2, evS.eq_3, evS.eq_4, evS.eq_5, evS.eq_6, evS.eq_9, evS.eq_10, evS.eq_11, evS.eq_12, evS.eq_13, evS.eq_14, evS.eq_15, runF, envOf, slotA, evSs, opn, fetch, evOs, evs, evOI, evAnd, evOr, evIfs, evRs, fetchAll, opIdx, opCmp, opBin, opBlt, opSlc, opMthK, opMth, opLt, kindD, isTy, asB, asI, asL, dOk, atI, ixN, setS, asgT, setAll, setPar, setAt, appAt, ownL, popD, calL, slotsOf, distinct, lend, giveBack, isSl, lents, lentS, killS, wipeP, back, itemsOf, i1, t, mapM_bools, List.all_map, Function.comp_def, al]
    | true =>
      rw [ha] at al
      refine ⟨known ++ [n], ?_, fun _ => rfl⟩
      have e : txts known ++ [.str n] = txts (known ++ [n]) := by simp [txts]
      simp [ev.eq_1, ev.eq_2, ev.eq_3, ev.eq_4, ev.eq_5, ev.eq_6, ev.eq_7, ev.eq_8, ev.eq_9, ev.eq_10, ev.eq_11, ev.eq_12, ev.eq_13, ev.eq_14, ev.eq_15, ev.eq_16, ev.eq_17, ev.eq_18, ev.eq_19, ev.eq_20, ev.eq_21, evS.eq_1, evS.eq_2, evS.eq_3, evS.eq_4, evS.eq_5, evS.eq_6, evS.eq_9, evS.eq_10, evS.eq_11, evS.eq_12, evS.eq_13, evS.eq_14, evS.eq_15, runF, envOf, slotA, evSs, opn, fetch, evOs, evs, evOI, evAnd, evOr, evIfs, evRs, fetchAll, opIdx, opCmp, opBin, opBlt, opSlc, opMthK, opMth, opLt, kindD, isTy, asB, asI, asL, dOk, atI, ixN, setS, asgT, setAll, setPar, setAt, appAt, ownL, popD, calL, slotsOf, distinct, lend, giveBack, isSl, lents, lentS, killS, wipeP, back, itemsOf, i1, t, mapM_bools, List.all_map, Function.comp_def, al, txts_len, hL, e]
theorem known_loop (call : Call) (v : D) : ∀ (rows : List D) (known : List Str), rows.all thingB = true → known.length + rows.length ≤ 1000 →
    ∃ k2, forL (kStep call) rows [.fr v, .ow (.list (txts known)), .no, .no, .no, .no, .no, .no] = some (if thingsB known rows = true then .nx else .rt (.bool false) false, [.fr v, .ow (.list (txts k2)), .no, .no, .no, .no, .no, .no])
  | [], known, _, _ => ⟨known, by simp [forL, thingsB]⟩
  | r :: rows, known, h, hl => by
    simp only [List.all_cons, Bool.and_eq_true] at h
    simp only [List.length_cons] at hl
    obtain ⟨n, ps, m, rfl, hp, hn⟩ := thing_head h.1
    obtain ⟨zs, rfl, _, _, _, hz⟩ := names_of hp
    obtain ⟨k2, e, hk⟩ := k_step call v known (by omega) n zs m (by omega)
    have er : partsOf (.tuple [.str n, .tuple (txts zs), m]) = zs := by simp [partsOf, itemsD, strsOf_txts]
    have en : nmOf (.tuple [.str n, .tuple (txts zs), m]) = n := rfl
    cases hb : (!(decide (n ∈ known)) && zs.all (fun p => decide (p ∈ known))) with
    | false =>
      rw [hb] at e
      refine ⟨k2, ?_⟩
      rw [forL, e]
      have : thingsB known (.tuple [.str n, .tuple (txts zs), m] :: rows) = false := by
        unfold thingsB
        rw [er, en]
        rw [← Bool.and_assoc, hb]; rfl
      rw [this]
      rfl
    | true =>
      rw [hb] at e
      obtain rfl := hk hb
      obtain ⟨k3, e3⟩ := known_loop call v rows (known ++ [n]) h.2 (by simp; omega)
      refine ⟨k3, ?_⟩
      rw [forL, e]
      simp only [if_true]
      rw [e3]
      have : thingsB known (.tuple [.str n, .tuple (txts zs), m] :: rows) = thingsB (known ++ [n]) rows := by
        conv => lhs; unfold thingsB
        rw [er, en]
        rw [← Bool.and_assoc, hb]; rfl
      rw [this]
def worksB : D → Bool
  | .tuple [ss, rs, js] => namesB ss 1 3 && (rowB rs 1 5 && ((itemsD rs).all thingB && (rowB js 0 4 && (thingsB (strsOf (itemsD ss)) (itemsD rs) && ((itemsD js).all (jobB ((itemsD rs).map nmOf)) && ascS ((itemsD js).map nmOf))))))
  | _ => false
theorem works_len {d : D} (h : rowB d 3 3 = false) : worksB d = false := by
  cases d with
  | tuple ds =>
    match ds with
    | [a, b, c] => simp [rowB] at h
    | [] => rfl
    | [_] => rfl
    | [_, _] => rfl
    | _ :: _ :: _ :: _ :: _ => rfl
  | _ => rfl
theorem isWorks_ev {call : Call} {iRow iAsc iAre iThing iJob iNamesOf : Nat} (hR : RowE call iRow) (hA : AscE call iAsc) (hAre : AreE call iAre) (hT : ThingE call iThing) (hJ : JobE call iJob) (hNs : NamesOfE call iNamesOf) (d : D) (hd : Good d) :
    runF call (fIsWorks iRow iAsc iAre iThing iJob iNamesOf) [(d, false)] = some (.bool (worksB d), false, [.no]) := by
  have r := hR d hd 3 3
  cases hr : rowB d 3 3 with
  | false =>
    rw [hr] at r
    simp [fIsWorks, ev.eq_1, ev.eq_2, ev.eq_3, ev.eq_4, ev.eq_5, ev.eq_6, ev.eq_7, ev.eq_8, ev.eq_9, ev.eq_10, ev.eq_11, ev.eq_12, ev.eq_13, ev.eq_14, ev.eq_15, ev.eq_16, ev.eq_17, ev.eq_18, ev.eq_19, ev.eq_20, ev.eq_21, evS.eq_1, evS.eq_2, evS.eq_3, evS.eq_4, evS.eq_5, evS.eq_6, evS.eq_9, evS.eq_10, evS.eq_11, evS.eq_12, evS.eq_13, evS.eq_14, evS.eq_15, runF, envOf, slotA, evSs, opn, fetch, evOs, evs, evOI, evAnd, evOr, evIfs, evRs, fetchAll, opIdx, opCmp, opBin, opBlt, opSlc, opMthK, opMth, opLt, kindD, isTy, asB, asI, asL, dOk, atI, ixN, setS, asgT, setAll, setPar, setAt, appAt, ownL, popD, calL, slotsOf, distinct, lend, giveBack, isSl, lents, lentS, killS, wipeP, back, itemsOf, r, works_len hr]
  | true =>
    rw [hr] at r
    obtain ⟨ds, rfl, h1, h2⟩ := row_tup hr
    obtain ⟨ss, rs, js, rfl⟩ := len3 (show ds.length = 3 by omega)
    obtain ⟨hl, hg⟩ := hd.tup
    have gs := hg ss (by simp)
    have gr := hg rs (by simp)
    have gj := hg js (by simp)
    have es := hAre ss gs 1 3
    have er := hR rs gr 1 5
    have ej := hR js gj 0 4
    cases bs : namesB ss 1 3 with
    | false =>
      rw [bs] at es
      simp [fIsWorks, ev.eq_1, ev.eq_2, ev.eq_3, ev.eq_4, ev.eq_5, ev.eq_6, ev.eq_7, ev.eq_8, ev.eq_9, ev.eq_10, ev.eq_11, ev.eq_12, ev.eq_13, ev.eq_14, ev.eq_15, ev.eq_16, ev.eq_17, ev.eq_18, ev.eq_19, ev.eq_20, ev.eq_21, evS.eq_1, evS.eq_2, evS.eq_3, evS.eq_4, evS.eq_5, evS.eq_6, evS.eq_9, evS.eq_10, evS.eq_11, evS.eq_12, evS.eq_13, evS.eq_14, evS.eq_15, runF, envOf, slotA, evSs, opn, fetch, evOs, evs, evOI, evAnd, evOr, evIfs, evRs, fetchAll, opIdx, opCmp, opBin, opBlt, opSlc, opMthK, opMth, opLt, kindD, isTy, asB, asI, asL, dOk, atI, ixN, setS, asgT, setAll, setPar, setAt, appAt, ownL, popD, calL, slotsOf, distinct, lend, giveBack, isSl, lents, lentS, killS, wipeP, back, itemsOf, r, es, worksB, bs]
    | true =>
    rw [bs] at es
    cases br : rowB rs 1 5 with
    | false =>
      rw [br] at er
      simp [fIsWorks, ev.eq_1, ev.eq_2, ev.eq_3, ev.eq_4, ev.eq_5, ev.eq_6, ev.eq_7, ev.eq_8, ev.eq_9, ev.eq_10, ev.eq_11, ev.eq_12, ev.eq_13, ev.eq_14, ev.eq_15, ev.eq_16, ev.eq_17, ev.eq_18, ev.eq_19, ev.eq_20, ev.eq_21, evS.eq_1, evS.eq_2, evS.eq_3, evS.eq_4, evS.eq_5, evS.eq_6, evS.eq_9, evS.eq_10, evS.eq_11, evS.eq_12, evS.eq_13, evS.eq_14, evS.eq_15, runF, envOf, slotA, evSs, opn, fetch, evOs, evs, evOI, evAnd, evOr, evIfs, evRs, fetchAll, opIdx, opCmp, opBin, opBlt, opSlc, opMthK, opMth, opLt, kindD, isTy, asB, asI, asL, dOk, atI, ixN, setS, asgT, setAll, setPar, setAt, appAt, ownL, popD, calL, slotsOf, distinct, lend, giveBack, isSl, lents, lentS, killS, wipeP, back, itemsOf, r, es, er, worksB, bs, br]
    | true =>
    rw [br] at er
    obtain ⟨rows, rfl, hr1, hr2⟩ := row_tup br
    obtain ⟨hrl, hrg⟩ := gr.tup
    obtain ⟨ns, rfl, hnn, hna, hn1, hn2⟩ := names_of bs
    have t := ev_lcB (call := call) (e := .cal iThing [.var 6] []) (g := thingB) (tg := .nm 6) (k := .seq) (its := [.idx (.var 0) (.cst (.int 1))]) (own := [6]) (ρ := [.fr (.tuple [.tuple (txts ns), .tuple rows, js]), .no, .no, .no, .no, .no, .no, .no]) (ρ1 := [.fr (.tuple [.tuple (txts ns), .tuple rows, js]), .no, .no, .no, .no, .no, .no, .no]) (ds := [.tuple rows]) (items := rows) (by simp [ev.eq_1, ev.eq_2, ev.eq_3, ev.eq_4, ev.eq_5, ev.eq_6, ev.eq_7, ev.eq_8, ev.eq_9, ev.eq_10, ev.eq_11, ev.eq_12, ev.eq_13, ev.eq_14, ev.eq_15, ev.eq_16, ev.eq_17, ev.eq_18, ev.eq_19, ev.eq_20, ev.eq_21, evS.eq_1, evS.eq_2, evS.eq_3, evS.eq_4, evS.eq_5, evS.eq_6, evS.eq_9, evS.eq_10, evS.eq_11, evS.eq_12, evS.eq_13, evS.eq_14, evS.eq_15, runF, envOf, slotA, evSs, opn, fetch, evOs, evs, evOI, evAnd, evOr, evIfs, evRs, fetchAll, opIdx, opCmp, opBin, opBlt, opSlc, opMthK, opMth, opLt, kindD, isTy, asB, asI, asL, dOk, atI, ixN, setS, asgT, setAll, setPar, setAt, appAt, ownL, popD, calL, slotsOf, distinct, lend, giveBack, isSl, lents, lentS, killS, wipeP, back, itemsOf]) rfl (fun z hz => by
      refine ⟨[.fr (.tuple [.tuple (txts ns), .tuple rows, js]), .no, .no, .no, .no, .no, .fr z, .no], [.fr (.tuple [.tuple (txts ns), .tuple rows, js]), .no, .no, .no, .no, .no, .fr z, .no], false, rfl, ?_, rfl⟩
      simp [ev.eq_1, ev.eq_2, ev.eq_3, ev.eq_4, ev.eq_5, ev.eq_6, ev.eq_7, ev.eq_8, ev.eq_9, ev.eq_10, ev.eq_11, ev.eq_12, ev.eq_13, ev.eq_14, ev.eq_15, ev.eq_16, ev.eq_17, ev.eq_18, ev.eq_19, ev.eq_20, ev.eq_21, evS.eq_1, evS.eq_2, evS.eq_3, evS.eq_4, evS.eq_5, evS.eq_6, evS.eq_9, evS.eq_10, evS.eq_11, evS.eq_12, evS.eq_13, evS.eq_14, evS.eq_15, runF, envOf, slotA, evSs, opn, fetch, evOs, evs, evOI, evAnd, evOr, evIfs, evRs, fetchAll, opIdx, opCmp, opBin, opBlt, opSlc, opMthK, opMth, opLt, kindD, isTy, asB, asI, asL, dOk, atI, ixN, setS, asgT, setAll, setPar, setAt, appAt, ownL, popD, calL, slotsOf, distinct, lend, giveBack, isSl, lents, lentS, killS, wipeP, back, itemsOf, hT z (hrg z hz)]) (goodL hrl)
    cases bt : rows.all thingB with
    | false => simp [fIsWorks, ev.eq_1, ev.eq_2, ev.eq_3, ev.eq_4, ev.eq_5, ev.eq_6, ev.eq_7, ev.eq_8, ev.eq_9, ev.eq_10, ev.eq_11, ev.eq_12, ev.eq_13, ev.eq_14, ev.eq_15, ev.eq_16, ev.eq_17, ev.eq_18, ev.eq_19, ev.eq_20, ev.eq_21, evS.eq_1, evS.eq_2, evS.eq_3, evS.eq_4, evS.eq_5, evS.eq_6, evS.eq_9, evS.eq_10, evS.eq_11, evS.eq_12, evS.eq_13, evS.eq_14, evS.eq_15, runF, envOf, slotA, evSs, opn, fetch, evOs, evs, evOI, evAnd, evOr, evIfs, evRs, fetchAll, opIdx, opCmp, opBin, opBlt, opSlc, opMthK, opMth, opLt, kindD, isTy, asB, asI, asL, dOk, atI, ixN, setS, asgT, setAll, setPar, setAt, appAt, ownL, popD, calL, slotsOf, distinct, lend, giveBack, isSl, lents, lentS, killS, wipeP, back, itemsOf, r, es, er, t, mapM_bools, List.all_map, Function.comp_def, worksB, bs, br, itemsD, bt]
    | true =>
    cases bj : rowB js 0 4 with
    | false =>
      rw [bj] at ej
      simp [fIsWorks, ev.eq_1, ev.eq_2, ev.eq_3, ev.eq_4, ev.eq_5, ev.eq_6, ev.eq_7, ev.eq_8, ev.eq_9, ev.eq_10, ev.eq_11, ev.eq_12, ev.eq_13, ev.eq_14, ev.eq_15, ev.eq_16, ev.eq_17, ev.eq_18, ev.eq_19, ev.eq_20, ev.eq_21, evS.eq_1, evS.eq_2, evS.eq_3, evS.eq_4, evS.eq_5, evS.eq_6, evS.eq_9, evS.eq_10, evS.eq_11, evS.eq_12, evS.eq_13, evS.eq_14, evS.eq_15, runF, envOf, slotA, evSs, opn, fetch, evOs, evs, evOI, evAnd, evOr, evIfs, evRs, fetchAll, opIdx, opCmp, opBin, opBlt, opSlc, opMthK, opMth, opLt, kindD, isTy, asB, asI, asL, dOk, atI, ixN, setS, asgT, setAll, setPar, setAt, appAt, ownL, popD, calL, slotsOf, distinct, lend, giveBack, isSl, lents, lentS, killS, wipeP, back, itemsOf, r, es, er, ej, t, mapM_bools, List.all_map, Function.comp_def, worksB, bs, br, itemsD, bt, bj]
    | true =>
    rw [bj] at ej
    obtain ⟨jobs, rfl, hj1, hj2⟩ := row_tup bj
    obtain ⟨hjl, hjg⟩ := gj.tup
    obtain ⟨k2, lp⟩ := known_loop call (.tuple [.tuple (txts ns), .tuple rows, .tuple jobs]) rows ns bt (by omega)
    have lp' : evS call (.for (.tup [2, 3, 4]) .seq [.idx (.var 0) (.cst (.int 1))] [.ife (.or [.cmp .isIn (.var 2) (.var 1), .not (.blt .all [.lc (.cmp .isIn (.var 7) (.var 1)) (.nm 7) .seq [.var 3] [] [7]])]) [.ret (.cst (.bool false))] [], .app 1 (.var 2)] [2, 3, 4]) [.fr (.tuple [.tuple (txts ns), .tuple rows, .tuple jobs]), .ow (.list (txts ns)), .no, .no, .no, .no, .no, .no] = _ := evS_for (ds := [.tuple rows]) (items := rows) (by simp [ev.eq_1, ev.eq_2, ev.eq_3, ev.eq_4, ev.eq_5, ev.eq_6, ev.eq_7, ev.eq_8, ev.eq_9, ev.eq_10, ev.eq_11, ev.eq_12, ev.eq_13, ev.eq_14, ev.eq_15, ev.eq_16, ev.eq_17, ev.eq_18, ev.eq_19, ev.eq_20, ev.eq_21, evS.eq_1, evS.eq_2, evS.eq_3, evS.eq_4, evS.eq_5, evS.eq_6, evS.eq_9, evS.eq_10, evS.eq_11, evS.eq_12, evS.eq_13, evS.eq_14, evS.eq_15, runF, envOf, slotA, evSs, opn, fetch, evOs, evs, evOI, evAnd, evOr, evIfs, evRs, fetchAll, opIdx, opCmp, opBin, opBlt, opSlc, opMthK, opMth, opLt, kindD, isTy, asB, asI, asL, dOk, atI, ixN, setS, asgT, setAll, setPar, setAt, appAt, ownL, popD, calL, slotsOf, distinct, lend, giveBack, isSl, lents, lentS, killS, wipeP, back, itemsOf]) rfl lp
    cases bk : thingsB ns rows with
    | false =>
      rw [bk] at lp'
      simp [fIsWorks, ev.eq_1, ev.eq_2, ev.eq_3, ev.eq_4, ev.eq_5, ev.eq_6, ev.eq_7, ev.eq_8, ev.eq_9, ev.eq_10, ev.eq_11, ev.eq_12, ev.eq_13, ev.eq_14, ev.eq_15, ev.eq_16, ev.eq_17, ev.eq_18, ev.eq_19, ev.eq_20, ev.eq_21, evS.eq_1, evS.eq_2, evS.eq_3, evS.eq_4, evS.eq_5, evS.eq_6, evS.eq_9, evS.eq_10, evS.eq_11, evS.eq_12, evS.eq_13, evS.eq_14, evS.eq_15, runF, envOf, slotA, evSs, opn, fetch, evOs, evs, evOI, evAnd, evOr, evIfs, evRs, fetchAll, opIdx, opCmp, opBin, opBlt, opSlc, opMthK, opMth, opLt, kindD, isTy, asB, asI, asL, dOk, atI, ixN, setS, asgT, setAll, setPar, setAt, appAt, ownL, popD, calL, slotsOf, distinct, lend, giveBack, isSl, lents, lentS, killS, wipeP, back, itemsOf, r, es, er, ej, t, mapM_bools, List.all_map, Function.comp_def, worksB, bs, br, itemsD, bt, bj, lp', strsOf_txts, bk]
    | true =>
    rw [bk] at lp'
    have hh : ∀ d ∈ rows, headS d := fun d hd => by
      obtain ⟨n, ps, m, rfl, _⟩ := thing_head (List.all_eq_true.mp bt d hd)
      exact ⟨n, _, rfl⟩
    have hnm : ∀ x ∈ rows.map nmOf, nameB (.str x) = true := fun x hx => by
      obtain ⟨d, hd, rfl⟩ := List.mem_map.mp hx
      obtain ⟨n, ps, m, rfl, _, q⟩ := thing_head (List.all_eq_true.mp bt d hd)
      exact q
    have eN := hNs (.tuple (txts ns)) (.tuple jobs) rows hrl hh
    have t2 := ev_lcB (call := call) (e := .cal iJob [.cal iNamesOf [.var 0] [], .var 5] []) (g := jobB (rows.map nmOf)) (tg := .nm 5) (k := .seq) (its := [.idx (.var 0) (.cst (.int 2))]) (own := [5]) (ρ := [.fr (.tuple [.tuple (txts ns), .tuple rows, .tuple jobs]), .ow (.list (txts k2)), .no, .no, .no, .no, .no, .no]) (ρ1 := [.fr (.tuple [.tuple (txts ns), .tuple rows, .tuple jobs]), .ow (.list (txts k2)), .no, .no, .no, .no, .no, .no]) (ds := [.tuple jobs]) (items := jobs) (by simp [ev.eq_1, ev.eq_2, ev.eq_3, ev.eq_4, ev.eq_5, ev.eq_6, ev.eq_7, ev.eq_8, ev.eq_9, ev.eq_10, ev.eq_11, ev.eq_12, ev.eq_13, ev.eq_14, ev.eq_15, ev.eq_16, ev.eq_17, ev.eq_18, ev.eq_19, ev.eq_20, ev.eq_21, evS.eq_1, evS.eq_2, evS.eq_3, evS.eq_4, evS.eq_5, evS.eq_6, evS.eq_9, evS.eq_10, evS.eq_11, evS.eq_12, evS.eq_13, evS.eq_14, evS.eq_15, runF, envOf, slotA, evSs, opn, fetch, evOs, evs, evOI, evAnd, evOr, evIfs, evRs, fetchAll, opIdx, opCmp, opBin, opBlt, opSlc, opMthK, opMth, opLt, kindD, isTy, asB, asI, asL, dOk, atI, ixN, setS, asgT, setAll, setPar, setAt, appAt, ownL, popD, calL, slotsOf, distinct, lend, giveBack, isSl, lents, lentS, killS, wipeP, back, itemsOf]) rfl (fun z hz => by
      refine ⟨[.fr (.tuple [.tuple (txts ns), .tuple rows, .tuple jobs]), .ow (.list (txts k2)), .no, .no, .no, .fr z, .no, .no], [.fr (.tuple [.tuple (txts ns), .tuple rows, .tuple jobs]), .ow (.list (txts k2)), .no, .no, .no, .fr z, .no, .no], false, rfl, ?_, rfl⟩
      simp [ev.eq_1, ev.eq_2, ev.eq_3, ev.eq_4, ev.eq_5, ev.eq_6, ev.eq_7, ev.eq_8, ev.eq_9, ev.eq_10, ev.eq_11, ev.eq_12, ev.eq_13, ev.eq_14, ev.eq_15, ev.eq_16, ev.eq_17, ev.eq_18, ev.eq_19, ev.eq_20, ev.eq_21, evS.eq_1, evS.eq_2, evS.eq_3, evS.eq_4, evS.eq_5, evS.eq_6, evS.eq_9, evS.eq_10, evS.eq_11, evS.eq_12, evS.eq_13, evS.eq_14, evS.eq_15, runF, envOf, slotA, evSs, opn, fetch, evOs, evs, evOI, evAnd, evOr, evIfs, evRs, fetchAll, opIdx, opCmp, opBin, opBlt, opSlc, opMthK, opMth, opLt, kindD, isTy, asB, asI, asL, dOk, atI, ixN, setS, asgT, setAll, setPar, setAt, appAt, ownL, popD, calL, slotsOf, distinct, lend, giveBack, isSl, lents, lentS, killS, wipeP, back, itemsOf, eN, hJ (rows.map nmOf) hnm z (hjg z hz)]) (goodL hjl)
    cases bw : jobs.all (jobB (rows.map nmOf)) with
    | false => simp [fIsWorks, ev.eq_1, ev.eq_2, ev.eq_3, ev.eq_4, ev.eq_5, ev.eq_6, ev.eq_7, ev.eq_8, ev.eq_9, ev.eq_10, ev.eq_11, ev.eq_12, ev.eq_13, ev.eq_14, ev.eq_15, ev.eq_16, ev.eq_17, ev.eq_18, ev.eq_19, ev.eq_20, ev.eq_21, evS.eq_1, evS.eq_2, evS.eq_3, evS.eq_4, evS.eq_5, evS.eq_6, evS.eq_9, evS.eq_10, evS.eq_11, evS.eq_12, evS.eq_13, evS.eq_14, evS.eq_15, runF, envOf, slotA, evSs, opn, fetch, evOs, evs, evOI, evAnd, evOr, evIfs, evRs, fetchAll, opIdx, opCmp, opBin, opBlt, opSlc, opMthK, opMth, opLt, kindD, isTy, asB, asI, asL, dOk, atI, ixN, setS, asgT, setAll, setPar, setAt, appAt, ownL, popD, calL, slotsOf, distinct, lend, giveBack, isSl, lents, lentS, killS, wipeP, back, itemsOf, r, es, er, ej, t, t2, mapM_bools, List.all_map, Function.comp_def, worksB, bs, br, itemsD, bt, bj, lp', strsOf_txts, bk, bw]
    | true =>
    have hh2 : ∀ d ∈ jobs, headS d := fun d hd => job_head (List.all_eq_true.mp bw d hd)
    have t3 := heads_ev (call := call) (j := 5) (its := [.idx (.var 0) (.cst (.int 2))]) (own := [5]) (ρ := [.fr (.tuple [.tuple (txts ns), .tuple rows, .tuple jobs]), .ow (.list (txts k2)), .no, .no, .no, .no, .no, .no]) (ρ1 := [.fr (.tuple [.tuple (txts ns), .tuple rows, .tuple jobs]), .ow (.list (txts k2)), .no, .no, .no, .no, .no, .no]) (v := .none) (by simp [ev.eq_1, ev.eq_2, ev.eq_3, ev.eq_4, ev.eq_5, ev.eq_6, ev.eq_7, ev.eq_8, ev.eq_9, ev.eq_10, ev.eq_11, ev.eq_12, ev.eq_13, ev.eq_14, ev.eq_15, ev.eq_16, ev.eq_17, ev.eq_18, ev.eq_19, ev.eq_20, ev.eq_21, evS.eq_1, evS.eq_2, evS.eq_3, evS.eq_4, evS.eq_5, evS.eq_6, evS.eq_9, evS.eq_10, evS.eq_11, evS.eq_12, evS.eq_13, evS.eq_14, evS.eq_15, runF, envOf, slotA, evSs, opn, fetch, evOs, evs, evOI, evAnd, evOr, evIfs, evRs, fetchAll, opIdx, opCmp, opBin, opBlt, opSlc, opMthK, opMth, opLt, kindD, isTy, asB, asI, asL, dOk, atI, ixN, setS, asgT, setAll, setPar, setAt, appAt, ownL, popD, calL, slotsOf, distinct, lend, giveBack, isSl, lents, lentS, killS, wipeP, back, itemsOf]) hh2 hjl (fun d => ⟨_, rfl, rfl, rfl⟩)
    have ea := (hA (jobs.map nmOf) (by simp; omega)).2
    simp [fIsWorks, ev.eq_1, ev.eq_2, ev.eq_3, ev.eq_4, ev.eq_5, ev.eq_6, ev.eq_7, ev.eq_8, ev.eq_9, ev.eq_10, ev.eq_11, ev.eq_12, ev.eq_13, ev.eq_14, ev.eq_15, ev.eq_16, ev.eq_17, ev.eq_18, ev.eq_19, ev.eq_20, ev.eq_21, evS.eq_1, evS.eq_2, evS.eq_3, evS.eq_4, evS.eq_5, evS.eq_6, evS.eq_9, evS.eq_10, evS.eq_11, evS.eq_12, evS.eq_13, evS.eq_14, evS.eq_15, runF, envOf, slotA, evSs, opn, fetch, evOs, evs, evOI, evAnd, evOr, evIfs, evRs, fetchAll, opIdx, opCmp, opBin, opBlt, opSlc, opMthK, opMth, opLt, kindD, isTy, asB, asI, asL, dOk, atI, ixN, setS, asgT, setAll, setPar, setAt, appAt, ownL, popD, calL, slotsOf, distinct, lend, giveBack, isSl, lents, lentS, killS, wipeP, back, itemsOf, r, es, er, ej, t, t2, t3, ea, mapM_bools, List.all_map, Function.comp_def, worksB, bs, br, itemsD, bt, bj, lp', strsOf_txts, bk, bw]
end PV

set_option Elab.async false
set_option linter.all false
set_option maxRecDepth 100000
set_option maxHeartbeats 4000000
namespace CL
open PySem PV
def x_is_name : Fn := ⟨1, 2, [.ret (.and [.isi (.var 0) .str, .chain .le .le (.cst (.int 1)) (.blt .len [.var 0]) (.cst (.int 8)), .blt .all [.lc (.cmp .isIn (.var 1) (.cst (.str "abcdefghijklmnopqrstuvwxyz"))) (.nm 1) .seq [.var 0] [] [1]]])]⟩
def x_is_row : Fn := ⟨3, 3, [.ret (.and [.isi (.var 0) .tuple, .chain .le .le (.var 1) (.blt .len [.var 0]) (.var 2)])]⟩
def x_ascends : Fn := ⟨1, 3, [.ret (.blt .all [.lc (.cmp .lt (.var 1) (.var 2)) (.tup [1, 2]) .zip [.var 0, .slc (.var 0) (some (.cst (.int 1))) none] [] [1, 2]])]⟩
def x_are_names : Fn := ⟨3, 4, [.ret (.and [.cal 1 [.var 0, .var 1, .var 2] [], .blt .all [.lc (.cal 0 [.var 3] []) (.nm 3) .seq [.var 0] [] [3]], .cal 2 [.var 0] []])]⟩
def x_is_thing : Fn := ⟨1, 1, [.ife (.or [.not (.cal 1 [.var 0, .cst (.int 3), .cst (.int 3)] []), .not (.cal 0 [.idx (.var 0) (.cst (.int 0))] []), .not (.cal 3 [.idx (.var 0) (.cst (.int 1)), .cst (.int 1), .cst (.int 3)] [])]) [.ret (.cst (.bool false))] [], .ret (.and [.isi (.idx (.var 0) (.cst (.int 2))) .str, .cmp .isIn (.idx (.var 0) (.cst (.int 2))) (.cst (.tuple [(.str "kept"), (.str "pushed"), (.str "asked")]))])]⟩
def x_is_job : Fn := ⟨2, 3, [.ife (.or [.not (.cal 1 [.var 1, .cst (.int 2), .cst (.int 2)] []), .not (.cal 0 [.idx (.var 1) (.cst (.int 0))] []), .not (.cal 1 [.idx (.var 1) (.cst (.int 1)), .cst (.int 1), .cst (.int 5)] [])]) [.ret (.cst (.bool false))] [], .ife (.not (.blt .all [.lc (.and [.cal 0 [.var 2] [], .cmp .isIn (.var 2) (.var 0)]) (.nm 2) .seq [.idx (.var 1) (.cst (.int 1))] [] [2]])) [.ret (.cst (.bool false))] [], .ret (.cmp .eq (.blt .lset [.idx (.var 1) (.cst (.int 1))]) (.blt .len [.idx (.var 1) (.cst (.int 1))]))]⟩
def x_names_of : Fn := ⟨1, 2, [.ret (.lc (.idx (.var 1) (.cst (.int 0))) (.nm 1) .seq [.idx (.var 0) (.cst (.int 1))] [] [1])]⟩
def x_is_works : Fn := ⟨1, 8, [.ife (.or [.not (.cal 1 [.var 0, .cst (.int 3), .cst (.int 3)] []), .not (.cal 3 [.idx (.var 0) (.cst (.int 0)), .cst (.int 1), .cst (.int 3)] []), .not (.cal 1 [.idx (.var 0) (.cst (.int 1)), .cst (.int 1), .cst (.int 5)] [])]) [.ret (.cst (.bool false))] [], .ife (.or [.not (.blt .all [.lc (.cal 4 [.var 6] []) (.nm 6) .seq [.idx (.var 0) (.cst (.int 1))] [] [6]]), .not (.cal 1 [.idx (.var 0) (.cst (.int 2)), .cst (.int 0), .cst (.int 4)] [])]) [.ret (.cst (.bool false))] [], .asg (.nm 1) (.blt .list [.idx (.var 0) (.cst (.int 0))]), .for (.tup [2, 3, 4]) .seq [.idx (.var 0) (.cst (.int 1))] [.ife (.or [.cmp .isIn (.var 2) (.var 1), .not (.blt .all [.lc (.cmp .isIn (.var 7) (.var 1)) (.nm 7) .seq [.var 3] [] [7]])]) [.ret (.cst (.bool false))] [], .app 1 (.var 2)] [2, 3, 4], .ife (.not (.blt .all [.lc (.cal 5 [.cal 6 [.var 0] [], .var 5] []) (.nm 5) .seq [.idx (.var 0) (.cst (.int 2))] [] [5]])) [.ret (.cst (.bool false))] [], .ret (.cal 2 [.lc (.idx (.var 5) (.cst (.int 0))) (.nm 5) .seq [.idx (.var 0) (.cst (.int 2))] [] [5]] [])]⟩
def x_is_event : Fn := ⟨2, 3, [.ife (.or [.not (.cal 1 [.var 1, .cst (.int 2), .cst (.int 2)] []), .not (.isi (.idx (.var 1) (.cst (.int 0))) .str), .not (.cal 0 [.idx (.var 1) (.cst (.int 1))] [])]) [.ret (.cst (.bool false))] [], .ife (.cmp .eq (.idx (.var 1) (.cst (.int 0))) (.cst (.str "change"))) [.ret (.cmp .isIn (.idx (.var 1) (.cst (.int 1))) (.idx (.var 0) (.cst (.int 0))))] [], .ife (.cmp .eq (.idx (.var 1) (.cst (.int 0))) (.cst (.str "job"))) [.ret (.cmp .isIn (.idx (.var 1) (.cst (.int 1))) (.lc (.idx (.var 2) (.cst (.int 0))) (.nm 2) .seq [.idx (.var 0) (.cst (.int 2))] [] [2]))] [], .ret (.and [.cmp .eq (.idx (.var 1) (.cst (.int 0))) (.cst (.str "ask")), .cmp .isIn (.idx (.var 1) (.cst (.int 1))) (.cal 6 [.var 0] [])])]⟩
def x_is_run_of : Fn := ⟨2, 3, [.ret (.and [.cal 1 [.var 1, .cst (.int 0), .cst (.int 60)] [], .blt .all [.lc (.cal 8 [.var 0, .var 2] []) (.nm 2) .seq [.var 1] [] [2]]])]⟩
def x_need_works : Fn := ⟨1, 1, [.ife (.not (.cal 7 [.var 0] [])) [.never] []]⟩
def x_is_run : Fn := ⟨2, 2, [.exp (.cal 10 [.var 0] []), .ret (.cal 9 [.var 0, .var 1] [])]⟩
def x__law_bag : Fn := ⟨2, 5, [.asg (.nm 2) (.cst (.int 0)), .ife (.cmp .lt (.var 1) (.blt .len [.var 0])) [.asg (.nm 2) (.bin .mod (.blt .int [.idx (.var 0) (.var 1)]) (.bin .pow (.cst (.int 10)) (.cst (.int 60))))] [], .asg (.nm 3) (.bin .add (.bin .mul (.bin .mod (.blt .int [.var 2]) (.cst (.int 2147483629))) (.cst (.int 16807))) (.bin .mul (.bin .mul (.cst (.int 40009)) (.var 1)) (.var 1))), .asg (.nm 4) (.bin .add (.cst (.int 1)) (.bin .mod (.blt .int [.bin .add (.bin .add (.var 3) (.bin .mul (.cst (.int 7919)) (.var 1))) (.cst (.int 1009))]) (.cst (.int 2147483645)))), .ife (.cmp .lt (.var 2) (.bin .pow (.cst (.int 10)) (.cst (.int 18)))) [.ret (.lst [.cst (.int 0), .var 4])] [], .ret (.lst [.var 2, .var 4])]⟩
def x__law_take : Fn := ⟨2, 4, [.ife (.cmp .gt (.idx (.var 0) (.cst (.int 0))) (.cst (.int 0))) [.asg (.nm 2) (.bin .mod (.blt .int [.idx (.var 0) (.cst (.int 0))]) (.var 1)), .set 0 (.cst (.int 0)) (.bin .fdiv (.blt .int [.idx (.var 0) (.cst (.int 0))]) (.var 1)), .ret (.var 2)] [], .set 0 (.cst (.int 1)) (.bin .mod (.blt .int [.bin .mul (.idx (.var 0) (.cst (.int 1))) (.cst (.int 48271))]) (.cst (.int 2147483647))), .asg (.nm 3) (.bin .mul (.bin .fdiv (.blt .int [.idx (.var 0) (.cst (.int 1))]) (.cst (.int 13))) (.bin .add (.bin .mod (.blt .int [.idx (.var 0) (.cst (.int 1))]) (.cst (.int 32749))) (.cst (.int 17)))), .ret (.bin .mod (.blt .int [.bin .fdiv (.bin .mod (.blt .int [.var 3]) (.cst (.int 2147483629))) (.cst (.int 32))]) (.var 1))]⟩
def x__law_of : Fn := ⟨2, 2, [.ret (.idx (.var 1) (.cal 13 [.var 0, .blt .len [.var 1]] []))]⟩
def x__law_names : Fn := ⟨1, 3, [.asg (.nm 1) (.cal 14 [.var 0, .lst [.lst [.cst (.str "s"), .cst (.str "t"), .cst (.str "u")], .lst [.cst (.str "a"), .cst (.str "b"), .cst (.str "c")], .lst [.cst (.str "data"), .cst (.str "file"), .cst (.str "list")]]] []), .asg (.nm 2) (.lst [.lst [.cst (.str "x"), .cst (.str "y"), .cst (.str "page"), .cst (.str "w"), .cst (.str "z")], .lst [.cst (.str "news"), .cst (.str "m"), .cst (.str "mm"), .cst (.str "k"), .cst (.str "zz")], .lst [.cst (.str "one"), .cst (.str "two"), .cst (.str "three"), .cst (.str "four"), .cst (.str "five")]]), .ret (.tup [.var 1, .cal 14 [.var 0, .var 2] []])]⟩
def x__law_some : Fn := ⟨3, 5, [.asg (.nm 3) (.lst [.idx (.var 1) (.bin .sub (.cst (.int (-1))) (.cal 13 [.var 0, .blt .min2 [.cst (.int 2), .blt .len [.var 1]]] []))]), .for (.nm 4) .rng1 [.cal 13 [.var 0, .var 2] []] [.app 3 (.cal 14 [.var 0, .var 1] [])] [4], .ret (.blt .tuple [.blt .sset [.var 3]])]⟩
def x__law_works : Fn := ⟨4, 17, [.asg (.tup [4, 5]) (.cal 15 [.var 0] []), .par [6, 7] [.slc (.var 4) none (some (.var 1)), .tup []], .for (.nm 8) .seq [.slc (.var 5) none (some (.var 2))] [.asg (.nm 9) (.cal 16 [.var 0, .var 6, .ite (.cmp .gt (.cal 13 [.var 0, .cst (.int 4)] []) (.cst (.int 0))) (.cst (.int 2)) (.cst (.int 3))] []), .asg (.nm 10) (.cal 14 [.var 0, .lst [.cst (.str "kept"), .cst (.str "kept"), .cst (.str "kept"), .cst (.str "asked"), .cst (.str "asked"), .cst (.str "pushed")]] []), .asg (.nm 7) (.bin .add (.var 7) (.tup [.tup [.var 8, .var 9, .var 10]])), .asg (.nm 6) (.bin .add (.var 6) (.lst [.var 8]))] [8, 9, 10], .asg (.nm 11) (.dic0), .asg (.nm 12) (.cal 14 [.var 0, .lst [.var 3, .var 3, .bin .sub (.var 3) (.cst (.int 1)), .cal 13 [.var 0, .bin .add (.var 3) (.cst (.int 1))] []]] []), .for (.nm 13) .seq [.slc (.lst [.cst (.str "ja"), .cst (.str "jb"), .cst (.str "k"), .cst (.str "refresh")]) none (some (.var 12))] [.par [14, 15] [.tup [], .slc (.var 5) none (some (.var 2))], .for (.nm 16) .rng1 [.bin .add (.cst (.int 1)) (.cal 14 [.var 0, .lst [.cst (.int 0), .cst (.int 0), .cst (.int 0), .cst (.int 1), .cst (.int 2)]] [])] [.ife (.cmp .ne (.var 15) (.lst [])) [.asg (.nm 14) (.bin .add (.var 14) (.tup [.pop 15 [.cal 13 [.var 0, .blt .len [.var 15]] []]]))] []] [16], .set 11 (.var 13) (.var 14)] [13, 14, 15, 16], .ret (.tup [.blt .tuple [.slc (.var 4) none (some (.var 1))], .var 7, .blt .tuple [.lc (.tup [.var 13, .idx (.var 11) (.var 13)]) (.nm 13) .seq [.blt .sorted [.var 11]] [] [13]]])]⟩
def x__law_events : Fn := ⟨2, 6, [.asg (.nm 2) (.bin .add (.lc (.tup [.cst (.str "change"), .var 3]) (.nm 3) .seq [.idx (.var 0) (.cst (.int 0))] [] [3]) (.lc (.tup [.cst (.str "job"), .idx (.var 4) (.cst (.int 0))]) (.nm 4) .seq [.idx (.var 0) (.cst (.int 2))] [] [4])), .ret (.bin .add (.var 2) (.lc (.tup [.cst (.str "ask"), .var 5]) (.nm 5) .seq [.var 1] [] [5]))]⟩
def x__law_drawn_run : Fn := ⟨3, 6, [.asg (.nm 3) (.cal 18 [.var 1, .lc (.idx (.var 4) (.cst (.int 0))) (.nm 4) .seq [.idx (.var 1) (.cst (.int 1))] [] [4]] []), .ret (.blt .tuple [.lc (.cal 14 [.var 0, .var 3] []) (.nm 5) .rng1 [.bin .add (.cst (.int 1)) (.cal 13 [.var 0, .var 2] [])] [] [5]])]⟩
def x__law_any_value : Fn := ⟨2, 6, [.asg (.nm 2) (.cal 13 [.var 0, .cst (.int 9)] []), .ife (.or [.cmp .lt (.var 2) (.cst (.int 6)), .cmp .eq (.var 1) (.cst (.int 0))]) [.asg (.nm 3) (.lst [.cst (.int 0), .cst (.int (-1)), .cst (.int 1), .cst (.bool true), .cst (.bool false), .cst .none, .cst (.str ""), .cst (.str "s"), .cst (.str "x"), .cst (.str "kept"), .cst (.str "change"), .cst (.str "job"), .cst (.str "ask")]), .ret (.cal 14 [.var 0, .bin .add (.var 3) (.lst [.bin .pow (.cst (.int 10)) (.cst (.int 30)), .tup [], .lst [], .tup [.cst (.str "s")]])] [])] [], .asg (.nm 4) (.lc (.cal 20 [.var 0, .bin .sub (.var 1) (.cst (.int 1))] []) (.nm 5) .rng1 [.cal 13 [.var 0, .cst (.int 5)] []] [] [5]), .ret (.idx (.lst [.var 4, .blt .tuple [.var 4], .blt .tuple [.var 4]]) (.bin .sub (.var 2) (.cst (.int 6))))]⟩
def x__law_spoiled : Fn := ⟨2, 5, [.ife (.or [.not (.isi (.var 1) .tuple), .cmp .eq (.var 1) (.tup []), .cmp .eq (.cal 13 [.var 0, .cst (.int 6)] []) (.cst (.int 0))]) [.asg (.nm 2) (.lst [.cal 20 [.var 0, .cst (.int 1)] [], .lst [.var 1], .tup [.var 1, .var 1]]), .ife (.isi (.var 1) .str) [.asg (.nm 2) (.bin .add (.var 2) (.lst [.bin .add (.var 1) (.cst (.str "a")), .mth .upper (.var 1) [], .cst (.str "x"), .cst (.str "s"), .cst (.str "asked"), .cst (.str "pushed"), .cst (.str "asks")]))] [], .ret (.cal 14 [.var 0, .var 2] [])] [], .par [3, 4] [.cal 13 [.var 0, .blt .len [.var 1]] [], .cal 13 [.var 0, .cst (.int 7)] []], .ife (.cmp .eq (.var 4) (.cst (.int 0))) [.ret (.bin .add (.slc (.var 1) none (some (.var 3))) (.slc (.var 1) (some (.bin .add (.var 3) (.cst (.int 1)))) none))] [], .ife (.cmp .eq (.var 4) (.cst (.int 1))) [.ret (.bin .add (.bin .add (.slc (.var 1) none (some (.var 3))) (.bin .mul (.slc (.var 1) (some (.var 3)) (some (.bin .add (.var 3) (.cst (.int 1))))) (.cst (.int 2)))) (.slc (.var 1) (some (.bin .add (.var 3) (.cst (.int 1)))) none))] [], .ife (.cmp .eq (.var 4) (.cst (.int 2))) [.ret (.rev (.var 1))] [], .ife (.cmp .eq (.var 4) (.cst (.int 3))) [.ret (.blt .list [.var 1])] [], .ret (.bin .add (.bin .add (.slc (.var 1) none (some (.var 3))) (.tup [.cal 21 [.var 0, .idx (.var 1) (.var 3)] []])) (.slc (.var 1) (some (.bin .add (.var 3) (.cst (.int 1)))) none))]⟩
def x__law_is_name : Fn := ⟨1, 2, [.ife (.or [.not (.isi (.var 0) .str), .not (.chain .le .le (.cst (.int 1)) (.blt .len [.var 0]) (.cst (.int 8)))]) [.ret (.cst (.bool false))] [], .ret (.cmp .eq (.lc (.var 1) (.nm 1) .seq [.var 0] [.cmp .notIn (.var 1) (.cst (.str "abcdefghijklmnopqrstuvwxyz"))] [1]) (.lst []))]⟩
def x__law_rising : Fn := ⟨3, 5, [.ife (.or [.not (.isi (.var 0) .tuple), .not (.chain .le .le (.var 1) (.blt .len [.var 0]) (.var 2))]) [.ret (.cst (.bool false))] [], .ife (.cmp .ne (.lc (.var 3) (.nm 3) .seq [.var 0] [.not (.cal 22 [.var 3] [])] [3]) (.lst [])) [.ret (.cst (.bool false))] [], .ret (.cmp .eq (.lc (.var 4) (.nm 4) .rng2 [.cst (.int 1), .blt .len [.var 0]] [.cmp .le (.idx (.var 0) (.var 4)) (.idx (.var 0) (.bin .sub (.var 4) (.cst (.int 1))))] [4]) (.lst []))]⟩
def x__law_are_things : Fn := ⟨2, 4, [.ife (.or [.not (.isi (.var 0) .tuple), .not (.chain .le .le (.cst (.int 1)) (.blt .len [.var 0]) (.cst (.int 5)))]) [.ret (.cst (.bool false))] [], .for (.nm 2) .seq [.var 0] [.ife (.or [.not (.isi (.var 2) .tuple), .cmp .ne (.blt .len [.var 2]) (.cst (.int 3)), .not (.cal 22 [.idx (.var 2) (.cst (.int 0))] []), .cmp .isIn (.idx (.var 2) (.cst (.int 0))) (.var 1)]) [.ret (.cst (.bool false))] [], .ife (.or [.not (.cal 23 [.idx (.var 2) (.cst (.int 1)), .cst (.int 1), .cst (.int 3)] []), .cmp .ne (.lc (.var 3) (.nm 3) .seq [.idx (.var 2) (.cst (.int 1))] [.cmp .notIn (.var 3) (.var 1)] [3]) (.lst [])]) [.ret (.cst (.bool false))] [], .ife (.or [.not (.isi (.idx (.var 2) (.cst (.int 2))) .str), .cmp .notIn (.idx (.var 2) (.cst (.int 2))) (.lst [.cst (.str "kept"), .cst (.str "pushed"), .cst (.str "asked")])]) [.ret (.cst (.bool false))] [], .asg (.nm 1) (.bin .add (.var 1) (.lst [.idx (.var 2) (.cst (.int 0))]))] [2], .ret (.cst (.bool true))]⟩
def x__law_are_jobs : Fn := ⟨2, 6, [.ife (.or [.not (.isi (.var 0) .tuple), .cmp .gt (.blt .len [.var 0]) (.cst (.int 4))]) [.ret (.cst (.bool false))] [], .for (.nm 2) .seq [.var 0] [.ife (.or [.not (.isi (.var 2) .tuple), .cmp .ne (.blt .len [.var 2]) (.cst (.int 2)), .not (.cal 22 [.idx (.var 2) (.cst (.int 0))] []), .not (.isi (.idx (.var 2) (.cst (.int 1))) .tuple)]) [.ret (.cst (.bool false))] [], .asg (.nm 3) (.lc (.var 4) (.nm 4) .seq [.idx (.var 2) (.cst (.int 1))] [.or [.not (.isi (.var 4) .str), .cmp .notIn (.var 4) (.var 1)]] [4]), .ife (.or [.not (.chain .le .le (.cst (.int 1)) (.blt .len [.idx (.var 2) (.cst (.int 1))]) (.cst (.int 5))), .cmp .ne (.var 3) (.lst [])]) [.ret (.cst (.bool false))] [], .ife (.cmp .lt (.blt .lset [.idx (.var 2) (.cst (.int 1))]) (.blt .len [.idx (.var 2) (.cst (.int 1))])) [.ret (.cst (.bool false))] []] [2, 3], .ret (.cmp .eq (.lc (.var 5) (.nm 5) .rng2 [.cst (.int 1), .blt .len [.var 0]] [.cmp .le (.idx (.idx (.var 0) (.var 5)) (.cst (.int 0))) (.idx (.idx (.var 0) (.bin .sub (.var 5) (.cst (.int 1)))) (.cst (.int 0)))] [5]) (.lst []))]⟩
def x__law_is_works : Fn := ⟨1, 2, [.ife (.or [.not (.isi (.var 0) .tuple), .cmp .ne (.blt .len [.var 0]) (.cst (.int 3)), .not (.cal 23 [.idx (.var 0) (.cst (.int 0)), .cst (.int 1), .cst (.int 3)] [])]) [.ret (.cst (.bool false))] [], .ife (.not (.cal 24 [.idx (.var 0) (.cst (.int 1)), .blt .list [.idx (.var 0) (.cst (.int 0))]] [])) [.ret (.cst (.bool false))] [], .ret (.cal 25 [.idx (.var 0) (.cst (.int 2)), .lc (.idx (.var 1) (.cst (.int 0))) (.nm 1) .seq [.idx (.var 0) (.cst (.int 1))] [] [1]] [])]⟩
def x__law_is_run : Fn := ⟨2, 6, [.ife (.or [.not (.isi (.var 1) .tuple), .cmp .gt (.blt .len [.var 1]) (.cst (.int 60))]) [.ret (.cst (.bool false))] [], .asg (.nm 2) (.cal 18 [.var 0, .lc (.idx (.var 4) (.cst (.int 0))) (.nm 4) .seq [.idx (.var 0) (.cst (.int 1))] [] [4]] []), .for (.nm 3) .seq [.var 1] [.ife (.or [.not (.isi (.var 3) .tuple), .cmp .ne (.lc (.var 5) (.nm 5) .seq [.var 3] [.not (.isi (.var 5) .str)] [5]) (.lst [])]) [.ret (.cst (.bool false))] [], .ife (.cmp .notIn (.var 3) (.var 2)) [.ret (.cst (.bool false))] []] [3], .ret (.cst (.bool true))]⟩
def x__law_told_right : Fn := ⟨2, 2, [.ret (.and [.isi (.var 0) .bool, .cmp .eq (.var 0) (.var 1)])]⟩
def x_law : Fn := ⟨1, 14, [.for (.nm 1) .rng1 [.blt .max2 [.cst (.int 4), .blt .min2 [.cst (.int 8), .bin .add (.blt .len [.var 0]) (.cst (.int 3))]]] [.asg (.nm 2) (.cal 12 [.var 0, .var 1] []), .asg (.nm 3) (.cal 17 [.var 2, .bin .add (.cst (.int 1)) (.cal 13 [.var 2, .cst (.int 3)] []), .bin .add (.cst (.int 1)) (.cal 13 [.var 2, .cst (.int 5)] []), .cst (.int 4)] []), .asg (.nm 4) (.cal 19 [.var 2, .var 3, .cst (.int 12)] []), .for (.nm 5) .rng1 [.cst (.int 8)] [.asg (.nm 8) (.lst [.var 3, .cal 21 [.var 2, .var 3] [], .cal 21 [.var 2, .var 3] [], .cal 20 [.var 2, .cst (.int 3)] []]), .asg (.nm 9) (.cal 14 [.var 2, .var 8] []), .ife (.not (.cal 28 [.cal 7 [.var 9] [], .cal 26 [.var 9] []] [])) [.ret (.cst (.bool false))] [], .asg (.nm 9) (.cal 14 [.var 2, .lst [.var 4, .bin .mul (.var 4) (.cst (.int 7)), .cal 21 [.var 2, .var 4] [], .cal 20 [.var 2, .cst (.int 2)] []]] []), .ife (.not (.cal 28 [.cal 11 [.var 3, .var 9] [], .cal 27 [.var 3, .var 9] []] [])) [.ret (.cst (.bool false))] []] [5, 8, 9], .asg (.nm 6) (.tup [.cst (.str "change"), .idx (.idx (.var 3) (.cst (.int 0))) (.cst (.int 0))]), .asg (.nm 7) (.lst [.cal 11 [.var 3, .tup []] [], .cal 11 [.var 3, .bin .mul (.tup [.var 6]) (.cst (.int 60))] [], .cal 11 [.var 3, .bin .mul (.tup [.var 6]) (.cst (.int 61))] []]), .ife (.cmp .ne (.var 7) (.lst [.cst (.bool true), .cst (.bool true), .cst (.bool false)])) [.ret (.cst (.bool false))] []] [1, 2, 3, 4, 5, 6, 7, 8, 9], .par [10, 11] [.tup [.cst (.str "x"), .tup [.cst (.str "s")], .cst (.str "kept")], .tup [.cst (.str "y"), .tup [.cst (.str "s"), .cst (.str "x")], .cst (.str "asked")]], .asg (.nm 12) (.lst [.tup [.tup [.cst (.str "s")], .tup [.var 10, .var 11], .tup [.tup [.cst (.str "j"), .tup [.cst (.str "y"), .cst (.str "x")]]]], .tup [.tup [.cst (.str "s"), .cst (.str "t"), .cst (.str "u")], .tup [.var 10], .tup []]]), .asg (.nm 13) (.lst [.tup [.tup [.cst (.str "s")], .tup [.var 11, .var 10], .tup []], .tup [.tup [.cst (.str "t"), .cst (.str "s")], .tup [.var 10], .tup []], .tup [.tup [.cst (.str "s")], .tup [.var 10, .var 10], .tup []], .tup [.tup [.cst (.str "s")], .tup [], .tup []], .tup [.tup [], .tup [.var 10], .tup []]]), .asg (.nm 13) (.bin .add (.var 13) (.lst [.tup [.tup [.cst (.str "s")], .tup [.var 10], .tup [.tup [.cst (.str "j"), .tup []]]], .tup [.tup [.cst (.str "s")], .tup [.var 10], .tup [.tup [.cst (.str "j"), .tup [.cst (.str "x"), .cst (.str "x")]]]], .tup [.tup [.cst (.str "s")], .tup [.var 10], .tup [.tup [.cst (.str "j"), .tup [.cst (.str "s")]]]]])), .asg (.nm 13) (.bin .add (.var 13) (.lst [.tup [.tup [.cst (.str "s"), .cst (.str "x")], .tup [.var 10], .tup []], .tup [.tup [.cst (.str "s")], .tup [.tup [.cst (.str "y"), .tup [.cst (.str "s"), .cst (.str "x")], .cst (.str "asked")]], .tup []]])), .app 13 (.tup [.tup [.cst (.str "s")], .tup [.tup [.cst (.str "x"), .tup [], .cst (.str "kept")]], .tup []]), .ret (.cmp .eq (.lc (.cal 7 [.var 9] []) (.nm 9) .seq [.bin .add (.var 12) (.var 13)] [] [9]) (.bin .add (.bin .mul (.lst [.cst (.bool true)]) (.cst (.int 2))) (.bin .mul (.lst [.cst (.bool false)]) (.cst (.int 11)))))]⟩
def fs : List Fn := [x_is_name, x_is_row, x_ascends, x_are_names, x_is_thing, x_is_job, x_names_of, x_is_works, x_is_event, x_is_run_of, x_need_works, x_is_run, x__law_bag, x__law_take, x__law_of, x__law_names, x__law_some, x__law_works, x__law_events, x__law_drawn_run, x__law_any_value, x__law_spoiled, x__law_is_name, x__law_rising, x__law_are_things, x__law_are_jobs, x__law_is_works, x__law_is_run, x__law_told_right, x_law]
end CL

set_option Elab.async false
set_option linter.all false
set_option maxRecDepth 100000
set_option maxHeartbeats 2000000
namespace CL
open PySem PV
/-! ### the draws -/
theorem l_take (k : Nat) : TakeOk (callN fs (k + 1)) 13 := fun c s n h1 h2 => take_ok (callN fs k) c s n h1 h2
theorem l_of (k : Nat) : OfOk (callN fs (k + 2)) 14 := fun c s xs w h1 h2 => of_ok (l_take k) c s xs w h1 h2
theorem l_names (k : Nat) : NamesOk (callN fs (k + 3)) 15 := fun c s => lnames_ok (l_of k) c s
theorem l_some (k : Nat) : SomeOk (callN fs (k + 3)) 16 := fun c s xs most w h1 h2 h3 h4 => some_ok (l_take (k + 1)) (l_of k) c s xs most w h1 h2 h3 h4
theorem l_works (k : Nat) : WorksOk (callN fs (k + 4)) 17 := fun c s sn tn jn h1 h2 h3 h4 h5 h6 => works_ok (l_take (k + 2)) (l_of (k + 1)) (l_names k) (l_some k) c s sn tn jn h1 h2 h3 h4 h5 h6
/-! ### the program's checks -/
theorem l_name (k : Nat) : NameE (callN fs (k + 1)) 0 := fun d h => name_ev (callN fs k) d h
theorem l_row (k : Nat) : RowE (callN fs (k + 1)) 1 := fun d h a b => row_ev (callN fs k) d h a b
theorem l_asc (k : Nat) : AscE (callN fs (k + 1)) 2 := fun xs h => asc_ev (callN fs k) xs h
theorem l_are (k : Nat) : AreE (callN fs (k + 2)) 3 := fun d h a b => are_ev (l_name k) (l_row k) (l_asc k) d h a b
theorem l_thing (k : Nat) : ThingE (callN fs (k + 3)) 4 := fun d h => thing_ev (l_name (k + 1)) (l_row (k + 1)) (l_are k) d h
theorem l_job (k : Nat) : JobE (callN fs (k + 2)) 5 := fun ns hn d h => job_ev (l_name k) (l_row k) ns hn d h
theorem l_namesOf (k : Nat) : NamesOfE (callN fs (k + 1)) 6 := fun a c ds h1 h2 => namesOf_ev (callN fs k) a c ds h1 h2
theorem l_isWorks (k : Nat) (d : D) (h : Good d) : callN fs (k + 4) 7 [(d, false)] = some (.bool (worksB d), false, [.no]) := isWorks_ev (l_row (k + 2)) (l_asc (k + 2)) (l_are (k + 1)) (l_thing k) (l_job (k + 1)) (l_namesOf (k + 2)) d h
/-! ### small values -/
def Nb : Nat → D → Prop
  | _, .none => True
  | _, .bool _ => True
  | _, .int _ => True
  | _, .str x => x.length ≤ 90
  | k + 1, .list ds => ds.length ≤ 90 ∧ ∀ d ∈ ds, Nb k d
  | k + 1, .tuple ds => ds.length ≤ 90 ∧ ∀ d ∈ ds, Nb k d
  | 0, .list _ => False
  | 0, .tuple _ => False
  | _, .dict _ => False
theorem Nb.nc : ∀ {k : Nat} {d : D}, Nb k d → Nc k d
  | 0, d, h => by
    cases d with
    | str x => exact Nat.le_trans (show x.length ≤ 90 from h) (by decide)
    | _ => first | exact trivial | exact absurd h (by simp [Nb])
  | k + 1, d, h => by
    cases d with
    | str x => exact Nat.le_trans (show x.length ≤ 90 from h) (by decide)
    | list ds => exact ⟨Nat.le_trans h.1 (by decide), fun d hd => (h.2 d hd).nc⟩
    | tuple ds => exact ⟨Nat.le_trans h.1 (by decide), fun d hd => (h.2 d hd).nc⟩
    | dict kvs => exact absurd h (by simp [Nb])
    | _ => exact trivial
theorem Nb.mono : ∀ {k m : Nat} {d : D}, Nb k d → k ≤ m → Nb m d
  | 0, m, d, h, _ => by
    cases d <;> first | (cases m <;> exact h) | exact absurd h (by simp [Nb])
  | k + 1, 0, d, h, hm => by omega
  | k + 1, m + 1, d, h, hm => by
    cases d with
    | list ds => exact ⟨h.1, fun d hd => (h.2 d hd).mono (by omega)⟩
    | tuple ds => exact ⟨h.1, fun d hd => (h.2 d hd).mono (by omega)⟩
    | dict kvs => exact absurd h (by simp [Nb])
    | _ => exact h
/-- a comprehension whose turns draw -/
theorem lcL_inv {step : D → Pl → Option (List D × Pl)} (I : Pl → Prop) (J : D → Prop) : ∀ (items : List D) (ρ : Pl), (∀ d ∈ items, ∀ ρ, I ρ → ∃ y ρ', step d ρ = some ([y], ρ') ∧ I ρ' ∧ J y) → I ρ → ∃ ys ρ', lcL step items ρ = some (ys, ρ') ∧ I ρ' ∧ ys.length = items.length ∧ ∀ y ∈ ys, J y
  | [], ρ, _, hI => ⟨[], ρ, rfl, hI, rfl, fun y hy => by simp at hy⟩
  | d :: ds, ρ, h, hI => by
    obtain ⟨y, ρ1, e1, h1, j1⟩ := h d List.mem_cons_self ρ hI
    obtain ⟨ys, ρ2, e2, h2, l2, j2⟩ := lcL_inv I J ds ρ1 (fun x hx => h x (List.mem_cons_of_mem _ hx)) h1
    refine ⟨y :: ys, ρ2, by simp [lcL, e1, e2], h2, by simp [l2], fun z hz => ?_⟩
    rcases List.mem_cons.mp hz with rfl | hz
    · exact j1
    · exact j2 z hz
def AnyOk (call : Call) (i : Nat) (k : Nat) : Prop := ∀ c s : Int, ∃ (r : D) (c' s' : Int), call i [(bagD c s, true), (.int k, false)] = some (r, false, [.bo (bagD c' s'), .no]) ∧ Nb (k + 1) r
theorem atom_ok {x : D} (h : x ∈ [.int 0, .int (-1), .int 1, .bool true, .bool false, .none, .str "", .str "s", .str "x", .str "kept", .str "change", .str "job", .str "ask", .int 1000000000000000000000000000000, .tuple [], .list [], .tuple [.str "s"]]) : Nb 1 x := by
  simp only [List.mem_cons, List.not_mem_nil, or_false] at h
  rcases h with rfl | rfl | rfl | rfl | rfl | rfl | rfl | rfl | rfl | rfl | rfl | rfl | rfl | rfl | rfl | rfl | rfl <;> first | exact trivial | (show Str.length _ ≤ 90; decide +kernel) | (exact ⟨Nat.zero_le _, fun d hd => absurd hd List.not_mem_nil⟩) | (exact ⟨by decide, fun d hd => by rw [List.mem_singleton.mp hd]; show Str.length _ ≤ 90; decide +kernel⟩)
theorem any_ev {call : Call} (hT : TakeOk call 13) (hO : OfOk call 14) (k : Nat) (K : Int) (hK : K = k) (hk : k ≤ 10) (hA : ∀ m, k = m + 1 → AnyOk call 20 m) (c s : Int) :
    ∃ (r : D) (c' s' : Int), runF call x__law_any_value [(bagD c s, true), (.int K, false)] = some (r, false, [.bo (bagD c' s'), .no]) ∧ Nb (k + 1) r := by
  obtain ⟨q, c1, s1, e1, q0, q1⟩ := hT c s 9 (by decide) (by decide)
  by_cases hb : q < 6 ∨ k = 0
  · obtain ⟨x, c2, s2, e2, hx⟩ := hO c1 s1 [.int 0, .int (-1), .int 1, .bool true, .bool false, .none, .str "", .str "s", .str "x", .str "kept", .str "change", .str "job", .str "ask", .int 1000000000000000000000000000000, .tuple [], .list [], .tuple [.str "s"]] false (by simp) (by simp)
    refine ⟨x, c2, s2, ?_, (atom_ok hx).mono (by omega)⟩
    have hl : (13 : Nat) + 4 ≤ LIM := by unfold LIM; omega
    have hp : (10 : Int) ^ 30 = 1000000000000000000000000000000 := by decide
    have e2' := e2
    simp only [Bool.false_eq_true, if_false] at e2'
    by_cases hq : q < 6
    · simp [x__law_any_value, ev.eq_1, ev.eq_2, ev.eq_3, ev.eq_4, ev.eq_5, ev.eq_6, ev.eq_7, ev.eq_8, ev.eq_9, ev.eq_10, ev.eq_11, ev.eq_12, ev.eq_13, ev.eq_14, ev.eq_15, ev.eq_16, ev.eq_17, ev.eq_18, ev.eq_19, ev.eq_20, ev.eq_21, evS.eq_1, evS.eq_2, evS.eq_3, evS.eq_4, evS.eq_5, evS.eq_6, evS.eq_9, evS.eq_10, evS.eq_11, evS.eq_12, evS.eq_13, evS.eq_14, evS.eq_15, runF, envOf, slotA, evSs, opn, fetch, evOs, evs, evOI, evAnd, evOr, evIfs, evRs, fetchAll, opIdx, opCmp, opBin, opBlt, opSlc, opMthK, opMth, opIn, opLt, kindD, isTy, asB, asI, asL, dOk, atI, ixN, setS, asgT, setAll, setPar, setAt, appAt, ownL, popD, calL, slotsOf, distinct, lend, giveBack, isSl, lents, lentS, killS, wipeP, back, itemsOf, e1, hq, LIM, e2']
    · have hk0 : k = 0 := by omega
      subst hk0
      have hK0 : K = 0 := by rw [hK]; rfl
      have pe : pyEq (.int K) (.int 0) = some true := by rw [pyEq_int, hK0]; rfl
      simp [x__law_any_value, ev.eq_1, ev.eq_2, ev.eq_3, ev.eq_4, ev.eq_5, ev.eq_6, ev.eq_7, ev.eq_8, ev.eq_9, ev.eq_10, ev.eq_11, ev.eq_12, ev.eq_13, ev.eq_14, ev.eq_15, ev.eq_16, ev.eq_17, ev.eq_18, ev.eq_19, ev.eq_20, ev.eq_21, evS.eq_1, evS.eq_2, evS.eq_3, evS.eq_4, evS.eq_5, evS.eq_6, evS.eq_9, evS.eq_10, evS.eq_11, evS.eq_12, evS.eq_13, evS.eq_14, evS.eq_15, runF, envOf, slotA, evSs, opn, fetch, evOs, evs, evOI, evAnd, evOr, evIfs, evRs, fetchAll, opIdx, opCmp, opBin, opBlt, opSlc, opMthK, opMth, opIn, opLt, kindD, isTy, asB, asI, asL, dOk, atI, ixN, setS, asgT, setAll, setPar, setAt, appAt, ownL, popD, calL, slotsOf, distinct, lend, giveBack, isSl, lents, lentS, killS, wipeP, back, itemsOf, e1, hq, LIM, e2', pe]
  · have hq : ¬ q < 6 := fun z => hb (.inl z)
    have hk0 : k ≠ 0 := fun z => hb (.inr z)
    obtain ⟨m, rfl⟩ : ∃ m, k = m + 1 := ⟨k - 1, by omega⟩
    obtain ⟨n, c2, s2, e2, n0, n1⟩ := hT c1 s1 5 (by decide) (by decide)
    have pe : pyEq (.int K) (.int 0) = some false := by
      rw [pyEq_int]
      congr 1
      rw [decide_eq_false_iff_not]
      omega
    obtain ⟨ys, ρ', e3, hI, hl, hJ⟩ := lcL_inv (step := fun d ρ => do
      let ρ ← asgT ρ (.nm 5) d false
      let (b, ρ) ← evIfs call [] ρ
      if b then do
        let (y, _, ρ) ← ev call (.cal 20 [.var 0, .bin .sub (.var 1) (.cst (.int 1))] []) ρ
        pure ([y], wipeP ρ [5])
      else pure ([], wipeP ρ [5])) (fun ρ => ∃ c s, ρ = [.bo (bagD c s), .fr (.int K), .fr (.int q), .no, .no, .no]) (Nb (m + 1)) (rngD 0 n) [.bo (bagD c2 s2), .fr (.int K), .fr (.int q), .no, .no, .no] (fun d hd ρ hI => by
        obtain ⟨c, s, rfl⟩ := hI
        obtain ⟨r, c', s', e, hr⟩ := hA m rfl c s
        have em : K - 1 = (m : Int) := by omega
        refine ⟨r, [.bo (bagD c' s'), .fr (.int K), .fr (.int q), .no, .no, .no], ?_, ⟨c', s', rfl⟩, hr⟩
        simp only [asgT, setS, List.getElem?_cons_succ, List.getElem?_cons_zero, Bool.false_eq_true, if_false, Option.bind_eq_bind, Option.bind_some, evIfs, Option.pure_def, if_true, List.set]
        simp only [ev.eq_1, ev.eq_2, ev.eq_3, ev.eq_4, ev.eq_5, ev.eq_6, ev.eq_7, ev.eq_8, ev.eq_9, ev.eq_10, ev.eq_11, ev.eq_12, ev.eq_13, ev.eq_14, ev.eq_15, ev.eq_16, ev.eq_17, ev.eq_18, ev.eq_19, ev.eq_20, ev.eq_21, evS.eq_1, evS.eq_2, evS.eq_3, evS.eq_4, evS.eq_5, evS.eq_6, evS.eq_9, evS.eq_10, evS.eq_11, evS.eq_12, evS.eq_13, evS.eq_14, evS.eq_15, runF, envOf, slotA, evSs, opn, fetch, evOs, evs, evOI, evAnd, evOr, evIfs, evRs, fetchAll, opIdx, opCmp, opBin, opBlt, opSlc, opMthK, opMth, opIn, opLt, kindD, isTy, asB, asI, asL, dOk, atI, ixN, setS, asgT, setAll, setPar, setAt, appAt, ownL, popD, calL, slotsOf, distinct, lend, giveBack, isSl, lents, lentS, killS, wipeP, back, itemsOf, em] at e ⊢
        simp [em, e, ev.eq_1, ev.eq_2, ev.eq_3, ev.eq_4, ev.eq_5, ev.eq_6, ev.eq_7, ev.eq_8, ev.eq_9, ev.eq_10, ev.eq_11, ev.eq_12, ev.eq_13, ev.eq_14, ev.eq_15, ev.eq_16, ev.eq_17, ev.eq_18, ev.eq_19, ev.eq_20, ev.eq_21, evS.eq_1, evS.eq_2, evS.eq_3, evS.eq_4, evS.eq_5, evS.eq_6, evS.eq_9, evS.eq_10, evS.eq_11, evS.eq_12, evS.eq_13, evS.eq_14, evS.eq_15, runF, envOf, slotA, evSs, opn, fetch, evOs, evs, evOI, evAnd, evOr, evIfs, evRs, fetchAll, opIdx, opCmp, opBin, opBlt, opSlc, opMthK, opMth, opIn, opLt, kindD, isTy, asB, asI, asL, dOk, atI, ixN, setS, asgT, setAll, setPar, setAt, appAt, ownL, popD, calL, slotsOf, distinct, lend, giveBack, isSl, lents, lentS, killS, wipeP, back, itemsOf]) ⟨c2, s2, rfl⟩
    obtain ⟨c3, s3, rfl⟩ := hI
    have hn : (rngD 0 n).length ≤ 5 := by simp [rngD]; omega
    have lc : ev call (.lc (.cal 20 [.var 0, .bin .sub (.var 1) (.cst (.int 1))] []) (.nm 5) .rng1 [.cal 13 [.var 0, .cst (.int 5)] []] [] [5]) [.bo (bagD c1 s1), .fr (.int K), .fr (.int q), .no, .no, .no] = _ := ev_lc (ds := [.int n]) (items := rngD 0 n) (ρ1 := [.bo (bagD c2 s2), .fr (.int K), .fr (.int q), .no, .no, .no]) (by simp [ev.eq_1, ev.eq_2, ev.eq_3, ev.eq_4, ev.eq_5, ev.eq_6, ev.eq_7, ev.eq_8, ev.eq_9, ev.eq_10, ev.eq_11, ev.eq_12, ev.eq_13, ev.eq_14, ev.eq_15, ev.eq_16, ev.eq_17, ev.eq_18, ev.eq_19, ev.eq_20, ev.eq_21, evS.eq_1, evS.eq_2, evS.eq_3, evS.eq_4, evS.eq_5, evS.eq_6, evS.eq_9, evS.eq_10, evS.eq_11, evS.eq_12, evS.eq_13, evS.eq_14, evS.eq_15, runF, envOf, slotA, evSs, opn, fetch, evOs, evs, evOI, evAnd, evOr, evIfs, evRs, fetchAll, opIdx, opCmp, opBin, opBlt, opSlc, opMthK, opMth, opIn, opLt, kindD, isTy, asB, asI, asL, dOk, atI, ixN, setS, asgT, setAll, setPar, setAt, appAt, ownL, popD, calL, slotsOf, distinct, lend, giveBack, isSl, lents, lentS, killS, wipeP, back, itemsOf, e2]) (by
      have : smallI n = true := by simp only [smallI, Bool.and_eq_true, decide_eq_true_eq]; omega
      simp [itemsOf, this]) e3 (by rw [hl]; unfold LIM; omega)
    have gy : ys.length ≤ 90 := by omega
    have hc : q = 6 ∨ q = 7 ∨ q = 8 := by omega
    rcases hc with rfl | rfl | rfl
    · refine ⟨.list ys, c3, s3, ?_, gy, hJ⟩
      simp [x__law_any_value, ev.eq_1, ev.eq_2, ev.eq_3, ev.eq_4, ev.eq_5, ev.eq_6, ev.eq_7, ev.eq_8, ev.eq_9, ev.eq_10, ev.eq_11, ev.eq_12, ev.eq_13, ev.eq_14, ev.eq_15, ev.eq_16, ev.eq_17, ev.eq_18, ev.eq_19, ev.eq_20, ev.eq_21, evS.eq_1, evS.eq_2, evS.eq_3, evS.eq_4, evS.eq_5, evS.eq_6, evS.eq_9, evS.eq_10, evS.eq_11, evS.eq_12, evS.eq_13, evS.eq_14, evS.eq_15, runF, envOf, slotA, evSs, opn, fetch, evOs, evs, evOI, evAnd, evOr, evIfs, evRs, fetchAll, opIdx, opCmp, opBin, opBlt, opSlc, opMthK, opMth, opIn, opLt, kindD, isTy, asB, asI, asL, dOk, atI, ixN, setS, asgT, setAll, setPar, setAt, appAt, ownL, popD, calL, slotsOf, distinct, lend, giveBack, isSl, lents, lentS, killS, wipeP, back, itemsOf, e1, pe, lc]
    · refine ⟨.tuple ys, c3, s3, ?_, gy, hJ⟩
      simp [x__law_any_value, ev.eq_1, ev.eq_2, ev.eq_3, ev.eq_4, ev.eq_5, ev.eq_6, ev.eq_7, ev.eq_8, ev.eq_9, ev.eq_10, ev.eq_11, ev.eq_12, ev.eq_13, ev.eq_14, ev.eq_15, ev.eq_16, ev.eq_17, ev.eq_18, ev.eq_19, ev.eq_20, ev.eq_21, evS.eq_1, evS.eq_2, evS.eq_3, evS.eq_4, evS.eq_5, evS.eq_6, evS.eq_9, evS.eq_10, evS.eq_11, evS.eq_12, evS.eq_13, evS.eq_14, evS.eq_15, runF, envOf, slotA, evSs, opn, fetch, evOs, evs, evOI, evAnd, evOr, evIfs, evRs, fetchAll, opIdx, opCmp, opBin, opBlt, opSlc, opMthK, opMth, opIn, opLt, kindD, isTy, asB, asI, asL, dOk, atI, ixN, setS, asgT, setAll, setPar, setAt, appAt, ownL, popD, calL, slotsOf, distinct, lend, giveBack, isSl, lents, lentS, killS, wipeP, back, itemsOf, e1, pe, lc]
    · refine ⟨.tuple ys, c3, s3, ?_, gy, hJ⟩
      simp [x__law_any_value, ev.eq_1, ev.eq_2, ev.eq_3, ev.eq_4, ev.eq_5, ev.eq_6, ev.eq_7, ev.eq_8, ev.eq_9, ev.eq_10, ev.eq_11, ev.eq_12, ev.eq_13, ev.eq_14, ev.eq_15, ev.eq_16, ev.eq_17, ev.eq_18, ev.eq_19, ev.eq_20, ev.eq_21, evS.eq_1, evS.eq_2, evS.eq_3, evS.eq_4, evS.eq_5, evS.eq_6, evS.eq_9, evS.eq_10, evS.eq_11, evS.eq_12, evS.eq_13, evS.eq_14, evS.eq_15, runF, envOf, slotA, evSs, opn, fetch, evOs, evs, evOI, evAnd, evOr, evIfs, evRs, fetchAll, opIdx, opCmp, opBin, opBlt, opSlc, opMthK, opMth, opIn, opLt, kindD, isTy, asB, asI, asL, dOk, atI, ixN, setS, asgT, setAll, setPar, setAt, appAt, ownL, popD, calL, slotsOf, distinct, lend, giveBack, isSl, lents, lentS, killS, wipeP, back, itemsOf, e1, pe, lc]
theorem l_any : ∀ (m k : Nat), m ≤ 10 → AnyOk (callN fs (k + m + 3)) 20 m
  | 0, k, h => fun c s => any_ev (call := callN fs (k + 2)) (l_take (k + 1)) (l_of k) 0 _ rfl h (fun m e => by omega) c s
  | m + 1, k, h => fun c s => by
    have := any_ev (call := callN fs (k + m + 3)) (l_take (k + m + 2)) (l_of (k + m + 1)) (m + 1) _ rfl h (fun m' e => by
      obtain rfl : m' = m := by omega
      exact l_any m' k (by omega)) c s
    exact this
/-! ### spoiled values -/
theorem mul_two (y : D) : (List.replicate 2 [y]).flatten = [y, y] := rfl
theorem cut_all {xs : List D} {r : Int} (h0 : 0 ≤ r) (h1 : r < xs.length) : cut xs none (some r) = xs.take r.toNat ∧ cut xs (some (r + 1)) none = xs.drop (r.toNat + 1) ∧ ∃ y, xs[r.toNat]? = some y ∧ cut xs (some r) (some (r + 1)) = [y] ∧ y ∈ xs := by
  have n1 : ¬ r < 0 := by omega
  have n2 : ¬ r + 1 < 0 := by omega
  have hi : r.toNat < xs.length := by omega
  have e1 : (min r (xs.length : Int)).toNat = r.toNat := by congr 1; omega
  have e2 : (min (r + 1) (xs.length : Int)).toNat = r.toNat + 1 := by
    have : min (r + 1) (xs.length : Int) = r + 1 := by omega
    rw [this]; omega
  refine ⟨cut_to xs h0, ?_, xs[r.toNat], List.getElem?_eq_getElem hi, ?_, List.getElem_mem hi⟩
  · simp only [cut, clip, n2, if_false, e2]
    rw [List.take_of_length_le (by rw [List.length_drop]; omega)]
  · simp only [cut, clip, n1, n2, if_false, e1, e2]
    rw [List.drop_eq_getElem_cons hi, show r.toNat + 1 - r.toNat = 1 by omega]
    rfl
def SpoilOk (call : Call) (i : Nat) (m : Nat) : Prop := ∀ (c s : Int) (d : D), Nb m d → ∃ (r : D) (w : Bool) (c' s' : Int), call i [(bagD c s, true), (d, false)] = some (r, w, [.bo (bagD c' s'), .no]) ∧ Nc (m + 2) r
theorem nb_tup {k : Nat} {ds : List D} (h : Nb (k + 1) (.tuple ds)) : ds.length ≤ 90 ∧ ∀ d ∈ ds, Nb k d := h
theorem runF_rt {call : Call} {f : Fn} {as : List (D × Bool)} {d : D} {w : Bool} {ρ : Pl} {ss : List Slot} (hl : as.length = f.np) (h : evSs call f.body (envOf f as) = some (.rt d w, ρ)) (hs : lents f.np ρ = ss) : runF call f as = some (d, w, ss) := by
  unfold runF
  rw [if_pos hl, h, ← hs]
theorem ife_t {call : Call} {c : X} {a b ss : List S} {ρ ρ1 : Pl} {w : Bool} {d : D} {o : Bool} {ρ2 : Pl} (h1 : ev call c ρ = some (.bool true, w, ρ1)) (h2 : evSs call a ρ1 = some (.rt d o, ρ2)) : evSs call (.ife c a b :: ss) ρ = some (.rt d o, ρ2) := by
  simp only [evSs, evS.eq_6, h1, Option.bind_eq_bind, Option.bind_some, asB, if_true, h2]
theorem ife_f {call : Call} {c : X} {a ss : List S} {ρ ρ1 : Pl} {w : Bool} {r : Option (Fl × Pl)} (h1 : ev call c ρ = some (.bool false, w, ρ1)) (h2 : evSs call ss ρ1 = r) : evSs call (.ife c a [] :: ss) ρ = r := by
  simp only [evSs, evS.eq_6, h1, Option.bind_eq_bind, Option.bind_some, asB, Bool.false_eq_true, if_false, h2]
theorem kind_ne {m : Nat} {d : D} (h : Nb m d) : kindD d ≠ 6 := by
  cases d with
  | dict kvs => exact absurd h (by cases m <;> simp [Nb])
  | _ => simp [kindD]
def SPA : List S := [.asg (.nm 2) (.lst [.cal 20 [.var 0, .cst (.int 1)] [], .lst [.var 1], .tup [.var 1, .var 1]]), .ife (.isi (.var 1) .str) [.asg (.nm 2) (.bin .add (.var 2) (.lst [.bin .add (.var 1) (.cst (.str "a")), .mth .upper (.var 1) [], .cst (.str "x"), .cst (.str "s"), .cst (.str "asked"), .cst (.str "pushed"), .cst (.str "asks")]))] [], .ret (.cal 14 [.var 0, .var 2] [])]
theorem spa_ev {call : Call} (hO : OfOk call 14) (hA : AnyOk call 20 1) (m : Nat) (d : D) (hd : Nb m d) (c1 s1 : Int) :
    ∃ (r : D) (c' s' : Int) (xs : List D), evSs call SPA [.bo (bagD c1 s1), .fr d, .no, .no, .no] = some (.rt r false, [.bo (bagD c' s'), .fr d, .ow (.list xs), .no, .no]) ∧ Nc (m + 2) r := by
  obtain ⟨z, c2, s2, e1, hz⟩ := hA c1 s1
  have e1 : call 20 [(bagD c1 s1, true), (.int 1, false)] = some (z, false, [.bo (bagD c2 s2), .no]) := e1
  have z1 : Nc (m + 2) z := hz.nc.mono (by omega)
  have z2 : Nc (m + 2) (.list [d]) := ⟨by simp, fun x hx => by rw [List.mem_singleton.mp hx]; exact hd.nc.mono (by omega)⟩
  have z3 : Nc (m + 2) (.tuple [d, d]) := ⟨by simp, fun x hx => by
    simp only [List.mem_cons, List.not_mem_nil, or_false, or_self] at hx
    rw [hx]; exact hd.nc.mono (by omega)⟩
  have hk := kind_ne hd
  by_cases hs : ∃ x, d = .str x
  · obtain ⟨x, rfl⟩ := hs
    have hx : x.length ≤ 90 := by cases m <;> exact hd
    have l1 : x.length + Str.length "a" ≤ 16777216 := by
      have : Str.length "a" = 1 := rfl
      rw [this]; omega
    have l2 : x.length ≤ 5592405 := by omega
    have l4 : (3 : Nat) + 7 ≤ LIM := by unfold LIM; omega
    obtain ⟨r, c3, s3, e2, hr⟩ := hO c2 s2 [z, .list [.str x], .tuple [.str x, .str x], .str (x ++ "a"), .str (Txt.upper x), .str "x", .str "s", .str "asked", .str "pushed", .str "asks"] true (by simp) (by simp)
    refine ⟨r, c3, s3, [z, .list [.str x], .tuple [.str x, .str x], .str (x ++ "a"), .str (Txt.upper x), .str "x", .str "s", .str "asked", .str "pushed", .str "asks"], ?_, ?_⟩
    · simp only [if_true] at e2
      simp [SPA, ev.eq_1, ev.eq_2, ev.eq_3, ev.eq_4, ev.eq_5, ev.eq_6, ev.eq_7, ev.eq_8, ev.eq_9, ev.eq_10, ev.eq_11, ev.eq_12, ev.eq_13, ev.eq_14, ev.eq_15, ev.eq_16, ev.eq_17, ev.eq_18, ev.eq_19, ev.eq_20, ev.eq_21, evS.eq_1, evS.eq_2, evS.eq_3, evS.eq_4, evS.eq_5, evS.eq_6, evS.eq_9, evS.eq_10, evS.eq_11, evS.eq_12, evS.eq_13, evS.eq_14, evS.eq_15, runF, envOf, slotA, evSs, opn, fetch, evOs, evs, evOI, evAnd, evOr, evIfs, evRs, fetchAll, opIdx, opCmp, opBin, opBlt, opSlc, opMthK, opMth, opIn, opLt, kindD, isTy, asB, asI, asL, dOk, atI, ixN, setS, asgT, setAll, setPar, setAt, appAt, ownL, popD, calL, slotsOf, distinct, lend, giveBack, isSl, lents, lentS, killS, wipeP, back, itemsOf, e1, l1, l2, l4, LIM, e2]
    · have la : (x ++ ("a" : Str)).length ≤ 300 := by
        have : (x ++ ("a" : Str)).length = x.length + 1 := by show (x.cps ++ _).size = _; rw [Array.size_append]; rfl
        omega
      have lu : (Txt.upper x).length ≤ 300 := by have := PyProof.Rows.len_upper x; omega
      simp only [List.mem_cons, List.not_mem_nil, or_false] at hr
      rcases hr with rfl | rfl | rfl | rfl | rfl | rfl | rfl | rfl | rfl | rfl
      · exact z1
      · exact z2
      · exact z3
      · exact la
      · exact lu
      all_goals (show Str.length _ ≤ 300; decide +kernel)
  · obtain ⟨r, c3, s3, e2, hr⟩ := hO c2 s2 [z, .list [d], .tuple [d, d]] true (by simp) (by simp)
    refine ⟨r, c3, s3, [z, .list [d], .tuple [d, d]], ?_, ?_⟩
    · simp only [if_true] at e2
      have ht : isTy .str d = false := by
        cases d <;> first | rfl | exact absurd ⟨_, rfl⟩ hs
      have ek : ev call (.isi (.var 1) .str) [.bo (bagD c2 s2), .fr d, .ow (.list [z, .list [d], .tuple [d, d]]), .no, .no] = some (.bool false, false, [.bo (bagD c2 s2), .fr d, .ow (.list [z, .list [d], .tuple [d, d]]), .no, .no]) := by
        rw [ev.eq_21]
        simp [opn, fetch, hk, ht]
      refine evSs_cons (ρ1 := [.bo (bagD c2 s2), .fr d, .ow (.list [z, .list [d], .tuple [d, d]]), .no, .no]) ?_ (ife_f ek ?_)
      · simp [ev.eq_1, ev.eq_2, ev.eq_3, ev.eq_4, ev.eq_5, ev.eq_6, ev.eq_7, ev.eq_8, ev.eq_9, ev.eq_10, ev.eq_11, ev.eq_12, ev.eq_13, ev.eq_14, ev.eq_15, ev.eq_16, ev.eq_17, ev.eq_18, ev.eq_19, ev.eq_20, ev.eq_21, evS.eq_1, evS.eq_2, evS.eq_3, evS.eq_4, evS.eq_5, evS.eq_6, evS.eq_9, evS.eq_10, evS.eq_11, evS.eq_12, evS.eq_13, evS.eq_14, evS.eq_15, runF, envOf, slotA, evSs, opn, fetch, evOs, evs, evOI, evAnd, evOr, evIfs, evRs, fetchAll, opIdx, opCmp, opBin, opBlt, opSlc, opMthK, opMth, opIn, opLt, kindD, isTy, asB, asI, asL, dOk, atI, ixN, setS, asgT, setAll, setPar, setAt, appAt, ownL, popD, calL, slotsOf, distinct, lend, giveBack, isSl, lents, lentS, killS, wipeP, back, itemsOf, e1]
      · simp [ev.eq_1, ev.eq_2, ev.eq_3, ev.eq_4, ev.eq_5, ev.eq_6, ev.eq_7, ev.eq_8, ev.eq_9, ev.eq_10, ev.eq_11, ev.eq_12, ev.eq_13, ev.eq_14, ev.eq_15, ev.eq_16, ev.eq_17, ev.eq_18, ev.eq_19, ev.eq_20, ev.eq_21, evS.eq_1, evS.eq_2, evS.eq_3, evS.eq_4, evS.eq_5, evS.eq_6, evS.eq_9, evS.eq_10, evS.eq_11, evS.eq_12, evS.eq_13, evS.eq_14, evS.eq_15, runF, envOf, slotA, evSs, opn, fetch, evOs, evs, evOI, evAnd, evOr, evIfs, evRs, fetchAll, opIdx, opCmp, opBin, opBlt, opSlc, opMthK, opMth, opIn, opLt, kindD, isTy, asB, asI, asL, dOk, atI, ixN, setS, asgT, setAll, setPar, setAt, appAt, ownL, popD, calL, slotsOf, distinct, lend, giveBack, isSl, lents, lentS, killS, wipeP, back, itemsOf, e2]
    · simp only [List.mem_cons, List.not_mem_nil, or_false] at hr
      rcases hr with rfl | rfl | rfl
      · exact z1
      · exact z2
      · exact z3
theorem nc_tup {k : Nat} {ds : List D} (h1 : ds.length ≤ 100) (h2 : ∀ d ∈ ds, Nc k d) : Nc (k + 1) (.tuple ds) := ⟨h1, h2⟩
theorem spoil_ev {call : Call} (hT : TakeOk call 13) (hO : OfOk call 14) (hA : AnyOk call 20 1) (m : Nat) (hm : m ≤ 20) (hS : ∀ k, m = k + 1 → SpoilOk call 21 k) (c s : Int) (d : D) (hd : Nb m d) :
    ∃ (r : D) (w : Bool) (c' s' : Int), runF call x__law_spoiled [(bagD c s, true), (d, false)] = some (r, w, [.bo (bagD c' s'), .no]) ∧ Nc (m + 2) r := by
  have gd : Good d := hd.nc.good (by omega)
  have hk := kind_ne hd
  have fin : ∀ c1 s1 : Int, ev call (.or [.not (.isi (.var 1) .tuple), .cmp .eq (.var 1) (.tup []), .cmp .eq (.cal 13 [.var 0, .cst (.int 6)] []) (.cst (.int 0))]) [.bo (bagD c s), .fr d, .no, .no, .no] = some (.bool true, false, [.bo (bagD c1 s1), .fr d, .no, .no, .no]) → ∃ (r : D) (w : Bool) (c' s' : Int), runF call x__law_spoiled [(bagD c s, true), (d, false)] = some (r, w, [.bo (bagD c' s'), .no]) ∧ Nc (m + 2) r := fun c1 s1 h => by
    obtain ⟨r, c2, s2, xs, e, hr⟩ := spa_ev hO hA m d hd c1 s1
    exact ⟨r, false, c2, s2, runF_rt rfl (ife_t h e) rfl, hr⟩
  by_cases ht : ∃ ds, d = .tuple ds
  · obtain ⟨ds, rfl⟩ := ht
    have pe := pyEq_nilT gd
    cases ds with
    | nil =>
      refine fin c s ?_
      simp [ev.eq_1, ev.eq_2, ev.eq_3, ev.eq_4, ev.eq_5, ev.eq_6, ev.eq_7, ev.eq_8, ev.eq_9, ev.eq_10, ev.eq_11, ev.eq_12, ev.eq_13, ev.eq_14, ev.eq_15, ev.eq_16, ev.eq_17, ev.eq_18, ev.eq_19, ev.eq_20, ev.eq_21, evS.eq_1, evS.eq_2, evS.eq_3, evS.eq_4, evS.eq_5, evS.eq_6, evS.eq_9, evS.eq_10, evS.eq_11, evS.eq_12, evS.eq_13, evS.eq_14, evS.eq_15, runF, envOf, slotA, evSs, opn, fetch, evOs, evs, evOI, evAnd, evOr, evIfs, evRs, fetchAll, opIdx, opCmp, opBin, opBlt, opSlc, opMthK, opMth, opLt, kindD, isTy, asB, asI, asL, dOk, atI, ixN, setS, asgT, setAll, setPar, setAt, appAt, ownL, popD, calL, slotsOf, distinct, lend, giveBack, isSl, lents, lentS, killS, wipeP, back, itemsOf, pe]
    | cons y0 ys0 =>
      obtain ⟨k, rfl⟩ : ∃ k, m = k + 1 := by
        cases m with
        | zero => exact absurd hd (by simp [Nb])
        | succ k => exact ⟨k, rfl⟩
      generalize hds : y0 :: ys0 = ds at *
      have hne : ds.isEmpty = false := by rw [← hds]; rfl
      have hpos : 0 < ds.length := by rw [← hds]; simp
      rw [hne] at pe
      obtain ⟨hl, hb⟩ := nb_tup hd
      obtain ⟨q, c1, s1, e1, q0, q1⟩ := hT c s 6 (by decide) (by decide)
      by_cases hq : q = 0
      · subst hq
        refine fin c1 s1 ?_
        have p0 : pyEq (.int 0) (.int 0) = some true := by rw [pyEq_int]; rfl
        simp [ev.eq_1, ev.eq_2, ev.eq_3, ev.eq_4, ev.eq_5, ev.eq_6, ev.eq_7, ev.eq_8, ev.eq_9, ev.eq_10, ev.eq_11, ev.eq_12, ev.eq_13, ev.eq_14, ev.eq_15, ev.eq_16, ev.eq_17, ev.eq_18, ev.eq_19, ev.eq_20, ev.eq_21, evS.eq_1, evS.eq_2, evS.eq_3, evS.eq_4, evS.eq_5, evS.eq_6, evS.eq_9, evS.eq_10, evS.eq_11, evS.eq_12, evS.eq_13, evS.eq_14, evS.eq_15, runF, envOf, slotA, evSs, opn, fetch, evOs, evs, evOI, evAnd, evOr, evIfs, evRs, fetchAll, opIdx, opCmp, opBin, opBlt, opSlc, opMthK, opMth, opLt, kindD, isTy, asB, asI, asL, dOk, atI, ixN, setS, asgT, setAll, setPar, setAt, appAt, ownL, popD, calL, slotsOf, distinct, lend, giveBack, isSl, lents, lentS, killS, wipeP, back, itemsOf, pe, e1, p0]
      · have p0 : pyEq (.int q) (.int 0) = some false := by rw [pyEq_int]; simp [hq]
        have hc : ev call (.or [.not (.isi (.var 1) .tuple), .cmp .eq (.var 1) (.tup []), .cmp .eq (.cal 13 [.var 0, .cst (.int 6)] []) (.cst (.int 0))]) [.bo (bagD c s), .fr (.tuple ds), .no, .no, .no] = some (.bool false, false, [.bo (bagD c1 s1), .fr (.tuple ds), .no, .no, .no]) := by
          simp [ev.eq_1, ev.eq_2, ev.eq_3, ev.eq_4, ev.eq_5, ev.eq_6, ev.eq_7, ev.eq_8, ev.eq_9, ev.eq_10, ev.eq_11, ev.eq_12, ev.eq_13, ev.eq_14, ev.eq_15, ev.eq_16, ev.eq_17, ev.eq_18, ev.eq_19, ev.eq_20, ev.eq_21, evS.eq_1, evS.eq_2, evS.eq_3, evS.eq_4, evS.eq_5, evS.eq_6, evS.eq_9, evS.eq_10, evS.eq_11, evS.eq_12, evS.eq_13, evS.eq_14, evS.eq_15, runF, envOf, slotA, evSs, opn, fetch, evOs, evs, evOI, evAnd, evOr, evIfs, evRs, fetchAll, opIdx, opCmp, opBin, opBlt, opSlc, opMthK, opMth, opLt, kindD, isTy, asB, asI, asL, dOk, atI, ixN, setS, asgT, setAll, setPar, setAt, appAt, ownL, popD, calL, slotsOf, distinct, lend, giveBack, isSl, lents, lentS, killS, wipeP, back, itemsOf, pe, e1, p0]
        obtain ⟨t, c2, s2, e2, t0, t1⟩ := hT c1 s1 ds.length (by omega) (by omega)
        obtain ⟨v, c3, s3, e3, v0, v1⟩ := hT c2 s2 7 (by decide) (by decide)
        obtain ⟨k1, k2, y, k3, k4, k5⟩ := cut_all t0 t1
        have z4 : ∀ d ∈ ds, Nc (k + 2) d := fun d hd' => (hb d hd').nc.mono (by omega)
        have tk : ∀ d ∈ ds.take t.toNat, Nc (k + 2) d := fun d h => z4 d (List.mem_of_mem_take h)
        have dr : ∀ d ∈ ds.drop (t.toNat + 1), Nc (k + 2) d := fun d h => z4 d (List.mem_of_mem_drop h)
        have lt : (ds.take t.toNat).length ≤ 90 := by rw [List.length_take]; omega
        have ld : (ds.drop (t.toNat + 1)).length ≤ 90 := by rw [List.length_drop]; omega
        have ldt : (ds.take t.toNat).length + (ds.drop (t.toNat + 1)).length ≤ 90 := by rw [List.length_take, List.length_drop]; omega
        have la : (ds.take t.toNat).length + (ds.drop (t.toNat + 1)).length ≤ LIM := by unfold LIM; omega
        have pv : ∀ j : Int, pyEq (.int v) (.int j) = some (decide (v = j)) := fun j => pyEq_int v j
        have done : ∀ (r : D) (w : Bool) (c' s' : Int), evSs call [.par [3, 4] [.cal 13 [.var 0, .blt .len [.var 1]] [], .cal 13 [.var 0, .cst (.int 7)] []], .ife (.cmp .eq (.var 4) (.cst (.int 0))) [.ret (.bin .add (.slc (.var 1) none (some (.var 3))) (.slc (.var 1) (some (.bin .add (.var 3) (.cst (.int 1)))) none))] [], .ife (.cmp .eq (.var 4) (.cst (.int 1))) [.ret (.bin .add (.bin .add (.slc (.var 1) none (some (.var 3))) (.bin .mul (.slc (.var 1) (some (.var 3)) (some (.bin .add (.var 3) (.cst (.int 1))))) (.cst (.int 2)))) (.slc (.var 1) (some (.bin .add (.var 3) (.cst (.int 1)))) none))] [], .ife (.cmp .eq (.var 4) (.cst (.int 2))) [.ret (.rev (.var 1))] [], .ife (.cmp .eq (.var 4) (.cst (.int 3))) [.ret (.blt .list [.var 1])] [], .ret (.bin .add (.bin .add (.slc (.var 1) none (some (.var 3))) (.tup [.cal 21 [.var 0, .idx (.var 1) (.var 3)] []])) (.slc (.var 1) (some (.bin .add (.var 3) (.cst (.int 1)))) none))] [.bo (bagD c1 s1), .fr (.tuple ds), .no, .no, .no] = some (.rt r w, [.bo (bagD c' s'), .fr (.tuple ds), .no, .fr (.int t), .fr (.int v)]) → Nc (k + 1 + 2) r → ∃ (r : D) (w : Bool) (c' s' : Int), runF call x__law_spoiled [(bagD c s, true), (.tuple ds, false)] = some (r, w, [.bo (bagD c' s'), .no]) ∧ Nc (k + 1 + 2) r := fun r w c' s' e hr => ⟨r, w, c', s', runF_rt rfl (ife_f hc e) rfl, hr⟩
        generalize ds.take t.toNat = A at *
        generalize ds.drop (t.toNat + 1) = B at *
        have hv : v = 0 ∨ v = 1 ∨ v = 2 ∨ v = 3 ∨ (v ≠ 0 ∧ v ≠ 1 ∧ v ≠ 2 ∧ v ≠ 3) := by omega
        rcases hv with rfl | rfl | rfl | rfl | ⟨n0, n1, n2, n3⟩
        · refine done (.tuple (A ++ B)) false c3 s3 ?_ (nc_tup (by rw [List.length_append]; omega) fun d h => ?_)
          · simp [ev.eq_1, ev.eq_2, ev.eq_3, ev.eq_4, ev.eq_5, ev.eq_6, ev.eq_7, ev.eq_8, ev.eq_9, ev.eq_10, ev.eq_11, ev.eq_12, ev.eq_13, ev.eq_14, ev.eq_15, ev.eq_16, ev.eq_17, ev.eq_18, ev.eq_19, ev.eq_20, ev.eq_21, evS.eq_1, evS.eq_2, evS.eq_3, evS.eq_4, evS.eq_5, evS.eq_6, evS.eq_9, evS.eq_10, evS.eq_11, evS.eq_12, evS.eq_13, evS.eq_14, evS.eq_15, runF, envOf, slotA, evSs, opn, fetch, evOs, evs, evOI, evAnd, evOr, evIfs, evRs, fetchAll, opIdx, opCmp, opBin, opBlt, opSlc, opMthK, opMth, opLt, kindD, isTy, asB, asI, asL, dOk, atI, ixN, setS, asgT, setAll, setPar, setAt, appAt, ownL, popD, calL, slotsOf, distinct, lend, giveBack, isSl, lents, lentS, killS, wipeP, back, itemsOf, e2, e3, pv, k1, k2, la]
          · rcases List.mem_append.mp h with h | h
            · exact tk d h
            · exact dr d h
        · have l2 : (A).length + 2 ≤ LIM := by unfold LIM; omega
          have l3 : (A).length + 2 + (B).length ≤ LIM := by unfold LIM; omega
          refine done (.tuple (A ++ [y, y] ++ B)) false c3 s3 ?_ (nc_tup (by simp only [List.length_append, List.length_cons, List.length_nil]; omega) fun d h => ?_)
          · have s2' : smallI 2 = true := by decide
            simp [ev.eq_1, ev.eq_2, ev.eq_3, ev.eq_4, ev.eq_5, ev.eq_6, ev.eq_7, ev.eq_8, ev.eq_9, ev.eq_10, ev.eq_11, ev.eq_12, ev.eq_13, ev.eq_14, ev.eq_15, ev.eq_16, ev.eq_17, ev.eq_18, ev.eq_19, ev.eq_20, ev.eq_21, evS.eq_1, evS.eq_2, evS.eq_3, evS.eq_4, evS.eq_5, evS.eq_6, evS.eq_9, evS.eq_10, evS.eq_11, evS.eq_12, evS.eq_13, evS.eq_14, evS.eq_15, runF, envOf, slotA, evSs, opn, fetch, evOs, evs, evOI, evAnd, evOr, evIfs, evRs, fetchAll, opIdx, opCmp, opBin, opBlt, opSlc, opMthK, opMth, opLt, kindD, isTy, asB, asI, asL, dOk, atI, ixN, setS, asgT, setAll, setPar, setAt, appAt, ownL, popD, calL, slotsOf, distinct, lend, giveBack, isSl, lents, lentS, killS, wipeP, back, itemsOf, e2, e3, pv, k1, k2, k4, l2, l3, s2', mul_two]
          · simp only [List.mem_append, List.mem_cons, List.not_mem_nil, or_false, or_self] at h
            rcases h with (h | h) | h
            · exact tk d h
            · rw [h]; exact z4 y k5
            · exact dr d h
        · refine done (.tuple ds.reverse) false c3 s3 ?_ (nc_tup (by rw [List.length_reverse]; omega) fun d h => z4 d (List.mem_reverse.mp h))
          simp [ev.eq_1, ev.eq_2, ev.eq_3, ev.eq_4, ev.eq_5, ev.eq_6, ev.eq_7, ev.eq_8, ev.eq_9, ev.eq_10, ev.eq_11, ev.eq_12, ev.eq_13, ev.eq_14, ev.eq_15, ev.eq_16, ev.eq_17, ev.eq_18, ev.eq_19, ev.eq_20, ev.eq_21, evS.eq_1, evS.eq_2, evS.eq_3, evS.eq_4, evS.eq_5, evS.eq_6, evS.eq_9, evS.eq_10, evS.eq_11, evS.eq_12, evS.eq_13, evS.eq_14, evS.eq_15, runF, envOf, slotA, evSs, opn, fetch, evOs, evs, evOI, evAnd, evOr, evIfs, evRs, fetchAll, opIdx, opCmp, opBin, opBlt, opSlc, opMthK, opMth, opLt, kindD, isTy, asB, asI, asL, dOk, atI, ixN, setS, asgT, setAll, setPar, setAt, appAt, ownL, popD, calL, slotsOf, distinct, lend, giveBack, isSl, lents, lentS, killS, wipeP, back, itemsOf, e2, e3, pv]
        · refine done (.list ds) true c3 s3 ?_ ⟨by omega, z4⟩
          simp [ev.eq_1, ev.eq_2, ev.eq_3, ev.eq_4, ev.eq_5, ev.eq_6, ev.eq_7, ev.eq_8, ev.eq_9, ev.eq_10, ev.eq_11, ev.eq_12, ev.eq_13, ev.eq_14, ev.eq_15, ev.eq_16, ev.eq_17, ev.eq_18, ev.eq_19, ev.eq_20, ev.eq_21, evS.eq_1, evS.eq_2, evS.eq_3, evS.eq_4, evS.eq_5, evS.eq_6, evS.eq_9, evS.eq_10, evS.eq_11, evS.eq_12, evS.eq_13, evS.eq_14, evS.eq_15, runF, envOf, slotA, evSs, opn, fetch, evOs, evs, evOI, evAnd, evOr, evIfs, evRs, fetchAll, opIdx, opCmp, opBin, opBlt, opSlc, opMthK, opMth, opLt, kindD, isTy, asB, asI, asL, dOk, atI, ixN, setS, asgT, setAll, setPar, setAt, appAt, ownL, popD, calL, slotsOf, distinct, lend, giveBack, isSl, lents, lentS, killS, wipeP, back, itemsOf, e2, e3, pv]
        · obtain ⟨r, w, c4, s4, e4, hr⟩ := hS k rfl c3 s3 y (hb y k5)
          have l2 : (A).length + 1 ≤ LIM := by unfold LIM; omega
          have l3 : (A).length + 1 + (B).length ≤ LIM := by unfold LIM; omega
          refine done (.tuple (A ++ [r] ++ B)) false c4 s4 ?_ (nc_tup (by simp only [List.length_append, List.length_cons, List.length_nil]; omega) fun d h => ?_)
          · have ix : ixN ds.length t = some t.toNat := by unfold ixN; rw [if_pos t0, if_pos t1]
            simp only [ixN] at ix
            simp [ev.eq_1, ev.eq_2, ev.eq_3, ev.eq_4, ev.eq_5, ev.eq_6, ev.eq_7, ev.eq_8, ev.eq_9, ev.eq_10, ev.eq_11, ev.eq_12, ev.eq_13, ev.eq_14, ev.eq_15, ev.eq_16, ev.eq_17, ev.eq_18, ev.eq_19, ev.eq_20, ev.eq_21, evS.eq_1, evS.eq_2, evS.eq_3, evS.eq_4, evS.eq_5, evS.eq_6, evS.eq_9, evS.eq_10, evS.eq_11, evS.eq_12, evS.eq_13, evS.eq_14, evS.eq_15, runF, envOf, slotA, evSs, opn, fetch, evOs, evs, evOI, evAnd, evOr, evIfs, evRs, fetchAll, opIdx, opCmp, opBin, opBlt, opSlc, opMthK, opMth, opLt, kindD, isTy, asB, asI, asL, dOk, atI, ixN, setS, asgT, setAll, setPar, setAt, appAt, ownL, popD, calL, slotsOf, distinct, lend, giveBack, isSl, lents, lentS, killS, wipeP, back, itemsOf, e2, e3, e4, pv, k1, k2, k3, n0, n1, n2, n3, l2, l3, ix]
          · simp only [List.mem_append, List.mem_singleton] at h
            rcases h with (h | h) | h
            · exact tk d h
            · rw [h]; exact hr
            · exact dr d h
  · refine fin c s ?_
    have h1 : isTy .tuple d = false := by
      cases d <;> first | rfl | exact absurd ⟨_, rfl⟩ ht
    simp [ev.eq_1, ev.eq_2, ev.eq_3, ev.eq_4, ev.eq_5, ev.eq_6, ev.eq_7, ev.eq_8, ev.eq_9, ev.eq_10, ev.eq_11, ev.eq_12, ev.eq_13, ev.eq_14, ev.eq_15, ev.eq_16, ev.eq_17, ev.eq_18, ev.eq_19, ev.eq_20, ev.eq_21, evS.eq_1, evS.eq_2, evS.eq_3, evS.eq_4, evS.eq_5, evS.eq_6, evS.eq_9, evS.eq_10, evS.eq_11, evS.eq_12, evS.eq_13, evS.eq_14, evS.eq_15, runF, envOf, slotA, evSs, opn, fetch, evOs, evs, evOI, evAnd, evOr, evIfs, evRs, fetchAll, opIdx, opCmp, opBin, opBlt, opSlc, opMthK, opMth, opLt, kindD, isTy, asB, asI, asL, dOk, atI, ixN, setS, asgT, setAll, setPar, setAt, appAt, ownL, popD, calL, slotsOf, distinct, lend, giveBack, isSl, lents, lentS, killS, wipeP, back, itemsOf, hk, h1]
    cases d <;> first | exact absurd ⟨_, rfl⟩ ht | exact absurd rfl hk | simp [asB]
theorem l_spoil : ∀ (m k : Nat), m ≤ 20 → SpoilOk (callN fs (k + m + 6)) 21 m
  | 0, k, h => fun c s d hd => spoil_ev (call := callN fs (k + 5)) (l_take (k + 4)) (l_of (k + 3)) (l_any 1 (k + 1) (by decide)) 0 h (fun m e => by omega) c s d hd
  | m + 1, k, h => fun c s d hd => by
    have := spoil_ev (call := callN fs (k + m + 6)) (l_take (k + m + 5)) (l_of (k + m + 4)) (l_any 1 (k + m + 2) (by decide)) (m + 1) h (fun m' e => by
      obtain rfl : m' = m := by omega
      exact l_spoil m' k (by omega)) c s d hd
    exact this
end CL

set_option Elab.async false
set_option linter.all false
set_option maxRecDepth 100000
set_option maxHeartbeats 2000000
namespace CL
open PySem PV
theorem l_lname (k : Nat) : NameE (callN fs (k + 1)) 22 := fun d h => lname_ev (callN fs k) d h
theorem zip_range (xs : List Str) : xs.zip (xs.drop 1) = (List.range (xs.length - 1)).map fun k => (xs.getD k "", xs.getD (k + 1) "") := by
  apply List.ext_getElem
  · simp only [List.length_zip, List.length_drop, List.length_map, List.length_range]; omega
  · intro i h1 h2
    simp only [List.length_map, List.length_range] at h2
    rw [List.getElem_map, List.getElem_zip, List.getElem_range, List.getElem_drop]
    rw [List.getD_eq_getElem?_getD, List.getD_eq_getElem?_getD, List.getElem?_eq_getElem (show i < xs.length by omega), List.getElem?_eq_getElem (show i + 1 < xs.length by omega)]
    simp [Nat.add_comm]
def fallP (xs : List Str) : D → Bool
  | .int i => !strLt (xs.getD (i.toNat - 1) "") (xs.getD i.toNat "")
  | _ => false
theorem rise_eq (xs : List Str) : ((rngD 1 xs.length).filter (fallP xs)).isEmpty = ascS xs := by
  rw [filter_nil]
  unfold rngD ascS
  rw [zip_range, List.all_map, List.all_map]
  have e : ((xs.length : Int) - 1).toNat = xs.length - 1 := by omega
  rw [e]
  congr 1
  funext k
  have h1 : (1 + (k : Int)).toNat = k + 1 := by omega
  simp [fallP, h1]
theorem txts_atI {xs : List Str} {i : Int} (h0 : 0 ≤ i) (h1 : i < xs.length) : atI (txts xs) i = some (.str (xs.getD i.toNat "")) := by
  have hi : i.toNat < xs.length := by omega
  simp only [atI, ixN, h0, if_true, txts_len, h1, Option.bind_some]
  rw [txts, List.getElem?_map, List.getElem?_eq_getElem hi, List.getD_eq_getElem?_getD, List.getElem?_eq_getElem hi]
  rfl
theorem rng2_get {n : Int} {d : D} (h : d ∈ rngD 1 n) : ∃ i : Int, d = .int i ∧ 1 ≤ i ∧ i < n := by
  unfold rngD at h
  obtain ⟨k, hk, rfl⟩ := List.mem_map.mp h
  have := List.mem_range.mp hk
  exact ⟨1 + k, rfl, by omega, by omega⟩
theorem rng_good {n : Int} {d : D} (h : d ∈ rngD 1 n) : Good d := by
  obtain ⟨i, rfl, _⟩ := rng2_get h
  exact trivial
theorem rise_t2 (call : Call) (xs : List Str) (hl : xs.length ≤ 100) (a b : Int) : ev call (.lc (.var 4) (.nm 4) .rng2 [.cst (.int 1), .blt .len [.var 0]] [.cmp .le (.idx (.var 0) (.var 4)) (.idx (.var 0) (.bin .sub (.var 4) (.cst (.int 1))))] [4]) [.fr (.tuple (txts xs)), .fr (.int a), .fr (.int b), .no, .no] = some (.list ((rngD 1 xs.length).filter (fallP xs)), true, [.fr (.tuple (txts xs)), .fr (.int a), .fr (.int b), .no, .no]) := by
  have hs : smallI (xs.length : Int) = true := by simp only [smallI, Bool.and_eq_true, decide_eq_true_eq]; omega
  have hL : (rngD 1 xs.length).length ≤ LIM := by
    have : (rngD 1 xs.length).length ≤ 100 := by simp [rngD]; omega
    exact goodL this
  have t2 := ev_lcF (call := call) (e := .var 4) (c := .cmp .le (.idx (.var 0) (.var 4)) (.idx (.var 0) (.bin .sub (.var 4) (.cst (.int 1))))) (f := id) (p := fallP xs) (tg := .nm 4) (k := .rng2) (its := [.cst (.int 1), .blt .len [.var 0]]) (own := [4]) (ρ := [.fr (.tuple (txts xs)), .fr (.int a), .fr (.int b), .no, .no]) (ρ1 := [.fr (.tuple (txts xs)), .fr (.int a), .fr (.int b), .no, .no]) (ds := [.int 1, .int xs.length]) (items := rngD 1 xs.length) (by simp [ev.eq_1, ev.eq_2, ev.eq_3, ev.eq_4, ev.eq_5, ev.eq_6, ev.eq_7, ev.eq_8, ev.eq_9, ev.eq_10, ev.eq_11, ev.eq_12, ev.eq_13, ev.eq_14, ev.eq_15, ev.eq_16, ev.eq_17, ev.eq_18, ev.eq_19, ev.eq_20, ev.eq_21, evS.eq_1, evS.eq_2, evS.eq_3, evS.eq_4, evS.eq_5, evS.eq_6, evS.eq_9, evS.eq_10, evS.eq_11, evS.eq_12, evS.eq_13, evS.eq_14, evS.eq_15, runF, envOf, slotA, evSs, opn, fetch, evOs, evs, evOI, evAnd, evOr, evIfs, evRs, fetchAll, opIdx, opCmp, opBin, opBlt, opSlc, opMthK, opMth, opLt, kindD, isTy, asB, asI, asL, dOk, atI, ixN, setS, asgT, setAll, setPar, setAt, appAt, ownL, popD, calL, slotsOf, distinct, lend, giveBack, isSl, lents, lentS, killS, wipeP, back, itemsOf, txts_len]) (by
    simp only [itemsOf, hs, show smallI 1 = true from by decide, Bool.and_self, if_true]) (fun z hz => by
    obtain ⟨i, rfl, i1, i2⟩ := rng2_get hz
    refine ⟨[.fr (.tuple (txts xs)), .fr (.int a), .fr (.int b), .no, .fr (.int i)], [.fr (.tuple (txts xs)), .fr (.int a), .fr (.int b), .no, .fr (.int i)], false, rfl, ?_, rfl, fun _ => ⟨[.fr (.tuple (txts xs)), .fr (.int a), .fr (.int b), .no, .fr (.int i)], false, ?_, rfl⟩⟩
    · have a1 := txts_atI (xs := xs) (i := i) (by omega) i2
      have a2 := txts_atI (xs := xs) (i := i - 1) (by omega) (by omega)
      have e3 : (i - 1).toNat = i.toNat - 1 := by omega
      rw [e3] at a2
      simp only [ev.eq_4, ev.eq_13, ev.eq_3, ev.eq_1, opn, List.getElem?_cons_succ, List.getElem?_cons_zero, Option.bind_eq_bind, Option.bind_some, fetch, opIdx, a1, a2, opBin, opCmp, Option.pure_def, fallP]
    · simp [ev.eq_1, ev.eq_2, ev.eq_3, ev.eq_4, ev.eq_5, ev.eq_6, ev.eq_7, ev.eq_8, ev.eq_9, ev.eq_10, ev.eq_11, ev.eq_12, ev.eq_13, ev.eq_14, ev.eq_15, ev.eq_16, ev.eq_17, ev.eq_18, ev.eq_19, ev.eq_20, ev.eq_21, evS.eq_1, evS.eq_2, evS.eq_3, evS.eq_4, evS.eq_5, evS.eq_6, evS.eq_9, evS.eq_10, evS.eq_11, evS.eq_12, evS.eq_13, evS.eq_14, evS.eq_15, runF, envOf, slotA, evSs, opn, fetch, evOs, evs, evOI, evAnd, evOr, evIfs, evRs, fetchAll, opIdx, opCmp, opBin, opBlt, opSlc, opMthK, opMth, opLt, kindD, isTy, asB, asI, asL, dOk, atI, ixN, setS, asgT, setAll, setPar, setAt, appAt, ownL, popD, calL, slotsOf, distinct, lend, giveBack, isSl, lents, lentS, killS, wipeP, back, itemsOf]) hL
  rw [List.map_id] at t2
  exact t2
theorem rise_t1 {call : Call} (hN : NameE call 22) (ds : List D) (hl : ds.length ≤ 100) (hg : ∀ d ∈ ds, Good d) (a b : Int) : ev call (.lc (.var 3) (.nm 3) .seq [.var 0] [.not (.cal 22 [.var 3] [])] [3]) [.fr (.tuple ds), .fr (.int a), .fr (.int b), .no, .no] = some (.list (ds.filter fun d => !nameB d), true, [.fr (.tuple ds), .fr (.int a), .fr (.int b), .no, .no]) := by
  have t := ev_lcF (call := call) (e := .var 3) (c := .not (.cal 22 [.var 3] [])) (f := id) (p := fun d => !nameB d) (tg := .nm 3) (k := .seq) (its := [.var 0]) (own := [3]) (ρ := [.fr (.tuple ds), .fr (.int a), .fr (.int b), .no, .no]) (ρ1 := [.fr (.tuple ds), .fr (.int a), .fr (.int b), .no, .no]) (ds := [.tuple ds]) (items := ds) (by simp [ev.eq_1, ev.eq_2, ev.eq_3, ev.eq_4, ev.eq_5, ev.eq_6, ev.eq_7, ev.eq_8, ev.eq_9, ev.eq_10, ev.eq_11, ev.eq_12, ev.eq_13, ev.eq_14, ev.eq_15, ev.eq_16, ev.eq_17, ev.eq_18, ev.eq_19, ev.eq_20, ev.eq_21, evS.eq_1, evS.eq_2, evS.eq_3, evS.eq_4, evS.eq_5, evS.eq_6, evS.eq_9, evS.eq_10, evS.eq_11, evS.eq_12, evS.eq_13, evS.eq_14, evS.eq_15, runF, envOf, slotA, evSs, opn, fetch, evOs, evs, evOI, evAnd, evOr, evIfs, evRs, fetchAll, opIdx, opCmp, opBin, opBlt, opSlc, opMthK, opMth, opLt, kindD, isTy, asB, asI, asL, dOk, atI, ixN, setS, asgT, setAll, setPar, setAt, appAt, ownL, popD, calL, slotsOf, distinct, lend, giveBack, isSl, lents, lentS, killS, wipeP, back, itemsOf]) rfl (fun z hz => by
    refine ⟨[.fr (.tuple ds), .fr (.int a), .fr (.int b), .fr z, .no], [.fr (.tuple ds), .fr (.int a), .fr (.int b), .fr z, .no], false, rfl, ?_, rfl, fun _ => ⟨[.fr (.tuple ds), .fr (.int a), .fr (.int b), .fr z, .no], false, ?_, rfl⟩⟩
    · simp [ev.eq_1, ev.eq_2, ev.eq_3, ev.eq_4, ev.eq_5, ev.eq_6, ev.eq_7, ev.eq_8, ev.eq_9, ev.eq_10, ev.eq_11, ev.eq_12, ev.eq_13, ev.eq_14, ev.eq_15, ev.eq_16, ev.eq_17, ev.eq_18, ev.eq_19, ev.eq_20, ev.eq_21, evS.eq_1, evS.eq_2, evS.eq_3, evS.eq_4, evS.eq_5, evS.eq_6, evS.eq_9, evS.eq_10, evS.eq_11, evS.eq_12, evS.eq_13, evS.eq_14, evS.eq_15, runF, envOf, slotA, evSs, opn, fetch, evOs, evs, evOI, evAnd, evOr, evIfs, evRs, fetchAll, opIdx, opCmp, opBin, opBlt, opSlc, opMthK, opMth, opLt, kindD, isTy, asB, asI, asL, dOk, atI, ixN, setS, asgT, setAll, setPar, setAt, appAt, ownL, popD, calL, slotsOf, distinct, lend, giveBack, isSl, lents, lentS, killS, wipeP, back, itemsOf, hN z (hg z hz)]
    · simp [ev.eq_1, ev.eq_2, ev.eq_3, ev.eq_4, ev.eq_5, ev.eq_6, ev.eq_7, ev.eq_8, ev.eq_9, ev.eq_10, ev.eq_11, ev.eq_12, ev.eq_13, ev.eq_14, ev.eq_15, ev.eq_16, ev.eq_17, ev.eq_18, ev.eq_19, ev.eq_20, ev.eq_21, evS.eq_1, evS.eq_2, evS.eq_3, evS.eq_4, evS.eq_5, evS.eq_6, evS.eq_9, evS.eq_10, evS.eq_11, evS.eq_12, evS.eq_13, evS.eq_14, evS.eq_15, runF, envOf, slotA, evSs, opn, fetch, evOs, evs, evOI, evAnd, evOr, evIfs, evRs, fetchAll, opIdx, opCmp, opBin, opBlt, opSlc, opMthK, opMth, opLt, kindD, isTy, asB, asI, asL, dOk, atI, ixN, setS, asgT, setAll, setPar, setAt, appAt, ownL, popD, calL, slotsOf, distinct, lend, giveBack, isSl, lents, lentS, killS, wipeP, back, itemsOf]) (goodL hl)
  rw [List.map_id] at t
  exact t
theorem rise_1 (call : Call) (ds : List D) (a b : Int) (h : ¬ (a ≤ ds.length ∧ (ds.length : Int) ≤ b)) : ev call (.or [.not (.isi (.var 0) .tuple), .not (.chain .le .le (.var 1) (.blt .len [.var 0]) (.var 2))]) [.fr (.tuple ds), .fr (.int a), .fr (.int b), .no, .no] = some (.bool true, false, [.fr (.tuple ds), .fr (.int a), .fr (.int b), .no, .no]) := by
  by_cases h1 : a ≤ ds.length
  · have h2 : ¬ (ds.length : Int) ≤ b := fun z => h ⟨h1, z⟩
    simp [ev.eq_1, ev.eq_2, ev.eq_3, ev.eq_4, ev.eq_5, ev.eq_6, ev.eq_7, ev.eq_8, ev.eq_9, ev.eq_10, ev.eq_11, ev.eq_12, ev.eq_13, ev.eq_14, ev.eq_15, ev.eq_16, ev.eq_17, ev.eq_18, ev.eq_19, ev.eq_20, ev.eq_21, evS.eq_1, evS.eq_2, evS.eq_3, evS.eq_4, evS.eq_5, evS.eq_6, evS.eq_9, evS.eq_10, evS.eq_11, evS.eq_12, evS.eq_13, evS.eq_14, evS.eq_15, runF, envOf, slotA, evSs, opn, fetch, evOs, evs, evOI, evAnd, evOr, evIfs, evRs, fetchAll, opIdx, opCmp, opBin, opBlt, opSlc, opMthK, opMth, opLt, kindD, isTy, asB, asI, asL, dOk, atI, ixN, setS, asgT, setAll, setPar, setAt, appAt, ownL, popD, calL, slotsOf, distinct, lend, giveBack, isSl, lents, lentS, killS, wipeP, back, itemsOf, h1, h2]
  · simp [ev.eq_1, ev.eq_2, ev.eq_3, ev.eq_4, ev.eq_5, ev.eq_6, ev.eq_7, ev.eq_8, ev.eq_9, ev.eq_10, ev.eq_11, ev.eq_12, ev.eq_13, ev.eq_14, ev.eq_15, ev.eq_16, ev.eq_17, ev.eq_18, ev.eq_19, ev.eq_20, ev.eq_21, evS.eq_1, evS.eq_2, evS.eq_3, evS.eq_4, evS.eq_5, evS.eq_6, evS.eq_9, evS.eq_10, evS.eq_11, evS.eq_12, evS.eq_13, evS.eq_14, evS.eq_15, runF, envOf, slotA, evSs, opn, fetch, evOs, evs, evOI, evAnd, evOr, evIfs, evRs, fetchAll, opIdx, opCmp, opBin, opBlt, opSlc, opMthK, opMth, opLt, kindD, isTy, asB, asI, asL, dOk, atI, ixN, setS, asgT, setAll, setPar, setAt, appAt, ownL, popD, calL, slotsOf, distinct, lend, giveBack, isSl, lents, lentS, killS, wipeP, back, itemsOf, h1]
theorem rise_2 (call : Call) (ds : List D) (a b : Int) (h1 : a ≤ ds.length) (h2 : (ds.length : Int) ≤ b) : ev call (.or [.not (.isi (.var 0) .tuple), .not (.chain .le .le (.var 1) (.blt .len [.var 0]) (.var 2))]) [.fr (.tuple ds), .fr (.int a), .fr (.int b), .no, .no] = some (.bool false, false, [.fr (.tuple ds), .fr (.int a), .fr (.int b), .no, .no]) := by
  simp [ev.eq_1, ev.eq_2, ev.eq_3, ev.eq_4, ev.eq_5, ev.eq_6, ev.eq_7, ev.eq_8, ev.eq_9, ev.eq_10, ev.eq_11, ev.eq_12, ev.eq_13, ev.eq_14, ev.eq_15, ev.eq_16, ev.eq_17, ev.eq_18, ev.eq_19, ev.eq_20, ev.eq_21, evS.eq_1, evS.eq_2, evS.eq_3, evS.eq_4, evS.eq_5, evS.eq_6, evS.eq_9, evS.eq_10, evS.eq_11, evS.eq_12, evS.eq_13, evS.eq_14, evS.eq_15, runF, envOf, slotA, evSs, opn, fetch, evOs, evs, evOI, evAnd, evOr, evIfs, evRs, fetchAll, opIdx, opCmp, opBin, opBlt, opSlc, opMthK, opMth, opLt, kindD, isTy, asB, asI, asL, dOk, atI, ixN, setS, asgT, setAll, setPar, setAt, appAt, ownL, popD, calL, slotsOf, distinct, lend, giveBack, isSl, lents, lentS, killS, wipeP, back, itemsOf, h1, h2]
theorem rise_3 {call : Call} {ds : List D} {a b : Int} {X : X} {zs : List D} {ρ : Pl} {t : Bool} (h : ev call X ρ = some (.list zs, true, ρ)) (nv : ∀ i, X ≠ .var i) (q : pyEq (.list zs) (.list []) = some t) : ev call (.cmp .eq X (.lst [])) ρ = some (.bool t, false, ρ) ∧ ev call (.cmp .ne X (.lst [])) ρ = some (.bool (!t), false, ρ) := by
  have ho : opn X (ev call X) ρ = some (.dv (.list zs), ρ) := by
    cases X <;> first | exact absurd rfl (nv _) | simp [opn, h]
  constructor
  · simp only [ev.eq_4, ho, Option.bind_eq_bind, Option.bind_some]
    simp [opn, ev.eq_11, evs, fetch, opCmp, q]
  · simp only [ev.eq_4, ho, Option.bind_eq_bind, Option.bind_some]
    simp [opn, ev.eq_11, evs, fetch, opCmp, q]
theorem ret_cst (call : Call) (d : D) (ρ : Pl) : evSs call [.ret (.cst d)] ρ = some (.rt d false, ρ) := by simp [ev.eq_1, ev.eq_2, ev.eq_3, ev.eq_4, ev.eq_5, ev.eq_6, ev.eq_7, ev.eq_8, ev.eq_9, ev.eq_10, ev.eq_11, ev.eq_12, ev.eq_13, ev.eq_14, ev.eq_15, ev.eq_16, ev.eq_17, ev.eq_18, ev.eq_19, ev.eq_20, ev.eq_21, evS.eq_1, evS.eq_2, evS.eq_3, evS.eq_4, evS.eq_5, evS.eq_6, evS.eq_9, evS.eq_10, evS.eq_11, evS.eq_12, evS.eq_13, evS.eq_14, evS.eq_15, runF, envOf, slotA, evSs, opn, fetch, evOs, evs, evOI, evAnd, evOr, evIfs, evRs, fetchAll, opIdx, opCmp, opBin, opBlt, opSlc, opMthK, opMth, opLt, kindD, isTy, asB, asI, asL, dOk, atI, ixN, setS, asgT, setAll, setPar, setAt, appAt, ownL, popD, calL, slotsOf, distinct, lend, giveBack, isSl, lents, lentS, killS, wipeP, back, itemsOf]
theorem ret_ev {call : Call} {Y : X} {ρ ρ1 : Pl} {d : D} {w : Bool} (nv : ∀ i, Y ≠ .var i) (h : ev call Y ρ = some (d, w, ρ1)) : evSs call [.ret Y] ρ = some (.rt d w, ρ1) := by
  have e : evS call (.ret Y) ρ = some (.rt d w, ρ1) := by
    cases Y <;> first | exact absurd rfl (nv _) | (rw [evS.eq_10 _ _ _ (fun i z => by cases z), h]; rfl)
  simp only [evSs, e]
theorem rise_ev {call : Call} (hN : NameE call 22) (d : D) (hd : Good d) (a b : Int) : runF call x__law_rising [(d, false), (.int a, false), (.int b, false)] = some (.bool (namesB d a b), false, [.no, .no, .no]) := by
  cases d with
  | tuple ds =>
    obtain ⟨hl, hg⟩ := hd.tup
    by_cases h12 : a ≤ ds.length ∧ (ds.length : Int) ≤ b
    · have hr : rowB (.tuple ds) a b = true := by simp [rowB, h12.1, h12.2]
      have q : pyEq (.list (ds.filter fun d => !nameB d)) (.list []) = some (ds.all nameB) := by
        rw [pyEq_nil fun z hz => hg z (List.mem_filter.mp hz).1, filter_nil]
        simp
      have t := (rise_3 (ds := ds) (a := a) (b := b) (rise_t1 hN ds hl hg a b) (fun _ z => by cases z) q).2
      cases hn : ds.all nameB with
      | false =>
        rw [hn] at t
        have e : namesB (.tuple ds) a b = false := by unfold namesB; rw [hr]; show (true && (ds.all nameB && _)) = false; rw [hn]; rfl
        rw [e]
        exact runF_rt rfl (ife_f (rise_2 call ds a b h12.1 h12.2) (ife_t t (ret_cst _ _ _))) rfl
      | true =>
        rw [hn] at t
        have e : namesB (.tuple ds) a b = ascS (strsOf ds) := by unfold namesB; rw [hr]; show (true && (ds.all nameB && _)) = _; rw [hn]; rfl
        rw [e]
        have en := names_txts hn
        have hx : (strsOf ds).length ≤ 100 := by rw [← txts_len, ← en]; exact hl
        have t2 := rise_t2 call (strsOf ds) hx a b
        rw [← en] at t2
        have q2 : pyEq (.list ((rngD 1 (strsOf ds).length).filter (fallP (strsOf ds)))) (.list []) = some (ascS (strsOf ds)) := by
          rw [pyEq_nil fun z hz => rng_good (List.mem_filter.mp hz).1, rise_eq]
        have t3 := (rise_3 (ds := ds) (a := a) (b := b) t2 (fun _ z => by cases z) q2).1
        refine runF_rt (ρ := [.fr (.tuple ds), .fr (.int a), .fr (.int b), .no, .no]) rfl (ife_f (rise_2 call ds a b h12.1 h12.2) (ife_f t ?_)) rfl
        · exact ret_ev (fun i z => by cases z) t3
    · have hr : rowB (.tuple ds) a b = false := by
        cases hq : rowB (.tuple ds) a b with
        | false => rfl
        | true =>
          obtain ⟨_, e, z⟩ := row_tup hq
          cases e
          exact absurd z h12
      have e : namesB (.tuple ds) a b = false := by unfold namesB; rw [hr]; rfl
      rw [e]
      exact runF_rt rfl (ife_t (rise_1 call ds a b h12) (ret_cst _ _ _)) rfl
  | dict kvs => exact absurd hd (by simp [Good, Nc])
  | _ => simp [x__law_rising, ev.eq_1, ev.eq_2, ev.eq_3, ev.eq_4, ev.eq_5, ev.eq_6, ev.eq_7, ev.eq_8, ev.eq_9, ev.eq_10, ev.eq_11, ev.eq_12, ev.eq_13, ev.eq_14, ev.eq_15, ev.eq_16, ev.eq_17, ev.eq_18, ev.eq_19, ev.eq_20, ev.eq_21, evS.eq_1, evS.eq_2, evS.eq_3, evS.eq_4, evS.eq_5, evS.eq_6, evS.eq_9, evS.eq_10, evS.eq_11, evS.eq_12, evS.eq_13, evS.eq_14, evS.eq_15, runF, envOf, slotA, evSs, opn, fetch, evOs, evs, evOI, evAnd, evOr, evIfs, evRs, fetchAll, opIdx, opCmp, opBin, opBlt, opSlc, opMthK, opMth, opLt, kindD, isTy, asB, asI, asL, dOk, atI, ixN, setS, asgT, setAll, setPar, setAt, appAt, ownL, popD, calL, slotsOf, distinct, lend, giveBack, isSl, lents, lentS, killS, wipeP, back, itemsOf, namesB, rowB]
theorem l_rise (k : Nat) : AreE (callN fs (k + 2)) 23 := fun d h a b => rise_ev (l_lname k) d h a b
end CL

set_option Elab.async false
set_option linter.all false
set_option maxRecDepth 100000
set_option maxHeartbeats 2000000
namespace CL
open PySem PV
/-! things -/
def tStep (call : Call) : D → Pl → Option (Fl × Pl) := fun d ρ => do
  let ρ ← asgT ρ (.nm 2) d false
  let (f, ρ) ← evSs call [.ife (.or [.not (.isi (.var 2) .tuple), .cmp .ne (.blt .len [.var 2]) (.cst (.int 3)), .not (.cal 22 [.idx (.var 2) (.cst (.int 0))] []), .cmp .isIn (.idx (.var 2) (.cst (.int 0))) (.var 1)]) [.ret (.cst (.bool false))] [], .ife (.or [.not (.cal 23 [.idx (.var 2) (.cst (.int 1)), .cst (.int 1), .cst (.int 3)] []), .cmp .ne (.lc (.var 3) (.nm 3) .seq [.idx (.var 2) (.cst (.int 1))] [.cmp .notIn (.var 3) (.var 1)] [3]) (.lst [])]) [.ret (.cst (.bool false))] [], .ife (.or [.not (.isi (.idx (.var 2) (.cst (.int 2))) .str), .cmp .notIn (.idx (.var 2) (.cst (.int 2))) (.lst [.cst (.str "kept"), .cst (.str "pushed"), .cst (.str "asked")])]) [.ret (.cst (.bool false))] [], .asg (.nm 1) (.bin .add (.var 1) (.lst [.idx (.var 2) (.cst (.int 0))]))] ρ
  pure (f, killS ρ [2])
/-- one thing is right, in its place -/
def tOk (known : List Str) (r : D) : Bool := thingB r && (!(decide (nmOf r ∈ known)) && (partsOf r).all (fun p => decide (p ∈ known)))
theorem mode_evL {x : Str} : opIn (.str x) (.list [.str "kept", .str "pushed", .str "asked"]) = some (modeB (.str x)) := by
  rw [← mode_ev]
  rfl
theorem t_step {call : Call} (hN : NameE call 22) (hR : AreE call 23) (v : D) (known : List Str) (hk : known.length < 1000) (s1 : Slot) (h1 : s1 = .fr (.list (txts known)) ∨ s1 = .ow (.list (txts known))) (r : D) (gr : Good r) :
    ∃ s2, tStep call r [.fr v, s1, .no, .no] = some (if tOk known r = true then .nx else .rt (.bool false) false, [.fr v, s2, .no, .no]) ∧ (tOk known r = true → s2 = .ow (.list (txts (known ++ [nmOf r])))) ∧ lentS s2 = .no := by
  have out : tOk known r = false → tStep call r [.fr v, s1, .no, .no] = some (.rt (.bool false) false, [.fr v, s1, .no, .no]) → ∃ s2, tStep call r [.fr v, s1, .no, .no] = some (if tOk known r = true then .nx else .rt (.bool false) false, [.fr v, s2, .no, .no]) ∧ (tOk known r = true → s2 = .ow (.list (txts (known ++ [nmOf r])))) ∧ lentS s2 = .no := fun h e => ⟨s1, by rw [h]; exact e, (fun z => by rw [h] at z; cases z), by rcases h1 with rfl | rfl <;> rfl⟩
  have hL : known.length + 1 ≤ LIM := by unfold LIM; omega
  cases r with
  | dict kvs => exact absurd gr (by simp [Good, Nc])
  | tuple ds =>
    obtain ⟨hl, hg⟩ := gr.tup
    have pl : pyEq (.int ds.length) (.int 3) = some (decide (ds.length = 3)) := by
      rw [pyEq_int]
      congr 1
      apply decide_eq_decide.mpr
      omega
    by_cases h3 : ds.length = 3
    · obtain ⟨n, ps, m, rfl⟩ := len3 h3
      have en := hN n (hg n (by simp))
      have gp := hg ps (by simp)
      have ep := hR ps gp 1 3
      have pl3 : pyEq (.int 3) (.int 3) = some true := by rw [pyEq_int]; rfl
      cases bn : nameB n with
      | false =>
        rw [bn] at en
        refine out (by simp [tOk, thingB, bn]) ?_
        rcases h1 with rfl | rfl <;> simp [tStep, ev.eq_1, ev.eq_2, ev.eq_3, ev.eq_4, ev.eq_5, ev.eq_6, ev.eq_7, ev.eq_8, ev.eq_9, ev.eq_10, ev.eq_11, ev.eq_12, ev.eq_13, ev.eq_14, ev.eq_15, ev.eq_16, ev.eq_17, ev.eq_18, ev.eq_19, ev.eq_20, ev.eq_21, evS.eq_1, evS.eq_2, evS.eq_3, evS.eq_4, evS.eq_5, evS.eq_6, evS.eq_9, evS.eq_10, evS.eq_11, evS.eq_12, evS.eq_13, evS.eq_14, evS.eq_15, runF, envOf, slotA, evSs, opn, fetch, evOs, evs, evOI, evAnd, evOr, evIfs, evRs, fetchAll, opIdx, opCmp, opBin, opBlt, opSlc, opMthK, opMth, opLt, kindD, isTy, asB, asI, asL, dOk, atI, ixN, setS, asgT, setAll, setPar, setAt, appAt, ownL, popD, calL, slotsOf, distinct, lend, giveBack, isSl, lents, lentS, killS, wipeP, back, itemsOf, pl3, en]
      | true =>
      rw [bn] at en
      obtain ⟨x, rfl⟩ := name_str bn
      have ei := opIn_list (x := x) (ys := known) (okS_all x) fun y _ => okS_all y
      cases bk : decide (x ∈ known) with
      | true =>
        rw [bk] at ei
        refine out (by have bk' := of_decide_eq_true bk; simp [tOk, nmOf, bk']) ?_
        rcases h1 with rfl | rfl <;> simp [tStep, ev.eq_1, ev.eq_2, ev.eq_3, ev.eq_4, ev.eq_5, ev.eq_6, ev.eq_7, ev.eq_8, ev.eq_9, ev.eq_10, ev.eq_11, ev.eq_12, ev.eq_13, ev.eq_14, ev.eq_15, ev.eq_16, ev.eq_17, ev.eq_18, ev.eq_19, ev.eq_20, ev.eq_21, evS.eq_1, evS.eq_2, evS.eq_3, evS.eq_4, evS.eq_5, evS.eq_6, evS.eq_9, evS.eq_10, evS.eq_11, evS.eq_12, evS.eq_13, evS.eq_14, evS.eq_15, runF, envOf, slotA, evSs, opn, fetch, evOs, evs, evOI, evAnd, evOr, evIfs, evRs, fetchAll, opIdx, opCmp, opBin, opBlt, opSlc, opMthK, opMth, opLt, kindD, isTy, asB, asI, asL, dOk, atI, ixN, setS, asgT, setAll, setPar, setAt, appAt, ownL, popD, calL, slotsOf, distinct, lend, giveBack, isSl, lents, lentS, killS, wipeP, back, itemsOf, pl3, en, ei]
      | false =>
      rw [bk] at ei
      cases bp : namesB ps 1 3 with
      | false =>
        rw [bp] at ep
        refine out (by simp [tOk, thingB, bp]) ?_
        rcases h1 with rfl | rfl <;> simp [tStep, ev.eq_1, ev.eq_2, ev.eq_3, ev.eq_4, ev.eq_5, ev.eq_6, ev.eq_7, ev.eq_8, ev.eq_9, ev.eq_10, ev.eq_11, ev.eq_12, ev.eq_13, ev.eq_14, ev.eq_15, ev.eq_16, ev.eq_17, ev.eq_18, ev.eq_19, ev.eq_20, ev.eq_21, evS.eq_1, evS.eq_2, evS.eq_3, evS.eq_4, evS.eq_5, evS.eq_6, evS.eq_9, evS.eq_10, evS.eq_11, evS.eq_12, evS.eq_13, evS.eq_14, evS.eq_15, runF, envOf, slotA, evSs, opn, fetch, evOs, evs, evOI, evAnd, evOr, evIfs, evRs, fetchAll, opIdx, opCmp, opBin, opBlt, opSlc, opMthK, opMth, opLt, kindD, isTy, asB, asI, asL, dOk, atI, ixN, setS, asgT, setAll, setPar, setAt, appAt, ownL, popD, calL, slotsOf, distinct, lend, giveBack, isSl, lents, lentS, killS, wipeP, back, itemsOf, pl3, en, ei, ep]
      | true =>
      rw [bp] at ep
      obtain ⟨zs, rfl, z1, z2, z3, z4⟩ := names_of bp
      have epr : partsOf (.tuple [.str x, .tuple (txts zs), m]) = zs := by simp [partsOf, itemsD, strsOf_txts]
      have t : ev call (.lc (.var 3) (.nm 3) .seq [.idx (.var 2) (.cst (.int 1))] [.cmp .notIn (.var 3) (.var 1)] [3]) [.fr v, s1, .fr (.tuple [.str x, .tuple (txts zs), m]), .no] = some (.list ((txts zs).filter fun d => !memB known d), true, [.fr v, s1, .fr (.tuple [.str x, .tuple (txts zs), m]), .no]) := by
        have t := ev_lcF (call := call) (e := .var 3) (c := .cmp .notIn (.var 3) (.var 1)) (f := id) (p := fun d => !memB known d) (tg := .nm 3) (k := .seq) (its := [.idx (.var 2) (.cst (.int 1))]) (own := [3]) (ρ := [.fr v, s1, .fr (.tuple [.str x, .tuple (txts zs), m]), .no]) (ρ1 := [.fr v, s1, .fr (.tuple [.str x, .tuple (txts zs), m]), .no]) (ds := [.tuple (txts zs)]) (items := txts zs) (by simp [ev.eq_1, ev.eq_2, ev.eq_3, ev.eq_4, ev.eq_5, ev.eq_6, ev.eq_7, ev.eq_8, ev.eq_9, ev.eq_10, ev.eq_11, ev.eq_12, ev.eq_13, ev.eq_14, ev.eq_15, ev.eq_16, ev.eq_17, ev.eq_18, ev.eq_19, ev.eq_20, ev.eq_21, evS.eq_1, evS.eq_2, evS.eq_3, evS.eq_4, evS.eq_5, evS.eq_6, evS.eq_9, evS.eq_10, evS.eq_11, evS.eq_12, evS.eq_13, evS.eq_14, evS.eq_15, runF, envOf, slotA, evSs, opn, fetch, evOs, evs, evOI, evAnd, evOr, evIfs, evRs, fetchAll, opIdx, opCmp, opBin, opBlt, opSlc, opMthK, opMth, opLt, kindD, isTy, asB, asI, asL, dOk, atI, ixN, setS, asgT, setAll, setPar, setAt, appAt, ownL, popD, calL, slotsOf, distinct, lend, giveBack, isSl, lents, lentS, killS, wipeP, back, itemsOf]) rfl (fun z hz => by
          obtain ⟨y, _, rfl⟩ := List.mem_map.mp hz
          have ey := opIn_list (x := y) (ys := known) (okS_all y) fun y _ => okS_all y
          refine ⟨[.fr v, s1, .fr (.tuple [.str x, .tuple (txts zs), m]), .fr (.str y)], [.fr v, s1, .fr (.tuple [.str x, .tuple (txts zs), m]), .fr (.str y)], false, rfl, ?_, rfl, fun _ => ⟨[.fr v, s1, .fr (.tuple [.str x, .tuple (txts zs), m]), .fr (.str y)], false, ?_, rfl⟩⟩
          · rcases h1 with rfl | rfl <;> simp [ev.eq_1, ev.eq_2, ev.eq_3, ev.eq_4, ev.eq_5, ev.eq_6, ev.eq_7, ev.eq_8, ev.eq_9, ev.eq_10, ev.eq_11, ev.eq_12, ev.eq_13, ev.eq_14, ev.eq_15, ev.eq_16, ev.eq_17, ev.eq_18, ev.eq_19, ev.eq_20, ev.eq_21, evS.eq_1, evS.eq_2, evS.eq_3, evS.eq_4, evS.eq_5, evS.eq_6, evS.eq_9, evS.eq_10, evS.eq_11, evS.eq_12, evS.eq_13, evS.eq_14, evS.eq_15, runF, envOf, slotA, evSs, opn, fetch, evOs, evs, evOI, evAnd, evOr, evIfs, evRs, fetchAll, opIdx, opCmp, opBin, opBlt, opSlc, opMthK, opMth, opLt, kindD, isTy, asB, asI, asL, dOk, atI, ixN, setS, asgT, setAll, setPar, setAt, appAt, ownL, popD, calL, slotsOf, distinct, lend, giveBack, isSl, lents, lentS, killS, wipeP, back, itemsOf, ey, memB]
          · simp [ev.eq_1, ev.eq_2, ev.eq_3, ev.eq_4, ev.eq_5, ev.eq_6, ev.eq_7, ev.eq_8, ev.eq_9, ev.eq_10, ev.eq_11, ev.eq_12, ev.eq_13, ev.eq_14, ev.eq_15, ev.eq_16, ev.eq_17, ev.eq_18, ev.eq_19, ev.eq_20, ev.eq_21, evS.eq_1, evS.eq_2, evS.eq_3, evS.eq_4, evS.eq_5, evS.eq_6, evS.eq_9, evS.eq_10, evS.eq_11, evS.eq_12, evS.eq_13, evS.eq_14, evS.eq_15, runF, envOf, slotA, evSs, opn, fetch, evOs, evs, evOI, evAnd, evOr, evIfs, evRs, fetchAll, opIdx, opCmp, opBin, opBlt, opSlc, opMthK, opMth, opLt, kindD, isTy, asB, asI, asL, dOk, atI, ixN, setS, asgT, setAll, setPar, setAt, appAt, ownL, popD, calL, slotsOf, distinct, lend, giveBack, isSl, lents, lentS, killS, wipeP, back, itemsOf]) (by rw [txts_len]; unfold LIM; omega)
        rw [List.map_id] at t
        rw [t]
        rfl
      have q : pyEq (.list ((txts zs).filter fun d => !memB known d)) (.list []) = some (zs.all fun p => decide (p ∈ known)) := by
        rw [pyEq_nil (fun z hz => by
          obtain ⟨y, _, rfl⟩ := List.mem_map.mp (List.mem_filter.mp hz).1
          exact (gp.tup).2 _ (List.mem_filter.mp hz).1), filter_nil]
        simp [txts, List.all_map, Function.comp_def, memB]
      cases ba : zs.all fun p => decide (p ∈ known) with
      | false =>
        rw [ba] at q
        refine out (by simp only [tOk, epr]; rw [ba]; simp) ?_
        rcases h1 with rfl | rfl <;> simp [tStep, ev.eq_1, ev.eq_2, ev.eq_3, ev.eq_4, ev.eq_5, ev.eq_6, ev.eq_7, ev.eq_8, ev.eq_9, ev.eq_10, ev.eq_11, ev.eq_12, ev.eq_13, ev.eq_14, ev.eq_15, ev.eq_16, ev.eq_17, ev.eq_18, ev.eq_19, ev.eq_20, ev.eq_21, evS.eq_1, evS.eq_2, evS.eq_3, evS.eq_4, evS.eq_5, evS.eq_6, evS.eq_9, evS.eq_10, evS.eq_11, evS.eq_12, evS.eq_13, evS.eq_14, evS.eq_15, runF, envOf, slotA, evSs, opn, fetch, evOs, evs, evOI, evAnd, evOr, evIfs, evRs, fetchAll, opIdx, opCmp, opBin, opBlt, opSlc, opMthK, opMth, opLt, kindD, isTy, asB, asI, asL, dOk, atI, ixN, setS, asgT, setAll, setPar, setAt, appAt, ownL, popD, calL, slotsOf, distinct, lend, giveBack, isSl, lents, lentS, killS, wipeP, back, itemsOf, pl3, en, ei, ep, t, q]
      | true =>
      rw [ba] at q
      cases m with
      | str y =>
        have em := @mode_evL y
        cases bm : modeB (.str y) with
        | false =>
          rw [bm] at em
          refine out (by simp [tOk, thingB, bm]) ?_
          rcases h1 with rfl | rfl <;> simp [tStep, ev.eq_1, ev.eq_2, ev.eq_3, ev.eq_4, ev.eq_5, ev.eq_6, ev.eq_7, ev.eq_8, ev.eq_9, ev.eq_10, ev.eq_11, ev.eq_12, ev.eq_13, ev.eq_14, ev.eq_15, ev.eq_16, ev.eq_17, ev.eq_18, ev.eq_19, ev.eq_20, ev.eq_21, evS.eq_1, evS.eq_2, evS.eq_3, evS.eq_4, evS.eq_5, evS.eq_6, evS.eq_9, evS.eq_10, evS.eq_11, evS.eq_12, evS.eq_13, evS.eq_14, evS.eq_15, runF, envOf, slotA, evSs, opn, fetch, evOs, evs, evOI, evAnd, evOr, evIfs, evRs, fetchAll, opIdx, opCmp, opBin, opBlt, opSlc, opMthK, opMth, opLt, kindD, isTy, asB, asI, asL, dOk, atI, ixN, setS, asgT, setAll, setPar, setAt, appAt, ownL, popD, calL, slotsOf, distinct, lend, giveBack, isSl, lents, lentS, killS, wipeP, back, itemsOf, pl3, en, ei, ep, t, q, em]
        | true =>
          rw [bm] at em
          have e : txts known ++ [.str x] = txts (known ++ [x]) := by simp [txts]
          have ok : tOk known (.tuple [.str x, .tuple (txts zs), .str y]) = true := by
            have bk' := of_decide_eq_false bk
            have ba' := List.all_eq_true.mp ba
            simp only [decide_eq_true_eq] at ba'
            simp [tOk, epr, nmOf, bk', thingB, bn, bp, bm]
            exact ba'
          refine ⟨.ow (.list (txts (known ++ [x]))), ?_, fun _ => rfl, rfl⟩
          rw [ok]
          rcases h1 with rfl | rfl <;> simp [tStep, ev.eq_1, ev.eq_2, ev.eq_3, ev.eq_4, ev.eq_5, ev.eq_6, ev.eq_7, ev.eq_8, ev.eq_9, ev.eq_10, ev.eq_11, ev.eq_12, ev.eq_13, ev.eq_14, ev.eq_15, ev.eq_16, ev.eq_17, ev.eq_18, ev.eq_19, ev.eq_20, ev.eq_21, evS.eq_1, evS.eq_2, evS.eq_3, evS.eq_4, evS.eq_5, evS.eq_6, evS.eq_9, evS.eq_10, evS.eq_11, evS.eq_12, evS.eq_13, evS.eq_14, evS.eq_15, runF, envOf, slotA, evSs, opn, fetch, evOs, evs, evOI, evAnd, evOr, evIfs, evRs, fetchAll, opIdx, opCmp, opBin, opBlt, opSlc, opMthK, opMth, opLt, kindD, isTy, asB, asI, asL, dOk, atI, ixN, setS, asgT, setAll, setPar, setAt, appAt, ownL, popD, calL, slotsOf, distinct, lend, giveBack, isSl, lents, lentS, killS, wipeP, back, itemsOf, pl3, en, ei, ep, t, q, em, txts_len, hL, e]
      | dict kvs => exact absurd (hg _ (show PyData.dict kvs ∈ _ by simp)) (by simp [Good, Nc])
      | _ =>
        refine out (by simp [tOk, thingB, modeB]) ?_
        rcases h1 with rfl | rfl <;> simp [tStep, ev.eq_1, ev.eq_2, ev.eq_3, ev.eq_4, ev.eq_5, ev.eq_6, ev.eq_7, ev.eq_8, ev.eq_9, ev.eq_10, ev.eq_11, ev.eq_12, ev.eq_13, ev.eq_14, ev.eq_15, ev.eq_16, ev.eq_17, ev.eq_18, ev.eq_19, ev.eq_20, ev.eq_21, evS.eq_1, evS.eq_2, evS.eq_3, evS.eq_4, evS.eq_5, evS.eq_6, evS.eq_9, evS.eq_10, evS.eq_11, evS.eq_12, evS.eq_13, evS.eq_14, evS.eq_15, runF, envOf, slotA, evSs, opn, fetch, evOs, evs, evOI, evAnd, evOr, evIfs, evRs, fetchAll, opIdx, opCmp, opBin, opBlt, opSlc, opMthK, opMth, opLt, kindD, isTy, asB, asI, asL, dOk, atI, ixN, setS, asgT, setAll, setPar, setAt, appAt, ownL, popD, calL, slotsOf, distinct, lend, giveBack, isSl, lents, lentS, killS, wipeP, back, itemsOf, pl3, en, ei, ep, t, q]
    · have pl' : pyEq (.int ds.length) (.int 3) = some false := by rw [pl]; simp [h3]
      have nt : thingB (.tuple ds) = false := thing_len (by simp only [rowB]; simp; omega)
      refine out (by simp [tOk, nt]) ?_
      rcases h1 with rfl | rfl <;> simp [tStep, ev.eq_1, ev.eq_2, ev.eq_3, ev.eq_4, ev.eq_5, ev.eq_6, ev.eq_7, ev.eq_8, ev.eq_9, ev.eq_10, ev.eq_11, ev.eq_12, ev.eq_13, ev.eq_14, ev.eq_15, ev.eq_16, ev.eq_17, ev.eq_18, ev.eq_19, ev.eq_20, ev.eq_21, evS.eq_1, evS.eq_2, evS.eq_3, evS.eq_4, evS.eq_5, evS.eq_6, evS.eq_9, evS.eq_10, evS.eq_11, evS.eq_12, evS.eq_13, evS.eq_14, evS.eq_15, runF, envOf, slotA, evSs, opn, fetch, evOs, evs, evOI, evAnd, evOr, evIfs, evRs, fetchAll, opIdx, opCmp, opBin, opBlt, opSlc, opMthK, opMth, opLt, kindD, isTy, asB, asI, asL, dOk, atI, ixN, setS, asgT, setAll, setPar, setAt, appAt, ownL, popD, calL, slotsOf, distinct, lend, giveBack, isSl, lents, lentS, killS, wipeP, back, itemsOf, pl']
  | _ =>
    refine out (by simp [tOk, thingB]) ?_
    rcases h1 with rfl | rfl <;> simp [tStep, ev.eq_1, ev.eq_2, ev.eq_3, ev.eq_4, ev.eq_5, ev.eq_6, ev.eq_7, ev.eq_8, ev.eq_9, ev.eq_10, ev.eq_11, ev.eq_12, ev.eq_13, ev.eq_14, ev.eq_15, ev.eq_16, ev.eq_17, ev.eq_18, ev.eq_19, ev.eq_20, ev.eq_21, evS.eq_1, evS.eq_2, evS.eq_3, evS.eq_4, evS.eq_5, evS.eq_6, evS.eq_9, evS.eq_10, evS.eq_11, evS.eq_12, evS.eq_13, evS.eq_14, evS.eq_15, runF, envOf, slotA, evSs, opn, fetch, evOs, evs, evOI, evAnd, evOr, evIfs, evRs, fetchAll, opIdx, opCmp, opBin, opBlt, opSlc, opMthK, opMth, opLt, kindD, isTy, asB, asI, asL, dOk, atI, ixN, setS, asgT, setAll, setPar, setAt, appAt, ownL, popD, calL, slotsOf, distinct, lend, giveBack, isSl, lents, lentS, killS, wipeP, back, itemsOf]
end CL

set_option Elab.async false
set_option linter.all false
set_option maxRecDepth 100000
set_option maxHeartbeats 2000000
namespace CL
open PySem PV
theorem evSs_nil (call : Call) (ρ : Pl) : evSs call [] ρ = some (.nx, ρ) := by rw [evSs]
theorem evSs_rt {call : Call} {st : S} {ss : List S} {ρ ρ1 : Pl} {d : D} {o : Bool} (h : evS call st ρ = some (.rt d o, ρ1)) : evSs call (st :: ss) ρ = some (.rt d o, ρ1) := by
  simp only [evSs, h]
def allT (known : List Str) : List D → Bool
  | [] => true
  | r :: rs => tOk known r && allT (known ++ [nmOf r]) rs
theorem allT_eq : ∀ (rows : List D) (known : List Str), allT known rows = (rows.all thingB && thingsB known rows)
  | [], _ => rfl
  | r :: rs, known => by
    unfold allT thingsB tOk
    rw [allT_eq rs, List.all_cons]
    cases thingB r <;> cases rs.all thingB <;> cases (!(decide (nmOf r ∈ known))) <;> cases ((partsOf r).all fun p => decide (p ∈ known)) <;> cases thingsB (known ++ [nmOf r]) rs <;> rfl
theorem t_loop {call : Call} (hN : NameE call 22) (hR : AreE call 23) (v : D) : ∀ (rows : List D) (known : List Str) (s1 : Slot), known.length + rows.length < 1000 → (s1 = .fr (.list (txts known)) ∨ s1 = .ow (.list (txts known))) → (∀ d ∈ rows, Good d) →
    ∃ s2, forL (tStep call) rows [.fr v, s1, .no, .no] = some (if allT known rows = true then .nx else .rt (.bool false) false, [.fr v, s2, .no, .no]) ∧ lentS s2 = .no
  | [], known, s1, _, h1, _ => ⟨s1, rfl, by rcases h1 with rfl | rfl <;> rfl⟩
  | r :: rs, known, s1, hk, h1, hg => by
    simp only [List.length_cons] at hk
    obtain ⟨s2, e, h2, h2'⟩ := t_step hN hR v known (by omega) s1 h1 r (hg r List.mem_cons_self)
    unfold allT
    cases hb : tOk known r with
    | false =>
      rw [hb] at e
      refine ⟨s2, ?_, h2'⟩
      rw [forL, e]
      rfl
    | true =>
      rw [hb] at e
      obtain rfl := h2 hb
      obtain ⟨s3, e3, h3⟩ := t_loop hN hR v rs (known ++ [nmOf r]) _ (by rw [List.length_append]; simp; omega) (.inr rfl) fun d hd => hg d (List.mem_cons_of_mem _ hd)
      refine ⟨s3, ?_, h3⟩
      rw [forL, e]
      simp only [if_true, Bool.true_and]
      exact e3
def ThingsE (call : Call) : Prop := ∀ (d : D) (known : List Str), Good d → known.length ≤ 100 → call 24 [(d, false), (.list (txts known), false)] = some (.bool (rowB d 1 5 && allT known (itemsD d)), false, [.no, .no])
theorem row_c {call : Call} {ρ : Pl} {ds : List D} {a b : Int} (h0 : ρ[0]? = some (.fr (.tuple ds))) : ev call (.or [.not (.isi (.var 0) .tuple), .not (.chain .le .le (.cst (.int a)) (.blt .len [.var 0]) (.cst (.int b)))]) ρ = some (.bool (!(rowB (.tuple ds) a b)), false, ρ) := by
  by_cases h1 : a ≤ ds.length
  · by_cases h2 : (ds.length : Int) ≤ b
    · simp [ev.eq_7, evOr, ev.eq_8, ev.eq_21, ev.eq_5, ev.eq_1, ev.eq_18, opn, evOs, h0, fetch, fetchAll, kindD, isTy, asB, opBlt, opCmp, rowB, h1, h2]
    · simp [ev.eq_7, evOr, ev.eq_8, ev.eq_21, ev.eq_5, ev.eq_1, ev.eq_18, opn, evOs, h0, fetch, fetchAll, kindD, isTy, asB, opBlt, opCmp, rowB, h1, h2]
  · simp [ev.eq_7, evOr, ev.eq_8, ev.eq_21, ev.eq_5, ev.eq_1, ev.eq_18, opn, evOs, h0, fetch, fetchAll, kindD, isTy, asB, opBlt, opCmp, rowB, h1]
theorem things_ev {call : Call} (hN : NameE call 22) (hR : AreE call 23) (d : D) (known : List Str) (hd : Good d) (hk : known.length ≤ 100) : runF call x__law_are_things [(d, false), (.list (txts known), false)] = some (.bool (rowB d 1 5 && allT known (itemsD d)), false, [.no, .no]) := by
  cases d with
  | tuple ds =>
    obtain ⟨hl, hg⟩ := hd.tup
    have c := row_c (call := call) (ρ := [.fr (.tuple ds), .fr (.list (txts known)), .no, .no]) (a := 1) (b := 5) rfl
    cases hr : rowB (.tuple ds) 1 5 with
    | false =>
      rw [hr] at c
      exact runF_rt rfl (ife_t c (ret_cst _ _ _)) rfl
    | true =>
      rw [hr] at c
      obtain ⟨s2, e, hs2⟩ := t_loop hN hR (.tuple ds) ds known _ (by omega) (.inl rfl) hg
      have f : evS call (.for (.nm 2) .seq [.var 0] [.ife (.or [.not (.isi (.var 2) .tuple), .cmp .ne (.blt .len [.var 2]) (.cst (.int 3)), .not (.cal 22 [.idx (.var 2) (.cst (.int 0))] []), .cmp .isIn (.idx (.var 2) (.cst (.int 0))) (.var 1)]) [.ret (.cst (.bool false))] [], .ife (.or [.not (.cal 23 [.idx (.var 2) (.cst (.int 1)), .cst (.int 1), .cst (.int 3)] []), .cmp .ne (.lc (.var 3) (.nm 3) .seq [.idx (.var 2) (.cst (.int 1))] [.cmp .notIn (.var 3) (.var 1)] [3]) (.lst [])]) [.ret (.cst (.bool false))] [], .ife (.or [.not (.isi (.idx (.var 2) (.cst (.int 2))) .str), .cmp .notIn (.idx (.var 2) (.cst (.int 2))) (.lst [.cst (.str "kept"), .cst (.str "pushed"), .cst (.str "asked")])]) [.ret (.cst (.bool false))] [], .asg (.nm 1) (.bin .add (.var 1) (.lst [.idx (.var 2) (.cst (.int 0))]))] [2]) [.fr (.tuple ds), .fr (.list (txts known)), .no, .no] = _ := evS_for (ds := [.tuple ds]) (items := ds) (by simp [evs, ev.eq_2]) rfl e
      show runF call x__law_are_things _ = some (.bool (true && allT known ds), false, _)
      cases ha : allT known ds with
      | false =>
        rw [ha] at f
        exact runF_rt rfl (ife_f c (evSs_rt f)) (by show [Slot.no, lentS s2] = _; rw [hs2])
      | true =>
        rw [ha] at f
        exact runF_rt rfl (ife_f c (evSs_cons f (ret_cst _ _ _))) (by show [Slot.no, lentS s2] = _; rw [hs2])
  | dict kvs => exact absurd hd (by simp [Good, Nc])
  | _ => simp [x__law_are_things, ev.eq_1, ev.eq_2, ev.eq_3, ev.eq_4, ev.eq_5, ev.eq_6, ev.eq_7, ev.eq_8, ev.eq_9, ev.eq_10, ev.eq_11, ev.eq_12, ev.eq_13, ev.eq_14, ev.eq_15, ev.eq_16, ev.eq_17, ev.eq_18, ev.eq_19, ev.eq_20, ev.eq_21, evS.eq_1, evS.eq_2, evS.eq_3, evS.eq_4, evS.eq_5, evS.eq_6, evS.eq_9, evS.eq_10, evS.eq_11, evS.eq_12, evS.eq_13, evS.eq_14, evS.eq_15, runF, envOf, slotA, evSs, opn, fetch, evOs, evs, evOI, evAnd, evOr, evIfs, evRs, fetchAll, opIdx, opCmp, opBin, opBlt, opSlc, opMthK, opMth, opLt, kindD, isTy, asB, asI, asL, dOk, atI, ixN, setS, asgT, setAll, setPar, setAt, appAt, ownL, popD, calL, slotsOf, distinct, lend, giveBack, isSl, lents, lentS, killS, wipeP, back, itemsOf, rowB]
theorem l_things (k : Nat) : ThingsE (callN fs (k + 3)) := fun d known h1 h2 => things_ev (l_lname (k + 1)) (l_rise k) d known h1 h2
/-! jobs -/
theorem dedup_le : ∀ xs : List Str, (dedupS xs).length ≤ xs.length
  | [] => Nat.le_refl _
  | x :: xs => by
    have := dedup_le xs
    unfold dedupS
    split
    · simp; omega
    · simp; omega
theorem kind_tup (ds : List D) : kindD (.tuple ds) = 5 := rfl
theorem isTy_tup (ds : List D) : isTy .tuple (.tuple ds) = true := rfl
def jStep (call : Call) : D → Pl → Option (Fl × Pl) := fun d ρ => do
  let ρ ← asgT ρ (.nm 2) d false
  let (f, ρ) ← evSs call [.ife (.or [.not (.isi (.var 2) .tuple), .cmp .ne (.blt .len [.var 2]) (.cst (.int 2)), .not (.cal 22 [.idx (.var 2) (.cst (.int 0))] []), .not (.isi (.idx (.var 2) (.cst (.int 1))) .tuple)]) [.ret (.cst (.bool false))] [], .asg (.nm 3) (.lc (.var 4) (.nm 4) .seq [.idx (.var 2) (.cst (.int 1))] [.or [.not (.isi (.var 4) .str), .cmp .notIn (.var 4) (.var 1)]] [4]), .ife (.or [.not (.chain .le .le (.cst (.int 1)) (.blt .len [.idx (.var 2) (.cst (.int 1))]) (.cst (.int 5))), .cmp .ne (.var 3) (.lst [])]) [.ret (.cst (.bool false))] [], .ife (.cmp .lt (.blt .lset [.idx (.var 2) (.cst (.int 1))]) (.blt .len [.idx (.var 2) (.cst (.int 1))])) [.ret (.cst (.bool false))] []] ρ
  pure (f, killS ρ [2, 3])
theorem step_of {call : Call} {tg : Tg} {body : List S} {kill : List Nat} {d : D} {ρ ρ1 ρ2 : Pl} {f : Fl} (h1 : asgT ρ tg d false = some ρ1) (h2 : evSs call body ρ1 = some (f, ρ2)) : (do
  let ρ ← asgT ρ tg d false
  let (f, ρ) ← evSs call body ρ
  pure (f, killS ρ kill)) = some (f, killS ρ2 kill) := by
  rw [h1]
  simp only [Option.bind_eq_bind, Option.bind_some, h2, Option.pure_def]
theorem ife_n {call : Call} {c : X} {a ss : List S} {ρ ρ1 ρ2 : Pl} {w : Bool} {r : Option (Fl × Pl)} (h1 : ev call c ρ = some (.bool false, w, ρ1)) (h2 : evSs call ss ρ1 = r) : evSs call (.ife c a [] :: ss) ρ = r := ife_f h1 h2
theorem j_step {call : Call} (hN : NameE call 22) (v : D) (ns : List Str) (r : D) (gr : Good r) :
    jStep call r [.fr v, .fr (.list (txts ns)), .no, .no, .no, .no] = some (if jobB ns r = true then .nx else .rt (.bool false) false, [.fr v, .fr (.list (txts ns)), .no, .no, .no, .no]) := by
  have hA : asgT [.fr v, .fr (.list (txts ns)), .no, .no, .no, .no] (.nm 2) r false = some [.fr v, .fr (.list (txts ns)), .fr r, .no, .no, .no] := rfl
  by_cases ht : ¬ ∃ ds, r = .tuple ds
  · have jb : jobB ns r = false := by
      cases r <;> first | rfl | exact absurd ⟨_, rfl⟩ ht
    have hk : kindD r ≠ 6 := by
      cases r with
      | dict kvs => exact absurd gr (by simp [Good, Nc])
      | _ => simp [kindD]
    have hty : isTy .tuple r = false := by
      cases r <;> first | rfl | exact absurd ⟨_, rfl⟩ ht
    rw [jb]
    refine (step_of hA (ife_t (ρ1 := [.fr v, .fr (.list (txts ns)), .fr r, .no, .no, .no]) (w := false) ?_ (ret_cst _ _ _))).trans rfl
    have e1 : ev call (.not (.isi (.var 2) .tuple)) [.fr v, .fr (.list (txts ns)), .fr r, .no, .no, .no] = some (.bool true, false, [.fr v, .fr (.list (txts ns)), .fr r, .no, .no, .no]) := by
      simp only [ev.eq_8, ev.eq_21, opn, List.getElem?_cons_succ, List.getElem?_cons_zero, Option.bind_eq_bind, Option.bind_some, fetch, hk, if_false, hty, asB, Option.pure_def, Bool.not_false]
    rw [ev.eq_7]
    simp only [evOr, e1, Option.bind_eq_bind, Option.bind_some, asB, if_true, Option.pure_def]
  replace ht := Classical.not_not.mp ht
  obtain ⟨ds, rfl⟩ := ht
  · obtain ⟨hl, hg⟩ := gr.tup
    by_cases h3 : ds.length = 2
    · obtain ⟨n, ms, rfl⟩ := len2 h3
      have en := hN n (hg n (by simp))
      have gm := hg ms (by simp)
      have pl2 : pyEq (.int 2) (.int 2) = some true := by rw [pyEq_int]; rfl
      cases bn : nameB n with
      | false =>
        rw [bn] at en
        have jb : jobB ns (.tuple [n, ms]) = false := by simp [jobB, bn]
        rw [jb]
        refine (step_of hA (ife_t (ρ1 := [.fr v, .fr (.list (txts ns)), .fr (.tuple [n, ms]), .no, .no, .no]) (w := false) ?_ (ret_cst _ _ _))).trans rfl
        simp [ev.eq_1, ev.eq_2, ev.eq_3, ev.eq_4, ev.eq_5, ev.eq_6, ev.eq_7, ev.eq_8, ev.eq_9, ev.eq_10, ev.eq_11, ev.eq_12, ev.eq_13, ev.eq_14, ev.eq_15, ev.eq_16, ev.eq_17, ev.eq_18, ev.eq_19, ev.eq_20, ev.eq_21, evS.eq_1, evS.eq_2, evS.eq_3, evS.eq_4, evS.eq_5, evS.eq_6, evS.eq_9, evS.eq_10, evS.eq_11, evS.eq_12, evS.eq_13, evS.eq_14, evS.eq_15, runF, envOf, slotA, evSs, opn, fetch, evOs, evs, evOI, evAnd, evOr, evIfs, evRs, fetchAll, opIdx, opCmp, opBin, opBlt, opSlc, opMthK, opMth, opLt, kindD, isTy, asB, asI, asL, dOk, atI, ixN, setS, asgT, setAll, setPar, setAt, appAt, ownL, popD, calL, slotsOf, distinct, lend, giveBack, isSl, lents, lentS, killS, wipeP, back, itemsOf, pl2, en]
      | true =>
      rw [bn] at en
      by_cases hms : ¬ ∃ zs, ms = .tuple zs
      · have hk : kindD ms ≠ 6 := by
          cases ms with
          | dict kvs => exact absurd gm (by simp [Good, Nc])
          | _ => simp [kindD]
        have hty : isTy .tuple ms = false := by
          cases ms <;> first | rfl | exact absurd ⟨_, rfl⟩ hms
        have hr5 : rowB ms 1 5 = false := by
          cases ms <;> first | rfl | exact absurd ⟨_, rfl⟩ hms
        have jb : jobB ns (.tuple [n, ms]) = false := by simp [jobB, hr5]
        rw [jb]
        refine (step_of hA (ife_t (ρ1 := [.fr v, .fr (.list (txts ns)), .fr (.tuple [n, ms]), .no, .no, .no]) (w := false) ?_ (ret_cst _ _ _))).trans rfl
        generalize hT : isTy .tuple ms = T at hty
        subst hty
        simp [ev.eq_7, evOr, ev.eq_8, ev.eq_21, ev.eq_4, ev.eq_1, ev.eq_13, ev.eq_16, ev.eq_18, opn, evOs, fetch, fetchAll, calL, slotsOf, distinct, lend, giveBack, isSl, opIdx, atI, ixN, asB, opBlt, opCmp, pl2, en, hk, hT, kind_tup, isTy_tup]
      · replace hms := Classical.not_not.mp hms
        obtain ⟨zs, rfl⟩ := hms
        obtain ⟨zl, zg⟩ := gm.tup
        have c1 : ev call (.or [.not (.isi (.var 2) .tuple), .cmp .ne (.blt .len [.var 2]) (.cst (.int 2)), .not (.cal 22 [.idx (.var 2) (.cst (.int 0))] []), .not (.isi (.idx (.var 2) (.cst (.int 1))) .tuple)]) [.fr v, .fr (.list (txts ns)), .fr (.tuple [n, .tuple zs]), .no, .no, .no] = some (.bool false, false, [.fr v, .fr (.list (txts ns)), .fr (.tuple [n, .tuple zs]), .no, .no, .no]) := by
          simp [ev.eq_1, ev.eq_2, ev.eq_3, ev.eq_4, ev.eq_5, ev.eq_6, ev.eq_7, ev.eq_8, ev.eq_9, ev.eq_10, ev.eq_11, ev.eq_12, ev.eq_13, ev.eq_14, ev.eq_15, ev.eq_16, ev.eq_17, ev.eq_18, ev.eq_19, ev.eq_20, ev.eq_21, evS.eq_1, evS.eq_2, evS.eq_3, evS.eq_4, evS.eq_5, evS.eq_6, evS.eq_9, evS.eq_10, evS.eq_11, evS.eq_12, evS.eq_13, evS.eq_14, evS.eq_15, runF, envOf, slotA, evSs, opn, fetch, evOs, evs, evOI, evAnd, evOr, evIfs, evRs, fetchAll, opIdx, opCmp, opBin, opBlt, opSlc, opMthK, opMth, opLt, kindD, isTy, asB, asI, asL, dOk, atI, ixN, setS, asgT, setAll, setPar, setAt, appAt, ownL, popD, calL, slotsOf, distinct, lend, giveBack, isSl, lents, lentS, killS, wipeP, back, itemsOf, pl2, en]
        have t := ev_lcF (call := call) (e := .var 4) (c := .or [.not (.isi (.var 4) .str), .cmp .notIn (.var 4) (.var 1)]) (f := id) (p := fun d => !memB ns d) (tg := .nm 4) (k := .seq) (its := [.idx (.var 2) (.cst (.int 1))]) (own := [4]) (ρ := [.fr v, .fr (.list (txts ns)), .fr (.tuple [n, .tuple zs]), .no, .no, .no]) (ρ1 := [.fr v, .fr (.list (txts ns)), .fr (.tuple [n, .tuple zs]), .no, .no, .no]) (ds := [.tuple zs]) (items := zs) (by simp [ev.eq_1, ev.eq_2, ev.eq_3, ev.eq_4, ev.eq_5, ev.eq_6, ev.eq_7, ev.eq_8, ev.eq_9, ev.eq_10, ev.eq_11, ev.eq_12, ev.eq_13, ev.eq_14, ev.eq_15, ev.eq_16, ev.eq_17, ev.eq_18, ev.eq_19, ev.eq_20, ev.eq_21, evS.eq_1, evS.eq_2, evS.eq_3, evS.eq_4, evS.eq_5, evS.eq_6, evS.eq_9, evS.eq_10, evS.eq_11, evS.eq_12, evS.eq_13, evS.eq_14, evS.eq_15, runF, envOf, slotA, evSs, opn, fetch, evOs, evs, evOI, evAnd, evOr, evIfs, evRs, fetchAll, opIdx, opCmp, opBin, opBlt, opSlc, opMthK, opMth, opLt, kindD, isTy, asB, asI, asL, dOk, atI, ixN, setS, asgT, setAll, setPar, setAt, appAt, ownL, popD, calL, slotsOf, distinct, lend, giveBack, isSl, lents, lentS, killS, wipeP, back, itemsOf]) rfl (fun z hz => by
          refine ⟨[.fr v, .fr (.list (txts ns)), .fr (.tuple [n, .tuple zs]), .no, .fr z, .no], [.fr v, .fr (.list (txts ns)), .fr (.tuple [n, .tuple zs]), .no, .fr z, .no], false, rfl, ?_, rfl, fun _ => ⟨[.fr v, .fr (.list (txts ns)), .fr (.tuple [n, .tuple zs]), .no, .fr z, .no], false, ?_, rfl⟩⟩
          · cases z with
            | str y =>
              have ey := opIn_list (x := y) (ys := ns) (okS_all y) fun y _ => okS_all y
              simp [ev.eq_1, ev.eq_2, ev.eq_3, ev.eq_4, ev.eq_5, ev.eq_6, ev.eq_7, ev.eq_8, ev.eq_9, ev.eq_10, ev.eq_11, ev.eq_12, ev.eq_13, ev.eq_14, ev.eq_15, ev.eq_16, ev.eq_17, ev.eq_18, ev.eq_19, ev.eq_20, ev.eq_21, evS.eq_1, evS.eq_2, evS.eq_3, evS.eq_4, evS.eq_5, evS.eq_6, evS.eq_9, evS.eq_10, evS.eq_11, evS.eq_12, evS.eq_13, evS.eq_14, evS.eq_15, runF, envOf, slotA, evSs, opn, fetch, evOs, evs, evOI, evAnd, evOr, evIfs, evRs, fetchAll, opIdx, opCmp, opBin, opBlt, opSlc, opMthK, opMth, opLt, kindD, isTy, asB, asI, asL, dOk, atI, ixN, setS, asgT, setAll, setPar, setAt, appAt, ownL, popD, calL, slotsOf, distinct, lend, giveBack, isSl, lents, lentS, killS, wipeP, back, itemsOf, ey, memB]
            | dict kvs => exact absurd (zg _ hz) (by simp [Good, Nc])
            | _ => simp [ev.eq_1, ev.eq_2, ev.eq_3, ev.eq_4, ev.eq_5, ev.eq_6, ev.eq_7, ev.eq_8, ev.eq_9, ev.eq_10, ev.eq_11, ev.eq_12, ev.eq_13, ev.eq_14, ev.eq_15, ev.eq_16, ev.eq_17, ev.eq_18, ev.eq_19, ev.eq_20, ev.eq_21, evS.eq_1, evS.eq_2, evS.eq_3, evS.eq_4, evS.eq_5, evS.eq_6, evS.eq_9, evS.eq_10, evS.eq_11, evS.eq_12, evS.eq_13, evS.eq_14, evS.eq_15, runF, envOf, slotA, evSs, opn, fetch, evOs, evs, evOI, evAnd, evOr, evIfs, evRs, fetchAll, opIdx, opCmp, opBin, opBlt, opSlc, opMthK, opMth, opLt, kindD, isTy, asB, asI, asL, dOk, atI, ixN, setS, asgT, setAll, setPar, setAt, appAt, ownL, popD, calL, slotsOf, distinct, lend, giveBack, isSl, lents, lentS, killS, wipeP, back, itemsOf, memB]
          · simp [ev.eq_1, ev.eq_2, ev.eq_3, ev.eq_4, ev.eq_5, ev.eq_6, ev.eq_7, ev.eq_8, ev.eq_9, ev.eq_10, ev.eq_11, ev.eq_12, ev.eq_13, ev.eq_14, ev.eq_15, ev.eq_16, ev.eq_17, ev.eq_18, ev.eq_19, ev.eq_20, ev.eq_21, evS.eq_1, evS.eq_2, evS.eq_3, evS.eq_4, evS.eq_5, evS.eq_6, evS.eq_9, evS.eq_10, evS.eq_11, evS.eq_12, evS.eq_13, evS.eq_14, evS.eq_15, runF, envOf, slotA, evSs, opn, fetch, evOs, evs, evOI, evAnd, evOr, evIfs, evRs, fetchAll, opIdx, opCmp, opBin, opBlt, opSlc, opMthK, opMth, opLt, kindD, isTy, asB, asI, asL, dOk, atI, ixN, setS, asgT, setAll, setPar, setAt, appAt, ownL, popD, calL, slotsOf, distinct, lend, giveBack, isSl, lents, lentS, killS, wipeP, back, itemsOf]) (goodL zl)
        rw [List.map_id] at t
        have t' : evS call (.asg (.nm 3) (.lc (.var 4) (.nm 4) .seq [.idx (.var 2) (.cst (.int 1))] [.or [.not (.isi (.var 4) .str), .cmp .notIn (.var 4) (.var 1)]] [4])) [.fr v, .fr (.list (txts ns)), .fr (.tuple [n, .tuple zs]), .no, .no, .no] = some (.nx, [.fr v, .fr (.list (txts ns)), .fr (.tuple [n, .tuple zs]), .ow (.list (zs.filter fun d => !memB ns d)), .no, .no]) := by
          rw [evS.eq_1, t]
          rfl
        have q : pyEq (.list (zs.filter fun d => !memB ns d)) (.list []) = some (zs.all (memB ns)) := by
          rw [pyEq_nil fun z hz => zg z (List.mem_filter.mp hz).1, filter_nil]
          simp
        have c2 : ev call (.or [.not (.chain .le .le (.cst (.int 1)) (.blt .len [.idx (.var 2) (.cst (.int 1))]) (.cst (.int 5))), .cmp .ne (.var 3) (.lst [])]) [.fr v, .fr (.list (txts ns)), .fr (.tuple [n, .tuple zs]), .ow (.list (zs.filter fun d => !memB ns d)), .no, .no] = some (.bool (!(rowB (.tuple zs) 1 5 && zs.all (memB ns))), false, [.fr v, .fr (.list (txts ns)), .fr (.tuple [n, .tuple zs]), .ow (.list (zs.filter fun d => !memB ns d)), .no, .no]) := by
          generalize zs.filter (fun d => !memB ns d) = F at q
          by_cases h1 : (1 : Int) ≤ zs.length
          · by_cases h2 : (zs.length : Int) ≤ 5
            · simp [ev.eq_1, ev.eq_2, ev.eq_3, ev.eq_4, ev.eq_5, ev.eq_6, ev.eq_7, ev.eq_8, ev.eq_9, ev.eq_10, ev.eq_11, ev.eq_12, ev.eq_13, ev.eq_14, ev.eq_15, ev.eq_16, ev.eq_17, ev.eq_18, ev.eq_19, ev.eq_20, ev.eq_21, evS.eq_1, evS.eq_2, evS.eq_3, evS.eq_4, evS.eq_5, evS.eq_6, evS.eq_9, evS.eq_10, evS.eq_11, evS.eq_12, evS.eq_13, evS.eq_14, evS.eq_15, runF, envOf, slotA, evSs, opn, fetch, evOs, evs, evOI, evAnd, evOr, evIfs, evRs, fetchAll, opIdx, opCmp, opBin, opBlt, opSlc, opMthK, opMth, opLt, kindD, isTy, asB, asI, asL, dOk, atI, ixN, setS, asgT, setAll, setPar, setAt, appAt, ownL, popD, calL, slotsOf, distinct, lend, giveBack, isSl, lents, lentS, killS, wipeP, back, itemsOf, q, rowB, h1, h2]
            · simp [ev.eq_1, ev.eq_2, ev.eq_3, ev.eq_4, ev.eq_5, ev.eq_6, ev.eq_7, ev.eq_8, ev.eq_9, ev.eq_10, ev.eq_11, ev.eq_12, ev.eq_13, ev.eq_14, ev.eq_15, ev.eq_16, ev.eq_17, ev.eq_18, ev.eq_19, ev.eq_20, ev.eq_21, evS.eq_1, evS.eq_2, evS.eq_3, evS.eq_4, evS.eq_5, evS.eq_6, evS.eq_9, evS.eq_10, evS.eq_11, evS.eq_12, evS.eq_13, evS.eq_14, evS.eq_15, runF, envOf, slotA, evSs, opn, fetch, evOs, evs, evOI, evAnd, evOr, evIfs, evRs, fetchAll, opIdx, opCmp, opBin, opBlt, opSlc, opMthK, opMth, opLt, kindD, isTy, asB, asI, asL, dOk, atI, ixN, setS, asgT, setAll, setPar, setAt, appAt, ownL, popD, calL, slotsOf, distinct, lend, giveBack, isSl, lents, lentS, killS, wipeP, back, itemsOf, q, rowB, h1, h2]
          · simp [ev.eq_1, ev.eq_2, ev.eq_3, ev.eq_4, ev.eq_5, ev.eq_6, ev.eq_7, ev.eq_8, ev.eq_9, ev.eq_10, ev.eq_11, ev.eq_12, ev.eq_13, ev.eq_14, ev.eq_15, ev.eq_16, ev.eq_17, ev.eq_18, ev.eq_19, ev.eq_20, ev.eq_21, evS.eq_1, evS.eq_2, evS.eq_3, evS.eq_4, evS.eq_5, evS.eq_6, evS.eq_9, evS.eq_10, evS.eq_11, evS.eq_12, evS.eq_13, evS.eq_14, evS.eq_15, runF, envOf, slotA, evSs, opn, fetch, evOs, evs, evOI, evAnd, evOr, evIfs, evRs, fetchAll, opIdx, opCmp, opBin, opBlt, opSlc, opMthK, opMth, opLt, kindD, isTy, asB, asI, asL, dOk, atI, ixN, setS, asgT, setAll, setPar, setAt, appAt, ownL, popD, calL, slotsOf, distinct, lend, giveBack, isSl, lents, lentS, killS, wipeP, back, itemsOf, q, rowB, h1]
        cases hm : (rowB (.tuple zs) 1 5 && zs.all (memB ns)) with
        | false =>
          rw [hm] at c2
          have jb : jobB ns (.tuple [n, .tuple zs]) = false := by
            show (nameB n && (rowB (.tuple zs) 1 5 && (zs.all (memB ns) && _))) = false
            rw [← Bool.and_assoc (rowB (.tuple zs) 1 5), hm, Bool.false_and, Bool.and_false]
          rw [jb]
          exact (step_of hA (ife_f c1 (evSs_cons t' (ife_t c2 (ret_cst _ _ _))))).trans rfl
        | true =>
          rw [hm] at c2
          have jb : jobB ns (.tuple [n, .tuple zs]) = decide ((dedupS (strsOf zs)).length = zs.length) := by
            show (nameB n && (rowB (.tuple zs) 1 5 && (zs.all (memB ns) && _))) = _
            rw [← Bool.and_assoc (rowB (.tuple zs) 1 5), hm, bn, Bool.true_and, Bool.true_and]
            rfl
          rw [jb]
          rw [Bool.and_eq_true] at hm
          obtain ⟨_, hz, z1, z2⟩ := row_tup hm.1
          cases hz
          have ez := mem_txts hm.2
          have el : (strsOf zs).length < 64 := by rw [← txts_len, ← ez]; omega
          have em2 : zs.mapM asS = some (strsOf zs) := by
            have := mapM_strs (strsOf zs)
            have q : (strsOf zs).map PyData.str = zs := ez.symm
            rw [q] at this
            exact this
          have hle : (dedupS (strsOf zs)).length ≤ zs.length := by
            have := dedup_le (strsOf zs)
            have h9 : (strsOf zs).length = zs.length := by rw [← txts_len, ← ez]
            omega
          have c3 : ev call (.cmp .lt (.blt .lset [.idx (.var 2) (.cst (.int 1))]) (.blt .len [.idx (.var 2) (.cst (.int 1))])) [.fr v, .fr (.list (txts ns)), .fr (.tuple [n, .tuple zs]), .ow (.list (zs.filter fun d => !memB ns d)), .no, .no] = some (.bool (!decide ((dedupS (strsOf zs)).length = zs.length)), false, [.fr v, .fr (.list (txts ns)), .fr (.tuple [n, .tuple zs]), .ow (.list (zs.filter fun d => !memB ns d)), .no, .no]) := by
            generalize zs.filter (fun d => !memB ns d) = F
            have e : decide (((dedupS (strsOf zs)).length : Int) < (zs.length : Int)) = !decide ((dedupS (strsOf zs)).length = zs.length) := by
              by_cases hq : (dedupS (strsOf zs)).length = zs.length
              · simp [hq]
              · have : ((dedupS (strsOf zs)).length : Int) < (zs.length : Int) := by omega
                rw [decide_eq_true this, decide_eq_false hq]; rfl
            rw [← e]
            simp [ev.eq_1, ev.eq_2, ev.eq_3, ev.eq_4, ev.eq_5, ev.eq_6, ev.eq_7, ev.eq_8, ev.eq_9, ev.eq_10, ev.eq_11, ev.eq_12, ev.eq_13, ev.eq_14, ev.eq_15, ev.eq_16, ev.eq_17, ev.eq_18, ev.eq_19, ev.eq_20, ev.eq_21, evS.eq_1, evS.eq_2, evS.eq_3, evS.eq_4, evS.eq_5, evS.eq_6, evS.eq_9, evS.eq_10, evS.eq_11, evS.eq_12, evS.eq_13, evS.eq_14, evS.eq_15, runF, envOf, slotA, evSs, opn, fetch, evOs, evs, evOI, evAnd, evOr, evIfs, evRs, fetchAll, opIdx, opCmp, opBin, opBlt, opSlc, opMthK, opMth, opLt, kindD, isTy, asB, asI, asL, dOk, atI, ixN, setS, asgT, setAll, setPar, setAt, appAt, ownL, popD, calL, slotsOf, distinct, lend, giveBack, isSl, lents, lentS, killS, wipeP, back, itemsOf, em2, el]
          cases hq : decide ((dedupS (strsOf zs)).length = zs.length) with
          | false =>
            rw [hq] at c3
            exact (step_of hA (ife_f c1 (evSs_cons t' (ife_f c2 (ife_t c3 (ret_cst _ _ _)))))).trans rfl
          | true =>
            rw [hq] at c3
            exact (step_of hA (ife_f c1 (evSs_cons t' (ife_f c2 (ife_f c3 (evSs_nil _ _)))))).trans rfl
    · have pl : pyEq (.int ds.length) (.int 2) = some false := by
        rw [pyEq_int]
        congr 1
        rw [decide_eq_false_iff_not]
        omega
      have jb : jobB ns (.tuple ds) = false := job_len (by simp only [rowB]; simp; omega)
      rw [jb]
      refine (step_of hA (ife_t (ρ1 := [.fr v, .fr (.list (txts ns)), .fr (.tuple ds), .no, .no, .no]) (w := false) ?_ (ret_cst _ _ _))).trans rfl
      simp [ev.eq_1, ev.eq_2, ev.eq_3, ev.eq_4, ev.eq_5, ev.eq_6, ev.eq_7, ev.eq_8, ev.eq_9, ev.eq_10, ev.eq_11, ev.eq_12, ev.eq_13, ev.eq_14, ev.eq_15, ev.eq_16, ev.eq_17, ev.eq_18, ev.eq_19, ev.eq_20, ev.eq_21, evS.eq_1, evS.eq_2, evS.eq_3, evS.eq_4, evS.eq_5, evS.eq_6, evS.eq_9, evS.eq_10, evS.eq_11, evS.eq_12, evS.eq_13, evS.eq_14, evS.eq_15, runF, envOf, slotA, evSs, opn, fetch, evOs, evs, evOI, evAnd, evOr, evIfs, evRs, fetchAll, opIdx, opCmp, opBin, opBlt, opSlc, opMthK, opMth, opLt, kindD, isTy, asB, asI, asL, dOk, atI, ixN, setS, asgT, setAll, setPar, setAt, appAt, ownL, popD, calL, slotsOf, distinct, lend, giveBack, isSl, lents, lentS, killS, wipeP, back, itemsOf, pl]
theorem j_loop {call : Call} (hN : NameE call 22) (v : D) (ns : List Str) : ∀ (rows : List D), (∀ d ∈ rows, Good d) →
    forL (jStep call) rows [.fr v, .fr (.list (txts ns)), .no, .no, .no, .no] = some (if rows.all (jobB ns) = true then .nx else .rt (.bool false) false, [.fr v, .fr (.list (txts ns)), .no, .no, .no, .no])
  | [], _ => rfl
  | r :: rs, hg => by
    have e := j_step hN v ns r (hg r List.mem_cons_self)
    rw [forL, e, List.all_cons]
    cases hb : jobB ns r with
    | false => rfl
    | true =>
      simp only [if_true, Bool.true_and]
      exact j_loop hN v ns rs fun d hd => hg d (List.mem_cons_of_mem _ hd)
theorem heads_atI {ds : List D} {i : Int} (hh : ∀ d ∈ ds, headS d) (h0 : 0 ≤ i) (h1 : i < ds.length) : ∃ d, atI ds i = some d ∧ opIdx d (.int 0) = some (.str ((ds.map nmOf).getD i.toNat "")) := by
  have hi : i.toNat < ds.length := by omega
  refine ⟨ds[i.toNat], ?_, ?_⟩
  · simp only [atI, ixN, h0, if_true, h1, Option.bind_some]
    rw [List.getElem?_eq_getElem hi]
  · obtain ⟨n, r, e⟩ := hh ds[i.toNat] (List.getElem_mem hi)
    rw [List.getD_eq_getElem?_getD, List.getElem?_map, List.getElem?_eq_getElem hi, e]
    have hq : (0 : Int) < ((.str n :: r : List D).length : Int) := by simp only [List.length_cons]; omega
    simp [opIdx, atI, ixN, nmOf]
theorem j_rise (call : Call) (ds : List D) (ns : List Str) (hl : ds.length ≤ 100) (hh : ∀ d ∈ ds, headS d) : ev call (.lc (.var 5) (.nm 5) .rng2 [.cst (.int 1), .blt .len [.var 0]] [.cmp .le (.idx (.idx (.var 0) (.var 5)) (.cst (.int 0))) (.idx (.idx (.var 0) (.bin .sub (.var 5) (.cst (.int 1)))) (.cst (.int 0)))] [5]) [.fr (.tuple ds), .fr (.list (txts ns)), .no, .no, .no, .no] = some (.list ((rngD 1 (ds.map nmOf).length).filter (fallP (ds.map nmOf))), true, [.fr (.tuple ds), .fr (.list (txts ns)), .no, .no, .no, .no]) := by
  have hs : smallI (ds.length : Int) = true := by simp only [smallI, Bool.and_eq_true, decide_eq_true_eq]; omega
  have hL : (rngD 1 ds.length).length ≤ LIM := by
    have : (rngD 1 ds.length).length ≤ 100 := by simp [rngD]; omega
    exact goodL this
  rw [List.length_map]
  have t2 := ev_lcF (call := call) (e := .var 5) (c := .cmp .le (.idx (.idx (.var 0) (.var 5)) (.cst (.int 0))) (.idx (.idx (.var 0) (.bin .sub (.var 5) (.cst (.int 1)))) (.cst (.int 0)))) (f := id) (p := fallP (ds.map nmOf)) (tg := .nm 5) (k := .rng2) (its := [.cst (.int 1), .blt .len [.var 0]]) (own := [5]) (ρ := [.fr (.tuple ds), .fr (.list (txts ns)), .no, .no, .no, .no]) (ρ1 := [.fr (.tuple ds), .fr (.list (txts ns)), .no, .no, .no, .no]) (ds := [.int 1, .int ds.length]) (items := rngD 1 ds.length) (by simp [ev.eq_1, ev.eq_2, ev.eq_3, ev.eq_4, ev.eq_5, ev.eq_6, ev.eq_7, ev.eq_8, ev.eq_9, ev.eq_10, ev.eq_11, ev.eq_12, ev.eq_13, ev.eq_14, ev.eq_15, ev.eq_16, ev.eq_17, ev.eq_18, ev.eq_19, ev.eq_20, ev.eq_21, evS.eq_1, evS.eq_2, evS.eq_3, evS.eq_4, evS.eq_5, evS.eq_6, evS.eq_9, evS.eq_10, evS.eq_11, evS.eq_12, evS.eq_13, evS.eq_14, evS.eq_15, runF, envOf, slotA, evSs, opn, fetch, evOs, evs, evOI, evAnd, evOr, evIfs, evRs, fetchAll, opIdx, opCmp, opBin, opBlt, opSlc, opMthK, opMth, opLt, kindD, isTy, asB, asI, asL, dOk, atI, ixN, setS, asgT, setAll, setPar, setAt, appAt, ownL, popD, calL, slotsOf, distinct, lend, giveBack, isSl, lents, lentS, killS, wipeP, back, itemsOf]) (by
    simp only [itemsOf, hs, show smallI 1 = true from by decide, Bool.and_self, if_true]) (fun z hz => by
    obtain ⟨i, rfl, i1, i2⟩ := rng2_get hz
    refine ⟨[.fr (.tuple ds), .fr (.list (txts ns)), .no, .no, .no, .fr (.int i)], [.fr (.tuple ds), .fr (.list (txts ns)), .no, .no, .no, .fr (.int i)], false, rfl, ?_, rfl, fun _ => ⟨[.fr (.tuple ds), .fr (.list (txts ns)), .no, .no, .no, .fr (.int i)], false, ?_, rfl⟩⟩
    · obtain ⟨d1, a1, b1⟩ := heads_atI (i := i) hh (by omega) i2
      obtain ⟨d2, a2, b2⟩ := heads_atI (i := i - 1) hh (by omega) (by omega)
      have e3 : (i - 1).toNat = i.toNat - 1 := by omega
      rw [e3] at b2
      have o1 : opIdx (.tuple ds) (.int i) = some d1 := a1
      have o2 : opIdx (.tuple ds) (.int (i - 1)) = some d2 := a2
      simp only [ev.eq_4, ev.eq_13, ev.eq_3, ev.eq_1, opn, List.getElem?_cons_succ, List.getElem?_cons_zero, Option.bind_eq_bind, Option.bind_some, fetch, o1, o2, b1, b2, opBin, opCmp, Option.pure_def, fallP]
    · simp [ev.eq_2]) hL
  rw [List.map_id] at t2
  exact t2
theorem jobs_ev {call : Call} (hN : NameE call 22) (d : D) (ns : List Str) (hd : Good d) : runF call x__law_are_jobs [(d, false), (.list (txts ns), false)] = some (.bool (rowB d 0 4 && ((itemsD d).all (jobB ns) && ascS ((itemsD d).map nmOf))), false, [.no, .no]) := by
  cases d with
  | tuple ds =>
    obtain ⟨hl, hg⟩ := hd.tup
    have c : ev call (.or [.not (.isi (.var 0) .tuple), .cmp .gt (.blt .len [.var 0]) (.cst (.int 4))]) [.fr (.tuple ds), .fr (.list (txts ns)), .no, .no, .no, .no] = some (.bool (!(rowB (.tuple ds) 0 4)), false, [.fr (.tuple ds), .fr (.list (txts ns)), .no, .no, .no, .no]) := by
      by_cases h2 : (ds.length : Int) ≤ 4
      · have h3 : ¬ (4 : Int) < ds.length := by omega
        simp [ev.eq_1, ev.eq_2, ev.eq_3, ev.eq_4, ev.eq_5, ev.eq_6, ev.eq_7, ev.eq_8, ev.eq_9, ev.eq_10, ev.eq_11, ev.eq_12, ev.eq_13, ev.eq_14, ev.eq_15, ev.eq_16, ev.eq_17, ev.eq_18, ev.eq_19, ev.eq_20, ev.eq_21, evS.eq_1, evS.eq_2, evS.eq_3, evS.eq_4, evS.eq_5, evS.eq_6, evS.eq_9, evS.eq_10, evS.eq_11, evS.eq_12, evS.eq_13, evS.eq_14, evS.eq_15, runF, envOf, slotA, evSs, opn, fetch, evOs, evs, evOI, evAnd, evOr, evIfs, evRs, fetchAll, opIdx, opCmp, opBin, opBlt, opSlc, opMthK, opMth, opLt, kindD, isTy, asB, asI, asL, dOk, atI, ixN, setS, asgT, setAll, setPar, setAt, appAt, ownL, popD, calL, slotsOf, distinct, lend, giveBack, isSl, lents, lentS, killS, wipeP, back, itemsOf, rowB, h2, h3]
      · have h3 : (4 : Int) < ds.length := by omega
        simp [ev.eq_1, ev.eq_2, ev.eq_3, ev.eq_4, ev.eq_5, ev.eq_6, ev.eq_7, ev.eq_8, ev.eq_9, ev.eq_10, ev.eq_11, ev.eq_12, ev.eq_13, ev.eq_14, ev.eq_15, ev.eq_16, ev.eq_17, ev.eq_18, ev.eq_19, ev.eq_20, ev.eq_21, evS.eq_1, evS.eq_2, evS.eq_3, evS.eq_4, evS.eq_5, evS.eq_6, evS.eq_9, evS.eq_10, evS.eq_11, evS.eq_12, evS.eq_13, evS.eq_14, evS.eq_15, runF, envOf, slotA, evSs, opn, fetch, evOs, evs, evOI, evAnd, evOr, evIfs, evRs, fetchAll, opIdx, opCmp, opBin, opBlt, opSlc, opMthK, opMth, opLt, kindD, isTy, asB, asI, asL, dOk, atI, ixN, setS, asgT, setAll, setPar, setAt, appAt, ownL, popD, calL, slotsOf, distinct, lend, giveBack, isSl, lents, lentS, killS, wipeP, back, itemsOf, rowB, h2, h3]
    show runF call x__law_are_jobs _ = some (.bool (rowB (.tuple ds) 0 4 && (ds.all (jobB ns) && ascS (ds.map nmOf))), false, _)
    cases hr : rowB (.tuple ds) 0 4 with
    | false =>
      rw [hr] at c
      exact runF_rt rfl (ife_t c (ret_cst _ _ _)) rfl
    | true =>
      rw [hr] at c
      have e := j_loop hN (.tuple ds) ns ds hg
      have f : evS call (.for (.nm 2) .seq [.var 0] [.ife (.or [.not (.isi (.var 2) .tuple), .cmp .ne (.blt .len [.var 2]) (.cst (.int 2)), .not (.cal 22 [.idx (.var 2) (.cst (.int 0))] []), .not (.isi (.idx (.var 2) (.cst (.int 1))) .tuple)]) [.ret (.cst (.bool false))] [], .asg (.nm 3) (.lc (.var 4) (.nm 4) .seq [.idx (.var 2) (.cst (.int 1))] [.or [.not (.isi (.var 4) .str), .cmp .notIn (.var 4) (.var 1)]] [4]), .ife (.or [.not (.chain .le .le (.cst (.int 1)) (.blt .len [.idx (.var 2) (.cst (.int 1))]) (.cst (.int 5))), .cmp .ne (.var 3) (.lst [])]) [.ret (.cst (.bool false))] [], .ife (.cmp .lt (.blt .lset [.idx (.var 2) (.cst (.int 1))]) (.blt .len [.idx (.var 2) (.cst (.int 1))])) [.ret (.cst (.bool false))] []] [2, 3]) [.fr (.tuple ds), .fr (.list (txts ns)), .no, .no, .no, .no] = _ := evS_for (ds := [.tuple ds]) (items := ds) (by simp [evs, ev.eq_2]) rfl e
      cases ha : ds.all (jobB ns) with
      | false =>
        rw [ha] at f
        exact runF_rt rfl (ife_f c (evSs_rt f)) rfl
      | true =>
        rw [ha] at f
        have t := j_rise call ds ns hl fun d hd => job_head (List.all_eq_true.mp ha d hd)
        have q : pyEq (.list ((rngD 1 (ds.map nmOf).length).filter (fallP (ds.map nmOf)))) (.list []) = some (ascS (ds.map nmOf)) := by
          rw [pyEq_nil fun z hz => rng_good (List.mem_filter.mp hz).1, rise_eq]
        have t3 := (rise_3 (ds := ds) (a := 0) (b := 0) t (fun _ z => by cases z) q).1
        exact runF_rt (ρ := [.fr (.tuple ds), .fr (.list (txts ns)), .no, .no, .no, .no]) rfl (ife_f c (evSs_cons f (ret_ev (fun i z => by cases z) t3))) rfl
  | dict kvs => exact absurd hd (by simp [Good, Nc])
  | _ => simp [x__law_are_jobs, ev.eq_1, ev.eq_2, ev.eq_3, ev.eq_4, ev.eq_5, ev.eq_6, ev.eq_7, ev.eq_8, ev.eq_9, ev.eq_10, ev.eq_11, ev.eq_12, ev.eq_13, ev.eq_14, ev.eq_15, ev.eq_16, ev.eq_17, ev.eq_18, ev.eq_19, ev.eq_20, ev.eq_21, evS.eq_1, evS.eq_2, evS.eq_3, evS.eq_4, evS.eq_5, evS.eq_6, evS.eq_9, evS.eq_10, evS.eq_11, evS.eq_12, evS.eq_13, evS.eq_14, evS.eq_15, runF, envOf, slotA, evSs, opn, fetch, evOs, evs, evOI, evAnd, evOr, evIfs, evRs, fetchAll, opIdx, opCmp, opBin, opBlt, opSlc, opMthK, opMth, opLt, kindD, isTy, asB, asI, asL, dOk, atI, ixN, setS, asgT, setAll, setPar, setAt, appAt, ownL, popD, calL, slotsOf, distinct, lend, giveBack, isSl, lents, lentS, killS, wipeP, back, itemsOf, rowB]
def JobsE (call : Call) : Prop := ∀ (d : D) (ns : List Str), Good d → call 25 [(d, false), (.list (txts ns), false)] = some (.bool (rowB d 0 4 && ((itemsD d).all (jobB ns) && ascS ((itemsD d).map nmOf))), false, [.no, .no])
theorem l_jobs (k : Nat) : JobsE (callN fs (k + 2)) := fun d ns h => jobs_ev (l_lname k) d ns h
/-! works -/
theorem worksB_eq (ss rs js : D) : worksB (.tuple [ss, rs, js]) = (namesB ss 1 3 && (rowB rs 1 5 && ((itemsD rs).all thingB && (rowB js 0 4 && (thingsB (strsOf (itemsD ss)) (itemsD rs) && ((itemsD js).all (jobB ((itemsD rs).map nmOf)) && ascS ((itemsD js).map nmOf))))))) := rfl
theorem lworks_ev {call : Call} (hR : AreE call 23) (hT : ThingsE call) (hJ : JobsE call) (d : D) (hd : Good d) : runF call x__law_is_works [(d, false)] = some (.bool (worksB d), false, [.no]) := by
  by_cases ht : ¬ ∃ ds, d = .tuple ds
  · have hw : worksB d = false := by cases d <;> first | rfl | exact absurd ⟨_, rfl⟩ ht
    have hk : kindD d ≠ 6 := by
      cases d with
      | dict kvs => exact absurd hd (by simp [Good, Nc])
      | _ => simp [kindD]
    have hty : isTy .tuple d = false := by
      cases d <;> first | rfl | exact absurd ⟨_, rfl⟩ ht
    rw [hw]
    have e1 : ev call (.not (.isi (.var 0) .tuple)) [.fr d, .no] = some (.bool true, false, [.fr d, .no]) := by
      simp only [ev.eq_8, ev.eq_21, opn, List.getElem?_cons_succ, List.getElem?_cons_zero, Option.bind_eq_bind, Option.bind_some, fetch, hk, if_false, hty, asB, Option.pure_def, Bool.not_false]
    refine runF_rt (ρ := [.fr d, .no]) rfl (ife_t (ρ1 := [.fr d, .no]) (w := false) ?_ (ret_cst _ _ _)) rfl
    show ev call _ [.fr d, .no] = _
    rw [ev.eq_7]
    simp only [evOr, e1, Option.bind_eq_bind, Option.bind_some, asB, if_true, Option.pure_def]
  obtain ⟨ds, rfl⟩ := Classical.not_not.mp ht
  obtain ⟨hl, hg⟩ := hd.tup
  by_cases h3 : ds.length = 3
  · obtain ⟨ss, rs, js, rfl⟩ := len3 h3
    have gs := hg ss (by simp)
    have gr := hg rs (by simp)
    have gj := hg js (by simp)
    have es := hR ss gs 1 3
    have pl : pyEq (.int 3) (.int 3) = some true := by rw [pyEq_int]; rfl
    have c : ev call (.or [.not (.isi (.var 0) .tuple), .cmp .ne (.blt .len [.var 0]) (.cst (.int 3)), .not (.cal 23 [.idx (.var 0) (.cst (.int 0)), .cst (.int 1), .cst (.int 3)] [])]) [.fr (.tuple [ss, rs, js]), .no] = some (.bool (!(namesB ss 1 3)), false, [.fr (.tuple [ss, rs, js]), .no]) := by
      simp [ev.eq_1, ev.eq_2, ev.eq_3, ev.eq_4, ev.eq_5, ev.eq_6, ev.eq_7, ev.eq_8, ev.eq_9, ev.eq_10, ev.eq_11, ev.eq_12, ev.eq_13, ev.eq_14, ev.eq_15, ev.eq_16, ev.eq_17, ev.eq_18, ev.eq_19, ev.eq_20, ev.eq_21, evS.eq_1, evS.eq_2, evS.eq_3, evS.eq_4, evS.eq_5, evS.eq_6, evS.eq_9, evS.eq_10, evS.eq_11, evS.eq_12, evS.eq_13, evS.eq_14, evS.eq_15, runF, envOf, slotA, evSs, opn, fetch, evOs, evs, evOI, evAnd, evOr, evIfs, evRs, fetchAll, opIdx, opCmp, opBin, opBlt, opSlc, opMthK, opMth, opLt, kindD, isTy, asB, asI, asL, dOk, atI, ixN, setS, asgT, setAll, setPar, setAt, appAt, ownL, popD, calL, slotsOf, distinct, lend, giveBack, isSl, lents, lentS, killS, wipeP, back, itemsOf, pl, es]
    cases bs : namesB ss 1 3 with
    | false =>
      rw [bs] at c
      have hw : worksB (.tuple [ss, rs, js]) = false := by rw [worksB_eq, bs]; rfl
      rw [hw]
      exact runF_rt rfl (ife_t c (ret_cst _ _ _)) rfl
    | true =>
    rw [bs] at c
    obtain ⟨ns, rfl, hnn, hna, hn1, hn2⟩ := names_of bs
    have et := hT rs ns gr (by omega)
    have c2 : ev call (.not (.cal 24 [.idx (.var 0) (.cst (.int 1)), .blt .list [.idx (.var 0) (.cst (.int 0))]] [])) [.fr (.tuple [.tuple (txts ns), rs, js]), .no] = some (.bool (!(rowB rs 1 5 && allT ns (itemsD rs))), false, [.fr (.tuple [.tuple (txts ns), rs, js]), .no]) := by
      simp [ev.eq_1, ev.eq_2, ev.eq_3, ev.eq_4, ev.eq_5, ev.eq_6, ev.eq_7, ev.eq_8, ev.eq_9, ev.eq_10, ev.eq_11, ev.eq_12, ev.eq_13, ev.eq_14, ev.eq_15, ev.eq_16, ev.eq_17, ev.eq_18, ev.eq_19, ev.eq_20, ev.eq_21, evS.eq_1, evS.eq_2, evS.eq_3, evS.eq_4, evS.eq_5, evS.eq_6, evS.eq_9, evS.eq_10, evS.eq_11, evS.eq_12, evS.eq_13, evS.eq_14, evS.eq_15, runF, envOf, slotA, evSs, opn, fetch, evOs, evs, evOI, evAnd, evOr, evIfs, evRs, fetchAll, opIdx, opCmp, opBin, opBlt, opSlc, opMthK, opMth, opLt, kindD, isTy, asB, asI, asL, dOk, atI, ixN, setS, asgT, setAll, setPar, setAt, appAt, ownL, popD, calL, slotsOf, distinct, lend, giveBack, isSl, lents, lentS, killS, wipeP, back, itemsOf, et]
    have hw : worksB (.tuple [.tuple (txts ns), rs, js]) = ((rowB rs 1 5 && allT ns (itemsD rs)) && (rowB js 0 4 && ((itemsD js).all (jobB ((itemsD rs).map nmOf)) && ascS ((itemsD js).map nmOf)))) := by
      rw [worksB_eq, bs, allT_eq]
      show (true && (rowB rs 1 5 && ((itemsD rs).all thingB && (rowB js 0 4 && (thingsB (strsOf (txts ns)) (itemsD rs) && ((itemsD js).all (jobB ((itemsD rs).map nmOf)) && ascS ((itemsD js).map nmOf))))))) = _
      rw [strsOf_txts]
      cases rowB rs 1 5 <;> cases (itemsD rs).all thingB <;> cases rowB js 0 4 <;> cases thingsB ns (itemsD rs) <;> rfl
    rw [hw]
    cases bt : (rowB rs 1 5 && allT ns (itemsD rs)) with
    | false =>
      rw [bt] at c2
      exact runF_rt rfl (ife_f c (ife_t c2 (ret_cst _ _ _))) rfl
    | true =>
    rw [bt] at c2
    rw [allT_eq] at bt
    simp only [Bool.and_eq_true] at bt
    obtain ⟨rows, rfl, hr1, hr2⟩ := row_tup bt.1
    have bt2 : rows.all thingB = true := bt.2.1
    have hh : ∀ d ∈ rows, headS d := fun d hd => by
      obtain ⟨n, ps, m, rfl, _⟩ := thing_head (List.all_eq_true.mp bt2 d hd)
      exact ⟨n, _, rfl⟩
    have t := heads_ev (call := call) (j := 1) (its := [.idx (.var 0) (.cst (.int 1))]) (own := [1]) (ρ := [.fr (.tuple [.tuple (txts ns), .tuple rows, js]), .no]) (ρ1 := [.fr (.tuple [.tuple (txts ns), .tuple rows, js]), .no]) (v := .none) (by simp [ev.eq_1, ev.eq_2, ev.eq_3, ev.eq_4, ev.eq_5, ev.eq_6, ev.eq_7, ev.eq_8, ev.eq_9, ev.eq_10, ev.eq_11, ev.eq_12, ev.eq_13, ev.eq_14, ev.eq_15, ev.eq_16, ev.eq_17, ev.eq_18, ev.eq_19, ev.eq_20, ev.eq_21, evS.eq_1, evS.eq_2, evS.eq_3, evS.eq_4, evS.eq_5, evS.eq_6, evS.eq_9, evS.eq_10, evS.eq_11, evS.eq_12, evS.eq_13, evS.eq_14, evS.eq_15, runF, envOf, slotA, evSs, opn, fetch, evOs, evs, evOI, evAnd, evOr, evIfs, evRs, fetchAll, opIdx, opCmp, opBin, opBlt, opSlc, opMthK, opMth, opLt, kindD, isTy, asB, asI, asL, dOk, atI, ixN, setS, asgT, setAll, setPar, setAt, appAt, ownL, popD, calL, slotsOf, distinct, lend, giveBack, isSl, lents, lentS, killS, wipeP, back, itemsOf]) hh (by omega) (fun d => ⟨_, rfl, rfl, rfl⟩)
    have ej := hJ js (rows.map nmOf) gj
    have t3 : ev call (.cal 25 [.idx (.var 0) (.cst (.int 2)), .lc (.idx (.var 1) (.cst (.int 0))) (.nm 1) .seq [.idx (.var 0) (.cst (.int 1))] [] [1]] []) [.fr (.tuple [.tuple (txts ns), .tuple rows, js]), .no] = some (.bool (rowB js 0 4 && ((itemsD js).all (jobB (rows.map nmOf)) && ascS ((itemsD js).map nmOf))), false, [.fr (.tuple [.tuple (txts ns), .tuple rows, js]), .no]) := by
      have o2 : opn (.lc (.idx (.var 1) (.cst (.int 0))) (.nm 1) .seq [.idx (.var 0) (.cst (.int 1))] [] [1]) (ev call (.lc (.idx (.var 1) (.cst (.int 0))) (.nm 1) .seq [.idx (.var 0) (.cst (.int 1))] [] [1])) [.fr (.tuple [.tuple (txts ns), .tuple rows, js]), .no] = some (.dv (.list (txts (rows.map nmOf))), [.fr (.tuple [.tuple (txts ns), .tuple rows, js]), .no]) := by
        simp only [opn, t, Option.bind_eq_bind, Option.bind_some, Option.pure_def]
        rfl
      have o1 : opn (.idx (.var 0) (.cst (.int 2))) (ev call (.idx (.var 0) (.cst (.int 2)))) [.fr (.tuple [.tuple (txts ns), .tuple rows, js]), .no] = some (.dv js, [.fr (.tuple [.tuple (txts ns), .tuple rows, js]), .no]) := by
        simp [ev.eq_1, ev.eq_2, ev.eq_3, ev.eq_4, ev.eq_5, ev.eq_6, ev.eq_7, ev.eq_8, ev.eq_9, ev.eq_10, ev.eq_11, ev.eq_12, ev.eq_13, ev.eq_14, ev.eq_15, ev.eq_16, ev.eq_17, ev.eq_18, ev.eq_19, ev.eq_20, ev.eq_21, evS.eq_1, evS.eq_2, evS.eq_3, evS.eq_4, evS.eq_5, evS.eq_6, evS.eq_9, evS.eq_10, evS.eq_11, evS.eq_12, evS.eq_13, evS.eq_14, evS.eq_15, runF, envOf, slotA, evSs, opn, fetch, evOs, evs, evOI, evAnd, evOr, evIfs, evRs, fetchAll, opIdx, opCmp, opBin, opBlt, opSlc, opMthK, opMth, opLt, kindD, isTy, asB, asI, asL, dOk, atI, ixN, setS, asgT, setAll, setPar, setAt, appAt, ownL, popD, calL, slotsOf, distinct, lend, giveBack, isSl, lents, lentS, killS, wipeP, back, itemsOf]
      rw [ev.eq_16]
      simp only [evOs, o1, o2, Option.bind_eq_bind, Option.bind_some, Option.pure_def, List.map_nil, List.append_nil]
      simp [calL, slotsOf, distinct, lend, giveBack, isSl, fetch, ej]
    exact runF_rt (ρ := [.fr (.tuple [.tuple (txts ns), .tuple rows, js]), .no]) rfl (ife_f c (ife_f c2 (ret_ev (fun i z => by cases z) t3))) rfl
  · have pl : pyEq (.int ds.length) (.int 3) = some false := by
      rw [pyEq_int]
      congr 1
      rw [decide_eq_false_iff_not]
      omega
    have hw : worksB (.tuple ds) = false := works_len (by simp only [rowB]; simp; omega)
    rw [hw]
    refine runF_rt (ρ := [.fr (.tuple ds), .no]) rfl (ife_t (ρ1 := [.fr (.tuple ds), .no]) (w := false) ?_ (ret_cst _ _ _)) rfl
    show ev call _ [.fr (.tuple ds), .no] = _
    simp [ev.eq_1, ev.eq_2, ev.eq_3, ev.eq_4, ev.eq_5, ev.eq_6, ev.eq_7, ev.eq_8, ev.eq_9, ev.eq_10, ev.eq_11, ev.eq_12, ev.eq_13, ev.eq_14, ev.eq_15, ev.eq_16, ev.eq_17, ev.eq_18, ev.eq_19, ev.eq_20, ev.eq_21, evS.eq_1, evS.eq_2, evS.eq_3, evS.eq_4, evS.eq_5, evS.eq_6, evS.eq_9, evS.eq_10, evS.eq_11, evS.eq_12, evS.eq_13, evS.eq_14, evS.eq_15, runF, envOf, slotA, evSs, opn, fetch, evOs, evs, evOI, evAnd, evOr, evIfs, evRs, fetchAll, opIdx, opCmp, opBin, opBlt, opSlc, opMthK, opMth, opLt, kindD, isTy, asB, asI, asL, dOk, atI, ixN, setS, asgT, setAll, setPar, setAt, appAt, ownL, popD, calL, slotsOf, distinct, lend, giveBack, isSl, lents, lentS, killS, wipeP, back, itemsOf, pl]
theorem l_lworks (k : Nat) (d : D) (h : Good d) : callN fs (k + 4) 26 [(d, false)] = some (.bool (worksB d), false, [.no]) := lworks_ev (l_rise (k + 1)) (l_things k) (l_jobs (k + 1)) d h
end CL

set_option Elab.async false
set_option linter.all false
set_option maxRecDepth 100000
set_option maxHeartbeats 2000000
namespace CL
open PySem PV
/-! ### drawn works are small -/
theorem names_small : ∀ x ∈ NAMES, nameB (.str x) = true ∧ x.length ≤ 90 := by decide +kernel
theorem modes_small : ∀ x ∈ MODES, x.length ≤ 90 := by decide +kernel
structure WS (W : Works) : Prop where
  ss : ∀ x ∈ W.ss, x ∈ NAMES
  rs : ∀ r ∈ W.rows, r.1 ∈ NAMES
  js : ∀ j ∈ W.jobs, j.1 ∈ NAMES
  ne : W.ss ≠ []
  small : Nb 4 (worksD W)
theorem nb_txts {xs : List Str} (h : ∀ x ∈ xs, x ∈ NAMES) (hl : xs.length ≤ 90) : Nb 1 (.tuple (txts xs)) := by
  refine ⟨by rw [txts_len]; exact hl, fun d hd => ?_⟩
  obtain ⟨x, hx, rfl⟩ := List.mem_map.mp hd
  exact (names_small x (h x hx)).2
theorem ws_of {sn tn jn : Int} {W : Works} (h : WOk sn tn jn W) (h1 : 1 ≤ sn) (h2 : sn ≤ 3) (h3 : 1 ≤ tn) (h4 : tn ≤ 5) (h5 : jn ≤ 4) : WS W := by
  obtain ⟨ss0, hs0, ts0, ht0, e1, e2, hr, ⟨m, hm, e3⟩, hj⟩ := h.ex
  have ssN : ∀ x ∈ W.ss, x ∈ NAMES := fun x hx => by rw [e1] at hx; exact ss_names hs0 x (List.mem_of_mem_take hx)
  have tsN : ∀ x ∈ ts0, x ∈ NAMES := ts_names ht0
  have rsN : ∀ r ∈ W.rows, r.1 ∈ NAMES := fun r hr' => by
    have : r.1 ∈ W.rows.map (·.1) := List.mem_map.mpr ⟨r, hr', rfl⟩
    rw [e2] at this
    exact tsN _ (List.mem_of_mem_take this)
  have jsN : ∀ j ∈ W.jobs, j.1 ∈ NAMES := fun j hj' => by
    have : j.1 ∈ W.jobs.map (·.1) := List.mem_map.mpr ⟨j, hj', rfl⟩
    rw [e3] at this
    exact la_names _ (List.mem_of_mem_take this)
  have lS : W.ss.length ≤ 3 := by rw [e1, List.length_take]; omega
  have lR : W.rows.length ≤ 5 := by
    have := congrArg List.length e2
    rw [List.length_map, List.length_take] at this
    omega
  have lJ : W.jobs.length ≤ 4 := by
    have := congrArg List.length e3
    rw [List.length_map, List.length_take] at this
    have : LABELS.length = 4 := rfl
    omega
  refine ⟨ssN, rsN, jsN, ?_, ?_⟩
  · intro z
    have := congrArg List.length e1
    rw [z, List.length_take, SS_len hs0] at this
    simp at this
    omega
  · refine ⟨by simp, fun d hd => ?_⟩
    simp only [List.mem_cons, List.not_mem_nil, or_false] at hd
    rcases hd with rfl | rfl | rfl
    · exact (nb_txts ssN (by omega)).mono (by decide)
    · refine ⟨by rw [List.length_map]; omega, fun d hd => ?_⟩
      obtain ⟨r, hr', rfl⟩ := List.mem_map.mp hd
      obtain ⟨i, hi⟩ := List.getElem?_of_mem hr'
      have g := hr i r hi
      obtain ⟨ys, y1, y2, y3, y4⟩ := g.parts
      refine ⟨by simp, fun d hd => ?_⟩
      simp only [List.mem_cons, List.not_mem_nil, or_false] at hd
      rcases hd with rfl | rfl | rfl
      · exact (names_small _ (rsN r hr')).2
      · rw [y4]
        refine nb_txts (fun x hx => ?_) (by have := (sort_len y1).2; omega)
        have hx := y3 x (sort_mem.mp hx)
        rcases List.mem_append.mp hx with hx | hx
        · exact ssN x hx
        · exact tsN x (List.mem_of_mem_take hx)
      · exact modes_small _ g.mode
    · refine ⟨by rw [List.length_map]; omega, fun d hd => ?_⟩
      obtain ⟨j, hj', rfl⟩ := List.mem_map.mp hd
      have g := hj j hj'
      refine ⟨by simp, fun d hd => ?_⟩
      simp only [List.mem_cons, List.not_mem_nil, or_false] at hd
      rcases hd with rfl | rfl
      · exact (names_small _ (jsN j hj')).2
      · exact nb_txts (fun x hx => tsN x (List.mem_of_mem_take (g.sub x hx))) (by have := g.len; omega)
/-! ### events -/
def eventsOf (W : Works) : List (List Str) := W.ss.map (fun s => [("change" : Str), s]) ++ W.jobs.map (fun j => [("job" : Str), j.1]) ++ W.rows.map (fun r => [("ask" : Str), r.1])
def evD (e : List Str) : D := .tuple (txts e)
theorem lc_ev1 {call : Call} {k : Str} {j : Nat} {its : List X} {own : List Nat} {ρ ρ1 : Pl} {ds items : List D} {xs : List Str} {e : X} (h1 : evs call its ρ = some (ds, ρ1)) (h2 : itemsOf .seq ds = some items) (hl : items.length ≤ 100) (g : D → Str) (hg : items.map g = xs)
    (ht : ∀ d ∈ items, ∃ ρ2 w, asgT (wipeP ρ1 own) (.nm j) d false = some ρ2 ∧ ev call e ρ2 = some (.str (g d), w, ρ2) ∧ wipeP ρ2 own = wipeP ρ1 own) :
    ev call (.lc (.tup [.cst (.str k), e]) (.nm j) .seq its [] own) ρ = some (.list ((xs.map fun x => [k, x]).map evD), true, back ρ1 (wipeP ρ1 own) own) := by
  have a := ev_lcM (call := call) (e := .tup [.cst (.str k), e]) (f := fun d => evD [k, g d]) (tg := .nm j) (k := .seq) (its := its) (own := own) (ρ := ρ) (ρ1 := ρ1) (ds := ds) (items := items) h1 h2 (fun d hd => by
    obtain ⟨ρ2, w, e1, e2, e3⟩ := ht d hd
    refine ⟨ρ2, ρ2, false, e1, ?_, e3⟩
    simp only [ev.eq_10, evs, ev.eq_1, e2, Option.bind_eq_bind, Option.bind_some, Option.pure_def]
    rfl) (goodL hl)
  rw [a, ← hg, List.map_map, List.map_map]
  rfl
theorem idx0 (call : Call) {ρ : Pl} {j : Nat} {n : Str} {r : List D} (h : ρ[j]? = some (.fr (.tuple (.str n :: r)))) : ev call (.idx (.var j) (.cst (.int 0))) ρ = some (.str n, false, ρ) := by
  simp [ev.eq_13, ev.eq_1, opn, h, fetch, opIdx, atI, ixN]
def EventsE (call : Call) : Prop := ∀ W : Works, WS W → call 18 [(worksD W, false), (.list (txts (W.rows.map (·.1))), false)] = some (.list ((eventsOf W).map evD), true, [.no, .no])
theorem ws_len {W : Works} (h : WS W) : W.ss.length ≤ 90 ∧ W.rows.length ≤ 90 ∧ W.jobs.length ≤ 90 := by
  obtain ⟨_, h2⟩ := nb_tup h.small
  have a := (nb_tup (h2 (.tuple (txts W.ss)) (by simp))).1
  have b := (nb_tup (h2 (.tuple (W.rows.map rowD)) (by simp))).1
  have c := (nb_tup (h2 (.tuple (W.jobs.map jobD)) (by simp))).1
  rw [txts_len] at a
  rw [List.length_map] at b c
  exact ⟨a, b, c⟩
theorem events_ev (call : Call) (W : Works) (h : WS W) : runF call x__law_events [(worksD W, false), (.list (txts (W.rows.map (·.1))), false)] = some (.list ((eventsOf W).map evD), true, [.no, .no]) := by
  obtain ⟨l1, l2, l3⟩ := ws_len h
  generalize hN : txts (W.rows.map (·.1)) = N
  have t1 := lc_ev1 (call := call) (k := "change") (j := 3) (its := [.idx (.var 0) (.cst (.int 0))]) (own := [3]) (ρ := [.fr (worksD W), .fr (.list N), .no, .no, .no, .no]) (ρ1 := [.fr (worksD W), .fr (.list N), .no, .no, .no, .no]) (ds := [.tuple (txts W.ss)]) (items := txts W.ss) (xs := W.ss) (e := .var 3) (by simp [ev.eq_1, ev.eq_2, ev.eq_3, ev.eq_4, ev.eq_5, ev.eq_6, ev.eq_7, ev.eq_8, ev.eq_9, ev.eq_10, ev.eq_11, ev.eq_12, ev.eq_13, ev.eq_14, ev.eq_15, ev.eq_16, ev.eq_17, ev.eq_18, ev.eq_19, ev.eq_20, ev.eq_21, evS.eq_1, evS.eq_2, evS.eq_3, evS.eq_4, evS.eq_5, evS.eq_6, evS.eq_9, evS.eq_10, evS.eq_11, evS.eq_12, evS.eq_13, evS.eq_14, evS.eq_15, runF, envOf, slotA, evSs, opn, fetch, evOs, evs, evOI, evAnd, evOr, evIfs, evRs, fetchAll, opIdx, opCmp, opBin, opBlt, opSlc, opMthK, opMth, opLt, kindD, isTy, asB, asI, asL, dOk, atI, ixN, setS, asgT, setAll, setPar, setAt, appAt, ownL, popD, calL, slotsOf, distinct, lend, giveBack, isSl, lents, lentS, killS, wipeP, back, itemsOf, worksD]) rfl (by rw [txts_len]; omega) (fun d => (asS d).getD "") (by simp [txts, asS, Function.comp_def]) (fun d hd => by
    obtain ⟨x, _, rfl⟩ := List.mem_map.mp hd
    exact ⟨_, false, rfl, rfl, rfl⟩)
  have t2 := lc_ev1 (call := call) (k := "job") (j := 4) (its := [.idx (.var 0) (.cst (.int 2))]) (own := [4]) (ρ := [.fr (worksD W), .fr (.list N), .no, .no, .no, .no]) (ρ1 := [.fr (worksD W), .fr (.list N), .no, .no, .no, .no]) (ds := [.tuple (W.jobs.map jobD)]) (items := W.jobs.map jobD) (xs := W.jobs.map (·.1)) (e := .idx (.var 4) (.cst (.int 0))) (by simp [ev.eq_1, ev.eq_2, ev.eq_3, ev.eq_4, ev.eq_5, ev.eq_6, ev.eq_7, ev.eq_8, ev.eq_9, ev.eq_10, ev.eq_11, ev.eq_12, ev.eq_13, ev.eq_14, ev.eq_15, ev.eq_16, ev.eq_17, ev.eq_18, ev.eq_19, ev.eq_20, ev.eq_21, evS.eq_1, evS.eq_2, evS.eq_3, evS.eq_4, evS.eq_5, evS.eq_6, evS.eq_9, evS.eq_10, evS.eq_11, evS.eq_12, evS.eq_13, evS.eq_14, evS.eq_15, runF, envOf, slotA, evSs, opn, fetch, evOs, evs, evOI, evAnd, evOr, evIfs, evRs, fetchAll, opIdx, opCmp, opBin, opBlt, opSlc, opMthK, opMth, opLt, kindD, isTy, asB, asI, asL, dOk, atI, ixN, setS, asgT, setAll, setPar, setAt, appAt, ownL, popD, calL, slotsOf, distinct, lend, giveBack, isSl, lents, lentS, killS, wipeP, back, itemsOf, worksD]) rfl (by rw [List.length_map]; omega) nmOf (by simp [nmOf, jobD, Function.comp_def]) (fun d hd => by
    obtain ⟨x, _, rfl⟩ := List.mem_map.mp hd
    exact ⟨_, false, rfl, idx0 call rfl, rfl⟩)
  have t3 := fun Z : D => lc_ev1 (call := call) (k := "ask") (j := 5) (its := [.var 1]) (own := [5]) (ρ := [.fr (worksD W), .fr (.list N), .ow Z, .no, .no, .no]) (ρ1 := [.fr (worksD W), .fr (.list N), .ow Z, .no, .no, .no]) (ds := [.list N]) (items := N) (xs := W.rows.map (·.1)) (e := .var 5) (by simp [ev.eq_1, ev.eq_2, ev.eq_3, ev.eq_4, ev.eq_5, ev.eq_6, ev.eq_7, ev.eq_8, ev.eq_9, ev.eq_10, ev.eq_11, ev.eq_12, ev.eq_13, ev.eq_14, ev.eq_15, ev.eq_16, ev.eq_17, ev.eq_18, ev.eq_19, ev.eq_20, ev.eq_21, evS.eq_1, evS.eq_2, evS.eq_3, evS.eq_4, evS.eq_5, evS.eq_6, evS.eq_9, evS.eq_10, evS.eq_11, evS.eq_12, evS.eq_13, evS.eq_14, evS.eq_15, runF, envOf, slotA, evSs, opn, fetch, evOs, evs, evOI, evAnd, evOr, evIfs, evRs, fetchAll, opIdx, opCmp, opBin, opBlt, opSlc, opMthK, opMth, opLt, kindD, isTy, asB, asI, asL, dOk, atI, ixN, setS, asgT, setAll, setPar, setAt, appAt, ownL, popD, calL, slotsOf, distinct, lend, giveBack, isSl, lents, lentS, killS, wipeP, back, itemsOf]) rfl (by rw [← hN, txts_len, List.length_map]; omega) (fun d => (asS d).getD "") (by rw [← hN]; simp [txts, asS, Function.comp_def]) (fun d hd => by
    rw [← hN] at hd
    obtain ⟨x, _, rfl⟩ := List.mem_map.mp hd
    exact ⟨_, false, rfl, rfl, rfl⟩)
  generalize hA : (W.ss.map fun x => [("change" : Str), x]) = A at t1
  generalize hB : ((W.jobs.map (·.1)).map fun x => [("job" : Str), x]) = B at t2
  generalize hC : ((W.rows.map (·.1)).map fun x => [("ask" : Str), x]) = C at t3
  have eO : eventsOf W = A ++ B ++ C := by
    rw [← hA, ← hB, ← hC, List.map_map, List.map_map]
    rfl
  have a1 : A.length ≤ 90 := by rw [← hA, List.length_map]; exact l1
  have a2 : B.length ≤ 90 := by rw [← hB, List.length_map, List.length_map]; exact l3
  have a3 : C.length ≤ 90 := by rw [← hC, List.length_map, List.length_map]; exact l2
  have b1 : (A.map evD).length + (B.map evD).length ≤ LIM := by rw [List.length_map, List.length_map]; unfold LIM; omega
  have b2 : (A.map evD ++ B.map evD).length + (C.map evD).length ≤ LIM := by rw [List.length_append, List.length_map, List.length_map, List.length_map]; unfold LIM; omega
  have s1 : evS call (.asg (.nm 2) (.bin .add (.lc (.tup [.cst (.str "change"), .var 3]) (.nm 3) .seq [.idx (.var 0) (.cst (.int 0))] [] [3]) (.lc (.tup [.cst (.str "job"), .idx (.var 4) (.cst (.int 0))]) (.nm 4) .seq [.idx (.var 0) (.cst (.int 2))] [] [4]))) [.fr (worksD W), .fr (.list N), .no, .no, .no, .no] = some (.nx, [.fr (worksD W), .fr (.list N), .ow (.list (A.map evD ++ B.map evD)), .no, .no, .no]) := by
    rw [evS.eq_1, ev.eq_3]
    simp only [opn, t1, Option.bind_eq_bind, Option.bind_some, Option.pure_def]
    have t2' : ev call (.lc (.tup [.cst (.str "job"), .idx (.var 4) (.cst (.int 0))]) (.nm 4) .seq [.idx (.var 0) (.cst (.int 2))] [] [4]) (back [.fr (worksD W), .fr (.list N), .no, .no, .no, .no] (wipeP [.fr (worksD W), .fr (.list N), .no, .no, .no, .no] [3]) [3]) = _ := t2
    rw [t2']
    simp only [Option.bind_some, fetch, opBin, b1, if_true]
    rfl
  have s2 : ev call (.bin .add (.var 2) (.lc (.tup [.cst (.str "ask"), .var 5]) (.nm 5) .seq [.var 1] [] [5])) [.fr (worksD W), .fr (.list N), .ow (.list (A.map evD ++ B.map evD)), .no, .no, .no] = some (.list ((eventsOf W).map evD), true, [.fr (worksD W), .fr (.list N), .ow (.list (A.map evD ++ B.map evD)), .no, .no, .no]) := by
    rw [ev.eq_3, eO, List.map_append, List.map_append]
    simp only [opn, List.getElem?_cons_succ, List.getElem?_cons_zero, t3, Option.bind_eq_bind, Option.bind_some, Option.pure_def]
    have e5 : (back [.fr (worksD W), .fr (.list N), .ow (.list (A.map evD ++ B.map evD)), .no, .no, .no] (wipeP [.fr (worksD W), .fr (.list N), .ow (.list (A.map evD ++ B.map evD)), .no, .no, .no] [5]) [5]) = [.fr (worksD W), .fr (.list N), .ow (.list (A.map evD ++ B.map evD)), .no, .no, .no] := rfl
    rw [e5]
    simp only [fetch, List.getElem?_cons_succ, List.getElem?_cons_zero, Option.bind_some, opBin, b2, if_true]
  exact runF_rt rfl (evSs_cons s1 (ret_ev (fun i z => by cases z) s2)) rfl
theorem l_events (k : Nat) : EventsE (callN fs (k + 1)) := fun W h => events_ev (callN fs k) W h
def eventB (W : Works) : D → Bool
  | .tuple [.str k, .str n] => decide ([k, n] ∈ eventsOf W)
  | _ => false
end CL

set_option Elab.async false
set_option linter.all false
set_option maxRecDepth 100000
set_option maxHeartbeats 2000000
namespace CL
open PySem PV
theorem mem_events {W : Works} {k n : Str} : [k, n] ∈ eventsOf W ↔ (k = "change" ∧ n ∈ W.ss) ∨ (k = "job" ∧ n ∈ W.jobs.map (·.1)) ∨ (k = "ask" ∧ n ∈ W.rows.map (·.1)) := by
  unfold eventsOf
  simp only [List.mem_append, List.mem_map]
  constructor
  · rintro ((⟨s, h, e⟩ | ⟨s, h, e⟩) | ⟨s, h, e⟩)
    · cases e; exact .inl ⟨rfl, h⟩
    · cases e; exact .inr (.inl ⟨rfl, s, h, rfl⟩)
    · cases e; exact .inr (.inr ⟨rfl, s, h, rfl⟩)
  · rintro (⟨rfl, h⟩ | ⟨rfl, s, h, rfl⟩ | ⟨rfl, s, h, rfl⟩)
    · exact .inl (.inl ⟨_, h, rfl⟩)
    · exact .inl (.inr ⟨_, h, rfl⟩)
    · exact .inr ⟨_, h, rfl⟩
theorem ev_name {W : Works} (h : WS W) {k n : Str} (he : [k, n] ∈ eventsOf W) : nameB (.str n) = true := by
  rcases mem_events.mp he with ⟨_, h1⟩ | ⟨_, h1⟩ | ⟨_, h1⟩
  · exact (names_small _ (h.ss n h1)).1
  · obtain ⟨j, hj, rfl⟩ := List.mem_map.mp h1
    exact (names_small _ (h.js j hj)).1
  · obtain ⟨j, hj, rfl⟩ := List.mem_map.mp h1
    exact (names_small _ (h.rs j hj)).1
theorem not_tup (call : Call) {ρ : Pl} {j : Nat} {d : D} (h : ρ[j]? = some (.fr d)) (gd : Good d) (ht : ¬ ∃ ds, d = .tuple ds) : ev call (.not (.isi (.var j) .tuple)) ρ = some (.bool true, false, ρ) := by
  have hk : kindD d ≠ 6 := by
    cases d with
    | dict kvs => exact absurd gd (by simp [Good, Nc])
    | _ => simp [kindD]
  have hty : isTy .tuple d = false := by
    cases d <;> first | rfl | exact absurd ⟨_, rfl⟩ ht
  simp only [ev.eq_8, ev.eq_21, opn, h, Option.bind_eq_bind, Option.bind_some, fetch, hk, if_false, hty, asB, Option.pure_def, Bool.not_false]
theorem or_1 {call : Call} {a b : X} {r : List X} {ρ ρ1 : Pl} {w : Bool} (h : ev call a ρ = some (.bool true, w, ρ1)) : ev call (.or (a :: b :: r)) ρ = some (.bool true, false, ρ1) := by
  rw [ev.eq_7]
  simp only [evOr, h, Option.bind_eq_bind, Option.bind_some, asB, if_true, Option.pure_def]
theorem ev_len {W : Works} {d : D} (h : rowB d 2 2 = false) : eventB W d = false := by
  cases d with
  | tuple ds =>
    match ds with
    | [a, b] => simp [rowB] at h
    | [] => rfl
    | [.none] => rfl
    | [.bool _] => rfl
    | [.int _] => rfl
    | [.str _] => rfl
    | [.list _] => rfl
    | [.tuple _] => rfl
    | [.dict _] => rfl
    | a :: b :: c :: r => cases a <;> cases b <;> rfl
  | _ => rfl
theorem pyS (x y : Str) : pyEq (.str x) (.str y) = some (decide (x = y)) := pyEq_str (okS_all x) (okS_all y)
theorem txts_in (x : Str) (ys : List Str) : opIn (.str x) (.tuple (txts ys)) = some (decide (x ∈ ys)) := opIn_tuple (okS_all x) fun y _ => okS_all y
theorem txts_inL (x : Str) (ys : List Str) : opIn (.str x) (.list (txts ys)) = some (decide (x ∈ ys)) := opIn_list (okS_all x) fun y _ => okS_all y
theorem event_ev {call : Call} (hN : NameE call 0) (hR : RowE call 1) (hF : NamesOfE call 6) (W : Works) (hW : WS W) (d : D) (hd : Good d) : runF call x_is_event [(worksD W, false), (d, false)] = some (.bool (eventB W d), false, [.no, .no]) := by
  obtain ⟨l1, l2, l3⟩ := ws_len hW
  have r := hR d hd 2 2
  cases hr : rowB d 2 2 with
  | false =>
    rw [hr] at r
    rw [ev_len hr]
    refine runF_rt (ρ := [.fr (worksD W), .fr d, .no]) rfl (ife_t (ρ1 := [.fr (worksD W), .fr d, .no]) (w := false) ?_ (ret_cst _ _ _)) rfl
    refine or_1 (w := false) ?_
    show ev call _ [.fr (worksD W), .fr d, .no] = _
    simp [ev.eq_1, ev.eq_2, ev.eq_3, ev.eq_4, ev.eq_5, ev.eq_6, ev.eq_7, ev.eq_8, ev.eq_9, ev.eq_10, ev.eq_11, ev.eq_12, ev.eq_13, ev.eq_14, ev.eq_15, ev.eq_16, ev.eq_17, ev.eq_18, ev.eq_19, ev.eq_20, ev.eq_21, evS.eq_1, evS.eq_2, evS.eq_3, evS.eq_4, evS.eq_5, evS.eq_6, evS.eq_9, evS.eq_10, evS.eq_11, evS.eq_12, evS.eq_13, evS.eq_14, evS.eq_15, runF, envOf, slotA, evSs, opn, fetch, evOs, evs, evOI, evAnd, evOr, evIfs, evRs, fetchAll, opIdx, opCmp, opBin, opBlt, opSlc, opMthK, opMth, opLt, kindD, isTy, asB, asI, asL, dOk, atI, ixN, setS, asgT, setAll, setPar, setAt, appAt, ownL, popD, calL, slotsOf, distinct, lend, giveBack, isSl, lents, lentS, killS, wipeP, back, itemsOf, r]
  | true =>
  rw [hr] at r
  obtain ⟨ds, rfl, h1, h2⟩ := row_tup hr
  obtain ⟨x, y, rfl⟩ := len2 (show ds.length = 2 by omega)
  obtain ⟨hl, hg⟩ := hd.tup
  have gx := hg x (by simp)
  have en := hN y (hg y (by simp))
  by_cases hs : ¬ ∃ k, x = .str k
  · have hty : isTy .str x = false := by cases x <;> first | rfl | exact absurd ⟨_, rfl⟩ hs
    have hk : kindD x ≠ 6 := by
      cases x with
      | dict kvs => exact absurd gx (by simp [Good, Nc])
      | _ => simp [kindD]
    have he : eventB W (.tuple [x, y]) = false := by cases x <;> first | rfl | exact absurd ⟨_, rfl⟩ hs
    rw [he]
    refine runF_rt (ρ := [.fr (worksD W), .fr (.tuple [x, y]), .no]) rfl (ife_t (ρ1 := [.fr (worksD W), .fr (.tuple [x, y]), .no]) (w := false) ?_ (ret_cst _ _ _)) rfl
    show ev call _ [.fr (worksD W), .fr (.tuple [x, y]), .no] = _
    simp [ev.eq_7, evOr, ev.eq_8, ev.eq_16, ev.eq_21, ev.eq_13, ev.eq_1, opn, evOs, fetch, calL, slotsOf, distinct, lend, giveBack, isSl, opIdx, atI, ixN, asB, r, hk, hty]
  obtain ⟨k, rfl⟩ := Classical.not_not.mp hs
  cases bn : nameB y with
  | false =>
    rw [bn] at en
    have he : eventB W (.tuple [.str k, y]) = false := by
      cases y with
      | str n =>
        show decide ([k, n] ∈ eventsOf W) = false
        rw [decide_eq_false_iff_not]
        intro z
        rw [ev_name hW z] at bn
        cases bn
      | _ => rfl
    rw [he]
    refine runF_rt (ρ := [.fr (worksD W), .fr (.tuple [.str k, y]), .no]) rfl (ife_t (ρ1 := [.fr (worksD W), .fr (.tuple [.str k, y]), .no]) (w := false) ?_ (ret_cst _ _ _)) rfl
    show ev call _ [.fr (worksD W), .fr (.tuple [.str k, y]), .no] = _
    simp [ev.eq_1, ev.eq_2, ev.eq_3, ev.eq_4, ev.eq_5, ev.eq_6, ev.eq_7, ev.eq_8, ev.eq_9, ev.eq_10, ev.eq_11, ev.eq_12, ev.eq_13, ev.eq_14, ev.eq_15, ev.eq_16, ev.eq_17, ev.eq_18, ev.eq_19, ev.eq_20, ev.eq_21, evS.eq_1, evS.eq_2, evS.eq_3, evS.eq_4, evS.eq_5, evS.eq_6, evS.eq_9, evS.eq_10, evS.eq_11, evS.eq_12, evS.eq_13, evS.eq_14, evS.eq_15, runF, envOf, slotA, evSs, opn, fetch, evOs, evs, evOI, evAnd, evOr, evIfs, evRs, fetchAll, opIdx, opCmp, opBin, opBlt, opSlc, opMthK, opMth, opLt, kindD, isTy, asB, asI, asL, dOk, atI, ixN, setS, asgT, setAll, setPar, setAt, appAt, ownL, popD, calL, slotsOf, distinct, lend, giveBack, isSl, lents, lentS, killS, wipeP, back, itemsOf, r, en]
  | true =>
  rw [bn] at en
  obtain ⟨n, rfl⟩ := name_str bn
  have c : ev call (.or [.not (.cal 1 [.var 1, .cst (.int 2), .cst (.int 2)] []), .not (.isi (.idx (.var 1) (.cst (.int 0))) .str), .not (.cal 0 [.idx (.var 1) (.cst (.int 1))] [])]) [.fr (worksD W), .fr (.tuple [.str k, .str n]), .no] = some (.bool false, false, [.fr (worksD W), .fr (.tuple [.str k, .str n]), .no]) := by
    simp [ev.eq_1, ev.eq_2, ev.eq_3, ev.eq_4, ev.eq_5, ev.eq_6, ev.eq_7, ev.eq_8, ev.eq_9, ev.eq_10, ev.eq_11, ev.eq_12, ev.eq_13, ev.eq_14, ev.eq_15, ev.eq_16, ev.eq_17, ev.eq_18, ev.eq_19, ev.eq_20, ev.eq_21, evS.eq_1, evS.eq_2, evS.eq_3, evS.eq_4, evS.eq_5, evS.eq_6, evS.eq_9, evS.eq_10, evS.eq_11, evS.eq_12, evS.eq_13, evS.eq_14, evS.eq_15, runF, envOf, slotA, evSs, opn, fetch, evOs, evs, evOI, evAnd, evOr, evIfs, evRs, fetchAll, opIdx, opCmp, opBin, opBlt, opSlc, opMthK, opMth, opLt, kindD, isTy, asB, asI, asL, dOk, atI, ixN, setS, asgT, setAll, setPar, setAt, appAt, ownL, popD, calL, slotsOf, distinct, lend, giveBack, isSl, lents, lentS, killS, wipeP, back, itemsOf, r, en]
  have qk : ∀ z : Str, ev call (.cmp .eq (.idx (.var 1) (.cst (.int 0))) (.cst (.str z))) [.fr (worksD W), .fr (.tuple [.str k, .str n]), .no] = some (.bool (decide (k = z)), false, [.fr (worksD W), .fr (.tuple [.str k, .str n]), .no]) := fun z => by
    simp [ev.eq_1, ev.eq_2, ev.eq_3, ev.eq_4, ev.eq_5, ev.eq_6, ev.eq_7, ev.eq_8, ev.eq_9, ev.eq_10, ev.eq_11, ev.eq_12, ev.eq_13, ev.eq_14, ev.eq_15, ev.eq_16, ev.eq_17, ev.eq_18, ev.eq_19, ev.eq_20, ev.eq_21, evS.eq_1, evS.eq_2, evS.eq_3, evS.eq_4, evS.eq_5, evS.eq_6, evS.eq_9, evS.eq_10, evS.eq_11, evS.eq_12, evS.eq_13, evS.eq_14, evS.eq_15, runF, envOf, slotA, evSs, opn, fetch, evOs, evs, evOI, evAnd, evOr, evIfs, evRs, fetchAll, opIdx, opCmp, opBin, opBlt, opSlc, opMthK, opMth, opLt, kindD, isTy, asB, asI, asL, dOk, atI, ixN, setS, asgT, setAll, setPar, setAt, appAt, ownL, popD, calL, slotsOf, distinct, lend, giveBack, isSl, lents, lentS, killS, wipeP, back, itemsOf, pyS]
  have hm := @mem_events W k n
  have fin : ∀ {b : Bool}, evSs call x_is_event.body [.fr (worksD W), .fr (.tuple [.str k, .str n]), .no] = some (.rt (.bool b) false, [.fr (worksD W), .fr (.tuple [.str k, .str n]), .no]) → (b = true ↔ [k, n] ∈ eventsOf W) → runF call x_is_event [(worksD W, false), (.tuple [.str k, .str n], false)] = some (.bool (eventB W (.tuple [.str k, .str n])), false, [.no, .no]) := fun {b} e hb => by
    have : eventB W (.tuple [.str k, .str n]) = b := by
      show decide ([k, n] ∈ eventsOf W) = b
      cases b with
      | true => exact decide_eq_true (hb.mp rfl)
      | false => exact decide_eq_false fun z => absurd (hb.mpr z) (by simp)
    rw [this]
    exact runF_rt rfl e rfl
  have n1 : ("change" : Str) ≠ "job" := by decide +kernel
  have n2 : ("change" : Str) ≠ "ask" := by decide +kernel
  have n3 : ("job" : Str) ≠ "ask" := by decide +kernel
  have q1 := qk "change"
  have q2 := qk "job"
  by_cases k1 : k = "change"
  · rw [decide_eq_true k1] at q1
    refine fin (b := decide (n ∈ W.ss)) (ife_f c (ife_t q1 (ret_ev (fun i z => by cases z) ?_))) ?_
    · simp [ev.eq_1, ev.eq_2, ev.eq_3, ev.eq_4, ev.eq_5, ev.eq_6, ev.eq_7, ev.eq_8, ev.eq_9, ev.eq_10, ev.eq_11, ev.eq_12, ev.eq_13, ev.eq_14, ev.eq_15, ev.eq_16, ev.eq_17, ev.eq_18, ev.eq_19, ev.eq_20, ev.eq_21, evS.eq_1, evS.eq_2, evS.eq_3, evS.eq_4, evS.eq_5, evS.eq_6, evS.eq_9, evS.eq_10, evS.eq_11, evS.eq_12, evS.eq_13, evS.eq_14, evS.eq_15, runF, envOf, slotA, evSs, opn, fetch, evOs, evs, evOI, evAnd, evOr, evIfs, evRs, fetchAll, opIdx, opCmp, opBin, opBlt, opSlc, opMthK, opMth, opLt, kindD, isTy, asB, asI, asL, dOk, atI, ixN, setS, asgT, setAll, setPar, setAt, appAt, ownL, popD, calL, slotsOf, distinct, lend, giveBack, isSl, lents, lentS, killS, wipeP, back, itemsOf, worksD, txts_in]
    · rw [decide_eq_true_eq, hm]
      constructor
      · exact fun h => .inl ⟨k1, h⟩
      · rintro (⟨_, h⟩ | ⟨h, _⟩ | ⟨h, _⟩)
        · exact h
        · exact absurd (k1.symm.trans h) n1
        · exact absurd (k1.symm.trans h) n2
  · rw [decide_eq_false k1] at q1
    by_cases k2 : k = "job"
    · rw [decide_eq_true k2] at q2
      have t := heads_ev (call := call) (j := 2) (its := [.idx (.var 0) (.cst (.int 2))]) (own := [2]) (ρ := [.fr (worksD W), .fr (.tuple [.str k, .str n]), .no]) (ρ1 := [.fr (worksD W), .fr (.tuple [.str k, .str n]), .no]) (ds := W.jobs.map jobD) (v := .none) (by simp [ev.eq_1, ev.eq_2, ev.eq_3, ev.eq_4, ev.eq_5, ev.eq_6, ev.eq_7, ev.eq_8, ev.eq_9, ev.eq_10, ev.eq_11, ev.eq_12, ev.eq_13, ev.eq_14, ev.eq_15, ev.eq_16, ev.eq_17, ev.eq_18, ev.eq_19, ev.eq_20, ev.eq_21, evS.eq_1, evS.eq_2, evS.eq_3, evS.eq_4, evS.eq_5, evS.eq_6, evS.eq_9, evS.eq_10, evS.eq_11, evS.eq_12, evS.eq_13, evS.eq_14, evS.eq_15, runF, envOf, slotA, evSs, opn, fetch, evOs, evs, evOI, evAnd, evOr, evIfs, evRs, fetchAll, opIdx, opCmp, opBin, opBlt, opSlc, opMthK, opMth, opLt, kindD, isTy, asB, asI, asL, dOk, atI, ixN, setS, asgT, setAll, setPar, setAt, appAt, ownL, popD, calL, slotsOf, distinct, lend, giveBack, isSl, lents, lentS, killS, wipeP, back, itemsOf, worksD]) (fun d hd => by
        obtain ⟨j, _, rfl⟩ := List.mem_map.mp hd
        exact ⟨_, _, rfl⟩) (by rw [List.length_map]; omega) (fun d => ⟨_, rfl, rfl, rfl⟩)
      have ej : (W.jobs.map jobD).map nmOf = W.jobs.map (·.1) := by simp [nmOf, jobD, Function.comp_def]
      rw [ej] at t
      refine fin (b := decide (n ∈ W.jobs.map (·.1))) (ife_f c (ife_f q1 (ife_t q2 (ret_ev (fun i z => by cases z) ?_)))) ?_
      · generalize W.jobs.map (·.1) = NS at t
        rw [ev.eq_4]
        have o1 : opn (.idx (.var 1) (.cst (.int 1))) (ev call (.idx (.var 1) (.cst (.int 1)))) [.fr (worksD W), .fr (.tuple [.str k, .str n]), .no] = some (.dv (.str n), [.fr (worksD W), .fr (.tuple [.str k, .str n]), .no]) := by simp [ev.eq_1, ev.eq_2, ev.eq_3, ev.eq_4, ev.eq_5, ev.eq_6, ev.eq_7, ev.eq_8, ev.eq_9, ev.eq_10, ev.eq_11, ev.eq_12, ev.eq_13, ev.eq_14, ev.eq_15, ev.eq_16, ev.eq_17, ev.eq_18, ev.eq_19, ev.eq_20, ev.eq_21, evS.eq_1, evS.eq_2, evS.eq_3, evS.eq_4, evS.eq_5, evS.eq_6, evS.eq_9, evS.eq_10, evS.eq_11, evS.eq_12, evS.eq_13, evS.eq_14, evS.eq_15, runF, envOf, slotA, evSs, opn, fetch, evOs, evs, evOI, evAnd, evOr, evIfs, evRs, fetchAll, opIdx, opCmp, opBin, opBlt, opSlc, opMthK, opMth, opLt, kindD, isTy, asB, asI, asL, dOk, atI, ixN, setS, asgT, setAll, setPar, setAt, appAt, ownL, popD, calL, slotsOf, distinct, lend, giveBack, isSl, lents, lentS, killS, wipeP, back, itemsOf]
        have o2 : opn (.lc (.idx (.var 2) (.cst (.int 0))) (.nm 2) .seq [.idx (.var 0) (.cst (.int 2))] [] [2]) (ev call (.lc (.idx (.var 2) (.cst (.int 0))) (.nm 2) .seq [.idx (.var 0) (.cst (.int 2))] [] [2])) [.fr (worksD W), .fr (.tuple [.str k, .str n]), .no] = some (.dv (.list (txts NS)), [.fr (worksD W), .fr (.tuple [.str k, .str n]), .no]) := by
          simp only [opn, t, Option.bind_eq_bind, Option.bind_some, Option.pure_def]
          rfl
        simp only [o1, o2, Option.bind_eq_bind, Option.bind_some, fetch, opCmp, txts_inL, Option.pure_def]
      · rw [decide_eq_true_eq, hm]
        constructor
        · exact fun h => .inr (.inl ⟨k2, h⟩)
        · rintro (⟨h, _⟩ | ⟨_, h⟩ | ⟨h, _⟩)
          · exact absurd h k1
          · exact h
          · exact absurd (k2.symm.trans h) n3
    · rw [decide_eq_false k2] at q2
      have eN := hF (.tuple (txts W.ss)) (.tuple (W.jobs.map jobD)) (W.rows.map rowD) (by rw [List.length_map]; omega) (fun d hd => by
        obtain ⟨j, _, rfl⟩ := List.mem_map.mp hd
        exact ⟨_, _, rfl⟩)
      have ej : (W.rows.map rowD).map nmOf = W.rows.map (·.1) := by simp [nmOf, rowD, Function.comp_def]
      rw [ej] at eN
      have eN' : call 6 [(worksD W, false)] = some (.list (txts (W.rows.map (·.1))), true, [.no]) := eN
      refine fin (b := decide (k = "ask") && decide (n ∈ W.rows.map (·.1))) (ife_f c (ife_f q1 (ife_f q2 (ret_ev (fun i z => by cases z) ?_)))) ?_
      · generalize W.rows.map (·.1) = NS at eN'
        have q3 := qk "ask"
        generalize worksD W = WD at *
        cases b3 : decide (k = "ask") with
        | false =>
          rw [b3] at q3
          rw [ev.eq_6]
          simp [evAnd, q3, asB]
        | true =>
          rw [b3] at q3
          rw [ev.eq_6]
          simp only [evAnd, q3, Option.bind_eq_bind, Option.bind_some, asB, if_true]
          simp [ev.eq_1, ev.eq_2, ev.eq_3, ev.eq_4, ev.eq_5, ev.eq_6, ev.eq_7, ev.eq_8, ev.eq_9, ev.eq_10, ev.eq_11, ev.eq_12, ev.eq_13, ev.eq_14, ev.eq_15, ev.eq_16, ev.eq_17, ev.eq_18, ev.eq_19, ev.eq_20, ev.eq_21, evS.eq_1, evS.eq_2, evS.eq_3, evS.eq_4, evS.eq_5, evS.eq_6, evS.eq_9, evS.eq_10, evS.eq_11, evS.eq_12, evS.eq_13, evS.eq_14, evS.eq_15, runF, envOf, slotA, evSs, opn, fetch, evOs, evs, evOI, evAnd, evOr, evIfs, evRs, fetchAll, opIdx, opCmp, opBin, opBlt, opSlc, opMthK, opMth, opLt, kindD, isTy, asB, asI, asL, dOk, atI, ixN, setS, asgT, setAll, setPar, setAt, appAt, ownL, popD, calL, slotsOf, distinct, lend, giveBack, isSl, lents, lentS, killS, wipeP, back, itemsOf, eN', txts_inL]
      · rw [Bool.and_eq_true, decide_eq_true_eq, decide_eq_true_eq, hm]
        constructor
        · exact fun h => .inr (.inr h)
        · rintro (⟨h, _⟩ | ⟨h, _⟩ | h)
          · exact absurd h k1
          · exact absurd h k2
          · exact h
theorem l_event (k : Nat) (W : Works) (h : WS W) (d : D) (hd : Good d) : callN fs (k + 2) 8 [(worksD W, false), (d, false)] = some (.bool (eventB W d), false, [.no, .no]) := event_ev (l_name k) (l_row k) (l_namesOf k) W h d hd
/-! ### runs -/
def runB (W : Works) (d : D) : Bool := rowB d 0 60 && (itemsD d).all (eventB W)
theorem runOf_ev {call : Call} (hR : RowE call 1) (W : Works) (hE : ∀ d, Good d → call 8 [(worksD W, false), (d, false)] = some (.bool (eventB W d), false, [.no, .no])) (d : D) (hd : Good d) : runF call x_is_run_of [(worksD W, false), (d, false)] = some (.bool (runB W d), false, [.no, .no]) := by
  have r := hR d hd 0 60
  unfold runB
  generalize worksD W = WD at *
  cases hr : rowB d 0 60 with
  | false =>
    rw [hr] at r
    simp [x_is_run_of, ev.eq_1, ev.eq_2, ev.eq_3, ev.eq_4, ev.eq_5, ev.eq_6, ev.eq_7, ev.eq_8, ev.eq_9, ev.eq_10, ev.eq_11, ev.eq_12, ev.eq_13, ev.eq_14, ev.eq_15, ev.eq_16, ev.eq_17, ev.eq_18, ev.eq_19, ev.eq_20, ev.eq_21, evS.eq_1, evS.eq_2, evS.eq_3, evS.eq_4, evS.eq_5, evS.eq_6, evS.eq_9, evS.eq_10, evS.eq_11, evS.eq_12, evS.eq_13, evS.eq_14, evS.eq_15, runF, envOf, slotA, evSs, opn, fetch, evOs, evs, evOI, evAnd, evOr, evIfs, evRs, fetchAll, opIdx, opCmp, opBin, opBlt, opSlc, opMthK, opMth, opLt, kindD, isTy, asB, asI, asL, dOk, atI, ixN, setS, asgT, setAll, setPar, setAt, appAt, ownL, popD, calL, slotsOf, distinct, lend, giveBack, isSl, lents, lentS, killS, wipeP, back, itemsOf, r]
  | true =>
    rw [hr] at r
    obtain ⟨ds, rfl, h1, h2⟩ := row_tup hr
    obtain ⟨hl, hg⟩ := hd.tup
    have t := ev_lcB (call := call) (e := .cal 8 [.var 0, .var 2] []) (g := eventB W) (tg := .nm 2) (k := .seq) (its := [.var 1]) (own := [2]) (ρ := [.fr WD, .fr (.tuple ds), .no]) (ρ1 := [.fr WD, .fr (.tuple ds), .no]) (ds := [.tuple ds]) (items := ds) (by simp [ev.eq_1, ev.eq_2, ev.eq_3, ev.eq_4, ev.eq_5, ev.eq_6, ev.eq_7, ev.eq_8, ev.eq_9, ev.eq_10, ev.eq_11, ev.eq_12, ev.eq_13, ev.eq_14, ev.eq_15, ev.eq_16, ev.eq_17, ev.eq_18, ev.eq_19, ev.eq_20, ev.eq_21, evS.eq_1, evS.eq_2, evS.eq_3, evS.eq_4, evS.eq_5, evS.eq_6, evS.eq_9, evS.eq_10, evS.eq_11, evS.eq_12, evS.eq_13, evS.eq_14, evS.eq_15, runF, envOf, slotA, evSs, opn, fetch, evOs, evs, evOI, evAnd, evOr, evIfs, evRs, fetchAll, opIdx, opCmp, opBin, opBlt, opSlc, opMthK, opMth, opLt, kindD, isTy, asB, asI, asL, dOk, atI, ixN, setS, asgT, setAll, setPar, setAt, appAt, ownL, popD, calL, slotsOf, distinct, lend, giveBack, isSl, lents, lentS, killS, wipeP, back, itemsOf]) rfl (fun z hz => by
      refine ⟨[.fr WD, .fr (.tuple ds), .fr z], [.fr WD, .fr (.tuple ds), .fr z], false, rfl, ?_, rfl⟩
      simp [ev.eq_1, ev.eq_2, ev.eq_3, ev.eq_4, ev.eq_5, ev.eq_6, ev.eq_7, ev.eq_8, ev.eq_9, ev.eq_10, ev.eq_11, ev.eq_12, ev.eq_13, ev.eq_14, ev.eq_15, ev.eq_16, ev.eq_17, ev.eq_18, ev.eq_19, ev.eq_20, ev.eq_21, evS.eq_1, evS.eq_2, evS.eq_3, evS.eq_4, evS.eq_5, evS.eq_6, evS.eq_9, evS.eq_10, evS.eq_11, evS.eq_12, evS.eq_13, evS.eq_14, evS.eq_15, runF, envOf, slotA, evSs, opn, fetch, evOs, evs, evOI, evAnd, evOr, evIfs, evRs, fetchAll, opIdx, opCmp, opBin, opBlt, opSlc, opMthK, opMth, opLt, kindD, isTy, asB, asI, asL, dOk, atI, ixN, setS, asgT, setAll, setPar, setAt, appAt, ownL, popD, calL, slotsOf, distinct, lend, giveBack, isSl, lents, lentS, killS, wipeP, back, itemsOf, hE z (hg z hz)]) (goodL hl)
    simp [x_is_run_of, ev.eq_1, ev.eq_2, ev.eq_3, ev.eq_4, ev.eq_5, ev.eq_6, ev.eq_7, ev.eq_8, ev.eq_9, ev.eq_10, ev.eq_11, ev.eq_12, ev.eq_13, ev.eq_14, ev.eq_15, ev.eq_16, ev.eq_17, ev.eq_18, ev.eq_19, ev.eq_20, ev.eq_21, evS.eq_1, evS.eq_2, evS.eq_3, evS.eq_4, evS.eq_5, evS.eq_6, evS.eq_9, evS.eq_10, evS.eq_11, evS.eq_12, evS.eq_13, evS.eq_14, evS.eq_15, runF, envOf, slotA, evSs, opn, fetch, evOs, evs, evOI, evAnd, evOr, evIfs, evRs, fetchAll, opIdx, opCmp, opBin, opBlt, opSlc, opMthK, opMth, opLt, kindD, isTy, asB, asI, asL, dOk, atI, ixN, setS, asgT, setAll, setPar, setAt, appAt, ownL, popD, calL, slotsOf, distinct, lend, giveBack, isSl, lents, lentS, killS, wipeP, back, itemsOf, r, t, mapM_bools, List.all_map, Function.comp_def, itemsD]
theorem run_ev {call : Call} (W : Works) (hW : call 10 [(worksD W, false)] = some (.none, false, [.no])) (d : D) (h9 : call 9 [(worksD W, false), (d, false)] = some (.bool (runB W d), false, [.no, .no])) : runF call x_is_run [(worksD W, false), (d, false)] = some (.bool (runB W d), false, [.no, .no]) := by
  generalize worksD W = WD at *
  simp [x_is_run, ev.eq_1, ev.eq_2, ev.eq_3, ev.eq_4, ev.eq_5, ev.eq_6, ev.eq_7, ev.eq_8, ev.eq_9, ev.eq_10, ev.eq_11, ev.eq_12, ev.eq_13, ev.eq_14, ev.eq_15, ev.eq_16, ev.eq_17, ev.eq_18, ev.eq_19, ev.eq_20, ev.eq_21, evS.eq_1, evS.eq_2, evS.eq_3, evS.eq_4, evS.eq_5, evS.eq_6, evS.eq_9, evS.eq_10, evS.eq_11, evS.eq_12, evS.eq_13, evS.eq_14, evS.eq_15, runF, envOf, slotA, evSs, opn, fetch, evOs, evs, evOI, evAnd, evOr, evIfs, evRs, fetchAll, opIdx, opCmp, opBin, opBlt, opSlc, opMthK, opMth, opLt, kindD, isTy, asB, asI, asL, dOk, atI, ixN, setS, asgT, setAll, setPar, setAt, appAt, ownL, popD, calL, slotsOf, distinct, lend, giveBack, isSl, lents, lentS, killS, wipeP, back, itemsOf, hW, h9]
theorem need_ev {call : Call} (WD : D) (h : call 7 [(WD, false)] = some (.bool true, false, [.no])) : runF call x_need_works [(WD, false)] = some (.none, false, [.no]) := by
  simp [x_need_works, ev.eq_1, ev.eq_2, ev.eq_3, ev.eq_4, ev.eq_5, ev.eq_6, ev.eq_7, ev.eq_8, ev.eq_9, ev.eq_10, ev.eq_11, ev.eq_12, ev.eq_13, ev.eq_14, ev.eq_15, ev.eq_16, ev.eq_17, ev.eq_18, ev.eq_19, ev.eq_20, ev.eq_21, evS.eq_1, evS.eq_2, evS.eq_3, evS.eq_4, evS.eq_5, evS.eq_6, evS.eq_9, evS.eq_10, evS.eq_11, evS.eq_12, evS.eq_13, evS.eq_14, evS.eq_15, runF, envOf, slotA, evSs, opn, fetch, evOs, evs, evOI, evAnd, evOr, evIfs, evRs, fetchAll, opIdx, opCmp, opBin, opBlt, opSlc, opMthK, opMth, opLt, kindD, isTy, asB, asI, asL, dOk, atI, ixN, setS, asgT, setAll, setPar, setAt, appAt, ownL, popD, calL, slotsOf, distinct, lend, giveBack, isSl, lents, lentS, killS, wipeP, back, itemsOf, h]
theorem l_run (k : Nat) (W : Works) (h : WS W) (hw : worksB (worksD W) = true) (d : D) (hd : Good d) : callN fs (k + 6) 11 [(worksD W, false), (d, false)] = some (.bool (runB W d), false, [.no, .no]) := by
  have e7 := l_isWorks k (worksD W) (h.small.nc.good (by decide))
  rw [hw] at e7
  have e10 : callN fs (k + 5) 10 [(worksD W, false)] = some (.none, false, [.no]) := need_ev (call := callN fs (k + 4)) _ e7
  have e9 : callN fs (k + 5) 9 [(worksD W, false), (d, false)] = some (.bool (runB W d), false, [.no, .no]) := runOf_ev (call := callN fs (k + 4)) (l_row (k + 3)) W (fun d hd => l_event (k + 2) W h d hd) d hd
  exact run_ev (call := callN fs (k + 5)) W e10 d e9
end CL

set_option Elab.async false
set_option linter.all false
set_option maxRecDepth 100000
set_option maxHeartbeats 2000000
namespace CL
open PySem PV
def isStrB : D → Bool
  | .str _ => true
  | _ => false
theorem strs_txts : ∀ {ds : List D}, ds.all isStrB = true → ds = txts (strsOf ds)
  | [], _ => rfl
  | d :: ds, h => by
    simp only [List.all_cons, Bool.and_eq_true] at h
    cases d with
    | str x =>
      have := strs_txts h.2
      simp only [strsOf, txts] at this ⊢
      simp only [List.filterMap_cons, asS, List.map_cons]
      rw [← this]
    | _ => simp [isStrB] at h
theorem events_two {W : Works} {e : List Str} (h : e ∈ eventsOf W) : e.length = 2 := by
  unfold eventsOf at h
  simp only [List.mem_append, List.mem_map] at h
  rcases h with (⟨_, _, rfl⟩ | ⟨_, _, rfl⟩) | ⟨_, _, rfl⟩ <;> rfl
theorem eventB_txts (W : Works) (xs : List Str) : eventB W (.tuple (txts xs)) = decide (xs ∈ eventsOf W) := by
  by_cases h : xs.length = 2
  · obtain ⟨a, b, rfl⟩ := len2 h
    rfl
  · rw [decide_eq_false fun z => h (events_two z)]
    refine ev_len ?_
    simp only [rowB, txts_len]
    simp
    omega
theorem eventB_not (W : Works) {ds : List D} (h : ds.all isStrB = false) : eventB W (.tuple ds) = false := by
  unfold eventB
  split
  · rename_i k n e
    cases e
    simp [isStrB] at h
  · rfl
theorem any_evs (xs : List Str) : ∀ es : List (List Str), ((es.map evD).any fun z => PyData.eqv z (.tuple (txts xs))) = decide (xs ∈ es)
  | [] => by simp
  | e :: es => by
    rw [List.map_cons, List.any_cons, any_evs xs es]
    have : PyData.eqv (evD e) (.tuple (txts xs)) = decide (e = xs) := eqv_txts e xs
    rw [this]
    by_cases h : e = xs
    · subst h; simp
    · have h' : ¬ xs = e := fun z => h z.symm
      simp [h, h']
theorem in_evs (xs : List Str) (hx : Good (.tuple (txts xs))) (es : List (List Str)) (he : ∀ e ∈ es, Good (evD e)) : opIn (.tuple (txts xs)) (.list (es.map evD)) = some (decide (xs ∈ es)) := by
  unfold opIn
  have h2 : PV.okD (.list (es.map evD)) = true := ok_lst fun d hd => by
    obtain ⟨e, h, rfl⟩ := List.mem_map.mp hd
    exact he e h
  simp only [hx.ok, h2, Bool.and_self, if_true, any_evs]
theorem str_small {x : Str} {k : Str} (h : k.length ≤ 90) (hx : x ∈ NAMES) : Nb 1 (evD [k, x]) := by
  refine ⟨by simp [txts], fun d hd => ?_⟩
  simp only [txts, List.map_cons, List.map_nil, List.mem_cons, List.not_mem_nil, or_false] at hd
  rcases hd with rfl | rfl
  · exact h
  · exact (names_small x hx).2
theorem evs_small {W : Works} (h : WS W) : ∀ e ∈ eventsOf W, Nb 1 (evD e) := fun e he => by
  unfold eventsOf at he
  simp only [List.mem_append, List.mem_map] at he
  rcases he with (⟨s, h1, rfl⟩ | ⟨j, h1, rfl⟩) | ⟨r, h1, rfl⟩
  · exact str_small (by decide +kernel) (h.ss s h1)
  · exact str_small (by decide +kernel) (h.js j h1)
  · exact str_small (by decide +kernel) (h.rs r h1)
def rStep (call : Call) : D → Pl → Option (Fl × Pl) := fun d ρ => do
  let ρ ← asgT ρ (.nm 3) d false
  let (f, ρ) ← evSs call [.ife (.or [.not (.isi (.var 3) .tuple), .cmp .ne (.lc (.var 5) (.nm 5) .seq [.var 3] [.not (.isi (.var 5) .str)] [5]) (.lst [])]) [.ret (.cst (.bool false))] [], .ife (.cmp .notIn (.var 3) (.var 2)) [.ret (.cst (.bool false))] []] ρ
  pure (f, killS ρ [3])
theorem r_step {call : Call} (W : Works) (hW : WS W) (WD v : D) (r : D) (gr : Good r) :
    rStep call r [.fr WD, .fr v, .ow (.list ((eventsOf W).map evD)), .no, .no, .no] = some (if eventB W r = true then .nx else .rt (.bool false) false, [.fr WD, .fr v, .ow (.list ((eventsOf W).map evD)), .no, .no, .no]) := by
  have hes : ∀ e ∈ eventsOf W, Good (evD e) := fun e he => (evs_small hW e he).nc.good (by decide)
  generalize hES : eventsOf W = ES at *
  have hA : asgT [.fr WD, .fr v, .ow (.list (ES.map evD)), .no, .no, .no] (.nm 3) r false = some [.fr WD, .fr v, .ow (.list (ES.map evD)), .fr r, .no, .no] := rfl
  by_cases ht : ¬ ∃ ds, r = .tuple ds
  · have he : eventB W r = false := by cases r <;> first | rfl | exact absurd ⟨_, rfl⟩ ht
    rw [he]
    exact (step_of hA (ife_t (or_1 (not_tup call (j := 3) rfl gr ht)) (ret_cst _ _ _))).trans rfl
  obtain ⟨ds, rfl⟩ := Classical.not_not.mp ht
  obtain ⟨hl, hg⟩ := gr.tup
  have t := ev_lcF (call := call) (e := .var 5) (c := .not (.isi (.var 5) .str)) (f := id) (p := fun d => !isStrB d) (tg := .nm 5) (k := .seq) (its := [.var 3]) (own := [5]) (ρ := [.fr WD, .fr v, .ow (.list (ES.map evD)), .fr (.tuple ds), .no, .no]) (ρ1 := [.fr WD, .fr v, .ow (.list (ES.map evD)), .fr (.tuple ds), .no, .no]) (ds := [.tuple ds]) (items := ds) (by simp [ev.eq_1, ev.eq_2, ev.eq_3, ev.eq_4, ev.eq_5, ev.eq_6, ev.eq_7, ev.eq_8, ev.eq_9, ev.eq_10, ev.eq_11, ev.eq_12, ev.eq_13, ev.eq_14, ev.eq_15, ev.eq_16, ev.eq_17, ev.eq_18, ev.eq_19, ev.eq_20, ev.eq_21, evS.eq_1, evS.eq_2, evS.eq_3, evS.eq_4, evS.eq_5, evS.eq_6, evS.eq_9, evS.eq_10, evS.eq_11, evS.eq_12, evS.eq_13, evS.eq_14, evS.eq_15, runF, envOf, slotA, evSs, opn, fetch, evOs, evs, evOI, evAnd, evOr, evIfs, evRs, fetchAll, opIdx, opCmp, opBin, opBlt, opSlc, opMthK, opMth, opLt, kindD, isTy, asB, asI, asL, dOk, atI, ixN, setS, asgT, setAll, setPar, setAt, appAt, ownL, popD, calL, slotsOf, distinct, lend, giveBack, isSl, lents, lentS, killS, wipeP, back, itemsOf]) rfl (fun z hz => by
    refine ⟨[.fr WD, .fr v, .ow (.list (ES.map evD)), .fr (.tuple ds), .no, .fr z], [.fr WD, .fr v, .ow (.list (ES.map evD)), .fr (.tuple ds), .no, .fr z], false, rfl, ?_, rfl, fun _ => ⟨[.fr WD, .fr v, .ow (.list (ES.map evD)), .fr (.tuple ds), .no, .fr z], false, ?_, rfl⟩⟩
    · cases z with
      | dict kvs => exact absurd (hg _ hz) (by simp [Good, Nc])
      | _ => simp [ev.eq_1, ev.eq_2, ev.eq_3, ev.eq_4, ev.eq_5, ev.eq_6, ev.eq_7, ev.eq_8, ev.eq_9, ev.eq_10, ev.eq_11, ev.eq_12, ev.eq_13, ev.eq_14, ev.eq_15, ev.eq_16, ev.eq_17, ev.eq_18, ev.eq_19, ev.eq_20, ev.eq_21, evS.eq_1, evS.eq_2, evS.eq_3, evS.eq_4, evS.eq_5, evS.eq_6, evS.eq_9, evS.eq_10, evS.eq_11, evS.eq_12, evS.eq_13, evS.eq_14, evS.eq_15, runF, envOf, slotA, evSs, opn, fetch, evOs, evs, evOI, evAnd, evOr, evIfs, evRs, fetchAll, opIdx, opCmp, opBin, opBlt, opSlc, opMthK, opMth, opLt, kindD, isTy, asB, asI, asL, dOk, atI, ixN, setS, asgT, setAll, setPar, setAt, appAt, ownL, popD, calL, slotsOf, distinct, lend, giveBack, isSl, lents, lentS, killS, wipeP, back, itemsOf, isStrB]
    · simp [ev.eq_1, ev.eq_2, ev.eq_3, ev.eq_4, ev.eq_5, ev.eq_6, ev.eq_7, ev.eq_8, ev.eq_9, ev.eq_10, ev.eq_11, ev.eq_12, ev.eq_13, ev.eq_14, ev.eq_15, ev.eq_16, ev.eq_17, ev.eq_18, ev.eq_19, ev.eq_20, ev.eq_21, evS.eq_1, evS.eq_2, evS.eq_3, evS.eq_4, evS.eq_5, evS.eq_6, evS.eq_9, evS.eq_10, evS.eq_11, evS.eq_12, evS.eq_13, evS.eq_14, evS.eq_15, runF, envOf, slotA, evSs, opn, fetch, evOs, evs, evOI, evAnd, evOr, evIfs, evRs, fetchAll, opIdx, opCmp, opBin, opBlt, opSlc, opMthK, opMth, opLt, kindD, isTy, asB, asI, asL, dOk, atI, ixN, setS, asgT, setAll, setPar, setAt, appAt, ownL, popD, calL, slotsOf, distinct, lend, giveBack, isSl, lents, lentS, killS, wipeP, back, itemsOf]) (goodL hl)
  rw [List.map_id] at t
  have q : pyEq (.list (ds.filter fun d => !isStrB d)) (.list []) = some (ds.all isStrB) := by
    rw [pyEq_nil fun z hz => hg z (List.mem_filter.mp hz).1, filter_nil]
    simp
  have t2 := (rise_3 (ds := ds) (a := 0) (b := 0) t (fun _ z => by cases z) q).2
  have t3 : ev call (.or [.not (.isi (.var 3) .tuple), .cmp .ne (.lc (.var 5) (.nm 5) .seq [.var 3] [.not (.isi (.var 5) .str)] [5]) (.lst [])]) [.fr WD, .fr v, .ow (.list (ES.map evD)), .fr (.tuple ds), .no, .no] = some (.bool (!(ds.all isStrB)), false, [.fr WD, .fr v, .ow (.list (ES.map evD)), .fr (.tuple ds), .no, .no]) := by
    rw [ev.eq_7]
    have e1 : ev call (.not (.isi (.var 3) .tuple)) [.fr WD, .fr v, .ow (.list (ES.map evD)), .fr (.tuple ds), .no, .no] = some (.bool false, false, [.fr WD, .fr v, .ow (.list (ES.map evD)), .fr (.tuple ds), .no, .no]) := by simp [ev.eq_1, ev.eq_2, ev.eq_3, ev.eq_4, ev.eq_5, ev.eq_6, ev.eq_7, ev.eq_8, ev.eq_9, ev.eq_10, ev.eq_11, ev.eq_12, ev.eq_13, ev.eq_14, ev.eq_15, ev.eq_16, ev.eq_17, ev.eq_18, ev.eq_19, ev.eq_20, ev.eq_21, evS.eq_1, evS.eq_2, evS.eq_3, evS.eq_4, evS.eq_5, evS.eq_6, evS.eq_9, evS.eq_10, evS.eq_11, evS.eq_12, evS.eq_13, evS.eq_14, evS.eq_15, runF, envOf, slotA, evSs, opn, fetch, evOs, evs, evOI, evAnd, evOr, evIfs, evRs, fetchAll, opIdx, opCmp, opBin, opBlt, opSlc, opMthK, opMth, opLt, kindD, isTy, asB, asI, asL, dOk, atI, ixN, setS, asgT, setAll, setPar, setAt, appAt, ownL, popD, calL, slotsOf, distinct, lend, giveBack, isSl, lents, lentS, killS, wipeP, back, itemsOf]
    simp only [evOr, e1, t2, Option.bind_eq_bind, Option.bind_some, asB, Bool.false_eq_true, if_false, Option.pure_def]
  cases hs : ds.all isStrB with
  | false =>
    rw [hs] at t3
    rw [eventB_not W hs]
    exact (step_of hA (ife_t t3 (ret_cst _ _ _))).trans rfl
  | true =>
    rw [hs] at t3
    have e := strs_txts hs
    generalize strsOf ds = xs at e
    subst e
    have ei := in_evs xs gr ES hes
    have t4 : ev call (.cmp .notIn (.var 3) (.var 2)) [.fr WD, .fr v, .ow (.list (ES.map evD)), .fr (.tuple (txts xs)), .no, .no] = some (.bool (!(decide (xs ∈ ES))), false, [.fr WD, .fr v, .ow (.list (ES.map evD)), .fr (.tuple (txts xs)), .no, .no]) := by
      simp only [ev.eq_4, opn, List.getElem?_cons_succ, List.getElem?_cons_zero, Option.bind_eq_bind, Option.bind_some, fetch, opCmp, ei, Option.map_some, Option.pure_def]
    rw [eventB_txts, hES]
    cases hb : decide (xs ∈ ES) with
    | false =>
      rw [hb] at t4
      exact (step_of hA (ife_f t3 (ife_t t4 (ret_cst _ _ _)))).trans rfl
    | true =>
      rw [hb] at t4
      exact (step_of hA (ife_f t3 (ife_f t4 (evSs_nil _ _)))).trans rfl
theorem r_loop {call : Call} (W : Works) (hW : WS W) (WD v : D) : ∀ (rows : List D), (∀ d ∈ rows, Good d) →
    forL (rStep call) rows [.fr WD, .fr v, .ow (.list ((eventsOf W).map evD)), .no, .no, .no] = some (if rows.all (eventB W) = true then .nx else .rt (.bool false) false, [.fr WD, .fr v, .ow (.list ((eventsOf W).map evD)), .no, .no, .no])
  | [], _ => rfl
  | r :: rs, hg => by
    have e := r_step (call := call) W hW WD v r (hg r List.mem_cons_self)
    rw [forL, e, List.all_cons]
    cases hb : eventB W r with
    | false => rfl
    | true =>
      simp only [if_true, Bool.true_and]
      exact r_loop W hW WD v rs fun d hd => hg d (List.mem_cons_of_mem _ hd)
/-- the law's list of all events -/
theorem cal_events {call : Call} (hE : EventsE call) (W : Works) (hW : WS W) {ρ : Pl} {j m : Nat} (h0 : ρ[j]? = some (.fr (worksD W))) (hm : ρ[m]? = some .no) (own : ∀ ρ2, wipeP ρ2 [m] = ρ2.set m .no) : ev call (.cal 18 [.var j, .lc (.idx (.var m) (.cst (.int 0))) (.nm m) .seq [.idx (.var j) (.cst (.int 1))] [] [m]] []) ρ = some (.list ((eventsOf W).map evD), true, ρ) := by
  have hlt : m < ρ.length := (List.getElem?_eq_some_iff.mp hm).1
  have es : ρ.set m .no = ρ := by
    apply List.ext_getElem?
    intro i
    by_cases h : m = i
    · subst h
      rw [List.getElem?_set_self hlt, hm]
    · rw [List.getElem?_set_ne h]
  have t := heads_ev (call := call) (j := m) (its := [.idx (.var j) (.cst (.int 1))]) (own := [m]) (ρ := ρ) (ρ1 := ρ) (ds := W.rows.map rowD) (v := .none) (by
    simp [evs, ev.eq_13, ev.eq_1, opn, h0, fetch, opIdx, worksD, atI, ixN]) (fun d hd => by
    obtain ⟨j, _, rfl⟩ := List.mem_map.mp hd
    exact ⟨_, _, rfl⟩) (by rw [List.length_map]; have := (ws_len hW).2.1; omega) (fun d => by
    refine ⟨ρ.set m (.fr d), ?_, ?_, ?_⟩
    · rw [own, es]
      simp [asgT, setS, hm]
    · rw [List.getElem?_set_self hlt]
    · rw [own, own, List.set_set])
  have ej : (W.rows.map rowD).map nmOf = W.rows.map (·.1) := by simp [nmOf, rowD, Function.comp_def]
  rw [ej] at t
  have eb : back ρ (wipeP ρ [m]) [m] = ρ := by
    rw [own, es]
    show ρ.set m (ρ.getD m .no) = ρ
    rw [List.getD_eq_getElem?_getD, hm]
    exact es
  rw [eb] at t
  have e := hE W hW
  rw [ev.eq_16]
  have o2 : opn (.lc (.idx (.var m) (.cst (.int 0))) (.nm m) .seq [.idx (.var j) (.cst (.int 1))] [] [m]) (ev call (.lc (.idx (.var m) (.cst (.int 0))) (.nm m) .seq [.idx (.var j) (.cst (.int 1))] [] [m])) ρ = some (.dv (.list (txts (W.rows.map (·.1)))), ρ) := by
    simp only [opn, t, Option.bind_eq_bind, Option.bind_some, Option.pure_def]
  have o1 : opn (.var j) (ev call (.var j)) ρ = some (.dv (worksD W), ρ) := by simp only [opn, h0]
  simp only [evOs, o1, o2, Option.bind_eq_bind, Option.bind_some, Option.pure_def, List.map_nil, List.append_nil, calL, slotsOf, distinct, if_true, lend, fetch, isSl, e, giveBack]
theorem lrun_ev {call : Call} (hE : EventsE call) (W : Works) (hW : WS W) (d : D) (hd : Good d) : runF call x__law_is_run [(worksD W, false), (d, false)] = some (.bool (runB W d), false, [.no, .no]) := by
  by_cases ht : ¬ ∃ ds, d = .tuple ds
  · have hw : runB W d = false := by cases d <;> first | rfl | exact absurd ⟨_, rfl⟩ ht
    rw [hw]
    exact runF_rt (ρ := [.fr (worksD W), .fr d, .no, .no, .no, .no]) rfl (ife_t (or_1 (not_tup call (ρ := [.fr (worksD W), .fr d, .no, .no, .no, .no]) (j := 1) rfl hd ht)) (ret_cst _ _ _)) rfl
  obtain ⟨ds, rfl⟩ := Classical.not_not.mp ht
  obtain ⟨hl, hg⟩ := hd.tup
  have c : ev call (.or [.not (.isi (.var 1) .tuple), .cmp .gt (.blt .len [.var 1]) (.cst (.int 60))]) [.fr (worksD W), .fr (.tuple ds), .no, .no, .no, .no] = some (.bool (!(rowB (.tuple ds) 0 60)), false, [.fr (worksD W), .fr (.tuple ds), .no, .no, .no, .no]) := by
    generalize worksD W = WD
    by_cases h2 : (ds.length : Int) ≤ 60
    · have h3 : ¬ (60 : Int) < ds.length := by omega
      simp [ev.eq_1, ev.eq_2, ev.eq_3, ev.eq_4, ev.eq_5, ev.eq_6, ev.eq_7, ev.eq_8, ev.eq_9, ev.eq_10, ev.eq_11, ev.eq_12, ev.eq_13, ev.eq_14, ev.eq_15, ev.eq_16, ev.eq_17, ev.eq_18, ev.eq_19, ev.eq_20, ev.eq_21, evS.eq_1, evS.eq_2, evS.eq_3, evS.eq_4, evS.eq_5, evS.eq_6, evS.eq_9, evS.eq_10, evS.eq_11, evS.eq_12, evS.eq_13, evS.eq_14, evS.eq_15, runF, envOf, slotA, evSs, opn, fetch, evOs, evs, evOI, evAnd, evOr, evIfs, evRs, fetchAll, opIdx, opCmp, opBin, opBlt, opSlc, opMthK, opMth, opLt, kindD, isTy, asB, asI, asL, dOk, atI, ixN, setS, asgT, setAll, setPar, setAt, appAt, ownL, popD, calL, slotsOf, distinct, lend, giveBack, isSl, lents, lentS, killS, wipeP, back, itemsOf, rowB, h2, h3]
    · have h3 : (60 : Int) < ds.length := by omega
      simp [ev.eq_1, ev.eq_2, ev.eq_3, ev.eq_4, ev.eq_5, ev.eq_6, ev.eq_7, ev.eq_8, ev.eq_9, ev.eq_10, ev.eq_11, ev.eq_12, ev.eq_13, ev.eq_14, ev.eq_15, ev.eq_16, ev.eq_17, ev.eq_18, ev.eq_19, ev.eq_20, ev.eq_21, evS.eq_1, evS.eq_2, evS.eq_3, evS.eq_4, evS.eq_5, evS.eq_6, evS.eq_9, evS.eq_10, evS.eq_11, evS.eq_12, evS.eq_13, evS.eq_14, evS.eq_15, runF, envOf, slotA, evSs, opn, fetch, evOs, evs, evOI, evAnd, evOr, evIfs, evRs, fetchAll, opIdx, opCmp, opBin, opBlt, opSlc, opMthK, opMth, opLt, kindD, isTy, asB, asI, asL, dOk, atI, ixN, setS, asgT, setAll, setPar, setAt, appAt, ownL, popD, calL, slotsOf, distinct, lend, giveBack, isSl, lents, lentS, killS, wipeP, back, itemsOf, rowB, h2, h3]
  show runF call x__law_is_run _ = some (.bool (rowB (.tuple ds) 0 60 && ds.all (eventB W)), false, _)
  cases hr : rowB (.tuple ds) 0 60 with
  | false =>
    rw [hr] at c
    exact runF_rt rfl (ife_t c (ret_cst _ _ _)) rfl
  | true =>
    rw [hr] at c
    have s1 : evS call (.asg (.nm 2) (.cal 18 [.var 0, .lc (.idx (.var 4) (.cst (.int 0))) (.nm 4) .seq [.idx (.var 0) (.cst (.int 1))] [] [4]] [])) [.fr (worksD W), .fr (.tuple ds), .no, .no, .no, .no] = some (.nx, [.fr (worksD W), .fr (.tuple ds), .ow (.list ((eventsOf W).map evD)), .no, .no, .no]) := by
      rw [evS.eq_1, cal_events hE W hW (j := 0) (m := 4) rfl rfl (fun _ => rfl)]
      rfl
    have e := r_loop (call := call) W hW (worksD W) (.tuple ds) ds hg
    have f : evS call (.for (.nm 3) .seq [.var 1] [.ife (.or [.not (.isi (.var 3) .tuple), .cmp .ne (.lc (.var 5) (.nm 5) .seq [.var 3] [.not (.isi (.var 5) .str)] [5]) (.lst [])]) [.ret (.cst (.bool false))] [], .ife (.cmp .notIn (.var 3) (.var 2)) [.ret (.cst (.bool false))] []] [3]) [.fr (worksD W), .fr (.tuple ds), .ow (.list ((eventsOf W).map evD)), .no, .no, .no] = _ := evS_for (ds := [.tuple ds]) (items := ds) (by simp [evs, ev.eq_2]) rfl e
    cases ha : ds.all (eventB W) with
    | false =>
      rw [ha] at f
      exact runF_rt rfl (ife_f c (evSs_cons s1 (evSs_rt f))) rfl
    | true =>
      rw [ha] at f
      exact runF_rt rfl (ife_f c (evSs_cons s1 (evSs_cons f (ret_cst _ _ _)))) rfl
theorem l_lrun (k : Nat) (W : Works) (h : WS W) (d : D) (hd : Good d) : callN fs (k + 2) 27 [(worksD W, false), (d, false)] = some (.bool (runB W d), false, [.no, .no]) := lrun_ev (l_events k) W h d hd
theorem told_ev (call : Call) (b : Bool) : runF call x__law_told_right [(.bool b, false), (.bool b, false)] = some (.bool true, false, [.no, .no]) := by
  have q : pyEq (.bool b) (.bool b) = some true := by cases b <;> rfl
  simp [x__law_told_right, ev.eq_1, ev.eq_2, ev.eq_3, ev.eq_4, ev.eq_5, ev.eq_6, ev.eq_7, ev.eq_8, ev.eq_9, ev.eq_10, ev.eq_11, ev.eq_12, ev.eq_13, ev.eq_14, ev.eq_15, ev.eq_16, ev.eq_17, ev.eq_18, ev.eq_19, ev.eq_20, ev.eq_21, evS.eq_1, evS.eq_2, evS.eq_3, evS.eq_4, evS.eq_5, evS.eq_6, evS.eq_9, evS.eq_10, evS.eq_11, evS.eq_12, evS.eq_13, evS.eq_14, evS.eq_15, runF, envOf, slotA, evSs, opn, fetch, evOs, evs, evOI, evAnd, evOr, evIfs, evRs, fetchAll, opIdx, opCmp, opBin, opBlt, opSlc, opMthK, opMth, opLt, kindD, isTy, asB, asI, asL, dOk, atI, ixN, setS, asgT, setAll, setPar, setAt, appAt, ownL, popD, calL, slotsOf, distinct, lend, giveBack, isSl, lents, lentS, killS, wipeP, back, itemsOf, q]
/-! drawn runs -/
def DrawnE (call : Call) : Prop := ∀ (c s : Int) (W : Works), WS W → ∃ (es : List D) (c' s' : Int), call 19 [(bagD c s, true), (worksD W, false), (.int 12, false)] = some (.tuple es, false, [.bo (bagD c' s'), .no, .no]) ∧ es.length ≤ 12 ∧ ∀ e ∈ es, e ∈ (eventsOf W).map evD
theorem evs_ne {W : Works} (h : WS W) : eventsOf W ≠ [] := by
  unfold eventsOf
  cases hs : W.ss with
  | nil => exact absurd hs h.ne
  | cons x xs => simp
theorem evs_len {W : Works} (h : WS W) : (eventsOf W).length ≤ 300 := by
  obtain ⟨a, b, c⟩ := ws_len h
  unfold eventsOf
  simp only [List.length_append, List.length_map]
  omega
theorem drawn_ev {call : Call} (hT : TakeOk call 13) (hO : OfOk call 14) (hE : EventsE call) (c s : Int) (W : Works) (hW : WS W) : ∃ (es : List D) (c' s' : Int), runF call x__law_drawn_run [(bagD c s, true), (worksD W, false), (.int 12, false)] = some (.tuple es, false, [.bo (bagD c' s'), .no, .no]) ∧ es.length ≤ 12 ∧ ∀ e ∈ es, e ∈ (eventsOf W).map evD := by
  obtain ⟨n, c1, s1, e1, n0, n1⟩ := hT c s 12 (by decide) (by decide)
  have sA : evS call (.asg (.nm 3) (.cal 18 [.var 1, .lc (.idx (.var 4) (.cst (.int 0))) (.nm 4) .seq [.idx (.var 1) (.cst (.int 1))] [] [4]] [])) [.bo (bagD c s), .fr (worksD W), .fr (.int 12), .no, .no, .no] = some (.nx, [.bo (bagD c s), .fr (worksD W), .fr (.int 12), .ow (.list ((eventsOf W).map evD)), .no, .no]) := by
    rw [evS.eq_1, cal_events hE W hW (j := 1) (m := 4) rfl rfl (fun _ => rfl)]
    rfl
  have hne : (eventsOf W).map evD ≠ [] := fun z => evs_ne hW (List.map_eq_nil_iff.mp z)
  have hlen : ((eventsOf W).map evD).length < 1000000 := by rw [List.length_map]; have := evs_len hW; omega
  generalize (eventsOf W).map evD = ES at *
  generalize worksD W = WD at *
  obtain ⟨ys, ρ', e3, hI, hl, hJ⟩ := lcL_inv (step := fun d ρ => do
      let ρ ← asgT ρ (.nm 5) d false
      let (b, ρ) ← evIfs call [] ρ
      if b then do
        let (y, _, ρ) ← ev call (.cal 14 [.var 0, .var 3] []) ρ
        pure ([y], wipeP ρ [5])
      else pure ([], wipeP ρ [5])) (fun ρ => ∃ c s, ρ = [.bo (bagD c s), .fr WD, .fr (.int 12), .ow (.list ES), .no, .no]) (fun d => d ∈ ES) (rngD 0 (1 + n)) [.bo (bagD c1 s1), .fr WD, .fr (.int 12), .ow (.list ES), .no, .no] (fun d hd ρ hI => by
        obtain ⟨c, s, rfl⟩ := hI
        obtain ⟨x, c', s', e, hx⟩ := hO c s ES true hne hlen
        simp only [if_true] at e
        refine ⟨x, [.bo (bagD c' s'), .fr WD, .fr (.int 12), .ow (.list ES), .no, .no], ?_, ⟨c', s', rfl⟩, hx⟩
        have hA : asgT [.bo (bagD c s), .fr WD, .fr (.int 12), .ow (.list ES), .no, .no] (.nm 5) d false = some [.bo (bagD c s), .fr WD, .fr (.int 12), .ow (.list ES), .no, .fr d] := rfl
        have hC : ev call (.cal 14 [.var 0, .var 3] []) [.bo (bagD c s), .fr WD, .fr (.int 12), .ow (.list ES), .no, .fr d] = some (x, false, [.bo (bagD c' s'), .fr WD, .fr (.int 12), .ow (.list ES), .no, .fr d]) := by
          simp [ev.eq_1, ev.eq_2, ev.eq_3, ev.eq_4, ev.eq_5, ev.eq_6, ev.eq_7, ev.eq_8, ev.eq_9, ev.eq_10, ev.eq_11, ev.eq_12, ev.eq_13, ev.eq_14, ev.eq_15, ev.eq_16, ev.eq_17, ev.eq_18, ev.eq_19, ev.eq_20, ev.eq_21, evS.eq_1, evS.eq_2, evS.eq_3, evS.eq_4, evS.eq_5, evS.eq_6, evS.eq_9, evS.eq_10, evS.eq_11, evS.eq_12, evS.eq_13, evS.eq_14, evS.eq_15, runF, envOf, slotA, evSs, opn, fetch, evOs, evs, evOI, evAnd, evOr, evIfs, evRs, fetchAll, opIdx, opCmp, opBin, opBlt, opSlc, opMthK, opMth, opLt, kindD, isTy, asB, asI, asL, dOk, atI, ixN, setS, asgT, setAll, setPar, setAt, appAt, ownL, popD, calL, slotsOf, distinct, lend, giveBack, isSl, lents, lentS, killS, wipeP, back, itemsOf, e]
        rw [hA]
        simp only [Option.bind_eq_bind, Option.bind_some, evIfs, if_true, hC, Option.pure_def]
        rfl) ⟨c1, s1, rfl⟩
  obtain ⟨c3, s3, rfl⟩ := hI
  have hn : (rngD 0 (1 + n)).length ≤ 12 := by simp [rngD]; omega
  have hs : smallI (1 + n) = true := by simp only [smallI, Bool.and_eq_true, decide_eq_true_eq]; omega
  have lc : ev call (.lc (.cal 14 [.var 0, .var 3] []) (.nm 5) .rng1 [.bin .add (.cst (.int 1)) (.cal 13 [.var 0, .var 2] [])] [] [5]) [.bo (bagD c s), .fr WD, .fr (.int 12), .ow (.list ES), .no, .no] = _ := ev_lc (ds := [.int (1 + n)]) (items := rngD 0 (1 + n)) (ρ1 := [.bo (bagD c1 s1), .fr WD, .fr (.int 12), .ow (.list ES), .no, .no]) (by simp [ev.eq_1, ev.eq_2, ev.eq_3, ev.eq_4, ev.eq_5, ev.eq_6, ev.eq_7, ev.eq_8, ev.eq_9, ev.eq_10, ev.eq_11, ev.eq_12, ev.eq_13, ev.eq_14, ev.eq_15, ev.eq_16, ev.eq_17, ev.eq_18, ev.eq_19, ev.eq_20, ev.eq_21, evS.eq_1, evS.eq_2, evS.eq_3, evS.eq_4, evS.eq_5, evS.eq_6, evS.eq_9, evS.eq_10, evS.eq_11, evS.eq_12, evS.eq_13, evS.eq_14, evS.eq_15, runF, envOf, slotA, evSs, opn, fetch, evOs, evs, evOI, evAnd, evOr, evIfs, evRs, fetchAll, opIdx, opCmp, opBin, opBlt, opSlc, opMthK, opMth, opLt, kindD, isTy, asB, asI, asL, dOk, atI, ixN, setS, asgT, setAll, setPar, setAt, appAt, ownL, popD, calL, slotsOf, distinct, lend, giveBack, isSl, lents, lentS, killS, wipeP, back, itemsOf, e1]) (by simp only [itemsOf, hs, if_true]) e3 (by rw [hl]; unfold LIM; omega)
  refine ⟨ys, c3, s3, runF_rt (ρ := [.bo (bagD c3 s3), .fr WD, .fr (.int 12), .ow (.list ES), .no, .no]) rfl (evSs_cons sA (ret_ev (fun i z => by cases z) ?_)) rfl, by omega, hJ⟩
  rw [ev.eq_18]
  simp only [evOs, opn, lc, Option.bind_eq_bind, Option.bind_some, Option.pure_def, fetchAll, fetch, opBlt]
  rfl
theorem l_drawn (k : Nat) : DrawnE (callN fs (k + 3)) := fun c s W h => drawn_ev (l_take (k + 1)) (l_of k) (l_events (k + 1)) c s W h
end CL

set_option Elab.async false
set_option linter.all false
set_option maxRecDepth 100000
set_option maxHeartbeats 2000000
namespace CL
open PySem PV
structure Calls (call : Call) : Prop where
  take : TakeOk call 13
  of : OfOk call 14
  any3 : AnyOk call 20 3
  any2 : AnyOk call 20 2
  sp4 : SpoilOk call 21 4
  sp2 : SpoilOk call 21 2
  works : WorksOk call 17
  drawn : DrawnE call
  isW : ∀ d, Good d → call 7 [(d, false)] = some (.bool (worksB d), false, [.no])
  isW2 : ∀ d, Good d → call 26 [(d, false)] = some (.bool (worksB d), false, [.no])
  isR : ∀ W : Works, WS W → worksB (worksD W) = true → ∀ d, Good d → call 11 [(worksD W, false), (d, false)] = some (.bool (runB W d), false, [.no, .no])
  isR2 : ∀ W : Works, WS W → ∀ d, Good d → call 27 [(worksD W, false), (d, false)] = some (.bool (runB W d), false, [.no, .no])
  told : ∀ b : Bool, call 28 [(.bool b, false), (.bool b, false)] = some (.bool true, false, [.no, .no])
def turnBody : List S := [.asg (.nm 8) (.lst [.var 3, .cal 21 [.var 2, .var 3] [], .cal 21 [.var 2, .var 3] [], .cal 20 [.var 2, .cst (.int 3)] []]), .asg (.nm 9) (.cal 14 [.var 2, .var 8] []), .ife (.not (.cal 28 [.cal 7 [.var 9] [], .cal 26 [.var 9] []] [])) [.ret (.cst (.bool false))] [], .asg (.nm 9) (.cal 14 [.var 2, .lst [.var 4, .bin .mul (.var 4) (.cst (.int 7)), .cal 21 [.var 2, .var 4] [], .cal 20 [.var 2, .cst (.int 2)] []]] []), .ife (.not (.cal 28 [.cal 11 [.var 3, .var 9] [], .cal 27 [.var 3, .var 9] []] [])) [.ret (.cst (.bool false))] []]
def turnSt (scr kk WD R : D) (c s : Int) : Pl := [.fr scr, .fr kk, .ow (bagD c s), .fr WD, .fr R, .no, .no, .no, .no, .no, .no, .no, .no, .no]
theorem turn_ev {call : Call} (C : Calls call) (W : Works) (hW : WS W) (hw : worksB (worksD W) = true) (scr kk : D) (es : List D) (he : es.length ≤ 12) (hes : ∀ e ∈ es, e ∈ (eventsOf W).map evD) (c s : Int) (d : D) :
    ∃ c' s', (do
      let ρ ← asgT (turnSt scr kk (worksD W) (.tuple es) c s) (.nm 5) d false
      let (f, ρ) ← evSs call turnBody ρ
      pure (f, killS ρ [5, 8, 9])) = some (.nx, turnSt scr kk (worksD W) (.tuple es) c' s') := by
  have small := hW.small
  have r1 := C.isR W hW hw
  have r2 := C.isR2 W hW
  have gW : Good (worksD W) := small.nc.good (by decide)
  have nes : ∀ e ∈ es, Nb 1 e := fun e h => by
    obtain ⟨x, hx, rfl⟩ := List.mem_map.mp (hes e h)
    exact evs_small hW x hx
  generalize worksD W = WD at *
  have nR : Nb 2 (.tuple es) := ⟨by omega, nes⟩
  have gR : Good (.tuple es) := nR.nc.good (by decide)
  have g7 : Good (.tuple (List.replicate 7 es).flatten) := by
    refine Nc.good (k := 2) ⟨by simp; omega, fun e h => ?_⟩ (by decide)
    obtain ⟨l, hl, he⟩ := List.mem_flatten.mp h
    rw [(List.mem_replicate.mp hl).2] at he
    exact (nes e he).nc
  obtain ⟨a, wa, c1, s1, e1, ga⟩ := C.sp4 c s WD small
  obtain ⟨b, wb, c2, s2, e2, gb⟩ := C.sp4 c1 s1 WD small
  obtain ⟨z, c3, s3, e3, gz⟩ := C.any3 c2 s2
  obtain ⟨x, c4, s4, e4, hx⟩ := C.of c3 s3 [WD, a, b, z] true (by simp) (by simp)
  have gx : Good x := by
    simp only [List.mem_cons, List.not_mem_nil, or_false] at hx
    rcases hx with rfl | rfl | rfl | rfl
    · exact gW
    · exact ga.good (by decide)
    · exact gb.good (by decide)
    · exact gz.nc.good (by decide)
  have e5 := C.isW x gx
  have e6 := C.isW2 x gx
  have e7 := C.told (worksB x)
  obtain ⟨a2, wa2, c5, s5, e8, ga2⟩ := C.sp2 c4 s4 (.tuple es) nR
  obtain ⟨z2, c6, s6, e9, gz2⟩ := C.any2 c5 s5
  obtain ⟨y, c7, s7, e10, hy⟩ := C.of c6 s6 [.tuple es, .tuple (List.replicate 7 es).flatten, a2, z2] false (by simp) (by simp)
  have gy : Good y := by
    simp only [List.mem_cons, List.not_mem_nil, or_false] at hy
    rcases hy with rfl | rfl | rfl | rfl
    · exact gR
    · exact g7
    · exact ga2.good (by decide)
    · exact gz2.nc.good (by decide)
  have e11 := r1 y gy
  have e12 := r2 y gy
  have e13 := C.told (runB W y)
  refine ⟨c7, s7, ?_⟩
  have hm : (smallI 7 && decide (es.length * (7 : Int).toNat ≤ 65536) && decide (es.length ≤ 65536) && decide ((7 : Int) ≤ 65536)) = true := by
    simp only [Bool.and_eq_true, decide_eq_true_eq]
    refine ⟨⟨⟨by decide, ?_⟩, by omega⟩, by decide⟩
    show es.length * 7 ≤ 65536
    omega
  have e3' : call 20 [(bagD c2 s2, true), (.int 3, false)] = some (z, false, [.bo (bagD c3 s3), .no]) := e3
  have e9' : call 20 [(bagD c5 s5, true), (.int 2, false)] = some (z2, false, [.bo (bagD c6 s6), .no]) := e9
  simp only [if_true] at e4
  simp only [Bool.false_eq_true, if_false] at e10
  have hA : asgT (turnSt scr kk WD (.tuple es) c s) (.nm 5) d false = some [.fr scr, .fr kk, .ow (bagD c s), .fr WD, .fr (.tuple es), .fr d, .no, .no, .no, .no, .no, .no, .no, .no] := rfl
  generalize hF : (List.replicate 7 es).flatten = F at *
  have t1 : evS call (.asg (.nm 8) (.lst [.var 3, .cal 21 [.var 2, .var 3] [], .cal 21 [.var 2, .var 3] [], .cal 20 [.var 2, .cst (.int 3)] []])) [.fr scr, .fr kk, .ow (bagD c s), .fr WD, .fr (.tuple es), .fr d, .no, .no, .no, .no, .no, .no, .no, .no] = some (.nx, [.fr scr, .fr kk, .ow (bagD c3 s3), .fr WD, .fr (.tuple es), .fr d, .no, .no, .ow (.list [WD, a, b, z]), .no, .no, .no, .no, .no]) := by
    simp [ev.eq_1, ev.eq_2, ev.eq_3, ev.eq_4, ev.eq_5, ev.eq_6, ev.eq_7, ev.eq_8, ev.eq_9, ev.eq_10, ev.eq_11, ev.eq_12, ev.eq_13, ev.eq_14, ev.eq_15, ev.eq_16, ev.eq_17, ev.eq_18, ev.eq_19, ev.eq_20, ev.eq_21, evS.eq_1, evS.eq_2, evS.eq_3, evS.eq_4, evS.eq_5, evS.eq_6, evS.eq_9, evS.eq_10, evS.eq_11, evS.eq_12, evS.eq_13, evS.eq_14, evS.eq_15, runF, envOf, slotA, evSs, opn, fetch, evOs, evs, evOI, evAnd, evOr, evIfs, evRs, fetchAll, opIdx, opCmp, opBin, opBlt, opSlc, opMthK, opMth, opLt, kindD, isTy, asB, asI, asL, dOk, atI, ixN, setS, asgT, setAll, setPar, setAt, appAt, ownL, popD, calL, slotsOf, distinct, lend, giveBack, isSl, lents, lentS, killS, wipeP, back, itemsOf, e1, e2, e3']
  have t2 : evS call (.asg (.nm 9) (.cal 14 [.var 2, .var 8] [])) [.fr scr, .fr kk, .ow (bagD c3 s3), .fr WD, .fr (.tuple es), .fr d, .no, .no, .ow (.list [WD, a, b, z]), .no, .no, .no, .no, .no] = some (.nx, [.fr scr, .fr kk, .ow (bagD c4 s4), .fr WD, .fr (.tuple es), .fr d, .no, .no, .ow (.list [WD, a, b, z]), .fr x, .no, .no, .no, .no]) := by
    simp [ev.eq_1, ev.eq_2, ev.eq_3, ev.eq_4, ev.eq_5, ev.eq_6, ev.eq_7, ev.eq_8, ev.eq_9, ev.eq_10, ev.eq_11, ev.eq_12, ev.eq_13, ev.eq_14, ev.eq_15, ev.eq_16, ev.eq_17, ev.eq_18, ev.eq_19, ev.eq_20, ev.eq_21, evS.eq_1, evS.eq_2, evS.eq_3, evS.eq_4, evS.eq_5, evS.eq_6, evS.eq_9, evS.eq_10, evS.eq_11, evS.eq_12, evS.eq_13, evS.eq_14, evS.eq_15, runF, envOf, slotA, evSs, opn, fetch, evOs, evs, evOI, evAnd, evOr, evIfs, evRs, fetchAll, opIdx, opCmp, opBin, opBlt, opSlc, opMthK, opMth, opLt, kindD, isTy, asB, asI, asL, dOk, atI, ixN, setS, asgT, setAll, setPar, setAt, appAt, ownL, popD, calL, slotsOf, distinct, lend, giveBack, isSl, lents, lentS, killS, wipeP, back, itemsOf, e4]
  have t3 : ev call (.not (.cal 28 [.cal 7 [.var 9] [], .cal 26 [.var 9] []] [])) [.fr scr, .fr kk, .ow (bagD c4 s4), .fr WD, .fr (.tuple es), .fr d, .no, .no, .ow (.list [WD, a, b, z]), .fr x, .no, .no, .no, .no] = some (.bool false, false, [.fr scr, .fr kk, .ow (bagD c4 s4), .fr WD, .fr (.tuple es), .fr d, .no, .no, .ow (.list [WD, a, b, z]), .fr x, .no, .no, .no, .no]) := by
    simp [ev.eq_1, ev.eq_2, ev.eq_3, ev.eq_4, ev.eq_5, ev.eq_6, ev.eq_7, ev.eq_8, ev.eq_9, ev.eq_10, ev.eq_11, ev.eq_12, ev.eq_13, ev.eq_14, ev.eq_15, ev.eq_16, ev.eq_17, ev.eq_18, ev.eq_19, ev.eq_20, ev.eq_21, evS.eq_1, evS.eq_2, evS.eq_3, evS.eq_4, evS.eq_5, evS.eq_6, evS.eq_9, evS.eq_10, evS.eq_11, evS.eq_12, evS.eq_13, evS.eq_14, evS.eq_15, runF, envOf, slotA, evSs, opn, fetch, evOs, evs, evOI, evAnd, evOr, evIfs, evRs, fetchAll, opIdx, opCmp, opBin, opBlt, opSlc, opMthK, opMth, opLt, kindD, isTy, asB, asI, asL, dOk, atI, ixN, setS, asgT, setAll, setPar, setAt, appAt, ownL, popD, calL, slotsOf, distinct, lend, giveBack, isSl, lents, lentS, killS, wipeP, back, itemsOf, e5, e6, e7]
  have t4 : evS call (.asg (.nm 9) (.cal 14 [.var 2, .lst [.var 4, .bin .mul (.var 4) (.cst (.int 7)), .cal 21 [.var 2, .var 4] [], .cal 20 [.var 2, .cst (.int 2)] []]] [])) [.fr scr, .fr kk, .ow (bagD c4 s4), .fr WD, .fr (.tuple es), .fr d, .no, .no, .ow (.list [WD, a, b, z]), .fr x, .no, .no, .no, .no] = some (.nx, [.fr scr, .fr kk, .ow (bagD c7 s7), .fr WD, .fr (.tuple es), .fr d, .no, .no, .ow (.list [WD, a, b, z]), .fr y, .no, .no, .no, .no]) := by
    have m1 : ev call (.bin .mul (.var 4) (.cst (.int 7))) [.fr scr, .fr kk, .ow (bagD c4 s4), .fr WD, .fr (.tuple es), .fr d, .no, .no, .ow (.list [WD, a, b, z]), .fr x, .no, .no, .no, .no] = some (.tuple F, false, [.fr scr, .fr kk, .ow (bagD c4 s4), .fr WD, .fr (.tuple es), .fr d, .no, .no, .ow (.list [WD, a, b, z]), .fr x, .no, .no, .no, .no]) := by
      simp only [ev.eq_3, ev.eq_1, opn, List.getElem?_cons_succ, List.getElem?_cons_zero, Option.bind_eq_bind, Option.bind_some, fetch, opBin, hm, if_true, Option.pure_def]
      rw [← hF]
      rfl
    have l1 : ev call (.lst [.var 4, .bin .mul (.var 4) (.cst (.int 7)), .cal 21 [.var 2, .var 4] [], .cal 20 [.var 2, .cst (.int 2)] []]) [.fr scr, .fr kk, .ow (bagD c4 s4), .fr WD, .fr (.tuple es), .fr d, .no, .no, .ow (.list [WD, a, b, z]), .fr x, .no, .no, .no, .no] = some (.list [.tuple es, .tuple F, a2, z2], true, [.fr scr, .fr kk, .ow (bagD c6 s6), .fr WD, .fr (.tuple es), .fr d, .no, .no, .ow (.list [WD, a, b, z]), .fr x, .no, .no, .no, .no]) := by
      have v4 : ev call (.var 4) [.fr scr, .fr kk, .ow (bagD c4 s4), .fr WD, .fr (.tuple es), .fr d, .no, .no, .ow (.list [WD, a, b, z]), .fr x, .no, .no, .no, .no] = some (.tuple es, false, [.fr scr, .fr kk, .ow (bagD c4 s4), .fr WD, .fr (.tuple es), .fr d, .no, .no, .ow (.list [WD, a, b, z]), .fr x, .no, .no, .no, .no]) := rfl
      rw [ev.eq_11]
      simp only [evs, v4, m1, Option.bind_eq_bind, Option.bind_some]
      simp [ev.eq_1, ev.eq_2, ev.eq_3, ev.eq_4, ev.eq_5, ev.eq_6, ev.eq_7, ev.eq_8, ev.eq_9, ev.eq_10, ev.eq_11, ev.eq_12, ev.eq_13, ev.eq_14, ev.eq_15, ev.eq_16, ev.eq_17, ev.eq_18, ev.eq_19, ev.eq_20, ev.eq_21, evS.eq_1, evS.eq_2, evS.eq_3, evS.eq_4, evS.eq_5, evS.eq_6, evS.eq_9, evS.eq_10, evS.eq_11, evS.eq_12, evS.eq_13, evS.eq_14, evS.eq_15, runF, envOf, slotA, evSs, opn, fetch, evOs, evs, evOI, evAnd, evOr, evIfs, evRs, fetchAll, opIdx, opCmp, opBin, opBlt, opSlc, opMthK, opMth, opLt, kindD, isTy, asB, asI, asL, dOk, atI, ixN, setS, asgT, setAll, setPar, setAt, appAt, ownL, popD, calL, slotsOf, distinct, lend, giveBack, isSl, lents, lentS, killS, wipeP, back, itemsOf, e8, e9']
    have o : opn (.lst [.var 4, .bin .mul (.var 4) (.cst (.int 7)), .cal 21 [.var 2, .var 4] [], .cal 20 [.var 2, .cst (.int 2)] []]) (ev call (.lst [.var 4, .bin .mul (.var 4) (.cst (.int 7)), .cal 21 [.var 2, .var 4] [], .cal 20 [.var 2, .cst (.int 2)] []])) [.fr scr, .fr kk, .ow (bagD c4 s4), .fr WD, .fr (.tuple es), .fr d, .no, .no, .ow (.list [WD, a, b, z]), .fr x, .no, .no, .no, .no] = some (.dv (.list [.tuple es, .tuple F, a2, z2]), [.fr scr, .fr kk, .ow (bagD c6 s6), .fr WD, .fr (.tuple es), .fr d, .no, .no, .ow (.list [WD, a, b, z]), .fr x, .no, .no, .no, .no]) := by
      simp only [opn, l1, Option.bind_eq_bind, Option.bind_some, Option.pure_def]
    have o2 : opn (.var 2) (ev call (.var 2)) [.fr scr, .fr kk, .ow (bagD c4 s4), .fr WD, .fr (.tuple es), .fr d, .no, .no, .ow (.list [WD, a, b, z]), .fr x, .no, .no, .no, .no] = some (.sl 2, [.fr scr, .fr kk, .ow (bagD c4 s4), .fr WD, .fr (.tuple es), .fr d, .no, .no, .ow (.list [WD, a, b, z]), .fr x, .no, .no, .no, .no]) := rfl
    rw [evS.eq_1, ev.eq_16]
    simp only [evOs, o, o2, Option.bind_eq_bind, Option.bind_some, Option.pure_def, List.map_nil, List.append_nil]
    simp [calL, slotsOf, distinct, lend, fetch, isSl, giveBack, e10, asgT, setS]
  have t5 : ev call (.not (.cal 28 [.cal 11 [.var 3, .var 9] [], .cal 27 [.var 3, .var 9] []] [])) [.fr scr, .fr kk, .ow (bagD c7 s7), .fr WD, .fr (.tuple es), .fr d, .no, .no, .ow (.list [WD, a, b, z]), .fr y, .no, .no, .no, .no] = some (.bool false, false, [.fr scr, .fr kk, .ow (bagD c7 s7), .fr WD, .fr (.tuple es), .fr d, .no, .no, .ow (.list [WD, a, b, z]), .fr y, .no, .no, .no, .no]) := by
    simp [ev.eq_1, ev.eq_2, ev.eq_3, ev.eq_4, ev.eq_5, ev.eq_6, ev.eq_7, ev.eq_8, ev.eq_9, ev.eq_10, ev.eq_11, ev.eq_12, ev.eq_13, ev.eq_14, ev.eq_15, ev.eq_16, ev.eq_17, ev.eq_18, ev.eq_19, ev.eq_20, ev.eq_21, evS.eq_1, evS.eq_2, evS.eq_3, evS.eq_4, evS.eq_5, evS.eq_6, evS.eq_9, evS.eq_10, evS.eq_11, evS.eq_12, evS.eq_13, evS.eq_14, evS.eq_15, runF, envOf, slotA, evSs, opn, fetch, evOs, evs, evOI, evAnd, evOr, evIfs, evRs, fetchAll, opIdx, opCmp, opBin, opBlt, opSlc, opMthK, opMth, opLt, kindD, isTy, asB, asI, asL, dOk, atI, ixN, setS, asgT, setAll, setPar, setAt, appAt, ownL, popD, calL, slotsOf, distinct, lend, giveBack, isSl, lents, lentS, killS, wipeP, back, itemsOf, e11, e12, e13]
  exact (step_of hA (evSs_cons t1 (evSs_cons t2 (ife_f t3 (evSs_cons t4 (ife_f t5 (evSs_nil _ _))))))).trans rfl
theorem turns {call : Call} (C : Calls call) (W : Works) (hW : WS W) (hw : worksB (worksD W) = true) (scr kk : D) (es : List D) (he : es.length ≤ 12) (hes : ∀ e ∈ es, e ∈ (eventsOf W).map evD) (c s : Int) :
    ∃ c' s', evS call (.for (.nm 5) .rng1 [.cst (.int 8)] turnBody [5, 8, 9]) (turnSt scr kk (worksD W) (.tuple es) c s) = some (.nx, turnSt scr kk (worksD W) (.tuple es) c' s') := by
  obtain ⟨ρ', e, hI⟩ := forL_nx (step := fun d ρ => do
      let ρ ← asgT ρ (.nm 5) d false
      let (f, ρ) ← evSs call turnBody ρ
      pure (f, killS ρ [5, 8, 9])) (fun _ ρ => ∃ c s, ρ = turnSt scr kk (worksD W) (.tuple es) c s) (rngD 0 8) 0 (turnSt scr kk (worksD W) (.tuple es) c s) (fun j d ρ hd hI => by
    obtain ⟨c, s, rfl⟩ := hI
    obtain ⟨c', s', e⟩ := turn_ev C W hW hw scr kk es he hes c s d
    exact ⟨_, e, c', s', rfl⟩) ⟨c, s, rfl⟩
  obtain ⟨c', s', rfl⟩ := hI
  exact ⟨c', s', evS_for (ds := [.int 8]) (items := rngD 0 8) (by simp [evs, ev.eq_1]) (by simp only [itemsOf, show smallI 8 = true from by decide, if_true]) e⟩
def kBody : List S := [.asg (.nm 2) (.cal 12 [.var 0, .var 1] []), .asg (.nm 3) (.cal 17 [.var 2, .bin .add (.cst (.int 1)) (.cal 13 [.var 2, .cst (.int 3)] []), .bin .add (.cst (.int 1)) (.cal 13 [.var 2, .cst (.int 5)] []), .cst (.int 4)] []), .asg (.nm 4) (.cal 19 [.var 2, .var 3, .cst (.int 12)] []), .for (.nm 5) .rng1 [.cst (.int 8)] turnBody [5, 8, 9], .asg (.nm 6) (.tup [.cst (.str "change"), .idx (.idx (.var 3) (.cst (.int 0))) (.cst (.int 0))]), .asg (.nm 7) (.lst [.cal 11 [.var 3, .tup []] [], .cal 11 [.var 3, .bin .mul (.tup [.var 6]) (.cst (.int 60))] [], .cal 11 [.var 3, .bin .mul (.tup [.var 6]) (.cst (.int 61))] []]), .ife (.cmp .ne (.var 7) (.lst [.cst (.bool true), .cst (.bool true), .cst (.bool false)])) [.ret (.cst (.bool false))] []]
theorem rep_one (e : D) (n : Nat) : (List.replicate n [e]).flatten = List.replicate n e := by
  induction n with
  | zero => rfl
  | succ n ih => rw [List.replicate_succ, List.flatten_cons, ih]; rfl
theorem k_ev {call : Call} (C : Calls call) (hV : ∀ (sn tn jn : Int) (W : Works), WOk sn tn jn W → 1 ≤ sn → sn ≤ 3 → 1 ≤ tn → tn ≤ 5 → jn ≤ 4 → worksB (worksD W) = true) (scr : D) (k : Int) (hB : ∃ c s, call 12 [(scr, false), (.int k, false)] = some (bagD c s, true, [.no, .no])) :
    (do
      let ρ ← asgT [.fr scr, .no, .no, .no, .no, .no, .no, .no, .no, .no, .no, .no, .no, .no] (.nm 1) (.int k) false
      let (f, ρ) ← evSs call kBody ρ
      pure (f, killS ρ [1, 2, 3, 4, 5, 6, 7, 8, 9])) = some (.nx, [.fr scr, .no, .no, .no, .no, .no, .no, .no, .no, .no, .no, .no, .no, .no]) := by
  obtain ⟨c, s, e0⟩ := hB
  obtain ⟨a, c1, s1, e1, a0, a1⟩ := C.take c s 3 (by decide) (by decide)
  obtain ⟨b, c2, s2, e2, b0, b1⟩ := C.take c1 s1 5 (by decide) (by decide)
  obtain ⟨W, c3, s3, e3, wok⟩ := C.works c2 s2 (1 + a) (1 + b) 4 (by omega) (by omega) (by omega) (by omega) (by decide) (by decide)
  have hW := ws_of wok (by omega) (by omega) (by omega) (by omega) (by decide)
  have hw := hV _ _ _ W wok (by omega) (by omega) (by omega) (by omega) (by decide)
  obtain ⟨es, c4, s4, e4, le, he⟩ := C.drawn c3 s3 W hW
  obtain ⟨c5, s5, e5⟩ := turns C W hW hw scr (.int k) es le he c4 s4
  obtain ⟨h, t, hs⟩ : ∃ h t, W.ss = h :: t := by
    cases q : W.ss with
    | nil => exact absurd q hW.ne
    | cons h t => exact ⟨h, t, rfl⟩
  have i1 : ev call (.idx (.idx (.var 3) (.cst (.int 0))) (.cst (.int 0))) [.fr scr, .fr (.int k), .ow (bagD c5 s5), .fr (worksD W), .fr (.tuple es), .no, .no, .no, .no, .no, .no, .no, .no, .no] = some (.str h, false, [.fr scr, .fr (.int k), .ow (bagD c5 s5), .fr (worksD W), .fr (.tuple es), .no, .no, .no, .no, .no, .no, .no, .no, .no]) := by
    simp [ev.eq_1, ev.eq_2, ev.eq_3, ev.eq_4, ev.eq_5, ev.eq_6, ev.eq_7, ev.eq_8, ev.eq_9, ev.eq_10, ev.eq_11, ev.eq_12, ev.eq_13, ev.eq_14, ev.eq_15, ev.eq_16, ev.eq_17, ev.eq_18, ev.eq_19, ev.eq_20, ev.eq_21, evS.eq_1, evS.eq_2, evS.eq_3, evS.eq_4, evS.eq_5, evS.eq_6, evS.eq_9, evS.eq_10, evS.eq_11, evS.eq_12, evS.eq_13, evS.eq_14, evS.eq_15, runF, envOf, slotA, evSs, opn, fetch, evOs, evs, evOI, evAnd, evOr, evIfs, evRs, fetchAll, opIdx, opCmp, opBin, opBlt, opSlc, opMthK, opMth, opLt, kindD, isTy, asB, asI, asL, dOk, atI, ixN, setS, asgT, setAll, setPar, setAt, appAt, ownL, popD, calL, slotsOf, distinct, lend, giveBack, isSl, lents, lentS, killS, wipeP, back, itemsOf, worksD, hs, txts]
  have eE : [("change" : Str), h] ∈ eventsOf W := mem_events.mpr (.inl ⟨rfl, by rw [hs]; exact List.mem_cons_self⟩)
  have nE : Nb 1 (evD [("change" : Str), h]) := evs_small hW _ eE
  have gE : Good (evD [("change" : Str), h]) := nE.nc.good (by decide)
  have bE : eventB W (evD [("change" : Str), h]) = true := by
    have := eventB_txts W [("change" : Str), h]
    rw [decide_eq_true eE] at this
    exact this
  have run0 : runB W (.tuple []) = true := rfl
  have runN : ∀ n : Nat, n ≤ 60 → runB W (.tuple (List.replicate n (evD [("change" : Str), h]))) = true := fun n hn => by
    unfold runB
    rw [Bool.and_eq_true]
    refine ⟨?_, ?_⟩
    · simp only [rowB, List.length_replicate, Bool.and_eq_true, decide_eq_true_eq]; omega
    · show (List.replicate n (evD [("change" : Str), h])).all (eventB W) = true
      rw [List.all_eq_true]
      intro x hx
      rw [(List.mem_replicate.mp hx).2]
      exact bE
  have run61 : runB W (.tuple (List.replicate 61 (evD [("change" : Str), h]))) = false := by
    unfold runB
    have : rowB (.tuple (List.replicate 61 (evD [("change" : Str), h]))) 0 60 = false := by
      simp only [rowB, List.length_replicate]; rfl
    rw [this]; rfl
  have gN : ∀ n : Nat, n ≤ 61 → Good (.tuple (List.replicate n (evD [("change" : Str), h]))) := fun n hn => Nc.good (k := 2) ⟨by rw [List.length_replicate]; omega, fun x hx => by
    rw [(List.mem_replicate.mp hx).2]
    exact nE.nc⟩ (by decide)
  have q0 := C.isR W hW hw (.tuple []) (Nc.good (k := 1) ⟨by simp, fun x hx => by simp at hx⟩ (by decide))
  have q1 := C.isR W hW hw _ (gN 60 (by decide))
  have q2 := C.isR W hW hw _ (gN 61 (by decide))
  rw [run0] at q0
  rw [runN 60 (by decide)] at q1
  rw [run61] at q2
  have hA : asgT [.fr scr, .no, .no, .no, .no, .no, .no, .no, .no, .no, .no, .no, .no, .no] (.nm 1) (.int k) false = some [.fr scr, .fr (.int k), .no, .no, .no, .no, .no, .no, .no, .no, .no, .no, .no, .no] := rfl
  have t1 : evS call (.asg (.nm 2) (.cal 12 [.var 0, .var 1] [])) [.fr scr, .fr (.int k), .no, .no, .no, .no, .no, .no, .no, .no, .no, .no, .no, .no] = some (.nx, [.fr scr, .fr (.int k), .ow (bagD c s), .no, .no, .no, .no, .no, .no, .no, .no, .no, .no, .no]) := by
    simp [ev.eq_1, ev.eq_2, ev.eq_3, ev.eq_4, ev.eq_5, ev.eq_6, ev.eq_7, ev.eq_8, ev.eq_9, ev.eq_10, ev.eq_11, ev.eq_12, ev.eq_13, ev.eq_14, ev.eq_15, ev.eq_16, ev.eq_17, ev.eq_18, ev.eq_19, ev.eq_20, ev.eq_21, evS.eq_1, evS.eq_2, evS.eq_3, evS.eq_4, evS.eq_5, evS.eq_6, evS.eq_9, evS.eq_10, evS.eq_11, evS.eq_12, evS.eq_13, evS.eq_14, evS.eq_15, runF, envOf, slotA, evSs, opn, fetch, evOs, evs, evOI, evAnd, evOr, evIfs, evRs, fetchAll, opIdx, opCmp, opBin, opBlt, opSlc, opMthK, opMth, opLt, kindD, isTy, asB, asI, asL, dOk, atI, ixN, setS, asgT, setAll, setPar, setAt, appAt, ownL, popD, calL, slotsOf, distinct, lend, giveBack, isSl, lents, lentS, killS, wipeP, back, itemsOf, e0]
  have t2 : evS call (.asg (.nm 3) (.cal 17 [.var 2, .bin .add (.cst (.int 1)) (.cal 13 [.var 2, .cst (.int 3)] []), .bin .add (.cst (.int 1)) (.cal 13 [.var 2, .cst (.int 5)] []), .cst (.int 4)] [])) [.fr scr, .fr (.int k), .ow (bagD c s), .no, .no, .no, .no, .no, .no, .no, .no, .no, .no, .no] = some (.nx, [.fr scr, .fr (.int k), .ow (bagD c3 s3), .fr (worksD W), .no, .no, .no, .no, .no, .no, .no, .no, .no, .no]) := by
    generalize worksD W = WD at *
    simp [ev.eq_1, ev.eq_2, ev.eq_3, ev.eq_4, ev.eq_5, ev.eq_6, ev.eq_7, ev.eq_8, ev.eq_9, ev.eq_10, ev.eq_11, ev.eq_12, ev.eq_13, ev.eq_14, ev.eq_15, ev.eq_16, ev.eq_17, ev.eq_18, ev.eq_19, ev.eq_20, ev.eq_21, evS.eq_1, evS.eq_2, evS.eq_3, evS.eq_4, evS.eq_5, evS.eq_6, evS.eq_9, evS.eq_10, evS.eq_11, evS.eq_12, evS.eq_13, evS.eq_14, evS.eq_15, runF, envOf, slotA, evSs, opn, fetch, evOs, evs, evOI, evAnd, evOr, evIfs, evRs, fetchAll, opIdx, opCmp, opBin, opBlt, opSlc, opMthK, opMth, opLt, kindD, isTy, asB, asI, asL, dOk, atI, ixN, setS, asgT, setAll, setPar, setAt, appAt, ownL, popD, calL, slotsOf, distinct, lend, giveBack, isSl, lents, lentS, killS, wipeP, back, itemsOf, e1, e2, e3]
  have t3 : evS call (.asg (.nm 4) (.cal 19 [.var 2, .var 3, .cst (.int 12)] [])) [.fr scr, .fr (.int k), .ow (bagD c3 s3), .fr (worksD W), .no, .no, .no, .no, .no, .no, .no, .no, .no, .no] = some (.nx, turnSt scr (.int k) (worksD W) (.tuple es) c4 s4) := by
    generalize worksD W = WD at *
    simp [ev.eq_1, ev.eq_2, ev.eq_3, ev.eq_4, ev.eq_5, ev.eq_6, ev.eq_7, ev.eq_8, ev.eq_9, ev.eq_10, ev.eq_11, ev.eq_12, ev.eq_13, ev.eq_14, ev.eq_15, ev.eq_16, ev.eq_17, ev.eq_18, ev.eq_19, ev.eq_20, ev.eq_21, evS.eq_1, evS.eq_2, evS.eq_3, evS.eq_4, evS.eq_5, evS.eq_6, evS.eq_9, evS.eq_10, evS.eq_11, evS.eq_12, evS.eq_13, evS.eq_14, evS.eq_15, runF, envOf, slotA, evSs, opn, fetch, evOs, evs, evOI, evAnd, evOr, evIfs, evRs, fetchAll, opIdx, opCmp, opBin, opBlt, opSlc, opMthK, opMth, opLt, kindD, isTy, asB, asI, asL, dOk, atI, ixN, setS, asgT, setAll, setPar, setAt, appAt, ownL, popD, calL, slotsOf, distinct, lend, giveBack, isSl, lents, lentS, killS, wipeP, back, itemsOf, e4, turnSt]
  generalize worksD W = WD at *
  generalize hEV : evD [("change" : Str), h] = EV at *
  have t6 : evS call (.asg (.nm 6) (.tup [.cst (.str "change"), .idx (.idx (.var 3) (.cst (.int 0))) (.cst (.int 0))])) (turnSt scr (.int k) WD (.tuple es) c5 s5) = some (.nx, [.fr scr, .fr (.int k), .ow (bagD c5 s5), .fr WD, .fr (.tuple es), .no, .fr EV, .no, .no, .no, .no, .no, .no, .no]) := by
    rw [evS.eq_1, ev.eq_10]
    simp only [turnSt, evs, ev.eq_1, i1, Option.bind_eq_bind, Option.bind_some, Option.pure_def]
    rw [← hEV]
    rfl
  have m60 : ev call (.bin .mul (.tup [.var 6]) (.cst (.int 60))) [.fr scr, .fr (.int k), .ow (bagD c5 s5), .fr WD, .fr (.tuple es), .no, .fr EV, .no, .no, .no, .no, .no, .no, .no] = some (.tuple (List.replicate 60 EV), false, [.fr scr, .fr (.int k), .ow (bagD c5 s5), .fr WD, .fr (.tuple es), .no, .fr EV, .no, .no, .no, .no, .no, .no, .no]) := by
    rw [← rep_one]
    have hc : (smallI 60 && decide ([EV].length * (60 : Int).toNat ≤ 65536) && decide ([EV].length ≤ 65536) && decide ((60 : Int) ≤ 65536)) = true := rfl
    simp only [ev.eq_3, ev.eq_1, ev.eq_10, evs, ev.eq_2, opn, List.getElem?_cons_succ, List.getElem?_cons_zero, Option.bind_eq_bind, Option.bind_some, fetch, opBin, hc, if_true, Option.pure_def]
    rfl
  have m61 : ev call (.bin .mul (.tup [.var 6]) (.cst (.int 61))) [.fr scr, .fr (.int k), .ow (bagD c5 s5), .fr WD, .fr (.tuple es), .no, .fr EV, .no, .no, .no, .no, .no, .no, .no] = some (.tuple (List.replicate 61 EV), false, [.fr scr, .fr (.int k), .ow (bagD c5 s5), .fr WD, .fr (.tuple es), .no, .fr EV, .no, .no, .no, .no, .no, .no, .no]) := by
    rw [← rep_one]
    have hc : (smallI 61 && decide ([EV].length * (61 : Int).toNat ≤ 65536) && decide ([EV].length ≤ 65536) && decide ((61 : Int) ≤ 65536)) = true := rfl
    simp only [ev.eq_3, ev.eq_1, ev.eq_10, evs, ev.eq_2, opn, List.getElem?_cons_succ, List.getElem?_cons_zero, Option.bind_eq_bind, Option.bind_some, fetch, opBin, hc, if_true, Option.pure_def]
    rfl
  generalize List.replicate 60 EV = R60 at *
  generalize List.replicate 61 EV = R61 at *
  have cal : ∀ (Y : X) (v : D) (b : Bool), (∀ i, Y ≠ .var i) → ev call Y [.fr scr, .fr (.int k), .ow (bagD c5 s5), .fr WD, .fr (.tuple es), .no, .fr EV, .no, .no, .no, .no, .no, .no, .no] = some (v, false, [.fr scr, .fr (.int k), .ow (bagD c5 s5), .fr WD, .fr (.tuple es), .no, .fr EV, .no, .no, .no, .no, .no, .no, .no]) → call 11 [(WD, false), (v, false)] = some (.bool b, false, [.no, .no]) → ev call (.cal 11 [.var 3, Y] []) [.fr scr, .fr (.int k), .ow (bagD c5 s5), .fr WD, .fr (.tuple es), .no, .fr EV, .no, .no, .no, .no, .no, .no, .no] = some (.bool b, false, [.fr scr, .fr (.int k), .ow (bagD c5 s5), .fr WD, .fr (.tuple es), .no, .fr EV, .no, .no, .no, .no, .no, .no, .no]) := fun Y v b nv hY hc => by
    have o : opn Y (ev call Y) [.fr scr, .fr (.int k), .ow (bagD c5 s5), .fr WD, .fr (.tuple es), .no, .fr EV, .no, .no, .no, .no, .no, .no, .no] = some (.dv v, [.fr scr, .fr (.int k), .ow (bagD c5 s5), .fr WD, .fr (.tuple es), .no, .fr EV, .no, .no, .no, .no, .no, .no, .no]) := by
      cases Y <;> first | exact absurd rfl (nv _) | simp only [opn, hY, Option.bind_eq_bind, Option.bind_some, Option.pure_def]
    have o2 : opn (.var 3) (ev call (.var 3)) [.fr scr, .fr (.int k), .ow (bagD c5 s5), .fr WD, .fr (.tuple es), .no, .fr EV, .no, .no, .no, .no, .no, .no, .no] = some (.dv WD, [.fr scr, .fr (.int k), .ow (bagD c5 s5), .fr WD, .fr (.tuple es), .no, .fr EV, .no, .no, .no, .no, .no, .no, .no]) := rfl
    rw [ev.eq_16]
    simp only [evOs, o, o2, Option.bind_eq_bind, Option.bind_some, Option.pure_def, List.map_nil, List.append_nil]
    simp [calL, slotsOf, distinct, lend, fetch, isSl, giveBack, hc]
  have u0 := cal (.tup []) (.tuple []) true (fun _ z => by cases z) (by simp [ev.eq_10, evs]) q0
  have u1 := cal _ _ true (fun _ z => by cases z) m60 q1
  have u2 := cal _ _ false (fun _ z => by cases z) m61 q2
  have t7 : evS call (.asg (.nm 7) (.lst [.cal 11 [.var 3, .tup []] [], .cal 11 [.var 3, .bin .mul (.tup [.var 6]) (.cst (.int 60))] [], .cal 11 [.var 3, .bin .mul (.tup [.var 6]) (.cst (.int 61))] []])) [.fr scr, .fr (.int k), .ow (bagD c5 s5), .fr WD, .fr (.tuple es), .no, .fr EV, .no, .no, .no, .no, .no, .no, .no] = some (.nx, [.fr scr, .fr (.int k), .ow (bagD c5 s5), .fr WD, .fr (.tuple es), .no, .fr EV, .ow (.list [.bool true, .bool true, .bool false]), .no, .no, .no, .no, .no, .no]) := by
    rw [evS.eq_1, ev.eq_11]
    simp only [evs, u0, u1, u2, Option.bind_eq_bind, Option.bind_some, Option.pure_def]
    rfl
  have pb : pyEq (.list [.bool true, .bool true, .bool false]) (.list [.bool true, .bool true, .bool false]) = some true := rfl
  have t8 : ev call (.cmp .ne (.var 7) (.lst [.cst (.bool true), .cst (.bool true), .cst (.bool false)])) [.fr scr, .fr (.int k), .ow (bagD c5 s5), .fr WD, .fr (.tuple es), .no, .fr EV, .ow (.list [.bool true, .bool true, .bool false]), .no, .no, .no, .no, .no, .no] = some (.bool false, false, [.fr scr, .fr (.int k), .ow (bagD c5 s5), .fr WD, .fr (.tuple es), .no, .fr EV, .ow (.list [.bool true, .bool true, .bool false]), .no, .no, .no, .no, .no, .no]) := by
    simp [ev.eq_1, ev.eq_2, ev.eq_3, ev.eq_4, ev.eq_5, ev.eq_6, ev.eq_7, ev.eq_8, ev.eq_9, ev.eq_10, ev.eq_11, ev.eq_12, ev.eq_13, ev.eq_14, ev.eq_15, ev.eq_16, ev.eq_17, ev.eq_18, ev.eq_19, ev.eq_20, ev.eq_21, evS.eq_1, evS.eq_2, evS.eq_3, evS.eq_4, evS.eq_5, evS.eq_6, evS.eq_9, evS.eq_10, evS.eq_11, evS.eq_12, evS.eq_13, evS.eq_14, evS.eq_15, runF, envOf, slotA, evSs, opn, fetch, evOs, evs, evOI, evAnd, evOr, evIfs, evRs, fetchAll, opIdx, opCmp, opBin, opBlt, opSlc, opMthK, opMth, opLt, kindD, isTy, asB, asI, asL, dOk, atI, ixN, setS, asgT, setAll, setPar, setAt, appAt, ownL, popD, calL, slotsOf, distinct, lend, giveBack, isSl, lents, lentS, killS, wipeP, back, itemsOf, pb]
  exact (step_of hA (evSs_cons t1 (evSs_cons t2 (evSs_cons t3 (evSs_cons e5 (evSs_cons t6 (evSs_cons t7 (ife_f t8 (evSs_nil _ _))))))))).trans rfl
end CL

set_option Elab.async false
set_option linter.all false
set_option maxRecDepth 100000
set_option maxHeartbeats 2000000
namespace CL
open PySem PV
def goodL : List D := [.tuple [.tuple [.str "s"], .tuple [.tuple [.str "x", .tuple [.str "s"], .str "kept"], .tuple [.str "y", .tuple [.str "s", .str "x"], .str "asked"]], .tuple [.tuple [.str "j", .tuple [.str "y", .str "x"]]]], .tuple [.tuple [.str "s", .str "t", .str "u"], .tuple [.tuple [.str "x", .tuple [.str "s"], .str "kept"]], .tuple []]]
def badL : List D := [.tuple [.tuple [.str "s"], .tuple [.tuple [.str "y", .tuple [.str "s", .str "x"], .str "asked"], .tuple [.str "x", .tuple [.str "s"], .str "kept"]], .tuple []], .tuple [.tuple [.str "t", .str "s"], .tuple [.tuple [.str "x", .tuple [.str "s"], .str "kept"]], .tuple []], .tuple [.tuple [.str "s"], .tuple [.tuple [.str "x", .tuple [.str "s"], .str "kept"], .tuple [.str "x", .tuple [.str "s"], .str "kept"]], .tuple []], .tuple [.tuple [.str "s"], .tuple [], .tuple []], .tuple [.tuple [], .tuple [.tuple [.str "x", .tuple [.str "s"], .str "kept"]], .tuple []], .tuple [.tuple [.str "s"], .tuple [.tuple [.str "x", .tuple [.str "s"], .str "kept"]], .tuple [.tuple [.str "j", .tuple []]]], .tuple [.tuple [.str "s"], .tuple [.tuple [.str "x", .tuple [.str "s"], .str "kept"]], .tuple [.tuple [.str "j", .tuple [.str "x", .str "x"]]]], .tuple [.tuple [.str "s"], .tuple [.tuple [.str "x", .tuple [.str "s"], .str "kept"]], .tuple [.tuple [.str "j", .tuple [.str "s"]]]], .tuple [.tuple [.str "s", .str "x"], .tuple [.tuple [.str "x", .tuple [.str "s"], .str "kept"]], .tuple []], .tuple [.tuple [.str "s"], .tuple [.tuple [.str "y", .tuple [.str "s", .str "x"], .str "asked"]], .tuple []], .tuple [.tuple [.str "s"], .tuple [.tuple [.str "x", .tuple [], .str "kept"]], .tuple []]]
def tailA : List S := [.par [10, 11] [.tup [.cst (.str "x"), .tup [.cst (.str "s")], .cst (.str "kept")], .tup [.cst (.str "y"), .tup [.cst (.str "s"), .cst (.str "x")], .cst (.str "asked")]], .asg (.nm 12) (.lst [.tup [.tup [.cst (.str "s")], .tup [.var 10, .var 11], .tup [.tup [.cst (.str "j"), .tup [.cst (.str "y"), .cst (.str "x")]]]], .tup [.tup [.cst (.str "s"), .cst (.str "t"), .cst (.str "u")], .tup [.var 10], .tup []]]), .asg (.nm 13) (.lst [.tup [.tup [.cst (.str "s")], .tup [.var 11, .var 10], .tup []], .tup [.tup [.cst (.str "t"), .cst (.str "s")], .tup [.var 10], .tup []], .tup [.tup [.cst (.str "s")], .tup [.var 10, .var 10], .tup []], .tup [.tup [.cst (.str "s")], .tup [], .tup []], .tup [.tup [], .tup [.var 10], .tup []]]), .asg (.nm 13) (.bin .add (.var 13) (.lst [.tup [.tup [.cst (.str "s")], .tup [.var 10], .tup [.tup [.cst (.str "j"), .tup []]]], .tup [.tup [.cst (.str "s")], .tup [.var 10], .tup [.tup [.cst (.str "j"), .tup [.cst (.str "x"), .cst (.str "x")]]]], .tup [.tup [.cst (.str "s")], .tup [.var 10], .tup [.tup [.cst (.str "j"), .tup [.cst (.str "s")]]]]])), .asg (.nm 13) (.bin .add (.var 13) (.lst [.tup [.tup [.cst (.str "s"), .cst (.str "x")], .tup [.var 10], .tup []], .tup [.tup [.cst (.str "s")], .tup [.tup [.cst (.str "y"), .tup [.cst (.str "s"), .cst (.str "x")], .cst (.str "asked")]], .tup []]])), .app 13 (.tup [.tup [.cst (.str "s")], .tup [.tup [.cst (.str "x"), .tup [], .cst (.str "kept")]], .tup []])]
def retA : X := .cmp .eq (.lc (.cal 7 [.var 9] []) (.nm 9) .seq [.bin .add (.var 12) (.var 13)] [] [9]) (.bin .add (.bin .mul (.lst [.cst (.bool true)]) (.cst (.int 2))) (.bin .mul (.lst [.cst (.bool false)]) (.cst (.int 11))))
def tailSt (scr : D) : Pl := [.fr scr, .no, .no, .no, .no, .no, .no, .no, .no, .no, .fr (.tuple [.str "x", .tuple [.str "s"], .str "kept"]), .fr (.tuple [.str "y", .tuple [.str "s", .str "x"], .str "asked"]), .ow (.list goodL), .ow (.list badL)]
theorem evSs_app {call : Call} : ∀ {a b : List S} {ρ ρ1 : Pl} {r : Option (Fl × Pl)}, evSs call a ρ = some (.nx, ρ1) → evSs call b ρ1 = r → evSs call (a ++ b) ρ = r
  | [], b, ρ, ρ1, r, h1, h2 => by
    rw [evSs_nil] at h1
    cases h1
    exact h2
  | s :: a, b, ρ, ρ1, r, h1, h2 => by
    rw [List.cons_append]
    rw [evSs] at h1 ⊢
    cases h : evS call s ρ with
    | none => rw [h] at h1; cases h1
    | some q =>
      obtain ⟨f, ρ2⟩ := q
      rw [h] at h1
      cases f with
      | nx => exact evSs_app h1 h2
      | bk => cases h1
      | ct => cases h1
      | rt d o => cases h1
theorem tail_ev (call : Call) (scr : D) : evSs call tailA [.fr scr, .no, .no, .no, .no, .no, .no, .no, .no, .no, .no, .no, .no, .no] = some (.nx, tailSt scr) := by
  kernel_rfl
def ncB : Nat → D → Bool
  | _, .none => true
  | _, .bool _ => true
  | _, .int _ => true
  | _, .str x => decide (x.length ≤ 300)
  | k + 1, .list ds => decide (ds.length ≤ 100) && ds.all (ncB k)
  | k + 1, .tuple ds => decide (ds.length ≤ 100) && ds.all (ncB k)
  | _, _ => false
theorem nc_of : ∀ {k : Nat} {d : D}, ncB k d = true → Nc k d
  | 0, d, h => by
    cases d with
    | str x => exact of_decide_eq_true (p := x.length ≤ 300) h
    | list ds => cases h
    | tuple ds => cases h
    | dict ds => cases h
    | _ => exact trivial
  | k + 1, d, h => by
    cases d with
    | str x => exact of_decide_eq_true (p := x.length ≤ 300) h
    | list ds =>
      have h : (decide (ds.length ≤ 100) && ds.all (ncB k)) = true := h
      rw [Bool.and_eq_true] at h
      exact ⟨of_decide_eq_true h.1, fun d hd => nc_of (List.all_eq_true.mp h.2 d hd)⟩
    | tuple ds =>
      have h : (decide (ds.length ≤ 100) && ds.all (ncB k)) = true := h
      rw [Bool.and_eq_true] at h
      exact ⟨of_decide_eq_true h.1, fun d hd => nc_of (List.all_eq_true.mp h.2 d hd)⟩
    | dict ds => cases h
    | _ => exact trivial
theorem gb_good : ∀ d ∈ goodL ++ badL, Good d := fun d hd => by
  have h : (goodL ++ badL).all (ncB 5) = true := by kernel_rfl
  exact (nc_of (List.all_eq_true.mp h d hd)).good (by decide)
theorem gb_vals : bools worksB (goodL ++ badL) = [.bool true, .bool true, .bool false, .bool false, .bool false, .bool false, .bool false, .bool false, .bool false, .bool false, .bool false, .bool false, .bool false] := by
  have h : (goodL ++ badL).map worksB = [true, true, false, false, false, false, false, false, false, false, false, false, false] := by kernel_rfl
  have e : bools worksB (goodL ++ badL) = ((goodL ++ badL).map worksB).map PyData.bool := by unfold bools; rw [List.map_map]; rfl
  rw [e, h]
  rfl
theorem opn_of {call : Call} {Y : X} {ρ ρ1 : Pl} {d : D} {w : Bool} (nv : ∀ i, Y ≠ .var i) (h : ev call Y ρ = some (d, w, ρ1)) : opn Y (ev call Y) ρ = some (.dv d, ρ1) := by
  cases Y <;> first | exact absurd rfl (nv _) | simp only [opn, h, Option.bind_eq_bind, Option.bind_some, Option.pure_def]
theorem ret_a {call : Call} (hI : ∀ d, Good d → call 7 [(d, false)] = some (.bool (worksB d), false, [.no])) (scr : D) : ev call retA (tailSt scr) = some (.bool true, false, tailSt scr) := by
  have a1 : evs call [.bin .add (.var 12) (.var 13)] (tailSt scr) = some ([.list (goodL ++ badL)], tailSt scr) := by
    have hl : goodL.length + badL.length ≤ LIM := by show 13 ≤ LIM; decide
    simp only [evs, ev.eq_3, tailSt, opn, List.getElem?_cons_succ, List.getElem?_cons_zero, Option.bind_eq_bind, Option.bind_some, fetch, opBin, hl, if_true, Option.pure_def]
  have t := ev_lcB (call := call) (e := .cal 7 [.var 9] []) (g := worksB) (tg := .nm 9) (k := .seq) (its := [.bin .add (.var 12) (.var 13)]) (own := [9]) (ρ := tailSt scr) (ρ1 := tailSt scr) (ds := [.list (goodL ++ badL)]) (items := goodL ++ badL) a1 rfl (fun z hz => by
    refine ⟨(tailSt scr).set 9 (.fr z), (tailSt scr).set 9 (.fr z), false, rfl, ?_, rfl⟩
    have e := hI z (gb_good z hz)
    generalize goodL = A
    have o : opn (.var 9) (ev call (.var 9)) ((tailSt scr).set 9 (.fr z)) = some (.dv z, (tailSt scr).set 9 (.fr z)) := rfl
    rw [ev.eq_16]
    simp only [evOs, o, Option.bind_eq_bind, Option.bind_some, Option.pure_def, List.map_nil, List.append_nil]
    simp only [calL, slotsOf, distinct, lend, fetch, isSl, giveBack, e, Option.bind_eq_bind, Option.bind_some, Option.pure_def, if_true]) (by show 13 ≤ LIM; decide)
  rw [gb_vals] at t
  have b : ev call (.bin .add (.bin .mul (.lst [.cst (.bool true)]) (.cst (.int 2))) (.bin .mul (.lst [.cst (.bool false)]) (.cst (.int 11)))) (tailSt scr) = some (.list [.bool true, .bool true, .bool false, .bool false, .bool false, .bool false, .bool false, .bool false, .bool false, .bool false, .bool false, .bool false, .bool false], true, tailSt scr) := by
    generalize tailSt scr = ρ
    kernel_rfl
  have q : pyEq (.list [.bool true, .bool true, .bool false, .bool false, .bool false, .bool false, .bool false, .bool false, .bool false, .bool false, .bool false, .bool false, .bool false]) (.list [.bool true, .bool true, .bool false, .bool false, .bool false, .bool false, .bool false, .bool false, .bool false, .bool false, .bool false, .bool false, .bool false]) = some true := by kernel_rfl
  have eb : back (tailSt scr) (wipeP (tailSt scr) [9]) [9] = tailSt scr := rfl
  rw [eb] at t
  have o1 := opn_of (fun _ z => by cases z) t
  have o2 := opn_of (fun _ z => by cases z) b
  unfold retA
  rw [ev.eq_4]
  simp only [o1, o2, Option.bind_eq_bind, Option.bind_some, fetch, opCmp, q, Option.pure_def]
theorem isWorks_true (k : Nat) (sn tn jn : Int) (W : Works) (h : WOk sn tn jn W) (h1 : 1 ≤ sn) (h2 : sn ≤ 3) (h3 : 1 ≤ tn) (h4 : tn ≤ 5) (h5 : jn ≤ 4) : worksB (worksD W) = true := by
  have hg := (ws_of h h1 h2 h3 h4 h5).small.nc.good (by decide)
  have a := l_isWorks 0 (worksD W) hg
  have m_name : NameOk (callN fs 1) 0 := fun x h => name_ok (callN fs 0) x h
  have m_row (k : Nat) : RowOk (callN fs (k + 1)) 1 := fun ds a b h1 h2 => row_ok (callN fs k) ds a b h1 h2
  have m_asc (k : Nat) : AscOk (callN fs (k + 1)) 2 := fun xs h1 h2 => asc_ok (callN fs k) xs h1 h2
  have m_nm (k : Nat) : NameOk (callN fs (k + 1)) 0 := fun x h => name_ok (callN fs k) x h
  have m_are (k : Nat) : AreOk (callN fs (k + 2)) 3 := fun xs a b h1 h2 h3 h4 h5 => are_ok (m_nm k) (m_row k) (m_asc k) xs a b h1 h2 h3 h4 h5
  have m_thing : ThingOk (callN fs 3) 4 := fun r h1 h2 h3 h4 h5 h6 => thing_ok (m_nm 1) (m_row 1) (m_are 0) r h1 h2 h3 h4 h5 h6
  have m_job : JobOk (callN fs 3) 5 := fun ns j h1 h2 h3 h4 h5 h6 => job_ok (m_nm 1) (m_row 1) ns j h1 h2 h3 h4 h5 h6
  have m_no : NamesOfOk (callN fs 3) 6 := fun W h => namesOf_ok (callN fs 2) W h
  have b : callN fs 4 7 [(worksD W, false)] = some (.bool true, false, [.no]) := isWorks_ok (call := callN fs 3) (m_row 2) (m_asc 2) (m_are 1) m_thing m_job m_no sn tn jn W h h1 h2 h3 h4 h5
  rw [show (0 + 4) = 4 from rfl] at a
  rw [a] at b
  cases hq : worksB (worksD W) with
  | true => rfl
  | false => rw [hq] at b; cases b
theorem calls_ok : Calls (callN fs 19) where
  take := l_take 18
  of := l_of 17
  any3 := l_any 3 13 (by decide)
  any2 := l_any 2 14 (by decide)
  sp4 := l_spoil 4 9 (by decide)
  sp2 := l_spoil 2 11 (by decide)
  works := l_works 15
  drawn := l_drawn 16
  isW := fun d h => l_isWorks 15 d h
  isW2 := fun d h => l_lworks 15 d h
  isR := fun W h hw d hd => l_run 13 W h hw d hd
  isR2 := fun W h d hd => l_lrun 17 W h d hd
  told := fun b => told_ev (callN fs 18) b
theorem law_ok (ns : List Int) : evSs (callN fs 19) x_law.body [.fr (.dict (scrD ns)), .no, .no, .no, .no, .no, .no, .no, .no, .no, .no, .no, .no, .no] = some (.rt (.bool true) false, tailSt (.dict (scrD ns))) := by
  obtain ⟨n, hn, h4, h8⟩ : ∃ n : Int, evs (callN fs 19) [.blt .max2 [.cst (.int 4), .blt .min2 [.cst (.int 8), .bin .add (.blt .len [.var 0]) (.cst (.int 3))]]] [.fr (.dict (scrD ns)), .no, .no, .no, .no, .no, .no, .no, .no, .no, .no, .no, .no, .no] = some ([.int n], [.fr (.dict (scrD ns)), .no, .no, .no, .no, .no, .no, .no, .no, .no, .no, .no, .no, .no]) ∧ 4 ≤ n ∧ n ≤ 8 := by
    by_cases h : ((ns.length : Int) + 3 < 8)
    · by_cases h2 : (ns.length : Int) + 3 > 4
      · exact ⟨(ns.length : Int) + 3, by simp [ev.eq_1, ev.eq_2, ev.eq_3, ev.eq_4, ev.eq_5, ev.eq_6, ev.eq_7, ev.eq_8, ev.eq_9, ev.eq_10, ev.eq_11, ev.eq_12, ev.eq_13, ev.eq_14, ev.eq_15, ev.eq_16, ev.eq_17, ev.eq_18, ev.eq_19, ev.eq_20, ev.eq_21, evS.eq_1, evS.eq_2, evS.eq_3, evS.eq_4, evS.eq_5, evS.eq_6, evS.eq_9, evS.eq_10, evS.eq_11, evS.eq_12, evS.eq_13, evS.eq_14, evS.eq_15, runF, envOf, slotA, evSs, opn, fetch, evOs, evs, evOI, evAnd, evOr, evIfs, evRs, fetchAll, opIdx, opCmp, opBin, opBlt, opSlc, opMthK, opMth, opLt, kindD, isTy, asB, asI, asL, dOk, atI, ixN, setS, asgT, setAll, setPar, setAt, appAt, ownL, popD, calL, slotsOf, distinct, lend, giveBack, isSl, lents, lentS, killS, wipeP, back, itemsOf, scrD, h, h2], by omega, by omega⟩
      · have h2' : ¬ (4 : Int) < (ns.length : Int) + 3 := h2
        exact ⟨4, by simp [ev.eq_1, ev.eq_2, ev.eq_3, ev.eq_4, ev.eq_5, ev.eq_6, ev.eq_7, ev.eq_8, ev.eq_9, ev.eq_10, ev.eq_11, ev.eq_12, ev.eq_13, ev.eq_14, ev.eq_15, ev.eq_16, ev.eq_17, ev.eq_18, ev.eq_19, ev.eq_20, ev.eq_21, evS.eq_1, evS.eq_2, evS.eq_3, evS.eq_4, evS.eq_5, evS.eq_6, evS.eq_9, evS.eq_10, evS.eq_11, evS.eq_12, evS.eq_13, evS.eq_14, evS.eq_15, runF, envOf, slotA, evSs, opn, fetch, evOs, evs, evOI, evAnd, evOr, evIfs, evRs, fetchAll, opIdx, opCmp, opBin, opBlt, opSlc, opMthK, opMth, opLt, kindD, isTy, asB, asI, asL, dOk, atI, ixN, setS, asgT, setAll, setPar, setAt, appAt, ownL, popD, calL, slotsOf, distinct, lend, giveBack, isSl, lents, lentS, killS, wipeP, back, itemsOf, scrD, h, h2'], by omega, by omega⟩
    · exact ⟨8, by simp [ev.eq_1, ev.eq_2, ev.eq_3, ev.eq_4, ev.eq_5, ev.eq_6, ev.eq_7, ev.eq_8, ev.eq_9, ev.eq_10, ev.eq_11, ev.eq_12, ev.eq_13, ev.eq_14, ev.eq_15, ev.eq_16, ev.eq_17, ev.eq_18, ev.eq_19, ev.eq_20, ev.eq_21, evS.eq_1, evS.eq_2, evS.eq_3, evS.eq_4, evS.eq_5, evS.eq_6, evS.eq_9, evS.eq_10, evS.eq_11, evS.eq_12, evS.eq_13, evS.eq_14, evS.eq_15, runF, envOf, slotA, evSs, opn, fetch, evOs, evs, evOI, evAnd, evOr, evIfs, evRs, fetchAll, opIdx, opCmp, opBin, opBlt, opSlc, opMthK, opMth, opLt, kindD, isTy, asB, asI, asL, dOk, atI, ixN, setS, asgT, setAll, setPar, setAt, appAt, ownL, popD, calL, slotsOf, distinct, lend, giveBack, isSl, lents, lentS, killS, wipeP, back, itemsOf, scrD, h], by omega, by omega⟩
  obtain ⟨ρ', e, hI⟩ := forL_nx (step := fun d ρ => do
      let ρ ← asgT ρ (.nm 1) d false
      let (f, ρ) ← evSs (callN fs 19) kBody ρ
      pure (f, killS ρ [1, 2, 3, 4, 5, 6, 7, 8, 9])) (fun _ ρ => ρ = [.fr (.dict (scrD ns)), .no, .no, .no, .no, .no, .no, .no, .no, .no, .no, .no, .no, .no]) (rngD 0 n) 0 [.fr (.dict (scrD ns)), .no, .no, .no, .no, .no, .no, .no, .no, .no, .no, .no, .no, .no] (fun j d ρ hd hI => by
    subst hI
    obtain ⟨rfl, hj⟩ := rngD_get hd
    exact ⟨_, k_ev calls_ok (fun sn tn jn W h h1 h2 h3 h4 h5 => isWorks_true 0 sn tn jn W h h1 h2 h3 h4 h5) (.dict (scrD ns)) j (bag_ok (callN fs 18) ns j (by omega) (by omega)), rfl⟩) rfl
  subst hI
  have f : evS (callN fs 19) (.for (.nm 1) .rng1 [.blt .max2 [.cst (.int 4), .blt .min2 [.cst (.int 8), .bin .add (.blt .len [.var 0]) (.cst (.int 3))]]] kBody [1, 2, 3, 4, 5, 6, 7, 8, 9]) [.fr (.dict (scrD ns)), .no, .no, .no, .no, .no, .no, .no, .no, .no, .no, .no, .no, .no] = _ := evS_for (ds := [.int n]) (items := rngD 0 n) hn (by
    have : smallI n = true := by simp only [smallI, Bool.and_eq_true, decide_eq_true_eq]; omega
    simp only [itemsOf, this, if_true]) e
  have hb : x_law.body = .for (.nm 1) .rng1 [.blt .max2 [.cst (.int 4), .blt .min2 [.cst (.int 8), .bin .add (.blt .len [.var 0]) (.cst (.int 3))]]] kBody [1, 2, 3, 4, 5, 6, 7, 8, 9] :: (tailA ++ [.ret retA]) := rfl
  rw [hb]
  exact evSs_cons f (evSs_app (tail_ev _ _) (ret_ev (fun i z => by unfold retA at z; cases z) (ret_a (fun d h => l_isWorks 15 d h) _)))
theorem plain (ns : List Int) (h : ns.length ≤ 63) : ∃ w ss, callN fs 20 29 [(.dict (scrD ns), false)] = some (.bool true, w, ss) :=
  ⟨_, _, runF_rt (call := callN fs 19) (f := x_law) (as := [(.dict (scrD ns), false)]) rfl (law_ok ns) rfl⟩
end CL
set_option Elab.async false
set_option linter.all false
set_option maxRecDepth 100000
set_option maxHeartbeats 4000000
namespace CL
open PySem L2 PyProof.Rows PV
def top (i : Nat) : Stmt := PySem.Challenge.pw_oneday_k01_works_and_runs_recognized.main.body.getD i (.Pass ⟨0, 0, 0, 0⟩)
abbrev s_is_name : Stmt := top 13
abbrev s_is_row : Stmt := top 14
abbrev s_ascends : Stmt := top 15
abbrev s_are_names : Stmt := top 16
abbrev s_is_thing : Stmt := top 17
abbrev s_is_job : Stmt := top 18
abbrev s_names_of : Stmt := top 19
abbrev s_is_works : Stmt := top 20
abbrev s_is_event : Stmt := top 21
abbrev s_is_run_of : Stmt := top 22
abbrev s_need_works : Stmt := top 23
abbrev s_is_run : Stmt := top 24
abbrev s__law_bag : Stmt := top 26
abbrev s__law_take : Stmt := top 27
abbrev s__law_of : Stmt := top 28
abbrev s__law_names : Stmt := top 29
abbrev s__law_some : Stmt := top 30
abbrev s__law_works : Stmt := top 31
abbrev s__law_events : Stmt := top 32
abbrev s__law_drawn_run : Stmt := top 33
abbrev s__law_any_value : Stmt := top 34
abbrev s__law_spoiled : Stmt := top 35
abbrev s__law_is_name : Stmt := top 36
abbrev s__law_rising : Stmt := top 37
abbrev s__law_are_things : Stmt := top 38
abbrev s__law_are_jobs : Stmt := top 39
abbrev s__law_is_works : Stmt := top 40
abbrev s__law_is_run : Stmt := top 41
abbrev s__law_told_right : Stmt := top 42
abbrev s_law : Stmt := top 43
def N_is_name : List Str := ["value", "sign"]
def N_is_row : List Str := ["value", "low", "high"]
def N_ascends : List Str := ["names", "one", "other"]
def N_are_names : List Str := ["value", "low", "high", "name"]
def N_is_thing : List Str := ["value"]
def N_is_job : List Str := ["names", "value", "name"]
def N_names_of : List Str := ["works", "thing"]
def N_is_works : List Str := ["value", "known", "name", "parts", "mode", "job", "thing", "part"]
def N_is_event : List Str := ["works", "value", "job"]
def N_is_run_of : List Str := ["works", "value", "event"]
def N_need_works : List Str := ["value"]
def N_is_run : List Str := ["works", "value"]
def N__law_bag : List Str := ["script", "k", "cell", "first", "seed"]
def N__law_take : List Str := ["bag", "count", "found", "mixed"]
def N__law_of : List Str := ["bag", "some"]
def N__law_names : List Str := ["bag", "sources", "things"]
def N__law_some : List Str := ["bag", "names", "most", "found", "turn"]
def N__law_works : List Str := ["bag", "sources", "things", "jobs", "names", "more", "known", "rows", "name", "parts", "mode", "found", "many", "label", "makes", "left", "turn"]
def N__law_events : List Str := ["works", "names", "found", "source", "job", "name"]
def N__law_drawn_run : List Str := ["bag", "works", "most", "some", "thing", "turn"]
def N__law_any_value : List Str := ["bag", "depth", "kind", "some", "items", "k"]
def N__law_spoiled : List Str := ["bag", "value", "some", "at", "way"]
def N__law_is_name : List Str := ["value", "sign"]
def N__law_rising : List Str := ["value", "low", "high", "name", "at"]
def N__law_are_things : List Str := ["value", "known", "thing", "part"]
def N__law_are_jobs : List Str := ["value", "names", "job", "bad", "name", "at"]
def N__law_is_works : List Str := ["value", "thing"]
def N__law_is_run : List Str := ["works", "value", "some", "event", "thing", "part"]
def N__law_told_right : List Str := ["found", "due"]
def N_law : List Str := ["script", "k", "bag", "works", "run", "turn", "event", "told", "more", "value", "x", "y", "good", "bad"]
structure Txt (K : KW) (mg : Str → Option Value) : Prop where
  b_all : mg "all" = none
  b_bool : mg "bool" = none
  b_int : mg "int" = none
  b_isinstance : mg "isinstance" = none
  b_len : mg "len" = none
  b_list : mg "list" = none
  b_max : mg "max" = none
  b_min : mg "min" = none
  b_range : mg "range" = none
  b_set : mg "set" = none
  b_sorted : mg "sorted" = none
  b_str : mg "str" = none
  b_tuple : mg "tuple" = none
  b_zip : mg "zip" = none
  c_ASK : CstAt K mg "ASK" (.str "ask")
  c_CHANGE : CstAt K mg "CHANGE" (.str "change")
  c_JOB : CstAt K mg "JOB" (.str "job")
  c_LETTERS : CstAt K mg "LETTERS" (.str "abcdefghijklmnopqrstuvwxyz")
  c_MODES : CstAt K mg "MODES" (.tuple [(.str "kept"), (.str "pushed"), (.str "asked")])
  c_MOST_EVENTS : CstAt K mg "MOST_EVENTS" (.int 60)
  d_is_name : DefAt K mg "is_name" s_is_name ["value"] []
  d_is_row : DefAt K mg "is_row" s_is_row ["value", "low", "high"] []
  d_ascends : DefAt K mg "ascends" s_ascends ["names"] []
  d_are_names : DefAt K mg "are_names" s_are_names ["value", "low", "high"] []
  d_is_thing : DefAt K mg "is_thing" s_is_thing ["value"] []
  d_is_job : DefAt K mg "is_job" s_is_job ["names", "value"] []
  d_names_of : DefAt K mg "names_of" s_names_of ["works"] []
  d_is_works : DefAt K mg "is_works" s_is_works ["value"] []
  d_is_event : DefAt K mg "is_event" s_is_event ["works", "value"] []
  d_is_run_of : DefAt K mg "is_run_of" s_is_run_of ["works", "value"] []
  d_need_works : DefAt K mg "need_works" s_need_works ["value"] []
  d_is_run : DefAt K mg "is_run" s_is_run ["works", "value"] []
  d__law_bag : DefAt K mg "_law_bag" s__law_bag ["script", "k"] []
  d__law_take : DefAt K mg "_law_take" s__law_take ["bag", "count"] []
  d__law_of : DefAt K mg "_law_of" s__law_of ["bag", "some"] []
  d__law_names : DefAt K mg "_law_names" s__law_names ["bag"] []
  d__law_some : DefAt K mg "_law_some" s__law_some ["bag", "names", "most"] []
  d__law_works : DefAt K mg "_law_works" s__law_works ["bag", "sources", "things", "jobs"] []
  d__law_events : DefAt K mg "_law_events" s__law_events ["works", "names"] []
  d__law_drawn_run : DefAt K mg "_law_drawn_run" s__law_drawn_run ["bag", "works", "most"] []
  d__law_any_value : DefAt K mg "_law_any_value" s__law_any_value ["bag", "depth"] []
  d__law_spoiled : DefAt K mg "_law_spoiled" s__law_spoiled ["bag", "value"] []
  d__law_is_name : DefAt K mg "_law_is_name" s__law_is_name ["value"] []
  d__law_rising : DefAt K mg "_law_rising" s__law_rising ["value", "low", "high"] []
  d__law_are_things : DefAt K mg "_law_are_things" s__law_are_things ["value", "known"] []
  d__law_are_jobs : DefAt K mg "_law_are_jobs" s__law_are_jobs ["value", "names"] []
  d__law_is_works : DefAt K mg "_law_is_works" s__law_is_works ["value"] []
  d__law_is_run : DefAt K mg "_law_is_run" s__law_is_run ["works", "value"] []
  d__law_told_right : DefAt K mg "_law_told_right" s__law_told_right ["found", "due"] []
  d_law : DefAt K mg "law" s_law ["script"] []
structure Oks (P : Program) (K : KW) (mg : Str → Option Value) (base : Heap) (k : Nat) : Prop where
  f_is_name : CallOk P K mg base fs "is_name" 0 ["value"] [] k
  f_is_row : CallOk P K mg base fs "is_row" 1 ["value", "low", "high"] [] k
  f_ascends : CallOk P K mg base fs "ascends" 2 ["names"] [] k
  f_are_names : CallOk P K mg base fs "are_names" 3 ["value", "low", "high"] [] k
  f_is_thing : CallOk P K mg base fs "is_thing" 4 ["value"] [] k
  f_is_job : CallOk P K mg base fs "is_job" 5 ["names", "value"] [] k
  f_names_of : CallOk P K mg base fs "names_of" 6 ["works"] [] k
  f_is_works : CallOk P K mg base fs "is_works" 7 ["value"] [] k
  f_is_event : CallOk P K mg base fs "is_event" 8 ["works", "value"] [] k
  f_is_run_of : CallOk P K mg base fs "is_run_of" 9 ["works", "value"] [] k
  f_need_works : CallOk P K mg base fs "need_works" 10 ["value"] [] k
  f_is_run : CallOk P K mg base fs "is_run" 11 ["works", "value"] [] k
  f__law_bag : CallOk P K mg base fs "_law_bag" 12 ["script", "k"] [] k
  f__law_take : CallOk P K mg base fs "_law_take" 13 ["bag", "count"] [] k
  f__law_of : CallOk P K mg base fs "_law_of" 14 ["bag", "some"] [] k
  f__law_names : CallOk P K mg base fs "_law_names" 15 ["bag"] [] k
  f__law_some : CallOk P K mg base fs "_law_some" 16 ["bag", "names", "most"] [] k
  f__law_works : CallOk P K mg base fs "_law_works" 17 ["bag", "sources", "things", "jobs"] [] k
  f__law_events : CallOk P K mg base fs "_law_events" 18 ["works", "names"] [] k
  f__law_drawn_run : CallOk P K mg base fs "_law_drawn_run" 19 ["bag", "works", "most"] [] k
  f__law_any_value : CallOk P K mg base fs "_law_any_value" 20 ["bag", "depth"] [] k
  f__law_spoiled : CallOk P K mg base fs "_law_spoiled" 21 ["bag", "value"] [] k
  f__law_is_name : CallOk P K mg base fs "_law_is_name" 22 ["value"] [] k
  f__law_rising : CallOk P K mg base fs "_law_rising" 23 ["value", "low", "high"] [] k
  f__law_are_things : CallOk P K mg base fs "_law_are_things" 24 ["value", "known"] [] k
  f__law_are_jobs : CallOk P K mg base fs "_law_are_jobs" 25 ["value", "names"] [] k
  f__law_is_works : CallOk P K mg base fs "_law_is_works" 26 ["value"] [] k
  f__law_is_run : CallOk P K mg base fs "_law_is_run" 27 ["works", "value"] [] k
  f__law_told_right : CallOk P K mg base fs "_law_told_right" 28 ["found", "due"] [] k
  f_law : CallOk P K mg base fs "law" 29 ["script"] [] k
section
variable {P : Program} {K : KW} {mg : Str → Option Value} {base : Heap} {k : Nat}
theorem sc_is_name : FnScope N_is_name ["value"] (defScope s_is_name) := ⟨rfl, rfl, rfl, by decide +kernel, rfl, by decide +kernel, by decide +kernel⟩
theorem b_is_name (T : Txt K mg) (C : Oks P K mg base k) {f : Addr} {cdv : Value} {A : Around} {outer : List Env} {s : Shared} {H : Hp} {E : XK} (r : Room k (A.deeper (envOfC "is_name" (defScope s_is_name) s.heap.objs.size f cdv))) :
    PSs (cxOf CX0 P K.w K.fr mg base N_is_name "is_name" (defScope s_is_name) f cdv A outer s H E).nox (defBody s_is_name) (tSs K (callN fs k) x_is_name.body) :=
 (ss_cons (d_ret (e_and (s_andC (e_isi .str T.b_isinstance T.b_str (o_var 0)) (s_andC (e_chain .le .le r (o_ev e_int) (o_ev (e_blt .len T.b_len (a_ops (o_var 0) s_ops0))) (o_ev e_int)) (s_and1 (e_blt .all T.b_all (a_ops (o_ev (e_lc [("sign", 1)] sc_is_name.nd rfl (i_seq (e_var 0)) (fun _ _ _ _ _ => (g_nm 1 sc_is_name.nd)) (fun _ _ _ _ _ => s_ifs0) (fun _ _ _ _ _ => (e_cmp .isIn r (o_var 1) (o_ev (e_glob T.c_LETTERS)))))) s_ops0)))))))
 ss_nil)
theorem sc_is_row : FnScope N_is_row ["value", "low", "high"] (defScope s_is_row) := ⟨rfl, rfl, rfl, by decide +kernel, rfl, by decide +kernel, by decide +kernel⟩
theorem b_is_row (T : Txt K mg) (C : Oks P K mg base k) {f : Addr} {cdv : Value} {A : Around} {outer : List Env} {s : Shared} {H : Hp} {E : XK} (r : Room k (A.deeper (envOfC "is_row" (defScope s_is_row) s.heap.objs.size f cdv))) :
    PSs (cxOf CX0 P K.w K.fr mg base N_is_row "is_row" (defScope s_is_row) f cdv A outer s H E).nox (defBody s_is_row) (tSs K (callN fs k) x_is_row.body) :=
 (ss_cons (d_ret (e_and (s_andC (e_isi .tuple T.b_isinstance T.b_tuple (o_var 0)) (s_and1 (e_chain .le .le r (o_var 1) (o_ev (e_blt .len T.b_len (a_ops (o_var 0) s_ops0))) (o_var 2))))))
 ss_nil)
theorem sc_ascends : FnScope N_ascends ["names"] (defScope s_ascends) := ⟨rfl, rfl, rfl, by decide +kernel, rfl, by decide +kernel, by decide +kernel⟩
theorem b_ascends (T : Txt K mg) (C : Oks P K mg base k) {f : Addr} {cdv : Value} {A : Around} {outer : List Env} {s : Shared} {H : Hp} {E : XK} (r : Room k (A.deeper (envOfC "ascends" (defScope s_ascends) s.heap.objs.size f cdv))) :
    PSs (cxOf CX0 P K.w K.fr mg base N_ascends "ascends" (defScope s_ascends) f cdv A outer s H E).nox (defBody s_ascends) (tSs K (callN fs k) x_ascends.body) :=
 (ss_cons (d_ret (e_blt .all T.b_all (a_ops (o_ev (e_lc [("one", 1), ("other", 2)] sc_ascends.nd rfl (w_zip T.b_zip (a_evs (e_var 0) (a_evs (s_slc (o_var 0) (s_po1 e_int) s_po0) s_evs0))) (fun _ _ _ _ _ => (g_tup (gs_cons 1 sc_ascends.nd (gs_cons 2 sc_ascends.nd gs_nil)))) (fun _ _ _ _ _ => s_ifs0) (fun _ _ _ _ _ => (e_cmp .lt r (o_var 1) (o_var 2))))) s_ops0)))
 ss_nil)
theorem sc_are_names : FnScope N_are_names ["value", "low", "high"] (defScope s_are_names) := ⟨rfl, rfl, rfl, by decide +kernel, rfl, by decide +kernel, by decide +kernel⟩
theorem b_are_names (T : Txt K mg) (C : Oks P K mg base k) {f : Addr} {cdv : Value} {A : Around} {outer : List Env} {s : Shared} {H : Hp} {E : XK} (r : Room k (A.deeper (envOfC "are_names" (defScope s_are_names) s.heap.objs.size f cdv))) :
    PSs (cxOf CX0 P K.w K.fr mg base N_are_names "are_names" (defScope s_are_names) f cdv A outer s H E).nox (defBody s_are_names) (tSs K (callN fs k) x_are_names.body) :=
 (ss_cons (d_ret (e_and (s_andC (e_cal C.f_is_row r (a_ops (o_var 0) (a_ops (o_var 1) (a_ops (o_var 2) s_ops0)))) (s_andC (e_blt .all T.b_all (a_ops (o_ev (e_lc [("name", 3)] sc_are_names.nd rfl (i_seq (e_var 0)) (fun _ _ _ _ _ => (g_nm 3 sc_are_names.nd)) (fun _ _ _ _ _ => s_ifs0) (fun _ _ _ _ _ => (e_cal C.f_is_name r (a_ops (o_var 3) s_ops0))))) s_ops0)) (s_and1 (e_cal C.f_ascends r (a_ops (o_var 0) s_ops0)))))))
 ss_nil)
theorem sc_is_thing : FnScope N_is_thing ["value"] (defScope s_is_thing) := ⟨rfl, rfl, rfl, by decide +kernel, rfl, by decide +kernel, by decide +kernel⟩
theorem b_is_thing (T : Txt K mg) (C : Oks P K mg base k) {f : Addr} {cdv : Value} {A : Around} {outer : List Env} {s : Shared} {H : Hp} {E : XK} (r : Room k (A.deeper (envOfC "is_thing" (defScope s_is_thing) s.heap.objs.size f cdv))) :
    PSs (cxOf CX0 P K.w K.fr mg base N_is_thing "is_thing" (defScope s_is_thing) f cdv A outer s H E).nox (defBody s_is_thing) (tSs K (callN fs k) x_is_thing.body) :=
 (ss_cons (st_ife (t_or (t_orC (s_notT (e_val (e_cal C.f_is_row r (a_ops (o_var 0) (a_ops (o_ev e_int) (a_ops (o_ev e_int) s_ops0)))))) (t_orC (s_notT (e_val (e_cal C.f_is_name r (a_ops (o_ev (e_idx r (o_var 0) (o_ev e_int))) s_ops0)))) (t_or1 (s_notT (e_val (e_cal C.f_are_names r (a_ops (o_ev (e_idx r (o_var 0) (o_ev e_int))) (a_ops (o_ev e_int) (a_ops (o_ev e_int) s_ops0)))))))))) (ss_cons (d_ret e_bl)
 ss_nil) ss_nil)
 (ss_cons (d_ret (e_and (s_andC (e_isi .str T.b_isinstance T.b_str (o_ev (e_idx r (o_var 0) (o_ev e_int)))) (s_and1 (e_cmp .isIn r (o_ev (e_idx r (o_var 0) (o_ev e_int))) (o_ev (e_glob T.c_MODES)))))))
 ss_nil))
theorem sc_is_job : FnScope N_is_job ["names", "value"] (defScope s_is_job) := ⟨rfl, rfl, rfl, by decide +kernel, rfl, by decide +kernel, by decide +kernel⟩
theorem b_is_job (T : Txt K mg) (C : Oks P K mg base k) {f : Addr} {cdv : Value} {A : Around} {outer : List Env} {s : Shared} {H : Hp} {E : XK} (r : Room k (A.deeper (envOfC "is_job" (defScope s_is_job) s.heap.objs.size f cdv))) :
    PSs (cxOf CX0 P K.w K.fr mg base N_is_job "is_job" (defScope s_is_job) f cdv A outer s H E).nox (defBody s_is_job) (tSs K (callN fs k) x_is_job.body) :=
 (ss_cons (st_ife (t_or (t_orC (s_notT (e_val (e_cal C.f_is_row r (a_ops (o_var 1) (a_ops (o_ev e_int) (a_ops (o_ev e_int) s_ops0)))))) (t_orC (s_notT (e_val (e_cal C.f_is_name r (a_ops (o_ev (e_idx r (o_var 1) (o_ev e_int))) s_ops0)))) (t_or1 (s_notT (e_val (e_cal C.f_is_row r (a_ops (o_ev (e_idx r (o_var 1) (o_ev e_int))) (a_ops (o_ev e_int) (a_ops (o_ev e_int) s_ops0)))))))))) (ss_cons (d_ret e_bl)
 ss_nil) ss_nil)
 (ss_cons (st_ife (s_notT (e_val (e_blt .all T.b_all (a_ops (o_ev (e_lc [("name", 2)] sc_is_job.nd rfl (i_seq (e_idx r (o_var 1) (o_ev e_int))) (fun _ _ _ _ _ => (g_nm 2 sc_is_job.nd)) (fun _ _ _ _ _ => s_ifs0) (fun _ _ _ _ _ => (e_and (s_andC (e_cal C.f_is_name r (a_ops (o_var 2) s_ops0)) (s_and1 (e_cmp .isIn r (o_var 2) (o_var 0)))))))) s_ops0)))) (ss_cons (d_ret e_bl)
 ss_nil) ss_nil)
 (ss_cons (d_ret (e_cmp .eq r (o_ev (e_lset T.b_len T.b_set (a_ops (o_ev (e_idx r (o_var 1) (o_ev e_int))) s_ops0))) (o_ev (e_blt .len T.b_len (a_ops (o_ev (e_idx r (o_var 1) (o_ev e_int))) s_ops0)))))
 ss_nil)))
theorem sc_names_of : FnScope N_names_of ["works"] (defScope s_names_of) := ⟨rfl, rfl, rfl, by decide +kernel, rfl, by decide +kernel, by decide +kernel⟩
theorem b_names_of (T : Txt K mg) (C : Oks P K mg base k) {f : Addr} {cdv : Value} {A : Around} {outer : List Env} {s : Shared} {H : Hp} {E : XK} (r : Room k (A.deeper (envOfC "names_of" (defScope s_names_of) s.heap.objs.size f cdv))) :
    PSs (cxOf CX0 P K.w K.fr mg base N_names_of "names_of" (defScope s_names_of) f cdv A outer s H E).nox (defBody s_names_of) (tSs K (callN fs k) x_names_of.body) :=
 (ss_cons (d_ret (e_lc [("thing", 1)] sc_names_of.nd rfl (i_seq (e_idx r (o_var 0) (o_ev e_int))) (fun _ _ _ _ _ => (g_nm 1 sc_names_of.nd)) (fun _ _ _ _ _ => s_ifs0) (fun _ _ _ _ _ => (e_idx r (o_var 1) (o_ev e_int)))))
 ss_nil)
theorem sc_is_works : FnScope N_is_works ["value"] (defScope s_is_works) := ⟨rfl, rfl, rfl, by decide +kernel, rfl, by decide +kernel, by decide +kernel⟩
theorem b_is_works (T : Txt K mg) (C : Oks P K mg base k) {f : Addr} {cdv : Value} {A : Around} {outer : List Env} {s : Shared} {H : Hp} {E : XK} (r : Room k (A.deeper (envOfC "is_works" (defScope s_is_works) s.heap.objs.size f cdv))) :
    PSs (cxOf CX0 P K.w K.fr mg base N_is_works "is_works" (defScope s_is_works) f cdv A outer s H E).nox (defBody s_is_works) (tSs K (callN fs k) x_is_works.body) :=
 (ss_cons (st_ife (t_or (t_orC (s_notT (e_val (e_cal C.f_is_row r (a_ops (o_var 0) (a_ops (o_ev e_int) (a_ops (o_ev e_int) s_ops0)))))) (t_orC (s_notT (e_val (e_cal C.f_are_names r (a_ops (o_ev (e_idx r (o_var 0) (o_ev e_int))) (a_ops (o_ev e_int) (a_ops (o_ev e_int) s_ops0)))))) (t_or1 (s_notT (e_val (e_cal C.f_is_row r (a_ops (o_ev (e_idx r (o_var 0) (o_ev e_int))) (a_ops (o_ev e_int) (a_ops (o_ev e_int) s_ops0)))))))))) (ss_cons (d_ret e_bl)
 ss_nil) ss_nil)
 (ss_cons (st_ife (t_or (t_orC (s_notT (e_val (e_blt .all T.b_all (a_ops (o_ev (e_lc [("thing", 6)] sc_is_works.nd rfl (i_seq (e_idx r (o_var 0) (o_ev e_int))) (fun _ _ _ _ _ => (g_nm 6 sc_is_works.nd)) (fun _ _ _ _ _ => s_ifs0) (fun _ _ _ _ _ => (e_cal C.f_is_thing r (a_ops (o_var 6) s_ops0))))) s_ops0)))) (t_or1 (s_notT (e_val (e_cal C.f_is_row r (a_ops (o_ev (e_idx r (o_var 0) (o_ev e_int))) (a_ops (o_ev e_int) (a_ops (o_ev e_int) s_ops0))))))))) (ss_cons (d_ret e_bl)
 ss_nil) ss_nil)
 (ss_cons (d_asg 1 sc_is_works.nd (e_blt .list T.b_list (a_ops (o_ev (e_idx r (o_var 0) (o_ev e_int))) s_ops0)))
 (ss_cons (d_for (i_seq (e_idx r (o_var 0) (o_ev e_int))) (g_tup (gs_cons 2 sc_is_works.nd (gs_cons 3 sc_is_works.nd (gs_cons 4 sc_is_works.nd gs_nil)))) (ss_cons (st_ife (t_or (t_orC (e_cmpT .isIn r (o_var 2) (o_var 1)) (t_or1 (s_notT (e_val (e_blt .all T.b_all (a_ops (o_ev (e_lc [("part", 7)] sc_is_works.nd rfl (i_seq (e_var 3)) (fun _ _ _ _ _ => (g_nm 7 sc_is_works.nd)) (fun _ _ _ _ _ => s_ifs0) (fun _ _ _ _ _ => (e_cmp .isIn r (o_var 7) (o_var 1))))) s_ops0))))))) (ss_cons (d_ret e_bl)
 ss_nil) ss_nil)
 (ss_cons (d_app 1 (e_var 2))
 ss_nil)))
 (ss_cons (st_ife (s_notT (e_val (e_blt .all T.b_all (a_ops (o_ev (e_lc [("job", 5)] sc_is_works.nd rfl (i_seq (e_idx r (o_var 0) (o_ev e_int))) (fun _ _ _ _ _ => (g_nm 5 sc_is_works.nd)) (fun _ _ _ _ _ => s_ifs0) (fun _ _ _ _ _ => (e_cal C.f_is_job r (a_ops (o_ev (e_cal C.f_names_of r (a_ops (o_var 0) s_ops0))) (a_ops (o_var 5) s_ops0)))))) s_ops0)))) (ss_cons (d_ret e_bl)
 ss_nil) ss_nil)
 (ss_cons (d_ret (e_cal C.f_ascends r (a_ops (o_ev (e_lc [("job", 5)] sc_is_works.nd rfl (i_seq (e_idx r (o_var 0) (o_ev e_int))) (fun _ _ _ _ _ => (g_nm 5 sc_is_works.nd)) (fun _ _ _ _ _ => s_ifs0) (fun _ _ _ _ _ => (e_idx r (o_var 5) (o_ev e_int))))) s_ops0)))
 ss_nil))))))
theorem sc_is_event : FnScope N_is_event ["works", "value"] (defScope s_is_event) := ⟨rfl, rfl, rfl, by decide +kernel, rfl, by decide +kernel, by decide +kernel⟩
theorem b_is_event (T : Txt K mg) (C : Oks P K mg base k) {f : Addr} {cdv : Value} {A : Around} {outer : List Env} {s : Shared} {H : Hp} {E : XK} (r : Room k (A.deeper (envOfC "is_event" (defScope s_is_event) s.heap.objs.size f cdv))) :
    PSs (cxOf CX0 P K.w K.fr mg base N_is_event "is_event" (defScope s_is_event) f cdv A outer s H E).nox (defBody s_is_event) (tSs K (callN fs k) x_is_event.body) :=
 (ss_cons (st_ife (t_or (t_orC (s_notT (e_val (e_cal C.f_is_row r (a_ops (o_var 1) (a_ops (o_ev e_int) (a_ops (o_ev e_int) s_ops0)))))) (t_orC (s_notT (e_val (e_isi .str T.b_isinstance T.b_str (o_ev (e_idx r (o_var 1) (o_ev e_int)))))) (t_or1 (s_notT (e_val (e_cal C.f_is_name r (a_ops (o_ev (e_idx r (o_var 1) (o_ev e_int))) s_ops0)))))))) (ss_cons (d_ret e_bl)
 ss_nil) ss_nil)
 (ss_cons (st_ife (e_cmpT .eq r (o_ev (e_idx r (o_var 1) (o_ev e_int))) (o_ev (e_glob T.c_CHANGE))) (ss_cons (d_ret (e_cmp .isIn r (o_ev (e_idx r (o_var 1) (o_ev e_int))) (o_ev (e_idx r (o_var 0) (o_ev e_int)))))
 ss_nil) ss_nil)
 (ss_cons (st_ife (e_cmpT .eq r (o_ev (e_idx r (o_var 1) (o_ev e_int))) (o_ev (e_glob T.c_JOB))) (ss_cons (d_ret (e_cmp .isIn r (o_ev (e_idx r (o_var 1) (o_ev e_int))) (o_ev (e_lc [("job", 2)] sc_is_event.nd rfl (i_seq (e_idx r (o_var 0) (o_ev e_int))) (fun _ _ _ _ _ => (g_nm 2 sc_is_event.nd)) (fun _ _ _ _ _ => s_ifs0) (fun _ _ _ _ _ => (e_idx r (o_var 2) (o_ev e_int)))))))
 ss_nil) ss_nil)
 (ss_cons (d_ret (e_and (s_andC (e_cmp .eq r (o_ev (e_idx r (o_var 1) (o_ev e_int))) (o_ev (e_glob T.c_ASK))) (s_and1 (e_cmp .isIn r (o_ev (e_idx r (o_var 1) (o_ev e_int))) (o_ev (e_cal C.f_names_of r (a_ops (o_var 0) s_ops0))))))))
 ss_nil))))
theorem sc_is_run_of : FnScope N_is_run_of ["works", "value"] (defScope s_is_run_of) := ⟨rfl, rfl, rfl, by decide +kernel, rfl, by decide +kernel, by decide +kernel⟩
theorem b_is_run_of (T : Txt K mg) (C : Oks P K mg base k) {f : Addr} {cdv : Value} {A : Around} {outer : List Env} {s : Shared} {H : Hp} {E : XK} (r : Room k (A.deeper (envOfC "is_run_of" (defScope s_is_run_of) s.heap.objs.size f cdv))) :
    PSs (cxOf CX0 P K.w K.fr mg base N_is_run_of "is_run_of" (defScope s_is_run_of) f cdv A outer s H E).nox (defBody s_is_run_of) (tSs K (callN fs k) x_is_run_of.body) :=
 (ss_cons (d_ret (e_and (s_andC (e_cal C.f_is_row r (a_ops (o_var 1) (a_ops (o_ev e_int) (a_ops (o_ev (e_glob T.c_MOST_EVENTS)) s_ops0)))) (s_and1 (e_blt .all T.b_all (a_ops (o_ev (e_lc [("event", 2)] sc_is_run_of.nd rfl (i_seq (e_var 1)) (fun _ _ _ _ _ => (g_nm 2 sc_is_run_of.nd)) (fun _ _ _ _ _ => s_ifs0) (fun _ _ _ _ _ => (e_cal C.f_is_event r (a_ops (o_var 0) (a_ops (o_var 2) s_ops0)))))) s_ops0))))))
 ss_nil)
theorem sc_need_works : FnScope N_need_works ["value"] (defScope s_need_works) := ⟨rfl, rfl, rfl, by decide +kernel, rfl, by decide +kernel, by decide +kernel⟩
theorem b_need_works (T : Txt K mg) (C : Oks P K mg base k) {f : Addr} {cdv : Value} {A : Around} {outer : List Env} {s : Shared} {H : Hp} {E : XK} (r : Room k (A.deeper (envOfC "need_works" (defScope s_need_works) s.heap.objs.size f cdv))) :
    PSs (cxOf CX0 P K.w K.fr mg base N_need_works "need_works" (defScope s_need_works) f cdv A outer s H E).nox (defBody s_need_works) (tSs K (callN fs k) x_need_works.body) :=
 (ss_cons (st_ife (s_notT (e_val (e_cal C.f_is_works r (a_ops (o_var 0) s_ops0)))) (ss_cons st_never
 ss_nil) ss_nil)
 ss_nil)
theorem sc_is_run : FnScope N_is_run ["works", "value"] (defScope s_is_run) := ⟨rfl, rfl, rfl, by decide +kernel, rfl, by decide +kernel, by decide +kernel⟩
theorem b_is_run (T : Txt K mg) (C : Oks P K mg base k) {f : Addr} {cdv : Value} {A : Around} {outer : List Env} {s : Shared} {H : Hp} {E : XK} (r : Room k (A.deeper (envOfC "is_run" (defScope s_is_run) s.heap.objs.size f cdv))) :
    PSs (cxOf CX0 P K.w K.fr mg base N_is_run "is_run" (defScope s_is_run) f cdv A outer s H E).nox (defBody s_is_run) (tSs K (callN fs k) x_is_run.body) :=
 (ss_cons (d_exp (e_cal C.f_need_works r (a_ops (o_var 0) s_ops0)))
 (ss_cons (d_ret (e_cal C.f_is_run_of r (a_ops (o_var 0) (a_ops (o_var 1) s_ops0))))
 ss_nil))
theorem sc__law_bag : FnScope N__law_bag ["script", "k"] (defScope s__law_bag) := ⟨rfl, rfl, rfl, by decide +kernel, rfl, by decide +kernel, by decide +kernel⟩
theorem b__law_bag (T : Txt K mg) (C : Oks P K mg base k) {f : Addr} {cdv : Value} {A : Around} {outer : List Env} {s : Shared} {H : Hp} {E : XK} (r : Room k (A.deeper (envOfC "_law_bag" (defScope s__law_bag) s.heap.objs.size f cdv))) :
    PSs (cxOf CX0 P K.w K.fr mg base N__law_bag "_law_bag" (defScope s__law_bag) f cdv A outer s H E).nox (defBody s__law_bag) (tSs K (callN fs k) x__law_bag.body) :=
 (ss_cons (d_asg 2 sc__law_bag.nd e_int)
 (ss_cons (st_ife (e_cmpT .lt r (o_var 1) (o_ev (e_blt .len T.b_len (a_ops (o_var 0) s_ops0)))) (ss_cons (d_asg 2 sc__law_bag.nd (s_bin (o := .mod) (o_ev (e_blt .int T.b_int (a_ops (o_ev (e_idx r (o_var 0) (o_var 1))) s_ops0))) (o_ev (s_bin (o := .pow) (o_ev e_int) (o_ev e_int)))))
 ss_nil) ss_nil)
 (ss_cons (d_asg 3 sc__law_bag.nd (s_bin (o := .add) (o_ev (s_bin (o := .mul) (o_ev (s_bin (o := .mod) (o_ev (e_blt .int T.b_int (a_ops (o_var 2) s_ops0))) (o_ev e_int))) (o_ev e_int))) (o_ev (s_bin (o := .mul) (o_ev (s_bin (o := .mul) (o_ev e_int) (o_var 1))) (o_var 1)))))
 (ss_cons (d_asg 4 sc__law_bag.nd (s_bin (o := .add) (o_ev e_int) (o_ev (s_bin (o := .mod) (o_ev (e_blt .int T.b_int (a_ops (o_ev (s_bin (o := .add) (o_ev (s_bin (o := .add) (o_var 3) (o_ev (s_bin (o := .mul) (o_ev e_int) (o_var 1))))) (o_ev e_int))) s_ops0))) (o_ev e_int)))))
 (ss_cons (st_ife (e_cmpT .lt r (o_var 2) (o_ev (s_bin (o := .pow) (o_ev e_int) (o_ev e_int)))) (ss_cons (d_ret (e_lst (a_evs e_int (a_evs (e_var 4) s_evs0))))
 ss_nil) ss_nil)
 (ss_cons (d_ret (e_lst (a_evs (e_var 2) (a_evs (e_var 4) s_evs0))))
 ss_nil))))))
theorem sc__law_take : FnScope N__law_take ["bag", "count"] (defScope s__law_take) := ⟨rfl, rfl, rfl, by decide +kernel, rfl, by decide +kernel, by decide +kernel⟩
theorem b__law_take (T : Txt K mg) (C : Oks P K mg base k) {f : Addr} {cdv : Value} {A : Around} {outer : List Env} {s : Shared} {H : Hp} {E : XK} (r : Room k (A.deeper (envOfC "_law_take" (defScope s__law_take) s.heap.objs.size f cdv))) :
    PSs (cxOf CX0 P K.w K.fr mg base N__law_take "_law_take" (defScope s__law_take) f cdv A outer s H E).nox (defBody s__law_take) (tSs K (callN fs k) x__law_take.body) :=
 (ss_cons (st_ife (e_cmpT .gt r (o_ev (e_idx r (o_var 0) (o_ev e_int))) (o_ev e_int)) (ss_cons (d_asg 2 sc__law_take.nd (s_bin (o := .mod) (o_ev (e_blt .int T.b_int (a_ops (o_ev (e_idx r (o_var 0) (o_ev e_int))) s_ops0))) (o_var 1)))
 (ss_cons (d_set 0 r e_int (s_bin (o := .fdiv) (o_ev (e_blt .int T.b_int (a_ops (o_ev (e_idx r (o_var 0) (o_ev e_int))) s_ops0))) (o_var 1)))
 (ss_cons (d_retV 2)
 ss_nil))) ss_nil)
 (ss_cons (d_set 0 r e_int (s_bin (o := .mod) (o_ev (e_blt .int T.b_int (a_ops (o_ev (s_bin (o := .mul) (o_ev (e_idx r (o_var 0) (o_ev e_int))) (o_ev e_int))) s_ops0))) (o_ev e_int)))
 (ss_cons (d_asg 3 sc__law_take.nd (s_bin (o := .mul) (o_ev (s_bin (o := .fdiv) (o_ev (e_blt .int T.b_int (a_ops (o_ev (e_idx r (o_var 0) (o_ev e_int))) s_ops0))) (o_ev e_int))) (o_ev (s_bin (o := .add) (o_ev (s_bin (o := .mod) (o_ev (e_blt .int T.b_int (a_ops (o_ev (e_idx r (o_var 0) (o_ev e_int))) s_ops0))) (o_ev e_int))) (o_ev e_int)))))
 (ss_cons (d_ret (s_bin (o := .mod) (o_ev (e_blt .int T.b_int (a_ops (o_ev (s_bin (o := .fdiv) (o_ev (s_bin (o := .mod) (o_ev (e_blt .int T.b_int (a_ops (o_var 3) s_ops0))) (o_ev e_int))) (o_ev e_int))) s_ops0))) (o_var 1)))
 ss_nil))))
theorem sc__law_of : FnScope N__law_of ["bag", "some"] (defScope s__law_of) := ⟨rfl, rfl, rfl, by decide +kernel, rfl, by decide +kernel, by decide +kernel⟩
theorem b__law_of (T : Txt K mg) (C : Oks P K mg base k) {f : Addr} {cdv : Value} {A : Around} {outer : List Env} {s : Shared} {H : Hp} {E : XK} (r : Room k (A.deeper (envOfC "_law_of" (defScope s__law_of) s.heap.objs.size f cdv))) :
    PSs (cxOf CX0 P K.w K.fr mg base N__law_of "_law_of" (defScope s__law_of) f cdv A outer s H E).nox (defBody s__law_of) (tSs K (callN fs k) x__law_of.body) :=
 (ss_cons (d_ret (e_idx r (o_var 1) (o_ev (e_cal C.f__law_take r (a_ops (o_var 0) (a_ops (o_ev (e_blt .len T.b_len (a_ops (o_var 1) s_ops0))) s_ops0))))))
 ss_nil)
theorem sc__law_names : FnScope N__law_names ["bag"] (defScope s__law_names) := ⟨rfl, rfl, rfl, by decide +kernel, rfl, by decide +kernel, by decide +kernel⟩
theorem b__law_names (T : Txt K mg) (C : Oks P K mg base k) {f : Addr} {cdv : Value} {A : Around} {outer : List Env} {s : Shared} {H : Hp} {E : XK} (r : Room k (A.deeper (envOfC "_law_names" (defScope s__law_names) s.heap.objs.size f cdv))) :
    PSs (cxOf CX0 P K.w K.fr mg base N__law_names "_law_names" (defScope s__law_names) f cdv A outer s H E).nox (defBody s__law_names) (tSs K (callN fs k) x__law_names.body) :=
 (ss_cons (d_asg 1 sc__law_names.nd (e_cal C.f__law_of r (a_ops (o_var 0) (a_ops (o_ev (e_lst (a_evs (e_lst (a_evs e_str (a_evs e_str (a_evs e_str s_evs0)))) (a_evs (e_lst (a_evs e_str (a_evs e_str (a_evs e_str s_evs0)))) (a_evs (e_lst (a_evs e_str (a_evs e_str (a_evs e_str s_evs0)))) s_evs0))))) s_ops0))))
 (ss_cons (d_asg 2 sc__law_names.nd (e_lst (a_evs (e_lst (a_evs e_str (a_evs e_str (a_evs e_str (a_evs e_str (a_evs e_str s_evs0)))))) (a_evs (e_lst (a_evs e_str (a_evs e_str (a_evs e_str (a_evs e_str (a_evs e_str s_evs0)))))) (a_evs (e_lst (a_evs e_str (a_evs e_str (a_evs e_str (a_evs e_str (a_evs e_str s_evs0)))))) s_evs0)))))
 (ss_cons (d_ret (e_tup (a_evs (e_var 1) (a_evs (e_cal C.f__law_of r (a_ops (o_var 0) (a_ops (o_var 2) s_ops0))) s_evs0))))
 ss_nil)))
theorem sc__law_some : FnScope N__law_some ["bag", "names", "most"] (defScope s__law_some) := ⟨rfl, rfl, rfl, by decide +kernel, rfl, by decide +kernel, by decide +kernel⟩
theorem b__law_some (T : Txt K mg) (C : Oks P K mg base k) {f : Addr} {cdv : Value} {A : Around} {outer : List Env} {s : Shared} {H : Hp} {E : XK} (r : Room k (A.deeper (envOfC "_law_some" (defScope s__law_some) s.heap.objs.size f cdv))) :
    PSs (cxOf CX0 P K.w K.fr mg base N__law_some "_law_some" (defScope s__law_some) f cdv A outer s H E).nox (defBody s__law_some) (tSs K (callN fs k) x__law_some.body) :=
 (ss_cons (d_asg 3 sc__law_some.nd (e_lst (a_evs (e_idx r (o_var 1) (o_ev (s_bin (o := .sub) (o_ev e_neg) (o_ev (e_cal C.f__law_take r (a_ops (o_var 0) (a_ops (o_ev (e_blt .min2 T.b_min (a_ops (o_ev e_int) (a_ops (o_ev (e_blt .len T.b_len (a_ops (o_var 1) s_ops0))) s_ops0)))) s_ops0))))))) s_evs0)))
 (ss_cons (d_for (w_rng1 T.b_range (a_evs (e_cal C.f__law_take r (a_ops (o_var 0) (a_ops (o_var 2) s_ops0))) s_evs0)) (g_nm 4 sc__law_some.nd) (ss_cons (d_app 3 (e_cal C.f__law_of r (a_ops (o_var 0) (a_ops (o_var 1) s_ops0))))
 ss_nil))
 (ss_cons (d_ret (e_blt .tuple T.b_tuple (a_ops (o_ev (e_sset T.b_sorted T.b_set (a_ops (o_var 3) s_ops0))) s_ops0)))
 ss_nil)))
theorem sc__law_works : FnScope N__law_works ["bag", "sources", "things", "jobs"] (defScope s__law_works) := ⟨rfl, rfl, rfl, by decide +kernel, rfl, by decide +kernel, by decide +kernel⟩
theorem b__law_works (T : Txt K mg) (C : Oks P K mg base k) {f : Addr} {cdv : Value} {A : Around} {outer : List Env} {s : Shared} {H : Hp} {E : XK} (r : Room k (A.deeper (envOfC "_law_works" (defScope s__law_works) s.heap.objs.size f cdv))) :
    PSs (cxOf CX0 P K.w K.fr mg base N__law_works "_law_works" (defScope s__law_works) f cdv A outer s H E).nox (defBody s__law_works) (tSs K (callN fs k) x__law_works.body) :=
 (ss_cons (d_asgT (e_cal C.f__law_names r (a_ops (o_var 0) s_ops0)) (g_tup (gs_cons 4 sc__law_works.nd (gs_cons 5 sc__law_works.nd gs_nil))))
 (ss_cons (d_par2 6 7 sc__law_works.nd (a_rs (s_slc (o_var 4) s_po0 (s_po1 (e_var 1))) (a_rs (e_tup s_evs0) s_rs0)))
 (ss_cons (d_for (i_seq (s_slc (o_var 5) s_po0 (s_po1 (e_var 2)))) (g_nm 8 sc__law_works.nd) (ss_cons (d_asg 9 sc__law_works.nd (e_cal C.f__law_some r (a_ops (o_var 0) (a_ops (o_var 6) (a_ops (o_ev (s_ite (e_cmpT .gt r (o_ev (e_cal C.f__law_take r (a_ops (o_var 0) (a_ops (o_ev e_int) s_ops0)))) (o_ev e_int)) e_int e_int)) s_ops0)))))
 (ss_cons (d_asg 10 sc__law_works.nd (e_cal C.f__law_of r (a_ops (o_var 0) (a_ops (o_ev (e_lst (a_evs e_str (a_evs e_str (a_evs e_str (a_evs e_str (a_evs e_str (a_evs e_str s_evs0)))))))) s_ops0))))
 (ss_cons (d_asg 7 sc__law_works.nd (s_bin (o := .add) (o_var 7) (o_ev (e_tup (a_evs (e_tup (a_evs (e_var 8) (a_evs (e_var 9) (a_evs (e_var 10) s_evs0)))) s_evs0)))))
 (ss_cons (d_asg 6 sc__law_works.nd (s_bin (o := .add) (o_var 6) (o_ev (e_lst (a_evs (e_var 8) s_evs0)))))
 ss_nil)))))
 (ss_cons (d_asg 11 sc__law_works.nd s_dic0)
 (ss_cons (d_asg 12 sc__law_works.nd (e_cal C.f__law_of r (a_ops (o_var 0) (a_ops (o_ev (e_lst (a_evs (e_var 3) (a_evs (e_var 3) (a_evs (s_bin (o := .sub) (o_var 3) (o_ev e_int)) (a_evs (e_cal C.f__law_take r (a_ops (o_var 0) (a_ops (o_ev (s_bin (o := .add) (o_var 3) (o_ev e_int))) s_ops0))) s_evs0)))))) s_ops0))))
 (ss_cons (d_for (i_seq (s_slc (o_ev (e_lst (a_evs e_str (a_evs e_str (a_evs e_str (a_evs e_str s_evs0)))))) s_po0 (s_po1 (e_var 12)))) (g_nm 13 sc__law_works.nd) (ss_cons (d_par2 14 15 sc__law_works.nd (a_rs (e_tup s_evs0) (a_rs (s_slc (o_var 5) s_po0 (s_po1 (e_var 2))) s_rs0)))
 (ss_cons (d_for (w_rng1 T.b_range (a_evs (s_bin (o := .add) (o_ev e_int) (o_ev (e_cal C.f__law_of r (a_ops (o_var 0) (a_ops (o_ev (e_lst (a_evs e_int (a_evs e_int (a_evs e_int (a_evs e_int (a_evs e_int s_evs0))))))) s_ops0))))) s_evs0)) (g_nm 16 sc__law_works.nd) (ss_cons (st_ife (e_cmpT .ne r (o_var 15) (o_ev (e_lst s_evs0))) (ss_cons (d_asg 14 sc__law_works.nd (s_bin (o := .add) (o_var 14) (o_ev (e_tup (a_evs (e_pop1 15 (a_ops (o_ev (e_cal C.f__law_take r (a_ops (o_var 0) (a_ops (o_ev (e_blt .len T.b_len (a_ops (o_var 15) s_ops0))) s_ops0)))) s_ops0)) s_evs0)))))
 ss_nil) ss_nil)
 ss_nil))
 (ss_cons (d_set 11 r (e_var 13) (e_var 14))
 ss_nil))))
 (ss_cons (d_ret (e_tup (a_evs (e_blt .tuple T.b_tuple (a_ops (o_ev (s_slc (o_var 4) s_po0 (s_po1 (e_var 1)))) s_ops0)) (a_evs (e_var 7) (a_evs (e_blt .tuple T.b_tuple (a_ops (o_ev (e_lc [("label", 13)] sc__law_works.nd rfl (i_seq (e_sorted T.b_sorted (a_ops (o_var 11) s_ops0))) (fun _ _ _ _ _ => (g_nm 13 sc__law_works.nd)) (fun _ _ _ _ _ => s_ifs0) (fun _ _ _ _ _ => (e_tup (a_evs (e_var 13) (a_evs (e_idx r (o_var 11) (o_var 13)) s_evs0)))))) s_ops0)) s_evs0)))))
 ss_nil)))))))
theorem sc__law_events : FnScope N__law_events ["works", "names"] (defScope s__law_events) := ⟨rfl, rfl, rfl, by decide +kernel, rfl, by decide +kernel, by decide +kernel⟩
theorem b__law_events (T : Txt K mg) (C : Oks P K mg base k) {f : Addr} {cdv : Value} {A : Around} {outer : List Env} {s : Shared} {H : Hp} {E : XK} (r : Room k (A.deeper (envOfC "_law_events" (defScope s__law_events) s.heap.objs.size f cdv))) :
    PSs (cxOf CX0 P K.w K.fr mg base N__law_events "_law_events" (defScope s__law_events) f cdv A outer s H E).nox (defBody s__law_events) (tSs K (callN fs k) x__law_events.body) :=
 (ss_cons (d_asg 2 sc__law_events.nd (s_bin (o := .add) (o_ev (e_lc [("source", 3)] sc__law_events.nd rfl (i_seq (e_idx r (o_var 0) (o_ev e_int))) (fun _ _ _ _ _ => (g_nm 3 sc__law_events.nd)) (fun _ _ _ _ _ => s_ifs0) (fun _ _ _ _ _ => (e_tup (a_evs e_str (a_evs (e_var 3) s_evs0)))))) (o_ev (e_lc [("job", 4)] sc__law_events.nd rfl (i_seq (e_idx r (o_var 0) (o_ev e_int))) (fun _ _ _ _ _ => (g_nm 4 sc__law_events.nd)) (fun _ _ _ _ _ => s_ifs0) (fun _ _ _ _ _ => (e_tup (a_evs e_str (a_evs (e_idx r (o_var 4) (o_ev e_int)) s_evs0))))))))
 (ss_cons (d_ret (s_bin (o := .add) (o_var 2) (o_ev (e_lc [("name", 5)] sc__law_events.nd rfl (i_seq (e_var 1)) (fun _ _ _ _ _ => (g_nm 5 sc__law_events.nd)) (fun _ _ _ _ _ => s_ifs0) (fun _ _ _ _ _ => (e_tup (a_evs e_str (a_evs (e_var 5) s_evs0))))))))
 ss_nil))
theorem sc__law_drawn_run : FnScope N__law_drawn_run ["bag", "works", "most"] (defScope s__law_drawn_run) := ⟨rfl, rfl, rfl, by decide +kernel, rfl, by decide +kernel, by decide +kernel⟩
theorem b__law_drawn_run (T : Txt K mg) (C : Oks P K mg base k) {f : Addr} {cdv : Value} {A : Around} {outer : List Env} {s : Shared} {H : Hp} {E : XK} (r : Room k (A.deeper (envOfC "_law_drawn_run" (defScope s__law_drawn_run) s.heap.objs.size f cdv))) :
    PSs (cxOf CX0 P K.w K.fr mg base N__law_drawn_run "_law_drawn_run" (defScope s__law_drawn_run) f cdv A outer s H E).nox (defBody s__law_drawn_run) (tSs K (callN fs k) x__law_drawn_run.body) :=
 (ss_cons (d_asg 3 sc__law_drawn_run.nd (e_cal C.f__law_events r (a_ops (o_var 1) (a_ops (o_ev (e_lc [("thing", 4)] sc__law_drawn_run.nd rfl (i_seq (e_idx r (o_var 1) (o_ev e_int))) (fun _ _ _ _ _ => (g_nm 4 sc__law_drawn_run.nd)) (fun _ _ _ _ _ => s_ifs0) (fun _ _ _ _ _ => (e_idx r (o_var 4) (o_ev e_int))))) s_ops0))))
 (ss_cons (d_ret (e_blt .tuple T.b_tuple (a_ops (o_ev (e_lc [("turn", 5)] sc__law_drawn_run.nd rfl (w_rng1 T.b_range (a_evs (s_bin (o := .add) (o_ev e_int) (o_ev (e_cal C.f__law_take r (a_ops (o_var 0) (a_ops (o_var 2) s_ops0))))) s_evs0)) (fun _ _ _ _ _ => (g_nm 5 sc__law_drawn_run.nd)) (fun _ _ _ _ _ => s_ifs0) (fun _ _ _ _ _ => (e_cal C.f__law_of r (a_ops (o_var 0) (a_ops (o_var 3) s_ops0)))))) s_ops0)))
 ss_nil))
theorem sc__law_any_value : FnScope N__law_any_value ["bag", "depth"] (defScope s__law_any_value) := ⟨rfl, rfl, rfl, by decide +kernel, rfl, by decide +kernel, by decide +kernel⟩
theorem b__law_any_value (T : Txt K mg) (C : Oks P K mg base k) {f : Addr} {cdv : Value} {A : Around} {outer : List Env} {s : Shared} {H : Hp} {E : XK} (r : Room k (A.deeper (envOfC "_law_any_value" (defScope s__law_any_value) s.heap.objs.size f cdv))) :
    PSs (cxOf CX0 P K.w K.fr mg base N__law_any_value "_law_any_value" (defScope s__law_any_value) f cdv A outer s H E).nox (defBody s__law_any_value) (tSs K (callN fs k) x__law_any_value.body) :=
 (ss_cons (d_asg 2 sc__law_any_value.nd (e_cal C.f__law_take r (a_ops (o_var 0) (a_ops (o_ev e_int) s_ops0))))
 (ss_cons (st_ife (t_or (t_orC (e_cmpT .lt r (o_var 2) (o_ev e_int)) (t_or1 (e_cmpT .eq r (o_var 1) (o_ev e_int))))) (ss_cons (d_asg 3 sc__law_any_value.nd (e_lst (a_evs e_int (a_evs e_neg (a_evs e_int (a_evs e_bl (a_evs e_bl (a_evs e_non (a_evs e_str (a_evs e_str (a_evs e_str (a_evs e_str (a_evs e_str (a_evs e_str (a_evs e_str s_evs0)))))))))))))))
 (ss_cons (d_ret (e_cal C.f__law_of r (a_ops (o_var 0) (a_ops (o_ev (s_bin (o := .add) (o_var 3) (o_ev (e_lst (a_evs (s_bin (o := .pow) (o_ev e_int) (o_ev e_int)) (a_evs (e_tup s_evs0) (a_evs (e_lst s_evs0) (a_evs (e_tup (a_evs e_str s_evs0)) s_evs0)))))))) s_ops0))))
 ss_nil)) ss_nil)
 (ss_cons (d_asgLc 4 [("k", 5)] sc__law_any_value.nd rfl (w_rng1 T.b_range (a_evs (e_cal C.f__law_take r (a_ops (o_var 0) (a_ops (o_ev e_int) s_ops0))) s_evs0)) (fun _ _ _ _ _ => (g_nm 5 sc__law_any_value.nd)) (fun _ _ _ _ _ => s_ifs0) (fun _ _ _ _ _ => (e_cal C.f__law_any_value r (a_ops (o_var 0) (a_ops (o_ev (s_bin (o := .sub) (o_var 1) (o_ev e_int))) s_ops0)))))
 (ss_cons (d_ret (e_idx r (o_ev (e_lst (a_evs (e_var 4) (a_evs (e_blt .tuple T.b_tuple (a_ops (o_var 4) s_ops0)) (a_evs (e_blt .tuple T.b_tuple (a_ops (o_var 4) s_ops0)) s_evs0))))) (o_ev (s_bin (o := .sub) (o_var 2) (o_ev e_int)))))
 ss_nil))))
theorem sc__law_spoiled : FnScope N__law_spoiled ["bag", "value"] (defScope s__law_spoiled) := ⟨rfl, rfl, rfl, by decide +kernel, rfl, by decide +kernel, by decide +kernel⟩
theorem b__law_spoiled (T : Txt K mg) (C : Oks P K mg base k) {f : Addr} {cdv : Value} {A : Around} {outer : List Env} {s : Shared} {H : Hp} {E : XK} (r : Room k (A.deeper (envOfC "_law_spoiled" (defScope s__law_spoiled) s.heap.objs.size f cdv))) :
    PSs (cxOf CX0 P K.w K.fr mg base N__law_spoiled "_law_spoiled" (defScope s__law_spoiled) f cdv A outer s H E).nox (defBody s__law_spoiled) (tSs K (callN fs k) x__law_spoiled.body) :=
 (ss_cons (st_ife (t_or (t_orC (s_notT (e_val (e_isi .tuple T.b_isinstance T.b_tuple (o_var 1)))) (t_orC (e_cmpT .eq r (o_var 1) (o_ev (e_tup s_evs0))) (t_or1 (e_cmpT .eq r (o_ev (e_cal C.f__law_take r (a_ops (o_var 0) (a_ops (o_ev e_int) s_ops0)))) (o_ev e_int)))))) (ss_cons (d_asg 2 sc__law_spoiled.nd (e_lst (a_evs (e_cal C.f__law_any_value r (a_ops (o_var 0) (a_ops (o_ev e_int) s_ops0))) (a_evs (e_lst (a_evs (e_var 1) s_evs0)) (a_evs (e_tup (a_evs (e_var 1) (a_evs (e_var 1) s_evs0))) s_evs0)))))
 (ss_cons (st_ife (e_val (e_isi .str T.b_isinstance T.b_str (o_var 1))) (ss_cons (d_asg 2 sc__law_spoiled.nd (s_bin (o := .add) (o_var 2) (o_ev (e_lst (a_evs (s_bin (o := .add) (o_var 1) (o_ev e_str)) (a_evs (e_upper (o_var 1)) (a_evs e_str (a_evs e_str (a_evs e_str (a_evs e_str (a_evs e_str s_evs0)))))))))))
 ss_nil) ss_nil)
 (ss_cons (d_ret (e_cal C.f__law_of r (a_ops (o_var 0) (a_ops (o_var 2) s_ops0))))
 ss_nil))) ss_nil)
 (ss_cons (d_par2 3 4 sc__law_spoiled.nd (a_rs (e_cal C.f__law_take r (a_ops (o_var 0) (a_ops (o_ev (e_blt .len T.b_len (a_ops (o_var 1) s_ops0))) s_ops0))) (a_rs (e_cal C.f__law_take r (a_ops (o_var 0) (a_ops (o_ev e_int) s_ops0))) s_rs0)))
 (ss_cons (st_ife (e_cmpT .eq r (o_var 4) (o_ev e_int)) (ss_cons (d_ret (s_bin (o := .add) (o_ev (s_slc (o_var 1) s_po0 (s_po1 (e_var 3)))) (o_ev (s_slc (o_var 1) (s_po1 (s_bin (o := .add) (o_var 3) (o_ev e_int))) s_po0))))
 ss_nil) ss_nil)
 (ss_cons (st_ife (e_cmpT .eq r (o_var 4) (o_ev e_int)) (ss_cons (d_ret (s_bin (o := .add) (o_ev (s_bin (o := .add) (o_ev (s_slc (o_var 1) s_po0 (s_po1 (e_var 3)))) (o_ev (s_bin (o := .mul) (o_ev (s_slc (o_var 1) (s_po1 (e_var 3)) (s_po1 (s_bin (o := .add) (o_var 3) (o_ev e_int))))) (o_ev e_int))))) (o_ev (s_slc (o_var 1) (s_po1 (s_bin (o := .add) (o_var 3) (o_ev e_int))) s_po0))))
 ss_nil) ss_nil)
 (ss_cons (st_ife (e_cmpT .eq r (o_var 4) (o_ev e_int)) (ss_cons (d_ret (e_rev (o_var 1)))
 ss_nil) ss_nil)
 (ss_cons (st_ife (e_cmpT .eq r (o_var 4) (o_ev e_int)) (ss_cons (d_ret (e_blt .list T.b_list (a_ops (o_var 1) s_ops0)))
 ss_nil) ss_nil)
 (ss_cons (d_ret (s_bin (o := .add) (o_ev (s_bin (o := .add) (o_ev (s_slc (o_var 1) s_po0 (s_po1 (e_var 3)))) (o_ev (e_tup (a_evs (e_cal C.f__law_spoiled r (a_ops (o_var 0) (a_ops (o_ev (e_idx r (o_var 1) (o_var 3))) s_ops0))) s_evs0))))) (o_ev (s_slc (o_var 1) (s_po1 (s_bin (o := .add) (o_var 3) (o_ev e_int))) s_po0))))
 ss_nil)))))))
theorem sc__law_is_name : FnScope N__law_is_name ["value"] (defScope s__law_is_name) := ⟨rfl, rfl, rfl, by decide +kernel, rfl, by decide +kernel, by decide +kernel⟩
theorem b__law_is_name (T : Txt K mg) (C : Oks P K mg base k) {f : Addr} {cdv : Value} {A : Around} {outer : List Env} {s : Shared} {H : Hp} {E : XK} (r : Room k (A.deeper (envOfC "_law_is_name" (defScope s__law_is_name) s.heap.objs.size f cdv))) :
    PSs (cxOf CX0 P K.w K.fr mg base N__law_is_name "_law_is_name" (defScope s__law_is_name) f cdv A outer s H E).nox (defBody s__law_is_name) (tSs K (callN fs k) x__law_is_name.body) :=
 (ss_cons (st_ife (t_or (t_orC (s_notT (e_val (e_isi .str T.b_isinstance T.b_str (o_var 0)))) (t_or1 (s_notT (e_chainT .le .le r (o_ev e_int) (o_ev (e_blt .len T.b_len (a_ops (o_var 0) s_ops0))) (o_ev e_int)))))) (ss_cons (d_ret e_bl)
 ss_nil) ss_nil)
 (ss_cons (d_ret (e_cmp .eq r (o_ev (e_lc [("sign", 1)] sc__law_is_name.nd rfl (i_seq (e_var 0)) (fun _ _ _ _ _ => (g_nm 1 sc__law_is_name.nd)) (fun _ _ _ _ _ => (s_ifs1 (e_cmpT .notIn r (o_var 1) (o_ev e_str)))) (fun _ _ _ _ _ => (e_var 1)))) (o_ev (e_lst s_evs0))))
 ss_nil))
theorem sc__law_rising : FnScope N__law_rising ["value", "low", "high"] (defScope s__law_rising) := ⟨rfl, rfl, rfl, by decide +kernel, rfl, by decide +kernel, by decide +kernel⟩
theorem b__law_rising (T : Txt K mg) (C : Oks P K mg base k) {f : Addr} {cdv : Value} {A : Around} {outer : List Env} {s : Shared} {H : Hp} {E : XK} (r : Room k (A.deeper (envOfC "_law_rising" (defScope s__law_rising) s.heap.objs.size f cdv))) :
    PSs (cxOf CX0 P K.w K.fr mg base N__law_rising "_law_rising" (defScope s__law_rising) f cdv A outer s H E).nox (defBody s__law_rising) (tSs K (callN fs k) x__law_rising.body) :=
 (ss_cons (st_ife (t_or (t_orC (s_notT (e_val (e_isi .tuple T.b_isinstance T.b_tuple (o_var 0)))) (t_or1 (s_notT (e_chainT .le .le r (o_var 1) (o_ev (e_blt .len T.b_len (a_ops (o_var 0) s_ops0))) (o_var 2)))))) (ss_cons (d_ret e_bl)
 ss_nil) ss_nil)
 (ss_cons (st_ife (e_cmpT .ne r (o_ev (e_lc [("name", 3)] sc__law_rising.nd rfl (i_seq (e_var 0)) (fun _ _ _ _ _ => (g_nm 3 sc__law_rising.nd)) (fun _ _ _ _ _ => (s_ifs1 (s_notT (e_val (e_cal C.f__law_is_name r (a_ops (o_var 3) s_ops0)))))) (fun _ _ _ _ _ => (e_var 3)))) (o_ev (e_lst s_evs0))) (ss_cons (d_ret e_bl)
 ss_nil) ss_nil)
 (ss_cons (d_ret (e_cmp .eq r (o_ev (e_lc [("at", 4)] sc__law_rising.nd rfl (w_rng2 T.b_range (a_evs e_int (a_evs (e_blt .len T.b_len (a_ops (o_var 0) s_ops0)) s_evs0))) (fun _ _ _ _ _ => (g_nm 4 sc__law_rising.nd)) (fun _ _ _ _ _ => (s_ifs1 (e_cmpT .le r (o_ev (e_idx r (o_var 0) (o_var 4))) (o_ev (e_idx r (o_var 0) (o_ev (s_bin (o := .sub) (o_var 4) (o_ev e_int)))))))) (fun _ _ _ _ _ => (e_var 4)))) (o_ev (e_lst s_evs0))))
 ss_nil)))
theorem sc__law_are_things : FnScope N__law_are_things ["value", "known"] (defScope s__law_are_things) := ⟨rfl, rfl, rfl, by decide +kernel, rfl, by decide +kernel, by decide +kernel⟩
theorem b__law_are_things (T : Txt K mg) (C : Oks P K mg base k) {f : Addr} {cdv : Value} {A : Around} {outer : List Env} {s : Shared} {H : Hp} {E : XK} (r : Room k (A.deeper (envOfC "_law_are_things" (defScope s__law_are_things) s.heap.objs.size f cdv))) :
    PSs (cxOf CX0 P K.w K.fr mg base N__law_are_things "_law_are_things" (defScope s__law_are_things) f cdv A outer s H E).nox (defBody s__law_are_things) (tSs K (callN fs k) x__law_are_things.body) :=
 (ss_cons (st_ife (t_or (t_orC (s_notT (e_val (e_isi .tuple T.b_isinstance T.b_tuple (o_var 0)))) (t_or1 (s_notT (e_chainT .le .le r (o_ev e_int) (o_ev (e_blt .len T.b_len (a_ops (o_var 0) s_ops0))) (o_ev e_int)))))) (ss_cons (d_ret e_bl)
 ss_nil) ss_nil)
 (ss_cons (d_for (i_seq (e_var 0)) (g_nm 2 sc__law_are_things.nd) (ss_cons (st_ife (t_or (t_orC (s_notT (e_val (e_isi .tuple T.b_isinstance T.b_tuple (o_var 2)))) (t_orC (e_cmpT .ne r (o_ev (e_blt .len T.b_len (a_ops (o_var 2) s_ops0))) (o_ev e_int)) (t_orC (s_notT (e_val (e_cal C.f__law_is_name r (a_ops (o_ev (e_idx r (o_var 2) (o_ev e_int))) s_ops0)))) (t_or1 (e_cmpT .isIn r (o_ev (e_idx r (o_var 2) (o_ev e_int))) (o_var 1))))))) (ss_cons (d_ret e_bl)
 ss_nil) ss_nil)
 (ss_cons (st_ife (t_or (t_orC (s_notT (e_val (e_cal C.f__law_rising r (a_ops (o_ev (e_idx r (o_var 2) (o_ev e_int))) (a_ops (o_ev e_int) (a_ops (o_ev e_int) s_ops0)))))) (t_or1 (e_cmpT .ne r (o_ev (e_lc [("part", 3)] sc__law_are_things.nd rfl (i_seq (e_idx r (o_var 2) (o_ev e_int))) (fun _ _ _ _ _ => (g_nm 3 sc__law_are_things.nd)) (fun _ _ _ _ _ => (s_ifs1 (e_cmpT .notIn r (o_var 3) (o_var 1)))) (fun _ _ _ _ _ => (e_var 3)))) (o_ev (e_lst s_evs0)))))) (ss_cons (d_ret e_bl)
 ss_nil) ss_nil)
 (ss_cons (st_ife (t_or (t_orC (s_notT (e_val (e_isi .str T.b_isinstance T.b_str (o_ev (e_idx r (o_var 2) (o_ev e_int)))))) (t_or1 (e_cmpT .notIn r (o_ev (e_idx r (o_var 2) (o_ev e_int))) (o_ev (e_lst (a_evs e_str (a_evs e_str (a_evs e_str s_evs0))))))))) (ss_cons (d_ret e_bl)
 ss_nil) ss_nil)
 (ss_cons (d_asg 1 sc__law_are_things.nd (s_bin (o := .add) (o_var 1) (o_ev (e_lst (a_evs (e_idx r (o_var 2) (o_ev e_int)) s_evs0)))))
 ss_nil)))))
 (ss_cons (d_ret e_bl)
 ss_nil)))
theorem sc__law_are_jobs : FnScope N__law_are_jobs ["value", "names"] (defScope s__law_are_jobs) := ⟨rfl, rfl, rfl, by decide +kernel, rfl, by decide +kernel, by decide +kernel⟩
theorem b__law_are_jobs (T : Txt K mg) (C : Oks P K mg base k) {f : Addr} {cdv : Value} {A : Around} {outer : List Env} {s : Shared} {H : Hp} {E : XK} (r : Room k (A.deeper (envOfC "_law_are_jobs" (defScope s__law_are_jobs) s.heap.objs.size f cdv))) :
    PSs (cxOf CX0 P K.w K.fr mg base N__law_are_jobs "_law_are_jobs" (defScope s__law_are_jobs) f cdv A outer s H E).nox (defBody s__law_are_jobs) (tSs K (callN fs k) x__law_are_jobs.body) :=
 (ss_cons (st_ife (t_or (t_orC (s_notT (e_val (e_isi .tuple T.b_isinstance T.b_tuple (o_var 0)))) (t_or1 (e_cmpT .gt r (o_ev (e_blt .len T.b_len (a_ops (o_var 0) s_ops0))) (o_ev e_int))))) (ss_cons (d_ret e_bl)
 ss_nil) ss_nil)
 (ss_cons (d_for (i_seq (e_var 0)) (g_nm 2 sc__law_are_jobs.nd) (ss_cons (st_ife (t_or (t_orC (s_notT (e_val (e_isi .tuple T.b_isinstance T.b_tuple (o_var 2)))) (t_orC (e_cmpT .ne r (o_ev (e_blt .len T.b_len (a_ops (o_var 2) s_ops0))) (o_ev e_int)) (t_orC (s_notT (e_val (e_cal C.f__law_is_name r (a_ops (o_ev (e_idx r (o_var 2) (o_ev e_int))) s_ops0)))) (t_or1 (s_notT (e_val (e_isi .tuple T.b_isinstance T.b_tuple (o_ev (e_idx r (o_var 2) (o_ev e_int))))))))))) (ss_cons (d_ret e_bl)
 ss_nil) ss_nil)
 (ss_cons (d_asgLc 3 [("name", 4)] sc__law_are_jobs.nd rfl (i_seq (e_idx r (o_var 2) (o_ev e_int))) (fun _ _ _ _ _ => (g_nm 4 sc__law_are_jobs.nd)) (fun _ _ _ _ _ => (s_ifs1 (t_or (t_orC (s_notT (e_val (e_isi .str T.b_isinstance T.b_str (o_var 4)))) (t_or1 (e_cmpT .notIn r (o_var 4) (o_var 1))))))) (fun _ _ _ _ _ => (e_var 4)))
 (ss_cons (st_ife (t_or (t_orC (s_notT (e_chainT .le .le r (o_ev e_int) (o_ev (e_blt .len T.b_len (a_ops (o_ev (e_idx r (o_var 2) (o_ev e_int))) s_ops0))) (o_ev e_int))) (t_or1 (e_cmpT .ne r (o_var 3) (o_ev (e_lst s_evs0)))))) (ss_cons (d_ret e_bl)
 ss_nil) ss_nil)
 (ss_cons (st_ife (e_cmpT .lt r (o_ev (e_lset T.b_len T.b_set (a_ops (o_ev (e_idx r (o_var 2) (o_ev e_int))) s_ops0))) (o_ev (e_blt .len T.b_len (a_ops (o_ev (e_idx r (o_var 2) (o_ev e_int))) s_ops0)))) (ss_cons (d_ret e_bl)
 ss_nil) ss_nil)
 ss_nil)))))
 (ss_cons (d_ret (e_cmp .eq r (o_ev (e_lc [("at", 5)] sc__law_are_jobs.nd rfl (w_rng2 T.b_range (a_evs e_int (a_evs (e_blt .len T.b_len (a_ops (o_var 0) s_ops0)) s_evs0))) (fun _ _ _ _ _ => (g_nm 5 sc__law_are_jobs.nd)) (fun _ _ _ _ _ => (s_ifs1 (e_cmpT .le r (o_ev (e_idx r (o_ev (e_idx r (o_var 0) (o_var 5))) (o_ev e_int))) (o_ev (e_idx r (o_ev (e_idx r (o_var 0) (o_ev (s_bin (o := .sub) (o_var 5) (o_ev e_int))))) (o_ev e_int)))))) (fun _ _ _ _ _ => (e_var 5)))) (o_ev (e_lst s_evs0))))
 ss_nil)))
theorem sc__law_is_works : FnScope N__law_is_works ["value"] (defScope s__law_is_works) := ⟨rfl, rfl, rfl, by decide +kernel, rfl, by decide +kernel, by decide +kernel⟩
theorem b__law_is_works (T : Txt K mg) (C : Oks P K mg base k) {f : Addr} {cdv : Value} {A : Around} {outer : List Env} {s : Shared} {H : Hp} {E : XK} (r : Room k (A.deeper (envOfC "_law_is_works" (defScope s__law_is_works) s.heap.objs.size f cdv))) :
    PSs (cxOf CX0 P K.w K.fr mg base N__law_is_works "_law_is_works" (defScope s__law_is_works) f cdv A outer s H E).nox (defBody s__law_is_works) (tSs K (callN fs k) x__law_is_works.body) :=
 (ss_cons (st_ife (t_or (t_orC (s_notT (e_val (e_isi .tuple T.b_isinstance T.b_tuple (o_var 0)))) (t_orC (e_cmpT .ne r (o_ev (e_blt .len T.b_len (a_ops (o_var 0) s_ops0))) (o_ev e_int)) (t_or1 (s_notT (e_val (e_cal C.f__law_rising r (a_ops (o_ev (e_idx r (o_var 0) (o_ev e_int))) (a_ops (o_ev e_int) (a_ops (o_ev e_int) s_ops0)))))))))) (ss_cons (d_ret e_bl)
 ss_nil) ss_nil)
 (ss_cons (st_ife (s_notT (e_val (e_cal C.f__law_are_things r (a_ops (o_ev (e_idx r (o_var 0) (o_ev e_int))) (a_ops (o_ev (e_blt .list T.b_list (a_ops (o_ev (e_idx r (o_var 0) (o_ev e_int))) s_ops0))) s_ops0))))) (ss_cons (d_ret e_bl)
 ss_nil) ss_nil)
 (ss_cons (d_ret (e_cal C.f__law_are_jobs r (a_ops (o_ev (e_idx r (o_var 0) (o_ev e_int))) (a_ops (o_ev (e_lc [("thing", 1)] sc__law_is_works.nd rfl (i_seq (e_idx r (o_var 0) (o_ev e_int))) (fun _ _ _ _ _ => (g_nm 1 sc__law_is_works.nd)) (fun _ _ _ _ _ => s_ifs0) (fun _ _ _ _ _ => (e_idx r (o_var 1) (o_ev e_int))))) s_ops0))))
 ss_nil)))
theorem sc__law_is_run : FnScope N__law_is_run ["works", "value"] (defScope s__law_is_run) := ⟨rfl, rfl, rfl, by decide +kernel, rfl, by decide +kernel, by decide +kernel⟩
theorem b__law_is_run (T : Txt K mg) (C : Oks P K mg base k) {f : Addr} {cdv : Value} {A : Around} {outer : List Env} {s : Shared} {H : Hp} {E : XK} (r : Room k (A.deeper (envOfC "_law_is_run" (defScope s__law_is_run) s.heap.objs.size f cdv))) :
    PSs (cxOf CX0 P K.w K.fr mg base N__law_is_run "_law_is_run" (defScope s__law_is_run) f cdv A outer s H E).nox (defBody s__law_is_run) (tSs K (callN fs k) x__law_is_run.body) :=
 (ss_cons (st_ife (t_or (t_orC (s_notT (e_val (e_isi .tuple T.b_isinstance T.b_tuple (o_var 1)))) (t_or1 (e_cmpT .gt r (o_ev (e_blt .len T.b_len (a_ops (o_var 1) s_ops0))) (o_ev e_int))))) (ss_cons (d_ret e_bl)
 ss_nil) ss_nil)
 (ss_cons (d_asg 2 sc__law_is_run.nd (e_cal C.f__law_events r (a_ops (o_var 0) (a_ops (o_ev (e_lc [("thing", 4)] sc__law_is_run.nd rfl (i_seq (e_idx r (o_var 0) (o_ev e_int))) (fun _ _ _ _ _ => (g_nm 4 sc__law_is_run.nd)) (fun _ _ _ _ _ => s_ifs0) (fun _ _ _ _ _ => (e_idx r (o_var 4) (o_ev e_int))))) s_ops0))))
 (ss_cons (d_for (i_seq (e_var 1)) (g_nm 3 sc__law_is_run.nd) (ss_cons (st_ife (t_or (t_orC (s_notT (e_val (e_isi .tuple T.b_isinstance T.b_tuple (o_var 3)))) (t_or1 (e_cmpT .ne r (o_ev (e_lc [("part", 5)] sc__law_is_run.nd rfl (i_seq (e_var 3)) (fun _ _ _ _ _ => (g_nm 5 sc__law_is_run.nd)) (fun _ _ _ _ _ => (s_ifs1 (s_notT (e_val (e_isi .str T.b_isinstance T.b_str (o_var 5)))))) (fun _ _ _ _ _ => (e_var 5)))) (o_ev (e_lst s_evs0)))))) (ss_cons (d_ret e_bl)
 ss_nil) ss_nil)
 (ss_cons (st_ife (e_cmpT .notIn r (o_var 3) (o_var 2)) (ss_cons (d_ret e_bl)
 ss_nil) ss_nil)
 ss_nil)))
 (ss_cons (d_ret e_bl)
 ss_nil))))
theorem sc__law_told_right : FnScope N__law_told_right ["found", "due"] (defScope s__law_told_right) := ⟨rfl, rfl, rfl, by decide +kernel, rfl, by decide +kernel, by decide +kernel⟩
theorem b__law_told_right (T : Txt K mg) (C : Oks P K mg base k) {f : Addr} {cdv : Value} {A : Around} {outer : List Env} {s : Shared} {H : Hp} {E : XK} (r : Room k (A.deeper (envOfC "_law_told_right" (defScope s__law_told_right) s.heap.objs.size f cdv))) :
    PSs (cxOf CX0 P K.w K.fr mg base N__law_told_right "_law_told_right" (defScope s__law_told_right) f cdv A outer s H E).nox (defBody s__law_told_right) (tSs K (callN fs k) x__law_told_right.body) :=
 (ss_cons (d_ret (e_and (s_andC (e_isi .bool T.b_isinstance T.b_bool (o_var 0)) (s_and1 (e_cmp .eq r (o_var 0) (o_var 1))))))
 ss_nil)
theorem sc_law : FnScope N_law ["script"] (defScope s_law) := ⟨rfl, rfl, rfl, by decide +kernel, rfl, by decide +kernel, by decide +kernel⟩
theorem b_law (T : Txt K mg) (C : Oks P K mg base k) {f : Addr} {cdv : Value} {A : Around} {outer : List Env} {s : Shared} {H : Hp} {E : XK} (r : Room k (A.deeper (envOfC "law" (defScope s_law) s.heap.objs.size f cdv))) :
    PSs (cxOf CX0 P K.w K.fr mg base N_law "law" (defScope s_law) f cdv A outer s H E).nox (defBody s_law) (tSs K (callN fs k) x_law.body) :=
 (ss_cons (d_for (w_rng1 T.b_range (a_evs (e_blt .max2 T.b_max (a_ops (o_ev e_int) (a_ops (o_ev (e_blt .min2 T.b_min (a_ops (o_ev e_int) (a_ops (o_ev (s_bin (o := .add) (o_ev (e_blt .len T.b_len (a_ops (o_var 0) s_ops0))) (o_ev e_int))) s_ops0)))) s_ops0))) s_evs0)) (g_nm 1 sc_law.nd) (ss_cons (d_asg 2 sc_law.nd (e_cal C.f__law_bag r (a_ops (o_var 0) (a_ops (o_var 1) s_ops0))))
 (ss_cons (d_asg 3 sc_law.nd (e_cal C.f__law_works r (a_ops (o_var 2) (a_ops (o_ev (s_bin (o := .add) (o_ev e_int) (o_ev (e_cal C.f__law_take r (a_ops (o_var 2) (a_ops (o_ev e_int) s_ops0)))))) (a_ops (o_ev (s_bin (o := .add) (o_ev e_int) (o_ev (e_cal C.f__law_take r (a_ops (o_var 2) (a_ops (o_ev e_int) s_ops0)))))) (a_ops (o_ev e_int) s_ops0))))))
 (ss_cons (d_asg 4 sc_law.nd (e_cal C.f__law_drawn_run r (a_ops (o_var 2) (a_ops (o_var 3) (a_ops (o_ev e_int) s_ops0)))))
 (ss_cons (d_for (w_rng1 T.b_range (a_evs e_int s_evs0)) (g_nm 5 sc_law.nd) (ss_cons (d_asg 8 sc_law.nd (e_lst (a_evs (e_var 3) (a_evs (e_cal C.f__law_spoiled r (a_ops (o_var 2) (a_ops (o_var 3) s_ops0))) (a_evs (e_cal C.f__law_spoiled r (a_ops (o_var 2) (a_ops (o_var 3) s_ops0))) (a_evs (e_cal C.f__law_any_value r (a_ops (o_var 2) (a_ops (o_ev e_int) s_ops0))) s_evs0))))))
 (ss_cons (d_asg 9 sc_law.nd (e_cal C.f__law_of r (a_ops (o_var 2) (a_ops (o_var 8) s_ops0))))
 (ss_cons (st_ife (s_notT (e_val (e_cal C.f__law_told_right r (a_ops (o_ev (e_cal C.f_is_works r (a_ops (o_var 9) s_ops0))) (a_ops (o_ev (e_cal C.f__law_is_works r (a_ops (o_var 9) s_ops0))) s_ops0))))) (ss_cons (d_ret e_bl)
 ss_nil) ss_nil)
 (ss_cons (d_asg 9 sc_law.nd (e_cal C.f__law_of r (a_ops (o_var 2) (a_ops (o_ev (e_lst (a_evs (e_var 4) (a_evs (s_bin (o := .mul) (o_var 4) (o_ev e_int)) (a_evs (e_cal C.f__law_spoiled r (a_ops (o_var 2) (a_ops (o_var 4) s_ops0))) (a_evs (e_cal C.f__law_any_value r (a_ops (o_var 2) (a_ops (o_ev e_int) s_ops0))) s_evs0)))))) s_ops0))))
 (ss_cons (st_ife (s_notT (e_val (e_cal C.f__law_told_right r (a_ops (o_ev (e_cal C.f_is_run r (a_ops (o_var 3) (a_ops (o_var 9) s_ops0)))) (a_ops (o_ev (e_cal C.f__law_is_run r (a_ops (o_var 3) (a_ops (o_var 9) s_ops0)))) s_ops0))))) (ss_cons (d_ret e_bl)
 ss_nil) ss_nil)
 ss_nil))))))
 (ss_cons (d_asg 6 sc_law.nd (e_tup (a_evs e_str (a_evs (e_idx r (o_ev (e_idx r (o_var 3) (o_ev e_int))) (o_ev e_int)) s_evs0))))
 (ss_cons (d_asg 7 sc_law.nd (e_lst (a_evs (e_cal C.f_is_run r (a_ops (o_var 3) (a_ops (o_ev (e_tup s_evs0)) s_ops0))) (a_evs (e_cal C.f_is_run r (a_ops (o_var 3) (a_ops (o_ev (s_bin (o := .mul) (o_ev (e_tup (a_evs (e_var 6) s_evs0))) (o_ev e_int))) s_ops0))) (a_evs (e_cal C.f_is_run r (a_ops (o_var 3) (a_ops (o_ev (s_bin (o := .mul) (o_ev (e_tup (a_evs (e_var 6) s_evs0))) (o_ev e_int))) s_ops0))) s_evs0)))))
 (ss_cons (st_ife (e_cmpT .ne r (o_var 7) (o_ev (e_lst (a_evs e_bl (a_evs e_bl (a_evs e_bl s_evs0)))))) (ss_cons (d_ret e_bl)
 ss_nil) ss_nil)
 ss_nil))))))))
 (ss_cons (d_parN (a_rs (e_tup (a_evs e_str (a_evs (e_tup (a_evs e_str s_evs0)) (a_evs e_str s_evs0)))) (a_rs (e_tup (a_evs e_str (a_evs (e_tup (a_evs e_str (a_evs e_str s_evs0))) (a_evs e_str s_evs0)))) s_rs0)) (g_tup (gs_cons 10 sc_law.nd (gs_cons 11 sc_law.nd gs_nil))))
 (ss_cons (d_asg 12 sc_law.nd (e_lst (a_evs (e_tup (a_evs (e_tup (a_evs e_str s_evs0)) (a_evs (e_tup (a_evs (e_var 10) (a_evs (e_var 11) s_evs0))) (a_evs (e_tup (a_evs (e_tup (a_evs e_str (a_evs (e_tup (a_evs e_str (a_evs e_str s_evs0))) s_evs0))) s_evs0)) s_evs0)))) (a_evs (e_tup (a_evs (e_tup (a_evs e_str (a_evs e_str (a_evs e_str s_evs0)))) (a_evs (e_tup (a_evs (e_var 10) s_evs0)) (a_evs (e_tup s_evs0) s_evs0)))) s_evs0))))
 (ss_cons (d_asg 13 sc_law.nd (e_lst (a_evs (e_tup (a_evs (e_tup (a_evs e_str s_evs0)) (a_evs (e_tup (a_evs (e_var 11) (a_evs (e_var 10) s_evs0))) (a_evs (e_tup s_evs0) s_evs0)))) (a_evs (e_tup (a_evs (e_tup (a_evs e_str (a_evs e_str s_evs0))) (a_evs (e_tup (a_evs (e_var 10) s_evs0)) (a_evs (e_tup s_evs0) s_evs0)))) (a_evs (e_tup (a_evs (e_tup (a_evs e_str s_evs0)) (a_evs (e_tup (a_evs (e_var 10) (a_evs (e_var 10) s_evs0))) (a_evs (e_tup s_evs0) s_evs0)))) (a_evs (e_tup (a_evs (e_tup (a_evs e_str s_evs0)) (a_evs (e_tup s_evs0) (a_evs (e_tup s_evs0) s_evs0)))) (a_evs (e_tup (a_evs (e_tup s_evs0) (a_evs (e_tup (a_evs (e_var 10) s_evs0)) (a_evs (e_tup s_evs0) s_evs0)))) s_evs0)))))))
 (ss_cons (d_asg 13 sc_law.nd (s_bin (o := .add) (o_var 13) (o_ev (e_lst (a_evs (e_tup (a_evs (e_tup (a_evs e_str s_evs0)) (a_evs (e_tup (a_evs (e_var 10) s_evs0)) (a_evs (e_tup (a_evs (e_tup (a_evs e_str (a_evs (e_tup s_evs0) s_evs0))) s_evs0)) s_evs0)))) (a_evs (e_tup (a_evs (e_tup (a_evs e_str s_evs0)) (a_evs (e_tup (a_evs (e_var 10) s_evs0)) (a_evs (e_tup (a_evs (e_tup (a_evs e_str (a_evs (e_tup (a_evs e_str (a_evs e_str s_evs0))) s_evs0))) s_evs0)) s_evs0)))) (a_evs (e_tup (a_evs (e_tup (a_evs e_str s_evs0)) (a_evs (e_tup (a_evs (e_var 10) s_evs0)) (a_evs (e_tup (a_evs (e_tup (a_evs e_str (a_evs (e_tup (a_evs e_str s_evs0)) s_evs0))) s_evs0)) s_evs0)))) s_evs0)))))))
 (ss_cons (d_asg 13 sc_law.nd (s_bin (o := .add) (o_var 13) (o_ev (e_lst (a_evs (e_tup (a_evs (e_tup (a_evs e_str (a_evs e_str s_evs0))) (a_evs (e_tup (a_evs (e_var 10) s_evs0)) (a_evs (e_tup s_evs0) s_evs0)))) (a_evs (e_tup (a_evs (e_tup (a_evs e_str s_evs0)) (a_evs (e_tup (a_evs (e_tup (a_evs e_str (a_evs (e_tup (a_evs e_str (a_evs e_str s_evs0))) (a_evs e_str s_evs0)))) s_evs0)) (a_evs (e_tup s_evs0) s_evs0)))) s_evs0))))))
 (ss_cons (d_app 13 (e_tup (a_evs (e_tup (a_evs e_str s_evs0)) (a_evs (e_tup (a_evs (e_tup (a_evs e_str (a_evs (e_tup s_evs0) (a_evs e_str s_evs0)))) s_evs0)) (a_evs (e_tup s_evs0) s_evs0)))))
 (ss_cons (d_ret (e_cmp .eq r (o_ev (e_lc [("value", 9)] sc_law.nd rfl (i_seq (s_bin (o := .add) (o_var 12) (o_var 13))) (fun _ _ _ _ _ => (g_nm 9 sc_law.nd)) (fun _ _ _ _ _ => s_ifs0) (fun _ _ _ _ _ => (e_cal C.f_is_works r (a_ops (o_var 9) s_ops0))))) (o_ev (s_bin (o := .add) (o_ev (s_bin (o := .mul) (o_ev (e_lst (a_evs e_bl s_evs0))) (o_ev e_int))) (o_ev (s_bin (o := .mul) (o_ev (e_lst (a_evs e_bl s_evs0))) (o_ev e_int)))))))
 ss_nil))))))))
theorem oks (T : Txt K mg) : ∀ k, Oks P K mg base k
  | 0 => ⟨call_zero T.d_is_name, call_zero T.d_is_row, call_zero T.d_ascends, call_zero T.d_are_names, call_zero T.d_is_thing, call_zero T.d_is_job, call_zero T.d_names_of, call_zero T.d_is_works, call_zero T.d_is_event, call_zero T.d_is_run_of, call_zero T.d_need_works, call_zero T.d_is_run, call_zero T.d__law_bag, call_zero T.d__law_take, call_zero T.d__law_of, call_zero T.d__law_names, call_zero T.d__law_some, call_zero T.d__law_works, call_zero T.d__law_events, call_zero T.d__law_drawn_run, call_zero T.d__law_any_value, call_zero T.d__law_spoiled, call_zero T.d__law_is_name, call_zero T.d__law_rising, call_zero T.d__law_are_things, call_zero T.d__law_are_jobs, call_zero T.d__law_is_works, call_zero T.d__law_is_run, call_zero T.d__law_told_right, call_zero T.d_law⟩
  | k + 1 => ⟨call_succ T.d_is_name sc_is_name (fn := x_is_name) (fun r => b_is_name T (oks T k) r),
    call_succ T.d_is_row sc_is_row (fn := x_is_row) (fun r => b_is_row T (oks T k) r),
    call_succ T.d_ascends sc_ascends (fn := x_ascends) (fun r => b_ascends T (oks T k) r),
    call_succ T.d_are_names sc_are_names (fn := x_are_names) (fun r => b_are_names T (oks T k) r),
    call_succ T.d_is_thing sc_is_thing (fn := x_is_thing) (fun r => b_is_thing T (oks T k) r),
    call_succ T.d_is_job sc_is_job (fn := x_is_job) (fun r => b_is_job T (oks T k) r),
    call_succ T.d_names_of sc_names_of (fn := x_names_of) (fun r => b_names_of T (oks T k) r),
    call_succ T.d_is_works sc_is_works (fn := x_is_works) (fun r => b_is_works T (oks T k) r),
    call_succ T.d_is_event sc_is_event (fn := x_is_event) (fun r => b_is_event T (oks T k) r),
    call_succ T.d_is_run_of sc_is_run_of (fn := x_is_run_of) (fun r => b_is_run_of T (oks T k) r),
    call_succ T.d_need_works sc_need_works (fn := x_need_works) (fun r => b_need_works T (oks T k) r),
    call_succ T.d_is_run sc_is_run (fn := x_is_run) (fun r => b_is_run T (oks T k) r),
    call_succ T.d__law_bag sc__law_bag (fn := x__law_bag) (fun r => b__law_bag T (oks T k) r),
    call_succ T.d__law_take sc__law_take (fn := x__law_take) (fun r => b__law_take T (oks T k) r),
    call_succ T.d__law_of sc__law_of (fn := x__law_of) (fun r => b__law_of T (oks T k) r),
    call_succ T.d__law_names sc__law_names (fn := x__law_names) (fun r => b__law_names T (oks T k) r),
    call_succ T.d__law_some sc__law_some (fn := x__law_some) (fun r => b__law_some T (oks T k) r),
    call_succ T.d__law_works sc__law_works (fn := x__law_works) (fun r => b__law_works T (oks T k) r),
    call_succ T.d__law_events sc__law_events (fn := x__law_events) (fun r => b__law_events T (oks T k) r),
    call_succ T.d__law_drawn_run sc__law_drawn_run (fn := x__law_drawn_run) (fun r => b__law_drawn_run T (oks T k) r),
    call_succ T.d__law_any_value sc__law_any_value (fn := x__law_any_value) (fun r => b__law_any_value T (oks T k) r),
    call_succ T.d__law_spoiled sc__law_spoiled (fn := x__law_spoiled) (fun r => b__law_spoiled T (oks T k) r),
    call_succ T.d__law_is_name sc__law_is_name (fn := x__law_is_name) (fun r => b__law_is_name T (oks T k) r),
    call_succ T.d__law_rising sc__law_rising (fn := x__law_rising) (fun r => b__law_rising T (oks T k) r),
    call_succ T.d__law_are_things sc__law_are_things (fn := x__law_are_things) (fun r => b__law_are_things T (oks T k) r),
    call_succ T.d__law_are_jobs sc__law_are_jobs (fn := x__law_are_jobs) (fun r => b__law_are_jobs T (oks T k) r),
    call_succ T.d__law_is_works sc__law_is_works (fn := x__law_is_works) (fun r => b__law_is_works T (oks T k) r),
    call_succ T.d__law_is_run sc__law_is_run (fn := x__law_is_run) (fun r => b__law_is_run T (oks T k) r),
    call_succ T.d__law_told_right sc__law_told_right (fn := x__law_told_right) (fun r => b__law_told_right T (oks T k) r),
    call_succ T.d_law sc_law (fn := x_law) (fun r => b_law T (oks T k) r)⟩
end
theorem all {w : World} {K : PySem.W.Frag} {h : Heap} {mg : Str → Option Value} {fa : Addr} (X : K.In h) (G : h.Ns mainGlobals mg) (hfa : mg "law" = some (.ref fa))
    {f0 : Addr} {oc0 kV0 doc0 pm0 cdv0 ct0 : Value} {od0 an0 : Option Addr} {sl0 : Array (Option Value)}
    {f1 : Addr} {oc1 kV1 doc1 pm1 cdv1 ct1 : Value} {od1 an1 : Option Addr} {sl1 : Array (Option Value)}
    {f2 : Addr} {oc2 kV2 doc2 pm2 cdv2 ct2 : Value} {od2 an2 : Option Addr} {sl2 : Array (Option Value)}
    {f3 : Addr} {oc3 kV3 doc3 pm3 cdv3 ct3 : Value} {od3 an3 : Option Addr} {sl3 : Array (Option Value)}
    {f4 : Addr} {oc4 kV4 doc4 pm4 cdv4 ct4 : Value} {od4 an4 : Option Addr} {sl4 : Array (Option Value)}
    {f5 : Addr} {oc5 kV5 doc5 pm5 cdv5 ct5 : Value} {od5 an5 : Option Addr} {sl5 : Array (Option Value)}
    {f6 : Addr} {oc6 kV6 doc6 pm6 cdv6 ct6 : Value} {od6 an6 : Option Addr} {sl6 : Array (Option Value)}
    {f7 : Addr} {oc7 kV7 doc7 pm7 cdv7 ct7 : Value} {od7 an7 : Option Addr} {sl7 : Array (Option Value)}
    {f8 : Addr} {oc8 kV8 doc8 pm8 cdv8 ct8 : Value} {od8 an8 : Option Addr} {sl8 : Array (Option Value)}
    {f9 : Addr} {oc9 kV9 doc9 pm9 cdv9 ct9 : Value} {od9 an9 : Option Addr} {sl9 : Array (Option Value)}
    {f10 : Addr} {oc10 kV10 doc10 pm10 cdv10 ct10 : Value} {od10 an10 : Option Addr} {sl10 : Array (Option Value)}
    {f11 : Addr} {oc11 kV11 doc11 pm11 cdv11 ct11 : Value} {od11 an11 : Option Addr} {sl11 : Array (Option Value)}
    {f12 : Addr} {oc12 kV12 doc12 pm12 cdv12 ct12 : Value} {od12 an12 : Option Addr} {sl12 : Array (Option Value)}
    {f13 : Addr} {oc13 kV13 doc13 pm13 cdv13 ct13 : Value} {od13 an13 : Option Addr} {sl13 : Array (Option Value)}
    {f14 : Addr} {oc14 kV14 doc14 pm14 cdv14 ct14 : Value} {od14 an14 : Option Addr} {sl14 : Array (Option Value)}
    {f15 : Addr} {oc15 kV15 doc15 pm15 cdv15 ct15 : Value} {od15 an15 : Option Addr} {sl15 : Array (Option Value)}
    {f16 : Addr} {oc16 kV16 doc16 pm16 cdv16 ct16 : Value} {od16 an16 : Option Addr} {sl16 : Array (Option Value)}
    {f17 : Addr} {oc17 kV17 doc17 pm17 cdv17 ct17 : Value} {od17 an17 : Option Addr} {sl17 : Array (Option Value)}
    {f18 : Addr} {oc18 kV18 doc18 pm18 cdv18 ct18 : Value} {od18 an18 : Option Addr} {sl18 : Array (Option Value)}
    {f19 : Addr} {oc19 kV19 doc19 pm19 cdv19 ct19 : Value} {od19 an19 : Option Addr} {sl19 : Array (Option Value)}
    {f20 : Addr} {oc20 kV20 doc20 pm20 cdv20 ct20 : Value} {od20 an20 : Option Addr} {sl20 : Array (Option Value)}
    {f21 : Addr} {oc21 kV21 doc21 pm21 cdv21 ct21 : Value} {od21 an21 : Option Addr} {sl21 : Array (Option Value)}
    {f22 : Addr} {oc22 kV22 doc22 pm22 cdv22 ct22 : Value} {od22 an22 : Option Addr} {sl22 : Array (Option Value)}
    {f23 : Addr} {oc23 kV23 doc23 pm23 cdv23 ct23 : Value} {od23 an23 : Option Addr} {sl23 : Array (Option Value)}
    {f24 : Addr} {oc24 kV24 doc24 pm24 cdv24 ct24 : Value} {od24 an24 : Option Addr} {sl24 : Array (Option Value)}
    {f25 : Addr} {oc25 kV25 doc25 pm25 cdv25 ct25 : Value} {od25 an25 : Option Addr} {sl25 : Array (Option Value)}
    {f26 : Addr} {oc26 kV26 doc26 pm26 cdv26 ct26 : Value} {od26 an26 : Option Addr} {sl26 : Array (Option Value)}
    {f27 : Addr} {oc27 kV27 doc27 pm27 cdv27 ct27 : Value} {od27 an27 : Option Addr} {sl27 : Array (Option Value)}
    {f28 : Addr} {oc28 kV28 doc28 pm28 cdv28 ct28 : Value} {od28 an28 : Option Addr} {sl28 : Array (Option Value)}
    {f29 : Addr} {oc29 kV29 doc29 pm29 cdv29 ct29 : Value} {od29 an29 : Option Addr} {sl29 : Array (Option Value)}
    {tASK : Tok}
    {tCHANGE : Tok}
    {tJOB : Tok}
    {tLETTERS : Tok}
    {pMODES : Addr} {nMODES : Nat} {slMODES : Array (Option Value)} {tMODES0 : Tok} {tMODES1 : Tok} {tMODES2 : Tok}
    {tMOST_EVENTS : Tok}
    (a0 : PySem.W.nsIn K mainGlobals "is_name" = some (some (.ref f0)))
    (l0 : K.lookup f0 = some ⟨oc0, od0, .func (PySem.W.fnOf "is_name" "is_name" (defArgs s_is_name) (defBody s_is_name) (defScope s_is_name) .none kV0 doc0 pm0 an0 cdv0 ct0), sl0⟩)
    (c0 : PySem.W.codeIn K cdv0 "is_name" = true)
    (k0 : PySem.W.keepIn K (.ref f0) = true)
    (a1 : PySem.W.nsIn K mainGlobals "is_row" = some (some (.ref f1)))
    (l1 : K.lookup f1 = some ⟨oc1, od1, .func (PySem.W.fnOf "is_row" "is_row" (defArgs s_is_row) (defBody s_is_row) (defScope s_is_row) .none kV1 doc1 pm1 an1 cdv1 ct1), sl1⟩)
    (c1 : PySem.W.codeIn K cdv1 "is_row" = true)
    (k1 : PySem.W.keepIn K (.ref f1) = true)
    (a2 : PySem.W.nsIn K mainGlobals "ascends" = some (some (.ref f2)))
    (l2 : K.lookup f2 = some ⟨oc2, od2, .func (PySem.W.fnOf "ascends" "ascends" (defArgs s_ascends) (defBody s_ascends) (defScope s_ascends) .none kV2 doc2 pm2 an2 cdv2 ct2), sl2⟩)
    (c2 : PySem.W.codeIn K cdv2 "ascends" = true)
    (k2 : PySem.W.keepIn K (.ref f2) = true)
    (a3 : PySem.W.nsIn K mainGlobals "are_names" = some (some (.ref f3)))
    (l3 : K.lookup f3 = some ⟨oc3, od3, .func (PySem.W.fnOf "are_names" "are_names" (defArgs s_are_names) (defBody s_are_names) (defScope s_are_names) .none kV3 doc3 pm3 an3 cdv3 ct3), sl3⟩)
    (c3 : PySem.W.codeIn K cdv3 "are_names" = true)
    (k3 : PySem.W.keepIn K (.ref f3) = true)
    (a4 : PySem.W.nsIn K mainGlobals "is_thing" = some (some (.ref f4)))
    (l4 : K.lookup f4 = some ⟨oc4, od4, .func (PySem.W.fnOf "is_thing" "is_thing" (defArgs s_is_thing) (defBody s_is_thing) (defScope s_is_thing) .none kV4 doc4 pm4 an4 cdv4 ct4), sl4⟩)
    (c4 : PySem.W.codeIn K cdv4 "is_thing" = true)
    (k4 : PySem.W.keepIn K (.ref f4) = true)
    (a5 : PySem.W.nsIn K mainGlobals "is_job" = some (some (.ref f5)))
    (l5 : K.lookup f5 = some ⟨oc5, od5, .func (PySem.W.fnOf "is_job" "is_job" (defArgs s_is_job) (defBody s_is_job) (defScope s_is_job) .none kV5 doc5 pm5 an5 cdv5 ct5), sl5⟩)
    (c5 : PySem.W.codeIn K cdv5 "is_job" = true)
    (k5 : PySem.W.keepIn K (.ref f5) = true)
    (a6 : PySem.W.nsIn K mainGlobals "names_of" = some (some (.ref f6)))
    (l6 : K.lookup f6 = some ⟨oc6, od6, .func (PySem.W.fnOf "names_of" "names_of" (defArgs s_names_of) (defBody s_names_of) (defScope s_names_of) .none kV6 doc6 pm6 an6 cdv6 ct6), sl6⟩)
    (c6 : PySem.W.codeIn K cdv6 "names_of" = true)
    (k6 : PySem.W.keepIn K (.ref f6) = true)
    (a7 : PySem.W.nsIn K mainGlobals "is_works" = some (some (.ref f7)))
    (l7 : K.lookup f7 = some ⟨oc7, od7, .func (PySem.W.fnOf "is_works" "is_works" (defArgs s_is_works) (defBody s_is_works) (defScope s_is_works) .none kV7 doc7 pm7 an7 cdv7 ct7), sl7⟩)
    (c7 : PySem.W.codeIn K cdv7 "is_works" = true)
    (k7 : PySem.W.keepIn K (.ref f7) = true)
    (a8 : PySem.W.nsIn K mainGlobals "is_event" = some (some (.ref f8)))
    (l8 : K.lookup f8 = some ⟨oc8, od8, .func (PySem.W.fnOf "is_event" "is_event" (defArgs s_is_event) (defBody s_is_event) (defScope s_is_event) .none kV8 doc8 pm8 an8 cdv8 ct8), sl8⟩)
    (c8 : PySem.W.codeIn K cdv8 "is_event" = true)
    (k8 : PySem.W.keepIn K (.ref f8) = true)
    (a9 : PySem.W.nsIn K mainGlobals "is_run_of" = some (some (.ref f9)))
    (l9 : K.lookup f9 = some ⟨oc9, od9, .func (PySem.W.fnOf "is_run_of" "is_run_of" (defArgs s_is_run_of) (defBody s_is_run_of) (defScope s_is_run_of) .none kV9 doc9 pm9 an9 cdv9 ct9), sl9⟩)
    (c9 : PySem.W.codeIn K cdv9 "is_run_of" = true)
    (k9 : PySem.W.keepIn K (.ref f9) = true)
    (a10 : PySem.W.nsIn K mainGlobals "need_works" = some (some (.ref f10)))
    (l10 : K.lookup f10 = some ⟨oc10, od10, .func (PySem.W.fnOf "need_works" "need_works" (defArgs s_need_works) (defBody s_need_works) (defScope s_need_works) .none kV10 doc10 pm10 an10 cdv10 ct10), sl10⟩)
    (c10 : PySem.W.codeIn K cdv10 "need_works" = true)
    (k10 : PySem.W.keepIn K (.ref f10) = true)
    (a11 : PySem.W.nsIn K mainGlobals "is_run" = some (some (.ref f11)))
    (l11 : K.lookup f11 = some ⟨oc11, od11, .func (PySem.W.fnOf "is_run" "is_run" (defArgs s_is_run) (defBody s_is_run) (defScope s_is_run) .none kV11 doc11 pm11 an11 cdv11 ct11), sl11⟩)
    (c11 : PySem.W.codeIn K cdv11 "is_run" = true)
    (k11 : PySem.W.keepIn K (.ref f11) = true)
    (a12 : PySem.W.nsIn K mainGlobals "_law_bag" = some (some (.ref f12)))
    (l12 : K.lookup f12 = some ⟨oc12, od12, .func (PySem.W.fnOf "_law_bag" "_law_bag" (defArgs s__law_bag) (defBody s__law_bag) (defScope s__law_bag) .none kV12 doc12 pm12 an12 cdv12 ct12), sl12⟩)
    (c12 : PySem.W.codeIn K cdv12 "_law_bag" = true)
    (k12 : PySem.W.keepIn K (.ref f12) = true)
    (a13 : PySem.W.nsIn K mainGlobals "_law_take" = some (some (.ref f13)))
    (l13 : K.lookup f13 = some ⟨oc13, od13, .func (PySem.W.fnOf "_law_take" "_law_take" (defArgs s__law_take) (defBody s__law_take) (defScope s__law_take) .none kV13 doc13 pm13 an13 cdv13 ct13), sl13⟩)
    (c13 : PySem.W.codeIn K cdv13 "_law_take" = true)
    (k13 : PySem.W.keepIn K (.ref f13) = true)
    (a14 : PySem.W.nsIn K mainGlobals "_law_of" = some (some (.ref f14)))
    (l14 : K.lookup f14 = some ⟨oc14, od14, .func (PySem.W.fnOf "_law_of" "_law_of" (defArgs s__law_of) (defBody s__law_of) (defScope s__law_of) .none kV14 doc14 pm14 an14 cdv14 ct14), sl14⟩)
    (c14 : PySem.W.codeIn K cdv14 "_law_of" = true)
    (k14 : PySem.W.keepIn K (.ref f14) = true)
    (a15 : PySem.W.nsIn K mainGlobals "_law_names" = some (some (.ref f15)))
    (l15 : K.lookup f15 = some ⟨oc15, od15, .func (PySem.W.fnOf "_law_names" "_law_names" (defArgs s__law_names) (defBody s__law_names) (defScope s__law_names) .none kV15 doc15 pm15 an15 cdv15 ct15), sl15⟩)
    (c15 : PySem.W.codeIn K cdv15 "_law_names" = true)
    (k15 : PySem.W.keepIn K (.ref f15) = true)
    (a16 : PySem.W.nsIn K mainGlobals "_law_some" = some (some (.ref f16)))
    (l16 : K.lookup f16 = some ⟨oc16, od16, .func (PySem.W.fnOf "_law_some" "_law_some" (defArgs s__law_some) (defBody s__law_some) (defScope s__law_some) .none kV16 doc16 pm16 an16 cdv16 ct16), sl16⟩)
    (c16 : PySem.W.codeIn K cdv16 "_law_some" = true)
    (k16 : PySem.W.keepIn K (.ref f16) = true)
    (a17 : PySem.W.nsIn K mainGlobals "_law_works" = some (some (.ref f17)))
    (l17 : K.lookup f17 = some ⟨oc17, od17, .func (PySem.W.fnOf "_law_works" "_law_works" (defArgs s__law_works) (defBody s__law_works) (defScope s__law_works) .none kV17 doc17 pm17 an17 cdv17 ct17), sl17⟩)
    (c17 : PySem.W.codeIn K cdv17 "_law_works" = true)
    (k17 : PySem.W.keepIn K (.ref f17) = true)
    (a18 : PySem.W.nsIn K mainGlobals "_law_events" = some (some (.ref f18)))
    (l18 : K.lookup f18 = some ⟨oc18, od18, .func (PySem.W.fnOf "_law_events" "_law_events" (defArgs s__law_events) (defBody s__law_events) (defScope s__law_events) .none kV18 doc18 pm18 an18 cdv18 ct18), sl18⟩)
    (c18 : PySem.W.codeIn K cdv18 "_law_events" = true)
    (k18 : PySem.W.keepIn K (.ref f18) = true)
    (a19 : PySem.W.nsIn K mainGlobals "_law_drawn_run" = some (some (.ref f19)))
    (l19 : K.lookup f19 = some ⟨oc19, od19, .func (PySem.W.fnOf "_law_drawn_run" "_law_drawn_run" (defArgs s__law_drawn_run) (defBody s__law_drawn_run) (defScope s__law_drawn_run) .none kV19 doc19 pm19 an19 cdv19 ct19), sl19⟩)
    (c19 : PySem.W.codeIn K cdv19 "_law_drawn_run" = true)
    (k19 : PySem.W.keepIn K (.ref f19) = true)
    (a20 : PySem.W.nsIn K mainGlobals "_law_any_value" = some (some (.ref f20)))
    (l20 : K.lookup f20 = some ⟨oc20, od20, .func (PySem.W.fnOf "_law_any_value" "_law_any_value" (defArgs s__law_any_value) (defBody s__law_any_value) (defScope s__law_any_value) .none kV20 doc20 pm20 an20 cdv20 ct20), sl20⟩)
    (c20 : PySem.W.codeIn K cdv20 "_law_any_value" = true)
    (k20 : PySem.W.keepIn K (.ref f20) = true)
    (a21 : PySem.W.nsIn K mainGlobals "_law_spoiled" = some (some (.ref f21)))
    (l21 : K.lookup f21 = some ⟨oc21, od21, .func (PySem.W.fnOf "_law_spoiled" "_law_spoiled" (defArgs s__law_spoiled) (defBody s__law_spoiled) (defScope s__law_spoiled) .none kV21 doc21 pm21 an21 cdv21 ct21), sl21⟩)
    (c21 : PySem.W.codeIn K cdv21 "_law_spoiled" = true)
    (k21 : PySem.W.keepIn K (.ref f21) = true)
    (a22 : PySem.W.nsIn K mainGlobals "_law_is_name" = some (some (.ref f22)))
    (l22 : K.lookup f22 = some ⟨oc22, od22, .func (PySem.W.fnOf "_law_is_name" "_law_is_name" (defArgs s__law_is_name) (defBody s__law_is_name) (defScope s__law_is_name) .none kV22 doc22 pm22 an22 cdv22 ct22), sl22⟩)
    (c22 : PySem.W.codeIn K cdv22 "_law_is_name" = true)
    (k22 : PySem.W.keepIn K (.ref f22) = true)
    (a23 : PySem.W.nsIn K mainGlobals "_law_rising" = some (some (.ref f23)))
    (l23 : K.lookup f23 = some ⟨oc23, od23, .func (PySem.W.fnOf "_law_rising" "_law_rising" (defArgs s__law_rising) (defBody s__law_rising) (defScope s__law_rising) .none kV23 doc23 pm23 an23 cdv23 ct23), sl23⟩)
    (c23 : PySem.W.codeIn K cdv23 "_law_rising" = true)
    (k23 : PySem.W.keepIn K (.ref f23) = true)
    (a24 : PySem.W.nsIn K mainGlobals "_law_are_things" = some (some (.ref f24)))
    (l24 : K.lookup f24 = some ⟨oc24, od24, .func (PySem.W.fnOf "_law_are_things" "_law_are_things" (defArgs s__law_are_things) (defBody s__law_are_things) (defScope s__law_are_things) .none kV24 doc24 pm24 an24 cdv24 ct24), sl24⟩)
    (c24 : PySem.W.codeIn K cdv24 "_law_are_things" = true)
    (k24 : PySem.W.keepIn K (.ref f24) = true)
    (a25 : PySem.W.nsIn K mainGlobals "_law_are_jobs" = some (some (.ref f25)))
    (l25 : K.lookup f25 = some ⟨oc25, od25, .func (PySem.W.fnOf "_law_are_jobs" "_law_are_jobs" (defArgs s__law_are_jobs) (defBody s__law_are_jobs) (defScope s__law_are_jobs) .none kV25 doc25 pm25 an25 cdv25 ct25), sl25⟩)
    (c25 : PySem.W.codeIn K cdv25 "_law_are_jobs" = true)
    (k25 : PySem.W.keepIn K (.ref f25) = true)
    (a26 : PySem.W.nsIn K mainGlobals "_law_is_works" = some (some (.ref f26)))
    (l26 : K.lookup f26 = some ⟨oc26, od26, .func (PySem.W.fnOf "_law_is_works" "_law_is_works" (defArgs s__law_is_works) (defBody s__law_is_works) (defScope s__law_is_works) .none kV26 doc26 pm26 an26 cdv26 ct26), sl26⟩)
    (c26 : PySem.W.codeIn K cdv26 "_law_is_works" = true)
    (k26 : PySem.W.keepIn K (.ref f26) = true)
    (a27 : PySem.W.nsIn K mainGlobals "_law_is_run" = some (some (.ref f27)))
    (l27 : K.lookup f27 = some ⟨oc27, od27, .func (PySem.W.fnOf "_law_is_run" "_law_is_run" (defArgs s__law_is_run) (defBody s__law_is_run) (defScope s__law_is_run) .none kV27 doc27 pm27 an27 cdv27 ct27), sl27⟩)
    (c27 : PySem.W.codeIn K cdv27 "_law_is_run" = true)
    (k27 : PySem.W.keepIn K (.ref f27) = true)
    (a28 : PySem.W.nsIn K mainGlobals "_law_told_right" = some (some (.ref f28)))
    (l28 : K.lookup f28 = some ⟨oc28, od28, .func (PySem.W.fnOf "_law_told_right" "_law_told_right" (defArgs s__law_told_right) (defBody s__law_told_right) (defScope s__law_told_right) .none kV28 doc28 pm28 an28 cdv28 ct28), sl28⟩)
    (c28 : PySem.W.codeIn K cdv28 "_law_told_right" = true)
    (k28 : PySem.W.keepIn K (.ref f28) = true)
    (a29 : PySem.W.nsIn K mainGlobals "law" = some (some (.ref f29)))
    (l29 : K.lookup f29 = some ⟨oc29, od29, .func (PySem.W.fnOf "law" "law" (defArgs s_law) (defBody s_law) (defScope s_law) .none kV29 doc29 pm29 an29 cdv29 ct29), sl29⟩)
    (c29 : PySem.W.codeIn K cdv29 "law" = true)
    (k29 : PySem.W.keepIn K (.ref f29) = true)
    (zall : PySem.W.nsIn K mainGlobals "all" = some none)
    (zbool : PySem.W.nsIn K mainGlobals "bool" = some none)
    (zint : PySem.W.nsIn K mainGlobals "int" = some none)
    (zisinstance : PySem.W.nsIn K mainGlobals "isinstance" = some none)
    (zlen : PySem.W.nsIn K mainGlobals "len" = some none)
    (zlist : PySem.W.nsIn K mainGlobals "list" = some none)
    (zmax : PySem.W.nsIn K mainGlobals "max" = some none)
    (zmin : PySem.W.nsIn K mainGlobals "min" = some none)
    (zrange : PySem.W.nsIn K mainGlobals "range" = some none)
    (zset : PySem.W.nsIn K mainGlobals "set" = some none)
    (zsorted : PySem.W.nsIn K mainGlobals "sorted" = some none)
    (zstr : PySem.W.nsIn K mainGlobals "str" = some none)
    (ztuple : PySem.W.nsIn K mainGlobals "tuple" = some none)
    (zzip : PySem.W.nsIn K mainGlobals "zip" = some none)
    (qASK : PySem.W.nsIn K mainGlobals "ASK" = some (some (.str "ask" tASK)))
    (qCHANGE : PySem.W.nsIn K mainGlobals "CHANGE" = some (some (.str "change" tCHANGE)))
    (qJOB : PySem.W.nsIn K mainGlobals "JOB" = some (some (.str "job" tJOB)))
    (qLETTERS : PySem.W.nsIn K mainGlobals "LETTERS" = some (some (.str "abcdefghijklmnopqrstuvwxyz" tLETTERS)))
    (qMODES : PySem.W.nsIn K mainGlobals "MODES" = some (some (.ref pMODES)))
    (rMODES : K.lookup pMODES = some ⟨.type "tuple", none, .seq #[.str "kept" tMODES0, .str "pushed" tMODES1, .str "asked" tMODES2] nMODES, slMODES⟩)
    (qMOST_EVENTS : PySem.W.nsIn K mainGlobals "MOST_EVENTS" = some (some (.int 60 tMOST_EVENTS)))
    : ∃ fd : FuncData, (∀ (s : Shared) (u : Value), BindsTo s fd ⟨[u], []⟩ [("script", u)]) ∧ ∀ base : Heap, FnOk PySem.Challenge.rw_oneday_k01_works_and_runs_recognized.prog w K mg base CX0 20 fa fd ["script"] (spLaw ⟨K, w⟩) := by
  have T : Txt ⟨K, w⟩ mg := {
    d_is_name := def_at (K := ⟨K, w⟩) X G a0 l0 c0 k0 (fun _ _ _ _ _ _ us hl => (match us, hl with | [_], _ => rfl)),
    d_is_row := def_at (K := ⟨K, w⟩) X G a1 l1 c1 k1 (fun _ _ _ _ _ _ us hl => (match us, hl with | [_, _, _], _ => rfl)),
    d_ascends := def_at (K := ⟨K, w⟩) X G a2 l2 c2 k2 (fun _ _ _ _ _ _ us hl => (match us, hl with | [_], _ => rfl)),
    d_are_names := def_at (K := ⟨K, w⟩) X G a3 l3 c3 k3 (fun _ _ _ _ _ _ us hl => (match us, hl with | [_, _, _], _ => rfl)),
    d_is_thing := def_at (K := ⟨K, w⟩) X G a4 l4 c4 k4 (fun _ _ _ _ _ _ us hl => (match us, hl with | [_], _ => rfl)),
    d_is_job := def_at (K := ⟨K, w⟩) X G a5 l5 c5 k5 (fun _ _ _ _ _ _ us hl => (match us, hl with | [_, _], _ => rfl)),
    d_names_of := def_at (K := ⟨K, w⟩) X G a6 l6 c6 k6 (fun _ _ _ _ _ _ us hl => (match us, hl with | [_], _ => rfl)),
    d_is_works := def_at (K := ⟨K, w⟩) X G a7 l7 c7 k7 (fun _ _ _ _ _ _ us hl => (match us, hl with | [_], _ => rfl)),
    d_is_event := def_at (K := ⟨K, w⟩) X G a8 l8 c8 k8 (fun _ _ _ _ _ _ us hl => (match us, hl with | [_, _], _ => rfl)),
    d_is_run_of := def_at (K := ⟨K, w⟩) X G a9 l9 c9 k9 (fun _ _ _ _ _ _ us hl => (match us, hl with | [_, _], _ => rfl)),
    d_need_works := def_at (K := ⟨K, w⟩) X G a10 l10 c10 k10 (fun _ _ _ _ _ _ us hl => (match us, hl with | [_], _ => rfl)),
    d_is_run := def_at (K := ⟨K, w⟩) X G a11 l11 c11 k11 (fun _ _ _ _ _ _ us hl => (match us, hl with | [_, _], _ => rfl)),
    d__law_bag := def_at (K := ⟨K, w⟩) X G a12 l12 c12 k12 (fun _ _ _ _ _ _ us hl => (match us, hl with | [_, _], _ => rfl)),
    d__law_take := def_at (K := ⟨K, w⟩) X G a13 l13 c13 k13 (fun _ _ _ _ _ _ us hl => (match us, hl with | [_, _], _ => rfl)),
    d__law_of := def_at (K := ⟨K, w⟩) X G a14 l14 c14 k14 (fun _ _ _ _ _ _ us hl => (match us, hl with | [_, _], _ => rfl)),
    d__law_names := def_at (K := ⟨K, w⟩) X G a15 l15 c15 k15 (fun _ _ _ _ _ _ us hl => (match us, hl with | [_], _ => rfl)),
    d__law_some := def_at (K := ⟨K, w⟩) X G a16 l16 c16 k16 (fun _ _ _ _ _ _ us hl => (match us, hl with | [_, _, _], _ => rfl)),
    d__law_works := def_at (K := ⟨K, w⟩) X G a17 l17 c17 k17 (fun _ _ _ _ _ _ us hl => (match us, hl with | [_, _, _, _], _ => rfl)),
    d__law_events := def_at (K := ⟨K, w⟩) X G a18 l18 c18 k18 (fun _ _ _ _ _ _ us hl => (match us, hl with | [_, _], _ => rfl)),
    d__law_drawn_run := def_at (K := ⟨K, w⟩) X G a19 l19 c19 k19 (fun _ _ _ _ _ _ us hl => (match us, hl with | [_, _, _], _ => rfl)),
    d__law_any_value := def_at (K := ⟨K, w⟩) X G a20 l20 c20 k20 (fun _ _ _ _ _ _ us hl => (match us, hl with | [_, _], _ => rfl)),
    d__law_spoiled := def_at (K := ⟨K, w⟩) X G a21 l21 c21 k21 (fun _ _ _ _ _ _ us hl => (match us, hl with | [_, _], _ => rfl)),
    d__law_is_name := def_at (K := ⟨K, w⟩) X G a22 l22 c22 k22 (fun _ _ _ _ _ _ us hl => (match us, hl with | [_], _ => rfl)),
    d__law_rising := def_at (K := ⟨K, w⟩) X G a23 l23 c23 k23 (fun _ _ _ _ _ _ us hl => (match us, hl with | [_, _, _], _ => rfl)),
    d__law_are_things := def_at (K := ⟨K, w⟩) X G a24 l24 c24 k24 (fun _ _ _ _ _ _ us hl => (match us, hl with | [_, _], _ => rfl)),
    d__law_are_jobs := def_at (K := ⟨K, w⟩) X G a25 l25 c25 k25 (fun _ _ _ _ _ _ us hl => (match us, hl with | [_, _], _ => rfl)),
    d__law_is_works := def_at (K := ⟨K, w⟩) X G a26 l26 c26 k26 (fun _ _ _ _ _ _ us hl => (match us, hl with | [_], _ => rfl)),
    d__law_is_run := def_at (K := ⟨K, w⟩) X G a27 l27 c27 k27 (fun _ _ _ _ _ _ us hl => (match us, hl with | [_, _], _ => rfl)),
    d__law_told_right := def_at (K := ⟨K, w⟩) X G a28 l28 c28 k28 (fun _ _ _ _ _ _ us hl => (match us, hl with | [_, _], _ => rfl)),
    d_law := def_at (K := ⟨K, w⟩) X G a29 l29 c29 k29 (fun _ _ _ _ _ _ us hl => (match us, hl with | [_], _ => rfl)),
    b_all := PySem.W.mg_none_of X G zall,
    b_bool := PySem.W.mg_none_of X G zbool,
    b_int := PySem.W.mg_none_of X G zint,
    b_isinstance := PySem.W.mg_none_of X G zisinstance,
    b_len := PySem.W.mg_none_of X G zlen,
    b_list := PySem.W.mg_none_of X G zlist,
    b_max := PySem.W.mg_none_of X G zmax,
    b_min := PySem.W.mg_none_of X G zmin,
    b_range := PySem.W.mg_none_of X G zrange,
    b_set := PySem.W.mg_none_of X G zset,
    b_sorted := PySem.W.mg_none_of X G zsorted,
    b_str := PySem.W.mg_none_of X G zstr,
    b_tuple := PySem.W.mg_none_of X G ztuple,
    b_zip := PySem.W.mg_none_of X G zzip,
    c_ASK := cst_str (K := ⟨K, w⟩) X G qASK,
    c_CHANGE := cst_str (K := ⟨K, w⟩) X G qCHANGE,
    c_JOB := cst_str (K := ⟨K, w⟩) X G qJOB,
    c_LETTERS := cst_str (K := ⟨K, w⟩) X G qLETTERS,
    c_MODES := cst_tup (K := ⟨K, w⟩) X G qMODES rMODES (by show 3 ≤ 1000; decide) (cstL_str (cstL_str (cstL_str cstL_nil))),
    c_MOST_EVENTS := cst_int (K := ⟨K, w⟩) X G qMOST_EVENTS }
  exact law_fn (K := ⟨K, w⟩) (k := 19) hfa T.d_law sc_law (fn := x_law) (fun _ _ _ _ _ _ _ _ => .of_eq rfl) (fun r => b_law T (oks T _) r) (i := 29) rfl rfl rfl (by decide) plain
end CL
open PySem PySem.W PyProof.Rows in
set_option maxRecDepth 100000 in
set_option maxHeartbeats 0 in
theorem PySem.Challenge.cw_oneday_k01_works_and_runs_recognized_holds : PySem.Challenge.rw_oneday_k01_works_and_runs_recognized.Holds := by
  w_on; o_law; k_head; (case hw => w_witness2)
  k_fill
  refine PV.walk (l := PySem.Challenge.rw_oneday_k01_works_and_runs_recognized) (k := 20) ⟨rfl, by decide, by decide⟩ rfl rfl (fun w h Y => PySem.W.kIn_of Y) ?F
  case F =>
    intro w mg fa h KX G hmg
    refine' CL.all KX G hmg ?a0 ?l0 ?c0 ?k0 ?a1 ?l1 ?c1 ?k1 ?a2 ?l2 ?c2 ?k2 ?a3 ?l3 ?c3 ?k3 ?a4 ?l4 ?c4 ?k4 ?a5 ?l5 ?c5 ?k5 ?a6 ?l6 ?c6 ?k6 ?a7 ?l7 ?c7 ?k7 ?a8 ?l8 ?c8 ?k8 ?a9 ?l9 ?c9 ?k9 ?a10 ?l10 ?c10 ?k10 ?a11 ?l11 ?c11 ?k11 ?a12 ?l12 ?c12 ?k12 ?a13 ?l13 ?c13 ?k13 ?a14 ?l14 ?c14 ?k14 ?a15 ?l15 ?c15 ?k15 ?a16 ?l16 ?c16 ?k16 ?a17 ?l17 ?c17 ?k17 ?a18 ?l18 ?c18 ?k18 ?a19 ?l19 ?c19 ?k19 ?a20 ?l20 ?c20 ?k20 ?a21 ?l21 ?c21 ?k21 ?a22 ?l22 ?c22 ?k22 ?a23 ?l23 ?c23 ?k23 ?a24 ?l24 ?c24 ?k24 ?a25 ?l25 ?c25 ?k25 ?a26 ?l26 ?c26 ?k26 ?a27 ?l27 ?c27 ?k27 ?a28 ?l28 ?c28 ?k28 ?a29 ?l29 ?c29 ?k29 ?zall ?zbool ?zint ?zisinstance ?zlen ?zlist ?zmax ?zmin ?zrange ?zset ?zsorted ?zstr ?ztuple ?zzip ?qASK ?qCHANGE ?qJOB ?qLETTERS ?qMODES ?rMODES ?qMOST_EVENTS
    (case a0 => k_is)
    (case l0 => k_is)
    (case c0 => k_is)
    (case k0 => k_is)
    (case a1 => k_is)
    (case l1 => k_is)
    (case c1 => k_is)
    (case k1 => k_is)
    (case a2 => k_is)
    (case l2 => k_is)
    (case c2 => k_is)
    (case k2 => k_is)
    (case a3 => k_is)
    (case l3 => k_is)
    (case c3 => k_is)
    (case k3 => k_is)
    (case a4 => k_is)
    (case l4 => k_is)
    (case c4 => k_is)
    (case k4 => k_is)
    (case a5 => k_is)
    (case l5 => k_is)
    (case c5 => k_is)
    (case k5 => k_is)
    (case a6 => k_is)
    (case l6 => k_is)
    (case c6 => k_is)
    (case k6 => k_is)
    (case a7 => k_is)
    (case l7 => k_is)
    (case c7 => k_is)
    (case k7 => k_is)
    (case a8 => k_is)
    (case l8 => k_is)
    (case c8 => k_is)
    (case k8 => k_is)
    (case a9 => k_is)
    (case l9 => k_is)
    (case c9 => k_is)
    (case k9 => k_is)
    (case a10 => k_is)
    (case l10 => k_is)
    (case c10 => k_is)
    (case k10 => k_is)
    (case a11 => k_is)
    (case l11 => k_is)
    (case c11 => k_is)
    (case k11 => k_is)
    (case a12 => k_is)
    (case l12 => k_is)
    (case c12 => k_is)
    (case k12 => k_is)
    (case a13 => k_is)
    (case l13 => k_is)
    (case c13 => k_is)
    (case k13 => k_is)
    (case a14 => k_is)
    (case l14 => k_is)
    (case c14 => k_is)
    (case k14 => k_is)
    (case a15 => k_is)
    (case l15 => k_is)
    (case c15 => k_is)
    (case k15 => k_is)
    (case a16 => k_is)
    (case l16 => k_is)
    (case c16 => k_is)
    (case k16 => k_is)
    (case a17 => k_is)
    (case l17 => k_is)
    (case c17 => k_is)
    (case k17 => k_is)
    (case a18 => k_is)
    (case l18 => k_is)
    (case c18 => k_is)
    (case k18 => k_is)
    (case a19 => k_is)
    (case l19 => k_is)
    (case c19 => k_is)
    (case k19 => k_is)
    (case a20 => k_is)
    (case l20 => k_is)
    (case c20 => k_is)
    (case k20 => k_is)
    (case a21 => k_is)
    (case l21 => k_is)
    (case c21 => k_is)
    (case k21 => k_is)
    (case a22 => k_is)
    (case l22 => k_is)
    (case c22 => k_is)
    (case k22 => k_is)
    (case a23 => k_is)
    (case l23 => k_is)
    (case c23 => k_is)
    (case k23 => k_is)
    (case a24 => k_is)
    (case l24 => k_is)
    (case c24 => k_is)
    (case k24 => k_is)
    (case a25 => k_is)
    (case l25 => k_is)
    (case c25 => k_is)
    (case k25 => k_is)
    (case a26 => k_is)
    (case l26 => k_is)
    (case c26 => k_is)
    (case k26 => k_is)
    (case a27 => k_is)
    (case l27 => k_is)
    (case c27 => k_is)
    (case k27 => k_is)
    (case a28 => k_is)
    (case l28 => k_is)
    (case c28 => k_is)
    (case k28 => k_is)
    (case a29 => k_is)
    (case l29 => k_is)
    (case c29 => k_is)
    (case k29 => k_is)
    (case zall => k_is)
    (case zbool => k_is)
    (case zint => k_is)
    (case zisinstance => k_is)
    (case zlen => k_is)
    (case zlist => k_is)
    (case zmax => k_is)
    (case zmin => k_is)
    (case zrange => k_is)
    (case zset => k_is)
    (case zsorted => k_is)
    (case zstr => k_is)
    (case ztuple => k_is)
    (case zzip => k_is)
    (case qASK => k_is)
    (case qCHANGE => k_is)
    (case qJOB => k_is)
    (case qLETTERS => k_is)
    (case qMODES => k_is)
    (case rMODES => k_is)
    (case qMOST_EVENTS => k_is)
