import PyProof.Rows.All
import PySem.Challenge.RW_diceboxes_k02_written
import Wide.All
import OpenK.AllK
import Wide.FinOn
import HandS.ForMost
import HandS.Wide
import HandS.TupAny
import KE.KeyNested
import KE.KDictKeyed
import KE.KDictWalk
import KE.DataEq
import KE.DataFind
import KE.DataIsa
import KE.DataAny
import KE.DataMinMax
import KE.SortData
import KE.OsSortAny
import HandS.TupLe
import HandS.TupMul
import HandS.Style
import KE.KDictCopyH
import KE.LtSeq
import KE.KDictDisplayH
import KE.GoesEnum
import KE.KDictItemsList
import HandS.Keys
import HandS.Text
import HandS.RaiseMore
import HandS.Conv
set_option Elab.async false
set_option linter.all false
set_option maxRecDepth 100000
/-! V1: values, slots, environments; what an operation does to values. Plain Lean: no heap, no program. -/
namespace VL
open PySem
abbrev D := PyData

mutual
/-- a slot: unbound; a value that never changes; a list or a dict that this slot alone holds; an object with its fields -/
inductive O
  | un | val (d : D) | lst (l : List D) | dic (l : List (D × D)) | ins (c : Nat) (fs : Fs) | bor (j : Nat) (o : O)
inductive Fs
  | nil | cons (f : Str) (o : O) (r : Fs)
end
abbrev Ev := List O → Option (D × List O)
/-- what an operand is, told by the slots as they stand when the operation is done -/
abbrev Pk := List O → Option ((List O → Option D) × List O)

def LIM : Nat := 1000000

/-! ### operations on values -/
def sNeg : D → Option D
  | .int a => some (.int (-a))
  | _ => none
def sAdd : D → D → Option D
  | .int a, .int b => some (.int (a + b))
  | .tuple a, .tuple b => if a.length + b.length ≤ LIM then some (.tuple (a ++ b)) else none
  | _, _ => none
/-- of two lists: a new one -/
def sCat : D → D → Option D
  | .list a, .list b => if a.length + b.length ≤ LIM then some (.list (a ++ b)) else none
  | _, _ => none
def sSub : D → D → Option D
  | .int a, .int b => some (.int (a - b))
  | _, _ => none
def mulOk (a b : Int) : Bool := decide (b.natAbs < 2 ^ 64) || decide (a.natAbs < 2 ^ 64) || decide (a.natAbs.log2 + b.natAbs.log2 < 1000000)
def sMul : D → D → Option D
  | .int a, .int b => if mulOk a b = true then some (.int (a * b)) else none
  | _, _ => none
def sDiv : D → D → Option D
  | .int a, .int b => if decide (0 < b) && decide (b.natAbs.log2 < 9000) then some (.int (a / b)) else none
  | _, _ => none
def sMod : D → D → Option D
  | .int a, .int b => if 0 < b then some (.int (a % b)) else none
  | _, _ => none
def lvl : Nat := 60
def sEq : D → D → Option D := fun a b => if a.plain && b.plain && decide (a.depth ≤ lvl) then some (.bool (PyData.eqv a b)) else none
def sNe : D → D → Option D := fun a b => if a.plain && b.plain && decide (a.depth ≤ lvl) then some (.bool (!PyData.eqv a b)) else none
def sLt : D → D → Option D
  | .int a, .int b => some (.bool (decide (a < b)))
  | _, _ => none
def sLe : D → D → Option D
  | .int a, .int b => some (.bool (decide (a ≤ b)))
  | _, _ => none
def sGt : D → D → Option D
  | .int a, .int b => some (.bool (decide (b < a)))
  | _, _ => none
def sGe : D → D → Option D
  | .int a, .int b => some (.bool (decide (b ≤ a)))
  | _, _ => none
/-- the items of a list or a tuple -/
def seqOf : D → Option (List D)
  | .list l => some l
  | .tuple l => some l
  | _ => none
def sIn (x c : D) : Option D := match c with
  | .list l => if x.plain && PyData.plainAll l && decide (x.depth ≤ lvl) then some (.bool (l.any fun z => PyData.eqv z x)) else none
  | .tuple l => if x.plain && PyData.plainAll l && decide (x.depth ≤ lvl) then some (.bool (l.any fun z => PyData.eqv z x)) else none
  | _ => none
def sNin (x c : D) : Option D := match c with
  | .list l => if x.plain && PyData.plainAll l && decide (x.depth ≤ lvl) then some (.bool (!l.any fun z => PyData.eqv z x)) else none
  | .tuple l => if x.plain && PyData.plainAll l && decide (x.depth ≤ lvl) then some (.bool (!l.any fun z => PyData.eqv z x)) else none
  | _ => none
def sNoneB : D → Bool
  | .none => true
  | _ => false
/-- is, of None or a truth on the right -/
def sIs : D → D → Option D
  | d, .none => some (.bool (sNoneB d))
  | .bool a, .bool b => some (.bool (decide (a = b)))
  | _, _ => none
def sIsn : D → D → Option D
  | d, .none => some (.bool (!sNoneB d))
  | .bool a, .bool b => some (.bool (!decide (a = b)))
  | _, _ => none
def sNot : D → Option D
  | .bool b => some (.bool (!b))
  | _ => none
def sLen : D → Option D
  | .list l => some (.int l.length)
  | .tuple l => some (.int l.length)
  | _ => none
/-- an item by its place, from behind where the place is below nought -/
def ixOf (l : List D) (i : Int) : Option D := L2.atI l i
def sIx : D → D → Option D
  | .list l, .int i => ixOf l i
  | .tuple l, .int i => ixOf l i
  | _, _ => none
def intsOf : List D → Option (List Int)
  | [] => some []
  | .int i :: r => (intsOf r).map (i :: ·)
  | _ :: _ => none
def boolsOf : List D → Option (List Bool)
  | [] => some []
  | .bool i :: r => (boolsOf r).map (i :: ·)
  | _ :: _ => none
def sSum (c : D) : Option D := do
  let l ← seqOf c
  let ns ← intsOf l
  some (.int ns.sum)
def sAny (c : D) : Option D := match c with
  | .list l => (boolsOf l).map fun bs => .bool (bs.any id)
  | _ => none
def sAll (c : D) : Option D := match c with
  | .list l => (boolsOf l).map fun bs => .bool (bs.all id)
  | _ => none
def sMax (c : D) : Option D := match c with
  | .list l => match intsOf l with
    | some (n :: ns) => some (.int (ns.foldl max n))
    | _ => none
  | _ => none
def sMin2 : D → D → Option D
  | .int a, .int b => some (.int (if b < a then b else a))
  | _, _ => none
def sMax2 : D → D → Option D
  | .int a, .int b => some (.int (if a < b then b else a))
  | _, _ => none
def sAbs : D → Option D
  | .int a => some (.int (if a < 0 then -a else a))
  | _ => none
def sInt : D → Option D
  | .int a => some (.int a)
  | .bool b => some (.int (if b then 1 else 0))
  | _ => none
/-- t.count(x) of a tuple, l.count(x) of a list -/
def sCount (c x : D) : Option D := match c with
  | .tuple l => if x.plain && PyData.plainAll l && decide (x.depth ≤ lvl) then some (.int (l.countP fun y => PyData.eqv y x)) else none
  | .list l => if x.plain && PyData.plainAll l && decide (x.depth ≤ lvl) then some (.int (l.countP fun y => PyData.eqv y x)) else none
  | _ => none
/-- tuple(x) -/
def sTuple : D → Option D
  | .list l => some (.tuple l)
  | .tuple l => some (.tuple l)
  | _ => none
/-- list(x): a new list -/
def sList : D → Option D
  | .list l => some (.list l)
  | .tuple l => some (.list l)
  | .dict l => some (.list (l.map (·.1)))
  | _ => none
def sIsInt : D → Option D := fun d => some (.bool d.isInt)
def sIsBool : D → Option D := fun d => some (.bool d.isBool)
def sIsStr : D → Option D := fun d => some (.bool d.isStr)
def sIsTuple : D → Option D := fun d => some (.bool d.isTuple)
/-- a slice: its ends as they are told -/
def partOf : D → Option (Option Int)
  | .none => some none
  | .int i => some (some i)
  | _ => none
def cutL {α : Type} (l : List α) (lo hi : Option Int) : List α := (l.drop (HT.sIx l.length 0 lo)).take (HT.sIx l.length l.length hi - HT.sIx l.length 0 lo)
def sCutT (c a b : D) : Option D := match c with
  | .tuple l => match partOf a, partOf b with
    | some lo, some hi => some (.tuple (cutL l lo hi))
    | _, _ => none
  | _ => none
def sCutL (c a b : D) : Option D := match c with
  | .list l => match partOf a, partOf b with
    | some lo, some hi => some (.list (cutL l lo hi))
    | _, _ => none
  | _ => none

/-! ### keys of dicts -/
mutual
def nk : D → Option NestedKey
  | .none => some .none
  | .int i => some (.num i)
  | .str x => some (.text x)
  | .tuple l => (nks l).map .tup
  | .bool _ => none
  | .list _ => none
  | .dict _ => none
def nks : List D → Option (List NestedKey)
  | [] => some []
  | d :: r => match nk d, nks r with
    | some k, some ks => some (k :: ks)
    | _, _ => none
end
/-- a key's kind: a number or a text; a tuple of numbers, texts, None and such tuples -/
def kcls (d : D) : Option Bool := match d with
  | .int _ => some false
  | .str _ => some false
  | .tuple l => match nks l with
    | some ks => if NestedKey.depth (.tup ks) ≤ 8 then some true else none
    | none => none
  | _ => none
def keysAre (c : Bool) (l : List (D × D)) : Bool := l.all fun p => kcls p.1 == some c
def dgo (k : D) : List (D × D) → Option D
  | [] => none
  | p :: r => if PyData.eqv p.1 k then some p.2 else dgo k r
def dput (k v : D) : List (D × D) → List (D × D)
  | [] => [(k, v)]
  | p :: r => if PyData.eqv p.1 k then (p.1, v) :: r else p :: dput k v r
/-- what a dict holds at a key, if the key may be asked -/
def dAsk (l : List (D × D)) (k : D) : Option (Option D) := match kcls k with
  | some c => if keysAre c l then some (dgo k l) else none
  | none => none
def sDin (k c : D) : Option D := match c with
  | .dict l => (dAsk l k).map fun o => .bool o.isSome
  | _ => none
def sDget (c k : D) : Option D := match c with
  | .dict l => (dAsk l k).join
  | _ => none
def sDgetOr (c k x : D) : Option D := match c with
  | .dict l => (dAsk l k).map fun o => o.getD x
  | _ => none

/-! ### environments -/
def eC (d : D) : Ev := fun ρ => some (d, ρ)
def eV (i : Nat) : Ev := fun ρ => match ρ[i]? with
  | some (.val d) => some (d, ρ)
  | some (.lst l) => some (.list l, ρ.set i (.val (.list l)))
  | some (.dic l) => some (.dict l, ρ.set i (.val (.dict l)))
  | _ => none
/-- a slot's value as it stands -/
def peek (ρ : List O) (i : Nat) : Option D := match ρ[i]? with
  | some (.val d) => some d
  | some (.lst l) => some (.list l)
  | some (.dic l) => some (.dict l)
  | some (.bor _ (.lst l)) => some (.list l)
  | some (.bor _ (.dic l)) => some (.dict l)
  | _ => none
def kE (a : Ev) : Pk := fun ρ => match a ρ with
  | some (x, ρ1) => some (fun _ => some x, ρ1)
  | none => none
def kP (i : Nat) : Pk := fun ρ => match peek ρ i with
  | some _ => some (fun ρ' => peek ρ' i, ρ)
  | none => none
def o1 (f : D → Option D) (a : Pk) : Ev := fun ρ => match a ρ with
  | some (t, ρ1) => match t ρ1 with
    | some x => match f x with
      | some r => some (r, ρ1)
      | none => none
    | none => none
  | none => none
def o2 (f : D → D → Option D) (a b : Pk) : Ev := fun ρ => match a ρ with
  | some (t, ρ1) => match b ρ1 with
    | some (u, ρ2) => match t ρ2, u ρ2 with
      | some x, some y => match f x y with
        | some r => some (r, ρ2)
        | none => none
      | _, _ => none
    | none => none
  | none => none
def o3 (f : D → D → D → Option D) (a b c : Pk) : Ev := fun ρ => match a ρ with
  | some (t, ρ1) => match b ρ1 with
    | some (u, ρ2) => match c ρ2 with
      | some (v, ρ3) => match t ρ3, u ρ3, v ρ3 with
        | some x, some y, some z => match f x y z with
          | some r => some (r, ρ3)
          | none => none
        | _, _, _ => none
      | none => none
    | none => none
  | none => none
/-- several expressions, from the left -/
abbrev Evs := List O → Option (List D × List O)
def esNil : Evs := fun ρ => some ([], ρ)
def esCons (a : Ev) (r : Evs) : Evs := fun ρ => match a ρ with
  | some (x, ρ1) => match r ρ1 with
    | some (xs, ρ2) => some (x :: xs, ρ2)
    | none => none
  | none => none
def eTup (es : Evs) : Ev := fun ρ => match es ρ with
  | some (xs, ρ1) => if xs.length ≤ LIM then some (.tuple xs, ρ1) else none
  | none => none
def eLst (es : Evs) : Ev := fun ρ => match es ρ with
  | some (xs, ρ1) => if xs.length ≤ LIM then some (.list xs, ρ1) else none
  | none => none
def eAnd (a b : Ev) : Ev := fun ρ => match a ρ with
  | some (.bool true, ρ1) => b ρ1
  | some (.bool false, ρ1) => some (.bool false, ρ1)
  | _ => none
def eOr (a b : Ev) : Ev := fun ρ => match a ρ with
  | some (.bool true, ρ1) => some (.bool true, ρ1)
  | some (.bool false, ρ1) => b ρ1
  | _ => none
/-- a op b op' c -/
def eChain (f g : D → D → Option D) (a b c : Ev) : Ev := fun ρ => match a ρ with
  | some (x, ρ1) => match b ρ1 with
    | some (y, ρ2) => match f x y with
      | some (.bool true) => match c ρ2 with
        | some (z, ρ3) => match g y z with
          | some (.bool r) => some (.bool r, ρ3)
          | _ => none
        | none => none
      | some (.bool false) => some (.bool false, ρ2)
      | _ => none
    | none => none
  | none => none
/-- a call of a def by values -/
def eCall (φ : List D → Option D) (es : Evs) : Ev := fun ρ => match es ρ with
  | some (xs, ρ1) => match φ xs with
    | some r => some (r, ρ1)
    | none => none
  | none => none

/-! ### what is walked -/
/-- where it comes from: the items, and the slots behind that -/
abbrev Iv := List O → Option (List D × List O)
def rangeL (lo : Int) (n : Nat) : List D := (List.range n).map fun (i : Nat) => .int (lo + (i : Int))
def iSeq (a : Ev) : Iv := fun ρ => match a ρ with
  | some (.list l, ρ1) => some (l, ρ1)
  | some (.tuple l, ρ1) => some (l, ρ1)
  | _ => none
def iR1 (a : Ev) : Iv := fun ρ => match a ρ with
  | some (.int n, ρ1) => if -LIM ≤ n ∧ n ≤ LIM then some (rangeL 0 n.toNat, ρ1) else none
  | _ => none
def iR2 (a b : Ev) : Iv := fun ρ => match a ρ with
  | some (.int m, ρ1) => match b ρ1 with
    | some (.int n, ρ2) => if -LIM ≤ m ∧ m ≤ LIM ∧ -LIM ≤ n ∧ n ≤ LIM then some (rangeL m (n - m).toNat, ρ2) else none
    | _ => none
  | _ => none
/-- a target: one name, or several by a tuple -/
inductive Tg | one (i : Nat) | many (is : List Nat)
def setAll : List Nat → List D → List O → Option (List O)
  | [], [], ρ => some ρ
  | i :: is, d :: ds, ρ => setAll is ds (ρ.set i (.val d))
  | _, _, _ => none
def tgo : Tg → D → List O → Option (List O)
  | .one i, d, ρ => some (ρ.set i (.val d))
  | .many is, .tuple ds, ρ => setAll is ds ρ
  | .many _, _, _ => none
def tgIs : Tg → List Nat
  | .one i => [i]
  | .many is => is
/-- slots that are not told any more -/
def wipeO (ρ : List O) : List Nat → List O
  | [] => ρ
  | i :: is => (wipeO ρ is).set i .un
/-- these slots hold no list or dict of their own -/
def noOwn (ρ : List O) (is : List Nat) : Bool := is.all fun i => match ρ[i]? with
  | some (.val _) => true
  | some .un => true
  | _ => false
/-- one turn of a comprehension: the test, the item -/
def lcTurn (tg : Tg) (c e : Ev) (vs : List Nat) (x : D) (ρ : List O) (acc : List D) : Option (List D × List O) := match tgo tg x ρ with
  | some ρ1 => match c ρ1 with
    | some (.bool true, ρ2) => match e ρ2 with
      | some (y, ρ3) => some (acc ++ [y], wipeO ρ3 vs)
      | none => none
    | some (.bool false, ρ2) => some (acc, wipeO ρ2 vs)
    | _ => none
  | none => none
def lcLoop (tg : Tg) (c e : Ev) (vs : List Nat) : List D → List O → List D → Option (List D × List O)
  | [], ρ, acc => some (acc, ρ)
  | x :: xs, ρ, acc => match lcTurn tg c e vs x ρ acc with
    | some (acc', ρ') => lcLoop tg c e vs xs ρ' acc'
    | none => none
/-- the slots vs of the comprehension are given back behind it -/
def giveBack (old new : List O) : List Nat → List O
  | [] => new
  | i :: is => match old[i]? with
    | some o => (giveBack old new is).set i o
    | none => giveBack old new is
def eComp (it : Iv) (tg : Tg) (c e : Ev) (vs : List Nat) : Ev := fun ρ => match it ρ with
  | some (xs, ρ1) => if noOwn ρ1 vs then match lcLoop tg c e vs xs (wipeO ρ1 vs) [] with
      | some (acc, ρ2) => some (.list acc, giveBack ρ1 ρ2 vs)
      | none => none
    else none
  | none => none
def eTrue : Ev := fun ρ => some (.bool true, ρ)

/-! ### statements -/
inductive Fl | nx | rt (d : D) | bk | ct
abbrev Sm := List O → Option (Fl × List O)
def sNil : Sm := fun ρ => some (.nx, ρ)
def sSeq (a b : Sm) : Sm := fun ρ => match a ρ with
  | some (.nx, ρ1) => b ρ1
  | r => r
def sSet (t : Tg) (e : Ev) : Sm := fun ρ => match e ρ with
  | some (d, ρ1) => match tgo t d ρ1 with
    | some ρ2 => some (.nx, ρ2)
    | none => none
  | none => none
/-- name = a new list or dict: the name's own -/
def sOwn (i : Nat) (e : Ev) : Sm := fun ρ => match e ρ with
  | some (.list l, ρ1) => some (.nx, ρ1.set i (.lst l))
  | some (.dict l, ρ1) => some (.nx, ρ1.set i (.dic l))
  | _ => none
def sRet (e : Ev) : Sm := fun ρ => match e ρ with
  | some (d, ρ1) => some (.rt d, ρ1)
  | none => none
def sIf (c : Ev) (a b : Sm) : Sm := fun ρ => match c ρ with
  | some (.bool true, ρ1) => a ρ1
  | some (.bool false, ρ1) => b ρ1
  | _ => none
/-- name.append(e) -/
def sApp (i : Nat) (e : Ev) : Sm := fun ρ => match ρ[i]? with
  | some (.lst _) => match e ρ with
    | some (d, ρ1) => match ρ1[i]? with
      | some (.lst l) => if l.length < LIM then some (.nx, ρ1.set i (.lst (l ++ [d]))) else none
      | _ => none
    | none => none
  | _ => none
/-- name[k] = e, name a dict -/
def sPut (i : Nat) (k e : Ev) : Sm := fun ρ => match e ρ with
  | some (v, ρ1) => match k ρ1 with
    | some (key, ρ2) => match ρ2[i]? with
      | some (.dic l) => match dAsk l key with
        | some _ => if l.length < LIM then some (.nx, ρ2.set i (.dic (dput key v l))) else none
        | none => none
      | _ => none
    | none => none
  | none => none
def forLoop (t : Tg) (b : Sm) : List D → Sm
  | [], ρ => some (.nx, ρ)
  | x :: xs, ρ => match tgo t x ρ with
    | some ρ1 => match b ρ1 with
      | some (.nx, ρ2) => forLoop t b xs ρ2
      | some (.ct, ρ2) => forLoop t b xs ρ2
      | some (.bk, ρ2) => some (.nx, ρ2)
      | some (.rt d, ρ2) => some (.rt d, ρ2)
      | none => none
    | none => none
def sFor (t : Tg) (it : Iv) (b : Sm) : Sm := fun ρ => match it ρ with
  | some (xs, ρ1) => forLoop t b xs ρ1
  | none => none
def whLoop (c : Ev) (b : Sm) : Nat → Sm
  | 0, _ => none
  | n + 1, ρ => match c ρ with
    | some (.bool true, ρ1) => match b ρ1 with
      | some (.nx, ρ2) => whLoop c b n ρ2
      | some (.ct, ρ2) => whLoop c b n ρ2
      | some (.bk, ρ2) => some (.nx, ρ2)
      | some (.rt d, ρ2) => some (.rt d, ρ2)
      | none => none
    | some (.bool false, ρ1) => some (.nx, ρ1)
    | _ => none
/-- a while: with a number of turns that is enough -/
def sWh (μ : List O → Nat) (c : Ev) (b : Sm) : Sm := fun ρ => whLoop c b (μ ρ) ρ
/-- name1, name2 = a, b -/
def sPar (i j : Nat) (a b : Ev) : Sm := fun ρ => match a ρ with
  | some (x, ρ1) => match b ρ1 with
    | some (y, ρ2) => some (.nx, (ρ2.set i (.val x)).set j (.val y))
    | none => none
  | none => none

/-- a def: its parameters' values, then its other names, unbound -/
def runDef (n : Nat) (b : Sm) (ds : List D) : Option D := match b (ds.map .val ++ List.replicate (n - ds.length) .un) with
  | some (.rt d, _) => some d
  | some (.nx, _) => some .none
  | _ => none
end VL

set_option Elab.async false
set_option linter.all false
set_option maxRecDepth 100000
/-! V2: how values lie in the tracked heap; what a slot holds alone; growth. -/
namespace VL
open PySem PySem.Spec PyProof.Rows L2

/-- the written part, the world, the classes by number -/
structure Ct where
  K : PySem.W.Frag
  w : World
  ci : Nat → Option Addr
  tau : Nat → Addr
mutual
/-- nothing borrowed in it -/
def noBor : O → Bool
  | .un => true
  | .val _ => true
  | .lst _ => true
  | .dic _ => true
  | .ins _ fs => noBorF fs
  | .bor _ _ => false
def noBorF : Fs → Bool
  | .nil => true
  | .cons _ o r => noBor o && noBorF r
end

/-- what lies at a dict: entries by hash, key, value -/
inductive Ent : List DictEntry → List Int → List V → List V → Prop
  | nil : Ent [] [] [] []
  | cons {e : DictEntry} {es : List DictEntry} {h : Int} {hs : List Int} {x y : V} {xs ys : List V} : e.hash = h → RelV x e.key → RelV y e.val → Ent es hs xs ys → Ent (e :: es) (h :: hs) (x :: xs) (y :: ys)
def dPhi (a : Addr) (ep : Nat) (hs : List Int) (xs ys : List V) : Heap → Prop := fun h => (a == sysModules) = false ∧ hs.length ≤ sizeLine ∧ ∃ es : Array DictEntry, h.DictRaw a es ep ∧ Ent es.toList hs xs ys
def dO (a : Addr) (ep : Nat) (hs : List Int) (xs ys : List V) : HO := .ext (dPhi a ep hs xs ys)
def hashK (w : World) (d : D) : Int := match nk d with
  | some k => k.hash w
  | none => 0
/-- the keys of a dict differ -/
def keysNd (l : List (D × D)) : Prop := (l.map fun p => nk p.1).Nodup ∧ ∀ p ∈ l, (kcls p.1).isSome = true

mutual
inductive Rp (c : Ct) (G : Hp) : V → D → Prop
  | non : Rp c G .non .none
  | bl (b : Bool) : Rp c G (.bl b) (.bool b)
  | int (i : Int) : Rp c G (.int i) (.int i)
  | str (x : Str) : Rp c G (.str x) (.str x)
  | lst {a : Addr} {xs : List V} {ds : List D} : SqL c.K G a xs → RpA c G xs ds → Rp c G (.ref a) (.list ds)
  | tup {a : Addr} {o : Obj} {xs : List V} {ds : List D} : G a = some (.frz o (.tup xs)) → o.dict = none → RpA c G xs ds → Rp c G (.ref a) (.tuple ds)
  | dic {a : Addr} {ep : Nat} {hs : List Int} {xs ys : List V} {l : List (D × D)} : G a = some (dO a ep hs xs ys) → hs = l.map (fun p => hashK c.w p.1) → keysNd l → RpA c G xs (l.map (·.1)) → RpA c G ys (l.map (·.2)) → Rp c G (.ref a) (.dict l)
inductive RpA (c : Ct) (G : Hp) : List V → List D → Prop
  | nil : RpA c G [] []
  | cons {v : V} {vs : List V} {d : D} {ds : List D} : Rp c G v d → RpA c G vs ds → RpA c G (v :: vs) (d :: ds)
end

/-- more is to be seen -/
def Ge (G G' : Hp) : Prop := ∀ a o, G a = some o → G' a = some o
theorem Ge.refl (G : Hp) : Ge G G := fun _ _ h => h
theorem Ge.trans {G G1 G2 : Hp} (x : Ge G G1) (y : Ge G1 G2) : Ge G G2 := fun a o h => y a o (x a o h)
theorem Ge.upd {G : Hp} {a : Addr} {o : HO} (h : G a = none) : Ge G (upd G a o) := fun b u e => by
  rw [upd_ne (ne_of_none e h)]
  exact e
theorem Ge.rd {G G' : Hp} {a : Addr} {u : HO} (g : Ge G G') (h : Rd G a u) : Rd G' a u := by
  rcases h with h | ⟨o, h⟩
  · exact .inl (g _ _ h)
  · exact .inr ⟨o, g _ _ h⟩
theorem Ge.sqL {K : PySem.W.Frag} {G G' : Hp} {a : Addr} {xs : List V} (g : Ge G G') (h : SqL K G a xs) : SqL K G' a xs := by
  rcases h with h | h
  · exact .inl (g.rd h)
  · exact .inr h
theorem Ge.sqT {K : PySem.W.Frag} {G G' : Hp} {a : Addr} {xs : List V} (g : Ge G G') (h : SqT K G a xs) : SqT K G' a xs := by
  rcases h with h | h
  · exact .inl (g.rd h)
  · exact .inr h

section
variable {c : Ct} {G G' H H' : Hp}
mutual
theorem Rp.mono (g : Ge G G') : ∀ {v : V} {d : D}, Rp c G v d → Rp c G' v d
  | _, _, .non => .non
  | _, _, .bl b => .bl b
  | _, _, .int i => .int i
  | _, _, .str x => .str x
  | _, _, .lst h r => .lst (g.sqL h) (RpA.mono g r)
  | _, _, .tup h k r => .tup (g _ _ h) k (RpA.mono g r)
  | _, _, .dic h1 h2 h3 r1 r2 => .dic (g _ _ h1) h2 h3 (RpA.mono g r1) (RpA.mono g r2)
theorem RpA.mono (g : Ge G G') : ∀ {vs : List V} {ds : List D}, RpA c G vs ds → RpA c G' vs ds
  | _, _, .nil => .nil
  | _, _, .cons h r => .cons (Rp.mono g h) (RpA.mono g r)
end
theorem RpA.length : ∀ {vs : List V} {ds : List D}, RpA c G vs ds → vs.length = ds.length
  | _, _, .nil => rfl
  | _, _, .cons _ r => by rw [List.length_cons, List.length_cons, RpA.length r]
theorem RpA.append : ∀ {vs us : List V} {ds es : List D}, RpA c G vs ds → RpA c G us es → RpA c G (vs ++ us) (ds ++ es)
  | _, _, _, _, .nil, q => q
  | _, _, _, _, .cons h r, q => .cons h (RpA.append r q)
theorem RpA.get : ∀ {vs : List V} {ds : List D} {i : Nat} {d : D}, RpA c G vs ds → ds[i]? = some d → ∃ v, vs[i]? = some v ∧ Rp c G v d
  | _, _, _, _, .nil, e => by simp at e
  | _, _, 0, _, .cons h _, e => by
    have e' := Option.some.inj e
    subst e'
    exact ⟨_, rfl, h⟩
  | _, _, i + 1, _, .cons _ r, e => by
    obtain ⟨v, h1, h2⟩ := RpA.get (i := i) r (by simpa using e)
    exact ⟨v, by simpa using h1, h2⟩
theorem RpA.getV : ∀ {vs : List V} {ds : List D} {i : Nat} {v : V}, RpA c G vs ds → vs[i]? = some v → ∃ d, ds[i]? = some d ∧ Rp c G v d
  | _, _, _, _, .nil, e => by simp at e
  | _, _, 0, _, .cons h _, e => by
    have e' := Option.some.inj e
    subst e'
    exact ⟨_, rfl, h⟩
  | _, _, i + 1, _, .cons _ r, e => by
    obtain ⟨v, h1, h2⟩ := RpA.getV (i := i) r (by simpa using e)
    exact ⟨v, by simpa using h1, h2⟩
theorem RpA.take (n : Nat) : ∀ {vs : List V} {ds : List D}, RpA c G vs ds → RpA c G (vs.take n) (ds.take n) := by
  induction n with
  | zero => intro vs ds _; exact .nil
  | succ n ih =>
    intro vs ds r
    cases r with
    | nil => exact .nil
    | cons h r => exact .cons h (ih r)
theorem RpA.drop (n : Nat) : ∀ {vs : List V} {ds : List D}, RpA c G vs ds → RpA c G (vs.drop n) (ds.drop n) := by
  induction n with
  | zero => intro vs ds r; exact r
  | succ n ih =>
    intro vs ds r
    cases r with
    | nil => exact .nil
    | cons h r => exact ih r
theorem RpA.ints (c : Ct) (G : Hp) : ∀ ns : List Int, RpA c G (ns.map V.int) (ns.map PyData.int)
  | [] => .nil
  | n :: ns => .cons (.int n) (RpA.ints c G ns)

/-! ### what a slot holds -/
mutual
def RpO (c : Ct) (G H : Hp) : O → Option V → List Addr → Prop
  | .un, _, f => f = []
  | .val d, s, f => f = [] ∧ ∃ v, s = some v ∧ Rp c G v d
  | .lst l, s, f => ∃ a xs, s = some (.ref a) ∧ f = [a] ∧ H a = some (.lst xs) ∧ RpA c G xs l
  | .dic l, s, f => ∃ a ep hs xs ys, s = some (.ref a) ∧ f = [a] ∧ H a = some (dO a ep hs xs ys) ∧ hs = l.map (fun p => hashK c.w p.1) ∧ keysNd l ∧ RpA c G xs (l.map (·.1)) ∧ RpA c G ys (l.map (·.2))
  | .ins k fs, s, f => ∃ a dx C flds f', s = some (.ref a) ∧ c.ci k = some C ∧ H a = some (.ins C dx flds) ∧ H dx = some (.own a) ∧ f = a :: dx :: f' ∧ RpF c G H fs flds f'
  | .bor j o, s, f => s = some (.ref (c.tau j)) ∧ noBor o = true ∧ RpO c G H o s f
def RpF (c : Ct) (G H : Hp) : Fs → List (Str × V) → List Addr → Prop
  | .nil, l, f => l = [] ∧ f = []
  | .cons n o r, l, f => ∃ v l' f1 f2, l = (n, v) :: l' ∧ f = f1 ++ f2 ∧ RpO c G H o (some v) f1 ∧ RpF c G H r l' f2
end
mutual
theorem RpO.mono (g : Ge G G') : ∀ {o : O} {s : Option V} {f : List Addr}, (∀ a ∈ f, H' a = H a) → RpO c G H o s f → RpO c G' H' o s f
  | .un, _, _, _, h => h
  | .val d, _, _, _, h => by
    obtain ⟨h0, v, h1, h2⟩ := h
    exact ⟨h0, v, h1, h2.mono g⟩
  | .lst l, _, _, k, h => by
    obtain ⟨a, xs, h1, h2, h3, h4⟩ := h
    subst h2
    exact ⟨a, xs, h1, rfl, (k a (by simp)).trans h3, h4.mono g⟩
  | .dic l, _, _, k, h => by
    obtain ⟨a, ep, hs, xs, ys, h1, h2, h3, h4, h5, h6, h7⟩ := h
    subst h2
    exact ⟨a, ep, hs, xs, ys, h1, rfl, (k a (by simp)).trans h3, h4, h5, h6.mono g, h7.mono g⟩
  | .ins n fs, _, _, k, h => by
    obtain ⟨a, dx, C, flds, f', h1, h2, h3, h4, h5, h6⟩ := h
    subst h5
    exact ⟨a, dx, C, flds, f', h1, h2, (k a (by simp)).trans h3, (k dx (by simp)).trans h4, rfl, RpF.mono g (fun b hb => k b (by simp [hb])) h6⟩
  | .bor j o, _, _, k, h => by
    obtain ⟨h1, h2, h3⟩ := h
    exact ⟨h1, h2, RpO.mono g k h3⟩
theorem RpF.mono (g : Ge G G') : ∀ {fs : Fs} {l : List (Str × V)} {f : List Addr}, (∀ a ∈ f, H' a = H a) → RpF c G H fs l f → RpF c G' H' fs l f
  | .nil, _, _, _, h => h
  | .cons n o r, _, _, k, h => by
    obtain ⟨v, l', f1, f2, h1, h2, h3, h4⟩ := h
    subst h2
    exact ⟨v, l', f1, f2, h1, rfl, RpO.mono g (fun b hb => k b (by simp [hb])) h3, RpF.mono g (fun b hb => k b (by simp [hb])) h4⟩
end
mutual
theorem RpO.there : ∀ {o : O} {s : Option V} {f : List Addr}, RpO c G H o s f → ∀ a ∈ f, ∃ u, H a = some u
  | .un, _, _, h, a, ha => by
    have e : _ = [] := h
    rw [e] at ha
    cases ha
  | .val d, _, _, h, a, ha => by
    rw [h.1] at ha
    cases ha
  | .lst l, _, _, h, b, hb => by
    obtain ⟨a, xs, h1, h2, h3, h4⟩ := h
    subst h2
    rw [List.mem_singleton.mp hb]
    exact ⟨_, h3⟩
  | .dic l, _, _, h, b, hb => by
    obtain ⟨a, ep, hs, xs, ys, h1, h2, h3, _⟩ := h
    subst h2
    rw [List.mem_singleton.mp hb]
    exact ⟨_, h3⟩
  | .ins n fs, _, _, h, b, hb => by
    obtain ⟨a, dx, C, flds, f', h1, h2, h3, h4, h5, h6⟩ := h
    subst h5
    rcases List.mem_cons.mp hb with e | hb
    · rw [e]; exact ⟨_, h3⟩
    · rcases List.mem_cons.mp hb with e | hb
      · rw [e]; exact ⟨_, h4⟩
      · exact RpF.there h6 b hb
  | .bor j o, _, _, h, b, hb => RpO.there h.2.2 b hb
theorem RpF.there : ∀ {fs : Fs} {l : List (Str × V)} {f : List Addr}, RpF c G H fs l f → ∀ a ∈ f, ∃ u, H a = some u
  | .nil, _, _, h, a, ha => by
    rw [h.2] at ha
    cases ha
  | .cons n o r, _, _, h, a, ha => by
    obtain ⟨v, l', f1, f2, h1, h2, h3, h4⟩ := h
    subst h2
    rcases List.mem_append.mp ha with q | q
    · exact RpO.there h3 a q
    · exact RpF.there h4 a q
end
def Slots (c : Ct) (G H : Hp) : List (Option V) → List O → List Addr → Prop
  | [], [], l => l = []
  | s :: σ, o :: ρ, l => ∃ l1 l2, l = l1 ++ l2 ∧ RpO c G H o s l1 ∧ Slots c G H σ ρ l2
  | _, _, _ => False
theorem Slots.length : ∀ {σ : List (Option V)} {ρ : List O} {l : List Addr}, Slots c G H σ ρ l → σ.length = ρ.length
  | [], [], _, _ => rfl
  | s :: σ, o :: ρ, _, h => by
    obtain ⟨_, _, _, _, h⟩ := h
    rw [List.length_cons, List.length_cons, Slots.length h]
  | [], _ :: _, _, h => h.elim
  | _ :: _, [], _, h => h.elim
theorem Slots.mono (g : Ge G G') : ∀ {σ : List (Option V)} {ρ : List O} {l : List Addr}, (∀ a ∈ l, H' a = H a) → Slots c G H σ ρ l → Slots c G' H' σ ρ l
  | [], [], _, _, h => h
  | s :: σ, o :: ρ, _, k, h => by
    obtain ⟨l1, l2, e, h1, h2⟩ := h
    subst e
    exact ⟨l1, l2, rfl, h1.mono g fun b hb => k b (by simp [hb]), Slots.mono g (fun b hb => k b (by simp [hb])) h2⟩
  | [], _ :: _, _, _, h => h.elim
  | _ :: _, [], _, _, h => h.elim
theorem Slots.there : ∀ {σ : List (Option V)} {ρ : List O} {l : List Addr}, Slots c G H σ ρ l → ∀ a ∈ l, ∃ u, H a = some u
  | [], [], _, h, a, ha => by
    have e : _ = [] := h
    rw [e] at ha
    cases ha
  | s :: σ, o :: ρ, _, h, a, ha => by
    obtain ⟨l1, l2, e, h1, h2⟩ := h
    subst e
    rcases List.mem_append.mp ha with q | q
    · exact h1.there a q
    · exact Slots.there h2 a q
  | [], _ :: _, _, h, _, _ => h.elim
  | _ :: _, [], _, h, _, _ => h.elim
/-- one slot taken out, and another put in its place -/
theorem Slots.at : ∀ {σ : List (Option V)} {ρ : List O} {l : List Addr} {i : Nat} {o : O}, Slots c G H σ ρ l → ρ[i]? = some o →
    ∃ s l1 l2, σ[i]? = some s ∧ l.Perm (l1 ++ l2) ∧ RpO c G H o s l1 ∧ ∀ (G' H' : Hp) (s' : Option V) (o' : O) (l' : List Addr), Ge G G' → (∀ a ∈ l2, H' a = H a) → RpO c G' H' o' s' l' → ∃ m, m.Perm (l' ++ l2) ∧ Slots c G' H' (σ.set i s') (ρ.set i o') m
  | [], [], _, _, _, _, e => by simp at e
  | s :: σ, o :: ρ, l, 0, o0, h, e => by
    obtain ⟨l1, l2, el, h1, h2⟩ := h
    have e' : o = o0 := Option.some.inj e
    subst e'
    exact ⟨s, l1, l2, rfl, by rw [el], h1, fun G' H' s' o' l' g k r => ⟨l' ++ l2, List.Perm.refl _, l', l2, rfl, r, h2.mono g k⟩⟩
  | s :: σ, o :: ρ, l, i + 1, o0, h, e => by
    obtain ⟨l1, l2, el, h1, h2⟩ := h
    obtain ⟨s0, m1, m2, e1, p, r, k⟩ := Slots.at (i := i) h2 (by simpa using e)
    refine ⟨s0, m1, l1 ++ m2, by simpa using e1, ?_, r, fun G' H' s' o' l' g q r' => ?_⟩
    · rw [el]
      have p1 : (l1 ++ l2).Perm (l1 ++ (m1 ++ m2)) := p.append_left l1
      refine p1.trans ?_
      rw [← List.append_assoc, ← List.append_assoc]
      exact (List.perm_append_comm).append_right m2
    · obtain ⟨m, pm, sm⟩ := k G' H' s' o' l' g (fun a ha => q a (by simp [ha])) r'
      refine ⟨l1 ++ m, ?_, l1, m, rfl, h1.mono g fun a ha => q a (by simp [ha]), sm⟩
      have p1 : (l1 ++ m).Perm (l1 ++ (l' ++ m2)) := pm.append_left l1
      refine p1.trans ?_
      rw [← List.append_assoc, ← List.append_assoc]
      exact (List.perm_append_comm).append_right m2
  | [], _ :: _, _, _, _, h, _ => h.elim
  | _ :: _, [], _, _, _, h, _ => h.elim

/-- Pr: what stands apart, unseen and unchanged; G: what is seen and never changes; the slots' own -/
structure ER (c : Ct) (Pr G H : Hp) (σ : List (Option V)) (ρ : List O) : Prop where
  pr : ∀ a o, Pr a = some o → H a = some o ∧ G a = none
  gh : ∀ a o, G a = some o → H a = some o
  own : ∃ l : List Addr, l.Nodup ∧ (∀ a ∈ l, Pr a = none ∧ G a = none) ∧ Slots c G H σ ρ l
/-- only new things came -/
structure Gr (G H G' H' : Hp) : Prop where
  ge : Ge G G'
  same : Ge H H'
  gh : Ge G' H'
  new : ∀ a, G a = none → (∃ o, H a = some o) → G' a = none
variable {Pr : Hp} {σ : List (Option V)} {ρ : List O}
theorem ER.len (E : ER c Pr G H σ ρ) : σ.length = ρ.length := let ⟨_, _, _, h⟩ := E.own; h.length
theorem Gr.refl (h : Ge G H) : Gr G H G H := ⟨Ge.refl _, Ge.refl _, h, fun _ e _ => e⟩
theorem Gr.trans {G1 H1 G2 H2 : Hp} (x : Gr G H G1 H1) (y : Gr G1 H1 G2 H2) : Gr G H G2 H2 :=
  ⟨x.ge.trans y.ge, x.same.trans y.same, y.gh, fun a e ⟨o, h⟩ => y.new a (x.new a e ⟨o, h⟩) ⟨o, x.same _ _ h⟩⟩
theorem Gr.laid {a : Addr} {o : HO} (h : Ge G H) (n : H a = none) : Gr G H (upd G a o) (upd H a o) := by
  have n2 : G a = none := by
    cases e : G a with
    | none => rfl
    | some u => rw [h a u e] at n; cases n
  refine ⟨Ge.upd n2, Ge.upd n, fun b u e => ?_, fun b e ⟨u, q⟩ => ?_⟩
  · by_cases hb : b = a
    · subst hb; rw [upd_same] at e ⊢; exact e
    · rw [upd_ne hb] at e ⊢; exact h b u e
  · rw [upd_ne (ne_of_none q n)]; exact e
theorem ER.gr (E : ER c Pr G H σ ρ) (g : Gr G H G' H') : ER c Pr G' H' σ ρ := by
  obtain ⟨l, nd, ap, sl⟩ := E.own
  have th := sl.there
  refine ⟨fun a o e => ?_, g.gh, l, nd, fun a ha => ?_, sl.mono g.ge fun a ha => ?_⟩
  · obtain ⟨h1, h2⟩ := E.pr a o e
    exact ⟨g.same _ _ h1, g.new a h2 ⟨o, h1⟩⟩
  · exact ⟨(ap a ha).1, g.new a (ap a ha).2 (th a ha)⟩
  · obtain ⟨u, e⟩ := th a ha
    rw [e, g.same _ _ e]
theorem nodup_sub {l m k : List Addr} (h : l.Nodup) (p : l.Perm (m ++ k)) : k.Nodup := (List.nodup_append.mp (p.nodup_iff.mp h)).2.1
/-- a value is put into a slot -/
theorem ER.setv {i : Nat} {v : V} {d : D} {o : O} (E : ER c Pr G H σ ρ) (hi : ρ[i]? = some o) (r : Rp c G v d) : ER c Pr G H (σ.set i (some v)) (ρ.set i (.val d)) := by
  obtain ⟨l, nd, ap, sl⟩ := E.own
  obtain ⟨s, l1, l2, e1, p, ro, k⟩ := sl.at hi
  obtain ⟨m, pm, sm⟩ := k G H (some v) (.val d) [] (Ge.refl _) (fun _ _ => rfl) ⟨rfl, v, rfl, r⟩
  exact ⟨E.pr, E.gh, m, pm.nodup_iff.mpr (nodup_sub nd p), fun a ha => ap a (p.mem_iff.mpr (List.mem_append_right _ (pm.mem_iff.mp ha))), sm⟩
theorem ER.unset {i : Nat} {s' : Option V} {o : O} (E : ER c Pr G H σ ρ) (hi : ρ[i]? = some o) : ER c Pr G H (σ.set i s') (ρ.set i .un) := by
  obtain ⟨l, nd, ap, sl⟩ := E.own
  obtain ⟨s, l1, l2, e1, p, ro, k⟩ := sl.at hi
  obtain ⟨m, pm, sm⟩ := k G H s' .un [] (Ge.refl _) (fun _ _ => rfl) rfl
  exact ⟨E.pr, E.gh, m, pm.nodup_iff.mpr (nodup_sub nd p), fun a ha => ap a (p.mem_iff.mpr (List.mem_append_right _ (pm.mem_iff.mp ha))), sm⟩
/-- the same, the slot's value as it was -/
theorem set_same {α : Type} : ∀ {l : List α} {i : Nat} {x : α}, l[i]? = some x → l.set i x = l
  | [], i, x, h => by simp at h
  | a :: l, 0, x, h => by
    have e : a = x := Option.some.inj h
    subst e
    rfl
  | a :: l, i + 1, x, h => by
    rw [List.set_cons_succ, set_same (l := l) (by simpa using h)]
theorem ER.ofVal {i : Nat} {d : D} (E : ER c Pr G H σ ρ) (hi : ρ[i]? = some (.val d)) : ∃ v, σ[i]? = some (some v) ∧ Rp c G v d := by
  obtain ⟨l, nd, ap, sl⟩ := E.own
  obtain ⟨s, l1, l2, e1, p, ⟨_, v, rfl, r⟩, k⟩ := sl.at hi
  exact ⟨v, e1, r⟩
/-- a slot's own becomes a thing that is seen -/
theorem ER.show {i : Nat} {o o' : O} {a : Addr} {u : HO} {s : Option V} (E : ER c Pr G H σ ρ) (hi : ρ[i]? = some o) (hs : σ[i]? = some s)
    (hf : ∀ l1, RpO c G H o s l1 → l1 = [a] ∧ H a = some u ∧ (G a = none → RpO c (upd G a u) H o' s [])) : ER c Pr (upd G a u) H σ (ρ.set i o') ∧ G a = none := by
  obtain ⟨l, nd, ap, sl⟩ := E.own
  obtain ⟨s0, l1, l2, e1, p, ro, k⟩ := sl.at hi
  rw [hs] at e1
  cases e1
  obtain ⟨el, hH, ro'⟩ := hf l1 ro
  subst el
  have ha := ap a (p.mem_iff.mpr (by simp))
  obtain ⟨m, pm, sm⟩ := k (upd G a u) H s o' [] (Ge.upd ha.2) (fun _ _ => rfl) (ro' ha.2)
  rw [set_same hs] at sm
  have nd2 := p.nodup_iff.mp nd
  refine ⟨⟨fun b q e => ?_, fun b q e => ?_, m, pm.nodup_iff.mpr (nodup_sub nd p), fun b hb => ?_, sm⟩, ha.2⟩
  · obtain ⟨h1, h2⟩ := E.pr b q e
    refine ⟨h1, ?_⟩
    rw [upd_ne (ne_of_none e ha.1)]
    exact h2
  · by_cases hb : b = a
    · subst hb; rw [upd_same] at e; cases e; exact hH
    · rw [upd_ne hb] at e; exact E.gh b q e
  · have hb2 := pm.mem_iff.mp hb
    have hb3 := ap b (p.mem_iff.mpr (List.mem_append_right _ hb2))
    refine ⟨hb3.1, ?_⟩
    have ne : b ≠ a := fun e => by
      subst e
      exact (List.nodup_append.mp nd2).2.2 b (by simp) b hb2 rfl
    rw [upd_ne ne]
    exact hb3.2
end
end VL

set_option Elab.async false
set_option linter.all false
set_option maxRecDepth 100000
/-! V3: the judgements by values, for expressions. -/
namespace VL
open PySem PySem.Spec PyProof.Rows L2

/-- the names of what is built in, none of them stored by the program -/
def bltNames : List Str := ["len", "sum", "any", "all", "max", "min", "abs", "int", "str", "tuple", "list", "sorted", "isinstance", "range", "zip", "enumerate", "dict", "set", "repr", "bool"]
/-- what holds of a body's context -/
structure XC (c : Ct) (X : Cx) : Prop where
  K : X.K = c.K
  w : X.w = c.w
  calm : X.calm = true
  nd : X.N.Nodup
  hu : X.A.units + 150 < cLine
  blt : ∀ x ∈ bltNames, X.mg x = none
  xe : X.xe = fun _ _ => False
/-- the end of an expression by values -/
def PostE (c : Ct) (Pr G : Hp) (σ : L2.St) (ρ' : List O) (d : D) : VK := fun v H' => ∃ G', Ge G G' ∧ ER c Pr G' H' σ ρ' ∧ Rp c G' v d
/-- an expression does what f says -/
def CE (c : Ct) (X : Cx) (e : Expr) (f : Ev) : Prop := ∀ (pins : List (Addr × Obj)) (s : Shared) (σ : L2.St) (H Pr G : Hp) (ρ ρ' : List O) (d : D), Inv X pins σ H s → ER c Pr G H σ ρ → f ρ = some (d, ρ') →
  wpAny (model X.prog X.w) X.A (eval e X.env) (EP X pins σ (PostE c Pr G σ ρ' d)) X.xe s
/-- the end of a test -/
def PostT (c : Ct) (Pr G : Hp) (σ : L2.St) (ρ' : List O) (b : Bool) : Bool → Hp → Prop := fun k H' => k = b ∧ ∃ G', Ge G G' ∧ ER c Pr G' H' σ ρ'
def CT (c : Ct) (X : Cx) (e : Expr) (f : Ev) : Prop := ∀ (pins : List (Addr × Obj)) (s : Shared) (σ : L2.St) (H Pr G : Hp) (ρ ρ' : List O) (b : Bool), Inv X pins σ H s → ER c Pr G H σ ρ → f ρ = some (.bool b, ρ') →
  wpAny (model X.prog X.w) X.A (isTrue e X.env (eval e X.env)) (TP X pins σ (PostT c Pr G σ ρ' b)) X.xe s
/-- the same whatever its 'whole' is (and, or) -/
def CW (c : Ct) (X : Cx) (e : Expr) (f : Ev) : Prop := ∀ (wh : Sem Value) (pins : List (Addr × Obj)) (s : Shared) (σ : L2.St) (H Pr G : Hp) (ρ ρ' : List O) (b : Bool), Inv X pins σ H s → ER c Pr G H σ ρ → f ρ = some (.bool b, ρ') →
  wpAny (model X.prog X.w) X.A (isTrue e X.env wh) (TP X pins σ (PostT c Pr G σ ρ' b)) X.xe s
theorem CW.ct {c : Ct} {X : Cx} {e : Expr} {f : Ev} (h : CW c X e f) : CT c X e f := h _
/-- a value that is read: of what is seen, or at its top a list or a dict as it stands now -/
inductive RpT (c : Ct) (G H : Hp) : V → D → Prop
  | of {v : V} {d : D} : Rp c G v d → RpT c G H v d
  | lst {a : Addr} {xs : List V} {l : List D} : H a = some (.lst xs) → RpA c G xs l → RpT c G H (.ref a) (.list l)
  | dic {a : Addr} {ep : Nat} {hs : List Int} {xs ys : List V} {l : List (D × D)} : H a = some (dO a ep hs xs ys) → hs = l.map (fun p => hashK c.w p.1) → keysNd l → RpA c G xs (l.map (·.1)) → RpA c G ys (l.map (·.2)) → RpT c G H (.ref a) (.dict l)
/-- what an operand's value is, later too -/
def KOk (c : Ct) (Pr G : Hp) (σ : L2.St) (v : V) (t : List O → Option D) : Prop := ∀ (G' H' : Hp) (ρ' : List O) (d : D), Ge G G' → ER c Pr G' H' σ ρ' → t ρ' = some d → RpT c G' H' v d
def PostK (c : Ct) (Pr G : Hp) (σ : L2.St) (ρ' : List O) (t : List O → Option D) : VK := fun v H' => ∃ G', Ge G G' ∧ ER c Pr G' H' σ ρ' ∧ KOk c Pr G' σ v t
/-- an operand -/
def CK (c : Ct) (X : Cx) (e : Expr) (p : Pk) : Prop := ∀ (pins : List (Addr × Obj)) (s : Shared) (σ : L2.St) (H Pr G : Hp) (ρ ρ' : List O) (t : List O → Option D), Inv X pins σ H s → ER c Pr G H σ ρ → p ρ = some (t, ρ') →
  wpAny (model X.prog X.w) X.A (eval e X.env) (EP X pins σ (PostK c Pr G σ ρ' t)) X.xe s
/-- a new list or dict, that nobody else holds -/
def PostF (c : Ct) (Pr G : Hp) (σ : L2.St) (ρ' : List O) (d : D) : VK := fun v H' => ∃ G' o, Ge G G' ∧ ER c Pr G' H' (some v :: σ) (o :: ρ') ∧ ((∃ l, o = .lst l ∧ d = .list l) ∨ ∃ l, o = .dic l ∧ d = .dict l)
def CF (c : Ct) (X : Cx) (e : Expr) (f : Ev) : Prop := ∀ (pins : List (Addr × Obj)) (s : Shared) (σ : L2.St) (H Pr G : Hp) (ρ ρ' : List O) (d : D), Inv X pins σ H s → ER c Pr G H σ ρ → f ρ = some (d, ρ') →
  wpAny (model X.prog X.w) X.A (eval e X.env) (EP X pins σ (PostF c Pr G σ ρ' d)) X.xe s
/-- arguments -/
def PostA (c : Ct) (Pr G : Hp) (σ : L2.St) (ρ' : List O) (ds : List D) : List V → Hp → Prop := fun vs H' => ∃ G', Ge G G' ∧ ER c Pr G' H' σ ρ' ∧ RpA c G' vs ds
def CA (c : Ct) (X : Cx) (es : List Expr) (f : Evs) : Prop := ∀ (pos : Pos) (pins : List (Addr × Obj)) (s : Shared) (σ : L2.St) (H Pr G : Hp) (ρ ρ' : List O) (ds : List D), Inv X pins σ H s → ER c Pr G H σ ρ → f ρ = some (ds, ρ') →
  wpAny (model X.prog X.w) X.A (spliced (backTo pos (starEach es X.env))) (AP X pins σ (PostA c Pr G σ ρ' ds)) X.xe s

section
variable {c : Ct} {X : Cx} {Pr G H : Hp} {σ : L2.St} {ρ ρ' : List O}

/-! ### slots read -/
theorem ER.peeks {i : Nat} {d : D} (E : ER c Pr G H σ ρ) (h : peek ρ i = some d) : ∃ v, σ[i]? = some (some v) ∧ RpT c G H v d := by
  unfold peek at h
  obtain ⟨l, nd, ap, sl⟩ := E.own
  cases q : ρ[i]? with
  | none => rw [q] at h; cases h
  | some o =>
    rw [q] at h
    obtain ⟨s, l1, l2, e1, p, ro, k⟩ := sl.at q
    cases o with
    | un => cases h
    | val z =>
      cases h
      obtain ⟨_, v, rfl, r⟩ := ro
      exact ⟨v, e1, .of r⟩
    | lst z =>
      cases h
      obtain ⟨a, xs, rfl, _, h3, h4⟩ := ro
      exact ⟨_, e1, .lst h3 h4⟩
    | dic z =>
      cases h
      obtain ⟨a, ep, hs, xs, ys, rfl, _, h3, h4, h5, h6, h7⟩ := ro
      exact ⟨_, e1, .dic h3 h4 h5 h6 h7⟩
    | ins n fs => cases h
    | bor j o =>
      obtain ⟨_, _, ro⟩ := ro
      cases o with
      | lst z =>
        cases h
        obtain ⟨a, xs, rfl, _, h3, h4⟩ := ro
        exact ⟨_, e1, .lst h3 h4⟩
      | dic z =>
        cases h
        obtain ⟨a, ep, hs, xs, ys, rfl, _, h3, h4, h5, h6, h7⟩ := ro
        exact ⟨_, e1, .dic h3 h4 h5 h6 h7⟩
      | un => cases h
      | val z => cases h
      | ins n fs => cases h
      | bor n o => cases h
theorem ER.takes {i : Nat} {d : D} (E : ER c Pr G H σ ρ) (h : eV i ρ = some (d, ρ')) : ∃ v G', σ[i]? = some (some v) ∧ Ge G G' ∧ ER c Pr G' H σ ρ' ∧ Rp c G' v d := by
  unfold eV at h
  cases q : ρ[i]? with
  | none => rw [q] at h; cases h
  | some o =>
    rw [q] at h
    cases o with
    | un => cases h
    | val z =>
      cases h
      obtain ⟨v, e1, r⟩ := E.ofVal q
      exact ⟨v, G, e1, Ge.refl _, E, r⟩
    | lst z =>
      cases h
      obtain ⟨l, nd, ap, sl⟩ := E.own
      obtain ⟨s, l1, l2, e1, p, ro, k⟩ := sl.at q
      obtain ⟨a, xs, rfl, e2, h3, h4⟩ := ro
      have g : G a = none := (ap a (p.mem_iff.mpr (by rw [e2]; simp))).2
      have R : Rp c (upd G a (.lst xs)) (.ref a) (.list z) := .lst (.inl (.inl upd_same)) (h4.mono (Ge.upd g))
      obtain ⟨E2, _⟩ := E.show (o' := .val (.list z)) (a := a) (u := .lst xs) q e1 fun l1 ro => by
        obtain ⟨a', xs', e3, e4, h5, h6⟩ := ro
        cases e3
        rw [h3] at h5
        cases h5
        exact ⟨e4, h3, fun _ => ⟨rfl, _, rfl, R⟩⟩
      exact ⟨_, _, e1, Ge.upd g, E2, R⟩
    | dic z =>
      cases h
      obtain ⟨l, nd, ap, sl⟩ := E.own
      obtain ⟨s, l1, l2, e1, p, ro, k⟩ := sl.at q
      obtain ⟨a, ep, hs, xs, ys, rfl, e2, h3, h4, h5, h6, h7⟩ := ro
      have g : G a = none := (ap a (p.mem_iff.mpr (by rw [e2]; simp))).2
      have R : Rp c (upd G a (dO a ep hs xs ys)) (.ref a) (.dict z) := .dic upd_same h4 h5 (h6.mono (Ge.upd g)) (h7.mono (Ge.upd g))
      obtain ⟨E2, _⟩ := E.show (o' := .val (.dict z)) (a := a) (u := dO a ep hs xs ys) q e1 fun l1 ro => by
        obtain ⟨a', ep', hs', xs', ys', e3, e4, h8, h9, h10, h11, h12⟩ := ro
        cases e3
        exact ⟨e4, h3, fun _ => ⟨rfl, _, rfl, R⟩⟩
      exact ⟨_, _, e1, Ge.upd g, E2, R⟩
    | ins n fs => cases h
    | bor j o => cases h

/-! ### reading from values to the library's data -/
mutual
theorem Rp.dp (hp : Ge G H) : ∀ {v : V} {d : D}, d.plain = true → Rp c G v d → Dp c.K H v d
  | _, _, _, .non => .non
  | _, _, _, .bl b => .bl b
  | _, _, _, .int i => .int i
  | _, _, _, .str x => .str x
  | _, _, h, .lst q r => .lst (hp.sqL q) (RpA.dp hp (by simpa [PyData.plain] using h) r)
  | _, _, h, .tup q _ r => .tup (.inl (.inr ⟨_, hp _ _ q⟩)) (RpA.dp hp (by simpa [PyData.plain] using h) r)
  | _, _, h, .dic _ _ _ _ _ => by simp [PyData.plain] at h
theorem RpA.dp (hp : Ge G H) : ∀ {vs : List V} {ds : List D}, PyData.plainAll ds = true → RpA c G vs ds → DpAll c.K H vs ds
  | _, _, _, .nil => .nil
  | _, _, h, .cons q r => by
    simp only [PyData.plainAll, Bool.and_eq_true] at h
    exact .cons (Rp.dp hp h.1 q) (RpA.dp hp h.2 r)
end
theorem RpT.dp {v : V} {d : D} (hp : Ge G H) (h : d.plain = true) (r : RpT c G H v d) : Dp c.K H v d := by
  cases r with
  | of r => exact r.dp hp h
  | lst q r => exact .lst (.inl (.inl q)) (r.dp hp (by simpa [PyData.plain] using h))
  | dic => simp [PyData.plain] at h
theorem RpT.reads {pins : List (Addr × Obj)} {s : Shared} {v : V} {u : Value} {d : D} (C : XC c X) (I : Inv X pins σ H s) (hp : Ge G H) (h : d.plain = true) (r : RpT c G H v d) (ru : RelV v u) : ∃ as, Reads s.heap u d as :=
  Dp.reads I d v u (by rw [C.K]; exact r.dp hp h) ru
theorem RpT.seqL {v : V} {l : List D} (r : RpT c G H v (.list l)) (hp : Ge G H) : ∃ a xs, v = .ref a ∧ SqL c.K H a xs ∧ RpA c G xs l := by
  cases r with
  | of r =>
    cases r with
    | lst q r => exact ⟨_, _, rfl, hp.sqL q, r⟩
  | lst q r => exact ⟨_, _, rfl, .inl (.inl q), r⟩
theorem RpT.seqT {v : V} {l : List D} (r : RpT c G H v (.tuple l)) (hp : Ge G H) : ∃ a xs o, v = .ref a ∧ G a = some (.frz o (.tup xs)) ∧ o.dict = none ∧ SqT c.K H a xs ∧ RpA c G xs l := by
  cases r with
  | of r =>
    cases r with
    | tup q k r => exact ⟨_, _, _, rfl, q, k, .inl (.inr ⟨_, hp _ _ q⟩), r⟩
theorem RpT.int {v : V} {i : Int} (r : RpT c G H v (.int i)) : v = .int i := by
  cases r with
  | of r => cases r; rfl
theorem RpT.bl {v : V} {b : Bool} (r : RpT c G H v (.bool b)) : v = .bl b := by
  cases r with
  | of r => cases r; rfl
theorem RpT.str {v : V} {z : Str} (r : RpT c G H v (.str z)) : v = .str z := by
  cases r with
  | of r => cases r; rfl
theorem RpT.non {v : V} (r : RpT c G H v .none) : v = .non := by
  cases r with
  | of r => cases r; rfl

/-! ### a new thing, hidden or shown -/
/-- a new list, ahead of the slots -/
theorem ER.newL {p : Addr} {xs : List V} {l : List D} (E : ER c Pr G H σ ρ) (n : H p = none) (r : RpA c G xs l) : ER c Pr G (upd H p (.lst xs)) (some (.ref p) :: σ) (.lst l :: ρ) := by
  obtain ⟨m, nd, ap, sl⟩ := E.own
  have th := sl.there
  have npr : Pr p = none := by
    cases e : Pr p with
    | none => rfl
    | some o => rw [(E.pr p o e).1] at n; cases n
  have ng : G p = none := by
    cases e : G p with
    | none => rfl
    | some o => rw [E.gh p o e] at n; cases n
  have nm : ∀ a ∈ m, a ≠ p := fun a ha e => by
    obtain ⟨u, q⟩ := th a ha
    rw [e, n] at q
    cases q
  refine ⟨fun a o e => ?_, fun a o e => ?_, p :: m, List.nodup_cons.mpr ⟨fun h => nm p h rfl, nd⟩, fun a ha => ?_, [p], m, rfl, ⟨p, xs, rfl, rfl, upd_same, r⟩, sl.mono (Ge.refl _) fun a ha => upd_ne (nm a ha)⟩
  · obtain ⟨h1, h2⟩ := E.pr a o e
    exact ⟨by rw [upd_ne (ne_of_none h1 n)]; exact h1, h2⟩
  · have h1 := E.gh a o e
    rw [upd_ne (ne_of_none h1 n)]
    exact h1
  · rcases List.mem_cons.mp ha with e | h
    · rw [e]; exact ⟨npr, ng⟩
    · exact ap a h
theorem ER.tail {s : Option V} {o : O} (E : ER c Pr G H (s :: σ) (o :: ρ)) : ER c Pr G H σ ρ := by
  obtain ⟨m, nd, ap, l1, l2, e, _, sl⟩ := E.own
  subst e
  exact ⟨E.pr, E.gh, l2, (List.nodup_append.mp nd).2.1, fun a ha => ap a (List.mem_append_right _ ha), sl⟩
/-- what is hidden ahead of the slots is shown -/
theorem ER.showHead {v : V} {o : O} {d : D} (E : ER c Pr G H (some v :: σ) (o :: ρ)) (h : (∃ l, o = .lst l ∧ d = .list l) ∨ ∃ l, o = .dic l ∧ d = .dict l) : ∃ G', Ge G G' ∧ ER c Pr G' H σ ρ ∧ Rp c G' v d := by
  have q : eV 0 (o :: ρ) = some (d, .val d :: ρ) := by
    rcases h with ⟨l, rfl, rfl⟩ | ⟨l, rfl, rfl⟩ <;> rfl
  obtain ⟨v', G', e, g, E', r⟩ := E.takes q
  cases e
  exact ⟨G', g, E'.tail, r⟩
theorem CF.ce {e : Expr} {f : Ev} (h : CF c X e f) : CE c X e f := fun pins s σ H Pr G ρ ρ' d I E q =>
  thn (h pins s σ H Pr G ρ ρ' d I E q) fun u s' ⟨v, H', I', r, G', o, g, E', k⟩ => by
    obtain ⟨G2, g2, E2, r2⟩ := E'.showHead k
    exact ⟨v, H', I', r, G2, g.trans g2, E2, r2⟩
theorem CE.ck {e : Expr} {f : Ev} (h : CE c X e f) : CK c X e (kE f) := fun pins s σ H Pr G ρ ρ' t I E q => by
  unfold kE at q
  cases hf : f ρ with
  | none => rw [hf] at q; cases q
  | some z =>
    obtain ⟨d, ρ1⟩ := z
    rw [hf] at q
    cases q
    refine thn (h pins s σ H Pr G ρ ρ' d I E hf) fun u s' ⟨v, H', I', r, G', g, E', rp⟩ => ⟨v, H', I', r, G', g, E', fun G2 H2 ρ2 d2 g2 E2 e2 => ?_⟩
    cases e2
    exact .of (rp.mono g2)

/-! ### names, constants -/
theorem ce_v {i : Nat} {x : Str} {pos : Pos} (hN : X.N[i]? = some x) (hv : Vis X.env.scope x) (hd : (x == ("__debug__" : Str)) = false := by decide) (hcd : (x == ("__classdict__" : Str)) = false := by decide) : CE c X (.Name x pos) (eV i) := by
  intro pins s σ H Pr G ρ ρ' d I E q
  obtain ⟨v, G', e, g, E', r⟩ := E.takes q
  exact (pe_var hN hv hd hcd).run pins s σ H _ I ⟨v, e, G', g, E', r⟩
theorem ck_p {i : Nat} {x : Str} {pos : Pos} (hN : X.N[i]? = some x) (hv : Vis X.env.scope x) (hd : (x == ("__debug__" : Str)) = false := by decide) (hcd : (x == ("__classdict__" : Str)) = false := by decide) : CK c X (.Name x pos) (kP i) := by
  intro pins s σ H Pr G ρ ρ' t I E q
  unfold kP at q
  cases hp : peek ρ i with
  | none => rw [hp] at q; cases q
  | some d0 =>
    rw [hp] at q
    cases q
    obtain ⟨v, e, _⟩ := E.peeks hp
    refine (pe_var hN hv hd hcd).run pins s σ H _ I ⟨v, e, G, Ge.refl _, E, fun G2 H2 ρ2 d2 g2 E2 e2 => ?_⟩
    obtain ⟨v2, e3, r⟩ := E2.peeks e2
    rw [e] at e3
    cases e3
    exact r
theorem ce_c {e : Expr} {v : V} {d : D} (h : PE X e (tC v)) (r : ∀ G, Rp c G v d) : CE c X e (eC d) := by
  intro pins s σ H Pr G ρ ρ' d' I E q
  cases q
  exact h.run pins s σ H _ I ⟨G, Ge.refl _, E, r G⟩
theorem ce_int {i j pos} : CE c X (.Constant (.int i) j pos) (eC (.int i)) := ce_c pe_int fun _ => .int i
theorem ce_bl {b j pos} : CE c X (.Constant (.bool b) j pos) (eC (.bool b)) := ce_c pe_bl fun _ => .bl b
theorem ce_non {j pos} : CE c X (.Constant .none j pos) (eC .none) := ce_c pe_non fun _ => .non
theorem ce_str {x j pos} : CE c X (.Constant (.str x) j pos) (eC (.str x)) := ce_c pe_str fun _ => .str x

/-! ### operations by values -/
/-- what an operation on two values does: only new things come -/
def Op2 (c : Ct) (X : Cx) (g : Value → Value → Sem Value) (f : D → D → Option D) : Prop := ∀ (pins : List (Addr × Obj)) (s : Shared) (σ : L2.St) (H G : Hp) (x y : V) (v u : Value) (d e r : D), Inv X pins σ H s → Ge G H → RelV x v → RelV y u → RpT c G H x d → RpT c G H y e → f d e = some r →
  wpAny (model X.prog X.w) X.A (g v u) (EP X pins σ fun z H' => ∃ G', Gr G H G' H' ∧ Rp c G' z r) X.xe s
def Op1 (c : Ct) (X : Cx) (g : Value → Sem Value) (f : D → Option D) : Prop := ∀ (pins : List (Addr × Obj)) (s : Shared) (σ : L2.St) (H G : Hp) (x : V) (v : Value) (d r : D), Inv X pins σ H s → Ge G H → RelV x v → RpT c G H x d → f d = some r →
  wpAny (model X.prog X.w) X.A (g v) (EP X pins σ fun z H' => ∃ G', Gr G H G' H' ∧ Rp c G' z r) X.xe s
/-- a new list comes -/
def FL (c : Ct) (G H : Hp) (r : D) : VK := fun z H' => ∃ G1 H1 p xs l, Gr G H G1 H1 ∧ z = .ref p ∧ H1 p = none ∧ H' = upd H1 p (.lst xs) ∧ r = .list l ∧ RpA c G1 xs l
def Fp2 (c : Ct) (X : Cx) (g : Value → Value → Sem Value) (f : D → D → Option D) : Prop := ∀ (pins : List (Addr × Obj)) (s : Shared) (σ : L2.St) (H G : Hp) (x y : V) (v u : Value) (d e r : D), Inv X pins σ H s → Ge G H → RelV x v → RelV y u → RpT c G H x d → RpT c G H y e → f d e = some r →
  wpAny (model X.prog X.w) X.A (g v u) (EP X pins σ (FL c G H r)) X.xe s
def Fp1 (c : Ct) (X : Cx) (g : Value → Sem Value) (f : D → Option D) : Prop := ∀ (pins : List (Addr × Obj)) (s : Shared) (σ : L2.St) (H G : Hp) (x : V) (v : Value) (d r : D), Inv X pins σ H s → Ge G H → RelV x v → RpT c G H x d → f d = some r →
  wpAny (model X.prog X.w) X.A (g v) (EP X pins σ (FL c G H r)) X.xe s
/-- the same thing from another place -/
theorem same_gr {z : V} {r : D} (h : Ge G H) (q : Rp c G z r) : ∃ G', Gr G H G' H ∧ Rp c G' z r := ⟨G, Gr.refl h, q⟩
theorem FL.post {v : V} {r : D} {H' : Hp} (E : ER c Pr G H σ ρ) (h : FL c G H r v H') : PostF c Pr G σ ρ r v H' := by
  obtain ⟨G1, H1, p, xs, l, g, rfl, n, rfl, rfl, ra⟩ := h
  exact ⟨G1, _, g.ge, (E.gr g).newL n ra, .inl ⟨l, rfl, rfl⟩⟩

/-- two operands, then the operation -/
theorem k2 {a b : Expr} {p q : Pk} {f : D → D → Option D} {d : D} {pins : List (Addr × Obj)} {s : Shared} {R : Value → Value → Shared → Prop} (ha : CK c X a p) (hb : CK c X b q) (I : Inv X pins σ H s) (E : ER c Pr G H σ ρ) (h : o2 f p q ρ = some (d, ρ'))
    (k : ∀ (v u : Value) (s2 : Shared) (x y : V) (G2 H2 : Hp) (d1 d2 : D), Inv X pins σ H2 s2 → Ge G G2 → ER c Pr G2 H2 σ ρ' → RelV x v → RelV y u → RpT c G2 H2 x d1 → RpT c G2 H2 y d2 → f d1 d2 = some d → R v u s2) :
    wpAny (model X.prog X.w) X.A (eval a X.env) (fun v s1 => wpAny (model X.prog X.w) X.A (eval b X.env) (fun u s2 => R v u s2) X.xe s1) X.xe s := by
  unfold o2 at h
  cases hp : p ρ with
  | none => rw [hp] at h; cases h
  | some z1 =>
    obtain ⟨t, ρ1⟩ := z1
    rw [hp] at h
    cases hq : q ρ1 with
    | none => simp only [hq] at h; cases h
    | some z2 =>
      obtain ⟨t2, ρ2⟩ := z2
      simp only [hq] at h
      cases e1 : t ρ2 with
      | none => simp only [e1] at h; cases h
      | some d1 =>
        cases e2 : t2 ρ2 with
        | none => simp only [e1, e2] at h; cases h
        | some d2 =>
          simp only [e1, e2] at h
          cases e3 : f d1 d2 with
          | none => simp only [e3] at h; cases h
          | some r =>
            simp only [e3] at h
            cases h
            refine thn (ha pins s σ H Pr G ρ ρ1 t I E hp) fun v s1 ⟨x, H1, I1, r1, G1, g1, E1, k1⟩ => ?_
            refine thn (hb pins s1 σ H1 Pr G1 ρ1 ρ' t2 I1 E1 hq) fun u s2 ⟨y, H2, I2, r2, G2, g2, E2, k2⟩ => ?_
            exact k v u s2 x y G2 H2 d1 d2 I2 (g1.trans g2) E2 r1 r2 (k1 G2 H2 ρ' d1 g2 E2 e1) (k2 G2 H2 ρ' d2 (Ge.refl _) E2 e2) e3
theorem k1 {a : Expr} {p : Pk} {f : D → Option D} {d : D} {pins : List (Addr × Obj)} {s : Shared} {R : Value → Shared → Prop} (ha : CK c X a p) (I : Inv X pins σ H s) (E : ER c Pr G H σ ρ) (h : o1 f p ρ = some (d, ρ'))
    (k : ∀ (v : Value) (s2 : Shared) (x : V) (G2 H2 : Hp) (d1 : D), Inv X pins σ H2 s2 → Ge G G2 → ER c Pr G2 H2 σ ρ' → RelV x v → RpT c G2 H2 x d1 → f d1 = some d → R v s2) :
    wpAny (model X.prog X.w) X.A (eval a X.env) R X.xe s := by
  unfold o1 at h
  cases hp : p ρ with
  | none => rw [hp] at h; cases h
  | some z1 =>
    obtain ⟨t, ρ1⟩ := z1
    rw [hp] at h
    cases e1 : t ρ1 with
    | none => simp only [e1] at h; cases h
    | some d1 =>
      simp only [e1] at h
      cases e3 : f d1 with
      | none => simp only [e3] at h; cases h
      | some r =>
        simp only [e3] at h
        cases h
        refine thn (ha pins s σ H Pr G ρ ρ' t I E hp) fun v s1 ⟨x, H1, I1, r1, G1, g1, E1, kk⟩ => ?_
        exact k v s1 x G1 H1 d1 I1 g1 E1 r1 (kk G1 H1 ρ' d1 (Ge.refl _) E1 e1) e3
theorem PostE.of {v : V} {r : D} {G2 H2 G3 H3 : Hp} (g : Ge G G2) (E : ER c Pr G2 H2 σ ρ) (g2 : Gr G2 H2 G3 H3) (q : Rp c G3 v r) : PostE c Pr G σ ρ r v H3 := ⟨G3, g.trans g2.ge, E.gr g2, q⟩
theorem ce_bin {a b : Expr} {op : Operator} {pos : Pos} {p q : Pk} {f : D → D → Option D} (ho : Op2 c X (binaryOp op) f) (ha : CK c X a p) (hb : CK c X b q) : CE c X (.BinOp a op b pos) (o2 f p q) := by
  intro pins s σ H Pr G ρ ρ' d I E h
  refine wpAny_BinOp (k2 ha hb I E h fun v u s2 x y G2 H2 d1 d2 I2 g E2 r1 r2 t1 t2 e => ?_)
  exact thn (ho pins s2 σ H2 G2 x y v u d1 d2 d I2 E2.gh r1 r2 t1 t2 e) fun z s3 ⟨w', H3, I3, r3, G3, g3, q3⟩ => ⟨w', H3, I3, r3, PostE.of g E2 g3 q3⟩
theorem PostF.of {v : V} {r : D} {G2 H2 H3 : Hp} (g : Ge G G2) (E : ER c Pr G2 H2 σ ρ) (h : FL c G2 H2 r v H3) : PostF c Pr G σ ρ r v H3 := by
  obtain ⟨G', o, g', E', k⟩ := FL.post E h
  exact ⟨G', o, g.trans g', E', k⟩
theorem cf_bin {a b : Expr} {op : Operator} {pos : Pos} {p q : Pk} {f : D → D → Option D} (ho : Fp2 c X (binaryOp op) f) (ha : CK c X a p) (hb : CK c X b q) : CF c X (.BinOp a op b pos) (o2 f p q) := by
  intro pins s σ H Pr G ρ ρ' d I E h
  refine wpAny_BinOp (k2 ha hb I E h fun v u s2 x y G2 H2 d1 d2 I2 g E2 r1 r2 t1 t2 e => ?_)
  exact thn (ho pins s2 σ H2 G2 x y v u d1 d2 d I2 E2.gh r1 r2 t1 t2 e) fun z s3 ⟨w', H3, I3, r3, q3⟩ => ⟨w', H3, I3, r3, PostF.of g E2 q3⟩
theorem ce_un {a : Expr} {op : UnaryOp} {pos : Pos} {p : Pk} {f : D → Option D} (ho : Op1 c X (unaryOp op) f) (ha : CK c X a p) : CE c X (.UnaryOp op a pos) (o1 f p) := by
  intro pins s σ H Pr G ρ ρ' d I E h
  refine UnaryOp_ (k1 ha I E h fun v s2 x G2 H2 d1 I2 g E2 r1 t1 e => ?_)
  exact thn (ho pins s2 σ H2 G2 x v d1 d I2 E2.gh r1 t1 e) fun z s3 ⟨w', H3, I3, r3, G3, g3, q3⟩ => ⟨w', H3, I3, r3, PostE.of g E2 g3 q3⟩
/-! ### comparisons -/
theorem ce_cmp {a b : Expr} {op : CmpOp} {pos : Pos} {p q : Pk} {f : D → D → Option D} (ho : Op2 c X (compareOp op) f) (ha : CK c X a p) (hb : CK c X b q) (hm : behindInMarks op b = false) : CE c X (.Compare a [op] [b] pos) (o2 f p q) := by
  intro pins s σ H Pr G ρ ρ' d I E h
  refine wpAny_Compare1 (k2 ha hb I E h fun v u s2 x y G2 H2 d1 d2 I2 g E2 r1 r2 t1 t2 e => ?_) hm
  exact thn (ho pins s2 σ H2 G2 x y v u d1 d2 d I2 E2.gh r1 r2 t1 t2 e) fun z s3 ⟨w', H3, I3, r3, G3, g3, q3⟩ => ⟨w', H3, I3, r3, PostE.of g E2 g3 q3⟩
theorem PostT.of {b : Bool} {G2 H2 G3 H3 : Hp} (g : Ge G G2) (E : ER c Pr G2 H2 σ ρ) (g2 : Gr G2 H2 G3 H3) : PostT c Pr G σ ρ b b H3 := ⟨rfl, G3, g.trans g2.ge, E.gr g2⟩
theorem ct_cmp {a b : Expr} {op : CmpOp} {pos : Pos} {p q : Pk} {f : D → D → Option D} (ho : Op2 c X (compareOp op) f) (ha : CK c X a p) (hb : CK c X b q) (hm : behindInMarks op b = false) : CT c X (.Compare a [op] [b] pos) (o2 f p q) := by
  intro pins s σ H Pr G ρ ρ' k I E h
  refine wpAny_isTrue_Compare1 (thn (k2 (R := fun v u s2 => wpAny (model X.prog X.w) X.A (compareOp op v u) (fun z s3 => ∃ H3, Inv X pins σ H3 s3 ∧ z = Value.bool k ∧ PostT c Pr G σ ρ' k k H3) X.xe s2) ha hb I E h fun v u s2 x y G2 H2 d1 d2 I2 g E2 r1 r2 t1 t2 e => ?_) fun v s1 h1 => thn h1 fun u s2 h2 => thn h2 fun z s3 ⟨H3, I3, ez, q3⟩ => ?_) hm
  · exact thn (ho pins s2 σ H2 G2 x y v u d1 d2 _ I2 E2.gh r1 r2 t1 t2 e) fun z s3 ⟨w', H3, I3, r3, G3, g3, q3⟩ => ⟨H3, I3, by cases q3; exact r3, PostT.of g E2 g3⟩
  · subst ez
    exact wpAny_truthy_bool ⟨H3, I3, q3⟩
/-- an expression whose value is a truth, as a test -/
theorem CE.ct {e : Expr} {f : Ev} (h : CE c X e f) (he : ∀ whole, isTrue e X.env whole = (do let v ← whole; standAt e.pos; holding [v] (truthy v)) := by intro _; rfl) : CT c X e f := by
  intro pins s σ H Pr G ρ ρ' b I E q
  refine isTrue_plain (thn (h pins s σ H Pr G ρ ρ' _ I E q) fun v s1 ⟨x, H1, I1, r1, G1, g1, E1, q1⟩ => ?_) (he _)
  cases q1
  cases r1
  exact wpAny_truthy_bool ⟨H1, I1, rfl, G1, g1, E1⟩
/-! ### and, or, not -/
theorem eAnd_true : ∀ {a b : Ev} {ρ : List O} {z : D × List O}, eAnd a b ρ = some z → ∃ k ρ1, a ρ = some (.bool k, ρ1) ∧ (k = true → b ρ1 = some z) ∧ (k = false → z = (.bool false, ρ1)) := by
  intro a b ρ z h
  unfold eAnd at h
  split at h
  · exact ⟨true, _, by assumption, fun _ => h, (fun e => nomatch e)⟩
  · exact ⟨false, _, by assumption, (fun e => nomatch e), fun _ => (Option.some.inj h).symm⟩
  · cases h
theorem eOr_true : ∀ {a b : Ev} {ρ : List O} {z : D × List O}, eOr a b ρ = some z → ∃ k ρ1, a ρ = some (.bool k, ρ1) ∧ (k = false → b ρ1 = some z) ∧ (k = true → z = (.bool true, ρ1)) := by
  intro a b ρ z h
  unfold eOr at h
  split at h
  · exact ⟨true, _, by assumption, (fun e => nomatch e), fun _ => (Option.some.inj h).symm⟩
  · exact ⟨false, _, by assumption, fun _ => h, (fun e => nomatch e)⟩
  · cases h
section
variable {a b : Expr} {rest : List Expr} {pos : Pos} {f g : Ev}
theorem cw_and1 (ha : CT c X a f) : CW c X (.BoolOp .And [a] pos) f := by
  intro wh pins s σ H Pr G ρ ρ' k I E h
  refine isTrue_and (thn (ha pins s σ H Pr G ρ ρ' k I E h) fun z s1 e => ?_)
  cases z with
  | true => exact isTrue_and_nil e
  | false => exact e
theorem cw_or1 (ha : CT c X a f) : CW c X (.BoolOp .Or [a] pos) f := by
  intro wh pins s σ H Pr G ρ ρ' k I E h
  refine isTrue_or (thn (ha pins s σ H Pr G ρ ρ' k I E h) fun z s1 e => ?_)
  cases z with
  | false => exact isTrue_or_nil e
  | true => exact e
theorem cw_and (ha : CT c X a f) (hb : CW c X (.BoolOp .And (b :: rest) pos) g) : CW c X (.BoolOp .And (a :: b :: rest) pos) (eAnd f g) := by
  intro wh pins s σ H Pr G ρ ρ' k I E h
  obtain ⟨j, ρ1, h1, h2, h3⟩ := eAnd_true h
  refine isTrue_and (thn (ha pins s σ H Pr G ρ ρ1 j I E h1) fun z s1 ⟨H1, I1, ez, G1, g1, E1⟩ => ?_)
  subst ez
  cases z with
  | true =>
    refine thn (hb wh pins s1 σ H1 Pr G1 ρ1 ρ' k I1 E1 (h2 rfl)) fun z s2 ⟨H2, I2, ez, G2, g2, E2⟩ => ⟨H2, I2, ez, G2, g1.trans g2, E2⟩
  | false =>
    have e := h3 rfl
    cases e
    exact ⟨H1, I1, rfl, G1, g1, E1⟩
theorem cw_or (ha : CT c X a f) (hb : CW c X (.BoolOp .Or (b :: rest) pos) g) : CW c X (.BoolOp .Or (a :: b :: rest) pos) (eOr f g) := by
  intro wh pins s σ H Pr G ρ ρ' k I E h
  obtain ⟨j, ρ1, h1, h2, h3⟩ := eOr_true h
  refine isTrue_or (thn (ha pins s σ H Pr G ρ ρ1 j I E h1) fun z s1 ⟨H1, I1, ez, G1, g1, E1⟩ => ?_)
  subst ez
  cases z with
  | false =>
    refine thn (hb wh pins s1 σ H1 Pr G1 ρ1 ρ' k I1 E1 (h2 rfl)) fun z s2 ⟨H2, I2, ez, G2, g2, E2⟩ => ⟨H2, I2, ez, G2, g1.trans g2, E2⟩
  | true =>
    have e := h3 rfl
    cases e
    exact ⟨H1, I1, rfl, G1, g1, E1⟩
theorem ce_one {op} (h : CE c X a f) : CE c X (.BoolOp op [a] pos) f := fun pins s σ H Pr G ρ ρ' d I E q => BoolOp_one (h pins s σ H Pr G ρ ρ' d I E q)
theorem ce_and (ha : CE c X a f) (hb : CE c X (.BoolOp .And (b :: rest) pos) g) : CE c X (.BoolOp .And (a :: b :: rest) pos) (eAnd f g) := by
  intro pins s σ H Pr G ρ ρ' d I E h
  obtain ⟨j, ρ1, h1, h2, h3⟩ := eAnd_true h
  refine BoolOp_and (thn (ha pins s σ H Pr G ρ ρ1 _ I E h1) fun v s1 ⟨x, H1, I1, r1, G1, g1, E1, q1⟩ => ?_)
  cases q1
  cases r1
  refine wpAny_truthy_bool ?_
  cases j with
  | true => exact thn (hb pins s1 σ H1 Pr G1 ρ1 ρ' d I1 E1 (h2 rfl)) fun v s2 ⟨x, H2, I2, r2, G2, g2, E2, q2⟩ => ⟨x, H2, I2, r2, G2, g1.trans g2, E2, q2⟩
  | false =>
    have e := h3 rfl
    cases e
    exact ⟨.bl false, H1, I1, rfl, G1, g1, E1, .bl false⟩
theorem ce_or (ha : CE c X a f) (hb : CE c X (.BoolOp .Or (b :: rest) pos) g) : CE c X (.BoolOp .Or (a :: b :: rest) pos) (eOr f g) := by
  intro pins s σ H Pr G ρ ρ' d I E h
  obtain ⟨j, ρ1, h1, h2, h3⟩ := eOr_true h
  refine BoolOp_or (thn (ha pins s σ H Pr G ρ ρ1 _ I E h1) fun v s1 ⟨x, H1, I1, r1, G1, g1, E1, q1⟩ => ?_)
  cases q1
  cases r1
  refine wpAny_truthy_bool ?_
  cases j with
  | false => exact thn (hb pins s1 σ H1 Pr G1 ρ1 ρ' d I1 E1 (h2 rfl)) fun v s2 ⟨x, H2, I2, r2, G2, g2, E2, q2⟩ => ⟨x, H2, I2, r2, G2, g1.trans g2, E2, q2⟩
  | true =>
    have e := h3 rfl
    cases e
    exact ⟨.bl true, H1, I1, rfl, G1, g1, E1, .bl true⟩
theorem o1_some {f : D → Option D} {p : Pk} {z : D × List O} (h : o1 f p ρ = some z) : ∃ t d, p ρ = some (t, z.2) ∧ t z.2 = some d ∧ f d = some z.1 := by
  unfold o1 at h
  split at h
  · rename_i t ρ1 hp
    split at h
    · rename_i d hd
      split at h
      · rename_i r hr
        cases h
        exact ⟨t, d, hp, hd, hr⟩
      · cases h
    · cases h
  · cases h
theorem ct_not (ha : CT c X a f) : CT c X (.UnaryOp .Not a pos) (o1 sNot (kE f)) := by
  intro pins s σ H Pr G ρ ρ' k I E h
  obtain ⟨t, d, h1, h2, h3⟩ := o1_some h
  unfold kE at h1
  split at h1
  · rename_i x ρ1 hf
    cases h1
    cases h2
    cases d with
    | bool j =>
      cases h3
      exact isTrue_not (thn (ha pins s σ H Pr G ρ ρ' j I E hf) fun z s1 ⟨H1, I1, ez, G1, g1, E1⟩ => ⟨H1, I1, by rw [ez], G1, g1, E1⟩)
    | _ => cases h3
  · cases h1
theorem ce_not (ha : CE c X a f) : CE c X (.UnaryOp .Not a pos) (o1 sNot (kE f)) := by
  intro pins s σ H Pr G ρ ρ' k I E h
  obtain ⟨t, d, h1, h2, h3⟩ := o1_some h
  unfold kE at h1
  split at h1
  · rename_i x ρ1 hf
    cases h1
    cases h2
    cases d with
    | bool j =>
      cases h3
      refine UnaryOp_ (thn (ha pins s σ H Pr G ρ ρ' _ I E hf) fun v s1 ⟨x, H1, I1, r1, G1, g1, E1, q1⟩ => ?_)
      cases q1
      cases r1
      exact not_of (wpAny_truthy_bool ⟨.bl (!j), H1, I1, rfl, G1, g1, E1, .bl _⟩)
    | _ => cases h3
  · cases h1
end
end
end VL

set_option Elab.async false
set_option linter.all false
set_option maxRecDepth 100000
/-! V4: the operations, by values. -/
namespace VL
open PySem PySem.Spec PyProof.Rows L2

section
variable {c : Ct} {X : Cx} {Pr G H : Hp} {σ : L2.St} {ρ ρ' : List O} {pins : List (Addr × Obj)} {s : Shared}

/-- a new tuple is laid: just as it is made -/
theorem laidT {h' : Heap} {tk : Nat} {vs : List V} {us : List Value} {ds : List D} (I : Inv X pins σ H { s with heap := h', toks := tk }) (g : Ge G H) (r : Vals vs us) (hz : vs.length ≤ sizeLine) (ra : RpA c G vs ds) :
    EP X pins σ (fun z H' => ∃ G', Gr G H G' H' ∧ Rp c G' z (.tuple ds)) (.ref h'.objs.size) { s with heap := h'.push { cls := .type "tuple", data := .seq us.toArray }, toks := tk } := by
  have n : H h'.objs.size = none := I.hok.fresh (Nat.le_refl _)
  have gr := Gr.laid (G := G) (a := h'.objs.size) (o := .frz { cls := .type "tuple", data := .seq us.toArray } (.tup vs)) g n
  refine ⟨.ref h'.objs.size, _, I.laid (o := .frz { cls := .type "tuple", data := .seq us.toArray } (.tup vs)) (t' := tk) (fun b o q => Heap.get?_push_of_some _ q) (Nat.le_refl _) ?_, rfl, _, gr, .tup (o := { cls := .type "tuple", data := .seq us.toArray }) upd_same rfl (ra.mono gr.ge)⟩
  exact ⟨Heap.get?_push_size _ rfl, hz, us, r, IsTup.new _ _⟩
theorem laidL {h' : Heap} {tk : Nat} {vs : List V} {us : List Value} {ds : List D} (I : Inv X pins σ H { s with heap := h', toks := tk }) (g : Ge G H) (r : Vals vs us) (hz : vs.length ≤ sizeLine) (ra : RpA c G vs ds) :
    EP X pins σ (FL c G H (.list ds)) (.ref h'.objs.size) { s with heap := h'.push { cls := .type "list", data := .seq us.toArray }, toks := tk } := by
  have n : H h'.objs.size = none := I.hok.fresh (Nat.le_refl _)
  refine ⟨.ref h'.objs.size, upd H h'.objs.size (.lst vs), I.laid (o := .lst vs) (t' := tk) (fun b o q => Heap.get?_push_of_some _ q) (Nat.le_refl _) ?_, rfl, G, H, h'.objs.size, vs, ds, Gr.refl g, rfl, n, rfl, rfl, ra⟩
  exact ⟨hz, us, 0, r, Heap.get?_push_size _ rfl⟩
theorem gr_same {z : V} {r : D} (g : Ge G H) (q : Rp c G z r) : ∃ G', Gr G H G' H ∧ Rp c G' z r := ⟨G, Gr.refl g, q⟩
/-- a rule whose end stands in the same heap -/
theorem end_int {i : Int} {t : Nat} {H' : Hp} (I : Inv X pins σ H s) (g : Ge G H) : ∃ G', Gr G H G' H ∧ Rp c G' (.int i) (.int i) := gr_same g (.int i)

theorem _root_.L2.Inv.tupAt {a : Addr} {o : Obj} {xs : List V} (I : Inv X pins σ H s) (g : Ge G H) (h : G a = some (.frz o (.tup xs))) : ∃ its : List Value, Vals xs its ∧ IsTup s.heap a its.toArray ∧ xs.length ≤ sizeLine :=
  I.tuple (.inl (.inr ⟨o, g _ _ h⟩))
theorem op_neg : Op1 c X (unaryOp .USub) sNeg := by
  intro pins s σ H G x v d r I g rx t e
  cases d with
  | int i =>
    cases e
    rw [t.int] at rx
    exact un_neg pins s σ H _ v _ I rx ⟨i, rfl, gr_same g (.int _)⟩
  | _ => cases e
theorem op_addV : Op2 c X (binaryOp .Add) sAdd := by
  intro pins s σ H G x y v u d e r I g rx ry t1 t2 h
  cases d with
  | int i =>
    cases e with
    | int j =>
      cases h
      rw [t1.int] at rx
      rw [t2.int] at ry
      exact op_add pins s σ H _ _ v u _ I rx ry ⟨i, j, rfl, rfl, gr_same g (.int _)⟩
    | _ => cases h
  | tuple l =>
    cases e with
    | tuple m =>
      have h : (if l.length + m.length ≤ LIM then some (PyData.tuple (l ++ m)) else none) = some r := h
      by_cases hl : l.length + m.length ≤ LIM
      · rw [if_pos hl] at h
        cases h
        obtain ⟨a, xs, o1, rfl, f1, n1, q1, r1⟩ := t1.seqT g
        obtain ⟨b, ys, o2, rfl, f2, n2, q2, r2⟩ := t2.seqT g
        cases rx
        cases ry
        obtain ⟨its1, v1, p1, z1⟩ := I.tupAt g f1
        obtain ⟨its2, v2, p2, z2⟩ := I.tupAt g f2
        have lm1 := r1.length
        have lm2 := r2.length
        have big : LIM ≤ sizeLine := by decide
        by_cases e1 : its1 = []
        · subst e1
          cases v1
          cases r1
          exact cat_tup0 p1 p2 ⟨.ref b, H, I, rfl, gr_same g (.tup f2 n2 r2)⟩
        · refine HT.cat_tup p1 p2 e1 (fun e2 => ?_) (fun e2 => ?_) (by rw [← v1.length, ← v2.length]; omega)
          · subst e2
            cases v2
            cases r2
            exact ⟨.ref a, H, I, rfl, gr_same g (by rw [List.append_nil]; exact .tup f1 n1 r1)⟩
          · exact laidT (h' := s.heap) (tk := s.toks) I g (v1.append v2) (by rw [List.length_append]; omega) (r1.append r2)
      · rw [if_neg hl] at h
        cases h
    | _ => cases h
  | _ => cases h
theorem fp_cat (C : XC c X) : Fp2 c X (binaryOp .Add) sCat := by
  intro pins s σ H G x y v u d e r I g rx ry t1 t2 h
  cases d with
  | list l =>
    cases e with
    | list m =>
      have h : (if l.length + m.length ≤ LIM then some (PyData.list (l ++ m)) else none) = some r := h
      by_cases hl : l.length + m.length ≤ LIM
      · rw [if_pos hl] at h
        cases h
        obtain ⟨a, xs, rfl, q1, r1⟩ := t1.seqL g
        obtain ⟨b, ys, rfl, q2, r2⟩ := t2.seqL g
        cases rx
        cases ry
        obtain ⟨its1, v1, p1, z1⟩ := I.list (by rw [C.K]; exact q1)
        obtain ⟨its2, v2, p2, z2⟩ := I.list (by rw [C.K]; exact q2)
        have lm1 := r1.length
        have lm2 := r2.length
        have big : LIM ≤ sizeLine := by decide
        obtain ⟨⟨cls, dd, data, sl⟩, n, ho, hc, hd0, hd⟩ := p1
        obtain ⟨⟨cls2, dd2, data2, sl2⟩, n2, ho2, hc2, hd02, hd2⟩ := p2
        simp only at hc hd hc2 hd2
        subst hc hd hc2 hd2
        have e : its1.toArray ++ its2.toArray = (its1 ++ its2).toArray := by simp
        refine concat_meets ⟨_, ho, rfl⟩ ⟨_, ho2, rfl⟩ noFill_list_add seq_list_add PySem.F.slot_list_add PySem.F.entry_list_add (PySem.F.args_list_add_2 _ _)
          (list_addW a b its1.toArray its2.toArray n n2 dd dd2 sl sl2 (by rw [List.size_toArray, List.size_toArray, ← v1.length, ← v2.length]; omega)) ⟨ho, ho2, ?_⟩
        rw [e]
        exact laidL (h' := s.heap) (tk := s.toks) I g (v1.append v2) (by rw [List.length_append]; omega) (r1.append r2)
      · rw [if_neg hl] at h
        cases h
    | _ => cases h
  | _ => cases h
/-- an operation on two whole numbers, by its rule -/
theorem op_ii {f : Value → Value → Sem Value} {C : Int → Int → Prop} {k : Int → Int → V} {k' : Int → Int → D} {F : D → D → Option D} (ho : OpR X f (rI C k)) (hk : ∀ i j (G : Hp), Rp c G (k i j) (k' i j))
    (hF : ∀ d e r, F d e = some r → ∃ i j, d = .int i ∧ e = .int j ∧ C i j ∧ r = k' i j) : Op2 c X f F := by
  intro pins s σ H G x y v u d e r I g rx ry t1 t2 h
  obtain ⟨i, j, rfl, rfl, hc, rfl⟩ := hF d e r h
  rw [t1.int] at rx
  rw [t2.int] at ry
  exact ho pins s σ H _ _ v u _ I rx ry ⟨i, j, rfl, rfl, hc, gr_same g (hk i j G)⟩
theorem op_ii0 {f : Value → Value → Sem Value} {k : Int → Int → V} {k' : Int → Int → D} {F : D → D → Option D} (ho : OpR X f (rI0 k)) (hk : ∀ i j (G : Hp), Rp c G (k i j) (k' i j))
    (hF : ∀ d e r, F d e = some r → ∃ i j, d = .int i ∧ e = .int j ∧ r = k' i j) : Op2 c X f F := by
  intro pins s σ H G x y v u d e r I g rx ry t1 t2 h
  obtain ⟨i, j, rfl, rfl, rfl⟩ := hF d e r h
  rw [t1.int] at rx
  rw [t2.int] at ry
  exact ho pins s σ H _ _ v u _ I rx ry ⟨i, j, rfl, rfl, gr_same g (hk i j G)⟩
theorem op_subV : Op2 c X (binaryOp .Sub) sSub := op_ii0 (k' := fun i j => .int (i - j)) op_sub (fun _ _ _ => .int _) fun d e r h => by
  cases d <;> cases e <;> first | (cases h; exact ⟨_, _, rfl, rfl, rfl⟩) | cases h
theorem op_ltV : Op2 c X (compareOp .Lt) sLt := op_ii0 (k' := fun i j => .bool (decide (i < j))) op_lt (fun _ _ _ => .bl _) fun d e r h => by
  cases d <;> cases e <;> first | (cases h; exact ⟨_, _, rfl, rfl, rfl⟩) | cases h
theorem op_leV : Op2 c X (compareOp .LtE) sLe := op_ii0 (k' := fun i j => .bool (decide (i ≤ j))) op_le (fun _ _ _ => .bl _) fun d e r h => by
  cases d <;> cases e <;> first | (cases h; exact ⟨_, _, rfl, rfl, rfl⟩) | cases h
theorem op_gtV : Op2 c X (compareOp .Gt) sGt := op_ii0 (k' := fun i j => .bool (decide (j < i))) op_gt (fun _ _ _ => .bl _) fun d e r h => by
  cases d <;> cases e <;> first | (cases h; exact ⟨_, _, rfl, rfl, rfl⟩) | cases h
theorem op_geV : Op2 c X (compareOp .GtE) sGe := op_ii0 (k' := fun i j => .bool (decide (j ≤ i))) op_ge (fun _ _ _ => .bl _) fun d e r h => by
  cases d <;> cases e <;> first | (cases h; exact ⟨_, _, rfl, rfl, rfl⟩) | cases h
theorem op_modV : Op2 c X (binaryOp .Mod) sMod := op_ii (k' := fun i j => .int (i % j)) op_mod (fun _ _ _ => .int _) fun d e r h => by
  cases d <;> cases e <;> try (cases h; done)
  rename_i i j
  have h : (if 0 < j then some (PyData.int (i % j)) else none) = some r := h
  by_cases q : 0 < j
  · rw [if_pos q] at h
    cases h
    exact ⟨i, j, rfl, rfl, q, rfl⟩
  · rw [if_neg q] at h
    cases h
theorem op_divV : Op2 c X (binaryOp .FloorDiv) sDiv := op_ii (k' := fun i j => .int (i / j)) op_fdivW (fun _ _ _ => .int _) fun d e r h => by
  cases d <;> cases e <;> try (cases h; done)
  rename_i i j
  have h : (if (decide (0 < j) && decide (j.natAbs.log2 < 9000)) = true then some (PyData.int (i / j)) else none) = some r := h
  by_cases q : (decide (0 < j) && decide (j.natAbs.log2 < 9000)) = true
  · rw [if_pos q] at h
    cases h
    simp only [Bool.and_eq_true, decide_eq_true_eq] at q
    exact ⟨i, j, rfl, rfl, q, rfl⟩
  · rw [if_neg q] at h
    cases h
theorem small64 {j : Int} (h : j.natAbs < 2 ^ 64) : -(2 ^ 64) < j ∧ j < 2 ^ 64 := by
  have e : ((2 ^ 64 : Nat) : Int) = 2 ^ 64 := by decide
  omega
theorem mulOk_ok {i j : Int} (h : mulOk i j = true) : IntMulOk i j := by
  unfold mulOk at h
  simp only [Bool.or_eq_true, decide_eq_true_eq] at h
  rcases h with (h | h) | h
  · exact (show CMul i j from .inr (small64 h)).ok
  · exact (show CMul i j from .inl (small64 h)).ok
  · exact (show CMulW i j from h).ok
theorem op_mulA : OpR X (binaryOp .Mult) (rI (fun i j => mulOk i j = true) fun i j => .int (i * j)) := opI fun _ _ _ _ _ _ _ hc q => mul_int q (mulOk_ok hc)
theorem op_mulV : Op2 c X (binaryOp .Mult) sMul := op_ii (k' := fun i j => .int (i * j)) op_mulA (fun _ _ _ => .int _) fun d e r h => by
  cases d <;> cases e <;> try (cases h; done)
  rename_i i j
  have h : (if mulOk i j = true then some (PyData.int (i * j)) else none) = some r := h
  by_cases q : mulOk i j = true
  · rw [if_pos q] at h
    cases h
    exact ⟨i, j, rfl, rfl, q, rfl⟩
  · rw [if_neg q] at h
    cases h
/-! ### == and in -/
theorem ge_hu (C : XC c X) (n : Nat) (h : n ≤ 100) : X.A.units + n < cLine := Nat.lt_of_le_of_lt (by omega) C.hu
theorem op_eqV (C : XC c X) : Op2 c X (compareOp .Eq) sEq := by
  intro pins s σ H G x y v u d e r I g rx ry t1 t2 h
  unfold sEq at h
  split at h
  · rename_i q
    simp only [Bool.and_eq_true, decide_eq_true_eq] at q
    cases h
    obtain ⟨as, ra⟩ := t1.reads C I g q.1.1 rx
    obtain ⟨bs, rb⟩ := t2.reads C I g q.1.2 ry
    refine SeqAt.eq_plain ra rb q.1.1 q.1.2 ?_ ⟨.bl _, H, I, rfl, gr_same g (.bl _)⟩
    have := C.hu
    have q2 : d.depth ≤ 60 := q.2
    omega
  · cases h
theorem op_neV (C : XC c X) : Op2 c X (compareOp .NotEq) sNe := by
  intro pins s σ H G x y v u d e r I g rx ry t1 t2 h
  unfold sNe at h
  split at h
  · rename_i q
    simp only [Bool.and_eq_true, decide_eq_true_eq] at q
    cases h
    obtain ⟨as, ra⟩ := t1.reads C I g q.1.1 rx
    obtain ⟨bs, rb⟩ := t2.reads C I g q.1.2 ry
    refine SeqAt.ne_plain ra rb q.1.1 q.1.2 ?_ ⟨.bl _, H, I, rfl, gr_same g (.bl _)⟩
    have := C.hu
    have q2 : d.depth ≤ 60 := q.2
    omega
  · cases h
theorem op_inV (C : XC c X) : Op2 c X (compareOp .In) sIn := by
  intro pins s σ H G x y v u d e r I g rx ry t1 t2 h
  have hu := C.hu
  unfold sIn at h
  split at h
  all_goals first
    | cases h; done
    | (split at h
       · rename_i q
         simp only [Bool.and_eq_true, decide_eq_true_eq] at q
         cases h
         obtain ⟨as, ra⟩ := t1.reads C I g q.1.1 rx
         obtain ⟨bs, rb⟩ := t2.reads C I g (by simpa [PyData.plain] using q.1.2) ry
         have q2 : d.depth ≤ 60 := q.2
         first
           | exact SeqAt.in_list_data rb ra q.1.2 q.1.1 (by omega) ⟨.bl _, H, I, rfl, gr_same g (.bl _)⟩
           | exact SeqAt.in_tuple_data rb ra q.1.2 q.1.1 (by omega) ⟨.bl _, H, I, rfl, gr_same g (.bl _)⟩
       · cases h)
theorem op_ninV (C : XC c X) : Op2 c X (compareOp .NotIn) sNin := by
  intro pins s σ H G x y v u d e r I g rx ry t1 t2 h
  have hu := C.hu
  unfold sNin at h
  split at h
  all_goals first
    | cases h; done
    | (split at h
       · rename_i q
         simp only [Bool.and_eq_true, decide_eq_true_eq] at q
         cases h
         obtain ⟨as, ra⟩ := t1.reads C I g q.1.1 rx
         obtain ⟨bs, rb⟩ := t2.reads C I g (by simpa [PyData.plain] using q.1.2) ry
         have q2 : d.depth ≤ 60 := q.2
         first
           | exact SeqAt.notIn_list_data rb ra q.1.2 q.1.1 (by omega) ⟨.bl _, H, I, rfl, gr_same g (.bl _)⟩
           | exact SeqAt.notIn_tuple_data rb ra q.1.2 q.1.1 (by omega) ⟨.bl _, H, I, rfl, gr_same g (.bl _)⟩
       · cases h)
/-! ### is -/
theorem rpt_non {G H : Hp} {v : V} {d : D} (t : RpT c G H v d) : (decide (v = .non)) = sNoneB d := by
  cases t with
  | of r => cases r <;> rfl
  | lst _ _ => rfl
  | dic => rfl
theorem op_isV : Op2 c X (compareOp .Is) sIs := by
  intro pins s σ H G x y v u d e r I g rx ry t1 t2 h
  cases e with
  | none =>
    cases h
    rw [t2.non] at ry
    exact op_isN pins s σ H _ _ v u _ I rx ry ⟨rfl, gr_same g (by rw [rpt_non t1]; exact .bl _)⟩
  | bool b =>
    cases d with
    | bool a =>
      cases h
      rw [t1.bl] at rx
      rw [t2.bl] at ry
      exact op_is_bl pins s σ H _ _ v u _ I rx ry ⟨a, b, rfl, rfl, gr_same g (.bl _)⟩
    | _ => cases h
  | _ => cases d <;> cases h
theorem op_isnV : Op2 c X (compareOp .IsNot) sIsn := by
  intro pins s σ H G x y v u d e r I g rx ry t1 t2 h
  cases e with
  | none =>
    cases h
    rw [t2.non] at ry
    exact op_notN pins s σ H _ _ v u _ I rx ry ⟨rfl, gr_same g (by rw [rpt_non t1]; exact .bl _)⟩
  | bool b =>
    cases d with
    | bool a =>
      cases h
      rw [t1.bl] at rx
      rw [t2.bl] at ry
      exact op_isnot_bl pins s σ H _ _ v u _ I rx ry ⟨a, b, rfl, rfl, gr_same g (.bl _)⟩
    | _ => cases h
  | _ => cases d <;> cases h
end
end VL

set_option Elab.async false
set_option linter.all false
set_option maxRecDepth 100000
/-! V5: displays, calls of what is built in, methods, subscripts, slices, chains. -/
namespace VL
open PySem PySem.Spec PyProof.Rows L2

section
variable {c : Ct} {X : Cx} {Pr G H : Hp} {σ : L2.St} {ρ ρ' : List O} {e a b : Expr} {es : List Expr} {pos p : Pos} {x : Str}

/-! ### several expressions -/
theorem ca_nil : CA c X [] esNil := by
  intro pos pins s σ H Pr G ρ ρ' ds I E h
  cases h
  exact Calls.spliced_nil ⟨[], H, I, .nil, G, Ge.refl _, E, .nil⟩
theorem ca_cons {f : Ev} {r : Evs} (ha : CE c X e f) (hr : CA c X es r) (hs : starEach (e :: es) X.env = (false, eval e X.env) :: starEach es X.env := by rfl) : CA c X (e :: es) (esCons f r) := by
  intro pos pins s σ H Pr G ρ ρ' ds I E h
  unfold esCons at h
  cases h1 : f ρ with
  | none => rw [h1] at h; cases h
  | some z1 =>
    obtain ⟨d1, ρ1⟩ := z1
    rw [h1] at h
    cases h2 : r ρ1 with
    | none => simp only [h2] at h; cases h
    | some z2 =>
      obtain ⟨ds2, ρ2⟩ := z2
      simp only [h2] at h
      cases h
      rw [hs]
      show wpAny _ _ (spliced ((false, eval e X.env) :: backTo pos (starEach es X.env))) _ _ s
      refine Calls.spliced_cons (thn (ha pins s σ H Pr G ρ ρ1 d1 I E h1) fun u s1 ⟨x, H1, I1, r1, G1, g1, E1, q1⟩ => ?_)
      exact thn (hr pos pins s1 σ H1 Pr G1 ρ1 ρ' ds2 I1 E1 h2) fun us s2 ⟨xs, H2, I2, r2, G2, g2, E2, q2⟩ => ⟨x :: xs, H2, I2, .cons r1 r2, G2, g1.trans g2, E2, .cons (q1.mono g2) q2⟩
theorem ce_tup {x1} {f : Evs} (h : CA c X es f) : CE c X (.Tuple es x1 pos) (eTup f) := by
  intro pins s σ H Pr G ρ ρ' d I E q
  unfold eTup at q
  cases hf : f ρ with
  | none => rw [hf] at q; cases q
  | some z =>
    obtain ⟨ds, ρ1⟩ := z
    rw [hf] at q
    have q : (if ds.length ≤ LIM then some (PyData.tuple ds, ρ1) else none) = some (d, ρ') := q
    by_cases hl : ds.length ≤ LIM
    · rw [if_pos hl] at q
      cases q
      have big : LIM ≤ sizeLine := by decide
      refine wpAny_Tuple_spliced (thn (h pos pins s σ H Pr G ρ ρ' ds I E hf) fun us s1 ⟨vs, H1, I1, r1, G1, g1, E1, q1⟩ => ?_)
      have l1 := q1.length
      have l2 := r1.length
      refine ⟨by omega, ?_⟩
      obtain ⟨z, H2, I2, rz, G2, gr, rp⟩ := laidT (s := s1) (h' := s1.heap) (tk := s1.toks) I1 E1.gh r1 (by omega) q1
      exact ⟨z, H2, I2, rz, PostE.of g1 E1 gr rp⟩
    · rw [if_neg hl] at q
      cases q
theorem cf_lst {f : Evs} (h : CA c X es f) : CF c X (.List es pos) (eLst f) := by
  intro pins s σ H Pr G ρ ρ' d I E q
  unfold eLst at q
  cases hf : f ρ with
  | none => rw [hf] at q; cases q
  | some z =>
    obtain ⟨ds, ρ1⟩ := z
    rw [hf] at q
    have q : (if ds.length ≤ LIM then some (PyData.list ds, ρ1) else none) = some (d, ρ') := q
    by_cases hl : ds.length ≤ LIM
    · rw [if_pos hl] at q
      cases q
      have big : LIM ≤ sizeLine := by decide
      refine wpAny_List_spliced (thn (h pos pins s σ H Pr G ρ ρ' ds I E hf) fun us s1 ⟨vs, H1, I1, r1, G1, g1, E1, q1⟩ => ?_)
      have l1 := q1.length
      have l2 := r1.length
      refine ⟨by omega, ?_⟩
      obtain ⟨z, H2, I2, rz, fl⟩ := laidL (s := s1) (h' := s1.heap) (tk := s1.toks) I1 E1.gh r1 (by omega) q1
      exact ⟨z, H2, I2, rz, PostF.of g1 E1 fl⟩
    · rw [if_neg hl] at q
      cases q

/-! ### f(x), f(x, y) of what is built in -/
theorem spl1 {t : Sem Value} {M : Model} {A : Around} {Q : List Value → Shared → Prop} {E : Value → Shared → Prop} {s : Shared} (hs : starEach [a] X.env = [(false, eval a X.env)]) (h : wpAny M A (eval a X.env) (fun u s1 => Q [u] s1) E s) : wpAny M A (spliced (backTo pos (starEach [a] X.env))) Q E s := by
  rw [hs]
  exact Calls.spliced_cons (thn h fun u s1 q => Calls.spliced_nil q)
theorem spl2 {M : Model} {A : Around} {Q : List Value → Shared → Prop} {E : Value → Shared → Prop} {s : Shared} (hs : starEach [a, b] X.env = [(false, eval a X.env), (false, eval b X.env)]) (h : wpAny M A (eval a X.env) (fun v s1 => wpAny M A (eval b X.env) (fun u s2 => Q [v, u] s2) E s1) E s) :
    wpAny M A (spliced (backTo pos (starEach [a, b] X.env))) Q E s := by
  rw [hs]
  exact Calls.spliced_cons (thn h fun v s1 h1 => Calls.spliced_cons (thn h1 fun u s2 q => Calls.spliced_nil q))
section
variable {id T : String} {pk qk : Pk} {f : D → Option D} {f2 : D → D → Option D}
theorem ce_b1 (C : XC c X) (ho : Op1 c X (fun v => call (.builtin id) [v]) f) (hg : Gl X x) (hm : x ∈ bltNames) (hv : bootBuiltins x = some (.builtin id)) (ha : CK c X a pk) (hn : x ≠ "__name__" := by decide) (hdb : (x == ("__debug__" : Str)) = false := by decide)
    (hs : starEach [a] X.env = [(false, eval a X.env)] := by rfl) : CE c X (.Call (.Name x p) [a] [] pos) (o1 f pk) := by
  intro pins s σ H Pr G ρ ρ' d I E h
  refine wpAny_Call_Name_kw (ld_blt I hg (C.blt x hm) hv ?_ hn hdb)
  refine PyProof.Rows.callWith_builtin1 (spl1 (t := pure .none) hs (k1 ha I E h fun v s2 y G2 H2 d1 I2 g E2 r1 t1 e => ?_)) hs rfl
  exact thn (ho pins s2 σ H2 G2 y v d1 d I2 E2.gh r1 t1 e) fun z s3 ⟨w', H3, I3, r3, G3, g3, q3⟩ => ⟨w', H3, I3, r3, PostE.of g E2 g3 q3⟩
theorem ce_t1 (C : XC c X) (ho : Op1 c X (fun v => call (.type T) [v]) f) (hg : Gl X x) (hm : x ∈ bltNames) (hv : bootBuiltins x = some (.type T)) (ha : CK c X a pk) (hn : x ≠ "__name__" := by decide) (hdb : (x == ("__debug__" : Str)) = false := by decide)
    (hs : starEach [a] X.env = [(false, eval a X.env)] := by rfl) : CE c X (.Call (.Name x p) [a] [] pos) (o1 f pk) := by
  intro pins s σ H Pr G ρ ρ' d I E h
  refine wpAny_Call_Name_kw (ld_blt I hg (C.blt x hm) hv ?_ hn hdb)
  refine PyProof.Rows.callWith_type1 (spl1 (t := pure .none) hs (k1 ha I E h fun v s2 y G2 H2 d1 I2 g E2 r1 t1 e => ?_)) hs rfl
  exact thn (ho pins s2 σ H2 G2 y v d1 d I2 E2.gh r1 t1 e) fun z s3 ⟨w', H3, I3, r3, G3, g3, q3⟩ => ⟨w', H3, I3, r3, PostE.of g E2 g3 q3⟩
theorem cf_b1 (C : XC c X) (ho : Fp1 c X (fun v => call (.builtin id) [v]) f) (hg : Gl X x) (hm : x ∈ bltNames) (hv : bootBuiltins x = some (.builtin id)) (ha : CK c X a pk) (hn : x ≠ "__name__" := by decide) (hdb : (x == ("__debug__" : Str)) = false := by decide)
    (hs : starEach [a] X.env = [(false, eval a X.env)] := by rfl) : CF c X (.Call (.Name x p) [a] [] pos) (o1 f pk) := by
  intro pins s σ H Pr G ρ ρ' d I E h
  refine wpAny_Call_Name_kw (ld_blt I hg (C.blt x hm) hv ?_ hn hdb)
  refine PyProof.Rows.callWith_builtin1 (spl1 (t := pure .none) hs (k1 ha I E h fun v s2 y G2 H2 d1 I2 g E2 r1 t1 e => ?_)) hs rfl
  exact thn (ho pins s2 σ H2 G2 y v d1 d I2 E2.gh r1 t1 e) fun z s3 ⟨w', H3, I3, r3, fl⟩ => ⟨w', H3, I3, r3, PostF.of g E2 fl⟩
theorem cf_t1 (C : XC c X) (ho : Fp1 c X (fun v => call (.type T) [v]) f) (hg : Gl X x) (hm : x ∈ bltNames) (hv : bootBuiltins x = some (.type T)) (ha : CK c X a pk) (hn : x ≠ "__name__" := by decide) (hdb : (x == ("__debug__" : Str)) = false := by decide)
    (hs : starEach [a] X.env = [(false, eval a X.env)] := by rfl) : CF c X (.Call (.Name x p) [a] [] pos) (o1 f pk) := by
  intro pins s σ H Pr G ρ ρ' d I E h
  refine wpAny_Call_Name_kw (ld_blt I hg (C.blt x hm) hv ?_ hn hdb)
  refine PyProof.Rows.callWith_type1 (spl1 (t := pure .none) hs (k1 ha I E h fun v s2 y G2 H2 d1 I2 g E2 r1 t1 e => ?_)) hs rfl
  exact thn (ho pins s2 σ H2 G2 y v d1 d I2 E2.gh r1 t1 e) fun z s3 ⟨w', H3, I3, r3, fl⟩ => ⟨w', H3, I3, r3, PostF.of g E2 fl⟩
theorem ce_b2 (C : XC c X) (ho : Op2 c X (fun v u => call (.builtin id) [v, u]) f2) (hg : Gl X x) (hm : x ∈ bltNames) (hv : bootBuiltins x = some (.builtin id)) (ha : CK c X a pk) (hb : CK c X b qk) (hn : x ≠ "__name__" := by decide) (hdb : (x == ("__debug__" : Str)) = false := by decide)
    (hs : starEach [a, b] X.env = [(false, eval a X.env), (false, eval b X.env)] := by rfl) (hs2 : starEach [b] X.env = [(false, eval b X.env)] := by rfl) : CE c X (.Call (.Name x p) [a, b] [] pos) (o2 f2 pk qk) := by
  intro pins s σ H Pr G ρ ρ' d I E h
  refine wpAny_Call_Name_kw (ld_blt I hg (C.blt x hm) hv ?_ hn hdb)
  refine PyProof.Rows.callWith_builtin1 (spl2 hs (k2 ha hb I E h fun v u s2 y z G2 H2 d1 d2 I2 g E2 r1 r2 t1 t2 e => ?_)) (by rw [hs, hs2]) (by rw [hs2]; rfl)
  exact thn (ho pins s2 σ H2 G2 y z v u d1 d2 d I2 E2.gh r1 r2 t1 t2 e) fun z s3 ⟨w', H3, I3, r3, G3, g3, q3⟩ => ⟨w', H3, I3, r3, PostE.of g E2 g3 q3⟩
/-- isinstance(x, T), T a built-in class by its name -/
theorem ce_isi {y : Str} {q : Pos} (C : XC c X) (ho : Op1 c X (fun v => call (.builtin "isinstance") [v, .type T]) f) (hg : Gl X "isinstance") (hg2 : Gl X y) (hm2 : y ∈ bltNames) (hv2 : bootBuiltins y = some (.type T)) (ha : CK c X a pk) (hn2 : y ≠ "__name__" := by decide) (hdb2 : (y == ("__debug__" : Str)) = false := by decide)
    (hs : starEach [a, .Name y q] X.env = [(false, eval a X.env), (false, eval (.Name y q) X.env)] := by rfl) : CE c X (.Call (.Name "isinstance" p) [a, .Name y q] [] pos) (o1 f pk) := by
  intro pins s σ H Pr G ρ ρ' d I E h
  refine wpAny_Call_Name_kw (ld_blt I hg (C.blt _ (by decide)) (by decide +kernel : bootBuiltins "isinstance" = some (.builtin "isinstance")) ?_)
  refine PyProof.Rows.callWith_builtin1 (spl2 hs ?_) (by rw [hs]; rfl) rfl
  refine k1 ha I E h fun v s2 z G2 H2 d1 I2 g E2 r1 t1 e => ?_
  exact ld_blt I2 hg2 (C.blt y hm2) hv2 (thn (ho pins s2 σ H2 G2 z v d1 d I2 E2.gh r1 t1 e) fun z s3 ⟨w', H3, I3, r3, G3, g3, q3⟩ => ⟨w', H3, I3, r3, PostE.of g E2 g3 q3⟩) hn2 hdb2
end
end
end VL

set_option Elab.async false
set_option linter.all false
set_option maxRecDepth 100000
/-! V6: what is built in, by values; places, slices, methods of tuples and lists. -/
namespace VL
open PySem PySem.Spec PyProof.Rows L2

section
variable {c : Ct} {X : Cx} {Pr G H : Hp} {σ : L2.St} {ρ ρ' : List O} {pins : List (Addr × Obj)} {s : Shared}

/-- from a call's rule of the layer, at a state -/
theorem op_lenV (C : XC c X) : Op1 c X (fun v => call (.builtin "len") [v]) sLen := by
  intro pins s σ H G x v d r I g rx t e
  cases d with
  | list l =>
    cases e
    obtain ⟨a, xs, rfl, q, ra⟩ := t.seqL g
    exact call_len_seq pins s σ H [.ref a] [v] _ I (.cons rx .nil) ⟨a, xs, rfl, .inl (by rw [C.K]; exact q), gr_same g (by rw [ra.length]; exact .int _)⟩
  | tuple l =>
    cases e
    obtain ⟨a, xs, o, rfl, _, _, q, ra⟩ := t.seqT g
    exact call_len_seq pins s σ H [.ref a] [v] _ I (.cons rx .nil) ⟨a, xs, rfl, .inr (by rw [C.K]; exact q), gr_same g (by rw [ra.length]; exact .int _)⟩
  | _ => cases e
theorem ints_of : ∀ {l : List D} {ns : List Int}, intsOf l = some ns → l = ns.map PyData.int
  | [], _, h => by cases h; rfl
  | .int i :: r, ns, h => by
    unfold intsOf at h
    cases e : intsOf r with
    | none => rw [e] at h; cases h
    | some m =>
      rw [e] at h
      cases h
      rw [ints_of e]
      rfl
  | .none :: _, _, h => by cases h
  | .bool _ :: _, _, h => by cases h
  | .str _ :: _, _, h => by cases h
  | .list _ :: _, _, h => by cases h
  | .tuple _ :: _, _, h => by cases h
  | .dict _ :: _, _, h => by cases h
theorem bools_of : ∀ {l : List D} {bs : List Bool}, boolsOf l = some bs → l = bs.map PyData.bool
  | [], _, h => by cases h; rfl
  | .bool i :: r, ns, h => by
    unfold boolsOf at h
    cases e : boolsOf r with
    | none => rw [e] at h; cases h
    | some m =>
      rw [e] at h
      cases h
      rw [bools_of e]
      rfl
  | .none :: _, _, h => by cases h
  | .int _ :: _, _, h => by cases h
  | .str _ :: _, _, h => by cases h
  | .list _ :: _, _, h => by cases h
  | .tuple _ :: _, _, h => by cases h
  | .dict _ :: _, _, h => by cases h
theorem rpa_ints : ∀ {vs : List V} {ns : List Int}, RpA c G vs (ns.map PyData.int) → vs = ns.map V.int
  | [], [], _ => rfl
  | v :: vs, n :: ns, h => by
    cases h with
    | cons h r =>
      cases h
      rw [rpa_ints r]
      rfl
  | [], _ :: _, h => by cases h
  | _ :: _, [], h => by cases h
/-- sum of a tuple of whole numbers -/
theorem sum_tup {A : Around} {E : Value → Shared → Prop} {P : Program} {w : World} {s : Shared} {l : Addr} {its : List Value} {ns : List Int} {Q : Value → Shared → Prop} (hh : A.handled = none) (hl : s.heap.IsTuple l its.toArray) (hi : IntsAre its ns)
    (h : ∀ h' tk t', (∀ b o, s.heap.get? b = some o → h'.get? b = some o) → Q (.int ns.sum t') { s with heap := h', toks := tk }) : wpAny (model P w) A (call (.builtin "sum") [.ref l]) Q E s := by
  obtain ⟨xs, e⟩ := hi.allInts.items
  have hn : numsOf (intItems xs).toList = ns := by rw [← e]; exact hi.numsOf
  rw [nums_intItems] at hn
  rw [e] at hl
  have hlt : l < s.heap.objs.size := by obtain ⟨_, q, _⟩ := hl; exact Heap.lt_size q
  refine call_sum_walkG (wpAny_pyIter_tuple hl ⟨_, _, _, _, _, _, numAt xs, rfl, Walks.tuple (A := A.in1) hh _ l (Nat.ne_of_lt hlt) (intItems xs), ⟨⟨_, Heap.get?_push_size _ rfl, rfl, rfl⟩, hl.push _⟩, fun b hb => ?_, (fun _ _ => intItems_at), fun h' tk t' hk => ?_⟩)
  · show b < (s.heap.push _).objs.size
    rw [Heap.size_push]
    rcases List.mem_cons.mp hb with rfl | hb
    · exact Nat.lt_succ_self _
    · rcases List.mem_cons.mp hb with rfl | hb
      · exact Nat.lt_succ_of_lt hlt
      · cases hb
  · have q := h h' tk t' fun b o e => hk b o (fun hb => absurd (Heap.lt_size e) ((List.mem_singleton.mp hb) ▸ Nat.lt_irrefl _)) (Heap.get?_push_of_some _ e)
    have e2 : preSum (numAt xs) (intItems xs).size = ns.sum := by
      have : (intItems xs).size = xs.size := by simp [intItems]
      rw [this, preSum_eq, List.take_of_length_le (by simp), hn]
    rw [e2]
    exact q
theorem op_sumV (C : XC c X) : Op1 c X (fun v => call (.builtin "sum") [v]) sSum := by
  intro pins s σ H G x v d r I g rx t e
  unfold sSum at e
  cases d with
  | list l =>
    simp only [seqOf, Option.bind_eq_bind, Option.bind_some, Option.bind_eq_some_iff] at e
    obtain ⟨ns, h1, h2⟩ := e
    cases h2
    obtain rfl := ints_of h1
    obtain ⟨a, xs, rfl, q, ra⟩ := t.seqL g
    obtain rfl := rpa_ints ra
    exact cr_sum C.calm pins s σ H [.ref a] [v] _ I (.cons rx .nil) ⟨a, ns, rfl, by rw [C.K]; exact q, gr_same g (.int _)⟩
  | tuple l =>
    simp only [seqOf, Option.bind_eq_bind, Option.bind_some, Option.bind_eq_some_iff] at e
    obtain ⟨ns, h1, h2⟩ := e
    cases h2
    obtain rfl := ints_of h1
    obtain ⟨a, xs, o, rfl, f, _, q, ra⟩ := t.seqT g
    obtain rfl := rpa_ints ra
    obtain ⟨its, rv, p, z⟩ := I.tupAt g f
    cases rx
    exact sum_tup (I.ok.hd C.calm) p (intsAre_of rv) fun h' tk t' hk => ⟨.int _, H, I.kept hk, ⟨_, rfl⟩, gr_same g (.int _)⟩
  | _ => simp [seqOf] at e
theorem bools_plain : ∀ bs : List Bool, PyData.plainAll (bs.map PyData.bool) = true
  | [] => rfl
  | b :: bs => by
    show (PyData.plain (.bool b) && PyData.plainAll (bs.map PyData.bool)) = true
    rw [bools_plain bs]
    rfl
theorem bools_fit {bs : List Bool} : ∀ x ∈ bs.map PyData.bool, x.fits63 := by
  intro x hx
  obtain ⟨b, _, rfl⟩ := List.mem_map.mp hx
  trivial
theorem op_anyV (C : XC c X) : Op1 c X (fun v => call (.builtin "any") [v]) sAny := by
  intro pins s σ H G x v d r I g rx t e
  cases d with
  | list l =>
    have e : (boolsOf l).map (fun bs => PyData.bool (bs.any id)) = some r := e
    obtain ⟨bs, h1, rfl⟩ := Option.map_eq_some_iff.mp e
    obtain rfl := bools_of h1
    obtain ⟨a, xs, rfl, q, ra⟩ := t.seqL g
    obtain ⟨its, rv, pl, hz⟩ := I.list (by rw [C.K]; exact q)
    cases rx
    obtain ⟨as, hr⟩ := Dp.readsAll I _ xs its (by rw [C.K]; exact ra.dp g (bools_plain bs)) rv
    refine PySem.W.any_list_data (I.ok.hd C.calm) pl.isList (by simpa using hr) (bools_plain bs) bools_fit fun h' tk hk => ⟨.bl _, H, I.kept hk, rfl, gr_same g ?_⟩
    have e2 : (bs.map PyData.bool).any PyData.truthy = bs.any id := by
      rw [List.any_map]
      rfl
    rw [e2]
    exact .bl _
  | _ => cases e
theorem op_allV (C : XC c X) : Op1 c X (fun v => call (.builtin "all") [v]) sAll := by
  intro pins s σ H G x v d r I g rx t e
  cases d with
  | list l =>
    have e : (boolsOf l).map (fun bs => PyData.bool (bs.all id)) = some r := e
    obtain ⟨bs, h1, rfl⟩ := Option.map_eq_some_iff.mp e
    obtain rfl := bools_of h1
    obtain ⟨a, xs, rfl, q, ra⟩ := t.seqL g
    obtain ⟨its, rv, pl, hz⟩ := I.list (by rw [C.K]; exact q)
    cases rx
    obtain ⟨as, hr⟩ := Dp.readsAll I _ xs its (by rw [C.K]; exact ra.dp g (bools_plain bs)) rv
    refine PySem.W.all_list_data (I.ok.hd C.calm) pl.isList (by simpa using hr) (bools_plain bs) bools_fit fun h' tk hk => ⟨.bl _, H, I.kept hk, rfl, gr_same g ?_⟩
    have e2 : (bs.map PyData.bool).all PyData.truthy = bs.all id := by
      rw [List.all_map]
      rfl
    rw [e2]
    exact .bl _
  | _ => cases e
theorem foldl_max_mem (n : Int) : ∀ ns : List Int, ∀ m, (n ≤ m) → (ns.foldl max m = m ∨ ns.foldl max m ∈ ns) ∧ m ≤ ns.foldl max m ∧ ∀ y ∈ ns, y ≤ ns.foldl max m
  | [], m, _ => ⟨.inl rfl, Int.le_refl _, fun _ h => by cases h⟩
  | k :: ns, m, h => by
    obtain ⟨h1, h2, h3⟩ := foldl_max_mem n ns (max m k) (by omega)
    show (ns.foldl max (max m k) = m ∨ ns.foldl max (max m k) ∈ k :: ns) ∧ m ≤ ns.foldl max (max m k) ∧ ∀ y ∈ k :: ns, y ≤ ns.foldl max (max m k)
    refine ⟨?_, by omega, fun y hy => ?_⟩
    · rcases h1 with h1 | h1
      · by_cases q : k ≤ m
        · left; omega
        · right
          have : ns.foldl max (max m k) = k := by omega
          rw [this]
          exact List.mem_cons_self
      · right; exact List.mem_cons_of_mem _ h1
    · rcases List.mem_cons.mp hy with e | hy
      · omega
      · exact h3 y hy
theorem op_maxV (C : XC c X) : Op1 c X (fun v => call (.builtin "max") [v]) sMax := by
  intro pins s σ H G x v d r I g rx t e
  cases d with
  | list l =>
    unfold sMax at e
    simp only at e
    split at e
    · rename_i n ns h1
      cases e
      obtain rfl := ints_of h1
      obtain ⟨a, xs, rfl, q, ra⟩ := t.seqL g
      obtain rfl := rpa_ints ra
      refine cr_max C.calm pins s σ H [.ref a] [v] _ I (.cons rx .nil) ⟨a, n :: ns, rfl, by rw [C.K]; exact q, by simp, fun m hm hy => gr_same g ?_⟩
      have f := foldl_max_mem n ns n (Int.le_refl _)
      have e1 : m = ns.foldl max n := by
        have a1 := hy (ns.foldl max n) (by
          rcases f.1 with h | h
          · rw [h]; exact List.mem_cons_self
          · exact List.mem_cons_of_mem _ h)
        rcases List.mem_cons.mp hm with h | h
        · have := f.2.1; omega
        · have := f.2.2 m h; omega
      rw [e1]
      exact .int _
    · cases e
  | _ => cases e
theorem op_absV : Op1 c X (fun v => call (.builtin "abs") [v]) sAbs := by
  intro pins s σ H G x v d r I g rx t e
  cases d with
  | int i =>
    cases e
    rw [t.int] at rx
    exact call_abs pins s σ H [.int i] [v] _ I (.cons rx .nil) ⟨i, rfl, gr_same g (.int _)⟩
  | _ => cases e
theorem op_intV : Op1 c X (fun v => call (.type "int") [v]) sInt := by
  intro pins s σ H G x v d r I g rx t e
  cases d with
  | int i =>
    cases e
    rw [t.int] at rx
    exact call_int1 pins s σ H [.int i] [v] _ I (.cons rx .nil) (.inl ⟨i, rfl, gr_same g (.int _)⟩)
  | bool b =>
    cases e
    rw [t.bl] at rx
    exact call_int1 pins s σ H [.bl b] [v] _ I (.cons rx .nil) (.inr ⟨b, rfl, gr_same g (.int _)⟩)
  | _ => cases e
theorem op_min2V (C : XC c X) : Op2 c X (fun v u => call (.builtin "min") [v, u]) sMin2 := by
  intro pins s σ H G x y v u d e r I g rx ry t1 t2 h
  cases d <;> cases e <;> try (cases h; done)
  rename_i i j
  cases h
  rw [t1.int] at rx
  rw [t2.int] at ry
  exact call_min2 C.calm pins s σ H [.int i, .int j] [v, u] _ I (.cons rx (.cons ry .nil)) ⟨i, j, rfl, gr_same g (.int _)⟩
theorem op_max2V (C : XC c X) : Op2 c X (fun v u => call (.builtin "max") [v, u]) sMax2 := by
  intro pins s σ H G x y v u d e r I g rx ry t1 t2 h
  cases d <;> cases e <;> try (cases h; done)
  rename_i i j
  cases h
  rw [t1.int] at rx
  rw [t2.int] at ry
  exact call_max2 C.calm pins s σ H [.int i, .int j] [v, u] _ I (.cons rx (.cons ry .nil)) ⟨i, j, rfl, gr_same g (.int _)⟩
theorem op_tupleV (C : XC c X) : Op1 c X (fun v => call (.type "tuple") [v]) sTuple := by
  intro pins s σ H G x v d r I g rx t e
  cases d with
  | list l =>
    cases e
    obtain ⟨a, xs, rfl, q, ra⟩ := t.seqL g
    obtain ⟨its, rv, pl, hz⟩ := I.list (by rw [C.K]; exact q)
    cases rx
    refine call_tuple_list pl.isList (fun h' kp => ?_) (by rw [List.size_toArray, ← rv.length]; exact hz)
    exact laidT (s := s) (h' := h') (tk := s.toks) (I.kept (t' := s.toks) kp) g rv hz ra
  | tuple l =>
    cases e
    obtain ⟨a, xs, o, rfl, f, n, q, ra⟩ := t.seqT g
    obtain ⟨its, rv, p, z⟩ := I.tupAt g f
    cases rx
    exact call_tuple_same p ⟨.ref a, H, I, rfl, gr_same g (.tup f n ra)⟩
  | _ => cases e
/-- list(x) of a list, a tuple -/
def sListS : D → Option D
  | .list l => some (.list l)
  | .tuple l => some (.list l)
  | _ => none
theorem fp_listV (C : XC c X) : Fp1 c X (fun v => call (.type "list") [v]) sListS := by
  intro pins s σ H G x v d r I g rx t e
  have fin : ∀ {a : Addr} {xs : List V} {l : List D}, x = .ref a → (SqL X.K H a xs ∨ SqT X.K H a xs) → RpA c G xs l → wpAny (model X.prog X.w) X.A (call (.type "list") [v]) (EP X pins σ (FL c G H (.list l))) X.xe s := fun {a xs l} ex q ra => by
    subst ex
    exact call_list_of pins s σ H [.ref a] [v] _ I (.cons rx .nil) ⟨a, xs, rfl, q, fun p n => ⟨G, H, p, xs, l, Gr.refl g, rfl, n, rfl, rfl, ra⟩⟩
  cases d with
  | list l =>
    cases e
    obtain ⟨a, xs, ex, q, ra⟩ := t.seqL g
    exact fin ex (.inl (by rw [C.K]; exact q)) ra
  | tuple l =>
    cases e
    obtain ⟨a, xs, o, ex, f, n, q, ra⟩ := t.seqT g
    exact fin ex (.inr (by rw [C.K]; exact q)) ra
  | _ => cases e
/-! ### isinstance -/
theorem rpt_reads_or_dict {v : V} {u : Value} {d : D} (C : XC c X) (I : Inv X pins σ H s) (g : Ge G H) (t : RpT c G H v d) (ru : RelV v u) (hd : d.plain = true) : ∃ as, Reads s.heap u d as := t.reads C I g hd ru
/-- isinstance of a value without dicts in it -/
def sIsi (f : D → Bool) (d : D) : Option D := if d.plain then some (.bool (f d)) else none
theorem op_isi {T : String} {f : D → Bool} (C : XC c X) (h : ∀ {P : Program} {w : World} {A : Around} {E : Value → Shared → Prop} {s : Shared} {v : Value} {d : D} {as : List Addr} {Q : Value → Shared → Prop}, Reads s.heap v d as → (∀ tk, s.toks ≤ tk → Q (.bool (f d)) { s with toks := tk }) → wpAny (model P w) A (call (.builtin "isinstance") [v, .type T]) Q E s) :
    Op1 c X (fun v => call (.builtin "isinstance") [v, .type T]) (sIsi f) := by
  intro pins s σ H G x v d r I g rx t e
  unfold sIsi at e
  split at e
  · rename_i q
    cases e
    obtain ⟨as, ra⟩ := t.reads C I g q rx
    exact h ra fun tk _ => ⟨.bl _, H, I.tok tk, rfl, gr_same g (.bl _)⟩
  · cases e
theorem op_isiInt (C : XC c X) : Op1 c X (fun v => call (.builtin "isinstance") [v, .type "int"]) (sIsi PyData.isInt) := op_isi C fun r h => PySem.W.isinstance_int_data r h
theorem op_isiBool (C : XC c X) : Op1 c X (fun v => call (.builtin "isinstance") [v, .type "bool"]) (sIsi PyData.isBool) := op_isi C fun r h => PySem.W.isinstance_bool_data r h
theorem op_isiStr (C : XC c X) : Op1 c X (fun v => call (.builtin "isinstance") [v, .type "str"]) (sIsi PyData.isStr) := op_isi C fun r h => PySem.W.isinstance_str_data r h
theorem op_isiTuple (C : XC c X) : Op1 c X (fun v => call (.builtin "isinstance") [v, .type "tuple"]) (sIsi PyData.isTuple) := op_isi C fun r h => PySem.W.isinstance_tuple_data r h

/-! ### places -/
theorem rpa_at {vs : List V} {ds : List D} {i : Int} {d : D} (ra : RpA c G vs ds) (h : ixOf ds i = some d) : ∃ v, atI vs i = some v ∧ Rp c G v d := by
  unfold ixOf atI at h
  rw [← ra.length] at h
  unfold atI
  cases e : ixN vs.length i with
  | none => rw [e] at h; cases h
  | some j =>
    rw [e] at h
    exact ra.get h
/-- the tail of a subscript -/
def IxV (c : Ct) (X : Cx) (f : D → D → Option D) : Prop := ∀ (value slice : Expr) (pins : List (Addr × Obj)) (s : Shared) (σ : L2.St) (H G : Hp) (x y : V) (v u : Value) (d e r : D), Inv X pins σ H s → Ge G H → RelV x v → RelV y u → RpT c G H x d → RpT c G H y e → f d e = some r →
  subscripted slice false v u = operate [v, u] (getItem v u) → wpAny (model X.prog X.w) X.A (subscriptTail value slice v u) (EP X pins σ fun z H' => ∃ G', Gr G H G' H' ∧ Rp c G' z r) X.xe s
theorem ix_seqV (C : XC c X) : IxV c X sIx := by
  intro value slice pins s σ H G x y v u d e r I g rx ry t1 t2 h hs
  cases d with
  | list l =>
    cases e with
    | int i =>
      obtain ⟨a, xs, rfl, q, ra⟩ := t1.seqL g
      obtain ⟨z, h1, h2⟩ := rpa_at ra h
      rw [t2.int] at ry
      exact ix_list value slice pins s σ H _ _ v u _ I rx ry ⟨a, xs, i, z, rfl, rfl, by rw [C.K]; exact q, h1, gr_same g h2⟩ hs
    | _ => cases h
  | tuple l =>
    cases e with
    | int i =>
      obtain ⟨a, xs, o, rfl, f, n, q, ra⟩ := t1.seqT g
      obtain ⟨z, h1, h2⟩ := rpa_at ra h
      rw [t2.int] at ry
      exact ix_tup value slice pins s σ H _ _ v u _ I rx ry ⟨a, xs, i, z, rfl, rfl, by rw [C.K]; exact q, h1, gr_same g h2⟩ hs
    | _ => cases h
  | _ => cases e <;> cases h
theorem ce_ix {a b : Expr} {pos : Pos} {p q : Pk} {f : D → D → Option D} (hr : IxV c X f) (ha : CK c X a p) (hb : CK c X b q) (hs : PlainIx b) : CE c X (.Subscript a b pos) (o2 f p q) := by
  intro pins s σ H Pr G ρ ρ' d I E h
  refine Subscript_ (k2 ha hb I E h fun v u s2 x y G2 H2 d1 d2 I2 g E2 r1 r2 t1 t2 e => ?_)
  exact thn (hr a b pins s2 σ H2 G2 x y v u d1 d2 d I2 E2.gh r1 r2 t1 t2 e (hs _ _)) fun z s3 ⟨w', H3, I3, r3, G3, g3, q3⟩ => ⟨w', H3, I3, r3, PostE.of g E2 g3 q3⟩

/-! ### slices -/
/-- a slice's part: a whole number or nothing -/
def CP (c : Ct) (X : Cx) (e : Option Expr) (f : Ev) : Prop := ∀ (pins : List (Addr × Obj)) (s : Shared) (σ : L2.St) (H Pr G : Hp) (ρ ρ' : List O) (d : D) (i : Option Int), Inv X pins σ H s → ER c Pr G H σ ρ → f ρ = some (d, ρ') → partOf d = some i →
  wpAny (model X.prog X.w) X.A (evalPart e X.env) (fun u s' => ∃ H' G', Inv X pins σ H' s' ∧ Ge G G' ∧ ER c Pr G' H' σ ρ' ∧ IsPart u i) X.xe s
theorem cp_none : CP c X none (eC .none) := by
  intro pins s σ H Pr G ρ ρ' d i I E q hp
  cases q
  cases hp
  rw [evalPart_none]
  exact wpAny_pure ⟨H, G, I, Ge.refl _, E, .none⟩
theorem cp_some {e : Expr} {f : Ev} (h : CE c X e f) : CP c X (some e) f := by
  intro pins s σ H Pr G ρ ρ' d i I E q hp
  rw [evalPart_some]
  refine thn (h pins s σ H Pr G ρ ρ' d I E q) fun u s1 ⟨x, H1, I1, r1, G1, g1, E1, q1⟩ => ?_
  cases d with
  | none =>
    cases hp
    cases q1
    cases r1
    exact ⟨H1, G1, I1, g1, E1, .none⟩
  | int j =>
    cases hp
    cases q1
    obtain ⟨t, rfl⟩ := r1
    exact ⟨H1, G1, I1, g1, E1, .int _ _⟩
  | _ => cases hp
theorem o3_some {f : D → D → D → Option D} {p q r : Pk} {z : D × List O} (h : o3 f p q r ρ = some z) : ∃ t u v ρ1 ρ2 x y w, p ρ = some (t, ρ1) ∧ q ρ1 = some (u, ρ2) ∧ r ρ2 = some (v, z.2) ∧ t z.2 = some x ∧ u z.2 = some y ∧ v z.2 = some w ∧ f x y w = some z.1 := by
  unfold o3 at h
  split at h
  · rename_i t ρ1 h1
    split at h
    · rename_i u ρ2 h2
      split at h
      · rename_i v ρ3 h3
        split at h
        · rename_i x y w hx hy hw
          split at h
          · rename_i d hd
            cases h
            exact ⟨t, u, v, ρ1, ρ2, x, y, w, h1, h2, h3, hx, hy, hw, hd⟩
          · cases h
        · cases h
      · cases h
    · cases h
  · cases h
theorem kE_some {f : Ev} {z : (List O → Option D) × List O} (h : kE f ρ = some z) : ∃ d, f ρ = some (d, z.2) ∧ z.1 = fun _ => some d := by
  unfold kE at h
  split at h
  · rename_i d ρ1 h1
    cases h
    exact ⟨d, h1, rfl⟩
  · cases h
theorem rpa_cut {vs : List V} {ds : List D} {lo hi : Option Int} (ra : RpA c G vs ds) : RpA c G (cutV vs lo hi) (cutL ds lo hi) := by
  unfold cutV cutL
  rw [← ra.length]
  exact (ra.drop _).take _
/-- what a slice of a value is, by values -/
def SlV (c : Ct) (X : Cx) (f : D → D → D → Option D) (W : Hp → Hp → D → VK) : Prop := ∀ (pins : List (Addr × Obj)) (s : Shared) (σ : L2.St) (H G : Hp) (x : V) (v vl vu : Value) (d dl dh r : D) (lo hi : Option Int) (sl : Addr), Inv X pins σ H s → Ge G H → RelV x v → RpT c G H x d → s.heap.IsSliceOf sl vl vu .none → partOf dl = some lo → partOf dh = some hi → IsPart vl lo → IsPart vu hi → f d dl dh = some r →
  ∃ T id, typeLookup (.type T) "__getitem__" = pure (some (.builtin id)) ∧ s.TypeIs v T ∧ wpAny (model X.prog X.w) X.A (getItem v (.ref sl)) (EP X pins σ (W G H r)) X.xe s
theorem sl_core {a : Expr} {lo hi : Option Expr} {pos p2 : Pos} {p : Pk} {fl fh : Ev} {f : D → D → D → Option D} {d : D} {W : Hp → Hp → D → VK} {Q : VK} (hW : ∀ G2 H2 v H3, Ge G G2 → ER c Pr G2 H2 σ ρ' → W G2 H2 d v H3 → Q v H3) (hr : SlV c X f W) (hf : ∀ x y z r, f x y z = some r → (∃ i, partOf y = some i) ∧ ∃ i, partOf z = some i)
    (ha : CK c X a p) (hl : CP c X lo fl) (hh : CP c X hi fh) (I : Inv X pins σ H s) (E : ER c Pr G H σ ρ) (h : o3 f p (kE fl) (kE fh) ρ = some (d, ρ')) :
    wpAny (model X.prog X.w) X.A (eval (.Subscript a (.Slice lo hi none p2) pos) X.env) (EP X pins σ Q) X.xe s := by
  obtain ⟨t, u, v, ρ1, ρ2, x, y, z, h1, h2, h3, hx, hy, hz, hd⟩ := o3_some h
  obtain ⟨y', h4, e4⟩ := kE_some h2
  obtain ⟨z', h5, e5⟩ := kE_some h3
  have e4 : u = fun _ => some y' := e4
  have e5 : v = fun _ => some z' := e5
  rw [e4] at hy
  rw [e5] at hz
  cases hy
  cases hz
  obtain ⟨⟨il, pl⟩, ih, ph⟩ := hf _ _ _ _ hd
  refine Subscript_ (thn (ha pins s σ H Pr G ρ ρ1 t I E h1) fun v s1 ⟨xv, H1, I1, r1, G1, g1, E1, q1⟩ => ?_)
  refine wpAny_Slice (thn (hl pins s1 σ H1 Pr G1 ρ1 ρ2 y il I1 E1 h4 pl) fun vl s2 ⟨H2, G2, I2, g2, E2, il⟩ => thn (hh pins s2 σ H2 Pr G2 ρ2 ρ' z ih I2 E2 h5 ph) fun vu s3 ⟨H3, G3, I3, g3, E3, ih⟩ => ?_)
  rw [evalPart_none]
  refine wpAny_pure ?_
  have I4 : Inv X pins σ H3 { s3 with heap := s3.heap.push { cls := .type "slice", data := .fields #[vl, vu, .none] } } := I3.kept (t' := s3.toks) fun b ob q => Heap.get?_push_of_some _ q
  have rx := q1 G3 H3 ρ' x (g2.trans g3) E3 hx
  obtain ⟨T, id, hT, ht, hg⟩ := hr pins { s3 with heap := s3.heap.push { cls := .type "slice", data := .fields #[vl, vu, .none] } } σ H3 G3 xv v vl vu x y z d _ _ s3.heap.objs.size I4 E3.gh r1 rx (Heap.IsSliceOf.new ..) pl ph il ih hd
  show wpAny (model X.prog X.w) X.A (subscriptTail a (.Slice lo hi none p2) v (.ref s3.heap.objs.size)) (EP X pins σ Q) X.xe { s3 with heap := s3.heap.push { cls := .type "slice", data := .fields #[vl, vu, .none] } }
  refine tail_any (ops := [.ref s3.heap.objs.size, v]) ht hT (thn hg fun z s4 ⟨w', H4, I4, r4, q4⟩ => ?_) (by with_unfolding_all rfl)
  exact ⟨w', H4, I4, r4, hW G3 H3 w' H4 ((g1.trans g2).trans g3) E3 q4⟩
theorem sl_tupV : SlV c X sCutT (fun G H r z H' => ∃ G', Gr G H G' H' ∧ Rp c G' z r) := by
  intro pins s σ H G x v vl vu d dl dh r lo hi sl I g rx t hs p1 p2 i1 i2 h
  cases d with
  | tuple l =>
    unfold sCutT at h
    simp only [p1, p2] at h
    cases h
    obtain ⟨a, xs, o, rfl, f, n, q, ra⟩ := t.seqT g
    obtain ⟨its, rv, ht, hz⟩ := I.tupAt g f
    cases rx
    refine ⟨"tuple", _, PyProof.Rows.slot_tuple_getitem.lookup, ht.typeIs, ?_⟩
    have hlen : its.toArray.size = xs.length := by rw [List.size_toArray]; exact rv.length.symm
    have rc := rpa_cut (lo := lo) (hi := hi) ra
    by_cases hw : HT.sIx xs.length 0 lo = 0 ∧ HT.sIx xs.length xs.length hi = xs.length
    · refine getItem_tuple_whole ht hs i1 i2 (by rw [hlen]; exact hw) ⟨.ref a, H, I, rfl, gr_same g ?_⟩
      have e1 : cutL l lo hi = l := by
        unfold cutL
        rw [← ra.length, hw.1, hw.2, List.drop_zero, ra.length, Nat.sub_zero, List.take_length]
      rw [e1]
      exact .tup f n ra
    · refine HT.getItem_tuple_cut ht hs i1 i2 (by rw [hlen]; exact hw) ?_ (by rw [hlen]; exact hz)
      rw [hlen]
      exact laidT (h' := s.heap) (tk := s.toks) I g ((rv.drop (HT.sIx xs.length 0 lo)).take (HT.sIx xs.length xs.length hi - HT.sIx xs.length 0 lo)) (Nat.le_trans (cutV_length xs lo hi) hz) rc
  | _ => cases h
theorem ce_cutT {a : Expr} {lo hi : Option Expr} {pos p2 : Pos} {p : Pk} {fl fh : Ev} (ha : CK c X a p) (hl : CP c X lo fl) (hh : CP c X hi fh) : CE c X (.Subscript a (.Slice lo hi none p2) pos) (o3 sCutT p (kE fl) (kE fh)) := by
  intro pins s σ H Pr G ρ ρ' d I E h
  refine sl_core (fun G2 H2 v H3 g E2 q => ?_) sl_tupV (fun x y z r h => ?_) ha hl hh I E h
  · obtain ⟨G3, g3, rp⟩ := q
    exact PostE.of g E2 g3 rp
  · cases x with
    | tuple l =>
      unfold sCutT at h
      simp only at h
      split at h
      · rename_i lo hi h1 h2
        exact ⟨⟨_, h1⟩, _, h2⟩
      · cases h
    | _ => cases h
theorem sl_listV (C : XC c X) : SlV c X sCutL (fun G H r => FL c G H r) := by
  intro pins s σ H G x v vl vu d dl dh r lo hi sl I g rx t hs p1 p2 i1 i2 h
  cases d with
  | list l =>
    unfold sCutL at h
    simp only [p1, p2] at h
    cases h
    obtain ⟨a, xs, rfl, q, ra⟩ := t.seqL g
    have rc := rpa_cut (lo := lo) (hi := hi) ra
    exact sl_list pins s σ H _ v vl vu lo hi sl _ I rx hs i1 i2 ⟨a, xs, rfl, by rw [C.K]; exact q, fun p n => ⟨G, H, p, _, _, Gr.refl g, rfl, n, rfl, rfl, rc⟩⟩
  | _ => cases h
theorem cf_cutL {a : Expr} {lo hi : Option Expr} {pos p2 : Pos} {p : Pk} {fl fh : Ev} (C : XC c X) (ha : CK c X a p) (hl : CP c X lo fl) (hh : CP c X hi fh) : CF c X (.Subscript a (.Slice lo hi none p2) pos) (o3 sCutL p (kE fl) (kE fh)) := by
  intro pins s σ H Pr G ρ ρ' d I E h
  refine sl_core (fun G2 H2 v H3 g E2 q => ?_) (sl_listV C) (fun x y z r h => ?_) ha hl hh I E h
  · exact PostF.of g E2 q
  · cases x with
    | list l =>
      unfold sCutL at h
      simp only at h
      split at h
      · rename_i lo hi h1 h2
        exact ⟨⟨_, h1⟩, _, h2⟩
      · cases h
    | _ => cases h
/-- a op b op' c -/
theorem eChain_some {f g : D → D → Option D} {a b e : Ev} {z : D × List O} (h : eChain f g a b e ρ = some z) : ∃ x ρ1 y ρ2 k, a ρ = some (x, ρ1) ∧ b ρ1 = some (y, ρ2) ∧ f x y = some (.bool k) ∧ (k = false → z = (.bool false, ρ2)) ∧ (k = true → ∃ w j, e ρ2 = some (w, z.2) ∧ g y w = some (.bool j) ∧ z.1 = .bool j) := by
  unfold eChain at h
  split at h
  · rename_i x ρ1 h1
    split at h
    · rename_i y ρ2 h2
      split at h
      · rename_i h3
        split at h
        · rename_i w ρ3 h4
          split at h
          · rename_i j h5
            cases h
            exact ⟨x, ρ1, y, ρ2, true, h1, h2, h3, (fun q => nomatch q), fun _ => ⟨w, j, h4, h5, rfl⟩⟩
          · cases h
        · cases h
      · rename_i h3
        cases h
        exact ⟨x, ρ1, y, ρ2, false, h1, h2, h3, fun _ => rfl, fun q => nomatch q⟩
      · cases h
    · cases h
  · cases h
theorem ce_chain {a b e : Expr} {pos : Pos} {op op' : CmpOp} {f g : D → D → Option D} {fa fb fe : Ev} (ho : Op2 c X (compareOp op) f) (ho' : Op2 c X (compareOp op') g) (ha : CE c X a fa) (hb : CE c X b fb) (he : CE c X e fe)
    (hm : lastMarks [op, op'] [b, e] = false := by with_unfolding_all rfl) : CE c X (.Compare a [op, op'] [b, e] pos) (eChain f g fa fb fe) := by
  intro pins s σ H Pr G ρ ρ' d I E h
  obtain ⟨x, ρ1, y, ρ2, k, h1, h2, h3, h4, h5⟩ := eChain_some h
  refine Compare_chain (thn (ha pins s σ H Pr G ρ ρ1 x I E h1) fun v s1 ⟨xv, H1, I1, r1, G1, g1, E1, q1⟩ => chain_link (thn (hb pins s1 σ H1 Pr G1 ρ1 ρ2 y I1 E1 h2) fun u s2 ⟨yv, H2, I2, r2, G2, g2, E2, q2⟩ =>
    thn (ho pins s2 σ H2 G2 xv yv v u x y _ I2 E2.gh r1 r2 (.of (q1.mono g2)) (.of q2) h3) fun z s3 ⟨zv, H3, I3, r3, G3, g3, q3⟩ => ?_)) hm
  cases q3
  cases r3
  have E3 := E2.gr g3
  refine wpAny_truthy_bool ?_
  cases k with
  | false =>
    have e := h4 rfl
    cases e
    exact ite_ff ⟨.bl false, H3, I3, rfl, G3, (g1.trans g2).trans g3.ge, E3, .bl false⟩
  | true =>
    obtain ⟨w, j, h6, h7, h8⟩ := h5 rfl
    have h8 : d = .bool j := h8
    subst h8
    refine ite_tt (chain_last (thn (he pins s3 σ H3 Pr G3 ρ2 ρ' w I3 E3 h6) fun w' s4 ⟨wv, H4, I4, r4, G4, g4, E4, q4⟩ => ?_))
    exact thn (ho' pins s4 σ H4 G4 yv wv u w' y w _ I4 E4.gh r2 r4 (.of (q2.mono (g3.ge.trans g4))) (.of q4) h7) fun z s5 ⟨zv, H5, I5, r5, G5, g5, q5⟩ => ⟨zv, H5, I5, r5, G5, ((g1.trans g2).trans g3.ge).trans (g4.trans g5.ge), E4.gr g5, q5⟩
end
end VL

set_option Elab.async false
set_option linter.all false
set_option maxRecDepth 100000
/-! V7: targets, what is walked, comprehensions. -/
namespace VL
open PySem PySem.Spec PyProof.Rows L2

/-- the readings -/
def tE (c : Ct) (f : Ev) : TE := fun σ H Q => ∃ Pr G ρ d ρ', ER c Pr G H σ ρ ∧ f ρ = some (d, ρ') ∧ ∀ v H', PostE c Pr G σ ρ' d v H' → Q v H'
def tT (c : Ct) (f : Ev) : TT := fun σ H Q => ∃ Pr G ρ b ρ', ER c Pr G H σ ρ ∧ f ρ = some (.bool b, ρ') ∧ ∀ H', (∃ G', Ge G G' ∧ ER c Pr G' H' σ ρ') → Q b H'
theorem CE.pe {c : Ct} {X : Cx} {e : Expr} {f : Ev} (h : CE c X e f) : PE X e (tE c f) := ⟨fun pins s σ H Q I ⟨Pr, G, ρ, d, ρ', E, q, k⟩ =>
  thn (h pins s σ H Pr G ρ ρ' d I E q) fun u s' ⟨v, H', I', r, p⟩ => ⟨v, H', I', r, k v H' p⟩⟩
theorem CT.pt {c : Ct} {X : Cx} {e : Expr} {f : Ev} (h : CT c X e f) : PT X e (tT c f) := ⟨fun pins s σ H Q I ⟨Pr, G, ρ, b, ρ', E, q, k⟩ =>
  thn (h pins s σ H Pr G ρ ρ' b I E q) fun u s' ⟨H', I', eu, p⟩ => ⟨H', I', by rw [eu]; exact k H' p⟩⟩
/-- a target: the slots it stores, and no others -/
def tG (c : Ct) (t : Tg) : TG := fun v σ H Q => ∃ Pr G ρ d ρ', ER c Pr G H σ ρ ∧ Rp c G v d ∧ tgo t d ρ = some ρ' ∧ ∀ σ' H', ER c Pr G H' σ' ρ' → H' = H → σ'.length = σ.length → (∀ j, j ∉ tgIs t → σ'[j]? = σ[j]?) → Q σ' H'
def CG (c : Ct) (X : Cx) (e : Expr) (t : Tg) : Prop := PG X e (tG c t)
/-- an iterator whose items are xs -/
structure Wk (c : Ct) (G0 : Hp) (J : It) (xs : List D) : Prop where
  few : xs.length ≤ sizeLine
  item : ∀ G H, Ge G0 G → Ge G H → ∀ i d, xs[i]? = some d → J.go i H ∧ ∀ x H', J.yld i H x H' → ∃ G', Gr G H G' H' ∧ Rp c G' x d
  stop : ∀ G H, Ge G0 G → Ge G H → J.stop xs.length H
def tI (c : Ct) (it : Iv) : TI := fun σ H R => ∃ Pr G ρ xs ρ', ER c Pr G H σ ρ ∧ it ρ = some (xs, ρ') ∧ ∀ J G' H', Ge G G' → ER c Pr G' H' σ ρ' → Wk c G' J xs → R J H'
def CI (c : Ct) (X : Cx) (tg e : Expr) (it : Iv) : Prop := PI X tg e (tI c it)

section
variable {c : Ct} {X : Cx} {Pr G H : Hp} {σ : L2.St} {ρ ρ' : List O} {pins : List (Addr × Obj)} {s : Shared}

theorem ER.at {i : Nat} {v : Option V} (E : ER c Pr G H σ ρ) (h : σ[i]? = some v) : ∃ o, ρ[i]? = some o := by
  have hl := E.len
  have : i < ρ.length := by rw [← hl]; exact (List.getElem?_eq_some_iff.mp h).1
  exact ⟨ρ[i], by simp [this]⟩
theorem ER.set {i : Nat} {v : V} {d : D} (E : ER c Pr G H σ ρ) (r : Rp c G v d) : ER c Pr G H (σ.set i (some v)) (ρ.set i (.val d)) := by
  by_cases h : i < ρ.length
  · exact E.setv (o := ρ[i]) (by simp [h]) r
  · have h2 : ¬ i < σ.length := by rw [E.len]; exact h
    rw [List.set_eq_of_length_le (by omega), List.set_eq_of_length_le (by omega)]
    exact E
theorem ER.unset' {i : Nat} {s' : Option V} (E : ER c Pr G H σ ρ) : ER c Pr G H (σ.set i s') (ρ.set i .un) := by
  by_cases h : i < ρ.length
  · exact E.unset (o := ρ[i]) (by simp [h])
  · have h2 : ¬ i < σ.length := by rw [E.len]; exact h
    rw [List.set_eq_of_length_le (by omega), List.set_eq_of_length_le (by omega)]
    exact E
/-! ### targets -/
theorem cg_name {i : Nat} {x : Str} {pos : Pos} (hN : X.N.Nodup) (hi : X.N[i]? = some x) (hx : Loc X.env.scope x) (hf : X.fn x = true ∨ X.env.scope.names.lookup x = some .local := by first | exact .inl rfl | exact .inr rfl | assumption) : CG c X (.Name x pos) (.one i) := by
  refine ⟨fun pins s σ H v u Q I r ⟨Pr, G, ρ, d, ρ', E, rp, q, k⟩ => ?_⟩
  cases q
  exact (pg_name hN hi hx hf).run pins s σ H v u Q I r (k _ H (E.set rp) rfl (List.length_set) fun j hj => List.getElem?_set_ne fun e => hj (by subst e; simp [tgIs]))
/-- several names, one after another -/
def gAll (c : Ct) (is : List Nat) : TGs := fun vs σ H Q => ∃ Pr G ρ ds ρ', ER c Pr G H σ ρ ∧ RpA c G vs ds ∧ setAll is ds ρ = some ρ' ∧ ∀ σ' H', ER c Pr G H' σ' ρ' → H' = H → σ'.length = σ.length → (∀ j, j ∉ is → σ'[j]? = σ[j]?) → Q σ' H'
theorem cgs_nil : PGs X [] (gAll c []) := by
  refine ⟨fun pins s σ H vs us Q I r ⟨Pr, G, ρ, ds, ρ', E, ra, q, k⟩ => ?_⟩
  cases ds with
  | nil =>
    cases q
    cases ra
    exact pgs_nil.run pins s σ H [] us Q I r ⟨rfl, k σ H E rfl rfl fun _ _ => rfl⟩
  | cons d ds => cases q
theorem cgs_cons {i : Nat} {x : Str} {pos : Pos} {es : List Expr} {is : List Nat} (hN : X.N.Nodup) (hi : X.N[i]? = some x) (hx : Loc X.env.scope x) (hr : PGs X es (gAll c is)) (hf : X.fn x = true ∨ X.env.scope.names.lookup x = some .local := by first | exact .inl rfl | exact .inr rfl | assumption) : PGs X (.Name x pos :: es) (gAll c (i :: is)) := by
  refine ⟨fun pins s σ H vs us Q I r ⟨Pr, G, ρ, ds, ρ', E, ra, q, k⟩ => ?_⟩
  cases ra with
  | nil => cases q
  | @cons v vs d ds rv ra =>
    have q : setAll is ds (ρ.set i (.val d)) = some ρ' := q
    refine (pgs_cons (pg_name hN hi hx hf) hr).run pins s σ H (v :: vs) us Q I r ⟨v, vs, rfl, Pr, G, _, ds, ρ', E.set rv, ra, q, fun σ' H' E' eh el ej => ?_⟩
    refine k σ' H' E' eh (el.trans (List.length_set)) fun j hj => ?_
    rw [ej j (fun h => hj (List.mem_cons_of_mem _ h))]
    exact List.getElem?_set_ne fun e => hj (by subst e; exact List.mem_cons_self)
theorem setAll_len : ∀ {is : List Nat} {ds : List D} {ρ ρ' : List O}, setAll is ds ρ = some ρ' → ds.length = is.length
  | [], [], _, _, _ => rfl
  | i :: is, d :: ds, _, _, h => by
    have h : setAll is ds _ = some _ := h
    rw [List.length_cons, List.length_cons, setAll_len h]
  | [], _ :: _, _, _, h => by cases h
  | _ :: _, [], _, _, h => by cases h
theorem cg_tup {es : List Expr} {k : Nat} {pos : Pos} {is : List Nat} (C : XC c X) (h : PGs X es (gAll c is)) (hn : (assignEach es X.env).length = is.length := by rfl) (hst : (assignEach es X.env).findIdx? (·.1) = none := by rfl) : CG c X (.Tuple es k pos) (.many is) := by
  refine ⟨fun pins s σ H v u Q I r ⟨Pr, G, ρ, d, ρ', E, rp, q, k⟩ => ?_⟩
  cases d with
  | tuple ds =>
    have q : setAll is ds ρ = some ρ' := q
    obtain ⟨a, xs, o, rfl, f, n, sq, ra⟩ := (RpT.of (H := H) rp).seqT E.gh
    exact (pg_tup C.calm h hn hst).run pins s σ H _ u Q I r ⟨a, xs, rfl, by rw [C.K]; exact sq, by rw [ra.length]; exact setAll_len q, Pr, G, ρ, ds, ρ', E, ra, q, k⟩
  | _ => cases q

/-! ### what is walked -/
theorem ci_seq {tg e : Expr} {f : Ev} (C : XC c X) (h : CE c X e f) : CI c X tg e (iSeq f) := by
  refine ⟨fun pins s σ H R I ⟨Pr, G, ρ, xs, ρ', E, q, k⟩ => ?_⟩
  unfold iSeq at q
  split at q
  · rename_i l ρ1 hf
    cases q
    refine thn ((pi_list (tg := tg) h.pe).run pins s σ H (fun J H' => ∃ a G', J = Itl X.K a ∧ Ge G G' ∧ ER c Pr G' H' σ ρ' ∧ ∃ vs, SqL c.K G' a vs ∧ RpA c G' vs xs) I ⟨Pr, G, ρ, .list xs, ρ', E, hf, fun v H' ⟨G', g, E', rp⟩ => ?_⟩) fun v s1 h1 => thn h1 fun itv s2 ⟨it, fp, tn, J, H2, e1, I2, T, st, f2, a, G', eJ, g, E', vs, sq, ra⟩ => ?_
    · cases rp with
      | lst sq ra => exact ⟨_, rfl, ⟨_, by rw [C.K]; exact E'.gh |> fun gh => Ge.sqL gh sq⟩, _, G', rfl, g, E', _, sq, ra⟩
    · subst eJ
      refine ⟨it, fp, tn, _, H2, e1, I2, T, st, f2, k _ G' H2 g E' ?_⟩
      obtain ⟨its, rv, pl, hz⟩ := I2.list (by rw [C.K]; exact Ge.sqL E'.gh sq)
      refine ⟨by rw [← ra.length]; exact hz, fun G3 H3 g3 gh i d hd => ?_, fun G3 H3 g3 gh => ?_⟩
      · obtain ⟨v, hv, rv⟩ := ra.get hd
        have sq3 : SqL X.K H3 a vs := by rw [C.K]; exact Ge.sqL (g3.trans gh) sq
        refine ⟨⟨vs, v, sq3, hv⟩, fun x H' ⟨eH, y⟩ => ?_⟩
        subst eH
        have e := y vs sq3
        rw [hv] at e
        cases e
        exact ⟨G3, Gr.refl gh, rv.mono g3⟩
      · exact ⟨vs, by rw [C.K]; exact Ge.sqL (g3.trans gh) sq, Nat.le_of_eq ra.length⟩
  · rename_i l ρ1 hf
    cases q
    refine thn ((pi_tup (tg := tg) h.pe).run pins s σ H (fun J H' => ∃ a G', J = Itt X.K a ∧ Ge G G' ∧ ER c Pr G' H' σ ρ' ∧ ∃ vs, SqT c.K G' a vs ∧ RpA c G' vs xs) I ⟨Pr, G, ρ, .tuple xs, ρ', E, hf, fun v H' ⟨G', g, E', rp⟩ => ?_⟩) fun v s1 h1 => thn h1 fun itv s2 ⟨it, fp, tn, J, H2, e1, I2, T, st, f2, a, G', eJ, g, E', vs, sq, ra⟩ => ?_
    · cases rp with
      | tup sq n ra => exact ⟨_, rfl, ⟨_, .inl (.inr ⟨_, E'.gh _ _ sq⟩)⟩, _, G', rfl, g, E', _, .inl (.inr ⟨_, sq⟩), ra⟩
    · subst eJ
      refine ⟨it, fp, tn, _, H2, e1, I2, T, st, f2, k _ G' H2 g E' ?_⟩
      obtain ⟨its, rv, pl, hz⟩ := I2.tuple (by rw [C.K]; exact Ge.sqT E'.gh sq)
      refine ⟨by rw [← ra.length]; exact hz, fun G3 H3 g3 gh i d hd => ?_, fun G3 H3 g3 gh => ?_⟩
      · obtain ⟨v, hv, rv⟩ := ra.get hd
        have sq3 : SqT X.K H3 a vs := by rw [C.K]; exact Ge.sqT (g3.trans gh) sq
        refine ⟨⟨vs, v, sq3, hv⟩, fun x H' ⟨eH, y⟩ => ?_⟩
        subst eH
        have e := y vs sq3
        rw [hv] at e
        cases e
        exact ⟨G3, Gr.refl gh, rv.mono g3⟩
      · exact ⟨vs, by rw [C.K]; exact Ge.sqT (g3.trans gh) sq, Nat.le_of_eq ra.length⟩
  · cases q
theorem wk_range (lo : Int) (n : Nat) (h : n ≤ sizeLine) : Wk c G (Itr lo n) (rangeL lo n) := by
  have hl : (rangeL lo n).length = n := by simp [rangeL]
  refine ⟨by rw [hl]; exact h, fun G3 H3 g3 gh i d hd => ?_, fun G3 H3 g3 gh => by rw [hl]; exact Nat.le_refl _⟩
  have hi : i < n := by
    have := (List.getElem?_eq_some_iff.mp hd).1
    rw [hl] at this
    exact this
  refine ⟨hi, fun x H' ⟨eH, ex⟩ => ?_⟩
  subst eH
  subst ex
  have e : d = .int (lo + (i : Int)) := by
    unfold rangeL at hd
    rw [List.getElem?_map, List.getElem?_range hi] at hd
    exact (Option.some.inj hd).symm
  subst e
  exact ⟨G3, Gr.refl gh, .int _⟩
theorem ci_range1 {tg a : Expr} {f : Ev} {p pos : Pos} (C : XC c X) (hg : Gl X "range") (ha : CE c X a f) (hs : starEach [a] X.env = [(false, eval a X.env)] := by rfl) : CI c X tg (.Call (.Name "range" p) [a] [] pos) (iR1 f) := by
  refine ⟨fun pins s σ H R I ⟨Pr, G, ρ, xs, ρ', E, q, k⟩ => ?_⟩
  unfold iR1 at q
  split at q
  · rename_i n ρ1 hf
    split at q
    · rename_i hn
      cases q
      have big : LIM = 1000000 := rfl
      have big2 : sizeLine = 16777216 := sizeLine_eq
      have e62 : (2 : Int) ^ 62 = 4611686018427387904 := by decide
      have hm : -(2 ^ 62) ≤ n := by omega
      · refine (pi_range1 (tg := tg) hg (C.blt _ (by decide)) (pa_cons ha.pe pa_nil hs) hs).run pins s σ H R I ⟨Pr, G, ρ, .int n, ρ', E, hf, fun v H' ⟨G', g, E', rp⟩ => ?_⟩
        cases rp
        exact ⟨n, rfl, hm, by omega, k _ G' H' g E' (wk_range 0 n.toNat (by omega))⟩
    · cases q
  · cases q
theorem ci_range2 {tg a b : Expr} {f h : Ev} {p pos : Pos} (C : XC c X) (hg : Gl X "range") (ha : CE c X a f) (hb : CE c X b h) (hs : starEach [a, b] X.env = [(false, eval a X.env), (false, eval b X.env)] := by rfl) (hs2 : starEach [b] X.env = [(false, eval b X.env)] := by rfl) : CI c X tg (.Call (.Name "range" p) [a, b] [] pos) (iR2 f h) := by
  refine ⟨fun pins s σ H R I ⟨Pr, G, ρ, xs, ρ', E, q, k⟩ => ?_⟩
  unfold iR2 at q
  split at q
  · rename_i m ρ1 hf
    split at q
    · rename_i n ρ2 hf2
      split at q
      · rename_i hn
        cases q
        have big : LIM = 1000000 := rfl
        have big2 : sizeLine = 16777216 := sizeLine_eq
        have e62 : (2 : Int) ^ 62 = 4611686018427387904 := by decide
        refine (pi_range2 (tg := tg) hg (C.blt _ (by decide)) (pa_cons ha.pe (pa_cons hb.pe pa_nil hs2) (by rw [hs, hs2])) hs hs2).run pins s σ H R I ⟨Pr, G, ρ, .int m, ρ1, E, hf, fun v H' ⟨G', g, E', rp⟩ => ?_⟩
        cases rp
        refine ⟨Pr, G', ρ1, .int n, ρ', E', hf2, fun v2 H2 ⟨G2, g2, E2, rp2⟩ => ?_⟩
        cases rp2
        exact ⟨m, n, rfl, ⟨by omega, by omega, by omega, by omega⟩, k _ G2 H2 (g.trans g2) E2 (wk_range m (n - m).toNat (by omega))⟩
      · cases q
    · cases q
  · cases q

/-! ### comprehensions -/
theorem XC.blk (C : XC c X) (s : Shared) (H : Hp) (scope : Scope) (cenv : Env) (fp : List Addr) : XC c (X.blk s H scope cenv fp) := ⟨C.K, C.w, C.calm, C.nd, C.hu, C.blt, rfl⟩
theorem ER.wipe (E : ER c Pr G H σ ρ) : ∀ vs : List Nat, ER c Pr G H (wipe σ vs) (wipeO ρ vs)
  | [] => E
  | v :: vs => (E.wipe vs).unset'
def gbS (old new : L2.St) : List Nat → L2.St
  | [] => new
  | i :: is => match old[i]? with
    | some o => (gbS old new is).set i o
    | none => gbS old new is
theorem gbS_at (old new : L2.St) (hl : old.length = new.length) : ∀ (vs : List Nat), (gbS old new vs).length = new.length ∧ ∀ j, (gbS old new vs)[j]? = if j ∈ vs then old[j]? else new[j]?
  | [] => ⟨rfl, fun j => by simp [gbS]⟩
  | i :: is => by
    obtain ⟨h1, h2⟩ := gbS_at old new hl is
    unfold gbS
    cases e : old[i]? with
    | none =>
      refine ⟨h1, fun j => ?_⟩
      rw [h2 j]
      by_cases hj : j = i
      · subst hj
        have : new[j]? = none := by
          rw [List.getElem?_eq_none_iff] at e ⊢
          omega
        simp [e, this]
      · simp [hj]
    | some o =>
      refine ⟨by rw [List.length_set]; exact h1, fun j => ?_⟩
      by_cases hj : i = j
      · subst hj
        have hi : i < (gbS old new is).length := by
          rw [h1, ← hl]
          exact (List.getElem?_eq_some_iff.mp e).1
        rw [List.getElem?_set_self hi]
        simp [e]
      · rw [List.getElem?_set_ne hj, h2 j]
        have : ¬ j = i := fun q => hj q.symm
        simp [this]
theorem wipe_at (σ : L2.St) : ∀ (vs : List Nat) (j : Nat), j ∉ vs → (wipe σ vs)[j]? = σ[j]?
  | [], _, _ => rfl
  | v :: vs, j, h => by
    unfold wipe
    rw [List.getElem?_set_ne (fun e => h (by subst e; exact List.mem_cons_self))]
    exact wipe_at σ vs j fun q => h (List.mem_cons_of_mem _ q)
theorem gbS_wipe (σ : L2.St) (vs : List Nat) : gbS σ (wipe σ vs) vs = σ := by
  have h := gbS_at σ (wipe σ vs) (wipe_length σ vs).symm vs
  refine List.ext_getElem? fun j => ?_
  rw [h.2 j]
  by_cases hj : j ∈ vs
  · rw [if_pos hj]
  · rw [if_neg hj, wipe_at σ vs j hj]
theorem wipe_same {σ σ' : L2.St} (hl : σ'.length = σ.length) : ∀ (vs : List Nat), (∀ j, j ∉ vs → σ'[j]? = σ[j]?) → wipe σ' vs = wipe σ vs := by
  intro vs h
  refine List.ext_getElem? fun j => ?_
  have key : ∀ (vs : List Nat) (j : Nat), j ∈ vs → ∀ σ : L2.St, (wipe σ vs)[j]? = if j < σ.length then some none else none := by
    intro vs
    induction vs with
    | nil => intro j hj; cases hj
    | cons v vs ih =>
      intro j hj σ
      unfold wipe
      by_cases e : v = j
      · subst e
        by_cases hv : v < σ.length
        · rw [List.getElem?_set_self (by rw [wipe_length]; exact hv), if_pos hv]
        · rw [if_neg hv, List.getElem?_eq_none (by rw [List.length_set, wipe_length]; omega)]
      · rw [List.getElem?_set_ne e]
        rcases List.mem_cons.mp hj with q | q
        · exact absurd q.symm e
        · exact ih j q σ
  by_cases hj : j ∈ vs
  · rw [key vs j hj, key vs j hj, hl]
  · rw [wipe_at _ vs j hj, wipe_at _ vs j hj, h j hj]
/-- what a slot without an own thing holds, holds further -/
theorem noOwn_rp (E : ER c Pr G H σ ρ) {vs : List Nat} (h : noOwn ρ vs = true) : ∀ i ∈ vs, ∀ o, ρ[i]? = some o → ∃ s, σ[i]? = some s ∧ RpO c G H o s [] := by
  intro i hi o ho
  unfold noOwn at h
  rw [List.all_eq_true] at h
  have q := h i hi
  rw [ho] at q
  obtain ⟨l, nd, ap, sl⟩ := E.own
  obtain ⟨s, l1, l2, e1, p, ro, k⟩ := sl.at ho
  refine ⟨s, e1, ?_⟩
  cases o with
  | un => exact rfl
  | val d => exact ⟨rfl, ro.2⟩
  | _ => cases q
theorem ER.putBack {i : Nat} {o : O} {s0 : Option V} (E : ER c Pr G H σ ρ) (r : RpO c G H o s0 []) : ER c Pr G H (σ.set i s0) (ρ.set i o) := by
  by_cases h : i < ρ.length
  · obtain ⟨l, nd, ap, sl⟩ := E.own
    obtain ⟨s, l1, l2, e1, p, ro, k⟩ := sl.at (i := i) (o := ρ[i]) (by simp [h])
    obtain ⟨m, pm, sm⟩ := k G H s0 o [] (Ge.refl _) (fun _ _ => rfl) r
    exact ⟨E.pr, E.gh, m, pm.nodup_iff.mpr (nodup_sub nd p), fun a ha => ap a (p.mem_iff.mpr (List.mem_append_right _ (pm.mem_iff.mp ha))), sm⟩
  · have h2 : ¬ i < σ.length := by rw [E.len]; exact h
    rw [List.set_eq_of_length_le (by omega), List.set_eq_of_length_le (by omega)]
    exact E
theorem ER.giveBack {σ0 : L2.St} {ρ0 : List O} (E : ER c Pr G H σ ρ) (hl : σ0.length = ρ0.length) : ∀ vs : List Nat, (∀ i ∈ vs, ∀ o, ρ0[i]? = some o → ∃ s, σ0[i]? = some s ∧ RpO c G H o s []) → ER c Pr G H (gbS σ0 σ vs) (giveBack ρ0 ρ vs)
  | [], _ => E
  | i :: is, h => by
    have ih := E.giveBack hl is fun j hj => h j (List.mem_cons_of_mem _ hj)
    unfold gbS VL.giveBack
    cases e : ρ0[i]? with
    | none =>
      have e2 : σ0[i]? = none := by
        rw [List.getElem?_eq_none_iff] at e ⊢
        omega
      rw [e2]
      exact ih
    | some o =>
      obtain ⟨s, e2, r⟩ := h i List.mem_cons_self o e
      rw [e2]
      exact ih.putBack r
/-- a thing set apart becomes a slot's own -/
theorem ER.apart {D0 : Addr} {acc : List V} {l : List D} (E : ER c (upd Pr D0 (.lst acc)) G H σ ρ) (n : Pr D0 = none) (hD : H D0 = some (.lst acc)) (r : RpA c G acc l) : ER c Pr G H (some (.ref D0) :: σ) (.lst l :: ρ) := by
  obtain ⟨m, nd, ap, sl⟩ := E.own
  have gD : G D0 = none := (E.pr D0 _ upd_same).2
  have nm : ∀ a ∈ m, a ≠ D0 := fun a ha e => by
    have := (ap a ha).1
    rw [e, upd_same] at this
    cases this
  refine ⟨fun a o e => E.pr a o (by rw [upd_ne (ne_of_none e n)]; exact e), E.gh, D0 :: m, List.nodup_cons.mpr ⟨fun h => nm D0 h rfl, nd⟩, fun a ha => ?_, [D0], m, rfl, ⟨D0, acc, rfl, rfl, hD, r⟩, sl⟩
  rcases List.mem_cons.mp ha with e | h
  · rw [e]; exact ⟨n, gD⟩
  · have q := ap a h
    rw [upd_ne (nm a h)] at q
    exact q
/-- the list that is filled, set apart, is grown -/
theorem ER.grow {D0 : Addr} {acc acc' : List V} (E : ER c (upd Pr D0 (.lst acc)) G H σ ρ) : ER c (upd Pr D0 (.lst acc')) G (upd H D0 (.lst acc')) σ ρ := by
  obtain ⟨m, nd, ap, sl⟩ := E.own
  have gD : G D0 = none := (E.pr D0 _ upd_same).2
  have nm : ∀ a ∈ m, a ≠ D0 := fun a ha e => by
    have := (ap a ha).1
    rw [e, upd_same] at this
    cases this
  refine ⟨fun a o e => ?_, fun a o e => ?_, m, nd, fun a ha => ?_, sl.mono (Ge.refl _) fun a ha => upd_ne (nm a ha)⟩
  · by_cases h : a = D0
    · subst h
      rw [upd_same] at e ⊢
      exact ⟨e, gD⟩
    · rw [upd_ne h] at e ⊢
      exact E.pr a o (by rw [upd_ne h]; exact e)
  · have h : a ≠ D0 := fun h => by rw [h, gD] at e; cases e
    rw [upd_ne h]
    exact E.gh a o e
  · have q := ap a ha
    rw [upd_ne (nm a ha)] at q ⊢
    exact q
theorem ER.setApart {D0 : Addr} (E : ER c Pr G H σ ρ) (n : H D0 = none) : ER c (upd Pr D0 (.lst [])) G (upd H D0 (.lst [])) σ ρ ∧ Pr D0 = none := by
  obtain ⟨m, nd, ap, sl⟩ := E.own
  have npr : Pr D0 = none := by
    cases e : Pr D0 with
    | none => rfl
    | some o => rw [(E.pr D0 o e).1] at n; cases n
  have ng : G D0 = none := by
    cases e : G D0 with
    | none => rfl
    | some o => rw [E.gh D0 o e] at n; cases n
  have nm : ∀ a ∈ m, a ≠ D0 := fun a ha e => by
    obtain ⟨u, q⟩ := sl.there a ha
    rw [e, n] at q
    cases q
  refine ⟨⟨fun a o e => ?_, fun a o e => ?_, m, nd, fun a ha => ?_, sl.mono (Ge.refl _) fun a ha => upd_ne (nm a ha)⟩, npr⟩
  · by_cases h : a = D0
    · subst h
      rw [upd_same] at e ⊢
      exact ⟨e, ng⟩
    · rw [upd_ne h] at e ⊢
      exact E.pr a o e
  · have h : a ≠ D0 := fun h => by rw [h, ng] at e; cases e
    rw [upd_ne h]
    exact E.gh a o e
  · rw [upd_ne (nm a ha)]
    exact ap a ha
/-- a comprehension's reading -/
theorem lc_reads {it : Iv} {tg : Tg} {cd e : Ev} {vs : List Nat} {d : D} {Q : VK} (hvs : ∀ j ∈ tgIs tg, j ∈ vs) (E : ER c Pr G H σ ρ) (h : eComp it tg cd e vs ρ = some (d, ρ')) (k : ∀ v H', PostF c Pr G σ ρ' d v H' → Q v H') :
    tLc (tI c it) (tG c tg) (tT c cd) (tE c e) vs σ H Q := by
  unfold eComp at h
  split at h
  · rename_i xs ρ1 hit
    split at h
    · rename_i hno
      split at h
      · rename_i acc ρ2 hlp
        cases h
        refine ⟨Pr, G, ρ, xs, ρ1, E, hit, fun J G1 H1 g1 E1 W => fun D0 hD => ?_⟩
        obtain ⟨EA, nP⟩ := (E1.wipe vs).setApart hD
        have keep := noOwn_rp E1 hno
        refine ⟨fun i m H => m = xs.length - i ∧ i ≤ xs.length ∧ ∃ G ρ accV accD, H D0 = some (.lst accV) ∧ RpA c G accV accD ∧ accV.length ≤ i ∧ Ge G1 G ∧ ER c (upd Pr D0 (.lst accV)) G H (wipe σ vs) ρ ∧ lcLoop tg cd e vs (xs.drop i) ρ accD = some (acc, ρ2),
          ⟨xs.length, by simp, Nat.zero_le _, G1, _, [], [], upd_same, .nil, Nat.le_refl _, Ge.refl _, EA, hlp⟩, ?_⟩
        rintro i m H2 ⟨rfl, hi, G2, ρa, accV, accD, hA, ra, hal, g2, E2, hl⟩
        by_cases hlt : i < xs.length
        · have hx : xs[i]? = some xs[i] := by simp [hlt]
          have hdr : xs.drop i = xs[i] :: xs.drop (i + 1) := List.drop_eq_getElem_cons hlt
          rw [hdr] at hl
          obtain ⟨hgo, hyld⟩ := W.item G2 H2 g2 E2.gh i _ hx
          unfold lcLoop at hl
          split at hl
          · rename_i acc2 ρb hturn
            unfold lcTurn at hturn
            split at hturn
            · rename_i ρc htg
              refine .inr ⟨hgo, fun H3 => ∃ G3 accV3, H3 D0 = some (.lst accV3) ∧ RpA c G3 accV3 acc2 ∧ accV3.length ≤ i + 1 ∧ Ge G1 G3 ∧ ER c (upd Pr D0 (.lst accV3)) G3 H3 (wipe σ vs) ρb,
                fun H3 ⟨G3, accV3, h1, h2, h3, h4, h5⟩ => ⟨xs.length - (i + 1), by omega, rfl, hlt, G3, ρb, accV3, acc2, h1, h2, h3, h4, h5, hl⟩, fun x H3 hy => ?_⟩
              obtain ⟨G3, gr, rx⟩ := hyld x H3 hy
              have E3 := E2.gr gr
              refine ⟨_, G3, ρa, _, ρc, E3, rx, htg, fun σ4 H4 E4 eH el ej => ?_⟩
              subst eH
              have ws : wipe σ4 vs = wipe σ vs := by
                have e1 : wipe σ4 vs = wipe (wipe σ vs) vs := wipe_same el vs fun j hj => ej j fun q => hj (hvs j q)
                rw [e1]
                exact wipe_same (wipe_length σ vs) vs fun j hj => wipe_at σ vs j hj
              refine ⟨ws, ?_⟩
              split at hturn
              · rename_i ρd hc
                split at hturn
                · rename_i y ρf he
                  cases hturn
                  refine ⟨_, G3, ρc, true, ρd, E4, hc, fun H5 ⟨G5, g5, E5⟩ => ?_⟩
                  refine iteT ?_
                  refine ⟨_, G5, ρd, y, ρf, E5, he, fun yv H6 ⟨G6, g6, E6, ry⟩ => ?_⟩
                  have hA6 : H6 D0 = some (.lst accV) := (E6.pr D0 _ upd_same).1
                  refine ⟨accV, hA6, Nat.lt_of_le_of_lt hal (Nat.lt_of_lt_of_le hlt W.few), G6, accV ++ [yv], upd_same, ?_, by rw [List.length_append]; exact Nat.add_le_add_right hal 1, ((g2.trans gr.ge).trans g5).trans g6, ?_⟩
                  · exact (ra.mono ((gr.ge.trans g5).trans g6)).append (.cons ry .nil)
                  · rw [← ws]
                    exact (E6.wipe vs).grow
                · cases hturn
              · rename_i ρd hc
                cases hturn
                refine ⟨_, G3, ρc, false, ρd, E4, hc, fun H5 ⟨G5, g5, E5⟩ => ?_⟩
                refine iteF ?_
                refine ⟨G5, accV, (E5.pr D0 _ upd_same).1, ra.mono (gr.ge.trans g5), Nat.le_succ_of_le hal, (g2.trans gr.ge).trans g5, ?_⟩
                rw [← ws]
                exact E5.wipe vs
              · cases hturn
            · cases hturn
          · cases hl
        · have e : i = xs.length := by omega
          subst e
          rw [List.drop_length] at hl
          cases hl
          refine .inl ⟨W.stop G2 H2 g2 E2.gh, k _ H2 ⟨G2, .lst acc, g1.trans g2, ?_, .inl ⟨acc, rfl, rfl⟩⟩⟩
          have back := E2.giveBack (σ0 := σ) (ρ0 := ρ1) E1.len vs fun j hj o ho => by
            obtain ⟨s, e1, r⟩ := keep j hj o ho
            exact ⟨s, e1, r.mono g2 fun a ha => by cases ha⟩
          rw [gbS_wipe] at back
          exact back.apart nP hA ra
      · cases h
    · cases h
  · cases h
section
variable {elt tg iter : Expr} {ifs : List Expr} {scope : Scope} {own : List (Str × Nat)} {pos : Pos} {it : Iv} {t : Tg} {cd e : Ev}
theorem cf_comp (C : XC c X) (hi : CI c X tg iter it) (ok : BlkOk X.N X.env.scope scope own) (hvs : ∀ j ∈ tgIs t, j ∈ own.map (·.2))
    (hg : ∀ (s : Shared) (H : Hp) (K : Addr) (cl : List (Str × Addr)) (fp : List Addr), CG c (X.blk s H scope (compEnvC scope cl K X.env) fp) tg t) (ht : ∀ (s : Shared) (H : Hp) (K : Addr) (cl : List (Str × Addr)) (fp : List Addr), PTs (X.blk s H scope (compEnvC scope cl K X.env) fp) ifs (tT c cd))
    (he : ∀ (s : Shared) (H : Hp) (K : Addr) (cl : List (Str × Addr)) (fp : List Addr), CE c (X.blk s H scope (compEnvC scope cl K X.env) fp) elt e) (hs : ∀ x, foldedSetIterable iter X.env x = pure x := by intro _; rfl) :
    CF c X (.ListComp elt [⟨tg, iter, ifs, 0⟩] scope pos) (eComp it t cd e (own.map (·.2))) := by
  intro pins s σ H Pr G ρ ρ' d I E h
  exact (pe_lc C.calm C.nd hi ok hg ht (fun s H K cl fp => (he s H K cl fp).pe) hs).run pins s σ H _ I (lc_reads hvs E h fun v H' q => q)
theorem pts_true : PTs X [] (tT c eTrue) := by
  refine ⟨fun pins s σ H Q I ⟨Pr, G, ρ, b, ρ', E, q, k⟩ => ?_⟩
  cases q
  exact pts_nil.run pins s σ H Q I (k H ⟨G, Ge.refl _, E⟩)
theorem pts_test {a : Expr} {f : Ev} (h : CT c X a f) : PTs X [a] (tT c f) := pts_one h.pt
end
end
end VL

set_option Elab.async false
set_option linter.all false
set_option maxRecDepth 100000
/-! V8: statements, loops, calls, what a def promises. -/
namespace VL
open PySem PySem.Spec PyProof.Rows L2

/-- what is wanted behind a statement's way -/
def EndS (c : Ct) (G' : Hp) (D0 : Ends) (σ' : L2.St) (H' : Hp) : Fl → Prop
  | .nx => D0.nx σ' H'
  | .bk => D0.bk σ' H'
  | .ct => D0.ct σ' H'
  | .rt d => ∀ v, Rp c G' v d → D0.rt v H'
def tS (c : Ct) (m : Sm) : TS := fun D0 σ H => ∃ Pr G ρ fl ρ', ER c Pr G H σ ρ ∧ m ρ = some (fl, ρ') ∧ ∀ σ' H' G', Ge G G' → ER c Pr G' H' σ' ρ' → EndS c G' D0 σ' H' fl
def CS (c : Ct) (X : Cx) (st : Stmt) (m : Sm) : Prop := PS X st (tS c m)
def CB (c : Ct) (X : Cx) (st : List Stmt) (m : Sm) : Prop := PSs X st (tS c m)
def tA (c : Ct) (f : Evs) : TA := fun σ H Q => ∃ Pr G ρ ds ρ', ER c Pr G H σ ρ ∧ f ρ = some (ds, ρ') ∧ ∀ vs H', PostA c Pr G σ ρ' ds vs H' → Q vs H'
theorem CA.pa {c : Ct} {X : Cx} {es : List Expr} {f : Evs} (h : CA c X es f) : PA X es (tA c f) := ⟨fun pos pins s σ H Q I ⟨Pr, G, ρ, ds, ρ', E, q, k⟩ =>
  thn (h pos pins s σ H Pr G ρ ρ' ds I E q) fun us s' ⟨vs, H', I', r, p⟩ => ⟨vs, H', I', r, k vs H' p⟩⟩

section
variable {c : Ct} {X : Cx} {Pr G H : Hp} {σ : L2.St} {ρ ρ' : List O} {st : Stmt} {rest : List Stmt} {a b : Sm} {e : Expr} {f : Ev} {pos : Pos}

theorem cb_nil : CB c X [] sNil := ⟨fun pins s σ H D0 I ⟨Pr, G, ρ, fl, ρ', E, q, k⟩ => by
  cases q
  exact pss_nil.run pins s σ H D0 I (k σ H G (Ge.refl _) E)⟩
theorem cb_cons (h1 : CS c X st a) (h2 : CB c X rest b) : CB c X (st :: rest) (sSeq a b) := ⟨fun pins s σ H D0 I ⟨Pr, G, ρ, fl, ρ', E, q, k⟩ => by
  refine (pss_cons h1 h2).run pins s σ H D0 I ?_
  unfold sSeq at q
  cases ha : a ρ with
  | none => rw [ha] at q; cases q
  | some z =>
    obtain ⟨fa, ρ1⟩ := z
    rw [ha] at q
    cases fa with
    | nx => exact ⟨Pr, G, ρ, .nx, ρ1, E, ha, fun σ1 H1 G1 g1 E1 => ⟨Pr, G1, ρ1, fl, ρ', E1, q, fun σ2 H2 G2 g2 E2 => k σ2 H2 G2 (g1.trans g2) E2⟩⟩
    | bk => cases q; exact ⟨Pr, G, ρ, _, _, E, ha, k⟩
    | ct => cases q; exact ⟨Pr, G, ρ, _, _, E, ha, k⟩
    | rt d => cases q; exact ⟨Pr, G, ρ, _, _, E, ha, k⟩⟩
theorem cb_one (h1 : CS c X st a) : CB c X [st] a := ⟨fun pins s σ H D0 I h => (pss_one h1).run pins s σ H D0 I h⟩
theorem cs_pass : CS c X (.Pass pos) sNil := ⟨fun pins s σ H D0 I ⟨Pr, G, ρ, fl, ρ', E, q, k⟩ => by
  cases q
  exact ps_pass.run pins s σ H D0 I (k σ H G (Ge.refl _) E)⟩
def sBrk : Sm := fun ρ => some (.bk, ρ)
def sCnt : Sm := fun ρ => some (.ct, ρ)
theorem cs_break : CS c X (.Break pos) sBrk := ⟨fun pins s σ H D0 I ⟨Pr, G, ρ, fl, ρ', E, q, k⟩ => by
  cases q
  exact ps_break.run pins s σ H D0 I (k σ H G (Ge.refl _) E)⟩
theorem cs_continue : CS c X (.Continue pos) sCnt := ⟨fun pins s σ H D0 I ⟨Pr, G, ρ, fl, ρ', E, q, k⟩ => by
  cases q
  exact ps_continue.run pins s σ H D0 I (k σ H G (Ge.refl _) E)⟩
/-- a statement that is never reached -/
def sNever : Sm := fun _ => none
theorem cs_never : CS c X st sNever := ⟨fun _ _ _ _ _ _ ⟨_, _, _, _, _, _, q, _⟩ => nomatch q⟩
/-- an expression whose value is dropped -/
def sDrop (f : Ev) : Sm := fun ρ => match f ρ with
  | some (_, ρ1) => some (.nx, ρ1)
  | none => none
theorem cs_expr (he : CE c X e f) (hs : swapsWith e none pos.line X.env = pure false := by rfl) : CS c X (.Expr e pos) (sDrop f) := ⟨fun pins s σ H D0 I ⟨Pr, G, ρ, fl, ρ', E, q, k⟩ => by
  unfold sDrop at q
  cases hf : f ρ with
  | none => rw [hf] at q; cases q
  | some z =>
    obtain ⟨d, ρ1⟩ := z
    rw [hf] at q
    cases q
    exact (ps_expr he.pe hs).run pins s σ H D0 I ⟨Pr, G, ρ, d, _, E, hf, fun v H' ⟨G', g, E', _⟩ => k σ H' G' g E'⟩⟩
theorem cs_ret (he : CE c X e f) : CS c X (.Return (some e) pos) (sRet f) := ⟨fun pins s σ H D0 I ⟨Pr, G, ρ, fl, ρ', E, q, k⟩ => by
  unfold sRet at q
  cases hf : f ρ with
  | none => rw [hf] at q; cases q
  | some z =>
    obtain ⟨d, ρ1⟩ := z
    rw [hf] at q
    cases q
    exact (ps_ret he.pe).run pins s σ H D0 I ⟨Pr, G, ρ, d, _, E, hf, fun v H' ⟨G', g, E', r⟩ => k σ H' G' g E' v r⟩⟩
theorem cs_if {t : Expr} {x y : List Stmt} {ft : Ev} (hc : CT c X t ft) (ha : CB c X x a) (hb : CB c X y b) : CS c X (.If t x y pos) (sIf ft a b) := ⟨fun pins s σ H D0 I ⟨Pr, G, ρ, fl, ρ', E, q, k⟩ => by
  unfold sIf at q
  refine (ps_if hc.pt ha hb).run pins s σ H D0 I ?_
  split at q
  · rename_i ρ1 hf
    exact ⟨Pr, G, ρ, true, ρ1, E, hf, fun H' ⟨G', g, E'⟩ => iteT ⟨Pr, G', ρ1, fl, ρ', E', q, fun σ2 H2 G2 g2 E2 => k σ2 H2 G2 (g.trans g2) E2⟩⟩
  · rename_i ρ1 hf
    exact ⟨Pr, G, ρ, false, ρ1, E, hf, fun H' ⟨G', g, E'⟩ => iteF ⟨Pr, G', ρ1, fl, ρ', E', q, fun σ2 H2 G2 g2 E2 => k σ2 H2 G2 (g.trans g2) E2⟩⟩
  · cases q⟩

/-! ### assignments -/
theorem sSet_some {t : Tg} {z : Fl × List O} (h : sSet t f ρ = some z) : ∃ d ρ1, f ρ = some (d, ρ1) ∧ tgo t d ρ1 = some z.2 ∧ z.1 = .nx := by
  unfold sSet at h
  split at h
  · rename_i d ρ1 h1
    split at h
    · rename_i ρ2 h2
      cases h
      exact ⟨d, ρ1, h1, h2, rfl⟩
    · cases h
  · cases h
/-- name = e -/
theorem cs_set {i : Nat} {x : Str} {pos' : Pos} (hN : X.N.Nodup) (hi : X.N[i]? = some x) (hx : Loc X.env.scope x) (he : CE c X e f) (hs : swapsWith e (some (.Name x pos')) pos.line X.env = pure false := by rfl) (hf : X.fn x = true ∨ X.env.scope.names.lookup x = some .local := by first | exact .inl rfl | exact .inr rfl | assumption) :
    CS c X (.Assign [.Name x pos'] e pos) (sSet (.one i) f) := ⟨fun pins s σ H D0 I ⟨Pr, G, ρ, fl, ρ', E, q, k⟩ => by
  obtain ⟨d, ρ1, h1, h2, h3⟩ := sSet_some q
  cases h3
  have h2 : some (ρ1.set i (.val d)) = some ρ' := h2
  cases h2
  exact (ps_set hN hi hx he.pe hs hf).run pins s σ H D0 I ⟨Pr, G, ρ, d, ρ1, E, h1, fun v H' ⟨G', g, E', r⟩ => k _ H' G' g (E'.set r)⟩⟩
/-- a, b = e -/
theorem cs_setT {t : Tg} {tg : Expr} (hg : CG c X tg t) (he : CE c X e f) (hs : swapsWithSole [tg] e pos.line X.env = pure false := by rfl) (hw : swappedStores [tg] e X.env = pure none := by rfl)
    (h1 : (assignEach [tg] X.env).map (·.2) = [assign tg X.env] := by rfl) : CS c X (.Assign [tg] e pos) (sSet t f) := ⟨fun pins s σ H D0 I ⟨Pr, G, ρ, fl, ρ', E, q, k⟩ => by
  obtain ⟨d, ρ1, h2, h3, h4⟩ := sSet_some q
  cases h4
  exact (ps_asg he.pe hg hs hw h1).run pins s σ H D0 I ⟨Pr, G, ρ, d, ρ1, E, h2, fun v H' ⟨G', g, E', r⟩ => ⟨Pr, G', ρ1, d, ρ', E', r, h3, fun σ2 H2 E2 eH _ _ => by
    subst eH
    exact k σ2 H2 G' g E2⟩⟩⟩
/-- what stands ahead of the slots comes into one -/
theorem ER.moveIn {i : Nat} {v : V} {o : O} (E : ER c Pr G H (some v :: σ) (o :: ρ)) : ER c Pr G H (σ.set i (some v)) (ρ.set i o) := by
  by_cases h : i < ρ.length
  · obtain ⟨m, nd, ap, l1, l2, e, r, sl⟩ := E.own
    subst e
    obtain ⟨s0, m1, m2, e1, p, ro, k⟩ := sl.at (i := i) (o := ρ[i]) (by simp [h])
    obtain ⟨m, pm, sm⟩ := k G H (some v) o l1 (Ge.refl _) (fun _ _ => rfl) r
    have nd2 : (l1 ++ (m1 ++ m2)).Nodup := (p.append_left l1).nodup_iff.mp nd
    have nd3 : (l1 ++ m2).Nodup := by
      rw [List.nodup_append] at nd2 ⊢
      obtain ⟨n1, n2, n3⟩ := nd2
      exact ⟨n1, (List.nodup_append.mp n2).2.1, fun x hx y hy => n3 x hx y (List.mem_append_right _ hy)⟩
    refine ⟨E.pr, E.gh, m, pm.nodup_iff.mpr nd3, fun x hx => ap x ?_, sm⟩
    rcases List.mem_append.mp (pm.mem_iff.mp hx) with q | q
    · exact List.mem_append_left _ q
    · exact List.mem_append_right _ (p.mem_iff.mpr (List.mem_append_right _ q))
  · have E' := E.tail
    have h2 : ¬ i < σ.length := by rw [E'.len]; exact h
    rw [List.set_eq_of_length_le (by omega), List.set_eq_of_length_le (by omega)]
    exact E'
theorem sOwn_some {i : Nat} {z : Fl × List O} (h : sOwn i f ρ = some z) : ∃ d o ρ1, f ρ = some (d, ρ1) ∧ z = (.nx, ρ1.set i o) ∧ ∀ o', ((∃ l, o' = .lst l ∧ d = .list l) ∨ ∃ l, o' = .dic l ∧ d = .dict l) → o' = o := by
  unfold sOwn at h
  split at h
  · rename_i l ρ1 h1
    cases h
    refine ⟨_, .lst l, ρ1, h1, rfl, fun o' q => ?_⟩
    rcases q with ⟨l', rfl, e⟩ | ⟨l', rfl, e⟩
    · cases e; rfl
    · cases e
  · rename_i l ρ1 h1
    cases h
    refine ⟨_, .dic l, ρ1, h1, rfl, fun o' q => ?_⟩
    rcases q with ⟨l', rfl, e⟩ | ⟨l', rfl, e⟩
    · cases e
    · cases e; rfl
  · cases h
def tF (c : Ct) (f : Ev) : TE := fun σ H Q => ∃ Pr G ρ d ρ', ER c Pr G H σ ρ ∧ f ρ = some (d, ρ') ∧ ∀ v H', PostF c Pr G σ ρ' d v H' → Q v H'
theorem CF.pe (h : CF c X e f) : PE X e (tF c f) := ⟨fun pins s σ H Q I ⟨Pr, G, ρ, d, ρ', E, q, k⟩ =>
  thn (h pins s σ H Pr G ρ ρ' d I E q) fun u s' ⟨v, H', I', r, p⟩ => ⟨v, H', I', r, k v H' p⟩⟩
/-- name = a new list or dict, the name's own -/
theorem cs_own {i : Nat} {x : Str} {pos' : Pos} (hN : X.N.Nodup) (hi : X.N[i]? = some x) (hx : Loc X.env.scope x) (he : CF c X e f) (hs : swapsWith e (some (.Name x pos')) pos.line X.env = pure false := by rfl) (hf : X.fn x = true ∨ X.env.scope.names.lookup x = some .local := by first | exact .inl rfl | exact .inr rfl | assumption) :
    CS c X (.Assign [.Name x pos'] e pos) (sOwn i f) := ⟨fun pins s σ H D0 I ⟨Pr, G, ρ, fl, ρ', E, q, k⟩ => by
  obtain ⟨d, o, ρ1, h1, h2, h3⟩ := sOwn_some q
  cases h2
  refine (ps_set hN hi hx he.pe hs hf).run pins s σ H D0 I ⟨Pr, G, ρ, d, ρ1, E, h1, fun v H' ⟨G', o', g, E', ho⟩ => ?_⟩
  rw [h3 o' ho] at E'
  exact k _ H' G' g E'.moveIn⟩
section
variable {elt tg iter : Expr} {ifs : List Expr} {scope : Scope} {own : List (Str × Nat)} {spos py : Pos} {it : Iv} {t : Tg} {cd g : Ev} {i : Nat} {y : Str}
/-- name = [..]: the name's own -/
theorem cs_ownC (C : XC c X) (hy : X.N[i]? = some y) (hyl : X.env.scope.names.lookup y = some .local) (hsw : swapsWith (.ListComp elt [⟨tg, iter, ifs, 0⟩] scope pos) (some (.Name y py)) spos.line X.env = pure true)
    (hi : CI c X tg iter it) (ok : BlkOk X.N X.env.scope scope own) (hvs : ∀ j ∈ tgIs t, j ∈ own.map (·.2))
    (hg : ∀ (s : Shared) (H : Hp) (K : Addr) (cl : List (Str × Addr)) (fp : List Addr), CG c (X.blk s H scope (compEnvC scope cl K X.env) fp) tg t) (ht : ∀ (s : Shared) (H : Hp) (K : Addr) (cl : List (Str × Addr)) (fp : List Addr), PTs (X.blk s H scope (compEnvC scope cl K X.env) fp) ifs (tT c cd))
    (he : ∀ (s : Shared) (H : Hp) (K : Addr) (cl : List (Str × Addr)) (fp : List Addr), CE c (X.blk s H scope (compEnvC scope cl K X.env) fp) elt g) (hs : ∀ x, foldedSetIterable iter X.env x = pure x := by intro _; rfl) :
    CS c X (.Assign [.Name y py] (.ListComp elt [⟨tg, iter, ifs, 0⟩] scope pos) spos) (sOwn i (eComp it t cd g (own.map (·.2)))) := ⟨fun pins s σ H D0 I ⟨Pr, G, ρ, fl, ρ', E, q, k⟩ => by
  obtain ⟨d, o, ρ1, h1, h2, h3⟩ := sOwn_some q
  cases h2
  refine (ps_setLc C.calm C.nd hy hyl hsw hi ok hg ht (fun s H K cl fp => (he s H K cl fp).pe) hs).run pins s σ H D0 I (lc_reads hvs E h1 fun v H' ⟨G', o', g', E', ho⟩ => ?_)
  rw [h3 o' ho] at E'
  exact k _ H' G' g' E'.moveIn⟩
end
/-- name1, name2 = a, b -/
theorem cs_par {i j : Nat} {x y : Str} {a b : Expr} {fa fb : Ev} {px py pt : Pos} {kt k2 pt2} (C : XC c X) (hi : X.N[i]? = some x) (hj : X.N[j]? = some y) (hij : i ≠ j)
    (hx : X.env.scope.names.lookup x = some .local) (hy : X.env.scope.names.lookup y = some .local) (ha : CE c X a fa) (hb : CE c X b fb)
    (hw : swappedStores [.Tuple [.Name x px, .Name y py] kt pt] (.Tuple [a, b] k2 pt2) X.env = pure (some [x, y]))
    (hs : swapsWithSole [.Tuple [.Name x px, .Name y py] kt pt] (.Tuple [a, b] k2 pt2) pos.line X.env = pure false := by rfl) (hs1 : starEach [a, b] X.env = (false, eval a X.env) :: starEach [b] X.env := by rfl) (hs2 : starEach [b] X.env = (false, eval b X.env) :: starEach [] X.env := by rfl) :
    CS c X (.Assign [.Tuple [.Name x px, .Name y py] kt pt] (.Tuple [a, b] k2 pt2) pos) (sPar i j fa fb) := ⟨fun pins s σ H D0 I ⟨Pr, G, ρ, fl, ρ', E, q, k⟩ => by
  unfold sPar at q
  split at q
  · rename_i d1 ρ1 h1
    split at q
    · rename_i d2 ρ2 h2
      cases q
      refine (ps_par C.calm C.nd hi hj hij hx hy (pa_cons ha.pe (pa_cons hb.pe pa_nil hs2) hs1) hw hs).run pins s σ H D0 I ⟨Pr, G, ρ, d1, ρ1, E, h1, fun v H' ⟨G', g, E', r⟩ => ⟨Pr, G', ρ1, d2, ρ2, E', h2, fun v2 H2 ⟨G2, g2, E2, r2⟩ => ⟨v, v2, rfl, ?_⟩⟩⟩
      exact k _ H2 G2 (g.trans g2) ((E2.set (r.mono g2)).set r2)
    · cases q
  · cases q⟩
/-- a slot's own list is changed -/
theorem ER.writeL {i : Nat} {l l' : List D} {vs' : List V} {a : Addr} (E : ER c Pr G H σ ρ) (hi : ρ[i]? = some (.lst l)) (hs : σ[i]? = some (some (.ref a))) (r : RpA c G vs' l') : ER c Pr G (upd H a (.lst vs')) σ (ρ.set i (.lst l')) := by
  obtain ⟨m, nd, ap, sl⟩ := E.own
  obtain ⟨s0, m1, m2, e1, p, ⟨a', xs, e2, e3, h3, h4⟩, k⟩ := sl.at hi
  rw [hs] at e1
  cases e1
  cases e2
  subst e3
  have ha := ap a (p.mem_iff.mpr (by simp))
  have nd2 := p.nodup_iff.mp nd
  have nm : ∀ b ∈ m2, b ≠ a := fun b hb e => by
    subst e
    exact (List.nodup_append.mp nd2).2.2 b (by simp) b hb rfl
  obtain ⟨m', pm, sm⟩ := k G (upd H a (.lst vs')) (some (.ref a)) (.lst l') [a] (Ge.refl _) (fun b hb => upd_ne (nm b hb)) ⟨a, vs', rfl, rfl, upd_same, r⟩
  rw [set_same hs] at sm
  refine ⟨fun b o e => ?_, fun b o e => ?_, m', pm.nodup_iff.mpr nd2, fun b hb => ap b (p.mem_iff.mpr (pm.mem_iff.mp hb)), sm⟩
  · rw [upd_ne (ne_of_none e ha.1)]
    exact E.pr b o e
  · rw [upd_ne (ne_of_none e ha.2)]
    exact E.gh b o e
/-- name.append(e) -/
theorem cs_app {i : Nat} {x : Str} {xp apos cpos : Pos} (hN : X.N[i]? = some x) (hv : Vis X.env.scope x) (he : CE c X e f) (hs : swapsWith (.Call (.Attribute (.Name x xp) "append" apos) [e] [] cpos) none pos.line X.env = pure false := by rfl)
    (hd : (x == ("__debug__" : Str)) = false := by decide) (hcd : (x == ("__classdict__" : Str)) = false := by decide)
    (hbase : attributeBase (.Name x xp) "append" X.env (eval (.Name x xp) X.env) = eval (.Name x xp) X.env := by rfl) (hst : starEach [e] X.env = (false, eval e X.env) :: starEach [] X.env := by rfl) (hline : (apos.endLine == cpos.line) = true := by rfl) :
    CS c X (.Expr (.Call (.Attribute (.Name x xp) "append" apos) [e] [] cpos) pos) (sApp i f) := ⟨fun pins s σ H D0 I ⟨Pr, G, ρ, fl, ρ', E, q, k⟩ => by
  unfold sApp at q
  split at q
  · rename_i l0 h0
    split at q
    · rename_i d ρ1 h1
      split at q
      · rename_i l h2
        split at q
        · rename_i hz
          cases q
          refine (ps_expr (pe_bm PySem.F.plainAttrs_list PySem.F.slot_list_append PySem.F.type_list_append mt_append (pe_var hN hv hd hcd) (pa_cons he.pe pa_nil hst) hbase (by rw [hst]; rfl) hline hst rfl) hs).run pins s σ H D0 I ?_
          obtain ⟨a0, xs0, e0, hA0⟩ : ∃ a xs, σ[i]? = some (some (.ref a)) ∧ H a = some (.lst xs) := by
            obtain ⟨m, nd, ap, sl⟩ := E.own
            obtain ⟨s0, m1, m2, e1, p, ⟨a', xs, e2, e3, h3, h4⟩, kk⟩ := sl.at h0
            subst e2
            exact ⟨a', xs, e1, h3⟩
          refine ⟨.ref a0, e0, .inl ⟨rfl, xs0, .inl (.inl hA0)⟩, Pr, G, ρ, d, ρ1, E, h1, fun y H' ⟨G', g, E', r⟩ => ?_⟩
          obtain ⟨xs1, hA1, ra⟩ : ∃ xs, H' a0 = some (.lst xs) ∧ RpA c G' xs l := by
            obtain ⟨m, nd, ap, sl⟩ := E'.own
            obtain ⟨s0, m1, m2, e1, p, ⟨a', xs, e2, e3, h3, h4⟩, kk⟩ := sl.at h2
            rw [e0] at e1
            cases e1
            cases e2
            exact ⟨xs, h3, h4⟩
          have big : LIM ≤ sizeLine := by decide
          refine ⟨a0, xs1, y, rfl, rfl, hA1, by rw [ra.length]; omega, ?_⟩
          exact k σ _ G' g (E'.writeL h2 e0 (ra.append (.cons r .nil)))
        · cases q
      · cases q
    · cases q
  · cases q⟩
/-! ### loops -/
theorem cs_for {tg iter : Expr} {body : List Stmt} {it : Iv} {t : Tg} {m : Sm} (C : XC c X) (hi : CI c X tg iter it) (hg : CG c X tg t) (hb : CB c X body m) (hs : ∀ x, foldedSetIterable iter X.env x = pure x := by intro _; rfl) : CS c X (.For tg iter body [] pos) (sFor t it m) := ⟨fun pins s σ H D0 I ⟨Pr, G, ρ, fl, ρ', E, q, k⟩ => by
  unfold sFor at q
  split at q
  · rename_i xs ρ1 hit
    refine (ps_for (by rw [C.xe]; exact PassesOwn.never) C.calm hi hg hb hs).run pins s σ H D0 I ⟨Pr, G, ρ, xs, ρ1, E, hit, fun J G1 H1 g1 E1 W => ?_⟩
    refine ⟨fun i n σ H => n = xs.length - i ∧ i ≤ xs.length ∧ ∃ G ρ, Ge G1 G ∧ ER c Pr G H σ ρ ∧ forLoop t m (xs.drop i) ρ = some (fl, ρ'), ⟨xs.length, by simp, Nat.zero_le _, G1, ρ1, Ge.refl _, E1, q⟩, ?_⟩
    rintro i n σ2 H2 ⟨rfl, hi, G2, ρ2, g2, E2, hl⟩
    by_cases hlt : i < xs.length
    · have hx : xs[i]? = some xs[i] := by simp [hlt]
      have hdr : xs.drop i = xs[i] :: xs.drop (i + 1) := List.drop_eq_getElem_cons hlt
      rw [hdr] at hl
      obtain ⟨hgo, hyld⟩ := W.item G2 H2 g2 E2.gh i _ hx
      unfold forLoop at hl
      split at hl
      · rename_i ρ3 htg
        split at hl
        all_goals rename_i hm
        -- the ways of the body
        · refine .inr ⟨hgo, fun σ3 H3 => ∃ G3, Ge G1 G3 ∧ ER c Pr G3 H3 σ3 _, fun σ3 H3 ⟨G3, g3, E3⟩ => ⟨xs.length - (i + 1), by omega, rfl, hlt, G3, _, g3, E3, hl⟩, fun x H3 hy => ?_⟩
          obtain ⟨G3, gr, rx⟩ := hyld x H3 hy
          exact ⟨Pr, G3, ρ2, _, ρ3, E2.gr gr, rx, htg, fun σ4 H4 E4 eH _ _ => ⟨Pr, G3, ρ3, .nx, _, E4, hm, fun σ5 H5 G5 g5 E5 => ⟨G5, (g2.trans gr.ge).trans g5, E5⟩⟩⟩
        · refine .inr ⟨hgo, fun σ3 H3 => ∃ G3, Ge G1 G3 ∧ ER c Pr G3 H3 σ3 _, fun σ3 H3 ⟨G3, g3, E3⟩ => ⟨xs.length - (i + 1), by omega, rfl, hlt, G3, _, g3, E3, hl⟩, fun x H3 hy => ?_⟩
          obtain ⟨G3, gr, rx⟩ := hyld x H3 hy
          exact ⟨Pr, G3, ρ2, _, ρ3, E2.gr gr, rx, htg, fun σ4 H4 E4 eH _ _ => ⟨Pr, G3, ρ3, .ct, _, E4, hm, fun σ5 H5 G5 g5 E5 => ⟨G5, (g2.trans gr.ge).trans g5, E5⟩⟩⟩
        · cases hl
          refine .inr ⟨hgo, fun _ _ => False, fun _ _ h => h.elim, fun x H3 hy => ?_⟩
          obtain ⟨G3, gr, rx⟩ := hyld x H3 hy
          exact ⟨Pr, G3, ρ2, _, ρ3, E2.gr gr, rx, htg, fun σ4 H4 E4 eH _ _ => ⟨Pr, G3, ρ3, .bk, _, E4, hm, fun σ5 H5 G5 g5 E5 => k σ5 H5 G5 (((g1.trans g2).trans gr.ge).trans g5) E5⟩⟩
        · cases hl
          refine .inr ⟨hgo, fun _ _ => False, fun _ _ h => h.elim, fun x H3 hy => ?_⟩
          obtain ⟨G3, gr, rx⟩ := hyld x H3 hy
          exact ⟨Pr, G3, ρ2, _, ρ3, E2.gr gr, rx, htg, fun σ4 H4 E4 eH _ _ => ⟨Pr, G3, ρ3, .rt _, _, E4, hm, fun σ5 H5 G5 g5 E5 => k σ5 H5 G5 (((g1.trans g2).trans gr.ge).trans g5) E5⟩⟩
        · cases hl
      · cases hl
    · have e : i = xs.length := by omega
      subst e
      rw [List.drop_length] at hl
      cases hl
      exact .inl ⟨W.stop G2 H2 g2 E2.gh, k σ2 H2 G2 (g1.trans g2) E2⟩
  · cases q⟩
theorem cs_while {t : Expr} {body : List Stmt} {ft : Ev} {m : Sm} {μ : List O → Nat} (C : XC c X) (hc : CT c X t ft) (hb : CB c X body m) : CS c X (.While t body [] pos) (sWh μ ft m) := ⟨fun pins s σ H D0 I ⟨Pr, G, ρ, fl, ρ', E, q, k⟩ => by
  have q : whLoop ft m (μ ρ) ρ = some (fl, ρ') := q
  refine (ps_while (by rw [C.xe]; exact PassesOwn.never) hc.pt hb).run pins s σ H D0 I ?_
  refine ⟨fun n σ H => ∃ G' ρ, Ge G G' ∧ ER c Pr G' H σ ρ ∧ whLoop ft m n ρ = some (fl, ρ'), ⟨_, G, ρ, Ge.refl _, E, q⟩, ?_⟩
  rintro n σ2 H2 ⟨G2, ρ2, g2, E2, hl⟩
  cases n with
  | zero => cases hl
  | succ n =>
    unfold whLoop at hl
    split at hl
    · rename_i ρ3 hf
      refine ⟨Pr, G2, ρ2, true, ρ3, E2, hf, fun H3 ⟨G3, g3, E3⟩ => iteT ?_⟩
      split at hl
      all_goals rename_i hm
      · exact ⟨fun σ4 H4 => ∃ G4, Ge G G4 ∧ ER c Pr G4 H4 σ4 _, fun σ4 H4 ⟨G4, g4, E4⟩ => ⟨n, Nat.lt_succ_self _, G4, _, g4, E4, hl⟩, Pr, G3, ρ3, .nx, _, E3, hm, fun σ5 H5 G5 g5 E5 => ⟨G5, (g2.trans g3).trans g5, E5⟩⟩
      · exact ⟨fun σ4 H4 => ∃ G4, Ge G G4 ∧ ER c Pr G4 H4 σ4 _, fun σ4 H4 ⟨G4, g4, E4⟩ => ⟨n, Nat.lt_succ_self _, G4, _, g4, E4, hl⟩, Pr, G3, ρ3, .ct, _, E3, hm, fun σ5 H5 G5 g5 E5 => ⟨G5, (g2.trans g3).trans g5, E5⟩⟩
      · cases hl
        exact ⟨fun _ _ => False, fun _ _ h => h.elim, Pr, G3, ρ3, .bk, _, E3, hm, fun σ5 H5 G5 g5 E5 => k σ5 H5 G5 ((g2.trans g3).trans g5) E5⟩
      · cases hl
        exact ⟨fun _ _ => False, fun _ _ h => h.elim, Pr, G3, ρ3, .rt _, _, E3, hm, fun σ5 H5 G5 g5 E5 => k σ5 H5 G5 ((g2.trans g3).trans g5) E5⟩
      · cases hl
    · rename_i ρ3 hf
      cases hl
      exact ⟨Pr, G2, ρ2, false, ρ', E2, hf, fun H3 ⟨G3, g3, E3⟩ => iteF (k σ2 H3 G3 (g2.trans g3) E3)⟩
    · cases hl⟩
end

/-! ### what a def promises, by values -/
def spP (c : Ct) (n : Nat) (φ : List D → Option D) : Sp := fun vs H Q _ => vs.length = n ∧ ∃ G ds r, Ge G H ∧ RpA c G vs ds ∧ φ ds = some r ∧ ∀ v G' H', Gr G H G' H' → Rp c G' v r → Q v H'
/-- the def x of the program does φ, with k rooms -/
def FP (c : Ct) (P : Program) (mg : Str → Option Value) (base : Heap) (k : Nat) (x : Str) (φ : List D → Option D) : Prop :=
  ∃ f fd ps, mg x = some (.ref f) ∧ PySem.W.keepIn c.K (.ref f) = true ∧ Binds c.K fd ps [] ∧ (∀ ds r, φ ds = some r → ds.length = ps.length) ∧ FnOk P c.w c.K mg base CX0 k f fd ps (spP c ps.length φ)
section
variable {c : Ct} {X : Cx} {Pr G H : Hp} {σ : L2.St} {ρ ρ' : List O} {P : Program} {mg : Str → Option Value} {base : Heap}
theorem FP.mono {j k : Nat} {x : Str} {φ : List D → Option D} (F : FP c P mg base j x φ) (h : j ≤ k) : FP c P mg base k x φ := by
  obtain ⟨f, fd, ps, h1, h2, h3, h4, h5⟩ := F
  exact ⟨f, fd, ps, h1, h2, h3, h4, h5.mono h⟩
/-- what a def promises more than it is asked -/
theorem FP.imp {k : Nat} {x : Str} {φ ψ : List D → Option D} (F : FP c P mg base k x φ) (h : ∀ ds r, ψ ds = some r → φ ds = some r) : FP c P mg base k x ψ := by
  obtain ⟨f, fd, ps, h1, h2, h3, h4, h5⟩ := F
  exact ⟨f, fd, ps, h1, h2, h3, fun ds r q => h4 ds r (h ds r q), h5.imp fun vs H Q E ⟨a, G, ds, r, b, d, e, g⟩ => ⟨a, G, ds, r, b, d, h ds r e, g⟩⟩
theorem eCall_some {φ : List D → Option D} {fs : Evs} {z : D × List O} (h : eCall φ fs ρ = some z) : ∃ ds, fs ρ = some (ds, z.2) ∧ φ ds = some z.1 := by
  unfold eCall at h
  split at h
  · rename_i ds ρ1 h1
    split at h
    · rename_i r h2
      cases h
      exact ⟨ds, h1, h2⟩
    · cases h
  · cases h
theorem ce_call {x : Str} {e : Expr} {es : List Expr} {p pos : Pos} {k : Nat} {φ : List D → Option D} {fs : Evs} (C : XC c X) (F : FP c X.prog X.mg X.base k x φ) (hr : Room k X.A) (hg : Gl X x) (ha : CA c X (e :: es) fs)
    (hdb : (x == ("__debug__" : Str)) = false := by decide) (he : starEach (e :: es) X.env = (false, eval e X.env) :: starEach es X.env := by rfl) (hpl : (backTo pos (starEach es X.env)).any (·.1) = false := by rfl) : CE c X (.Call (.Name x p) (e :: es) [] pos) (eCall φ fs) := by
  intro pins s σ H Pr G ρ ρ' d I E h
  obtain ⟨ds, h1, h2⟩ := eCall_some h
  obtain ⟨f, fd, ps, f1, f2, f3, f4, f5⟩ := F
  have f5 : FnOk X.prog X.w X.K X.mg X.base CX0 k f fd ps (spP c ps.length φ) := by rw [C.K, C.w]; exact f5
  refine (pe_call (E := E0) f5 hr hg f1 (by rw [C.K]; exact f2) (by rw [C.K]; exact f3) .nil pass0 ha.pa hdb he hpl).run pins s σ H _ I ⟨Pr, G, ρ, ds, ρ', E, h1, fun vs H1 ⟨G1, g1, E1, ra⟩ => ?_⟩
  show spP c ps.length φ (vs ++ []) H1 (PostE c Pr G σ ρ' d) E0
  rw [List.append_nil]
  exact ⟨by rw [ra.length]; exact f4 ds d h2, G1, ds, d, E1.gh, ra, h2, fun v G2 H2 gr rp => PostE.of g1 E1 gr rp⟩
theorem rpa_vals : ∀ {vs : List V} {ds : List D} {n : Nat}, RpA c G vs ds → Slots c G H (vs.map some ++ List.replicate n none) (ds.map O.val ++ List.replicate n .un) []
  | [], [], 0, _ => rfl
  | [], [], n + 1, r => ⟨[], [], rfl, rfl, rpa_vals (n := n) r⟩
  | v :: vs, d :: ds, n, .cons h r => ⟨[], [], rfl, ⟨rfl, v, rfl, h⟩, rpa_vals r⟩
/-- a def of the program by its body -/
theorem fn_of {x qual : Str} {st : Stmt} {f : Addr} {fd : FuncData} {N ps : List Str} {k : Nat} {φ : List D → Option D} {m : Sm} (F : Fun c.K x qual st f fd) (S : FnScope N ps (defScope st)) (hblt : ∀ y ∈ bltNames, mg y = none)
    (body : ∀ (cdv : Value) (A : Around) (outer : List Env) (s : Shared) (H : Hp) (E : XK), XC c (cxOf CX0 P c.w c.K mg base N qual (defScope st) f cdv A outer s H E).nox → Room k (cxOf CX0 P c.w c.K mg base N qual (defScope st) f cdv A outer s H E).nox.A → CB c (cxOf CX0 P c.w c.K mg base N qual (defScope st) f cdv A outer s H E).nox (defBody st) m)
    (hφ : ∀ ds r, φ ds = some r → runDef N.length m ds = some r) : FnOk P c.w c.K mg base CX0 (k + 1) f fd ps (spP c ps.length φ) := by
  refine F.ok S (fun vs H Q E h => h.1) fun cdv A outer s H vs Q E hr h => ?_
  obtain ⟨hl, G, ds, r, g, ra, h1, q⟩ := h
  have C : XC c (cxOf CX0 P c.w c.K mg base N qual (defScope st) f cdv A outer s H E).nox := ⟨rfl, rfl, rfl, S.nd, by have := hr.un; show (A.deeper _).units + 150 < cLine; omega, hblt, rfl⟩
  refine ⟨_, body cdv A outer s H E C hr, ?_⟩
  have h2 := hφ ds r h1
  unfold runDef at h2
  have el : vs.length = ds.length := ra.length
  have E0 : ER c (fun a => if (G a).isSome then none else H a) G H (L2.start N vs) (ds.map .val ++ List.replicate (N.length - ds.length) .un) := by
    refine ⟨fun a o e => ?_, g, [], List.nodup_nil, (fun a ha => nomatch ha), ?_⟩
    · cases q : G a with
      | none => rw [q] at e; exact ⟨e, rfl⟩
      | some u => rw [q] at e; cases e
    · unfold L2.start
      rw [el]
      exact rpa_vals ra
  have gr : ∀ {G' H' : Hp} {σ' : L2.St} {ρ' : List O}, Ge G G' → ER c (fun a => if (G a).isSome then none else H a) G' H' σ' ρ' → Gr G H G' H' := fun {G' H' σ' ρ'} g' E' => by
    refine ⟨g', fun a o e => ?_, E'.gh, fun a n ⟨o, e⟩ => ?_⟩
    · cases q : G a with
      | some u =>
        have e2 := g a u q
        rw [e] at e2
        cases e2
        exact E'.gh a _ (g' a _ q)
      | none => exact (E'.pr a o (by rw [q]; exact e)).1
    · exact (E'.pr a o (by rw [n]; exact e)).2
  split at h2
  · rename_i d ρ' hb
    cases h2
    exact ⟨_, G, _, .rt r, ρ', E0, hb, fun σ' H' G' g' E' v rp => q v G' H' (gr g' E') rp⟩
  · rename_i ρ' hb
    cases h2
    exact ⟨_, G, _, .nx, ρ', E0, hb, fun σ' H' G' g' E' => q .non G' H' (gr g' E') .non⟩
  · cases h2
/-- a def of the program by its body -/
theorem fp_of {x qual : Str} {st : Stmt} {f : Addr} {fd : FuncData} {N ps : List Str} {k : Nat} {φ : List D → Option D} {m : Sm} (F : Fun c.K x qual st f fd) (S : FnScope N ps (defScope st)) (hm : mg x = some (.ref f)) (hb : Binds c.K fd ps []) (hblt : ∀ y ∈ bltNames, mg y = none)
    (body : ∀ (cdv : Value) (A : Around) (outer : List Env) (s : Shared) (H : Hp) (E : XK), XC c (cxOf CX0 P c.w c.K mg base N qual (defScope st) f cdv A outer s H E).nox → Room k (cxOf CX0 P c.w c.K mg base N qual (defScope st) f cdv A outer s H E).nox.A → CB c (cxOf CX0 P c.w c.K mg base N qual (defScope st) f cdv A outer s H E).nox (defBody st) m)
    (hn : ∀ ds r, φ ds = some r → ds.length = ps.length) (hφ : ∀ ds r, φ ds = some r → runDef N.length m ds = some r) : FP c P mg base (k + 1) x φ := by
  exact ⟨f, fd, ps, hm, F.kp, hb, hn, fn_of F S hblt body hφ⟩
end
end VL

set_option Elab.async false
set_option linter.all false
set_option maxRecDepth 100000
/-! V9: methods by values, sorted, repeated tuples. -/
namespace VL
open PySem PySem.Spec PyProof.Rows L2

/-! ### values -/
def kd : D → Nat
  | .none => 0 | .bool _ => 1 | .int _ => 2 | .str _ => 3 | .list _ => 4 | .tuple _ => 5 | .dict _ => 6
/-- a method's call: the receiver as it stands, and its kind already ahead of the arguments -/
def eM (f : D → List D → Option D) (p : Pk) (es : Evs) : Ev := fun ρ => match p ρ with
  | some (t, ρ1) => match t ρ1 with
    | some d0 => match es ρ1 with
      | some (ds, ρ2) => match t ρ2 with
        | some d => if kd d0 = kd d then match f d ds with
            | some r => some (r, ρ2)
            | none => none
          else none
        | none => none
      | none => none
    | none => none
  | none => none
def mCountT (d : D) (ds : List D) : Option D := match d, ds with
  | .tuple l, [x] => if x.plain && PyData.plainAll l && decide (x.depth ≤ lvl) then some (.int (l.countP fun y => PyData.eqv y x)) else none
  | _, _ => none
def mCountL (d : D) (ds : List D) : Option D := match d, ds with
  | .list l, [x] => if x.plain && PyData.plainAll l && decide (x.depth ≤ lvl) then some (.int (l.countP fun y => PyData.eqv y x)) else none
  | _, _ => none
/-- may be sorted: all alike, and either all tuples or none a tuple or None -/
def sortable (l : List D) : Bool := (l.all fun x => l.all fun y => PySem.W.alike x y) && ((l.all fun x => kd x == 5) || l.all fun x => kd x != 5 && kd x != 0) && decide (l.length ≤ LIM) && l.all fun x => decide (x.depth ≤ lvl)
def keysOf : D → Option (List D)
  | .list l => some l
  | .tuple l => some l
  | .dict l => some (l.map (·.1))
  | _ => none
/-- a item put ahead of the first that it does not come behind -/
def insD (x : D) : List D → List D
  | [] => [x]
  | y :: r => if PySem.W.dataLe false id x y then x :: y :: r else y :: insD x r
def isort : List D → List D
  | [] => []
  | x :: l => insD x (isort l)
theorem insD_perm (x : D) : ∀ l : List D, (insD x l).Perm (x :: l)
  | [] => List.Perm.refl _
  | y :: r => by
    unfold insD
    split
    · exact List.Perm.refl _
    · exact ((insD_perm x r).cons y).trans (List.Perm.swap x y r)
theorem isort_perm : ∀ l : List D, (isort l).Perm l
  | [] => List.Perm.refl _
  | x :: l => (insD_perm x _).trans ((isort_perm l).cons x)
theorem dle_total : PySem.W.TotalLe (PySem.W.dataLe (β := D) false id) := PySem.W.sortLe_total _ false _
theorem insD_sorted (x : D) : ∀ {l : List D}, l.Pairwise (fun a b => PySem.W.dataLe false id a b = true) → (insD x l).Pairwise (fun a b => PySem.W.dataLe false id a b = true)
  | [], _ => List.pairwise_singleton _ _
  | y :: r, h => by
    obtain ⟨h1, h2⟩ := List.pairwise_cons.mp h
    unfold insD
    split
    · rename_i hx
      refine List.pairwise_cons.mpr ⟨fun z hz => ?_, h⟩
      rcases List.mem_cons.mp hz with e | hz
      · rw [e]; exact hx
      · exact dle_total.trans x y z hx (h1 z hz)
    · rename_i hx
      refine List.pairwise_cons.mpr ⟨fun z hz => ?_, insD_sorted x h2⟩
      rcases List.mem_cons.mp ((insD_perm x r).mem_iff.mp hz) with e | hz
      · rw [e]
        have := dle_total.total x y
        simpa [hx] using this
      · exact h1 z hz
theorem isort_sorted : ∀ l : List D, (isort l).Pairwise (fun a b => PySem.W.dataLe false id a b = true)
  | [] => List.Pairwise.nil
  | x :: l => insD_sorted x (isort_sorted l)
theorem insD_filter (z x : D) : ∀ l : List D, (insD x l).filter (PySem.W.Srt.alike (PySem.W.dataLe false id) z) = (x :: l).filter (PySem.W.Srt.alike (PySem.W.dataLe false id) z)
  | [] => rfl
  | y :: r => by
    unfold insD
    split
    · rfl
    · rename_i hx
      have ih := insD_filter z x r
      by_cases hz : PySem.W.Srt.alike (PySem.W.dataLe false id) z x = true
      · have hy : ¬ PySem.W.Srt.alike (PySem.W.dataLe false id) z y = true := by
          intro hy
          unfold PySem.W.Srt.alike at hz hy
          rw [Bool.and_eq_true] at hz hy
          exact hx (dle_total.trans x z y hz.2 hy.1)
        rw [List.filter_cons_of_neg hy, ih, List.filter_cons_of_pos hz, List.filter_cons_of_pos hz, List.filter_cons_of_neg hy]
      · rw [List.filter_cons, ih, List.filter_cons_of_neg hz, List.filter_cons_of_neg hz, List.filter_cons]
theorem isort_filter (z : D) : ∀ l : List D, (isort l).filter (PySem.W.Srt.alike (PySem.W.dataLe false id) z) = l.filter (PySem.W.Srt.alike (PySem.W.dataLe false id) z)
  | [] => rfl
  | x :: l => by
    unfold isort
    rw [insD_filter, List.filter_cons, List.filter_cons, isort_filter z l]
theorem isort_eq (l : List D) : isort l = l.mergeSort (PySem.W.dataLe false id) :=
  PySem.W.Srt.the _ dle_total.trans (fun x y => by rw [Bool.or_eq_true]; exact dle_total.total x y) (isort_sorted l) fun z => isort_filter z l
def sSorted (d : D) : Option D := match keysOf d with
  | some l => if sortable l then some (.list (isort l)) else none
  | none => none
/-- a tuple k times -/
def sRep : D → D → Option D
  | .tuple l, .int k => if k ≤ 1000 ∧ -1000 ≤ k ∧ l.length ≤ 1000 then some (.tuple (List.replicate k.toNat l).flatten) else none
  | _, _ => none

theorem eM_some {f : D → List D → Option D} {p : Pk} {es : Evs} {ρ : List O} {z : D × List O} (h : eM f p es ρ = some z) : ∃ t ρ1 d0 ds d, p ρ = some (t, ρ1) ∧ t ρ1 = some d0 ∧ es ρ1 = some (ds, z.2) ∧ t z.2 = some d ∧ kd d0 = kd d ∧ f d ds = some z.1 := by
  unfold eM at h
  split at h
  · rename_i t ρ1 h1
    split at h
    · rename_i d0 h2
      split at h
      · rename_i ds ρ2 h3
        split at h
        · rename_i d h4
          split at h
          · rename_i h5
            split at h
            · rename_i r h6
              cases h
              exact ⟨t, ρ1, d0, ds, d, h1, h2, h3, h4, h5, h6⟩
            · cases h
          · cases h
        · cases h
      · cases h
    · cases h
  · cases h

section
variable {c : Ct} {X : Cx} {Pr G H : Hp} {σ : L2.St} {ρ ρ' : List O} {pins : List (Addr × Obj)} {s : Shared}

/-! ### methods -/
/-- of which type a value of a kind is -/
def kdT : Nat → String
  | 3 => "str" | 4 => "list" | 5 => "tuple" | _ => "dict"
theorem rpt_type {v : V} {u : Value} {d : D} (C : XC c X) (I : Inv X pins σ H s) (g : Ge G H) (t : RpT c G H v d) (r : RelV v u) (h : 3 ≤ kd d) : s.TypeIs u (kdT (kd d)) ∧ ∀ a, u = .ref a → ∃ ob, s.heap.get? a = some ob ∧ ob.dict = none := by
  cases d with
  | none => simp [kd] at h
  | bool b => simp [kd] at h
  | int i => simp [kd] at h
  | str x =>
    rw [t.str] at r
    obtain ⟨tk, rfl⟩ := r
    exact ⟨typeIs_str _ _ _, fun a e => nomatch e⟩
  | list l =>
    obtain ⟨a, xs, rfl, q, ra⟩ := t.seqL g
    exact tyV_is (x := .ref a) I r (.inl ⟨rfl, xs, by rw [C.K]; exact q⟩)
  | tuple l =>
    obtain ⟨a, xs, o, rfl, f, n, q, ra⟩ := t.seqT g
    obtain ⟨its, rv, ⟨o2, h1, h2, k, h3⟩, hz⟩ := I.tupAt g f
    cases r
    have ho : s.heap.get? a = some o := (I.hok _ _ (g _ _ f)).1
    rw [ho] at h1
    cases h1
    exact ⟨⟨o, ho, h2⟩, fun b e => by cases e; exact ⟨o, ho, n⟩⟩
  | dict l =>
    have hD : ∃ a ep hs xs ys, v = .ref a ∧ H a = some (dO a ep hs xs ys) := by
      cases t with
      | of t => cases t with
        | dic h1 h2 h3 h4 h5 => exact ⟨_, _, _, _, _, rfl, g _ _ h1⟩
      | dic h1 h2 h3 h4 h5 => exact ⟨_, _, _, _, _, rfl, h1⟩
    obtain ⟨a, ep, hs, xs, ys, rfl, hH⟩ := hD
    cases r
    have hp : dPhi a ep hs xs ys s.heap := by
      exact (I.hok _ _ hH).1
    obtain ⟨_, _, es, ⟨o, ho, hx, hd⟩, _⟩ := hp
    exact ⟨⟨o, ho, hx.1⟩, fun b e => by cases e; exact ⟨o, ho, hx.2.1⟩⟩

/-- a method of what is built in, by values -/
def MtV (c : Ct) (X : Cx) (k : Nat) (id : String) (f : D → List D → Option D) (W : Hp → Hp → D → VK) : Prop := ∀ (pins : List (Addr × Obj)) (s : Shared) (σ : L2.St) (H G : Hp) (x : V) (xs : List V) (v : Value) (us : List Value) (d : D) (ds : List D) (r : D), Inv X pins σ H s → Ge G H → RelV x v → Vals xs us → RpT c G H x d → RpA c G xs ds → kd d = k → f d ds = some r →
  wpAny (model X.prog X.w) X.A (call (.builtin id) (v :: us)) (EP X pins σ (W G H r)) X.xe s
/-- an end by new things alone -/
def NW (c : Ct) (G H : Hp) (r : D) : VK := fun z H' => ∃ G', Gr G H G' H' ∧ Rp c G' z r
section
variable {T : String} {id : String} {k : Nat} {name : Str} {f : D → List D → Option D} {W : Hp → Hp → D → VK} {o e : Expr} {es : List Expr} {apos cpos : Pos} {p : Pk} {fs : Evs}
theorem m_core {Q : VK} {d : D} (C : XC c X) (hW : ∀ G2 H2 v H3, Ge G G2 → ER c Pr G2 H2 σ ρ' → W G2 H2 d v H3 → Q v H3) (hT : T = kdT k) (hk : 3 ≤ k) (pa : PlainAttrs T) (slot : Slot T name id) (hty : typeOf (.builtin id) = pure (.type "method_descriptor")) (hm : MtV c X k id f W) (hf : ∀ d ds r, f d ds = some r → kd d = k) (ho : CK c X o p) (ha : CA c X (e :: es) fs) (I : Inv X pins σ H s) (E : ER c Pr G H σ ρ) (h : eM f p fs ρ = some (d, ρ'))
    (hbase : attributeBase o name X.env (eval o X.env) = eval o X.env)
    (hfew : ((backTo cpos (starEach (e :: es) X.env)).all (fun x => !x.1) && (backToKw cpos (keywordEach [] X.env)).all (fun x => x.1.isSome)
      && decide ((e :: es).length + ([] : List Keyword).length + (if ([] : List Keyword).isEmpty then 0 else 1) < 30)) = true)
    (hline : (apos.endLine == cpos.line) = true) (hs : starEach (e :: es) X.env = (false, eval e X.env) :: starEach es X.env) (hplain : (backTo cpos (starEach es X.env)).any (·.1) = false) :
    wpAny (model X.prog X.w) X.A (eval (.Call (.Attribute o name apos) (e :: es) [] cpos) X.env) (EP X pins σ Q) X.xe s := by
  obtain ⟨t, ρ1, d0, ds, d1, h1, h2, h3, h4, h5, h6⟩ := eM_some h
  refine wpAny_Call_method_late hbase hfew hline rfl (thn (ho pins s σ H Pr G ρ ρ1 t I E h1) fun v s1 ⟨x, H1, I1, r1, G1, g1, E1, q1⟩ => ?_)
  have hkd : kd d0 = k := h5.trans (hf _ _ _ h6)
  obtain ⟨a1, a2⟩ := rpt_type C I1 E1.gh (q1 G1 H1 ρ1 d0 (Ge.refl _) E1 h2) r1 (by omega)
  rw [hkd, ← hT] at a1
  refine ⟨T, id, pa, slot, hty, a1, a2, ?_⟩
  have hA := ha cpos pins s1 σ H1 Pr G1 ρ1 ρ' ds I1 E1 h3
  rw [hs] at hA ⊢
  refine Calls.callWith_builtin (by show (false || (backTo cpos (starEach es X.env)).any (·.1)) = false; rw [hplain] <;> rfl) (Calls.evalArgs_plain ?_)
  refine thn hA fun us s2 ⟨vs, H2, I2, r2, G2, g2, E2, ra⟩ => ?_
  refine thn (hm pins s2 σ H2 G2 x vs v us d1 ds d I2 E2.gh r1 r2 (q1 G2 H2 ρ' d1 g2 E2 h4) ra (hf _ _ _ h6) h6) fun z s3 ⟨w', H3, I3, r3, q3⟩ => ⟨w', H3, I3, r3, ?_⟩
  exact hW G2 H2 w' H3 (g1.trans g2) E2 q3
theorem ce_m (C : XC c X) (hT : T = kdT k) (hk : 3 ≤ k) (pa : PlainAttrs T) (slot : Slot T name id) (hty : typeOf (.builtin id) = pure (.type "method_descriptor")) (hm : MtV c X k id f (NW c)) (hf : ∀ d ds r, f d ds = some r → kd d = k) (ho : CK c X o p) (ha : CA c X (e :: es) fs)
    (hbase : attributeBase o name X.env (eval o X.env) = eval o X.env := by rfl)
    (hfew : ((backTo cpos (starEach (e :: es) X.env)).all (fun x => !x.1) && (backToKw cpos (keywordEach [] X.env)).all (fun x => x.1.isSome)
      && decide ((e :: es).length + ([] : List Keyword).length + (if ([] : List Keyword).isEmpty then 0 else 1) < 30)) = true := by rfl)
    (hline : (apos.endLine == cpos.line) = true := by rfl) (hs : starEach (e :: es) X.env = (false, eval e X.env) :: starEach es X.env := by rfl) (hplain : (backTo cpos (starEach es X.env)).any (·.1) = false := by rfl) :
    CE c X (.Call (.Attribute o name apos) (e :: es) [] cpos) (eM f p fs) := fun pins s σ H Pr G ρ ρ' d I E h =>
  m_core C (fun G2 H2 v H3 g E2 ⟨G3, g3, rp⟩ => PostE.of g E2 g3 rp) hT hk pa slot hty hm hf ho ha I E h hbase hfew hline hs hplain
theorem cf_m (C : XC c X) (hT : T = kdT k) (hk : 3 ≤ k) (pa : PlainAttrs T) (slot : Slot T name id) (hty : typeOf (.builtin id) = pure (.type "method_descriptor")) (hm : MtV c X k id f (FL c)) (hf : ∀ d ds r, f d ds = some r → kd d = k) (ho : CK c X o p) (ha : CA c X (e :: es) fs)
    (hbase : attributeBase o name X.env (eval o X.env) = eval o X.env := by rfl)
    (hfew : ((backTo cpos (starEach (e :: es) X.env)).all (fun x => !x.1) && (backToKw cpos (keywordEach [] X.env)).all (fun x => x.1.isSome)
      && decide ((e :: es).length + ([] : List Keyword).length + (if ([] : List Keyword).isEmpty then 0 else 1) < 30)) = true := by rfl)
    (hline : (apos.endLine == cpos.line) = true := by rfl) (hs : starEach (e :: es) X.env = (false, eval e X.env) :: starEach es X.env := by rfl) (hplain : (backTo cpos (starEach es X.env)).any (·.1) = false := by rfl) :
    CF c X (.Call (.Attribute o name apos) (e :: es) [] cpos) (eM f p fs) := fun pins s σ H Pr G ρ ρ' d I E h =>
  m_core C (fun G2 H2 v H3 g E2 q => PostF.of g E2 q) hT hk pa slot hty hm hf ho ha I E h hbase hfew hline hs hplain
end
theorem vals1 {x : V} {us : List Value} (h : Vals [x] us) : ∃ u, us = [u] ∧ RelV x u := by
  cases h with
  | cons r t => cases t; exact ⟨_, rfl, r⟩
theorem rpa1 {xs : List V} {d : D} (h : RpA c G xs [d]) : ∃ x, xs = [x] ∧ Rp c G x d := by
  cases h with
  | cons r t => cases t; exact ⟨_, rfl, r⟩
theorem depthAll_le {l : List D} {n : Nat} (h : ∀ x ∈ l, x.depth ≤ n) : PyData.depthAll l ≤ n := by
  induction l with
  | nil => simp [PyData.depthAll]
  | cons x l ih =>
    rw [PyData.depthAll]
    have h1 := h x List.mem_cons_self
    have h2 := ih fun y hy => h y (List.mem_cons_of_mem _ hy)
    omega
theorem mt_countT (C : XC c X) : MtV c X 5 "tuple.count" mCountT (NW c) := by
  intro pins s σ H G x xs v us d ds r I g rx rs t ra hk h
  unfold mCountT at h
  split at h
  · rename_i l y
    split at h
    · rename_i q
      simp only [Bool.and_eq_true, decide_eq_true_eq] at q
      cases h
      obtain ⟨z, rfl, rz⟩ := rpa1 ra
      obtain ⟨u, rfl, ru⟩ := vals1 rs
      obtain ⟨a, xs, o, rfl, f, n, sq, rl⟩ := t.seqT g
      obtain ⟨its, rv, pl, hz⟩ := I.tupAt g f
      cases rx
      obtain ⟨bs, rd⟩ := (RpT.of (H := H) rz).reads C I g q.1.1 ru
      obtain ⟨as, hr⟩ := Dp.readsAll I _ xs its (by rw [C.K]; exact rl.dp g q.1.2) rv
      have hd : y.depth ≤ 60 := q.2
      have := C.hu
      exact PySem.SeqAt.count_tuple_data pl (by simpa using hr) rd q.1.2 q.1.1 (by omega) ⟨.int _, H, I.tok _, ⟨_, rfl⟩, gr_same g (.int _)⟩
    · cases h
  · cases h
theorem mt_countL (C : XC c X) : MtV c X 4 "list.count" mCountL (NW c) := by
  intro pins s σ H G x xs v us d ds r I g rx rs t ra hk h
  unfold mCountL at h
  split at h
  · rename_i l y
    split at h
    · rename_i q
      simp only [Bool.and_eq_true, decide_eq_true_eq] at q
      cases h
      obtain ⟨z, rfl, rz⟩ := rpa1 ra
      obtain ⟨u, rfl, ru⟩ := vals1 rs
      obtain ⟨a, xs, rfl, sq, rl⟩ := t.seqL g
      obtain ⟨its, rv, pl, hz⟩ := I.list (by rw [C.K]; exact sq)
      cases rx
      obtain ⟨bs, rd⟩ := (RpT.of (H := H) rz).reads C I g q.1.1 ru
      obtain ⟨as, hr⟩ := Dp.readsAll I _ xs its (by rw [C.K]; exact rl.dp g q.1.2) rv
      have hd : y.depth ≤ 60 := q.2
      have := C.hu
      exact PySem.SeqAt.count_list_data pl.isList (by simpa using hr) rd q.1.2 q.1.1 (by omega) ⟨.int _, H, I.tok _, ⟨_, rfl⟩, gr_same g (.int _)⟩
    · cases h
  · cases h
theorem count_kT {d : D} {ds : List D} {r : D} (h : mCountT d ds = some r) : kd d = 5 := by
  unfold mCountT at h
  split at h
  · rfl
  · cases h
theorem count_kL {d : D} {ds : List D} {r : D} (h : mCountL d ds = some r) : kd d = 4 := by
  unfold mCountL at h
  split at h
  · rfl
  · cases h
theorem ce_countT {o e : Expr} {apos cpos : Pos} {p : Pk} {f : Ev} (C : XC c X) (ho : CK c X o p) (he : CE c X e f)
    (hbase : attributeBase o "count" X.env (eval o X.env) = eval o X.env := by rfl) (hline : (apos.endLine == cpos.line) = true := by rfl) (hs : starEach [e] X.env = [(false, eval e X.env)] := by rfl) :
    CE c X (.Call (.Attribute o "count" apos) [e] [] cpos) (eM mCountT p (esCons f esNil)) :=
  ce_m (T := "tuple") (k := 5) C rfl (by decide) PySem.F.plainAttrs_tuple PySem.F.slot_tuple_count PySem.F.type_tuple_count (mt_countT C) (fun _ _ _ h => count_kT h) ho (ca_cons he ca_nil hs) hbase (by rw [hs]; rfl) hline hs rfl
theorem ce_countL {o e : Expr} {apos cpos : Pos} {p : Pk} {f : Ev} (C : XC c X) (ho : CK c X o p) (he : CE c X e f)
    (hbase : attributeBase o "count" X.env (eval o X.env) = eval o X.env := by rfl) (hline : (apos.endLine == cpos.line) = true := by rfl) (hs : starEach [e] X.env = [(false, eval e X.env)] := by rfl) :
    CE c X (.Call (.Attribute o "count" apos) [e] [] cpos) (eM mCountL p (esCons f esNil)) :=
  ce_m (T := "list") (k := 4) C rfl (by decide) PySem.F.plainAttrs_list PySem.F.slot_list_count PySem.F.type_list_count (mt_countL C) (fun _ _ _ h => count_kL h) ho (ca_cons he ca_nil hs) hbase (by rw [hs]; rfl) hline hs rfl

/-! ### a tuple k times -/
theorem tuple_mul_same (l : Addr) (items : Array Value) (n : Nat) (dd : Option Addr) (sl : Array (Option Value)) (x : Int) (u : Tok) (c0 : (decide (x < -(2 ^ 63)) || decide (x ≥ 2 ^ 63)) = false) (c1 : (items.isEmpty || x == 1) = true) :
    Meets (Builtin.«tuple.__mul__» ⟨[.ref l, .int x u], []⟩) (fun _ R s => s.heap.get? l = some { cls := .type "tuple", dict := dd, data := .seq items n, slots := sl } ∧ R (.ok (.ret (Value.ref l))) s) :=
  .of_wp fun prog w A R s h => by
    obtain ⟨hp, g, d, tk, os⟩ := s
    obtain ⟨hl, h⟩ := h
    have f1 := AutoSeq1.idx_int
    wp_walk using AutoSeq1.wpAny_loadPart' hl
    repeat (first
      | (refine wpAny_ite_false (decide_eq_false (by rw [c0]; exact Bool.false_ne_true)) ?_; wp_walk using AutoSeq1.wpAny_loadPart' hl)
      | (refine wpAny_ite_true (decide_eq_true c1) ?_; wp_walk using AutoSeq1.wpAny_loadPart' hl))
    exact ⟨_, rfl, h⟩
theorem tuple_mul_none (l : Addr) (items : Array Value) (n : Nat) (dd : Option Addr) (sl : Array (Option Value)) (x : Int) (u : Tok) (c0 : (decide (x < -(2 ^ 63)) || decide (x ≥ 2 ^ 63)) = false) (c1 : (items.isEmpty || x == 1) = false) (c2 : (decide (x ≤ 0) || items.isEmpty) = true) :
    Meets (Builtin.«tuple.__mul__» ⟨[.ref l, .int x u], []⟩) (fun _ R s => s.heap.get? l = some { cls := .type "tuple", dict := dd, data := .seq items n, slots := sl } ∧
      R (.ok (.ret (Value.ref s.heap.objs.size))) { s with heap := s.heap.push { cls := Value.type "tuple", data := Data.seq #[] }, toks := s.toks }) :=
  .of_wp fun prog w A R s h => by
    obtain ⟨hp, g, d, tk, os⟩ := s
    obtain ⟨hl, h⟩ := h
    have f1 := AutoSeq1.idx_int
    wp_walk using AutoSeq1.wpAny_loadPart' hl
    repeat (first
      | (refine wpAny_ite_false (decide_eq_false (by rw [c0]; exact Bool.false_ne_true)) ?_; wp_walk using AutoSeq1.wpAny_loadPart' hl)
      | (refine wpAny_ite_false (decide_eq_false (by rw [c1]; exact Bool.false_ne_true)) ?_; wp_walk using AutoSeq1.wpAny_loadPart' hl)
      | (refine wpAny_ite_true (decide_eq_true c2) ?_; wp_walk using AutoSeq1.wpAny_loadPart' hl))
    exact ⟨_, rfl, h⟩
end
end VL

set_option Elab.async false
set_option linter.all false
set_option maxRecDepth 100000
/-! V10: a tuple k times; sorted. -/
namespace VL
open PySem PySem.Spec PyProof.Rows L2

section
variable {c : Ct} {X : Cx} {Pr G H : Hp} {σ : L2.St} {ρ ρ' : List O} {pins : List (Addr × Obj)} {s : Shared}
theorem rpa_rep {xs : List V} {l : List D} (ra : RpA c G xs l) : ∀ n : Nat, RpA c G (List.replicate n xs).flatten (List.replicate n l).flatten
  | 0 => .nil
  | n + 1 => by
    rw [List.replicate_succ, List.replicate_succ, List.flatten_cons, List.flatten_cons]
    exact ra.append (rpa_rep ra n)
/-- a list k times: a new list -/
def sRepL : D → D → Option D
  | .list l, .int k => if k ≤ 1000 ∧ -1000 ≤ k ∧ l.length ≤ 1000 then some (.list (List.replicate k.toNat l).flatten) else none
  | _, _ => none
theorem int_rmul_listW (a : Int) (t : Tok) (l : Addr) (items : Array Value) (n : Nat) (dd : Option Addr) (sl : Array (Option Value)) :
    Meets (Builtin.«int.__rmul__» ⟨[.int a t, .ref l], []⟩) (fun _ R s => s.heap.get? l = some { cls := .type "list", dict := dd, data := .seq items n, slots := sl } ∧ R (.ok (.ret Value.notImplemented)) s) :=
  .of_wp fun prog w A R s h => by obtain ⟨hp, g, d, tk, os⟩ := s; obtain ⟨hl, h⟩ := h; wp_walk; exact ⟨_, rfl, h⟩
theorem list_mulW (l : Addr) (items : Array Value) (n : Nat) (dd : Option Addr) (sl : Array (Option Value)) (x : Int) (u : Tok) (hc0 : ¬(!Builtin.List.listFitsIndex x) = true) (hc1 : ¬items.size * x.toNat > (2 ^ 63 - 1) / 8) (hc2 : ¬Builtin.List.listTooLong (items.size * x.toNat) = true) :
    Meets (Builtin.«list.__mul__» ⟨[.ref l, .int x u], []⟩) (fun _ R s => s.heap.get? l = some { cls := .type "list", dict := dd, data := .seq items n, slots := sl } ∧ R (.ok (.ret (Value.ref s.heap.objs.size))) { s with heap := s.heap.push { cls := Value.type "list", data := Data.seq (List.foldl (fun x1 x2 => x1 ++ x2) #[] (List.replicate (if items.isEmpty = true then 0 else x.toNat) items)) }, toks := s.toks }) :=
  .of_wp fun prog w A R s h => by
    obtain ⟨hp, g, d, tk, os⟩ := s; obtain ⟨hl, h⟩ := h
    have hsz := AutoListH.joined_fits hc2
    wp_walk; refine wpAny_ite_false (decide_eq_false (Nat.not_lt.mpr hsz)) ?_; wp_walk; exact ⟨_, rfl, h⟩
theorem fp_repL (C : XC c X) : Fp2 c X (binaryOp .Mult) sRepL := by
  intro pins s σ H G x y v u d e r I g rx ry t1 t2 h
  unfold sRepL at h
  split at h
  · rename_i l k
    split at h
    · rename_i q
      cases h
      obtain ⟨a, xs, rfl, q1, ra⟩ := t1.seqL g
      rw [t2.int] at ry
      cases rx
      obtain ⟨tk, rfl⟩ := ry
      obtain ⟨its, rv, p1, hz⟩ := I.list (by rw [C.K]; exact q1)
      obtain ⟨⟨cls, dd, data, sl⟩, n, ho, hc, hd0, hd⟩ := p1
      simp only at hc hd
      subst hc hd
      have hl : xs.length = l.length := ra.length
      have hle : its.length = xs.length := rv.length.symm
      have hsz0 : its.toArray.size = xs.length := by rw [List.size_toArray, hle]
      have hk : k.toNat ≤ 1000 := by omega
      have hp : xs.length * k.toNat ≤ 1000 * 1000 := Nat.mul_le_mul (by omega) hk
      have big : LIM ≤ sizeLine := by decide
      have hlim : LIM = 1000000 := rfl
      have hlen : its.toArray.size * k.toNat ≤ sizeLine := by rw [hsz0]; omega
      have hcap : ¬ its.toArray.size * k.toNat > (2 ^ 63 - 1) / 8 := by
        have : (sizeLine : Nat) ≤ (2 ^ 63 - 1) / 8 := by decide
        omega
      have e63 : (2 : Int) ^ 63 = 9223372036854775808 := by decide
      have hfit : ¬ (!Builtin.List.listFitsIndex k) = true := by
        rw [fitsIndex_both (by omega) (by omega)]
        exact Bool.false_ne_true
      have hlong : ¬ Builtin.List.listTooLong (its.toArray.size * k.toNat) = true := by
        rw [notLongL hlen]
        exact Bool.false_ne_true
      have hnew : List.foldl (fun x1 x2 => x1 ++ x2) #[] (List.replicate (if its.toArray.isEmpty = true then 0 else k.toNat) its.toArray) = (List.replicate k.toNat its).flatten.toArray := by
        have f0 : ∀ m : Nat, List.foldl (fun x1 x2 => x1 ++ x2) #[] (List.replicate m its.toArray) = (List.replicate m its).flatten.toArray := fun m => by
          have := foldl_rep its m []
          rw [List.nil_append] at this
          exact this
        rw [f0]
        cases its with
        | nil => simp
        | cons a r' => rw [if_neg (by simp)]
      refine wpAny_binaryOp_repeat_ref (T := "list") (U := "int") (by decide) ⟨_, ho, rfl⟩ (fun s' => typeIs_int s' k tk) noFill_list_mul F.fills_int_mul F.slot_int_rmul repeat_list F.slot_int_index.lookup
        (call_meets F.slot_int_rmul (typeIs_int s k tk) F.entry_int_rmul (F.args_int_rmul_2 _ _) (int_rmul_listW k tk a its.toArray n dd sl)
          ⟨ho, rfl, ⟨_, ho, rfl⟩, call_meets F.slot_list_mul ⟨_, ho, rfl⟩ F.entry_list_mul (F.args_list_mul_2 _ _) (list_mulW a its.toArray n dd sl k tk hfit hcap hlong) ⟨ho, ?_⟩⟩)
      rw [hnew]
      exact laidL (h' := s.heap) (tk := s.toks) I g (rv.rep k.toNat) (by rw [PyProof.Rows.lm_len_rep_flat, Nat.mul_comm]; omega) (rpa_rep ra k.toNat)
    · cases h
  · cases h
theorem op_repV : Op2 c X (binaryOp .Mult) sRep := by
  intro pins s σ H G x y v u d e r I g rx ry t1 t2 h
  unfold sRep at h
  split at h
  · rename_i l k
    split at h
    · rename_i q
      cases h
      obtain ⟨a, xs, o, rfl, f, n, sq, ra⟩ := t1.seqT g
      rw [t2.int] at ry
      cases rx
      obtain ⟨tk, rfl⟩ := ry
      obtain ⟨its, rv, ⟨⟨cls, dd, data, sl⟩, ho, hc, m, hd⟩, hz⟩ := I.tupAt g f
      simp only at hc hd
      subst hc hd
      have hl : xs.length = l.length := ra.length
      have hle : its.length = xs.length := rv.length.symm
      have hsz0 : its.toArray.size = xs.length := by rw [List.size_toArray, hle]
      have c0 : (decide (k < -(2 ^ 63)) || decide (k ≥ 2 ^ 63)) = false := by
        have e63 : (2 : Int) ^ 63 = 9223372036854775808 := by decide
        rw [decide_eq_false (by omega), decide_eq_false (by omega)] <;> rfl
      refine wpAny_binaryOp_repeat_ref (T := "tuple") (U := "int") (by decide) ⟨_, ho, rfl⟩ (fun s' => typeIs_int s' k tk) noFill_tuple_mul F.fills_int_mul F.slot_int_rmul repeat_tuple F.slot_int_index.lookup
        (call_meets F.slot_int_rmul (typeIs_int s k tk) F.entry_int_rmul (F.args_int_rmul_2 _ _) (int_rmul_tuple k tk a its.toArray m dd sl)
          ⟨ho, rfl, ⟨_, ho, rfl⟩, ?_⟩)
      cases e1 : (its.toArray.isEmpty || k == 1) with
      | true =>
        refine call_meets F.slot_tuple_mul ⟨_, ho, rfl⟩ F.entry_tuple_mul (F.args_tuple_mul_2 _ _) (tuple_mul_same a its.toArray m dd sl k tk c0 e1) ⟨ho, .ref a, H, I, rfl, gr_same g ?_⟩
        have el : (List.replicate k.toNat l).flatten = l := by
          rcases Bool.or_eq_true_iff.mp e1 with h | h
          · have e2 : its = [] := by simpa using h
            subst e2
            cases rv
            cases ra
            simp
          · have e2 : k = 1 := by simpa using h
            subst e2
            show (List.replicate 1 l).flatten = l
            simp
        rw [el]
        exact .tup f n ra
      | false =>
        by_cases hk : k ≤ 0
        · have c2 : (decide (k ≤ 0) || its.toArray.isEmpty) = true := by rw [decide_eq_true hk]; rfl
          refine call_meets F.slot_tuple_mul ⟨_, ho, rfl⟩ F.entry_tuple_mul (F.args_tuple_mul_2 _ _) (tuple_mul_none a its.toArray m dd sl k tk c0 e1 c2) ⟨ho, ?_⟩
          have e0 : k.toNat = 0 := by omega
          rw [e0]
          exact laidT (h' := s.heap) (tk := s.toks) (vs := []) (us := []) I g .nil (Nat.zero_le _) .nil
        · obtain ⟨e2, e3⟩ := Bool.or_eq_false_iff.mp e1
          have c2 : (decide (k ≤ 0) || its.toArray.isEmpty) = false := by rw [e2, decide_eq_false hk]; rfl
          have hm : ((its.toArray.size : Nat) : Int) * k ≤ 1000000 := by
            rw [hsz0]
            have a1 : ((xs.length : Nat) : Int) * k ≤ 1000 * k := Int.mul_le_mul_of_nonneg_right (by omega) (by omega)
            omega
          have c4 : Builtin.Tuple.tupleTooMany (((its.toArray.size : Nat) : Int) * k) = false := by
            unfold Builtin.Tuple.tupleTooMany
            rw [sizeLine_eq]
            exact decide_eq_false (by omega)
          have flen : (List.replicate k.toNat its).flatten.length ≤ sizeLine := by
            rw [PyProof.Rows.lm_len_rep_flat, hle, sizeLine_eq]
            have a1 : k.toNat * xs.length ≤ 1000 * 1000 := Nat.mul_le_mul (by omega) (by omega)
            omega
          have flen2 : (List.replicate k.toNat xs).flatten.length ≤ sizeLine := by
            rw [PyProof.Rows.lm_len_rep_flat, sizeLine_eq]
            have a1 : k.toNat * xs.length ≤ 1000 * 1000 := Nat.mul_le_mul (by omega) (by omega)
            omega
          refine call_meets F.slot_tuple_mul ⟨_, ho, rfl⟩ F.entry_tuple_mul (F.args_tuple_mul_2 _ _) (tuple_mulW a its.toArray m dd sl k tk c0 e1 c2 (by omega) c4 (by rw [size_rep, List.size_toArray]; exact flen)) ⟨ho, ?_⟩
          rw [size_rep]
          exact laidT (h' := s.heap) (tk := s.toks) I g (rv.rep k.toNat) flen2 (rpa_rep ra _)
    · cases h
  · cases h

/-! ### sorted -/
open PySem.W PySem.SeqAt
theorem oneLt_tups {P : Program} {w : World} {A : Around} {E : Value → Shared → Prop} {s : Shared} {xs ys : List PyData} {a b : Value} {as bs : List Addr} {Q : Bool → Shared → Prop} (ra : Reads s.heap a (.tuple xs) as) (rb : Reads s.heap b (.tuple ys) bs) (hal : alikeAll xs ys = true)
    (hu : A.units + min (PyData.tuple xs).depth (PyData.tuple ys).depth < cLine) (hq : Q (dataLt (.tuple xs) (.tuple ys)) s) : wpAny (model P w) A (oneLt' true a b) Q E s := by
  cases ra with
  | @tuple l o vs n _ as₁ h1 h2 h3 h4 =>
    cases rb with
    | @tuple l' o' vs' n' _ bs₁ k1 k2 k3 k4 =>
      have n1 : vs.size = xs.length := by simpa using ReadsAll.length _ _ _ h4
      have n2 : vs'.size = ys.length := by simpa using ReadsAll.length _ _ _ k4
      rw [dataLt_tuple, ← firstLt_toks xs ys hal, ← n1, ← n2] at hq
      rw [oneLt'_eq]
      simp only [if_true]
      refine wpAny_bind (wpAny_cRoomFor (room_here hu) ?_)
      obtain ⟨cls, dd, data, sl⟩ := o
      obtain ⟨cls2, dd2, data2, sl2⟩ := o'
      simp only at h2 h3 k2 k3
      subst h2 h3 k2 k3
      refine wpAny_bind (wpAny_callSpecialIfBound?_slot (T := "tuple") ⟨_, h1, rfl⟩ F.slot_tuple_lt (call_meets F.slot_tuple_lt ⟨_, h1, rfl⟩ F.entry_tuple_lt (F.args_tuple_lt_2 _ _) (tuple_ltAt l l' vs vs' n n' dd dd2 sl sl2 (pairEq xs ys) (fun j => dataLt (xs.getD j .none) (ys.getD j .none))) ⟨h1, k1, fun j j1 j2 => ?_, fun j j1 j2 hj => ?_, ?_⟩))
      · have := eqAt_alikeAll xs ys A.in1 s vs.toList vs'.toList _ _ h4 k4 hal (room_in hu) j (by simpa using j1) (by simpa using j2)
        simpa using this
      · have := rcLt_alikeAll xs ys A.in1 s vs.toList vs'.toList _ _ h4 k4 hal (room_in hu) j (by simpa using j1) (by simpa using j2) hj
        simpa using this
      · exact wpAny_truthy_bool hq
/-- the first items of tuples -/
theorem firsts_tups {M : Model} {A : Around} {E : Value → Shared → Prop} {s : Shared} : ∀ (vs : List Value) (ds : List D) {Q : List (Option Value) → Shared → Prop}, EachIs (fun v d => ∃ as, Reads s.heap v d as) vs ds → (∀ d ∈ ds, kd d = 5) →
    (∀ fs : List (Option Value), fs.length = ds.length → (∀ (i : Nat) (d : D), ds[i]? = some d → ∃ f : Option Value, fs[i]? = some f ∧ (f.isSome = true ↔ d ≠ .tuple [])) → Q fs s) → wpAny M A (vs.mapM firstOfTuple') Q E s
  | _, _, Q, .nil, _, h => by rw [List.mapM_nil]; exact wpAny_pure (h [] rfl fun i d e => by simp at e)
  | _, _, Q, .cons (b := d) (as := vs) (bs := ds) ⟨as, r⟩ t, hk, h => by
    have hd := hk d List.mem_cons_self
    rw [List.mapM_cons]
    refine wpAny_bind ?_
    cases d with
    | tuple xs =>
      cases r with
      | @tuple a o vs1 n _ as₁ h1 h2 h3 h4 =>
        rw [kas_first_eq]
        refine wpAny_bind (Looks.here (show Looks M s.heap (typeOf (.ref a)) o.cls from (Looks.ld h1).andThen .now) ?_)
        rw [h2, if_neg (by first | decide | simp)]
        refine wpAny_bind (listItems_at h1 h3 (wpAny_pure ?_))
        refine wpAny_bind (firsts_tups vs ds t (fun d hd => hk d (List.mem_cons_of_mem _ hd)) fun fs hl hf => wpAny_pure (h _ (by simp [hl]) fun i d e => ?_))
        cases i with
        | zero =>
          have e : PyData.tuple xs = d := by simpa using e
          subst e
          refine ⟨_, rfl, ?_⟩
          have hlen : vs1.size = xs.length := by simpa using ReadsAll.length _ _ _ h4
          cases xs with
          | nil =>
            have : vs1[0]? = none := by simp; simpa using hlen
            simp [this]
          | cons x xs =>
            have hp : 0 < vs1.size := by rw [hlen]; simp
            simp [hp]
        | succ i => simpa using hf i d (by simpa using e)
    | _ => simp [kd] at hd
/-- tuples, some of them empty, can be sorted -/
theorem sortsAt_tups {P : Program} {w : World} {A : Around} {s : Shared} {vs : List Value} {ds : List D} (e : EachIs (fun v d => ∃ as, Reads s.heap v d as) vs ds) (hal : AllAlike ds) (hk : ∀ d ∈ ds, kd d = 5) (hu : ∀ d, d ∈ ds → A.units + d.depth < cLine) : SortsAt P w A s (dataKind s.heap ds) vs := by
  by_cases hne : ∀ d ∈ ds, d ≠ .tuple []
  · refine SortsAt.data e hal (.inl fun d hd => ?_) hu
    have h1 := hk d hd
    cases d with
    | tuple xs =>
      cases xs with
      | nil => exact absurd rfl (hne _ hd)
      | cons x r => exact ⟨x, r, rfl⟩
    | _ => simp [kd] at h1
  have room : ∀ {d d' : PyData}, d ∈ ds → A.units + min d.depth d'.depth < cLine := fun {d d'} hd => Nat.lt_of_le_of_lt (Nat.add_le_add_left (Nat.min_le_left _ _) _) (hu d hd)
  have keys : ∀ v, v ∈ vs → ∃ a, (dataKind s.heap ds).keyOf v = some a := fun v hv => by
    obtain ⟨d, hd, as, r⟩ := e.left v hv
    exact ⟨_, dataKind_some hal hd r⟩
  have lt1 : H.LtAt P w A s (dataKind s.heap ds) oneType' := by
    intro E x y a b Q ha hb hq
    obtain ⟨d, as, hd, ra, rfl⟩ := dataKind_inv ha
    obtain ⟨d', as', hd', rb, rfl⟩ := dataKind_inv hb
    rw [keyLt'_oneType]
    have k1 := hk d hd
    have k2 := hk d' hd'
    have hdd := hal d hd d' hd'
    have hroom := room (d' := d') hd
    cases d with
    | tuple xs =>
      cases d' with
      | tuple ys => exact oneLt_tups ra rb (by simpa [alike] using hdd) hroom hq
      | _ => simp [kd] at k2
    | _ => simp [kd] at k1
  have lt2 : H.LtAt P w A s (dataKind s.heap ds) general' := by
    intro E x y a b Q ha hb hq
    obtain ⟨d, as, hd, ra, rfl⟩ := dataKind_inv ha
    obtain ⟨d', as', hd', rb, rfl⟩ := dataKind_inv hb
    show wpAny (model P w) A (oneLt' false x y) Q E s
    exact oneLt_alike (fun h => absurd h Bool.false_ne_true) ra rb (hal d hd d' hd') (fun e => by have := hk d hd; rw [e] at this; simp [kd] at this) (room hd) hq
  refine ⟨keys, ?_⟩
  have hlen : vs.length = ds.length := e.length
  -- the kind: by the first one
  by_cases h0 : ds[0]? = some (.tuple [])
  · refine ⟨oneType', lt1, fun h2 E Q hq => ?_⟩
    rw [kat_kind_eq, List.mapM_toArray, map_eq_pure_bind]
    refine wpAny_bind (wpAny_bind (firsts_tups vs ds e hk fun fs hl hf => wpAny_pure ?_))
    obtain ⟨f0, e0, i0⟩ := hf 0 _ h0
    have hn : ¬ (fs.toArray.all fun x => x.isSome) = true := by
      intro hh
      have := List.all_eq_true.mp (by simpa using hh) f0 (List.mem_of_getElem? e0)
      exact (i0.mp this) rfl
    rw [if_neg hn]
    have hb : ¬ (fs.toArray[0]?.bind id).isSome = true := by
      have : fs.toArray[0]? = some f0 := by simpa using e0
      rw [this]
      intro hh
      exact (i0.mp (by simpa using hh)) rfl
    rw [if_neg hb]
    rw [oneTypeOnly'_eq, List.mapM_toArray, map_eq_pure_bind]
    refine wpAny_bind (wpAny_bind (wpAny_bind (kas_mapM (r := Value.type "tuple") _ (fun v hv Q' hq => ?_) (wpAny_pure ?_))))
    · obtain ⟨d, hd, as, r⟩ := e.left v hv
      have hT : Looks (model P w) s.heap (typeOf v) (dataType d) := looks_reads r
      have k1 := hk d hd
      cases d with
      | tuple xs => exact hT.here hq
      | _ => simp [kd] at k1
    · have hall2 : ((List.map (fun _ => Value.type "tuple") vs).toArray.all fun x => x == Value.type "tuple") = true := by
        simp only [List.all_toArray, List.all_map, List.all_eq_true]
        intro _ _
        rfl
      have h00 : (List.map (fun _ => Value.type "tuple") vs).toArray[0]? = some (Value.type "tuple") := by
        have : 0 < vs.length := by omega
        simp [this]
      rw [h00]
      simp only [hall2, if_true]
      exact wpAny_pure (wpAny_pure hq)
  · refine ⟨general', lt2, fun h2 E Q hq => ?_⟩
    rw [kat_kind_eq, List.mapM_toArray, map_eq_pure_bind]
    refine wpAny_bind (wpAny_bind (firsts_tups vs ds e hk fun fs hl hf => wpAny_pure ?_))
    have hn : ¬ (fs.toArray.all fun x => x.isSome) = true := by
      intro hh
      apply hne
      intro d hd hd0
      obtain ⟨i, hi⟩ := List.getElem?_of_mem hd
      obtain ⟨f, e1, e2⟩ := hf i d hi
      have := List.all_eq_true.mp (by simpa using hh) f (List.mem_of_getElem? e1)
      exact (e2.mp this) hd0
    rw [if_neg hn]
    have hds : 0 < ds.length := by omega
    obtain ⟨f0, e0, i0⟩ := hf 0 ds[0] (by simp [hds])
    have hb : (fs.toArray[0]?.bind id).isSome = true := by
      have : fs.toArray[0]? = some f0 := by simpa using e0
      rw [this]
      have hi := i0.mpr (fun hh => h0 (by rw [← hh]; simp [hds]))
      simpa using hi
    rw [if_pos hb]
    exact wpAny_pure hq
end
end VL

set_option Elab.async false
set_option linter.all false
set_option maxRecDepth 100000
/-! V11: sorted(x) of a list, a tuple, a dict. -/
namespace VL
open PySem PySem.Spec PyProof.Rows L2 PySem.W PySem.SeqAt

section
variable {c : Ct} {X : Cx} {Pr G H : Hp} {σ : L2.St} {ρ ρ' : List O} {pins : List (Addr × Obj)} {s : Shared}
theorem alike_of {l : List D} (h : sortable l = true) : AllAlike l ∧ ((∀ d ∈ l, kd d = 5) ∨ ∀ d ∈ l, kd d ≠ 5 ∧ kd d ≠ 0) ∧ l.length ≤ LIM ∧ ∀ d ∈ l, d.depth ≤ lvl := by
  unfold sortable at h
  simp only [Bool.and_eq_true, Bool.or_eq_true, List.all_eq_true, decide_eq_true_eq, beq_iff_eq, bne_iff_ne] at h
  exact ⟨fun d h1 d' h2 => h.1.1.1 d h1 d' h2, h.1.1.2, h.1.2, h.2⟩
theorem sortsAt_of {P : Program} {w : World} {A : Around} {s : Shared} {vs : List Value} {ds : List D} (e : EachIs (fun v d => ∃ as, Reads s.heap v d as) vs ds) (hal : AllAlike ds) (hk : (∀ d ∈ ds, kd d = 5) ∨ ∀ d ∈ ds, kd d ≠ 5 ∧ kd d ≠ 0) (hu : ∀ d, d ∈ ds → A.units + d.depth < cLine) : SortsAt P w A s (dataKind s.heap ds) vs := by
  rcases hk with hk | hk
  · exact sortsAt_tups e hal hk hu
  · refine SortsAt.data e hal (.inr fun d hd => ?_) hu
    obtain ⟨h1, h2⟩ := hk d hd
    refine ⟨fun e => h2 (by rw [e]; rfl), fun xs e => h1 (by rw [e]; rfl)⟩
/-- sorted(x), whatever is walked -/
theorem sorted_shell {P : Program} {w : World} {A : Around} {E : Value → Shared → Prop} {s : Shared} {r : Value} {ds : List D} {C : (Value → D → Prop) → Heap → Prop} {Q : Value → Shared → Prop}
    (hcol : ∀ E' : Value → Shared → Prop, wpAny (model P w) A.in1 (collect r) (fun vs s1 => ∃ (h' : Heap) (tk : Nat) (R : Value → D → Prop), s1 = { s with heap := h', toks := tk } ∧ (∀ b o, s.heap.get? b = some o → h'.get? b = some o) ∧ EachIs R vs ds ∧ EachIs (fun v d => ∃ as, Reads h' v d as) vs ds ∧ C R h') E' s)
    (hal : AllAlike ds) (hk : (∀ d ∈ ds, kd d = 5) ∨ ∀ d ∈ ds, kd d ≠ 5 ∧ kd d ≠ 0) (hL : ds.length ≤ sizeLine) (hu : ∀ d, d ∈ ds → A.units + 2 + d.depth < cLine)
    (h : ∀ (h1 h' : Heap) (tk : Nat) (p : Addr) (out : List Value) (n : Nat) (R : Value → D → Prop), C R h1 → (∀ b o, s.heap.get? b = some o → h1.get? b = some o) → (∀ b o, h1.get? b = some o → h'.get? b = some o) → h1.objs.size ≤ p → h'.get? p = some { cls := .type "list", data := .seq out.toArray n } → out.length = ds.length → EachIs R out (ds.mergeSort (dataLe false id)) → Q (.ref p) { s with heap := h', toks := tk }) :
    wpAny (model P w) A (call (.builtin "sorted") [r]) Q E s := by
  refine call_function_entry_kw kind_sorted plain_sorted entry_sorted (args_sorted1 _) ?_
  unfold Builtin.«sorted»
  refine wpAny_bind (m := checkCount "sorted" 1 1 _) (wpAny_pure ?_)
  refine wpAny_bind (wpAny_mono (hcol _) (fun vs s1 ⟨h1, tk, R, e1, k1, eR, er, hC⟩ => ?_) fun _ _ x => x)
  subst e1
  have hlen : vs.length = ds.length := eR.length
  refine wpAny_bind (wpAny_newList ?_ (by rw [hlen]; exact hL))
  have ho : (h1.push (seqObj "list" vs.toArray 0)).get? h1.objs.size = some (seqObj "list" vs.toArray 0) := Heap.get?_push_size _ rfl
  have kp : ∀ b o, h1.get? b = some o → (h1.push (seqObj "list" vs.toArray 0)).get? b = some o := fun b o e => Heap.get?_push_of_some _ e
  have ks : ∀ b o, h1.get? b = some o → (sortingHeap (h1.push (seqObj "list" vs.toArray 0)) h1.objs.size vs).get? b = some o := fun b o e => sortingHeap_old (Nat.ne_of_lt (Heap.lt_size e)) (kp b o e)
  have er' : EachIs (fun v d => ∃ as, Reads (sortingHeap (h1.push (seqObj "list" vs.toArray 0)) h1.objs.size vs) v d as) vs ds := er.mono fun _ _ ⟨as, r⟩ => ⟨as, PyProof.Rows.Reads.keeps ks r⟩
  refine wpAny_bind (wpAny_holding (wpAny_call_entry_kw slot_list_sort ⟨_, ho, rfl⟩ entry_list_sort ?body (args_list_sort _)))
  case body =>
    show wpAny (model P w) A.in1.in1 (Builtin.«list.sort» ⟨[.ref h1.objs.size], []⟩) _ _ { s with heap := h1.push (seqObj "list" vs.toArray 0), toks := tk }
    refine list_sort_vals (s := { s with heap := h1.push (seqObj "list" vs.toArray 0), toks := tk }) (κ := dataKind (sortingHeap (h1.push (seqObj "list" vs.toArray 0)) h1.objs.size vs) ds) ho (sortsAt_of (s := { s with heap := sortingHeap (h1.push (seqObj "list" vs.toArray 0)) h1.objs.size vs, toks := tk }) er' hal hk hu) (by rw [hlen]; exact hL) ?_
    refine ⟨.none, rfl, wpAny_pure ⟨_, rfl, ?_⟩⟩
    obtain ⟨n, hn⟩ := PyProof.Rows.sortedHeap_at (vs := vs) (out := (sortVals (dataKind (sortingHeap (h1.push (seqObj "list" vs.toArray 0)) h1.objs.size vs) ds) false vs vs).toArray) ho
    have eid : ds.map id = ds := List.map_id ds
    refine h h1 _ tk h1.objs.size _ n R hC k1 (fun b o e => ?_) (Nat.le_refl _) hn (by rw [sortVals_length false rfl]; exact hlen) ?_
    · exact (PyProof.Rows.sortedHeap_old (Nat.ne_of_lt (Heap.lt_size e)) (Heap.lt_size (kp b o e))).trans (kp b o e)
    · have q := sortVals_data (h' := sortingHeap (h1.push (seqObj "list" vs.toArray 0)) h1.objs.size vs) (enc := (id : D → D)) (rev := false) eR er' (by rw [eid]; exact hal)
      rw [eid] at q
      exact q
theorem each_rp {vs : List Value} {ds : List D} (h : EachIs (fun v d => ∃ x, RelV x v ∧ Rp c G x d) vs ds) : ∃ xs, Vals xs vs ∧ RpA c G xs ds := by
  induction h with
  | nil => exact ⟨[], .nil, .nil⟩
  | cons h t ih =>
    obtain ⟨x, r, q⟩ := h
    obtain ⟨xs, rs, qs⟩ := ih
    exact ⟨x :: xs, .cons r rs, .cons q qs⟩
theorem rp_each {ds : List D} : ∀ {xs : List V} {vs : List Value}, Vals xs vs → RpA c G xs ds → EachIs (fun v d => ∃ x, RelV x v ∧ Rp c G x d) vs ds := by
  induction ds with
  | nil => intro xs vs r q; cases q; cases r; exact .nil
  | cons d ds ih =>
    intro xs vs r q
    cases q with
    | cons q1 q2 =>
      cases r with
      | cons r1 r2 => exact .cons ⟨_, r1, q1⟩ (ih r2 q2)
mutual
theorem alike_plain : ∀ x : D, alike x x = true → x.plain = true
  | .none, _ => rfl
  | .bool _, _ => rfl
  | .int _, _ => rfl
  | .str _, _ => rfl
  | .list xs, h => by
    rw [PyData.plain]
    exact alike_plainAll xs (by simpa [alike] using h)
  | .tuple xs, h => by
    rw [PyData.plain]
    exact alike_plainAll xs (by simpa [alike] using h)
  | .dict _, h => by simp [alike] at h
theorem alike_plainAll : ∀ xs : List D, alikeAll xs xs = true → PyData.plainAll xs = true
  | [], _ => rfl
  | x :: xs, h => by
    rw [alikeAll, Bool.and_eq_true] at h
    rw [PyData.plainAll, alike_plain x h.1, alike_plainAll xs h.2]
    rfl
end
theorem allAlike_plain {l : List D} (h : AllAlike l) : PyData.plainAll l = true := by
  induction l with
  | nil => rfl
  | cons x l ih =>
    rw [PyData.plainAll, alike_plain x (h x List.mem_cons_self x List.mem_cons_self), ih fun d hd d' hd' => h d (List.mem_cons_of_mem _ hd) d' (List.mem_cons_of_mem _ hd')]
    rfl
/-- what a dict lies as -/
theorem rpt_dict {v : V} {l : List (D × D)} (t : RpT c G H v (.dict l)) (g : Ge G H) : ∃ a ep hs xs ys, v = .ref a ∧ H a = some (dO a ep hs xs ys) ∧ hs = l.map (fun p => hashK c.w p.1) ∧ keysNd l ∧ RpA c G xs (l.map (·.1)) ∧ RpA c G ys (l.map (·.2)) := by
  cases t with
  | of t => cases t with
    | dic h1 h2 h3 h4 h5 => exact ⟨_, _, _, _, _, rfl, g _ _ h1, h2, h3, h4, h5⟩
  | dic h1 h2 h3 h4 h5 => exact ⟨_, _, _, _, _, rfl, h1, h2, h3, h4, h5⟩
theorem Ent.keys : ∀ {es : List DictEntry} {hs : List Int} {xs ys : List V}, Ent es hs xs ys → Vals xs (es.map (·.key)) ∧ Vals ys (es.map (·.val)) ∧ hs = es.map (·.hash)
  | _, _, _, _, .nil => ⟨.nil, .nil, rfl⟩
  | _, _, _, _, .cons h r1 r2 t => by
    obtain ⟨h1, h2, h3⟩ := t.keys
    exact ⟨.cons r1 h1, .cons r2 h2, by rw [List.map_cons, h, h3]⟩
theorem fp_sortedV (C : XC c X) : Fp1 c X (fun v => call (.builtin "sorted") [v]) sSorted := by
  intro pins s σ H G x v d r I g rx t e
  unfold sSorted at e
  have hu := C.hu
  -- the items as they are collected
  have fin : ∀ {l : List D} {xs : List V} {its : List Value}, Vals xs its → RpA c G xs l → sortable l = true → r = .list (isort l) →
      (∀ (E' : Value → Shared → Prop) (R : List Value → Shared → Prop), (∀ (h' : Heap) (tk : Nat), (∀ b o, s.heap.get? b = some o → h'.get? b = some o) → R its { s with heap := h', toks := tk }) → wpAny (model X.prog X.w) X.A.in1 (collect v) R E' s) →
      wpAny (model X.prog X.w) X.A (call (.builtin "sorted") [v]) (EP X pins σ (FL c G H r)) X.xe s := fun {l xs its} rv ra hs er hc => by
    obtain ⟨a1, a2, a3, a4⟩ := alike_of hs
    have big : LIM ≤ sizeLine := by decide
    refine sorted_shell (ds := l) (C := fun R _ => R = fun v d => ∃ x, RelV x v ∧ Rp c G x d) (fun E' => hc E' _ fun h' tk k => ?_) a1 a2 (by omega) (fun d hd => by have h9 : d.depth ≤ 60 := a4 d hd; omega) (fun h1 h' tk p out n R hR k1 k2 hp ho hl eo => ?_)
    · refine ⟨h', tk, _, rfl, k, rp_each rv ra, ?_, rfl⟩
      have I' := I.kept (t' := tk) k
      obtain ⟨as, hr⟩ := Dp.readsAll I' _ xs its (by rw [C.K]; exact ra.dp g (allAlike_plain a1)) rv
      refine readsAll_each (id : D → D) (as := as) ?_
      rw [List.map_id]
      exact hr
    · subst hR
      rw [← isort_eq] at eo
      obtain ⟨ys, rys, qs⟩ := each_rp eo
      have hsz : ys.length ≤ sizeLine := by
        rw [qs.length, (isort_perm l).length_eq]
        omega
      have I1 := I.kept (t' := s.toks) k1
      have n0 : H p = none := I1.hok.fresh hp
      exact ⟨.ref p, upd H p (.lst ys), I1.laid (o := .lst ys) (t' := tk) k2 hp ⟨hsz, out, n, rys, ho⟩, rfl, G, H, p, ys, _, Gr.refl g, rfl, n0, rfl, er, qs⟩
  cases d with
  | list l =>
    have e : (if sortable l = true then some (PyData.list (isort l)) else none) = some r := e
    by_cases hs : sortable l = true
    · rw [if_pos hs] at e
      cases e
      obtain ⟨a, xs, rfl, q, ra⟩ := t.seqL g
      obtain ⟨its, rv, pl, hz⟩ := I.list (by rw [C.K]; exact q)
      cases rx
      obtain ⟨o, ho, hc, n, hd⟩ := pl.isList
      exact fin rv ra hs rfl fun E' R k => wpAny_collect_seq a (.inl rfl) ho hc hd (fun h' kh => k h' s.toks kh) (by rw [List.size_toArray, ← rv.length]; exact hz)
    · rw [if_neg hs] at e
      cases e
  | tuple l =>
    have e : (if sortable l = true then some (PyData.list (isort l)) else none) = some r := e
    by_cases hs : sortable l = true
    · rw [if_pos hs] at e
      cases e
      obtain ⟨a, xs, o, rfl, f, n, q, ra⟩ := t.seqT g
      obtain ⟨its, rv, ⟨o, ho, hc, n, hd⟩, hz⟩ := I.tupAt g f
      cases rx
      exact fin rv ra hs rfl fun E' R k => wpAny_collect_seq a (.inr rfl) ho hc hd (fun h' kh => k h' s.toks kh) (by rw [List.size_toArray, ← rv.length]; exact hz)
    · rw [if_neg hs] at e
      cases e
  | dict l =>
    have e : (if sortable (l.map (·.1)) = true then some (PyData.list (isort (l.map (·.1)))) else none) = some r := e
    by_cases hs : sortable (l.map (·.1)) = true
    · rw [if_pos hs] at e
      cases e
      obtain ⟨a, ep, hs', xs, ys, rfl, hH, h2, h3, h4, h5⟩ := rpt_dict t g
      obtain ⟨⟨lo, hz, es, hraw, he⟩, _⟩ := I.hok _ _ hH
      obtain ⟨v1, v2, v3⟩ := he.keys
      cases rx
      refine fin v1 h4 hs rfl fun E' R k => ?_
      have hn : es.size ≤ sizeLine := by
        rw [v3] at hz
        simpa using hz
      refine kdu_collect (KdlSrc.rawDict lo (es := es) (ep := ep)) (I.ok.hd C.calm) hraw hn fun h' tk acc kh hacc => ?_
      have e2 : acc.toList = es.toList.map (·.key) := by
        refine List.ext_getElem? fun i => ?_
        by_cases hi : i < acc.size
        · obtain ⟨hi2, e3⟩ := hacc.2 i acc[i] (by simp [hi])
          have e4 : i < es.toList.length := by simpa using hi2
          rw [Array.getElem?_toList, List.getElem?_map, Array.getElem?_toList]
          simp [hi, hi2, e3]
        · have e4 : ¬ i < es.size := by rw [← hacc.1]; exact hi
          rw [Array.getElem?_toList, List.getElem?_map, Array.getElem?_toList]
          simp [hi, e4]
      rw [e2]
      exact k h' tk kh
    · rw [if_neg hs] at e
      cases e
  | _ => cases e
end
end VL

set_option Elab.async false
set_option linter.all false
set_option maxRecDepth 100000
/-! V12: one operation for all kinds of values; short forms for printed derivations. -/
namespace VL
open PySem PySem.Spec PyProof.Rows L2

/-- the first that answers -/
def or2 (f g : D → D → Option D) : D → D → Option D := fun x y => match f x y with
  | some r => some r
  | none => g x y
def or1 (f g : D → Option D) : D → Option D := fun x => match f x with
  | some r => some r
  | none => g x
def sAddA : D → D → Option D := or2 sAdd sCat
def sMulA : D → D → Option D := or2 sMul (or2 sRep sRepL)
def sCutA (x a b : D) : Option D := match sCutT x a b with
  | some r => some r
  | none => sCutL x a b
def mCountA (d : D) (ds : List D) : Option D := match mCountT d ds with
  | some r => some r
  | none => mCountL d ds

section
variable {c : Ct} {X : Cx} {Pr G H : Hp} {σ : L2.St} {ρ ρ' : List O} {pins : List (Addr × Obj)} {s : Shared}
theorem FL.nw {r : D} {z : V} {H' : Hp} (h : FL c G H r z H') : NW c G H r z H' := by
  obtain ⟨G1, H1, p, xs, l, g, rfl, n, rfl, rfl, ra⟩ := h
  have n2 : G1 p = none := by
    cases e : G1 p with
    | none => rfl
    | some u => rw [g.gh p u e] at n; cases n
  exact ⟨upd G1 p (.lst xs), g.trans (Gr.laid g.gh n), .lst (.inl (.inl upd_same)) (ra.mono (Ge.upd n2))⟩
theorem Fp2.op {g : Value → Value → Sem Value} {f : D → D → Option D} (h : Fp2 c X g f) : Op2 c X g f := fun pins s σ H G x y v u d e r I hg rx ry t1 t2 q =>
  thn (h pins s σ H G x y v u d e r I hg rx ry t1 t2 q) fun z s' ⟨w', H', I', r', fl⟩ => ⟨w', H', I', r', fl.nw⟩
theorem Fp1.op {g : Value → Sem Value} {f : D → Option D} (h : Fp1 c X g f) : Op1 c X g f := fun pins s σ H G x v d r I hg rx t q =>
  thn (h pins s σ H G x v d r I hg rx t q) fun z s' ⟨w', H', I', r', fl⟩ => ⟨w', H', I', r', fl.nw⟩
theorem Op2.or {g : Value → Value → Sem Value} {f1 f2 : D → D → Option D} (h1 : Op2 c X g f1) (h2 : Op2 c X g f2) : Op2 c X g (or2 f1 f2) := fun pins s σ H G x y v u d e r I hg rx ry t1 t2 q => by
  unfold or2 at q
  split at q
  · rename_i z e1
    cases q
    exact h1 pins s σ H G x y v u d e _ I hg rx ry t1 t2 e1
  · exact h2 pins s σ H G x y v u d e r I hg rx ry t1 t2 q
theorem Op1.or {g : Value → Sem Value} {f1 f2 : D → Option D} (h1 : Op1 c X g f1) (h2 : Op1 c X g f2) : Op1 c X g (or1 f1 f2) := fun pins s σ H G x v d r I hg rx t q => by
  unfold or1 at q
  split at q
  · rename_i z e1
    cases q
    exact h1 pins s σ H G x v d _ I hg rx t e1
  · exact h2 pins s σ H G x v d r I hg rx t q
theorem op_addA (C : XC c X) : Op2 c X (binaryOp .Add) sAddA := op_addV.or (fp_cat C).op
theorem op_mulA2 (C : XC c X) : Op2 c X (binaryOp .Mult) sMulA := op_mulV.or (op_repV.or (fp_repL C).op)
theorem ce_cutA {a : Expr} {lo hi : Option Expr} {pos p2 : Pos} {p : Pk} {fl fh : Ev} (C : XC c X) (ha : CK c X a p) (hl : CP c X lo fl) (hh : CP c X hi fh) : CE c X (.Subscript a (.Slice lo hi none p2) pos) (o3 sCutA p (kE fl) (kE fh)) := by
  intro pins s σ H Pr G ρ ρ' d I E h
  obtain ⟨t, u, v, ρ1, ρ2, x, y, w, h1, h2, h3, hx, hy, hw, hd⟩ := o3_some h
  have hd : sCutA x y w = some d := hd
  cases e1 : sCutT x y w with
  | some r =>
    refine ce_cutT ha hl hh pins s σ H Pr G ρ ρ' d I E ?_
    have e2 : r = d := by
      unfold sCutA at hd
      rw [e1] at hd
      exact Option.some.inj hd
    subst e2
    unfold o3
    simp only [h1, h2, h3, hx, hy, hw, e1]
  | none =>
    refine (cf_cutL C ha hl hh).ce pins s σ H Pr G ρ ρ' d I E ?_
    unfold sCutA at hd
    rw [e1] at hd
    unfold o3
    simp only [h1, h2, h3, hx, hy, hw, hd]
theorem ce_countA {o e : Expr} {apos cpos : Pos} {p : Pk} {f : Ev} (C : XC c X) (ho : CK c X o p) (he : CE c X e f)
    (hbase : attributeBase o "count" X.env (eval o X.env) = eval o X.env := by rfl) (hline : (apos.endLine == cpos.line) = true := by rfl) (hs : starEach [e] X.env = [(false, eval e X.env)] := by rfl) :
    CE c X (.Call (.Attribute o "count" apos) [e] [] cpos) (eM mCountA p (esCons f esNil)) := by
  intro pins s σ H Pr G ρ ρ' d I E h
  obtain ⟨t, ρ1, d0, ds, d1, h1, h2, h3, h4, h5, h6⟩ := eM_some h
  have h6 : mCountA d1 ds = some d := h6
  cases e1 : mCountT d1 ds with
  | some r =>
    refine ce_countT C ho he hbase hline hs pins s σ H Pr G ρ ρ' d I E ?_
    unfold mCountA at h6
    rw [e1] at h6
    have h6 := Option.some.inj h6
    subst h6
    unfold eM
    simp only [h1, h2, h3, h4, h5, e1, if_true]
  | none =>
    refine ce_countL C ho he hbase hline hs pins s σ H Pr G ρ ρ' d I E ?_
    unfold mCountA at h6
    rw [e1] at h6
    unfold eM
    simp only [h1, h2, h3, h4, h5, h6, if_true]
/-! ### short forms -/
theorem nV (i : Nat) {x : Str} {pos : Pos} (hN : X.N[i]? = some x := by rfl) (hv : Vis X.env.scope x := by first | exact .inl rfl | exact .inr (.inl rfl) | exact .inr (.inr rfl)) (hd : (x == ("__debug__" : Str)) = false := by decide) (hcd : (x == ("__classdict__" : Str)) = false := by decide) : CE c X (.Name x pos) (eV i) := ce_v hN hv hd hcd
theorem nP (i : Nat) {x : Str} {pos : Pos} (hN : X.N[i]? = some x := by rfl) (hv : Vis X.env.scope x := by first | exact .inl rfl | exact .inr (.inl rfl) | exact .inr (.inr rfl)) (hd : (x == ("__debug__" : Str)) = false := by decide) (hcd : (x == ("__classdict__" : Str)) = false := by decide) : CK c X (.Name x pos) (kP i) := ck_p hN hv hd hcd
theorem gN (C : XC c X) (i : Nat) {x : Str} {pos : Pos} (hi : X.N[i]? = some x := by rfl) (hx : Loc X.env.scope x := by first | exact .inl rfl | exact .inr rfl) (hf : X.fn x = true ∨ X.env.scope.names.lookup x = some .local := by first | exact .inl rfl | exact .inr rfl) : CG c X (.Name x pos) (.one i) := cg_name C.nd hi hx hf
theorem gNs (C : XC c X) (i : Nat) {x : Str} {pos : Pos} {es : List Expr} {is : List Nat} (hr : PGs X es (gAll c is)) (hi : X.N[i]? = some x := by rfl) (hx : Loc X.env.scope x := by first | exact .inl rfl | exact .inr rfl) (hf : X.fn x = true ∨ X.env.scope.names.lookup x = some .local := by first | exact .inl rfl | exact .inr rfl) : PGs X (.Name x pos :: es) (gAll c (i :: is)) := cgs_cons C.nd hi hx hr hf
section
variable {a b e : Expr} {f : Ev} {pos : Pos} {st : Stmt} {rest : List Stmt}
theorem sN (C : XC c X) (i : Nat) {x : Str} {pos' : Pos} (he : CE c X e f) (hi : X.N[i]? = some x := by rfl) (hx : Loc X.env.scope x := by first | exact .inl rfl | exact .inr rfl) (hs : swapsWith e (some (.Name x pos')) pos.line X.env = pure false := by rfl) (hf : X.fn x = true ∨ X.env.scope.names.lookup x = some .local := by first | exact .inl rfl | exact .inr rfl) :
    CS c X (.Assign [.Name x pos'] e pos) (sSet (.one i) f) := cs_set C.nd hi hx he hs hf
theorem sO (C : XC c X) (i : Nat) {x : Str} {pos' : Pos} (he : CF c X e f) (hi : X.N[i]? = some x := by rfl) (hx : Loc X.env.scope x := by first | exact .inl rfl | exact .inr rfl) (hs : swapsWith e (some (.Name x pos')) pos.line X.env = pure false := by rfl) (hf : X.fn x = true ∨ X.env.scope.names.lookup x = some .local := by first | exact .inl rfl | exact .inr rfl) :
    CS c X (.Assign [.Name x pos'] e pos) (sOwn i f) := cs_own C.nd hi hx he hs hf
end
end
/-- a walk's end: the row's promise for a law of at most 63 whole numbers -/
def spLaw (c : Ct) : Sp := fun vs H Q _ => ∃ (a : Addr) (ns : List Int), vs = [.ref a] ∧ SqL c.K H a (ns.map V.int) ∧ ns.length ≤ 63 ∧ ∀ H', Q (.bl true) H'
theorem law_of {c : Ct} {P : Program} {mg : Str → Option Value} {base : Heap} {k : Nat} {f : Addr} {fd : FuncData} {ps : List Str} {φ : List D → Option D} (F : FnOk P c.w c.K mg base CX0 k f fd ps (spP c 1 φ)) (h : ∀ ns : List Int, ns.length ≤ 63 → φ [.list (ns.map .int)] = some (.bool true)) : FnOk P c.w c.K mg base CX0 k f fd ps (spLaw c) := by
  refine F.imp fun vs H Q E ⟨a, ns, e, q, hl, k⟩ => ?_
  subst e
  have hG : ∀ o, H a = some o → (fun b => if b = a then H b else none : Hp) a = some o := fun o e => by
    show (if a = a then H a else none) = some o
    rw [if_pos rfl]
    exact e
  have q' : SqL c.K (fun b => if b = a then H b else none : Hp) a (ns.map V.int) := by
    rcases q with q | q
    · rcases q with q | ⟨o, q⟩
      · exact .inl (.inl (hG _ q))
      · exact .inl (.inr ⟨o, hG _ q⟩)
    · exact .inr q
  refine ⟨rfl, (fun b => if b = a then H b else none : Hp), [.list (ns.map .int)], .bool true, fun b o e => ?_, .cons (.lst q' (RpA.ints c _ ns)) .nil, h ns hl, fun v G' H' g r => ?_⟩
  · by_cases hb : b = a
    · have e : (if b = a then H b else none) = some o := e
      rw [if_pos hb] at e
      exact e
    · have e : (if b = a then H b else none) = some o := e
      rw [if_neg hb] at e
      cases e
  · cases r
    exact k H'
end VL

set_option Elab.async false
set_option linter.all false
set_option maxRecDepth 100000
/-! V13: places in a text; a def as a function of its arguments. -/
namespace VL
open PySem PySem.Spec PyProof.Rows L2

abbrev XC.xenv {c : Ct} {X : Cx} (_ : XC c X) : Env := X.env
theorem XC.inn {c : Ct} {X : Cx} (C : XC c X) (s : Shared) (H : Hp) (scope : Scope) (K : Addr) (cl : List (Str × Addr)) (fp : List Addr) : XC c (X.blk s H scope (compEnvC scope cl K X.env) fp) := C.blk s H scope _ fp
def kidsE : Expr → List Expr
  | .BoolOp _ vs _ => vs
  | .BinOp a _ b _ => [a, b]
  | .UnaryOp _ a _ => [a]
  | .ListComp e gs _ _ => e :: gs.flatMap fun g => g.iter :: g.ifs
  | .Compare a _ bs _ => a :: bs
  | .Call f as _ _ => f :: as
  | .Attribute v _ _ => [v]
  | .Subscript a b _ => [a, b]
  | .List es _ => es
  | .Tuple es _ _ => es
  | .Dict ks vs _ => ks.filterMap id ++ vs
  | .Slice a b c _ => a.toList ++ b.toList ++ c.toList
  | .Lambda _ b _ _ => [b]
  | _ => []
def kidsS : Stmt → List Expr
  | .Return v _ => v.toList
  | .Assign ts v _ => v :: ts
  | .For t i _ _ _ => [i, t]
  | .While t _ _ _ => [t]
  | .If t _ _ _ => [t]
  | .Expr v _ => [v]
  | .Raise e _ _ => e.toList
  | _ => []
def bodyS : Stmt → List Stmt
  | .For _ _ b _ _ => b
  | .While _ b _ _ => b
  | .If _ b e _ => b ++ e
  | .Try b _ _ _ _ => b
  | .FunctionDef _ _ b _ _ _ _ _ _ _ => b
  | .ClassDef _ _ _ b _ _ _ _ _ _ _ => b
  | _ => []
def e0 : Expr := .Constant .none 0 ⟨0, 0, 0, 0⟩
def s0 : Stmt := .Pass ⟨0, 0, 0, 0⟩
def atS : Stmt → List Nat → Stmt
  | s, [] => s
  | s, i :: r => atS ((bodyS s).getD i s0) r
def atE : Expr → List Nat → Expr
  | e, [] => e
  | e, i :: r => atE ((kidsE e).getD i e0) r
def atSE (s : Stmt) (p : List Nat) (i : Nat) (q : List Nat) : Expr := atE ((kidsS (atS s p)).getD i e0) q
def scE : Expr → Scope
  | .ListComp _ _ s _ => s
  | .Lambda _ _ s _ => s
  | _ => defScope s0
/-- a block's scope as it stands in its outer block -/
def relS (sc outer : Scope) : Scope := relabel sc { scope := outer, locals := 0, globals := 0, cells := [] }
/-- a def's values: of just so many arguments -/
def mkF (p n : Nat) (m : Sm) : List D → Option D := fun ds => if ds.length = p then runDef n m ds else none
theorem mkF_len {p n : Nat} {m : Sm} {ds : List D} {r : D} (h : mkF p n m ds = some r) : ds.length = p := by
  unfold mkF at h
  split at h
  · assumption
  · cases h
theorem mkF_run {p n : Nat} {m : Sm} {ds : List D} {r : D} (h : mkF p n m ds = some r) : runDef n m ds = some r := by
  unfold mkF at h
  split at h
  · exact h
  · cases h
theorem fp_mk {c : Ct} {P : Program} {mg : Str → Option Value} {base : Heap} {x qual : Str} {st : Stmt} {f : Addr} {fd : FuncData} {N ps : List Str} {k : Nat} {m : Sm} (F : Fun c.K x qual st f fd) (S : FnScope N ps (defScope st)) (hm : mg x = some (.ref f)) (hb : Binds c.K fd ps []) (hblt : ∀ y ∈ bltNames, mg y = none)
    (body : ∀ (cdv : Value) (A : Around) (outer : List Env) (s : Shared) (H : Hp) (E : XK), XC c (cxOf CX0 P c.w c.K mg base N qual (defScope st) f cdv A outer s H E).nox → Room k (cxOf CX0 P c.w c.K mg base N qual (defScope st) f cdv A outer s H E).nox.A → CB c (cxOf CX0 P c.w c.K mg base N qual (defScope st) f cdv A outer s H E).nox (defBody st) m) : FP c P mg base (k + 1) x (mkF ps.length N.length m) :=
  fp_of F S hm hb hblt body (fun _ _ h => mkF_len h) fun _ _ h => mkF_run h
theorem fn_mk {c : Ct} {P : Program} {mg : Str → Option Value} {base : Heap} {x qual : Str} {st : Stmt} {f : Addr} {fd : FuncData} {N ps : List Str} {k : Nat} {m : Sm} (F : Fun c.K x qual st f fd) (S : FnScope N ps (defScope st)) (hblt : ∀ y ∈ bltNames, mg y = none)
    (body : ∀ (cdv : Value) (A : Around) (outer : List Env) (s : Shared) (H : Hp) (E : XK), XC c (cxOf CX0 P c.w c.K mg base N qual (defScope st) f cdv A outer s H E).nox → Room k (cxOf CX0 P c.w c.K mg base N qual (defScope st) f cdv A outer s H E).nox.A → CB c (cxOf CX0 P c.w c.K mg base N qual (defScope st) f cdv A outer s H E).nox (defBody st) m) : FnOk P c.w c.K mg base CX0 (k + 1) f fd ps (spP c ps.length (mkF ps.length N.length m)) :=
  fn_of F S hblt body fun _ _ h => mkF_run h
end VL

set_option Elab.async false
set_option linter.all false
set_option maxRecDepth 100000
/-! V14: dicts as they lie: keys that are tuples (nested), keys that are numbers or texts. -/
namespace VL
open PySem PySem.Spec PyProof.Rows L2

/-! ### keys -/
mutual
theorem eqv_nk : ∀ (d e : D) (k j : NestedKey), nk d = some k → nk e = some j → PyData.eqv d e = NestedKey.beq k j
  | .none, e, k, j, h1, h2 => by
    cases e <;> simp [nk] at h1 h2 <;> try (subst h1; subst h2; simp [PyData.eqv, NestedKey.beq])
    · rename_i l
      cases q : nks l with
      | none => simp [q] at h2
      | some ks => simp [q] at h2; subst h1; subst h2; simp [PyData.eqv, NestedKey.beq]
  | .int a, e, k, j, h1, h2 => by
    cases e <;> simp [nk] at h1 h2 <;> try (subst h1; subst h2; simp [PyData.eqv, NestedKey.beq])
    · rename_i b
      by_cases h : a = b <;> simp [h]
    · rename_i l
      cases q : nks l with
      | none => simp [q] at h2
      | some ks => simp [q] at h2; subst h1; subst h2; simp [PyData.eqv, NestedKey.beq]
  | .str a, e, k, j, h1, h2 => by
    cases e <;> simp [nk] at h1 h2 <;> try (subst h1; subst h2; simp [PyData.eqv, NestedKey.beq])
    · rename_i b
      by_cases h : a = b <;> simp [h]
    · rename_i l
      cases q : nks l with
      | none => simp [q] at h2
      | some ks => simp [q] at h2; subst h1; subst h2; simp [PyData.eqv, NestedKey.beq]
  | .tuple l, e, k, j, h1, h2 => by
    cases q : nks l with
    | none => simp [nk, q] at h1
    | some ks =>
      simp [nk, q] at h1
      subst h1
      cases e <;> simp [nk] at h2 <;> try (subst h2; simp [PyData.eqv, NestedKey.beq])
      rename_i m
      cases q2 : nks m with
      | none => simp [q2] at h2
      | some js =>
        simp [q2] at h2
        subst h2
        rw [PyData.eqv, NestedKey.beq]
        exact eqv_nks l m ks js q q2
  | .bool _, _, _, _, h1, _ => by simp [nk] at h1
  | .list _, _, _, _, h1, _ => by simp [nk] at h1
  | .dict _, _, _, _, h1, _ => by simp [nk] at h1
theorem eqv_nks : ∀ (l m : List D) (ks js : List NestedKey), nks l = some ks → nks m = some js → PyData.eqvAll l m = NestedKey.beqAll ks js
  | [], [], ks, js, h1, h2 => by
    cases h1; cases h2
    simp [PyData.eqvAll, NestedKey.beqAll]
  | [], y :: m, ks, js, h1, h2 => by
    cases h1
    unfold nks at h2
    split at h2
    · cases h2
      simp [PyData.eqvAll, NestedKey.beqAll]
    · cases h2
  | x :: l, [], ks, js, h1, h2 => by
    cases h2
    unfold nks at h1
    split at h1
    · cases h1
      simp [PyData.eqvAll, NestedKey.beqAll]
    · cases h1
  | x :: l, y :: m, ks, js, h1, h2 => by
    unfold nks at h1 h2
    split at h1
    · rename_i k kr e1 e2
      cases h1
      split at h2
      · rename_i j jr e3 e4
        cases h2
        rw [PyData.eqvAll, NestedKey.beqAll, eqv_nk x y k j e1 e3, eqv_nks l m kr jr e2 e4]
      · cases h2
    · cases h1
end
theorem eqv_key {d e : D} {k j : NestedKey} (h1 : nk d = some k) (h2 : nk e = some j) : PyData.eqv d e = decide (k = j) := by
  rw [eqv_nk d e k j h1 h2, NestedKey.decide_eq]
theorem kcls_t {d : D} (h : kcls d = some true) : ∃ l ks, d = .tuple l ∧ nks l = some ks ∧ nk d = some (.tup ks) ∧ (NestedKey.tup ks).depth ≤ 8 := by
  cases d with
  | tuple l =>
    cases q : nks l with
    | none => simp [kcls, q] at h
    | some ks =>
      simp [kcls, q] at h
      exact ⟨l, ks, rfl, q, by simp [nk, q], h⟩
  | _ => simp [kcls] at h
theorem kcls_f {d : D} (h : kcls d = some false) : (∃ i, d = .int i) ∨ ∃ x, d = .str x := by
  cases d with
  | int i => exact .inl ⟨i, rfl⟩
  | str x => exact .inr ⟨x, rfl⟩
  | tuple l =>
    cases q : nks l with
    | none => simp [kcls, q] at h
    | some ks => simp [kcls, q] at h
  | _ => simp [kcls] at h

section
variable {c : Ct} {X : Cx} {Pr G H : Hp} {σ : L2.St} {ρ ρ' : List O} {pins : List (Addr × Obj)} {s : Shared}
mutual
theorem rp_nested (I : Inv X pins σ H s) (g : Ge G H) : ∀ {v : V} {d : D} {k : NestedKey} {u : Value}, Rp c G v d → nk d = some k → RelV v u → NestedIs s.heap k u
  | _, _, _, _, .non, h, r => by
    cases h
    cases r
    exact .none
  | _, _, _, _, .bl b, h, r => by cases h
  | _, _, _, _, .int i, h, r => by
    cases h
    obtain ⟨t, rfl⟩ := r
    exact .int _ _
  | _, _, _, _, .str x, h, r => by
    cases h
    obtain ⟨t, rfl⟩ := r
    exact .text _ _
  | _, _, _, _, .lst _ _, h, r => by cases h
  | _, .tuple ds, _, _, .tup (a := a) (xs := xs) f n ra, h, r => by
    cases q : nks ds with
    | none => simp [nk, q] at h
    | some ks =>
      simp [nk, q] at h
      subst h
      obtain rfl : _ = Value.ref a := r
      obtain ⟨its, rv, ⟨o, ho, hc, m, hd⟩, hz⟩ := I.tupAt g f
      exact .tup ho hc hd (rpa_nested I g ra q rv)
  | _, _, _, _, .dic _ _ _ _ _, h, r => by cases h
theorem rpa_nested (I : Inv X pins σ H s) (g : Ge G H) : ∀ {vs : List V} {ds : List D} {ks : List NestedKey} {us : List Value}, RpA c G vs ds → nks ds = some ks → Vals vs us → NestedAll s.heap ks us
  | _, _, _, _, .nil, h, r => by
    cases h
    cases r
    exact .nil
  | _, d :: ds, _, _, .cons h1 h2, h, r => by
    unfold nks at h
    split at h
    · rename_i k ks e1 e2
      cases h
      cases r with
      | cons r1 r2 => exact .cons (rp_nested I g h1 e1 r1) (rpa_nested I g h2 e2 r2)
    · cases h
end
/-- a dict's items, its keys tuples -/
inductive T3 (c : Ct) (G : Hp) (h : Heap) : List (D × D) → List V → List V → List (NestedKey × Addr × Value) → Prop
  | nil : T3 c G h [] [] [] []
  | cons {p : D × D} {l : List (D × D)} {b : Addr} {y : V} {v : Value} {k : NestedKey} {xs ys : List V} {x3 : List (NestedKey × Addr × Value)} : nk p.1 = some k → NestedIs h k (.ref b) → k.depth ≤ 8 → Rp c G (.ref b) p.1 → RelV y v → Rp c G y p.2 → T3 c G h l xs ys x3 → T3 c G h (p :: l) (.ref b :: xs) (y :: ys) ((k, b, v) :: x3)
theorem T3.rpa {h : Heap} : ∀ {l : List (D × D)} {xs ys : List V} {x3 : List (NestedKey × Addr × Value)}, T3 c G h l xs ys x3 → RpA c G xs (l.map (·.1)) ∧ RpA c G ys (l.map (·.2)) ∧ x3.map (·.1) = (l.map fun p => (nk p.1).getD .none) ∧ x3.length = l.length
  | _, _, _, _, .nil => ⟨.nil, .nil, rfl, rfl⟩
  | _, _, _, _, .cons h1 h2 h3 h4 h5 h6 t => by
    obtain ⟨a, b, e, f⟩ := t.rpa
    exact ⟨.cons h4 a, .cons h6 b, by rw [List.map_cons, List.map_cons, e, h1]; rfl, by rw [List.length_cons, List.length_cons, f]⟩
theorem T3.ent {h : Heap} {P : Program} {w : World} (hw : c.w = w) : ∀ {l : List (D × D)} {xs ys : List V} {x3 : List (NestedKey × Addr × Value)}, T3 c G h l xs ys x3 → Ent (x3.map (entryOfKey (nestedKind P w))) (l.map fun p => hashK c.w p.1) xs ys
  | _, _, _, _, .nil => .nil
  | _, _, _, _, .cons h1 h2 h3 h4 h5 h6 t => by
    refine .cons ?_ rfl h5 (t.ent hw)
    show _ = hashK c.w _
    unfold hashK
    rw [h1, hw]
    rfl
theorem T3.mk (I : Inv X pins σ H s) (g : Ge G H) (P : Program) (hw : c.w = X.w) : ∀ {l : List (D × D)} {es : List DictEntry} {hs : List Int} {xs ys : List V}, Ent es hs xs ys → hs = l.map (fun p => hashK c.w p.1) → keysAre true l = true → RpA c G xs (l.map (·.1)) → RpA c G ys (l.map (·.2)) →
    ∃ x3, T3 c G s.heap l xs ys x3 ∧ es = x3.map (entryOfKey (nestedKind P X.w)) := by
  intro l
  induction l with
  | nil =>
    intro es hs xs ys e eh hk r1 r2
    cases r1
    cases r2
    cases e
    exact ⟨[], .nil, rfl⟩
  | cons p l ih =>
    intro es hs xs ys e eh hk r1 r2
    unfold keysAre at hk
    rw [List.all_cons, Bool.and_eq_true, beq_iff_eq] at hk
    obtain ⟨tl, ks, e1, e2, e3, e4⟩ := kcls_t hk.1
    cases r1 with
    | cons q1 r1 =>
      cases r2 with
      | cons q2 r2 =>
        cases e with
        | @cons en es h0 hs x y xs ys f1 f2 f3 f4 =>
          rw [List.map_cons] at eh
          obtain ⟨g1, g2⟩ := List.cons.inj eh
          obtain ⟨x3, t, ee⟩ := ih f4 g2 hk.2 r1 r2
          have q0 : Rp c G _ p.1 := q1
          rw [e1] at q0
          cases q0 with
          | @tup b o zs ds z1 z2 z3 =>
            have nis : NestedIs s.heap (.tup ks) (.ref b) := rp_nested I g q1 e3 rfl
            refine ⟨(.tup ks, b, en.val) :: x3, .cons e3 nis e4 q1 f3 q2 t, ?_⟩
            rw [List.map_cons, ee]
            congr 1
            obtain ⟨eh2, ek, ev⟩ := en
            have f2 : ek = Value.ref b := f2
            subst f2
            show _ = DictEntry.mk _ _ _
            have f1 : eh2 = h0 := f1
            rw [f1, g1]
            unfold hashK
            rw [e3, hw]
            rfl
theorem T3.at {h : Heap} {key : D} {k : NestedKey} (hk : nk key = some k) : ∀ {l : List (D × D)} {xs ys : List V} {x3 : List (NestedKey × Addr × Value)}, T3 c G h l xs ys x3 →
    (atKey x3 k = none ∧ dgo key l = none) ∨ ∃ b v y d, atKey x3 k = some (b, v) ∧ dgo key l = some d ∧ RelV y v ∧ Rp c G y d
  | _, _, _, _, .nil => .inl ⟨rfl, rfl⟩
  | _, _, _, _, .cons (p := p) (l := l) (b := b) (y := y) (v := v) (k := k') h1 h2 h3 h4 h5 h6 t => by
    have e : PyData.eqv p.1 key = decide (k' = k) := eqv_key h1 hk
    by_cases hq : k' = k
    · right
      refine ⟨b, v, y, p.2, ?_, ?_, h5, h6⟩
      · unfold atKey
        rw [List.find?_cons_of_pos (by simpa using hq)]
        rfl
      · show (if PyData.eqv p.1 key = true then some p.2 else dgo key l) = some p.2
        rw [e, decide_eq_true hq, if_pos rfl]
    · have hq2 : dgo key (p :: l) = dgo key l := by
        show (if PyData.eqv p.1 key = true then some p.2 else dgo key l) = _
        rw [e, decide_eq_false hq]
        rfl
      have hq3 : ∀ x3 : List (NestedKey × Addr × Value), atKey ((k', b, v) :: x3) k = atKey x3 k := fun x3 => by
        unfold atKey
        rw [List.find?_cons_of_neg (by simpa using hq)]
      rcases t.at hk with ⟨a1, a2⟩ | ⟨b2, v2, y2, d2, a1, a2, a3, a4⟩
      · exact .inl ⟨by rw [hq3]; exact a1, by rw [hq2]; exact a2⟩
      · exact .inr ⟨b2, v2, y2, d2, by rw [hq3]; exact a1, by rw [hq2]; exact a2, a3, a4⟩
theorem dput_none {key d : D} : ∀ {l : List (D × D)}, dgo key l = none → dput key d l = l ++ [(key, d)]
  | [], _ => rfl
  | p :: l, h => by
    have h : (if PyData.eqv p.1 key = true then some p.2 else dgo key l) = none := h
    show (if PyData.eqv p.1 key = true then (p.1, d) :: l else p :: dput key d l) = _
    by_cases q : PyData.eqv p.1 key = true
    · rw [if_pos q] at h; cases h
    · rw [if_neg q] at h ⊢
      rw [dput_none h]
      rfl
theorem T3.app {h : Heap} : ∀ {l m : List (D × D)} {xs ys us ws : List V} {x3 y3 : List (NestedKey × Addr × Value)}, T3 c G h l xs ys x3 → T3 c G h m us ws y3 → T3 c G h (l ++ m) (xs ++ us) (ys ++ ws) (x3 ++ y3)
  | _, _, _, _, _, _, _, _, .nil, t => t
  | _, _, _, _, _, _, _, _, .cons h1 h2 h3 h4 h5 h6 t, t2 => .cons h1 h2 h3 h4 h5 h6 (t.app t2)
theorem putAt_same {k : NestedKey} {v : Value} {x : NestedKey × Addr × Value} (h : ¬ x.1 = k) : putAt k v x = x := by
  unfold putAt
  simp [h]
theorem putAt_none {k : NestedKey} {v : Value} {x3 : List (NestedKey × Addr × Value)} (h : k ∉ x3.map (·.1)) : x3.map (putAt k v) = x3 := by
  induction x3 with
  | nil => rfl
  | cons x x3 ih =>
    rw [List.map_cons, List.mem_cons, not_or] at h
    rw [List.map_cons, putAt_same fun e => h.1 e.symm, ih h.2]
theorem T3.over {h : Heap} {key d : D} {k : NestedKey} {y : V} {v : Value} (hk : nk key = some k) (ry : RelV y v) (rp : Rp c G y d) : ∀ {l : List (D × D)} {xs ys : List V} {x3 : List (NestedKey × Addr × Value)}, T3 c G h l xs ys x3 → (x3.map (·.1)).Nodup → (atKey x3 k).isSome = true →
    ∃ xs' ys', T3 c G h (dput key d l) xs' ys' (x3.map (putAt k v))
  | _, _, _, _, .nil, _, hs => by cases hs
  | _, _, _, _, .cons (p := p) (l := l) (b := b) (y := y0) (v := v0) (k := k') (x3 := x3) h1 h2 h3 h4 h5 h6 t, nd, hs => by
    have e : PyData.eqv p.1 key = decide (k' = k) := eqv_key h1 hk
    rw [List.map_cons, List.nodup_cons] at nd
    rw [List.map_cons]
    by_cases hq : k' = k
    · subst hq
      have e1 : dput key d (p :: l) = (p.1, d) :: l := by
        show (if PyData.eqv p.1 key = true then (p.1, d) :: l else p :: dput key d l) = _
        rw [e, decide_eq_true rfl, if_pos rfl]
      have e2 : putAt k' v (k', b, v0) = (k', b, v) := by simp [putAt]
      rw [e1, e2, putAt_none nd.1]
      exact ⟨_, _, .cons h1 h2 h3 h4 ry rp t⟩
    · have e1 : dput key d (p :: l) = p :: dput key d l := by
        show (if PyData.eqv p.1 key = true then (p.1, d) :: l else p :: dput key d l) = _
        rw [e, decide_eq_false hq]
        rfl
      have hs2 : (atKey x3 k).isSome = true := by
        unfold atKey at hs ⊢
        rw [List.find?_cons_of_neg (by simpa using hq)] at hs
        exact hs
      obtain ⟨xs', ys', t'⟩ := t.over hk ry rp nd.2 hs2
      rw [e1, putAt_same (x := (k', b, v0)) hq]
      exact ⟨_, _, .cons h1 h2 h3 h4 h5 h6 t'⟩
theorem T3.put {h : Heap} {key d : D} {k : NestedKey} {a : Addr} {y : V} {v : Value} (hk : nk key = some k) (n : NestedIs h k (.ref a)) (hd : k.depth ≤ 8) (rk : Rp c G (.ref a) key) (ry : RelV y v) (rp : Rp c G y d) {l : List (D × D)} {xs ys : List V} {x3 : List (NestedKey × Addr × Value)} (t : T3 c G h l xs ys x3) (nd : (x3.map (·.1)).Nodup) :
    ∃ xs' ys', T3 c G h (dput key d l) xs' ys' (storedH x3 k a v) := by
  rcases t.at hk with ⟨a1, a2⟩ | ⟨b2, v2, y2, d2, a1, a2, a3, a4⟩
  · rw [storedH_new a1, dput_none a2]
    exact ⟨_, _, t.app (.cons hk n hd rk ry rp .nil)⟩
  · rw [storedH_old a1]
    exact t.over hk ry rp nd (by rw [a1]; rfl)

/-! ### keys that are numbers or texts -/
def kof : D → Option Key
  | .int i => some (.inl i)
  | .str x => some (.inr x)
  | _ => none
theorem eqv_kof {d e : D} {k j : Key} (h1 : kof d = some k) (h2 : kof e = some j) : PyData.eqv d e = decide (k = j) := by
  cases d <;> cases h1 <;> cases e <;> cases h2
  · rename_i a b
    by_cases h : a = b
    · subst h; simp [PyData.eqv]
    · have : ¬ (Sum.inl a : Key) = Sum.inl b := fun q => h (Sum.inl.inj q)
      simp [PyData.eqv, h]
  · rename_i a b
    rw [decide_eq_false (fun q => nomatch q)]
    simp [PyData.eqv]
  · rename_i a b
    rw [decide_eq_false (fun q => nomatch q)]
    simp [PyData.eqv]
  · rename_i a b
    by_cases h : a = b
    · subst h; simp [PyData.eqv]
    · have : ¬ (Sum.inr a : Key) = Sum.inr b := fun q => h (Sum.inr.inj q)
      simp [PyData.eqv, h]
theorem kof_of {d : D} (h : kcls d = some false) : ∃ k, kof d = some k ∧ (∀ G : Hp, Rp c G (kV k) d) ∧ (∀ {G : Hp} {v : V}, Rp c G v d → v = kV k) ∧ hashK c.w d = keyH c.w k := by
  rcases kcls_f h with ⟨i, rfl⟩ | ⟨x, rfl⟩
  · exact ⟨.inl i, rfl, fun _ => .int i, fun h => by cases h; rfl, rfl⟩
  · exact ⟨.inr x, rfl, fun _ => .str x, fun h => by cases h; rfl, rfl⟩
inductive M3 (c : Ct) (G : Hp) : List (D × D) → List V → List V → List (Key × Value) → Prop
  | nil : M3 c G [] [] [] []
  | cons {p : D × D} {l : List (D × D)} {y : V} {v : Value} {k : Key} {xs ys : List V} {kvs : List (Key × Value)} : kof p.1 = some k → hashK c.w p.1 = keyH c.w k → Rp c G (kV k) p.1 → RelV y v → Rp c G y p.2 → M3 c G l xs ys kvs → M3 c G (p :: l) (kV k :: xs) (y :: ys) ((k, v) :: kvs)
theorem M3.rpa : ∀ {l : List (D × D)} {xs ys : List V} {kvs : List (Key × Value)}, M3 c G l xs ys kvs → RpA c G xs (l.map (·.1)) ∧ RpA c G ys (l.map (·.2)) ∧ kvs.length = l.length
  | _, _, _, _, .nil => ⟨.nil, .nil, rfl⟩
  | _, _, _, _, .cons h1 h2 h3 h4 h5 t => by
    obtain ⟨a, b, f⟩ := t.rpa
    exact ⟨.cons h3 a, .cons h5 b, by rw [List.length_cons, List.length_cons, f]⟩
theorem M3.mk (P : Program) {w : World} (hw : c.w = w) : ∀ {l : List (D × D)} {es : List DictEntry} {hs : List Int} {xs ys : List V}, Ent es hs xs ys → hs = l.map (fun p => hashK c.w p.1) → keysAre false l = true → RpA c G xs (l.map (·.1)) → RpA c G ys (l.map (·.2)) →
    ∃ kvs, M3 c G l xs ys kvs ∧ Pairs (mixKind P w) es kvs ∧ ∀ e ∈ es, ∃ k, (mixKind P w).is k e.key = true ∧ e.hash = (mixKind P w).hash k := by
  intro l
  induction l with
  | nil =>
    intro es hs xs ys e eh hk r1 r2
    cases r1
    cases r2
    cases e
    exact ⟨[], .nil, .nil, fun e he => by cases he⟩
  | cons p l ih =>
    intro es hs xs ys e eh hk r1 r2
    unfold keysAre at hk
    rw [List.all_cons, Bool.and_eq_true, beq_iff_eq] at hk
    obtain ⟨k, k1, k2, k3, k4⟩ := kof_of (c := c) hk.1
    cases r1 with
    | cons q1 r1 =>
      cases r2 with
      | cons q2 r2 =>
        cases e with
        | @cons en es h0 hs x y xs ys f1 f2 f3 f4 =>
          rw [List.map_cons] at eh
          obtain ⟨g1, g2⟩ := List.cons.inj eh
          obtain ⟨kvs, t, pp, ho⟩ := ih f4 g2 hk.2 r1 r2
          have ex := k3 q1
          subst ex
          have is : (mixKind P w).is k en.key = true := kV_is f2
          refine ⟨(k, en.val) :: kvs, .cons k1 k4 (k2 _) f3 q2 t, .cons is rfl pp, fun e he => ?_⟩
          rcases List.mem_cons.mp he with e1 | he
          · subst e1
            exact ⟨k, is, by rw [f1, g1, k4, hw]; rfl⟩
          · exact ho e he
theorem M3.ent (P : Program) {w : World} (hw : c.w = w) : ∀ {l : List (D × D)} {xs ys : List V} {kvs : List (Key × Value)} {es : List DictEntry}, M3 c G l xs ys kvs → Pairs (mixKind P w) es kvs → (∀ e ∈ es, ∃ k, (mixKind P w).is k e.key = true ∧ e.hash = (mixKind P w).hash k) → Ent es (l.map fun p => hashK c.w p.1) xs ys
  | _, _, _, _, _, .nil, .nil, _ => .nil
  | _, _, _, _, _, .cons h1 h2 h3 h4 h5 t, .cons (e := e) i1 i2 pp, ho => by
    obtain ⟨k', j1, j2⟩ := ho e List.mem_cons_self
    have ek := (mixKind P w).inj _ _ _ i1 j1
    subst ek
    refine .cons ?_ ?_ ?_ (t.ent P hw pp fun e he => ho e (List.mem_cons_of_mem _ he))
    · rw [j2]
      show _ = hashK c.w _
      rw [h2, hw]
      rfl
    · rcases keyIs_shape i1 with ⟨i, t, e1, e2⟩ | ⟨x, t, e1, e2⟩
      · dsimp only at e1
        rw [e1, e2]
        exact ⟨t, rfl⟩
      · dsimp only at e1
        rw [e1, e2]
        exact ⟨t, rfl⟩
    · rw [i2]
      exact h4
theorem M3.at {key : D} {k : Key} (hk : kof key = some k) : ∀ {l : List (D × D)} {xs ys : List V} {kvs : List (Key × Value)}, M3 c G l xs ys kvs →
    (valueAt kvs k = none ∧ dgo key l = none) ∨ ∃ v y d, valueAt kvs k = some v ∧ dgo key l = some d ∧ RelV y v ∧ Rp c G y d
  | _, _, _, _, .nil => .inl ⟨rfl, rfl⟩
  | _, _, _, _, .cons (p := p) (l := l) (y := y) (v := v) (k := k') h1 h2 h3 h4 h5 t => by
    have e : PyData.eqv p.1 key = decide (k' = k) := eqv_kof h1 hk
    by_cases hq : k' = k
    · right
      refine ⟨v, y, p.2, ?_, ?_, h4, h5⟩
      · unfold valueAt
        rw [List.find?_cons_of_pos (by simpa using hq)]
        rfl
      · show (if PyData.eqv p.1 key = true then some p.2 else dgo key l) = some p.2
        rw [e, decide_eq_true hq, if_pos rfl]
    · have hq2 : dgo key (p :: l) = dgo key l := by
        show (if PyData.eqv p.1 key = true then some p.2 else dgo key l) = _
        rw [e, decide_eq_false hq]
        rfl
      have hq3 : ∀ kvs : List (Key × Value), valueAt ((k', v) :: kvs) k = valueAt kvs k := fun kvs => by
        unfold valueAt
        rw [List.find?_cons_of_neg (by simpa using hq)]
      rcases t.at hk with ⟨a1, a2⟩ | ⟨v2, y2, d2, a1, a2, a3, a4⟩
      · exact .inl ⟨by rw [hq3]; exact a1, by rw [hq2]; exact a2⟩
      · exact .inr ⟨v2, y2, d2, by rw [hq3]; exact a1, by rw [hq2]; exact a2, a3, a4⟩
theorem M3.app : ∀ {l m : List (D × D)} {xs ys us ws : List V} {x3 y3 : List (Key × Value)}, M3 c G l xs ys x3 → M3 c G m us ws y3 → M3 c G (l ++ m) (xs ++ us) (ys ++ ws) (x3 ++ y3)
  | _, _, _, _, _, _, _, _, .nil, t => t
  | _, _, _, _, _, _, _, _, .cons h1 h2 h3 h4 h5 t, t2 => .cons h1 h2 h3 h4 h5 (t.app t2)
theorem over_none {k : Key} {v : Value} {kvs : List (Key × Value)} (h : k ∉ kvs.map (·.1)) : (kvs.map fun kv => if kv.1 = k then (kv.1, v) else kv) = kvs := by
  induction kvs with
  | nil => rfl
  | cons x kvs ih =>
    rw [List.map_cons, List.mem_cons, not_or] at h
    rw [List.map_cons, if_neg fun e => h.1 e.symm, ih h.2]
theorem M3.over {key d : D} {k : Key} {y : V} {v : Value} (hk : kof key = some k) (ry : RelV y v) (rp : Rp c G y d) : ∀ {l : List (D × D)} {xs ys : List V} {kvs : List (Key × Value)}, M3 c G l xs ys kvs → (kvs.map (·.1)).Nodup → (valueAt kvs k).isSome = true →
    ∃ xs' ys', M3 c G (dput key d l) xs' ys' (kvs.map fun kv => if kv.1 = k then (kv.1, v) else kv)
  | _, _, _, _, .nil, _, hs => by cases hs
  | _, _, _, _, .cons (p := p) (l := l) (y := y0) (v := v0) (k := k') (kvs := kvs) h1 h2 h3 h4 h5 t, nd, hs => by
    have e : PyData.eqv p.1 key = decide (k' = k) := eqv_kof h1 hk
    rw [List.map_cons, List.nodup_cons] at nd
    rw [List.map_cons]
    by_cases hq : k' = k
    · subst hq
      have e1 : dput key d (p :: l) = (p.1, d) :: l := by
        show (if PyData.eqv p.1 key = true then (p.1, d) :: l else p :: dput key d l) = _
        rw [e, decide_eq_true rfl, if_pos rfl]
      rw [e1, if_pos rfl, over_none nd.1]
      exact ⟨_, _, .cons h1 h2 h3 ry rp t⟩
    · have e1 : dput key d (p :: l) = p :: dput key d l := by
        show (if PyData.eqv p.1 key = true then (p.1, d) :: l else p :: dput key d l) = _
        rw [e, decide_eq_false hq]
        rfl
      have hs2 : (valueAt kvs k).isSome = true := by
        unfold valueAt at hs ⊢
        rw [List.find?_cons_of_neg (by simpa using hq)] at hs
        exact hs
      obtain ⟨xs', ys', t'⟩ := t.over hk ry rp nd.2 hs2
      rw [e1, if_neg hq]
      exact ⟨_, _, .cons h1 h2 h3 h4 h5 t'⟩
theorem any_valueAt {k : Key} : ∀ kvs : List (Key × Value), (kvs.any fun kv => decide (kv.1 = k)) = (valueAt kvs k).isSome
  | [] => rfl
  | p :: kvs => by
    rw [List.any_cons, any_valueAt kvs]
    unfold valueAt
    by_cases h : p.1 = k
    · rw [List.find?_cons_of_pos (by simpa using h)]
      simp [h]
    · rw [List.find?_cons_of_neg (by simpa using h)]
      simp [h]
theorem M3.put {key d : D} {k : Key} {y : V} {v : Value} (hk : kof key = some k) (hh : hashK c.w key = keyH c.w k) (rk : Rp c G (kV k) key) (ry : RelV y v) (rp : Rp c G y d) {l : List (D × D)} {xs ys : List V} {kvs : List (Key × Value)} (t : M3 c G l xs ys kvs) (nd : (kvs.map (·.1)).Nodup) :
    ∃ xs' ys', M3 c G (dput key d l) xs' ys' (stored kvs k v) := by
  unfold stored
  rw [any_valueAt]
  rcases t.at hk with ⟨a1, a2⟩ | ⟨v2, y2, d2, a1, a2, a3, a4⟩
  · rw [a1, dput_none a2]
    exact ⟨_, _, t.app (.cons hk hh rk ry rp .nil)⟩
  · rw [a1, if_pos (by rfl)]
    exact t.over hk ry rp nd (by rw [a1]; rfl)
end
end VL

set_option Elab.async false
set_option linter.all false
set_option maxRecDepth 100000
/-! V15: what dicts do, by values. -/
namespace VL
open PySem PySem.Spec PyProof.Rows L2

section
variable {c : Ct} {X : Cx} {Pr G H : Hp} {σ : L2.St} {ρ ρ' : List O} {pins : List (Addr × Obj)} {s : Shared}
theorem dO_ok {P : Program} {w : World} {h : Heap} {a : Addr} {ep : Nat} {hs : List Int} {xs ys : List V} (x : dPhi a ep hs xs ys h) : ObjOk P w H h a (dO a ep hs xs ys) := by
  refine ⟨x, let ⟨_, _, es, ⟨o, ho, _⟩, _⟩ := x; ⟨o, ho⟩, fun h1 h2 x k => ?_⟩
  obtain ⟨lo, hz, es, ⟨o, ho, hx, hd⟩, he⟩ := x
  exact ⟨lo, hz, es, ⟨o, k o ho, hx, hd⟩, he⟩
theorem dAsk_some {l : List (D × D)} {key : D} {o : Option D} (h : dAsk l key = some o) : ∃ cl, kcls key = some cl ∧ keysAre cl l = true ∧ o = dgo key l := by
  unfold dAsk at h
  split at h
  · rename_i cl e
    split at h
    · rename_i k
      cases h
      exact ⟨cl, e, k, rfl⟩
    · cases h
  · cases h
theorem T3.is {h : Heap} : ∀ {l : List (D × D)} {xs ys : List V} {x3 : List (NestedKey × Addr × Value)}, T3 c G h l xs ys x3 → ∀ z ∈ x3, NestedIs h z.1 (.ref z.2.1) ∧ z.1.depth ≤ 8
  | _, _, _, _, .nil, z, hz => by cases hz
  | _, _, _, _, .cons h1 h2 h3 h4 h5 h6 t, z, hz => by
    rcases List.mem_cons.mp hz with e | hz
    · subst e
      exact ⟨h2, h3⟩
    · exact t.is z hz
theorem T3.nks {h : Heap} : ∀ {l : List (D × D)} {xs ys : List V} {x3 : List (NestedKey × Addr × Value)}, T3 c G h l xs ys x3 → (l.map fun p => nk p.1) = (x3.map (·.1)).map some
  | _, _, _, _, .nil => rfl
  | _, _, _, _, .cons h1 h2 h3 h4 h5 h6 t => by
    rw [List.map_cons, List.map_cons, List.map_cons, t.nks, h1]
def kn : Key → NestedKey
  | .inl i => .num i
  | .inr x => .text x
theorem kof_nk {d : D} {k : Key} (h : kof d = some k) : nk d = some (kn k) := by
  cases d <;> cases h <;> rfl
theorem M3.nks : ∀ {l : List (D × D)} {xs ys : List V} {kvs : List (Key × Value)}, M3 c G l xs ys kvs → (l.map fun p => nk p.1) = (kvs.map (·.1)).map fun k => some (kn k)
  | _, _, _, _, .nil => rfl
  | _, _, _, _, .cons h1 h2 h3 h4 h5 t => by
    rw [List.map_cons, List.map_cons, List.map_cons, t.nks, kof_nk h1]
theorem nodup_of_map {α β : Type} {f : α → β} {l : List α} (h : (l.map f).Nodup) : l.Nodup := by
  unfold List.Nodup at *
  rw [List.pairwise_map] at h
  exact h.imp fun hn e => hn (by rw [e])
/-- a dict at an address, asked for a key: either it holds the key as the value says, or it doesn't -/
theorem d_shape (C : XC c X) (I : Inv X pins σ H s) (g : Ge G H) {x y : V} {v u : Value} {l : List (D × D)} {key : D} {cl : Bool} (t : RpT c G H x (.dict l)) (tk : RpT c G H y key) (rx : RelV x v) (ry : RelV y u) (hc : kcls key = some cl) (hk : keysAre cl l = true) :
    ∃ a ep hs xs ys, x = .ref a ∧ v = .ref a ∧ H a = some (dO a ep hs xs ys) ∧ (a == sysModules) = false ∧ hs.length = l.length ∧
      ((cl = true ∧ ∃ b k x3, y = .ref b ∧ u = .ref b ∧ nk key = some k ∧ (nestedKind X.prog X.w).is s.heap k b ∧ Rp c G (.ref b) key ∧ T3 c G s.heap l xs ys x3 ∧ s.heap.DictOfH (nestedKind X.prog X.w) a x3) ∨
       (cl = false ∧ ∃ k kvs, kof key = some k ∧ (mixKind X.prog X.w).is k u = true ∧ hashK c.w key = keyH c.w k ∧ Rp c G (kV k) key ∧ M3 c G l xs ys kvs ∧ s.heap.DictOf (mixKind X.prog X.w) a kvs)) := by
  obtain ⟨a, ep, hs, xs, ys, rfl, hH, h2, h3, h4, h5⟩ := rpt_dict t g
  obtain ⟨⟨lo, hz, es, ⟨o, ho, hx, hd⟩, he⟩, _⟩ := I.hok _ _ hH
  cases rx
  refine ⟨a, ep, hs, xs, ys, rfl, rfl, hH, lo, by rw [h2, List.length_map], ?_⟩
  cases cl with
  | true =>
    left
    obtain ⟨tl, ks, e1, e2, e3, e4⟩ := kcls_t hc
    obtain ⟨x3, T, ee⟩ := T3.mk I g X.prog C.w.symm he h2 hk h4 h5
    have rk : Rp c G y key := by
      subst e1
      cases tk with
      | of r => exact r
    have rk2 := rk
    rw [e1] at rk2
    cases rk2 with
    | @tup b o2 zs ds z1 z2 z3 =>
      cases ry
      refine ⟨rfl, b, .tup ks, x3, rfl, rfl, e3, ⟨rp_nested I g rk e3 rfl, e4⟩, rk, T, ⟨o, es, ep, ho, hx, hd, ee, ?_, ?_⟩⟩
      · exact fun z hz => T.is z hz
      · have nd := h3.1
        rw [T.nks] at nd
        exact nodup_of_map nd
  | false =>
    right
    obtain ⟨k, k1, k2, k3, k4⟩ := kof_of (c := c) hc
    obtain ⟨kvs, M, pp, hh⟩ := M3.mk X.prog C.w.symm he h2 hk h4 h5
    have ey : y = kV k := by
      cases tk with
      | of r => exact k3 r
      | lst _ _ => cases k1
      | dic _ _ _ _ _ => cases k1
    subst ey
    refine ⟨rfl, k, kvs, k1, kV_is ry, k4, k2 _, M, o, es, ep, ho, hx, hd, fun e he => hh e (by simpa using he), pp, ?_⟩
    have nd := h3.1
    rw [M.nks] at nd
    exact nodup_of_map nd

theorem room1 (C : XC c X) (A : Around) (hA : A.units ≤ X.A.units + 10) : (nestedKind X.prog X.w).room A := by
  show A.units + 8 < cLine
  have := C.hu
  omega
/-- k in d -/
theorem op_dinV (C : XC c X) : Op2 c X (compareOp .In) sDin := by
  intro pins s σ H G x y v u key e r I g rx ry t1 t2 h
  cases e with
  | dict l =>
    have h : (dAsk l key).map (fun o => PyData.bool o.isSome) = some r := h
    obtain ⟨o, h1, rfl⟩ := Option.map_eq_some_iff.mp h
    obtain ⟨cl, k1, k2, rfl⟩ := dAsk_some h1
    obtain ⟨a, ep, hs, xs, ys, rfl, rfl, hH, lo, hl, h2⟩ := d_shape C I g t2 t1 ry rx k1 k2
    rcases h2 with ⟨_, b, k, x3, rfl, rfl, n1, n2, n3, T, D3⟩ | ⟨_, k, kvs, n1, n2, n3, n4, M, D3⟩
    · refine wpAny_in_heap (room1 C _ (by show X.A.units + 1 ≤ _; omega)) n2 lo D3 ⟨.bl _, H, I.tok _, rfl, gr_same g ?_⟩
      rcases T.at n1 with ⟨a1, a2⟩ | ⟨b2, v2, y2, d2, a1, a2, a3, a4⟩
      · rw [a1, a2]; exact .bl _
      · rw [a1, a2]; exact .bl _
    · refine wpAny_in_of n2 lo D3.mapOf ⟨.bl _, H, I.tok _, rfl, gr_same g ?_⟩
      rcases M.at n1 with ⟨a1, a2⟩ | ⟨v2, y2, d2, a1, a2, a3, a4⟩
      · rw [a1, a2]; exact .bl _
      · rw [a1, a2]; exact .bl _
  | _ => cases h
def sDnin (k c : D) : Option D := match c with
  | .dict l => (dAsk l k).map fun o => .bool (!o.isSome)
  | _ => none
theorem op_dninV (C : XC c X) : Op2 c X (compareOp .NotIn) sDnin := by
  intro pins s σ H G x y v u key e r I g rx ry t1 t2 h
  cases e with
  | dict l =>
    have h : (dAsk l key).map (fun o => PyData.bool (!o.isSome)) = some r := h
    obtain ⟨o, h1, rfl⟩ := Option.map_eq_some_iff.mp h
    obtain ⟨cl, k1, k2, rfl⟩ := dAsk_some h1
    obtain ⟨a, ep, hs, xs, ys, rfl, rfl, hH, lo, hl, h2⟩ := d_shape C I g t2 t1 ry rx k1 k2
    rcases h2 with ⟨_, b, k, x3, rfl, rfl, n1, n2, n3, T, D3⟩ | ⟨_, k, kvs, n1, n2, n3, n4, M, D3⟩
    · refine wpAny_notIn_heap (room1 C _ (by show X.A.units + 1 ≤ _; omega)) n2 lo D3 ⟨.bl _, H, I.tok _, rfl, gr_same g ?_⟩
      rcases T.at n1 with ⟨a1, a2⟩ | ⟨b2, v2, y2, d2, a1, a2, a3, a4⟩
      · rw [a1, a2]; exact .bl _
      · rw [a1, a2]; exact .bl _
    · refine wpAny_notIn_of n2 lo D3.mapOf ⟨.bl _, H, I.tok _, rfl, gr_same g ?_⟩
      rcases M.at n1 with ⟨a1, a2⟩ | ⟨v2, y2, d2, a1, a2, a3, a4⟩
      · rw [a1, a2]; exact .bl _
      · rw [a1, a2]; exact .bl _
  | _ => cases h
/-- d[k] -/
theorem ix_dictV (C : XC c X) : IxV c X sDget := by
  intro value slice pins s σ H G x y v u d key r I g rx ry t1 t2 h hs
  cases d with
  | dict l =>
    have h : (dAsk l key).join = some r := h
    rw [Option.join_eq_some_iff] at h
    obtain ⟨cl, k1, k2, h3⟩ := dAsk_some h
    obtain ⟨a, ep, hs', xs, ys, rfl, rfl, hH, lo, hl, h2⟩ := d_shape C I g t1 t2 rx ry k1 k2
    rcases h2 with ⟨_, b, k, x3, rfl, rfl, n1, n2, n3, T, D3⟩ | ⟨_, k, kvs, n1, n2, n3, n4, M, D3⟩
    · rcases T.at n1 with ⟨a1, a2⟩ | ⟨b2, v2, y2, d2, a1, a2, a3, a4⟩
      · rw [a2] at h3; cases h3
      · rw [a2] at h3
        cases h3
        exact tail_any (ops := [.ref a, .ref b]) D3.typeIs slot_dict_getitem.lookup (wpAny_getItem_heap (room1 C _ (by show X.A.units + 1 ≤ _; omega)) n2 D3 a1 ⟨y2, H, I.tok _, a3, gr_same g a4⟩) hs
    · rcases M.at n1 with ⟨a1, a2⟩ | ⟨v2, y2, d2, a1, a2, a3, a4⟩
      · rw [a2] at h3; cases h3
      · rw [a2] at h3
        cases h3
        exact tail_any (ops := [.ref a, u]) D3.typeIs slot_dict_getitem.lookup (wpAny_getItem_of n2 D3.mapOf a1 ⟨y2, H, I.tok _, a3, gr_same g a4⟩) hs
  | _ => cases h
/-- d.get(k, x) -/
def mGet2 (d : D) (ds : List D) : Option D := match ds with
  | [k, x] => sDgetOr d k x
  | _ => none
theorem mt_get2 (C : XC c X) : MtV c X 6 "dict.get" mGet2 (NW c) := by
  intro pins s σ H G x xs v us d ds r I g rx rs t ra hk h
  unfold mGet2 at h
  split at h
  · rename_i key dflt
    cases d with
    | dict l =>
      have h : (dAsk l key).map (fun o => o.getD dflt) = some r := h
      obtain ⟨o, h1, rfl⟩ := Option.map_eq_some_iff.mp h
      obtain ⟨cl, k1, k2, rfl⟩ := dAsk_some h1
      cases ra with
      | @cons yk _ _ _ rk ra =>
        obtain ⟨yd, rfl, rd⟩ := rpa1 ra
        cases rs with
        | @cons _ uk _ _ ruk rs =>
          obtain ⟨ud, rfl, rud⟩ := vals1 rs
          obtain ⟨a, ep, hs', xs, ys, rfl, rfl, hH, lo, hl, h2⟩ := d_shape C I g t (.of (H := H) rk) rx ruk k1 k2
          rcases h2 with ⟨_, b, k, x3, rfl, rfl, n1, n2, n3, T, D3⟩ | ⟨_, k, kvs, n1, n2, n3, n4, M, D3⟩
          · refine call_meetsIn PySem.F.slot_dict_get D3.typeIs PySem.F.entry_dict_get (PySem.F.args_dict_get_3 _ _ _) (meetsH_dict_get_default (nestedKind X.prog X.w) a b lo ud) ⟨room1 C _ (by show X.A.units + 1 ≤ _; omega), k, x3, n2, D3, ?_⟩
            rcases T.at n1 with ⟨a1, a2⟩ | ⟨b2, v2, y2, d2, a1, a2, a3, a4⟩
            · rw [a1, a2]
              exact ⟨yd, H, I.tok _, rud, gr_same g rd⟩
            · rw [a1, a2]
              exact ⟨y2, H, I.tok _, a3, gr_same g a4⟩
          · refine call_meetsIn PySem.F.slot_dict_get D3.typeIs PySem.F.entry_dict_get (PySem.F.args_dict_get_3 _ _ _) (meets_dict_get_default (mixKind X.prog X.w) a n2 lo ud) ⟨_, D3.mapOf, ?_⟩
            rcases M.at n1 with ⟨a1, a2⟩ | ⟨v2, y2, d2, a1, a2, a3, a4⟩
            · rw [a1, a2]
              exact ⟨yd, H, I.tok _, rud, gr_same g rd⟩
            · rw [a1, a2]
              exact ⟨y2, H, I.tok _, a3, gr_same g a4⟩
    | _ => cases h
  · cases h
theorem get2_k {d : D} {ds : List D} {r : D} (h : mGet2 d ds = some r) : kd d = 6 := by
  unfold mGet2 at h
  split at h
  · cases d <;> first | rfl | cases h
  · cases h
theorem ce_get2 {o e f : Expr} {apos cpos : Pos} {p : Pk} {fe ff : Ev} (C : XC c X) (ho : CK c X o p) (he : CE c X e fe) (hf : CE c X f ff)
    (hbase : attributeBase o "get" X.env (eval o X.env) = eval o X.env := by rfl) (hline : (apos.endLine == cpos.line) = true := by rfl) (hs : starEach [e, f] X.env = [(false, eval e X.env), (false, eval f X.env)] := by rfl) (hs2 : starEach [f] X.env = [(false, eval f X.env)] := by rfl) :
    CE c X (.Call (.Attribute o "get" apos) [e, f] [] cpos) (eM mGet2 p (esCons fe (esCons ff esNil))) :=
  ce_m (T := "dict") (k := 6) C rfl (by decide) PySem.F.plainAttrs_dict PySem.F.slot_dict_get PySem.F.type_dict_get (mt_get2 C) (fun _ _ _ h => get2_k h) ho (ca_cons he (ca_cons hf ca_nil hs2) (by rw [hs, hs2])) hbase (by rw [hs]; rfl) hline (by rw [hs, hs2]) (by rw [hs2]; rfl)
end
end VL

set_option Elab.async false
set_option linter.all false
set_option maxRecDepth 100000
/-! V16: dicts made, filled, walked, listed. -/
namespace VL
open PySem PySem.Spec PyProof.Rows L2

def eDnil : Ev := fun ρ => some (.dict [], ρ)
/-- {k: v} -/
def eD1 (k v : Ev) : Ev := fun ρ => match k ρ with
  | some (x, ρ1) => match v ρ1 with
    | some (y, ρ2) => if kcls x = some true then some (.dict [(x, y)], ρ2) else none
    | none => none
  | none => none
section
variable {c : Ct} {X : Cx} {Pr G H : Hp} {σ : L2.St} {ρ ρ' : List O} {pins : List (Addr × Obj)} {s : Shared}
/-- a new dict, ahead of the slots -/
theorem ER.newD {p : Addr} {ep : Nat} {hs : List Int} {xs ys : List V} {l : List (D × D)} (E : ER c Pr G H σ ρ) (n : H p = none) (h1 : hs = l.map fun p => hashK c.w p.1) (h2 : keysNd l) (r1 : RpA c G xs (l.map (·.1))) (r2 : RpA c G ys (l.map (·.2))) :
    ER c Pr G (upd H p (dO p ep hs xs ys)) (some (.ref p) :: σ) (.dic l :: ρ) := by
  obtain ⟨m, nd, ap, sl⟩ := E.own
  have th := sl.there
  have npr : Pr p = none := by
    cases e : Pr p with
    | none => rfl
    | some o => rw [(E.pr p o e).1] at n; cases n
  have ng : G p = none := by
    cases e : G p with
    | none => rfl
    | some o => rw [E.gh p o e] at n; cases n
  have nm : ∀ a ∈ m, a ≠ p := fun a ha e => by
    obtain ⟨u, q⟩ := th a ha
    rw [e, n] at q
    cases q
  refine ⟨fun a o e => ?_, fun a o e => ?_, p :: m, List.nodup_cons.mpr ⟨fun h => nm p h rfl, nd⟩, fun a ha => ?_, [p], m, rfl, ⟨p, ep, hs, xs, ys, rfl, rfl, upd_same, h1, h2, r1, r2⟩, sl.mono (Ge.refl _) fun a ha => upd_ne (nm a ha)⟩
  · obtain ⟨h1, h2⟩ := E.pr a o e
    exact ⟨by rw [upd_ne (ne_of_none h1 n)]; exact h1, h2⟩
  · have h1 := E.gh a o e
    rw [upd_ne (ne_of_none h1 n)]
    exact h1
  · rcases List.mem_cons.mp ha with e | h
    · rw [e]; exact ⟨npr, ng⟩
    · exact ap a h
theorem big_ne (I : Inv X pins σ H s) : (s.heap.objs.size == sysModules) = false := by
  obtain ⟨_, h, _⟩ := dk_empty (P := X.prog) (w := X.w) (H := fun _ => none) s.heap I.big
  exact h
theorem dPhi_new (h : Heap) (lo : (h.objs.size == sysModules) = false) : dPhi h.objs.size 0 [] [] [] (h.push { cls := .type "dict", data := .dict #[] }) :=
  ⟨lo, Nat.zero_le _, #[], ⟨_, Heap.get?_push_size _ rfl, ⟨rfl, rfl, rfl⟩, rfl⟩, .nil⟩
theorem cf_dnil {pos : Pos} : CF c X (.Dict [] [] pos) eDnil := by
  intro pins s σ H Pr G ρ ρ' d I E h
  cases h
  have n : H s.heap.objs.size = none := I.hok.fresh (Nat.le_refl _)
  refine wpAny_Dict_empty ⟨.ref s.heap.objs.size, _, I.laid (a := s.heap.objs.size) (o := dO s.heap.objs.size 0 [] [] []) (t' := s.toks) (fun _ _ q => Heap.get?_push_of_some _ q) (Nat.le_refl _) (dO_ok (dPhi_new s.heap (big_ne I))), rfl, G, .dic [], Ge.refl _, E.newD n rfl ⟨List.nodup_nil, fun p hp => nomatch hp⟩ .nil .nil, .inr ⟨[], rfl, rfl⟩⟩

/-! ### a thing set apart while others are made -/
theorem ER.setA {p : Addr} {o : HO} (E : ER c Pr G H σ ρ) (n : H p = none) : ER c (upd Pr p o) G (upd H p o) σ ρ ∧ Pr p = none := by
  obtain ⟨m, nd, ap, sl⟩ := E.own
  have th := sl.there
  have npr : Pr p = none := by
    cases e : Pr p with
    | none => rfl
    | some o => rw [(E.pr p o e).1] at n; cases n
  have ng : G p = none := by
    cases e : G p with
    | none => rfl
    | some o => rw [E.gh p o e] at n; cases n
  have nm : ∀ a ∈ m, a ≠ p := fun a ha e => by
    obtain ⟨u, q⟩ := th a ha
    rw [e, n] at q
    cases q
  refine ⟨⟨fun a u e => ?_, fun a u e => ?_, m, nd, fun a ha => ?_, sl.mono (Ge.refl _) fun a ha => upd_ne (nm a ha)⟩, npr⟩
  · by_cases h : a = p
    · subst h
      rw [upd_same] at e ⊢
      exact ⟨e, ng⟩
    · rw [upd_ne h] at e ⊢
      exact E.pr a u e
  · have h1 := E.gh a u e
    rw [upd_ne (ne_of_none h1 n)]
    exact h1
  · rw [upd_ne (nm a ha)]
    exact ap a ha
theorem ER.growA {p : Addr} {o o' : HO} (E : ER c (upd Pr p o) G H σ ρ) : ER c (upd Pr p o') G (upd H p o') σ ρ := by
  obtain ⟨m, nd, ap, sl⟩ := E.own
  have gD : G p = none := (E.pr p _ upd_same).2
  have nm : ∀ a ∈ m, a ≠ p := fun a ha e => by
    have := (ap a ha).1
    rw [e, upd_same] at this
    cases this
  refine ⟨fun a u e => ?_, fun a u e => ?_, m, nd, fun a ha => ?_, sl.mono (Ge.refl _) fun a ha => upd_ne (nm a ha)⟩
  · by_cases h : a = p
    · subst h
      rw [upd_same] at e ⊢
      exact ⟨e, gD⟩
    · rw [upd_ne h] at e ⊢
      exact E.pr a u (by rw [upd_ne h]; exact e)
  · have h : a ≠ p := fun h => by rw [h, gD] at e; cases e
    rw [upd_ne h]
    exact E.gh a u e
  · have q := ap a ha
    rw [upd_ne (nm a ha)] at q ⊢
    exact q
theorem ER.apartD {p : Addr} {ep : Nat} {hs : List Int} {xs ys : List V} {l : List (D × D)} (E : ER c (upd Pr p (dO p ep hs xs ys)) G H σ ρ) (n : Pr p = none) (h1 : hs = l.map fun p => hashK c.w p.1) (h2 : keysNd l) (r1 : RpA c G xs (l.map (·.1))) (r2 : RpA c G ys (l.map (·.2))) : ER c Pr G H (some (.ref p) :: σ) (.dic l :: ρ) := by
  obtain ⟨m, nd, ap, sl⟩ := E.own
  obtain ⟨hH, gD⟩ := E.pr p _ upd_same
  have nm : ∀ a ∈ m, a ≠ p := fun a ha e => by
    have := (ap a ha).1
    rw [e, upd_same] at this
    cases this
  refine ⟨fun a o e => E.pr a o (by rw [upd_ne (ne_of_none e n)]; exact e), E.gh, p :: m, List.nodup_cons.mpr ⟨fun h => nm p h rfl, nd⟩, fun a ha => ?_, [p], m, rfl, ⟨p, ep, hs, xs, ys, rfl, rfl, hH, h1, h2, r1, r2⟩, sl⟩
  rcases List.mem_cons.mp ha with e | h
  · rw [e]; exact ⟨n, gD⟩
  · have q := ap a h
    rw [upd_ne (nm a h)] at q
    exact q
/-- a dict as it lies behind a change, by its entries -/
theorem dPhi_T3 (C : XC c X) {a : Addr} {h h0 : Heap} {l : List (D × D)} {xs ys : List V} {x3 : List (NestedKey × Addr × Value)} (lo : (a == sysModules) = false) (hl : l.length ≤ sizeLine) (D3 : h.DictOfH (nestedKind X.prog X.w) a x3) (T : T3 c G h0 l xs ys x3) :
    ∃ ep, dPhi a ep (l.map fun p => hashK c.w p.1) xs ys h ∧ (x3.map (·.1)).Nodup := by
  obtain ⟨o, es, ep, ho, hx, hd, he, his, nd⟩ := D3
  refine ⟨ep, ⟨lo, by rw [List.length_map]; exact hl, es, ⟨o, ho, hx, hd⟩, ?_⟩, nd⟩
  rw [he]
  exact T.ent C.w.symm
theorem dPhi_M3 (C : XC c X) {a : Addr} {h : Heap} {l : List (D × D)} {xs ys : List V} {kvs : List (Key × Value)} (lo : (a == sysModules) = false) (hl : l.length ≤ sizeLine) (D3 : h.DictOf (mixKind X.prog X.w) a kvs) (M : M3 c G l xs ys kvs) :
    ∃ ep, dPhi a ep (l.map fun p => hashK c.w p.1) xs ys h ∧ (kvs.map (·.1)).Nodup := by
  obtain ⟨o, es, ep, ho, hx, hd, hk, pp, nd⟩ := D3
  exact ⟨ep, ⟨lo, by rw [List.length_map]; exact hl, es, ⟨o, ho, hx, hd⟩, M.ent X.prog C.w.symm pp fun e he => hk e (by simpa using he)⟩, nd⟩
theorem T3.nd {h : Heap} {l : List (D × D)} {xs ys : List V} {x3 : List (NestedKey × Addr × Value)} (T : T3 c G h l xs ys x3) (nd : (x3.map (·.1)).Nodup) (hk : ∀ p ∈ l, (kcls p.1).isSome = true) : keysNd l := by
  refine ⟨?_, hk⟩
  rw [T.nks]
  exact List.Pairwise.map _ (fun a b h e => h (Option.some.inj e)) nd
theorem kn_inj {a b : Key} (h : kn a = kn b) : a = b := by
  cases a <;> cases b <;> first | (cases h; rfl) | cases h
theorem M3.nd {l : List (D × D)} {xs ys : List V} {kvs : List (Key × Value)} (M : M3 c G l xs ys kvs) (nd : (kvs.map (·.1)).Nodup) (hk : ∀ p ∈ l, (kcls p.1).isSome = true) : keysNd l := by
  refine ⟨?_, hk⟩
  rw [M.nks]
  exact List.Pairwise.map _ (fun a b h e => h (kn_inj (Option.some.inj e))) nd
theorem dput_mem {key d : D} : ∀ {l : List (D × D)}, ∀ p ∈ dput key d l, p.1 = key ∨ ∃ q ∈ l, q.1 = p.1
  | [], p, h => by
    cases List.mem_singleton.mp h
    exact .inl rfl
  | q :: l, p, h => by
    have h : p ∈ (if PyData.eqv q.1 key = true then (q.1, d) :: l else q :: dput key d l) := h
    split at h
    · rcases List.mem_cons.mp h with e | h
      · exact .inr ⟨q, List.mem_cons_self, by rw [e]⟩
      · exact .inr ⟨p, List.mem_cons_of_mem _ h, rfl⟩
    · rcases List.mem_cons.mp h with e | h
      · exact .inr ⟨q, List.mem_cons_self, by rw [e]⟩
      · rcases dput_mem p h with e | ⟨z, hz, e⟩
        · exact .inl e
        · exact .inr ⟨z, List.mem_cons_of_mem _ hz, e⟩
theorem dput_len {key d : D} : ∀ l : List (D × D), (dput key d l).length ≤ l.length + 1
  | [] => Nat.le_refl _
  | q :: l => by
    show (if PyData.eqv q.1 key = true then (q.1, d) :: l else q :: dput key d l).length ≤ _
    split
    · simp
    · have := dput_len (key := key) (d := d) l
      simp only [List.length_cons]
      omega
/-- {k: v}, the key a tuple -/
theorem cf_d1 {k v : Expr} {pos : Pos} {fk fv : Ev} (C : XC c X) (hk : CE c X k fk) (hv : CE c X v fv) : CF c X (.Dict [some k] [v] pos) (eD1 fk fv) := by
  intro pins s σ H Pr G ρ ρ' d I E h
  unfold eD1 at h
  split at h
  · rename_i x ρ1 h1
    split at h
    · rename_i y ρ2 h2
      split at h
      · rename_i hc
        cases h
        have n : H s.heap.objs.size = none := I.hok.fresh (Nat.le_refl _)
        have lo := big_ne I
        have I1 := I.laid (a := s.heap.objs.size) (o := dO s.heap.objs.size 0 [] [] []) (t' := s.toks) (h' := s.heap.push { cls := .type "dict", data := .dict #[] }) (fun _ _ q => Heap.get?_push_of_some _ q) (Nat.le_refl _) (dO_ok (dPhi_new s.heap lo))
        obtain ⟨E1, npr⟩ := E.setA (o := dO s.heap.objs.size 0 [] [] []) n
        rw [arm_eval_Dict, zip_pairTrees [some k] [v] X.env pos rfl rfl, dictDisplay_pairs (pairTrees [some k] [v] X.env pos) (by intro q; cases q) (by rw [pairTrees_length [some k] [v] X.env pos rfl rfl]; show 1 < 17; decide)]
        refine wpAny_bind (wpAny_standAt (wpAny_bind (wpAny_subDictH (knd := nestedKind X.prog X.w) (Q := fun d s' => wpAny (model X.prog X.w) X.A (pure (Value.ref d)) (EP X pins σ (PostF c Pr G σ ρ' (.dict [(x, y)]))) X.xe s') (room1 C _ (by omega)) (by rw [pairTrees_length [some k] [v] X.env pos rfl rfl]; show 1 ≤ 15; decide) ?_)))
        refine pairTrees_cons_walk (thn (hk pins _ σ _ _ G ρ ρ1 x I1 E1 h1) fun u s2 ⟨xv, H2, I2, r2, G2, g2, E2, q2⟩ => thn (hv pins s2 σ H2 _ G2 ρ1 ρ' y I2 E2 h2) fun w2 s3 ⟨yv, H3, I3, r3, G3, g3, E3, q3⟩ => pairTrees_nil_walk ?_)
        obtain ⟨tl, ks, e1, e2, e3, e4⟩ := kcls_t hc
        have q2' := q2
        rw [e1] at q2'
        cases q2' with
        | @tup b o zs ds z1 z2 z3 =>
          cases r2
          have nis : NestedIs s3.heap (.tup ks) (.ref b) := rp_nested I3 E3.gh (q2.mono g3) e3 rfl
          obtain ⟨hp, gp⟩ := E3.pr _ _ upd_same
          obtain ⟨⟨_, hz, es, ⟨o, ho, hx, hd⟩, he⟩, _⟩ := I3.hok _ _ hp
          refine ⟨[(.tup ks, b, w2)], ⟨rfl, rfl, ⟨nis, e4⟩, trivial⟩, ⟨o, es, 0, ho, hx, hd, ?_, (fun z hz => by cases hz), List.nodup_nil⟩, fun h' tk D3 hs => wpAny_pure ?_⟩
          · generalize es.toList = q at he
            cases he
            rfl
          have T : T3 c G3 s3.heap [(x, y)] [.ref b] [yv] [(.tup ks, b, w2)] := .cons e3 nis e4 (q2.mono g3) r3 q3 .nil
          obtain ⟨ep, ph, nd⟩ := dPhi_T3 (l := [(x, y)]) C lo (by show 1 ≤ sizeLine; decide) D3 T
          have hes : ∃ q, h'.get? s.heap.objs.size = some q := let ⟨q, _, _, hq, _⟩ := D3; ⟨q, hq⟩
          exact ⟨.ref s.heap.objs.size, _, d_write I3 (by rw [hp]; exact True.intro) hs hes (dO_ok ph), rfl, G3, .dic [(x, y)], g2.trans g3, E3.growA.apartD npr rfl (T.nd nd fun p hp => by cases List.mem_singleton.mp hp; rw [hc]; rfl) T.rpa.1 T.rpa.2.1, .inr ⟨_, rfl, rfl⟩⟩
      · cases h
    · cases h
  · cases h

/-! ### name[k] = e -/
/-- a slot's own dict is changed -/
theorem ER.writeD {i : Nat} {l l' : List (D × D)} {ep : Nat} {hs : List Int} {xs ys : List V} {a : Addr} (E : ER c Pr G H σ ρ) (hi : ρ[i]? = some (.dic l)) (hs0 : σ[i]? = some (some (.ref a))) (h1 : hs = l'.map fun p => hashK c.w p.1) (h2 : keysNd l') (r1 : RpA c G xs (l'.map (·.1))) (r2 : RpA c G ys (l'.map (·.2))) : ER c Pr G (upd H a (dO a ep hs xs ys)) σ (ρ.set i (.dic l')) := by
  obtain ⟨m, nd, ap, sl⟩ := E.own
  obtain ⟨s0, m1, m2, e1, p, ⟨a', ep', hs', xs', ys', e2, e3, h3, h4, h5, h6, h7⟩, k⟩ := sl.at hi
  rw [hs0] at e1
  cases e1
  cases e2
  subst e3
  have ha := ap a (p.mem_iff.mpr (by simp))
  have nd2 := p.nodup_iff.mp nd
  have nm : ∀ b ∈ m2, b ≠ a := fun b hb e => by
    subst e
    exact (List.nodup_append.mp nd2).2.2 b (by simp) b hb rfl
  obtain ⟨m', pm, sm⟩ := k G (upd H a (dO a ep hs xs ys)) (some (.ref a)) (.dic l') [a] (Ge.refl _) (fun b hb => upd_ne (nm b hb)) ⟨a, ep, hs, xs, ys, rfl, rfl, upd_same, h1, h2, r1, r2⟩
  rw [set_same hs0] at sm
  refine ⟨fun b o e => ?_, fun b o e => ?_, m', pm.nodup_iff.mpr nd2, fun b hb => ap b (p.mem_iff.mpr (pm.mem_iff.mp hb)), sm⟩
  · rw [upd_ne (ne_of_none e ha.1)]
    exact E.pr b o e
  · rw [upd_ne (ne_of_none e ha.2)]
    exact E.gh b o e
theorem ER.dicAt {i : Nat} {l : List (D × D)} (E : ER c Pr G H σ ρ) (hi : ρ[i]? = some (.dic l)) : ∃ a ep hs xs ys, σ[i]? = some (some (.ref a)) ∧ H a = some (dO a ep hs xs ys) ∧ hs = l.map (fun p => hashK c.w p.1) ∧ keysNd l ∧ RpA c G xs (l.map (·.1)) ∧ RpA c G ys (l.map (·.2)) := by
  obtain ⟨m, nd, ap, sl⟩ := E.own
  obtain ⟨s0, m1, m2, e1, p, ⟨a', ep', hs', xs', ys', e2, e3, h3, h4, h5, h6, h7⟩, k⟩ := sl.at hi
  subst e2
  exact ⟨a', ep', hs', xs', ys', e1, h3, h4, h5, h6, h7⟩
theorem sPut_some {i : Nat} {k e : Ev} {z : Fl × List O} (h : sPut i k e ρ = some z) : ∃ v ρ1 key ρ2 l cl, e ρ = some (v, ρ1) ∧ k ρ1 = some (key, ρ2) ∧ ρ2[i]? = some (.dic l) ∧ kcls key = some cl ∧ keysAre cl l = true ∧ l.length < LIM ∧ z = (.nx, ρ2.set i (.dic (dput key v l))) := by
  unfold sPut at h
  split at h
  · rename_i v ρ1 h1
    split at h
    · rename_i key ρ2 h2
      split at h
      · rename_i l h3
        split at h
        · rename_i o h4
          split at h
          · rename_i h5
            cases h
            obtain ⟨cl, k1, k2, _⟩ := dAsk_some h4
            exact ⟨v, ρ1, key, ρ2, l, cl, h1, h2, h3, k1, k2, h5, rfl⟩
          · cases h
        · cases h
      · cases h
    · cases h
  · cases h
theorem cs_put {i : Nat} {x : Str} {xp pos' pos : Pos} {ke e : Expr} {fk fe : Ev} (C : XC c X) (hN : X.N[i]? = some x) (hv : Vis X.env.scope x) (hk : CE c X ke fk) (he : CE c X e fe)
    (hst : ∀ ρ z, fk ρ = some z → ∀ l, z.2[i]? = some (.dic l) → ρ[i]? = some (.dic l))
    (hs : swapsWith e (some (.Subscript (.Name x xp) ke pos')) pos.line X.env = pure false := by rfl) (hd : (x == ("__debug__" : Str)) = false := by decide) (hcd : (x == ("__classdict__" : Str)) = false := by decide) :
    CS c X (.Assign [.Subscript (.Name x xp) ke pos'] e pos) (sPut i fk fe) := ⟨fun pins s σ H D0 I ⟨Pr, G, ρ, fl, ρ', E, q, kk⟩ => by
  obtain ⟨v, ρ1, key, ρ2, l, cl, h1, h2, h3, k1, k2, h5, h6⟩ := sPut_some q
  cases h6
  refine wpAny_Assign_Subscript (thn (he pins s σ H Pr G ρ ρ1 v I E h1) fun r s1 ⟨vv, H1, I1, rv, G1, g1, E1, q1⟩ => ?_) hs
  obtain ⟨a, ep0, hs0, xs0, ys0, e0, _⟩ := E1.dicAt (hst ρ1 _ h2 l h3)
  refine (pe_var hN hv hd hcd).run pins s1 σ H1 (fun w' H' => ∀ u s', Inv X pins σ H' s' → RelV w' u → _) I1 ⟨.ref a, e0, fun u s2 I2 ru => ?_⟩ |> fun h => thn h fun u s2 ⟨w', H', I2, ru, f⟩ => f u s2 I2 ru
  cases ru
  refine thn (hk pins s2 σ H1 Pr G1 ρ1 ρ2 key I2 E1 h2) fun iv s3 ⟨y, H3, I3, ry, G3, g3, E3, q3⟩ => ?_
  obtain ⟨a', ep, hs', xs, ys, e1, hH, g1', g2', g3', g4'⟩ := E3.dicAt h3
  rw [e0] at e1
  cases e1
  have big : LIM ≤ sizeLine := by decide
  have hl1 := dput_len (key := key) (d := v) l
  have hkd : ∀ p ∈ dput key v l, (kcls p.1).isSome = true := fun p hp => by
    rcases dput_mem p hp with e | ⟨z, hz, e⟩
    · rw [e, k1]; rfl
    · rw [← e]; exact g2'.2 z hz
  obtain ⟨a2, ep2, hs2, xs2, ys2, ea, eu, hH2, lo, hl, h7⟩ := d_shape C I3 E3.gh (.dic hH g1' g2' g3' g4') (.of (H := H3) q3) (x := .ref a) (v := .ref a) rfl ry k1 k2
  cases ea
  rw [hH] at hH2
  have hH2 := Option.some.inj hH2
  rcases h7 with ⟨_, b, k, x3, rfl, rfl, n1, n2, n3, T, D3⟩ | ⟨_, k, kvs, n1, n2, n3, n4, M, D3⟩
  · have nd : (x3.map (·.1)).Nodup := let ⟨_, _, _, _, _, _, _, _, nd⟩ := D3; nd
    obtain ⟨xs', ys', T'⟩ := T.put n1 n2.1 n2.2 n3 rv (q1.mono g3) nd
    refine wpAny_setItem_heap (hsz := by rw [T.rpa.2.2.2]; omega) (room1 C _ (by show X.A.units + 1 ≤ _; omega)) n2 D3 fun h' D4 sb => ?_
    obtain ⟨ep4, ph, nd4⟩ := dPhi_T3 (l := dput key v l) C lo (by omega) D4 T'
    have hes : ∃ q, h'.get? a = some q := let ⟨q, _, _, hq, _⟩ := D4; ⟨q, hq⟩
    have I4 := d_write (t' := s3.toks + (nestedKind X.prog X.w).draws k) I3 (by rw [hH]; exact True.intro) sb hes (dO_ok ph)
    exact ⟨σ, _, I4, kk σ _ G3 (g1.trans g3) (E3.writeD h3 e0 rfl (T'.nd nd4 hkd) T'.rpa.1 T'.rpa.2.1)⟩
  · have nd : (kvs.map (·.1)).Nodup := let ⟨_, _, _, _, _, _, _, _, nd⟩ := D3; nd
    obtain ⟨xs', ys', M'⟩ := M.put n1 n3 n4 rv (q1.mono g3) nd
    refine wpAny_setItem_pairs (hsz := by rw [M.rpa.2.2]; omega) n2 D3 fun h' D4 sb => ?_
    obtain ⟨ep4, ph, nd4⟩ := dPhi_M3 (l := dput key v l) C lo (by omega) D4 M'
    have hes : ∃ q, h'.get? a = some q := let ⟨q, _, _, hq, _⟩ := D4; ⟨q, hq⟩
    have I4 := d_write (t' := s3.toks + 1) I3 (by rw [hH]; exact True.intro) sb hes (dO_ok ph)
    exact ⟨σ, _, I4, kk σ _ G3 (g1.trans g3) (E3.writeD h3 e0 rfl (M'.nd nd4 hkd) M'.rpa.1 M'.rpa.2.1)⟩⟩
end
end VL

set_option Elab.async false
set_option linter.all false
set_option maxRecDepth 100000
/-! V17: dicts walked, listed; lists reversed, extended, popped. -/
namespace VL
open PySem PySem.Spec PyProof.Rows L2 PySem.W

/-- the items of a list, a tuple; the keys of a dict -/
def iSeqA (a : Ev) : Iv := fun ρ => match a ρ with
  | some (.list l, ρ1) => some (l, ρ1)
  | some (.tuple l, ρ1) => some (l, ρ1)
  | some (.dict l, ρ1) => some (l.map (·.1), ρ1)
  | _ => none
section
variable {c : Ct} {X : Cx} {Pr G H : Hp} {σ : L2.St} {ρ ρ' : List O} {pins : List (Addr × Obj)} {s : Shared}
theorem Ent.len : ∀ {es : List DictEntry} {hs : List Int} {xs ys : List V}, Ent es hs xs ys → es.length = xs.length ∧ hs.length = xs.length ∧ ys.length = xs.length
  | _, _, _, _, .nil => ⟨rfl, rfl, rfl⟩
  | _, _, _, _, .cons h r1 r2 t => by
    obtain ⟨a, b, d⟩ := t.len
    simp only [List.length_cons]
    omega
def Itd (a : Addr) (ep : Nat) (hs : List Int) (xs ys : List V) : It :=
  ⟨fun i H => H a = some (dO a ep hs xs ys) ∧ i < xs.length, fun i H x H' => H' = H ∧ xs[i]? = some x, fun i H => H a = some (dO a ep hs xs ys) ∧ xs.length ≤ i⟩
theorem turn_dict {P : Program} {w : World} {K : PySem.W.Frag} {tg : Expr} (a it : Addr) (hne : a ≠ it) (ep : Nat) (hs : List Int) (xs ys : List V) : Turn P w K tg (Itd a ep hs xs ys) [it] it (fun i h => h.IsKeyIter it a i xs.length ep) where
  mem := by simp
  obj := fun i h st b hb => by
    have e : b = it := by simpa using hb
    subst e
    obtain ⟨o, e, c, d⟩ := st
    exact ⟨o, e, fun v z => by rw [d] at z; cases z⟩
  keep := fun i h h' st k => st.at fun o e => k it (by simp) o e
  item := by
    intro X hP hw hK hc i pins s σ H E I hf st hg
    subst hP hw hK
    obtain ⟨hH, hi⟩ := hg
    obtain ⟨⟨lo, hz, es, hraw, he⟩, _⟩ := I.hok _ _ hH
    obtain ⟨v1, v2, v3⟩ := he.keys
    have hl := he.len.1
    have hsz : es.size = xs.length := by simpa using hl
    obtain ⟨f0, f1, f2, f3, f4, f5⟩ := hf it (by simp)
    have hi2 : i < es.size := by omega
    rw [← hsz] at st
    refine wpAny_pyNext_keys_item_raw st hraw hi2 fun h' st' sb => ?_
    have I1 : Inv X pins σ H { s with heap := h' } := I.turned (t' := s.toks) (fun b o hb e => (sb.2 b hb).trans e) f0 f1 f3 f4 f5
    obtain ⟨o, e, c, d⟩ := id st'
    have hx : xs[i]? = some xs[i] := by simp [hi]
    obtain ⟨u, hu, ru⟩ := v1.get hx
    have eu : u = es[i].key := by
      rw [List.getElem?_map, Array.getElem?_toList] at hu
      simp [hi2] at hu
      exact hu.symm
    subst eu
    rw [hsz] at st'
    exact ⟨_, rfl, go_of (s := { s with heap := h' }) e c d (by decide) ⟨xs[i], H, I1, ru, ⟨rfl, hx⟩, st', fun b hb => (hf b hb).1⟩⟩
  done := by
    intro X hP hw hK hc i pins s σ H E I hf st hg
    subst hP hw hK
    obtain ⟨hH, hi⟩ := hg
    obtain ⟨⟨lo, hz, es, hraw, he⟩, _⟩ := I.hok _ _ hH
    have hsz : es.size = xs.length := by simpa using he.len.1
    obtain ⟨f0, f1, f2, f3, f4, f5⟩ := hf it (by simp)
    rw [← hsz] at st
    exact wpAny_pyNext_keys_end_raw (I.ok.hd hc) st hraw (by omega) fun h' eb => ⟨rfl, I.turned (t' := s.toks) (fun b o hb e => eb b o hb e) f0 f1 f3 f4 f5⟩
  self := fun _ _ _ _ _ st h => wpAny_pyIter_keyiter st h
theorem ci_seqA {tg e : Expr} {f : Ev} (C : XC c X) (h : CE c X e f) : CI c X tg e (iSeqA f) := by
  refine ⟨fun pins s σ H R I ⟨Pr, G, ρ, xs, ρ', E, q, k⟩ => ?_⟩
  unfold iSeqA at q
  split at q
  · rename_i l ρ1 hf
    cases q
    exact (ci_seq (tg := tg) C h).run pins s σ H R I ⟨Pr, G, ρ, xs, ρ', E, by unfold iSeq; rw [hf], k⟩
  · rename_i l ρ1 hf
    cases q
    exact (ci_seq (tg := tg) C h).run pins s σ H R I ⟨Pr, G, ρ, xs, ρ', E, by unfold iSeq; rw [hf], k⟩
  · rename_i l ρ1 hf
    cases q
    refine thn (h pins s σ H Pr G ρ ρ' _ I E hf) fun v s1 ⟨x, H1, I1, r1, G1, g1, E1, q1⟩ => ?_
    cases q1 with
    | @dic a ep hs xs ys l hG h2 h3 h4 h5 =>
      cases r1
      have hH := E1.gh _ _ hG
      obtain ⟨⟨lo, hz, es, hraw, he⟩, _⟩ := I1.hok _ _ hH
      have hsz : es.size = xs.length := by simpa using he.len.1
      refine wpAny_pyIter_dict_raw lo hraw ?_
      have hlt : a < s1.heap.objs.size := let ⟨_, ho, _⟩ := hraw; Heap.lt_size ho
      refine ⟨s1.heap.objs.size, [s1.heap.objs.size], _, _, H1, rfl, I1.kept (t' := s1.toks) fun b o e => Heap.get?_push_of_some _ e, turn_dict a _ (Nat.ne_of_lt hlt) ep hs xs ys, ⟨_, Heap.get?_push_size _ rfl, rfl, by rw [← hsz]; rfl⟩, fun b hb => ?_, k _ G1 H1 g1 E1 ?_⟩
      · have e : b = s1.heap.objs.size := by simpa using hb
        subst e
        exact I1.fpOk (Nat.le_refl _) (I1.hok.fresh (Nat.le_refl _))
      · have hlen := h4.length
        refine ⟨by rw [← hlen]; rw [he.len.2.1] at hz; exact hz, fun G3 H3 g3 gh i d hd => ?_, fun G3 H3 g3 gh => ⟨gh _ _ (g3 _ _ hG), Nat.le_of_eq hlen⟩⟩
        obtain ⟨v, hv, rv⟩ := h4.get hd
        refine ⟨⟨gh _ _ (g3 _ _ hG), (List.getElem?_eq_some_iff.mp hv).1⟩, fun x H' ⟨eH, y⟩ => ?_⟩
        subst eH
        rw [hv] at y
        cases y
        exact ⟨G3, Gr.refl gh, rv.mono g3⟩
  · cases q
/-! ### len(d), list(d) -/
def sLenD : D → Option D
  | .dict l => some (.int l.length)
  | _ => none
def sListD : D → Option D
  | .dict l => some (.list (l.map (·.1)))
  | _ => none
theorem op_lenDV (C : XC c X) : Op1 c X (fun v => call (.builtin "len") [v]) sLenD := by
  intro pins s σ H G x v d r I g rx t e
  cases d with
  | dict l =>
    cases e
    obtain ⟨a, ep, hs, xs, ys, rfl, hH, h2, h3, h4, h5⟩ := rpt_dict t g
    obtain ⟨⟨lo, hz, es, hraw, he⟩, _⟩ := I.hok _ _ hH
    cases rx
    have hsz : es.size = l.length := by
      have h1 : es.size = xs.length := by simpa using he.len.1
      have h2 := h4.length
      rw [List.length_map] at h2
      omega
    rw [h2, List.length_map] at hz
    have e63 : (2 : Int) ^ 63 = 9223372036854775808 := by decide
    refine PyProof.Rows.call_len_slot (n := (l.length : Int)) hraw.typeIs PySem.F.slot_dict_len (fun Q' hq => call_len_raw lo hraw (by rw [hsz]; exact hq)) (by omega) (by rw [sizeLine_eq] at hz; omega) ⟨.int _, H, I.tok _, ⟨_, rfl⟩, gr_same g (.int _)⟩
  | _ => cases e
theorem fp_listDV (C : XC c X) : Fp1 c X (fun v => call (.type "list") [v]) sListD := by
  intro pins s σ H G x v d r I g rx t e
  cases d with
  | dict l =>
    cases e
    obtain ⟨a, ep, hs, xs, ys, rfl, hH, h2, h3, h4, h5⟩ := rpt_dict t g
    obtain ⟨⟨lo, hz, es, hraw, he⟩, _⟩ := I.hok _ _ hH
    obtain ⟨v1, v2, v3⟩ := he.keys
    cases rx
    have hn : es.size ≤ sizeLine := by
      rw [v3] at hz
      simpa using hz
    refine PySem.W.kdl_call (KdlSrc.rawDict lo (es := es) (ep := ep)) (I.ok.hd C.calm) hraw hn fun h' tk acc c' kh hS hacc => ?_
    have e2 : acc.toList = es.toList.map (·.key) := by
      refine List.ext_getElem? fun i => ?_
      by_cases hi : i < acc.size
      · obtain ⟨hi2, e3⟩ := hacc.2 i acc[i] (by simp [hi])
        have e4 : i < es.toList.length := by simpa using hi2
        rw [Array.getElem?_toList, List.getElem?_map, Array.getElem?_toList]
        simp [hi, hi2, e3]
      · have e4 : ¬ i < es.size := by rw [← hacc.1]; exact hi
        rw [Array.getElem?_toList, List.getElem?_map, Array.getElem?_toList]
        simp [hi, e4]
    have n : H s.heap.objs.size = none := I.hok.fresh (Nat.le_refl _)
    have hl := he.len.1
    refine ⟨.ref s.heap.objs.size, upd H s.heap.objs.size (.lst xs), I.laid (o := .lst xs) (t' := tk) kh (Nat.le_refl _) ⟨by rw [← hl]; simpa using hn, es.toList.map (·.key), c', v1, ?_⟩, rfl, G, H, _, xs, _, Gr.refl g, rfl, n, rfl, rfl, h4⟩
    rw [← e2, Array.toArray_toList]
    exact hS
  | _ => cases e
/-! ### l[::-1] -/
def sRevL : D → Option D
  | .list l => some (.list l.reverse)
  | _ => none
theorem rpa_rev : ∀ {xs : List V} {l : List D}, RpA c G xs l → RpA c G xs.reverse l.reverse
  | _, _, .nil => .nil
  | _, _, .cons h r => by
    rw [List.reverse_cons, List.reverse_cons]
    exact (rpa_rev r).append (.cons h .nil)
theorem cf_rev {e : Expr} {f : Ev} {k : Nat} {p1 p2 p3 pos : Pos} (C : XC c X) (he : CE c X e f) : CF c X (.Subscript e (.Slice none none (some (.UnaryOp .USub (.Constant (.int 1) k p1) p2)) p3) pos) (o1 sRevL (kE f)) := by
  intro pins s σ H Pr G ρ ρ' d I E h
  obtain ⟨t, d1, h1, h2, h3⟩ := o1_some h
  obtain ⟨d2, h4, h5⟩ := kE_some h1
  have h5 : t = fun _ => some d2 := h5
  subst h5
  cases h2
  cases d1 with
  | list l =>
    cases h3
    refine (pe_revL he.pe).run pins s σ H _ I ⟨Pr, G, ρ, _, ρ', E, h4, fun v H' ⟨G', g, E', rp⟩ => ?_⟩
    cases rp with
    | lst sq ra => exact ⟨_, _, rfl, by rw [C.K]; exact Ge.sqL E'.gh sq, fun p n => ⟨G', .lst _, g, E'.newL n (rpa_rev ra), .inl ⟨_, rfl, rfl⟩⟩⟩
  | _ => cases h3
/-! ### l.extend(new list), l.pop() of a slot's own list -/
def sExt (i : Nat) (e : Ev) : Sm := fun ρ => match ρ[i]? with
  | some (.lst _) => match e ρ with
    | some (.list m, ρ1) => match ρ1[i]? with
      | some (.lst l) => if l.length + m.length ≤ LIM then some (.nx, ρ1.set i (.lst (l ++ m))) else none
      | _ => none
    | _ => none
  | _ => none
def ePop (i : Nat) : Ev := fun ρ => match ρ[i]? with
  | some (.lst l) => match l.getLast? with
    | some d => some (d, ρ.set i (.lst l.dropLast))
    | none => none
  | _ => none
theorem ER.lstAt {i : Nat} {l : List D} (E : ER c Pr G H σ ρ) (hi : ρ[i]? = some (.lst l)) : ∃ a xs, σ[i]? = some (some (.ref a)) ∧ H a = some (.lst xs) ∧ RpA c G xs l := by
  obtain ⟨m, nd, ap, sl⟩ := E.own
  obtain ⟨s0, m1, m2, e1, p, ⟨a', xs, e2, e3, h3, h4⟩, kk⟩ := sl.at hi
  subst e2
  exact ⟨a', xs, e1, h3, h4⟩
theorem rpa_dropLast : ∀ {xs : List V} {l : List D}, RpA c G xs l → RpA c G xs.dropLast l.dropLast := by
  intro xs l r
  rw [List.dropLast_eq_take, List.dropLast_eq_take, r.length]
  exact r.take _
theorem ce_pop {i : Nat} {x : Str} {xp apos cpos : Pos} (hN : X.N[i]? = some x) (hv : Vis X.env.scope x)
    (hd : (x == ("__debug__" : Str)) = false := by decide) (hcd : (x == ("__classdict__" : Str)) = false := by decide)
    (hbase : attributeBase (.Name x xp) "pop" X.env (eval (.Name x xp) X.env) = eval (.Name x xp) X.env := by rfl) (hline : (apos.endLine == cpos.line) = true := by rfl) :
    CE c X (.Call (.Attribute (.Name x xp) "pop" apos) [] [] cpos) (ePop i) := by
  intro pins s σ H Pr G ρ ρ' d I E h
  unfold ePop at h
  split at h
  · rename_i l h0
    split at h
    · rename_i d' h1
      cases h
      obtain ⟨a, xs, e0, hA, ra⟩ := E.lstAt h0
      refine (pe_bm0 PySem.F.plainAttrs_list PySem.F.slot_list_pop PySem.F.type_list_pop mt_pop (pe_var hN hv hd hcd) hbase hline).run pins s σ H _ I ⟨.ref a, e0, .inl ⟨rfl, xs, .inl (.inl hA)⟩, ?_⟩
      rw [List.getLast?_eq_getElem?] at h1
      obtain ⟨v, hv, rv⟩ := ra.get h1
      rw [← ra.length] at hv
      refine ⟨a, xs, v, rfl, rfl, hA, hv, G, Ge.refl _, E.writeL h0 e0 (rpa_dropLast ra), rv⟩
    · cases h
  · cases h
theorem cs_ext {i : Nat} {x : Str} {xp apos cpos pos : Pos} {e : Expr} {f : Ev} (hN : X.N[i]? = some x) (hv : Vis X.env.scope x) (he : CF c X e f) (hs : swapsWith (.Call (.Attribute (.Name x xp) "extend" apos) [e] [] cpos) none pos.line X.env = pure false := by rfl)
    (hd : (x == ("__debug__" : Str)) = false := by decide) (hcd : (x == ("__classdict__" : Str)) = false := by decide)
    (hbase : attributeBase (.Name x xp) "extend" X.env (eval (.Name x xp) X.env) = eval (.Name x xp) X.env := by rfl) (hst : starEach [e] X.env = (false, eval e X.env) :: starEach [] X.env := by rfl) (hline : (apos.endLine == cpos.line) = true := by rfl) :
    CS c X (.Expr (.Call (.Attribute (.Name x xp) "extend" apos) [e] [] cpos) pos) (sExt i f) := ⟨fun pins s σ H D0 I ⟨Pr, G, ρ, fl, ρ', E, q, k⟩ => by
  unfold sExt at q
  split at q
  · rename_i l0 h0
    split at q
    · rename_i m ρ1 h1
      split at q
      · rename_i l h2
        split at q
        · rename_i hz
          cases q
          refine (ps_expr (pe_bm PySem.F.plainAttrs_list PySem.F.slot_list_extend PySem.F.type_list_extend mt_extend (pe_var hN hv hd hcd) (pa_cons he.pe pa_nil hst) hbase (by rw [hst]; rfl) hline hst rfl) hs).run pins s σ H D0 I ?_
          obtain ⟨a0, xs0, e0, hA0, _⟩ := E.lstAt h0
          refine ⟨.ref a0, e0, .inl ⟨rfl, xs0, .inl (.inl hA0)⟩, Pr, G, ρ, _, ρ1, E, h1, fun y H' ⟨G', o', g, E', ho⟩ => ?_⟩
          rcases ho with ⟨m', rfl, em⟩ | ⟨m', rfl, em⟩
          · cases em
            obtain ⟨b, zs, eb, hB, rb⟩ := E'.lstAt (i := 0) rfl
            cases eb
            obtain ⟨a1, xs1, e1, hA1, ra⟩ := E'.lstAt (i := i + 1) (by simpa using h2)
            have e1 : σ[i]? = some (some (.ref a1)) := by simpa using e1
            rw [e0] at e1
            cases e1
            have big : LIM ≤ sizeLine := by decide
            have l1 := ra.length
            have l2 := rb.length
            refine ⟨a0, b, xs1, zs, rfl, rfl, hA1, hB, by omega, ?_⟩
            have E2 := (E'.writeL (i := i + 1) (l' := l ++ m) (by simpa using h2) (by simpa using e0) (ra.append rb)).tail
            exact k σ _ G' g E2
          · cases em
        · cases q
      · cases q
    · cases q
  · cases q⟩
end
end VL

set_option Elab.async false
set_option linter.all false
set_option maxRecDepth 100000
/-! V18: no slot becomes a dict by being read; one operation for all kinds, II. -/
namespace VL
open PySem PySem.Spec PyProof.Rows L2

/-- what an expression leaves in a slot as a dict of its own was one before -/
def FzR (ρ ρ' : List O) : Prop := ∀ (i : Nat) (l : List (D × D)), ρ'[i]? = some (O.dic l) → ρ[i]? = some (O.dic l)
theorem FzR.refl (ρ : List O) : FzR ρ ρ := fun _ _ h => h
theorem FzR.trans {a b c : List O} (x : FzR a b) (y : FzR b c) : FzR a c := fun i l h => x i l (y i l h)
theorem FzR.set {ρ : List O} {i : Nat} {o : O} (h : ∀ l, o ≠ O.dic l) : FzR ρ (ρ.set i o) := fun j l e => by
  by_cases q : i = j
  · subst q
    by_cases hl : i < ρ.length
    · rw [List.getElem?_set_self hl] at e
      exact absurd (Option.some.inj e) (h l)
    · rw [List.getElem?_eq_none (by rw [List.length_set]; omega)] at e
      cases e
  · rw [List.getElem?_set_ne q] at e
    exact e
class Fz (e : Ev) : Prop where
  fz : ∀ ρ z, e ρ = some z → FzR ρ z.2
class FzK (e : Pk) : Prop where
  fz : ∀ ρ z, e ρ = some z → FzR ρ z.2
class FzS (e : Evs) : Prop where
  fz : ∀ ρ z, e ρ = some z → FzR ρ z.2
section
variable {a b e : Ev} {p q r : Pk} {es : Evs}
instance (d : D) : Fz (eC d) := ⟨fun ρ z h => by cases h; exact .refl _⟩
instance (i : Nat) : Fz (eV i) := ⟨fun ρ z h => by
  unfold eV at h
  split at h
  · cases h; exact .refl _
  · cases h; exact .set fun _ q => nomatch q
  · cases h; exact .set fun _ q => nomatch q
  · cases h⟩
instance (i : Nat) : FzK (kP i) := ⟨fun ρ z h => by
  unfold kP at h
  split at h
  · cases h; exact .refl _
  · cases h⟩
instance [Fz a] : FzK (kE a) := ⟨fun ρ z h => by
  obtain ⟨d, h1, _⟩ := kE_some h
  exact Fz.fz (e := a) ρ _ h1⟩
instance {f : D → Option D} [FzK p] : Fz (o1 f p) := ⟨fun ρ z h => by
  obtain ⟨t, d, h1, _⟩ := o1_some h
  exact FzK.fz (e := p) ρ _ h1⟩
instance {f : D → D → Option D} [FzK p] [FzK q] : Fz (o2 f p q) := ⟨fun ρ z h => by
  unfold o2 at h
  split at h
  · rename_i t ρ1 h1
    split at h
    · rename_i u ρ2 h2
      split at h
      · split at h
        · cases h
          exact (FzK.fz (e := p) ρ _ h1).trans (FzK.fz (e := q) ρ1 _ h2)
        · cases h
      · cases h
    · cases h
  · cases h⟩
instance {f : D → D → D → Option D} [FzK p] [FzK q] [FzK r] : Fz (o3 f p q r) := ⟨fun ρ z h => by
  obtain ⟨t, u, v, ρ1, ρ2, x, y, w, h1, h2, h3, _⟩ := o3_some h
  exact ((FzK.fz (e := p) ρ _ h1).trans (FzK.fz (e := q) ρ1 _ h2)).trans (FzK.fz (e := r) ρ2 _ h3)⟩
instance : FzS esNil := ⟨fun ρ z h => by cases h; exact .refl _⟩
instance [Fz a] [FzS es] : FzS (esCons a es) := ⟨fun ρ z h => by
  unfold esCons at h
  split at h
  · rename_i x ρ1 h1
    split at h
    · rename_i xs ρ2 h2
      cases h
      exact (Fz.fz (e := a) ρ (x, ρ1) h1).trans (FzS.fz (e := es) ρ1 (xs, ρ2) h2)
    · cases h
  · cases h⟩
instance [FzS es] : Fz (eTup es) := ⟨fun ρ z h => by
  unfold eTup at h
  split at h
  · rename_i x ρ1 h1
    split at h
    · cases h
      exact FzS.fz (e := es) ρ _ h1
    · cases h
  · cases h⟩
instance [FzS es] : Fz (eLst es) := ⟨fun ρ z h => by
  unfold eLst at h
  split at h
  · rename_i x ρ1 h1
    split at h
    · cases h
      exact FzS.fz (e := es) ρ _ h1
    · cases h
  · cases h⟩
instance {φ : List D → Option D} [FzS es] : Fz (eCall φ es) := ⟨fun ρ z h => by
  obtain ⟨ds, h1, _⟩ := eCall_some h
  exact FzS.fz (e := es) ρ _ h1⟩
instance {f : D → List D → Option D} [FzK p] [FzS es] : Fz (eM f p es) := ⟨fun ρ z h => by
  obtain ⟨t, ρ1, d0, ds, d, h1, h2, h3, _⟩ := eM_some h
  exact (FzK.fz (e := p) ρ _ h1).trans (FzS.fz (e := es) ρ1 _ h3)⟩
theorem fz_tgo {t : Tg} {d : D} {ρ ρ' : List O} (h : tgo t d ρ = some ρ') : FzR ρ ρ' := by
  have key : ∀ (is : List Nat) (ds : List D) (ρ ρ' : List O), setAll is ds ρ = some ρ' → FzR ρ ρ' := by
    intro is
    induction is with
    | nil =>
      intro ds ρ ρ' h
      cases ds with
      | nil => cases h; exact .refl _
      | cons => cases h
    | cons i is ih =>
      intro ds ρ ρ' h
      cases ds with
      | nil => cases h
      | cons d ds => exact (FzR.set (i := i) (o := .val d) fun _ q => nomatch q).trans (ih ds _ _ h)
  cases t with
  | one i => cases h; exact .set fun _ q => nomatch q
  | many is =>
    cases d with
    | tuple ds => exact key is ds ρ ρ' h
    | _ => cases h
theorem fz_wipe (ρ : List O) : ∀ vs : List Nat, FzR ρ (wipeO ρ vs)
  | [] => .refl _
  | v :: vs => (fz_wipe ρ vs).trans (.set fun _ q => nomatch q)
end
/-- turns that are enough where a slot's number falls -/
def muI (i : Nat) : List O → Nat := fun ρ => match ρ[i]? with
  | some (.val (.int n)) => n.toNat + 1
  | _ => 0
/-! ### combined -/
def sInA : D → D → Option D := or2 sIn sDin
def sNinA : D → D → Option D := or2 sNin sDnin
def sIxA : D → D → Option D := or2 sIx sDget
def sLenA : D → Option D := or1 sLen sLenD
def sListA : D → Option D := or1 sListS sListD
section
variable {c : Ct} {X : Cx} {Pr G H : Hp} {σ : L2.St} {ρ ρ' : List O} {pins : List (Addr × Obj)} {s : Shared}
theorem op_inA (C : XC c X) : Op2 c X (compareOp .In) sInA := (op_inV C).or (op_dinV C)
theorem op_ninA (C : XC c X) : Op2 c X (compareOp .NotIn) sNinA := (op_ninV C).or (op_dninV C)
theorem op_lenA (C : XC c X) : Op1 c X (fun v => call (.builtin "len") [v]) sLenA := (op_lenV C).or (op_lenDV C)
theorem IxV.or {f1 f2 : D → D → Option D} (h1 : IxV c X f1) (h2 : IxV c X f2) : IxV c X (or2 f1 f2) := fun value slice pins s σ H G x y v u d e r I hg rx ry t1 t2 q hs => by
  unfold or2 at q
  split at q
  · rename_i z e1
    cases q
    exact h1 value slice pins s σ H G x y v u d e _ I hg rx ry t1 t2 e1 hs
  · exact h2 value slice pins s σ H G x y v u d e r I hg rx ry t1 t2 q hs
theorem ix_A (C : XC c X) : IxV c X sIxA := (ix_seqV C).or (ix_dictV C)
theorem Fp1.or {g : Value → Sem Value} {f1 f2 : D → Option D} (h1 : Fp1 c X g f1) (h2 : Fp1 c X g f2) : Fp1 c X g (or1 f1 f2) := fun pins s σ H G x v d r I hg rx t q => by
  unfold or1 at q
  split at q
  · rename_i z e1
    cases q
    exact h1 pins s σ H G x v d _ I hg rx t e1
  · exact h2 pins s σ H G x v d r I hg rx t q
theorem fp_listA (C : XC c X) : Fp1 c X (fun v => call (.type "list") [v]) sListA := (fp_listV C).or (fp_listDV C)
theorem cs_putF {i : Nat} {x : Str} {xp pos' pos : Pos} {ke e : Expr} {fk fe : Ev} [Fz fk] (C : XC c X) (hk : CE c X ke fk) (he : CE c X e fe) (hN : X.N[i]? = some x := by rfl) (hv : Vis X.env.scope x := by first | exact .inl rfl | exact .inr (.inl rfl) | exact .inr (.inr rfl))
    (hs : swapsWith e (some (.Subscript (.Name x xp) ke pos')) pos.line X.env = pure false := by rfl) (hd : (x == ("__debug__" : Str)) = false := by decide) (hcd : (x == ("__classdict__" : Str)) = false := by decide) :
    CS c X (.Assign [.Subscript (.Name x xp) ke pos'] e pos) (sPut i fk fe) := cs_put C hN hv hk he (fun ρ z h l e => Fz.fz (e := fk) ρ z h i l e) hs hd hcd
end
end VL

set_option Elab.async false
set_option linter.all false
set_option maxRecDepth 100000
/-! V19: enumerate. -/
namespace VL
open PySem PySem.Spec PyProof.Rows L2

section
variable {KF : PySem.W.Frag}
theorem meets_enumerate_newT (l : Addr) (items : Array Value) (n : Nat) (dct : Option Addr) (sl : Array (Option Value)) :
    Meets (Builtin.«enumerate.__new__» ⟨[.type "enumerate", .ref l], []⟩) (fun _ R s => s.heap.get? l = some { cls := .type "tuple", dict := dct, data := .seq items n, slots := sl } ∧
      R (.ok (.ret (.ref (s.heap.push { cls := .type "tuple_iterator", data := .fields #[.ref l, .int 0 0] }).objs.size)))
        { s with heap := (s.heap.push { cls := .type "tuple_iterator", data := .fields #[.ref l, .int 0 0] }).push { cls := .type "enumerate", data := .fields #[.none, .bool false, .ref s.heap.objs.size, rawInt 0, .none, .none] } }) :=
  .of_wp fun prog w A R s h => by
    obtain ⟨hp, g, d, tk, os⟩ := s; obtain ⟨hl, h⟩ := h
    have hsub := sub_enumerate
    have hL : Heap.IsTuple (Shared.heap ⟨hp, g, d, tk, os⟩) l items := ⟨_, hl, rfl, n, rfl⟩
    wp_walk using AutoSeq1.wpAny_loadPart' hl
    refine wpAny_stack_any fun st => wpAny_pure ?_
    split
    · rename_i c _ _ _ _ _
      cases (c == Value.type "enumerate")
      · wp_walk using AutoSeq1.wpAny_loadPart' hl, wpAny_pyIter_tuple hL
        exact ⟨_, rfl, h⟩
      · wp_walk using AutoSeq1.wpAny_loadPart' hl, wpAny_pyIter_tuple hL
        exact ⟨_, rfl, h⟩
    · wp_walk using AutoSeq1.wpAny_loadPart' hl, wpAny_pyIter_tuple hL
      exact ⟨_, rfl, h⟩
theorem call_enumerate_tuple {prog : Program} {w : World} {A : Around} {E : Value → Shared → Prop} {s : Shared} {l : Addr} {items : Array Value} {Q : Value → Shared → Prop} (hL : s.heap.IsTuple l items)
    (h : ∀ h', IsEnum h' (s.heap.objs.size + 1) s.heap.objs.size 0 .none → h'.IsTupleIter s.heap.objs.size l 0 → h'.objs.size = s.heap.objs.size + 2 →
      (∀ b o, s.heap.get? b = some o → h'.get? b = some o) → Q (.ref (s.heap.objs.size + 1)) { s with heap := h' }) :
    wpAny (model prog w) A (call (.type "enumerate") [.ref l]) Q E s := by
  obtain ⟨⟨c, dct, dt, sl⟩, hl, hc, n, hd⟩ := hL
  replace hc : c = .type "tuple" := hc
  replace hd : dt = .seq items n := hd
  subst hc hd
  refine callType_new PySem.F.called_enumerate (by decide) (PySem.F.typeCall_enumerate_1 _) (PySem.F.newCall_enumerate_1 _) (fun obj => PySem.F.args_object_init_2 obj _) PySem.F.entry_enumerate_new
    (meets_enumerate_newT l items n dct sl) ⟨hl, ?_⟩
  have hz : (s.heap.push { cls := .type "tuple_iterator", data := .fields #[.ref l, .int 0 0] }).objs.size = s.heap.objs.size + 1 := Heap.size_push ..
  show _ ∧ _
  rw [hz]
  have he : IsEnum ((s.heap.push { cls := .type "tuple_iterator", data := .fields #[.ref l, .int 0 0] }).push
      { cls := .type "enumerate", data := .fields #[.none, .bool false, .ref s.heap.objs.size, rawInt 0, .none, .none] }) (s.heap.objs.size + 1) s.heap.objs.size 0 .none := by
    have := Heap.get?_push_size (s.heap.push { cls := .type "tuple_iterator", data := .fields #[.ref l, .int 0 0] })
      (o := { cls := .type "enumerate", data := .fields #[.none, .bool false, .ref s.heap.objs.size, rawInt 0, .none, .none] }) rfl
    rw [hz] at this; exact this
  refine ⟨⟨_, he, rfl⟩, h _ he ⟨_, Heap.get?_push_of_some _ (Heap.get?_push_size _ rfl), rfl, rfl⟩ (by rw [Heap.size_push, hz]) fun b o x => Heap.get?_push_of_some _ (Heap.get?_push_of_some _ x)⟩

/-- enumerate(list): each item in a new pair -/
def ItEL (a : Addr) (xs : List V) : It :=
  ⟨fun i H => SqL KF H a xs ∧ i < xs.length, fun i H v H' => ∃ T o x, v = .ref T ∧ H T = none ∧ o.dict = none ∧ H' = upd H T (.frz o (.tup [.int (i : Nat), x])) ∧ xs[i]? = some x, fun i H => SqL KF H a xs ∧ xs.length = i⟩
theorem turn_enumL {P : Program} {w : World} {K : PySem.W.Frag} {elts : List Expr} {kk : Nat} {tpos : Pos} (a e it : Addr) (xs : List V) (hit : a ≠ it) :
    Turn P w K (.Tuple elts kk tpos) (ItEL (KF := K) a xs) [e, it] e (fun i h => (∃ old, IsEnum h e it ((i : Nat) : Int) old) ∧ h.IsListIter it a i ∧ e ≠ it ∧ e ≠ a) where
  mem := by simp
  obj := fun i h st b hb => by
    obtain ⟨⟨old, he⟩, ⟨o, ho, hc, hd⟩, _⟩ := st
    have e' : b = e ∨ b = it := by simpa using hb
    rcases e' with z | z
    · rw [z]; exact ⟨_, he, fun v q => nomatch q⟩
    · rw [z]; exact ⟨o, ho, fun v q => by rw [hd] at q; cases q⟩
  keep := fun i h h' st k => let ⟨⟨old, he⟩, hi, hne⟩ := st; ⟨⟨old, k e (by simp) _ he⟩, hi.at fun o q => k it (by simp) o q, hne⟩
  item := by
    intro X hP hw hK hc i pins s σ H E I hf st hg
    subst hP hw hK
    obtain ⟨⟨old, he⟩, hti, hne, hea⟩ := st
    obtain ⟨hq, hi⟩ := hg
    obtain ⟨its, rv, p, hz⟩ := I.list hq
    have hx : xs[i]? = some xs[i] := by simp [hi]
    obtain ⟨u, hu, ru⟩ := rv.get hx
    have hl := rv.length
    have hel : e < s.heap.objs.size := Heap.lt_size he
    have hil : it < s.heap.objs.size := by obtain ⟨_, q, _⟩ := hti; exact Heap.lt_size q
    have hh : X.A.in1.handled = none := I.ok.hd hc
    refine wpAny_pyNext_enum_itemD (Draws.list hh it a hit its.toArray) he ⟨hti, p.isList⟩ (by simp; omega) hne (fun q => by
      rcases List.mem_cons.mp q with z | q
      · exact hne z
      · exact hea (List.mem_singleton.mp q)) fun x h' tk hPx ho hit' hT hsz hk => ?_
    have ex : x = u := by
      have h1 : its[i]? = some x := by simpa using hPx
      rw [hu] at h1
      exact (Option.some.inj h1).symm
    subst ex
    refine ⟨_, rfl, wpAny_letOwnedTupleGo_enum (s := { s with heap := h', toks := tk + 1 }) ho fun h'' he' sb => ?_⟩
    have hT2 : h''.get? s.heap.objs.size = some { cls := .type "tuple", data := .seq #[.int i tk, x] } := (sb.2 _ (Nat.ne_of_gt hel)).trans hT
    have new : ObjOk X.prog X.w (upd H s.heap.objs.size (.frz { cls := .type "tuple", data := .seq #[.int i tk, x] } (.tup [.int (i : Nat), xs[i]]))) h'' s.heap.objs.size (.frz { cls := .type "tuple", data := .seq #[.int i tk, x] } (.tup [.int (i : Nat), xs[i]])) :=
      ⟨hT2, by show 2 ≤ sizeLine; decide, [.int i tk, x], .cons ⟨_, rfl⟩ (.cons ru .nil), ⟨_, hT2, rfl, _, rfl⟩⟩
    have I1 : Inv X pins σ (upd H s.heap.objs.size (.frz { cls := .type "tuple", data := .seq #[.int i tk, x] } (.tup [.int (i : Nat), xs[i]]))) { s with heap := h'', toks := tk + 1 } :=
      I.turnedNew (ch := [e, it]) (fun b ob hb q => (sb.2 b (fun z => hb (by simp [z]))).trans (hk b ob (fun z => hb (by simp [z])) (fun z => hb (by simp [z])) q)) hf (Nat.le_refl _) new
    refine ⟨.ref s.heap.objs.size, _, I1, rfl, ⟨_, _, xs[i], rfl, I.hok.fresh (Nat.le_refl _), rfl, rfl, hx⟩, ⟨⟨x, ?_⟩, hit'.1.at fun o q => (sb.2 it (Ne.symm hne)).trans q, hne, hea⟩, fun b hb => ?_⟩
    · have e1 : ((i + 1 : Nat) : Int) = (i : Int) + 1 := by omega
      rw [e1]; exact he'
    · have hb' : b < s.heap.objs.size := by
        have e' : b = e ∨ b = it := by simpa using hb
        rcases e' with z | z
        · rw [z]; exact hel
        · rw [z]; exact hil
      rw [upd_ne (Nat.ne_of_lt hb')]
      exact (hf b hb).1
  done := by
    intro X hP hw hK hc i pins s σ H E I hf st hg
    subst hP hw hK
    obtain ⟨⟨old, he⟩, hti, hne, hea⟩ := st
    obtain ⟨hq, hx⟩ := hg
    obtain ⟨its, rv, p, hz⟩ := I.list hq
    obtain ⟨f0, f1, f2, f3, f4, f5⟩ := hf it (by simp)
    have hl := rv.length
    have hh : X.A.handled = none := I.ok.hd hc
    exact wpAny_pyNext_enum_end hh he hti p.isList (by simp; omega) fun h' eb => ⟨rfl, I.turned (t' := s.toks) (fun b o hb q => eb b o hb q) f0 f1 f3 f4 f5⟩
  self := fun A i s Q E st h => let ⟨⟨_, he⟩, _⟩ := st; wpAny_pyIter_enum he h

/-- enumerate(tuple): each item in a new pair -/
def ItET (a : Addr) (xs : List V) : It :=
  ⟨fun i H => SqT KF H a xs ∧ i < xs.length, fun i H v H' => ∃ T o x, v = .ref T ∧ H T = none ∧ o.dict = none ∧ H' = upd H T (.frz o (.tup [.int (i : Nat), x])) ∧ xs[i]? = some x, fun i H => SqT KF H a xs ∧ xs.length = i⟩
theorem turn_enumT {P : Program} {w : World} {K : PySem.W.Frag} {elts : List Expr} {kk : Nat} {tpos : Pos} (a e it : Addr) (xs : List V) (hit : a ≠ it) :
    Turn P w K (.Tuple elts kk tpos) (ItET (KF := K) a xs) [e, it] e (fun i h => (∃ old, IsEnum h e it ((i : Nat) : Int) old) ∧ h.IsTupleIter it a i ∧ e ≠ it ∧ e ≠ a) where
  mem := by simp
  obj := fun i h st b hb => by
    obtain ⟨⟨old, he⟩, ⟨o, ho, hc, hd⟩, _⟩ := st
    have e' : b = e ∨ b = it := by simpa using hb
    rcases e' with z | z
    · rw [z]; exact ⟨_, he, fun v q => nomatch q⟩
    · rw [z]; exact ⟨o, ho, fun v q => by rw [hd] at q; cases q⟩
  keep := fun i h h' st k => let ⟨⟨old, he⟩, hi, hne⟩ := st; ⟨⟨old, k e (by simp) _ he⟩, hi.at fun o q => k it (by simp) o q, hne⟩
  item := by
    intro X hP hw hK hc i pins s σ H E I hf st hg
    subst hP hw hK
    obtain ⟨⟨old, he⟩, hti, hne, hea⟩ := st
    obtain ⟨hq, hi⟩ := hg
    obtain ⟨its, rv, p, hz⟩ := I.tuple hq
    have hx : xs[i]? = some xs[i] := by simp [hi]
    obtain ⟨u, hu, ru⟩ := rv.get hx
    have hl := rv.length
    have hel : e < s.heap.objs.size := Heap.lt_size he
    have hil : it < s.heap.objs.size := by obtain ⟨_, q, _⟩ := hti; exact Heap.lt_size q
    have hh : X.A.in1.handled = none := I.ok.hd hc
    refine wpAny_pyNext_enum_itemD (Draws.tuple hh it a hit its.toArray) he ⟨hti, p⟩ (by simp; omega) hne (fun q => by
      rcases List.mem_cons.mp q with z | q
      · exact hne z
      · exact hea (List.mem_singleton.mp q)) fun x h' tk hPx ho hit' hT hsz hk => ?_
    have ex : x = u := by
      have h1 : its[i]? = some x := by simpa using hPx
      rw [hu] at h1
      exact (Option.some.inj h1).symm
    subst ex
    refine ⟨_, rfl, wpAny_letOwnedTupleGo_enum (s := { s with heap := h', toks := tk + 1 }) ho fun h'' he' sb => ?_⟩
    have hT2 : h''.get? s.heap.objs.size = some { cls := .type "tuple", data := .seq #[.int i tk, x] } := (sb.2 _ (Nat.ne_of_gt hel)).trans hT
    have new : ObjOk X.prog X.w (upd H s.heap.objs.size (.frz { cls := .type "tuple", data := .seq #[.int i tk, x] } (.tup [.int (i : Nat), xs[i]]))) h'' s.heap.objs.size (.frz { cls := .type "tuple", data := .seq #[.int i tk, x] } (.tup [.int (i : Nat), xs[i]])) :=
      ⟨hT2, by show 2 ≤ sizeLine; decide, [.int i tk, x], .cons ⟨_, rfl⟩ (.cons ru .nil), ⟨_, hT2, rfl, _, rfl⟩⟩
    have I1 : Inv X pins σ (upd H s.heap.objs.size (.frz { cls := .type "tuple", data := .seq #[.int i tk, x] } (.tup [.int (i : Nat), xs[i]]))) { s with heap := h'', toks := tk + 1 } :=
      I.turnedNew (ch := [e, it]) (fun b ob hb q => (sb.2 b (fun z => hb (by simp [z]))).trans (hk b ob (fun z => hb (by simp [z])) (fun z => hb (by simp [z])) q)) hf (Nat.le_refl _) new
    refine ⟨.ref s.heap.objs.size, _, I1, rfl, ⟨_, _, xs[i], rfl, I.hok.fresh (Nat.le_refl _), rfl, rfl, hx⟩, ⟨⟨x, ?_⟩, hit'.1.at fun o q => (sb.2 it (Ne.symm hne)).trans q, hne, hea⟩, fun b hb => ?_⟩
    · have e1 : ((i + 1 : Nat) : Int) = (i : Int) + 1 := by omega
      rw [e1]; exact he'
    · have hb' : b < s.heap.objs.size := by
        have e' : b = e ∨ b = it := by simpa using hb
        rcases e' with z | z
        · rw [z]; exact hel
        · rw [z]; exact hil
      rw [upd_ne (Nat.ne_of_lt hb')]
      exact (hf b hb).1
  done := by
    intro X hP hw hK hc i pins s σ H E I hf st hg
    subst hP hw hK
    obtain ⟨⟨old, he⟩, hti, hne, hea⟩ := st
    obtain ⟨hq, hx⟩ := hg
    obtain ⟨its, rv, p, hz⟩ := I.tuple hq
    obtain ⟨f0, f1, f2, f3, f4, f5⟩ := hf it (by simp)
    have hl := rv.length
    have hh : X.A.handled = none := I.ok.hd hc
    exact (by
      have e3 : its.toArray.size = i := by simp; omega
      subst e3
      exact wpAny_pyNext_enum_endD (Draws.tuple (show X.A.in1.handled = none from hh) it a hit its.toArray) he ⟨hti, p⟩ fun h' eb => ⟨rfl, I.turned (t' := s.toks) (fun b o hb q => eb b o hb q) f0 f1 f3 f4 f5⟩)
  self := fun A i s Q E st h => let ⟨⟨_, he⟩, _⟩ := st; wpAny_pyIter_enum he h
end
theorem pair_rp {c : Ct} {G H : Hp} {T : Addr} {o : Obj} {i : Nat} {x : V} {d : D} (g : Ge G H) (n : H T = none) (ho : o.dict = none) (r : Rp c G x d) : ∃ G', Gr G H G' (upd H T (.frz o (.tup [.int (i : Nat), x]))) ∧ Rp c G' (.ref T) (.tuple [.int (i : Nat), d]) := by
  have gr := Gr.laid (o := .frz o (.tup [.int (i : Nat), x])) g n
  exact ⟨_, gr, .tup upd_same ho (.cons (.int _) (.cons (r.mono gr.ge) .nil))⟩
/-- the items with their places -/
def numb (l : List D) : List D := (List.range l.length).map fun (i : Nat) => .tuple [.int (i : Int), l.getD i .none]
def iEnum (a : Ev) : Iv := fun ρ => match a ρ with
  | some (.list l, ρ1) => some (numb l, ρ1)
  | some (.tuple l, ρ1) => some (numb l, ρ1)
  | _ => none
theorem numb_at {l : List D} {i : Nat} {d : D} (h : (numb l)[i]? = some d) : ∃ x, l[i]? = some x ∧ d = .tuple [.int (i : Int), x] := by
  unfold numb at h
  rw [List.getElem?_map] at h
  by_cases hi : i < l.length
  · rw [List.getElem?_range hi] at h
    refine ⟨l[i], by simp [hi], ?_⟩
    have := (Option.some.inj h).symm
    simpa [hi] using this
  · rw [List.getElem?_eq_none (by simpa using hi)] at h
    cases h
theorem ci_enum {c : Ct} {X : Cx} {e : Expr} {f : Ev} {p pos tpos : Pos} {elts : List Expr} {kk : Nat} (C : XC c X) (hg : Gl X "enumerate") (h : CE c X e f) (hs : starEach [e] X.env = [(false, eval e X.env)] := by rfl) :
    CI c X (.Tuple elts kk tpos) (.Call (.Name "enumerate" p) [e] [] pos) (iEnum f) := by
  refine ⟨fun pins s σ H R I ⟨Pr, G, ρ, xs, ρ', E, q, k⟩ => ?_⟩
  refine Call_ (ld_blt I hg (C.blt _ (by decide)) boot_enumerate (PyProof.Rows.callWith_type1 (spl1 (t := pure .none) hs ?_) hs rfl))
  have hlen : ∀ l : List D, (numb l).length = l.length := fun l => by simp [numb]
  unfold iEnum at q
  split at q
  · rename_i l ρ1 hf
    cases q
    refine thn (h pins s σ H Pr G ρ ρ' _ I E hf) fun v s1 ⟨x, H1, I1, r1, G1, g1, E1, q1⟩ => ?_
    cases q1 with
    | @lst a vs _ sq ra =>
      cases r1
      have sq' : SqL X.K H1 a vs := by rw [C.K]; exact Ge.sqL E1.gh sq
      obtain ⟨its, rv, p', hz⟩ := I1.list sq'
      have hal : a < s1.heap.objs.size := let ⟨_, ho, _⟩ := p'.isList; Heap.lt_size ho
      refine call_enumerate_list p'.isList fun h' he hit hsz hk => wpAny_pyIter_enum he ?_
      have I2 : Inv X pins σ H1 { s1 with heap := h' } := I1.kept (t' := s1.toks) hk
      refine ⟨s1.heap.objs.size + 1, [s1.heap.objs.size + 1, s1.heap.objs.size], _, _, H1, rfl, I2, turn_enumL a (s1.heap.objs.size + 1) s1.heap.objs.size vs (Nat.ne_of_lt hal), ⟨⟨.none, he⟩, hit, Nat.succ_ne_self _, Nat.ne_of_gt (Nat.lt_succ_of_lt hal)⟩, fun b hb => ?_, k _ G1 H1 g1 E1 ⟨by rw [hlen, ← ra.length]; exact hz, fun G3 H3 g3 gh i d hd => ?_, fun G3 H3 g3 gh => ⟨by rw [C.K]; exact Ge.sqL (g3.trans gh) sq, by rw [hlen, ra.length]⟩⟩⟩
      · have e' : b = s1.heap.objs.size + 1 ∨ b = s1.heap.objs.size := by simpa using hb
        have hle : s1.heap.objs.size ≤ b := by
          rcases e' with z | z
          · rw [z]; exact Nat.le_add_right _ _
          · rw [z]; exact Nat.le_refl _
        exact I1.fpOk hle (I1.hok.fresh hle)
      · obtain ⟨x, hx, rfl⟩ := numb_at hd
        obtain ⟨v, hv, rv⟩ := ra.get hx
        refine ⟨⟨by rw [C.K]; exact Ge.sqL (g3.trans gh) sq, (List.getElem?_eq_some_iff.mp hv).1⟩, fun x' H' ⟨T, o, y, e1, n, ho, e2, hy⟩ => ?_⟩
        subst e1 e2
        rw [hv] at hy
        cases hy
        exact pair_rp gh n ho (rv.mono g3)
  · rename_i l ρ1 hf
    cases q
    refine thn (h pins s σ H Pr G ρ ρ' _ I E hf) fun v s1 ⟨x, H1, I1, r1, G1, g1, E1, q1⟩ => ?_
    cases q1 with
    | @tup a o vs _ sq0 nd ra =>
      cases r1
      have sq : SqT c.K G1 a vs := .inl (.inr ⟨o, sq0⟩)
      have sq' : SqT X.K H1 a vs := by rw [C.K]; exact Ge.sqT E1.gh sq
      obtain ⟨its, rv, p', hz⟩ := I1.tuple sq'
      have hal : a < s1.heap.objs.size := let ⟨_, ho, _⟩ := p'; Heap.lt_size ho
      refine call_enumerate_tuple p' fun h' he hit hsz hk => wpAny_pyIter_enum he ?_
      have I2 : Inv X pins σ H1 { s1 with heap := h' } := I1.kept (t' := s1.toks) hk
      refine ⟨s1.heap.objs.size + 1, [s1.heap.objs.size + 1, s1.heap.objs.size], _, _, H1, rfl, I2, turn_enumT a (s1.heap.objs.size + 1) s1.heap.objs.size vs (Nat.ne_of_lt hal), ⟨⟨.none, he⟩, hit, Nat.succ_ne_self _, Nat.ne_of_gt (Nat.lt_succ_of_lt hal)⟩, fun b hb => ?_, k _ G1 H1 g1 E1 ⟨by rw [hlen, ← ra.length]; exact hz, fun G3 H3 g3 gh i d hd => ?_, fun G3 H3 g3 gh => ⟨by rw [C.K]; exact Ge.sqT (g3.trans gh) sq, by rw [hlen, ra.length]⟩⟩⟩
      · have e' : b = s1.heap.objs.size + 1 ∨ b = s1.heap.objs.size := by simpa using hb
        have hle : s1.heap.objs.size ≤ b := by
          rcases e' with z | z
          · rw [z]; exact Nat.le_add_right _ _
          · rw [z]; exact Nat.le_refl _
        exact I1.fpOk hle (I1.hok.fresh hle)
      · obtain ⟨x, hx, rfl⟩ := numb_at hd
        obtain ⟨v, hv, rv⟩ := ra.get hx
        refine ⟨⟨by rw [C.K]; exact Ge.sqT (g3.trans gh) sq, (List.getElem?_eq_some_iff.mp hv).1⟩, fun x' H' ⟨T, o, y, e1, n, ho, e2, hy⟩ => ?_⟩
        subst e1 e2
        rw [hv] at hy
        cases hy
        exact pair_rp gh n ho (rv.mono g3)
  · cases q
end VL

set_option Elab.async false
set_option linter.all false
set_option maxRecDepth 100000
/-! V20: the items of a dict: walked, sorted. -/
namespace VL
open PySem PySem.Spec PyProof.Rows L2 PySem.W

def prs (l : List (D × D)) : List D := l.map fun p => .tuple [p.1, p.2]
section
variable {c : Ct} {X : Cx} {Pr G H : Hp} {σ : L2.St} {ρ ρ' : List O} {pins : List (Addr × Obj)} {s : Shared}
/-- new pairs that lie there are tracked -/
theorem take_pairs {s0 : Shared} {H0 : Hp} (I0 : Inv X pins σ H0 s0) : ∀ (as : List Addr) (es : List DictEntry) {hs : List Int} {xs ys : List V} {l : List (D × D)} {G H : Hp} {s : Shared}, Inv X pins σ H s → Ge G H → as.Nodup → (∀ a ∈ as, s0.heap.objs.size ≤ a ∧ H a = none) →
    (∀ (j : Nat) (a : Addr), as[j]? = some a → ∃ e, es[j]? = some e ∧ s.heap.get? a = some { cls := .type "tuple", data := .seq #[e.key, e.val] }) → as.length = es.length → Ent es hs xs ys → RpA c G xs (l.map (·.1)) → RpA c G ys (l.map (·.2)) →
    ∃ G' H', Gr G H G' H' ∧ Inv X pins σ H' s ∧ RpA c G' (as.map V.ref) (prs l)
  | [], es, hs, xs, ys, l, G, H, s, I, g, nd, fr, hp, hl, he, r1, r2 => by
    have e0 : es = [] := List.length_eq_zero_iff.mp hl.symm
    subst e0
    cases he
    cases l with
    | nil => exact ⟨G, H, Gr.refl g, I, .nil⟩
    | cons p l => cases r1
  | a :: as, es, hs, xs, ys, l, G, H, s, I, g, nd, fr, hp, hl, he, r1, r2 => by
    cases he with
    | nil => simp at hl
    | @cons e es h hs x y xs ys f1 f2 f3 f4 =>
      cases l with
      | nil => cases r1
      | cons p l =>
        cases r1 with
        | cons q1 r1 =>
          cases r2 with
          | cons q2 r2 =>
            obtain ⟨e', z1, z2⟩ := hp 0 a rfl
            have z1 := Option.some.inj z1
            subst z1
            obtain ⟨hsz, hn⟩ := fr a List.mem_cons_self
            obtain ⟨nd1, nd2⟩ := List.nodup_cons.mp nd
            have new : ObjOk X.prog X.w (upd H a (.frz { cls := .type "tuple", data := .seq #[e.key, e.val] } (.tup [x, y]))) s.heap a (.frz { cls := .type "tuple", data := .seq #[e.key, e.val] } (.tup [x, y])) :=
              ⟨z2, by show 2 ≤ sizeLine; decide, [e.key, e.val], .cons f2 (.cons f3 .nil), ⟨_, z2, rfl, _, rfl⟩⟩
            have gr := Gr.laid (o := .frz { cls := .type "tuple", data := .seq #[e.key, e.val] } (.tup [x, y])) g hn
            have I1 : Inv X pins σ (upd H a (.frz { cls := .type "tuple", data := .seq #[e.key, e.val] } (.tup [x, y]))) s := by
              have := I.take (h' := s.heap) (t' := s.toks) (fun b ob _ e => e) (I0.fpOk hsz hn) new
              exact this
            obtain ⟨G', H', gr', I', ra⟩ := take_pairs I0 as es (l := l) I1 gr.gh nd2 (fun b hb => ⟨(fr b (List.mem_cons_of_mem _ hb)).1, by
              rw [upd_ne fun e => nd1 (by rw [← e]; exact hb)]
              exact (fr b (List.mem_cons_of_mem _ hb)).2⟩) (fun j b hj => hp (j + 1) b hj) (by simpa using hl) f4 (r1.mono gr.ge) (r2.mono gr.ge)
            refine ⟨G', H', gr.trans gr', I', .cons (.tup (gr'.ge _ _ upd_same) rfl (.cons (q1.mono (gr.ge.trans gr'.ge)) (.cons (q2.mono (gr.ge.trans gr'.ge)) .nil))) ra⟩
theorem nodup_rise {as : List Addr} (h : as.Pairwise (· < ·)) : as.Nodup := h.imp fun h => Nat.ne_of_lt h

/-! ### sorted(d.items()) -/
def sSortedIt : D → Option D
  | .dict l => if sortable (prs l) then some (.list (isort (prs l))) else none
  | _ => none
theorem prs_len (l : List (D × D)) : (prs l).length = l.length := by simp [prs]
theorem cf_sortedIt {o : Expr} {p : Pk} {pn apos cpos pos : Pos} (C : XC c X) (hg : Gl X "sorted") (ho : CK c X o p)
    (hbase : attributeBase o "items" X.env (eval o X.env) = eval o X.env := by rfl) (hline : (apos.endLine == cpos.line) = true := by rfl)
    (hs : starEach [.Call (.Attribute o "items" apos) [] [] cpos] X.env = [(false, eval (.Call (.Attribute o "items" apos) [] [] cpos) X.env)] := by rfl) :
    CF c X (.Call (.Name "sorted" pn) [.Call (.Attribute o "items" apos) [] [] cpos] [] pos) (o1 sSortedIt p) := by
  intro pins s σ H Pr G ρ ρ' d I E h
  refine wpAny_Call_Name_kw (ld_blt I hg (C.blt _ (by decide)) (by decide +kernel : bootBuiltins "sorted" = some (.builtin "sorted")) ?_)
  refine PyProof.Rows.callWith_builtin1 (spl1 (t := pure .none) hs ?_) hs rfl
  refine wpAny_Call_method0_late hbase hline (k1 ho I E h fun v s2 y G2 H2 d1 I2 g E2 r1 t1 e => ?_)
  cases d1 with
  | dict l =>
    have e : (if sortable (prs l) = true then some (PyData.list (isort (prs l))) else none) = some d := e
    by_cases hsb : sortable (prs l) = true
    · rw [if_pos hsb] at e
      cases e
      obtain ⟨a, ep, hs', xs, ys, rfl, hH, h2, h3, h4, h5⟩ := rpt_dict t1 E2.gh
      obtain ⟨⟨lo, hz, es, hraw, he⟩, _⟩ := I2.hok _ _ hH
      cases r1
      have hu := C.hu
      have hsz : es.size = l.length := by
        have z1 : es.size = xs.length := by simpa using he.len.1
        have z2 := h4.length
        rw [List.length_map] at z2
        omega
      have hn : es.size ≤ sizeLine := by rw [h2, List.length_map] at hz; omega
      have lt : a < s2.heap.objs.size := let ⟨_, hq, _⟩ := hraw; Heap.lt_size hq
      obtain ⟨ob, hob, hx, hdat⟩ := hraw
      refine ⟨"dict", "dict.items", PySem.F.plainAttrs_dict, PySem.F.slot_dict_items, PySem.F.type_dict_items, ⟨ob, hob, hx.1⟩, fun b eb => by cases eb; exact ⟨ob, hob, hx.2.1⟩, ?_⟩
      refine Calls.callWith_builtin rfl (PySem.evalArgs_none (call_meetsIn PySem.F.slot_dict_items ⟨ob, hob, hx.1⟩ PySem.F.entry_dict_items (PySem.F.args_dict_items_1 _) (meets_dict_items_raw a lo) ⟨⟨es, ep, ob, hob, hx, hdat⟩, ?_⟩))
      have I3 : Inv X pins σ H2 { s2 with heap := s2.heap.push { cls := .type "dict_items", data := .fields #[.ref a] } } := I2.kept (t' := s2.toks) fun b o e => Heap.get?_push_of_some _ e
      obtain ⟨a1, a2, a3, a4⟩ := alike_of hsb
      have big : LIM ≤ sizeLine := by decide
      refine sorted_shell (s := { s2 with heap := s2.heap.push { cls := .type "dict_items", data := .fields #[.ref a] } }) (ds := prs l) (C := fun R h1 => ∃ G3 H3 tk, Gr G2 H2 G3 H3 ∧ Inv X pins σ H3 { s2 with heap := h1, toks := tk } ∧ R = fun v d => ∃ x, RelV x v ∧ Rp c G3 x d) (fun E' => ?_) a1 a2 (by omega) (fun d hd => by have h9 : d.depth ≤ 60 := a4 d hd; omega) (fun h1 h' tk p out n R hR k1 k2 hp hpo hl eo => ?_)
      · refine dil_collect (I2.ok.hd C.calm) (es := es) (ep := ep) (d := a) ⟨_, Heap.get?_push_size _ rfl, rfl, rfl⟩ ⟨ob, Heap.get?_push_of_some _ hob, hx, hdat⟩ hn fun h' tk as hk hl hG => ?_
        have I4 : Inv X pins σ H2 { s2 with heap := h', toks := tk } := I3.kept (t' := tk) hk
        obtain ⟨G3, H3, gr, I5, ra⟩ := take_pairs I2 as es.toList (l := l) I4 E2.gh (nodup_rise hG.rise) (fun b hb => by
            have hb1 : s2.heap.objs.size ≤ b := by
              have q1 := hG.above b hb
              have q2 : (s2.heap.push { cls := .type "dict_items", data := .fields #[.ref a] }).objs.size = s2.heap.objs.size + 1 := Heap.size_push ..
              have q3 : (s2.heap.push { cls := .type "dict_items", data := .fields #[.ref a] }).objs.size < b := q1
              omega
            exact ⟨hb1, I2.hok.fresh hb1⟩) (fun j b hj => by
            obtain ⟨hj2, q⟩ := hG.pairs j b hj
            exact ⟨es[j], by simp [hj2], q⟩) (by simpa using hl) he h4 h5
        have rv : Vals (as.map V.ref) (as.map Value.ref) := by
          clear ra hG hl
          induction as with
          | nil => exact .nil
          | cons b as ih => exact .cons rfl ih
        refine ⟨h', tk, _, rfl, hk, rp_each rv ra, ?_, G3, H3, tk, gr, I5, rfl⟩
        obtain ⟨bs, hr⟩ := Dp.readsAll I5 _ (as.map V.ref) (as.map Value.ref) (by rw [C.K]; exact ra.dp gr.gh (allAlike_plain a1)) rv
        refine readsAll_each (id : D → D) (as := bs) ?_
        rw [List.map_id]
        exact hr
      · obtain ⟨G3, H3, tk3, gr, I5, rfl⟩ := hR
        rw [← isort_eq] at eo
        obtain ⟨zs, rzs, qs⟩ := each_rp eo
        have hsz2 : zs.length ≤ sizeLine := by
          rw [qs.length, (isort_perm (prs l)).length_eq]
          omega
        have n0 : H3 p = none := I5.hok.fresh hp
        refine ⟨.ref p, upd H3 p (.lst zs), I5.laid (o := .lst zs) (t' := tk) k2 hp ⟨hsz2, out, n, rzs, hpo⟩, rfl, ?_⟩
        exact PostF.of g E2 ⟨G3, H3, p, zs, _, gr, rfl, n0, rfl, rfl, qs⟩
    · rw [if_neg hsb] at e
      cases e
  | _ => cases e

/-! ### for a, b in d.items() -/
def iItems (a : Ev) : Iv := fun ρ => match a ρ with
  | some (.dict l, ρ1) => some (prs l, ρ1)
  | _ => none
def ItI (a : Addr) (ep : Nat) (hs : List Int) (xs ys : List V) : It :=
  ⟨fun i H => H a = some (dO a ep hs xs ys) ∧ i < xs.length, fun i H v H' => ∃ T o x y, v = .ref T ∧ H T = none ∧ o.dict = none ∧ H' = upd H T (.frz o (.tup [x, y])) ∧ xs[i]? = some x ∧ ys[i]? = some y, fun i H => H a = some (dO a ep hs xs ys) ∧ xs.length ≤ i⟩
theorem turn_itemsI {P : Program} {w : World} {K : PySem.W.Frag} {elts : List Expr} {kk : Nat} {tpos : Pos} (a it : Addr) (hne : a ≠ it) (ep : Nat) (hs : List Int) (xs ys : List V) :
    Turn P w K (.Tuple elts kk tpos) (ItI a ep hs xs ys) [it] it (fun i h => ∃ ok ov, IsItemIter h it a i xs.length ep ok ov) where
  mem := by simp
  obj := fun i h st b hb => by
    have e : b = it := by simpa using hb
    subst e
    obtain ⟨ok, ov, e⟩ := st
    exact ⟨_, e, fun v z => by cases z⟩
  keep := fun i h h' st k => let ⟨ok, ov, e⟩ := st; ⟨ok, ov, k it (by simp) _ e⟩
  item := by
    intro X hP hw hK hc i pins s σ H E I hf st hg
    subst hP hw hK
    obtain ⟨hH, hi⟩ := hg
    obtain ⟨ok, ov, hit⟩ := st
    obtain ⟨⟨lo, hz, es, hraw, he⟩, _⟩ := I.hok _ _ hH
    obtain ⟨v1, v2, v3⟩ := he.keys
    have hl := he.len
    have hsz : es.size = xs.length := by simpa using hl.1
    have hi2 : i < es.size := by omega
    have hilt : it < s.heap.objs.size := Heap.lt_size hit
    rw [← hsz] at hit
    refine wpAny_pyNext_items_item_raw hit hraw hi2 fun h' hit' hT hz' hk => ?_
    refine ⟨_, rfl, wpAny_letOwnedTupleGo_items hit' fun h'' hit'' sb => ?_⟩
    have hx : xs[i]? = some xs[i] := by simp [hi]
    have hi3 : i < ys.length := by omega
    have hy : ys[i]? = some ys[i] := by simp [hi3]
    obtain ⟨u, hu, ru⟩ := v1.get hx
    obtain ⟨u2, hu2, ru2⟩ := v2.get hy
    have eu : u = es[i].key := by
      rw [List.getElem?_map, Array.getElem?_toList] at hu
      simp [hi2] at hu
      exact hu.symm
    have eu2 : u2 = es[i].val := by
      rw [List.getElem?_map, Array.getElem?_toList] at hu2
      simp [hi2] at hu2
      exact hu2.symm
    subst eu eu2
    have hT2 : h''.get? s.heap.objs.size = some { cls := .type "tuple", data := .seq #[es[i].key, es[i].val] } := (sb.2 _ (Nat.ne_of_gt hilt)).trans hT
    have new : ObjOk X.prog X.w (upd H s.heap.objs.size (.frz { cls := .type "tuple", data := .seq #[es[i].key, es[i].val] } (.tup [xs[i], ys[i]]))) h'' s.heap.objs.size (.frz { cls := .type "tuple", data := .seq #[es[i].key, es[i].val] } (.tup [xs[i], ys[i]])) :=
      ⟨hT2, by show 2 ≤ sizeLine; decide, [es[i].key, es[i].val], .cons ru (.cons ru2 .nil), ⟨_, hT2, rfl, _, rfl⟩⟩
    have I1 : Inv X pins σ (upd H s.heap.objs.size (.frz { cls := .type "tuple", data := .seq #[es[i].key, es[i].val] } (.tup [xs[i], ys[i]]))) { s with heap := h'' } :=
      I.turnedNew (t' := s.toks) (ch := [it]) (fun b ob hb q => (sb.2 b (fun z => hb (by simp [z]))).trans (hk b ob (fun z => hb (by simp [z])) q)) hf (Nat.le_refl _) new
    refine ⟨.ref s.heap.objs.size, _, I1, rfl, ⟨_, _, xs[i], ys[i], rfl, I.hok.fresh (Nat.le_refl _), rfl, rfl, hx, hy⟩, ⟨_, _, by rw [← hsz]; exact hit''⟩, fun b hb => ?_⟩
    have e : b = it := by simpa using hb
    rw [e, upd_ne (Nat.ne_of_lt hilt)]
    exact (hf it (by simp)).1
  done := by
    intro X hP hw hK hc i pins s σ H E I hf st hg
    subst hP hw hK
    obtain ⟨hH, hi⟩ := hg
    obtain ⟨ok, ov, hit⟩ := st
    obtain ⟨⟨lo, hz, es, hraw, he⟩, _⟩ := I.hok _ _ hH
    have hsz : es.size = xs.length := by simpa using he.len.1
    obtain ⟨f0, f1, f2, f3, f4, f5⟩ := hf it (by simp)
    rw [← hsz] at hit
    exact wpAny_pyNext_items_end_raw (I.ok.hd hc) hit hraw (by omega) fun h' eb => ⟨rfl, I.turned (t' := s.toks) (fun b o hb e => eb b o hb e) f0 f1 f3 f4 f5⟩
  self := fun _ _ _ _ _ st h => let ⟨_, _, e⟩ := st; wpAny_pyIter_itemiter e h
theorem pair_rp2 {T : Addr} {o : Obj} {x y : V} {d e : D} (g : Ge G H) (n : H T = none) (ho : o.dict = none) (r : Rp c G x d) (r2 : Rp c G y e) : ∃ G', Gr G H G' (upd H T (.frz o (.tup [x, y]))) ∧ Rp c G' (.ref T) (.tuple [d, e]) := by
  have gr := Gr.laid (o := .frz o (.tup [x, y])) g n
  exact ⟨_, gr, .tup upd_same ho (.cons (r.mono gr.ge) (.cons (r2.mono gr.ge) .nil))⟩
theorem ci_items {o : Expr} {f : Ev} {apos cpos tpos : Pos} {elts : List Expr} {kk : Nat} (C : XC c X) (h : CE c X o f)
    (hbase : attributeBase o "items" X.env (eval o X.env) = eval o X.env := by rfl) (hline : (apos.endLine == cpos.line) = true := by rfl) :
    CI c X (.Tuple elts kk tpos) (.Call (.Attribute o "items" apos) [] [] cpos) (iItems f) := by
  refine ⟨fun pins s σ H R I ⟨Pr, G, ρ, xs, ρ', E, q, k⟩ => ?_⟩
  unfold iItems at q
  split at q
  · rename_i l ρ1 hf
    cases q
    refine wpAny_Call_method0_late hbase hline (thn (h pins s σ H Pr G ρ ρ' _ I E hf) fun v s1 ⟨x, H1, I1, r1, G1, g1, E1, q1⟩ => ?_)
    cases q1 with
    | @dic a ep hs xs ys l hG h2 h3 h4 h5 =>
      cases r1
      have hH := E1.gh _ _ hG
      obtain ⟨⟨lo, hz, es, hraw, he⟩, _⟩ := I1.hok _ _ hH
      have hsz : es.size = xs.length := by simpa using he.len.1
      obtain ⟨ob, hob, hx, hdat⟩ := hraw
      have hlt : a < s1.heap.objs.size := Heap.lt_size hob
      refine ⟨"dict", "dict.items", PySem.F.plainAttrs_dict, PySem.F.slot_dict_items, PySem.F.type_dict_items, ⟨ob, hob, hx.1⟩, fun b eb => by cases eb; exact ⟨ob, hob, hx.2.1⟩, ?_⟩
      refine Calls.callWith_builtin rfl (PySem.evalArgs_none (call_meetsIn PySem.F.slot_dict_items ⟨ob, hob, hx.1⟩ PySem.F.entry_dict_items (PySem.F.args_dict_items_1 _) (meets_dict_items_raw a lo) ⟨⟨es, ep, ob, hob, hx, hdat⟩, ?_⟩))
      have I2 : Inv X pins σ H1 { s1 with heap := s1.heap.push { cls := .type "dict_items", data := .fields #[.ref a] } } := I1.kept (t' := s1.toks) fun b o e => Heap.get?_push_of_some _ e
      have hz2 : (s1.heap.push { cls := .type "dict_items", data := .fields #[.ref a] }).objs.size = s1.heap.objs.size + 1 := Heap.size_push ..
      have hne : a ≠ (s1.heap.push { cls := .type "dict_items", data := .fields #[.ref a] }).objs.size := by
        rw [hz2]
        exact Nat.ne_of_lt (Nat.lt_succ_of_lt hlt)
      refine wpAny_pyIter_items_raw (s := { s1 with heap := s1.heap.push { cls := .type "dict_items", data := .fields #[.ref a] } }) (d := a) (es := es) (ep := ep) ⟨_, Heap.get?_push_size _ rfl, rfl, rfl⟩ ⟨ob, Heap.get?_push_of_some _ hob, hx, hdat⟩ ?_
      refine ⟨(s1.heap.push { cls := .type "dict_items", data := .fields #[.ref a] }).objs.size, [(s1.heap.push { cls := .type "dict_items", data := .fields #[.ref a] }).objs.size], _, _, H1, rfl, I2.kept (t' := s1.toks) fun b o e => Heap.get?_push_of_some _ e, turn_itemsI a _ hne ep hs xs ys, ⟨.none, .none, by rw [← hsz]; exact Heap.get?_push_size _ rfl⟩, fun b hb => ?_, k _ G1 H1 g1 E1 ?_⟩
      · have e : b = (s1.heap.push { cls := .type "dict_items", data := .fields #[.ref a] }).objs.size := by simpa using hb
        subst e
        exact I2.fpOk (Nat.le_refl _) (I2.hok.fresh (Nat.le_refl _))
      · have hlen := h4.length
        rw [List.length_map] at hlen
        refine ⟨by rw [prs_len, ← hlen]; rw [he.len.2.1] at hz; exact hz, fun G3 H3 g3 gh i d hd => ?_, fun G3 H3 g3 gh => ⟨gh _ _ (g3 _ _ hG), by rw [prs_len, hlen]; exact Nat.le_refl _⟩⟩
        unfold prs at hd
        rw [List.getElem?_map] at hd
        obtain ⟨p, hp, rfl⟩ := Option.map_eq_some_iff.mp hd
        obtain ⟨v, hv, rv⟩ := h4.get (i := i) (d := p.1) (by rw [List.getElem?_map, hp]; rfl)
        obtain ⟨v2, hv2, rv2⟩ := h5.get (i := i) (d := p.2) (by rw [List.getElem?_map, hp]; rfl)
        refine ⟨⟨gh _ _ (g3 _ _ hG), (List.getElem?_eq_some_iff.mp hv).1⟩, fun x' H' ⟨T, o, y, z, e1, n, ho, e2, hy, hz3⟩ => ?_⟩
        subst e1 e2
        rw [hv] at hy
        rw [hv2] at hz3
        cases hy
        cases hz3
        exact pair_rp2 gh n ho (rv.mono g3) (rv2.mono g3)
  · cases q
end
end VL

set_option Elab.async false
set_option linter.all false
set_option maxRecDepth 100000
/-! V21: texts; constants of the program; dicts displayed with texts for keys. -/
namespace VL
open PySem PySem.Spec PyProof.Rows L2

def sAddS : D → D → Option D
  | .str a, .str b => if a.length + b.length ≤ LIM then some (.str (a ++ b)) else none
  | _, _ => none
def sStr : D → Option D
  | .int i => if i.natAbs.log2 < 1920 then some (.str (toString i)) else none
  | .str a => some (.str a)
  | _ => none
def strsOf : List D → Option (List Str)
  | [] => some []
  | .str x :: r => (strsOf r).map (x :: ·)
  | _ :: _ => none
def mJoin (d : D) (ds : List D) : Option D := match d, ds with
  | .str a, [y] => match seqOf y with
    | some l => match strsOf l with
      | some xs => if (xs.map (·.length)).sum + xs.length * a.length ≤ LIM then some (.str (Txt.join a xs)) else none
      | none => none
    | none => none
  | _, _ => none
def mSplit (d : D) (ds : List D) : Option D := match d, ds with
  | .str a, [.str b] => if (b.length == 0) = false ∧ a.length ≤ LIM then some (.list ((Txt.split a b).map .str)) else none
  | _, _ => none
section
variable {c : Ct} {X : Cx} {Pr G H : Hp} {σ : L2.St} {ρ ρ' : List O} {pins : List (Addr × Obj)} {s : Shared}
theorem op_addS : Op2 c X (binaryOp .Add) sAddS := by
  intro pins s σ H G x y v u d e r I g rx ry t1 t2 h
  cases d with
  | str a =>
    cases e with
    | str b =>
      have h : (if a.length + b.length ≤ LIM then some (PyData.str (a ++ b)) else none) = some r := h
      by_cases hl : a.length + b.length ≤ LIM
      · rw [if_pos hl] at h
        cases h
        have big : LIM ≤ sizeLine := by decide
        rw [t1.str] at rx
        rw [t2.str] at ry
        exact op_add_str pins s σ H _ _ v u _ I rx ry ⟨a, b, rfl, rfl, by omega, gr_same g (.str _)⟩
      · rw [if_neg hl] at h
        cases h
    | _ => cases h
  | _ => cases h
theorem op_strV : Op1 c X (fun v => call (.type "str") [v]) sStr := by
  intro pins s σ H G x v d r I g rx t e
  cases d with
  | int i =>
    have e : (if i.natAbs.log2 < 1920 then some (PyData.str (toString i)) else none) = some r := e
    by_cases hl : i.natAbs.log2 < 1920
    · rw [if_pos hl] at e
      cases e
      rw [t.int] at rx
      exact call_str_int pins s σ H [.int i] [v] _ I (.cons rx .nil) ⟨i, rfl, hl, gr_same g (.str _)⟩
    · rw [if_neg hl] at e
      cases e
  | str a =>
    cases e
    rw [t.str] at rx
    exact SkE.call_str_str pins s σ H [.str a] [v] _ I (.cons rx .nil) ⟨a, rfl, gr_same g (.str _)⟩
  | _ => cases e
theorem strs_of : ∀ {l : List D} {ns : List Str}, strsOf l = some ns → l = ns.map PyData.str
  | [], _, h => by cases h; rfl
  | .str i :: r, ns, h => by
    unfold strsOf at h
    cases e : strsOf r with
    | none => rw [e] at h; cases h
    | some m =>
      rw [e] at h
      cases h
      rw [strs_of e]
      rfl
  | .none :: _, _, h => by cases h
  | .bool _ :: _, _, h => by cases h
  | .int _ :: _, _, h => by cases h
  | .list _ :: _, _, h => by cases h
  | .tuple _ :: _, _, h => by cases h
  | .dict _ :: _, _, h => by cases h
theorem rpa_strs : ∀ {vs : List V} {ns : List Str}, RpA c G vs (ns.map PyData.str) → vs = ns.map V.str
  | [], [], _ => rfl
  | v :: vs, n :: ns, h => by
    cases h with
    | cons h r =>
      cases h
      rw [rpa_strs r]
      rfl
  | [], _ :: _, h => by cases h
  | _ :: _, [], h => by cases h
theorem rpa_mkstrs (G : Hp) : ∀ ns : List Str, RpA c G (ns.map V.str) (ns.map PyData.str)
  | [] => .nil
  | n :: ns => .cons (.str n) (rpa_mkstrs G ns)
theorem mt_joinV (C : XC c X) : MtV c X 3 "str.join" mJoin (NW c) := by
  intro pins s σ H G x xs v us d ds r I g rx rs t ra hk h
  unfold mJoin at h
  split at h
  · rename_i a y
    split at h
    · rename_i l h1
      split at h
      · rename_i ns h2
        split at h
        · rename_i hz
          cases h
          obtain ⟨z, rfl, rz⟩ := rpa1 ra
          rw [t.str] at rx
          obtain rfl := strs_of h2
          have big : LIM = 1000000 := rfl
          have hz2 : (ns.map (·.length)).sum + ns.length * a.length ≤ 16777216 := by omega
          cases y with
          | list m =>
            cases h1
            obtain ⟨p, zs, rfl, sq, rl⟩ := (RpT.of (H := H) rz).seqL g
            obtain rfl := rpa_strs rl
            exact mt_join pins s σ H _ _ v us _ I rx rs ⟨a, p, ns, rfl, rfl, .inl (by rw [C.K]; exact sq), hz2, gr_same g (.str _)⟩
          | tuple m =>
            cases h1
            obtain ⟨p, zs, o, rfl, f, n, sq, rl⟩ := (RpT.of (H := H) rz).seqT g
            obtain rfl := rpa_strs rl
            exact mt_join pins s σ H _ _ v us _ I rx rs ⟨a, p, ns, rfl, rfl, .inr (by rw [C.K]; exact sq), hz2, gr_same g (.str _)⟩
          | _ => cases h1
        · cases h
      · cases h
    · cases h
  · cases h
theorem mt_splitV (C : XC c X) : MtV c X 3 "str.split" mSplit (FL c) := by
  intro pins s σ H G x xs v us d ds r I g rx rs t ra hk h
  unfold mSplit at h
  split at h
  · rename_i a b
    split at h
    · rename_i hz
      cases h
      obtain ⟨z, rfl, rz⟩ := rpa1 ra
      rw [t.str] at rx
      have ez : z = .str b := by cases rz; rfl
      subst ez
      have big : LIM = 1000000 := rfl
      have big2 : sizeLine = 16777216 := sizeLine_eq
      exact mt_split pins s σ H _ _ v us _ I rx rs ⟨a, b, rfl, rfl, hz.1, by have := hz.2; omega, fun p n => ⟨G, H, p, _, _, Gr.refl g, rfl, n, rfl, rfl, rpa_mkstrs G _⟩⟩
    · cases h
  · cases h
theorem join_k {d : D} {ds : List D} {r : D} (h : mJoin d ds = some r) : kd d = 3 := by
  unfold mJoin at h
  split at h
  · rfl
  · cases h
theorem split_k {d : D} {ds : List D} {r : D} (h : mSplit d ds = some r) : kd d = 3 := by
  unfold mSplit at h
  split at h
  · rfl
  · cases h
theorem ce_join {o e : Expr} {apos cpos : Pos} {p : Pk} {f : Ev} (C : XC c X) (ho : CK c X o p) (he : CE c X e f)
    (hbase : attributeBase o "join" X.env (eval o X.env) = eval o X.env := by rfl) (hline : (apos.endLine == cpos.line) = true := by rfl) (hs : starEach [e] X.env = [(false, eval e X.env)] := by rfl) :
    CE c X (.Call (.Attribute o "join" apos) [e] [] cpos) (eM mJoin p (esCons f esNil)) :=
  ce_m (T := "str") (k := 3) C rfl (by decide) PySem.F.plainAttrs_str PySem.F.slot_str_join PySem.F.type_str_join (mt_joinV C) (fun _ _ _ h => join_k h) ho (ca_cons he ca_nil hs) hbase (by rw [hs]; rfl) hline hs rfl
theorem cf_split {o e : Expr} {apos cpos : Pos} {p : Pk} {f : Ev} (C : XC c X) (ho : CK c X o p) (he : CE c X e f)
    (hbase : attributeBase o "split" X.env (eval o X.env) = eval o X.env := by rfl) (hline : (apos.endLine == cpos.line) = true := by rfl) (hs : starEach [e] X.env = [(false, eval e X.env)] := by rfl) :
    CF c X (.Call (.Attribute o "split" apos) [e] [] cpos) (eM mSplit p (esCons f esNil)) :=
  cf_m (T := "str") (k := 3) C rfl (by decide) PySem.F.plainAttrs_str PySem.F.slot_str_split PySem.F.type_str_split (mt_splitV C) (fun _ _ _ h => split_k h) ho (ca_cons he ca_nil hs) hbase (by rw [hs]; rfl) hline hs rfl
/-- whole numbers, tuples, lists, texts -/
def sAddX : D → D → Option D := or2 sAddA sAddS
theorem op_addX (C : XC c X) : Op2 c X (binaryOp .Add) sAddX := (op_addA C).or op_addS
/-! ### constants of the program -/
def isK (mg : Str → Option Value) (x : Str) (d : D) : Prop := match d with
  | .int i => ∃ t, mg x = some (.int i t)
  | .str a => ∃ t, mg x = some (.str a t)
  | _ => False
theorem ce_glob {x : Str} {d : D} {pos : Pos} (hm : isK X.mg x d) (hg : Gl X x) (hd : (x == ("__debug__" : Str)) = false := by decide) : CE c X (.Name x pos) (eC d) := by
  intro pins s σ H Pr G ρ ρ' d' I E h
  cases h
  cases d with
  | int i =>
    obtain ⟨t, hm⟩ := hm
    exact ld_glob I hg hm ⟨.int i, H, I, ⟨t, rfl⟩, G, Ge.refl _, E, .int i⟩ hd
  | str a =>
    obtain ⟨t, hm⟩ := hm
    exact ld_glob I hg hm ⟨.str a, H, I, ⟨t, rfl⟩, G, Ge.refl _, E, .str a⟩ hd
  | _ => exact hm.elim
end

/-! ### what walks leave: no slot becomes a dict -/
class FzI (e : Iv) : Prop where
  fz : ∀ ρ z, e ρ = some z → FzR ρ z.2
section
variable {a b e cd : Ev} {it : Iv}
instance [Fz a] : FzI (iSeq a) := ⟨fun ρ z h => by
  unfold iSeq at h
  split at h
  · rename_i l ρ1 h1
    cases h
    exact Fz.fz (e := a) ρ _ h1
  · rename_i l ρ1 h1
    cases h
    exact Fz.fz (e := a) ρ _ h1
  · cases h⟩
instance [Fz a] : FzI (iSeqA a) := ⟨fun ρ z h => by
  unfold iSeqA at h
  split at h
  · rename_i l ρ1 h1
    cases h
    exact Fz.fz (e := a) ρ _ h1
  · rename_i l ρ1 h1
    cases h
    exact Fz.fz (e := a) ρ _ h1
  · rename_i l ρ1 h1
    cases h
    exact Fz.fz (e := a) ρ _ h1
  · cases h⟩
instance [Fz a] : FzI (iR1 a) := ⟨fun ρ z h => by
  unfold iR1 at h
  split at h
  · rename_i n ρ1 h1
    split at h
    · cases h
      exact Fz.fz (e := a) ρ _ h1
    · cases h
  · cases h⟩
instance [Fz a] [Fz b] : FzI (iR2 a b) := ⟨fun ρ z h => by
  unfold iR2 at h
  split at h
  · rename_i n ρ1 h1
    split at h
    · rename_i m ρ2 h2
      split at h
      · cases h
        exact (Fz.fz (e := a) ρ _ h1).trans (Fz.fz (e := b) ρ1 _ h2)
      · cases h
    · cases h
  · cases h⟩
instance [Fz a] : FzI (iEnum a) := ⟨fun ρ z h => by
  unfold iEnum at h
  split at h
  · rename_i l ρ1 h1
    cases h
    exact Fz.fz (e := a) ρ _ h1
  · rename_i l ρ1 h1
    cases h
    exact Fz.fz (e := a) ρ _ h1
  · cases h⟩
instance [Fz a] : FzI (iItems a) := ⟨fun ρ z h => by
  unfold iItems at h
  split at h
  · rename_i l ρ1 h1
    cases h
    exact Fz.fz (e := a) ρ _ h1
  · cases h⟩
instance : Fz eTrue := ⟨fun ρ z h => by cases h; exact .refl _⟩
theorem fz_back {ρ ν : List O} (h : FzR ρ ν) : ∀ vs : List Nat, FzR ρ (giveBack ρ ν vs)
  | [] => h
  | i :: is => fun j l e => by
    unfold giveBack at e
    cases q : ρ[i]? with
    | none =>
      rw [q] at e
      exact fz_back h is j l e
    | some o =>
      rw [q] at e
      by_cases hj : i = j
      · subst hj
        by_cases hl : i < (giveBack ρ ν is).length
        · have e : ((giveBack ρ ν is).set i o)[i]? = some (.dic l) := e
          rw [List.getElem?_set_self hl] at e
          rw [q]
          exact e
        · have e : ((giveBack ρ ν is).set i o)[i]? = some (.dic l) := e
          rw [List.getElem?_eq_none (by rw [List.length_set]; omega)] at e
          cases e
      · have e : ((giveBack ρ ν is).set i o)[j]? = some (.dic l) := e
        rw [List.getElem?_set_ne hj] at e
        exact fz_back h is j l e
theorem fz_lc [Fz cd] [Fz e] {tg : Tg} {vs : List Nat} : ∀ (xs : List D) (ρ : List O) (acc : List D) (z : List D × List O), lcLoop tg cd e vs xs ρ acc = some z → FzR ρ z.2
  | [], ρ, acc, z, h => by
    cases h
    exact .refl _
  | x :: xs, ρ, acc, z, h => by
    unfold lcLoop at h
    split at h
    · rename_i acc' ρ' h1
      have k := fz_lc xs ρ' acc' z h
      refine FzR.trans ?_ k
      unfold lcTurn at h1
      split at h1
      · rename_i ρ1 ht
        split at h1
        · rename_i ρ2 hc
          split at h1
          · rename_i y ρ3 he
            cases h1
            exact (((fz_tgo ht).trans (Fz.fz (e := cd) ρ1 _ hc)).trans (Fz.fz (e := e) ρ2 _ he)).trans (fz_wipe ρ3 vs)
          · cases h1
        · rename_i ρ2 hc
          cases h1
          exact ((fz_tgo ht).trans (Fz.fz (e := cd) ρ1 _ hc)).trans (fz_wipe ρ2 vs)
        · cases h1
      · cases h1
    · cases h
instance {tg : Tg} {vs : List Nat} [FzI it] [Fz cd] [Fz e] : Fz (eComp it tg cd e vs) := ⟨fun ρ z h => by
  unfold eComp at h
  split at h
  · rename_i xs ρ1 h1
    have k1 : FzR ρ ρ1 := FzI.fz (e := it) ρ _ h1
    split at h
    · split at h
      · rename_i acc ρ2 h2
        cases h
        have k2 : FzR ρ1 ρ2 := (fz_wipe ρ1 vs).trans (fz_lc xs _ _ _ h2)
        exact k1.trans (fz_back k2 vs)
      · cases h
    · cases h
  · cases h⟩
end
end VL

set_option Elab.async false
set_option linter.all false
set_option maxRecDepth 100000
/-! V22: places: a slot's own thing, a field of a slot's own object; how it is exchanged. -/
namespace VL
open PySem PySem.Spec PyProof.Rows L2

def Fs.get : Fs → Str → Option O
  | .nil, _ => none
  | .cons n o r, x => if n = x then some o else Fs.get r x
def Fs.put : Fs → Str → O → Fs
  | .nil, x, u => .cons x u .nil
  | .cons n o r, x, u => if n = x then .cons n u r else .cons n o (Fs.put r x u)
def unb : O → O
  | .bor _ o => o
  | o => o
/-- as it is lent, with another content -/
def reb : O → O → O
  | .bor j _, u => .bor j u
  | _, u => u
inductive Pl | s (i : Nat) | f (i : Nat) (x : Str)
def insOf : O → Option (Nat × Fs)
  | .ins k fs => some (k, fs)
  | _ => none
def getP (ρ : List O) : Pl → Option O
  | .s i => (ρ[i]?).map unb
  | .f i x => match (ρ[i]?).map unb with
    | some o => match insOf o with
      | some p => p.2.get x
      | none => none
    | none => none
def setP (ρ : List O) (p : Pl) (u : O) : List O := match p with
  | .s i => match ρ[i]? with
    | some o => ρ.set i (reb o u)
    | none => ρ
  | .f i x => match ρ[i]? with
    | some o => match insOf (unb o) with
      | some p => ρ.set i (reb o (.ins p.1 (p.2.put x u)))
      | none => ρ
    | none => ρ
def objD : O → Option D
  | .val d => some d
  | .lst l => some (.list l)
  | .dic l => some (.dict l)
  | _ => none
def hasRef : O → Bool
  | .lst _ => true
  | .dic _ => true
  | .ins _ _ => true
  | _ => false

theorem lookup_cons (g x : Str) (y : V) (r : List (Str × V)) : List.lookup x ((g, y) :: r) = if g = x then some y else List.lookup x r := by
  rw [List.lookup_cons]
  by_cases h : g = x
  · subst h
    simp
  · have h2 : (x == g) = false := by
      apply beq_eq_false_iff_ne.mpr
      exact fun e => h e.symm
    rw [h2, if_neg h]
theorem putF_cons (x g : Str) (v y : V) (r : List (Str × V)) : putF x v ((g, y) :: r) = if g = x then (g, v) :: r else (g, y) :: putF x v r := rfl
theorem putF_same {x : Str} {v : V} : ∀ {l : List (Str × V)}, l.lookup x = some v → putF x v l = l
  | [], h => by simp at h
  | (g, y) :: r, h => by
    rw [lookup_cons] at h
    rw [putF_cons]
    by_cases e : g = x
    · rw [if_pos e] at h ⊢
      cases h
      rfl
    · rw [if_neg e] at h ⊢
      rw [putF_same h]
theorem noBorF_put {x : Str} {u : O} (hu : noBor u = true) : ∀ {fs : Fs}, noBorF fs = true → noBorF (fs.put x u) = true
  | .nil, _ => by
    show (noBor u && noBorF .nil) = true
    rw [hu]
    rfl
  | .cons n o r, h => by
    have h : (noBor o && noBorF r) = true := h
    rw [Bool.and_eq_true] at h
    unfold Fs.put
    split
    · show (noBor u && noBorF r) = true
      rw [hu, h.2]
      rfl
    · show (noBor o && noBorF (r.put x u)) = true
      rw [h.1, noBorF_put hu h.2]
      rfl
section
variable {c : Ct} {X : Cx} {Pr G G' H H' : Hp} {σ : L2.St} {ρ ρ' : List O}
theorem RpF.len : ∀ {fs : Fs} {fl : List (Str × V)} {f : List Addr} {f' : List Addr} {fl' : List (Str × V)}, True := trivial
theorem RpF.put {x : Str} : ∀ {fs : Fs} {fl : List (Str × V)} {f : List Addr}, RpF c G H fs fl f →
    ∃ f1 f2, f.Perm (f1 ++ f2) ∧ (∀ o, fs.get x = some o → ∃ v, fl.lookup x = some v ∧ RpO c G H o (some v) f1) ∧ (fs.get x = none → fl.lookup x = none) ∧
      ∀ (G' H' : Hp) (u : O) (v : V) (f' : List Addr), Ge G G' → (∀ a ∈ f2, H' a = H a) → RpO c G' H' u (some v) f' → ∃ m, m.Perm (f' ++ f2) ∧ RpF c G' H' (fs.put x u) (putF x v fl) m
  | .nil, fl, f, h => by
    obtain ⟨e1, e2⟩ := h
    subst e1
    subst e2
    refine ⟨[], [], List.Perm.refl _, (fun o h => nomatch h), fun _ => rfl, fun G' H' u v f' g k r => ⟨f', by simp, ?_⟩⟩
    exact ⟨v, [], f', [], rfl, by simp, r, rfl, rfl⟩
  | .cons n o r, fl, f, h => by
    obtain ⟨v0, l', g1, g2, e1, e2, h1, h2⟩ := h
    subst e1
    subst e2
    by_cases hn : n = x
    · refine ⟨g1, g2, List.Perm.refl _, fun o' ho => ?_, fun ho => ?_, fun G' H' u v f' g k q => ⟨f' ++ g2, List.Perm.refl _, ?_⟩⟩
      · have ho : (if n = x then some o else Fs.get r x) = some o' := ho
        rw [if_pos hn] at ho
        cases ho
        exact ⟨v0, by rw [lookup_cons, if_pos hn], h1⟩
      · have ho : (if n = x then some o else Fs.get r x) = none := ho
        rw [if_pos hn] at ho
        cases ho
      · show RpF c G' H' (if n = x then .cons n u r else .cons n o (Fs.put r x u)) _ _
        rw [if_pos hn, putF_cons, if_pos hn]
        exact ⟨v, l', f', g2, rfl, rfl, q, h2.mono g k⟩
    · obtain ⟨f1, f2, p, k1, k2, k3⟩ := RpF.put (x := x) h2
      refine ⟨f1, g1 ++ f2, ?_, fun o' ho => ?_, fun ho => ?_, fun G' H' u v f' g k q => ?_⟩
      · refine (p.append_left g1).trans ?_
        rw [← List.append_assoc, ← List.append_assoc]
        exact (List.perm_append_comm).append_right f2
      · have ho : (if n = x then some o else Fs.get r x) = some o' := ho
        rw [if_neg hn] at ho
        obtain ⟨v, q1, q2⟩ := k1 o' ho
        exact ⟨v, by rw [lookup_cons, if_neg hn, q1], q2⟩
      · have ho : (if n = x then some o else Fs.get r x) = none := ho
        rw [if_neg hn] at ho
        rw [lookup_cons, if_neg hn, k2 ho]
      · obtain ⟨m, pm, rm⟩ := k3 G' H' u v f' g (fun a ha => k a (List.mem_append_right _ ha)) q
        refine ⟨g1 ++ m, ?_, ?_⟩
        · refine (pm.append_left g1).trans ?_
          rw [← List.append_assoc, ← List.append_assoc]
          exact (List.perm_append_comm).append_right f2
        · show RpF c G' H' (if n = x then .cons n u r else .cons n o (Fs.put r x u)) _ _
          rw [if_neg hn, putF_cons, if_neg hn]
          exact ⟨v0, _, g1, m, rfl, rfl, h1.mono g fun a ha => k a (List.mem_append_left _ ha), rm⟩
theorem RpF.names : ∀ {fs : Fs} {fl : List (Str × V)} {f : List Addr} {x : Str}, RpF c G H fs fl f → fs.get x = none → fl.lookup x = none := fun {fs fl f x} h e => by
  obtain ⟨_, _, _, _, k, _⟩ := h.put (x := x)
  exact k e
def Fs.size : Fs → Nat
  | .nil => 0
  | .cons _ _ r => r.size + 1
theorem RpF.size : ∀ {fs : Fs} {fl : List (Str × V)} {f : List Addr}, RpF c G H fs fl f → fl.length = fs.size
  | .nil, fl, f, h => by rw [h.1]; rfl
  | .cons n o r, fl, f, h => by
    obtain ⟨v0, l', g1, g2, e1, e2, h1, h2⟩ := h
    rw [e1, List.length_cons, h2.size]
    rfl
/-- a thing as it is lent, and in its own -/
theorem RpO.unb : ∀ {o : O} {s : Option V} {f : List Addr}, RpO c G H o s f → RpO c G H (unb o) s f ∧ ∀ (G' H' : Hp) (u : O) (f' : List Addr), noBor u = true → RpO c G' H' u s f' → RpO c G' H' (reb o u) s f'
  | .un, _, _, h => ⟨h, fun _ _ _ _ _ r => r⟩
  | .val _, _, _, h => ⟨h, fun _ _ _ _ _ r => r⟩
  | .lst _, _, _, h => ⟨h, fun _ _ _ _ _ r => r⟩
  | .dic _, _, _, h => ⟨h, fun _ _ _ _ _ r => r⟩
  | .ins _ _, _, _, h => ⟨h, fun _ _ _ _ _ r => r⟩
  | .bor j o, _, _, h => ⟨h.2.2, fun _ _ u _ n r => ⟨h.1, n, r⟩⟩
/-- what stands at a place -/
def PlS (c : Ct) (σ : L2.St) (H : Hp) : Pl → Option V → Prop
  | .s i, s => σ[i]? = some s
  | .f i x, s => ∃ a C dx fl k v, s = some v ∧ σ[i]? = some (some (.ref a)) ∧ H a = some (.ins C dx fl) ∧ c.ci k = some C ∧ fl.lookup x = some v
theorem nodup_mid {a b k : List Addr} (h : (a ++ k).Nodup) (hb : b.Nodup) (hd : ∀ x ∈ b, x ∉ k) : (b ++ k).Nodup := by
  rw [List.nodup_append] at h ⊢
  exact ⟨hb, h.2.1, fun x hx y hy e => by subst e; exact hd x hx hy⟩
theorem ER.swap {p : Pl} {o : O} (E : ER c Pr G H σ ρ) (h : getP ρ p = some o) :
    ∃ (s : Option V) (fp R : List Addr), PlS c σ H p s ∧ RpO c G H o s fp ∧ (fp ++ R).Nodup ∧ (∀ a ∈ fp ++ R, Pr a = none ∧ G a = none) ∧ (∀ a ∈ R, ∃ u, H a = some u) ∧
      ∀ (G' H' : Hp) (u : O) (fp' : List Addr), Ge G G' → Ge G' H' → (∀ a o, Pr a = some o → H' a = some o ∧ G' a = none) → (∀ a ∈ R, H' a = H a ∧ G' a = none) → fp'.Nodup → (∀ a ∈ fp', Pr a = none ∧ G' a = none ∧ a ∉ R) → noBor u = true → RpO c G' H' u s fp' → ER c Pr G' H' σ (setP ρ p u) := by
  obtain ⟨l, nd, ap, sl⟩ := E.own
  cases p with
  | s i =>
    have h : (ρ[i]?).map VL.unb = some o := h
    cases q : ρ[i]? with
    | none => rw [q] at h; cases h
    | some o0 =>
      rw [q] at h
      have e : VL.unb o0 = o := Option.some.inj h
      subst e
      obtain ⟨s, l1, l2, e1, pm, ro, k⟩ := sl.at q
      obtain ⟨r1, r2⟩ := ro.unb
      have th := sl.there
      refine ⟨s, l1, l2, e1, r1, pm.nodup_iff.mp nd, fun a ha => ap a (pm.mem_iff.mpr ha), fun a ha => th a (pm.mem_iff.mpr (List.mem_append_right _ ha)), fun G' H' u fp' g gh hp hr hn hf nb ru => ?_⟩
      obtain ⟨m, pm2, sm⟩ := k G' H' s (reb o0 u) fp' g (fun a ha => (hr a ha).1) (r2 G' H' u fp' nb ru)
      rw [set_same e1] at sm
      have es : setP ρ (.s i) u = ρ.set i (reb o0 u) := by
        unfold setP
        simp only [q]
      rw [es]
      refine ⟨hp, gh, m, pm2.nodup_iff.mpr (nodup_mid (pm.nodup_iff.mp nd) hn fun x hx => (hf x hx).2.2), fun a ha => ?_, sm⟩
      rcases List.mem_append.mp (pm2.mem_iff.mp ha) with z | z
      · exact ⟨(hf a z).1, (hf a z).2.1⟩
      · exact ⟨(ap a (pm.mem_iff.mpr (List.mem_append_right _ z))).1, (hr a z).2⟩
  | f i x =>
    cases q : ρ[i]? with
    | none =>
      simp only [getP, q, Option.map_none] at h
      cases h
    | some o0 =>
      simp only [getP, q, Option.map_some] at h
      cases q2 : VL.unb o0 with
      | ins k fs =>
        rw [q2] at h
        have h : fs.get x = some o := h
        obtain ⟨s, l1, l2, e1, pm, ro, kk⟩ := sl.at q
        obtain ⟨r1, r2⟩ := ro.unb
        rw [q2] at r1
        obtain ⟨a, dx, C, fl, f', rfl, hci, hA, hD, ef, rf⟩ := r1
        subst ef
        obtain ⟨f1, f2, pf, k1, k2, k3⟩ := rf.put (x := x)
        obtain ⟨v, hv, rv⟩ := k1 o h
        have th := sl.there
        have pA : l.Perm (f1 ++ (a :: dx :: (f2 ++ l2))) := by
          refine pm.trans ?_
          have p1 : (a :: dx :: f' ++ l2).Perm (a :: dx :: (f1 ++ f2) ++ l2) := List.Perm.append_right l2 ((pf.cons dx).cons a)
          refine p1.trans ?_
          have e : a :: dx :: (f1 ++ f2) ++ l2 = (a :: dx :: f1) ++ (f2 ++ l2) := by simp
          have e2 : f1 ++ (a :: dx :: (f2 ++ l2)) = (f1 ++ [a, dx]) ++ (f2 ++ l2) := by simp
          rw [e, e2]
          exact List.Perm.append_right _ (List.perm_append_comm (l₁ := [a, dx]) (l₂ := f1))
        have nd2 := pA.nodup_iff.mp nd
        refine ⟨some v, f1, a :: dx :: (f2 ++ l2), ⟨a, C, dx, fl, k, v, rfl, e1, hA, hci, hv⟩, rv, nd2, fun b hb => ap b (pA.mem_iff.mpr hb), fun b hb => th b (pA.mem_iff.mpr (List.mem_append_right _ hb)), fun G' H' u fp' g gh hp hr hn hf nb ru => ?_⟩
        obtain ⟨m, pm2, rm⟩ := k3 G' H' u v fp' g (fun b hb => (hr b (by simp [hb])).1) ru
        rw [putF_same hv] at rm
        have hA' : H' a = some (.ins C dx fl) := (hr a (by simp)).1.trans hA
        have hD' : H' dx = some (.own a) := (hr dx (by simp)).1.trans hD
        have nb0 : noBorF fs = true ∨ VL.unb o0 = o0 := by
          cases o0 with
          | bor j o1 =>
            obtain ⟨_, n, _⟩ := ro
            have q2 : o1 = .ins k fs := q2
            rw [q2] at n
            exact .inl n
          | _ => exact .inr rfl
        have rI : RpO c G' H' (.ins k (fs.put x u)) (some (.ref a)) (a :: dx :: m) := ⟨a, dx, C, fl, m, rfl, hci, hA', hD', rfl, rm⟩
        have rN : RpO c G' H' (reb o0 (.ins k (fs.put x u))) (some (.ref a)) (a :: dx :: m) := by
          rcases nb0 with n | n
          · exact r2 G' H' _ _ (noBorF_put nb n) rI
          · cases o0 with
            | bor j o1 =>
              have q2 : o1 = .ins k fs := q2
              have n : o1 = .bor j o1 := n
              rw [q2] at n
              cases n
            | _ => exact rI
        obtain ⟨m2, pm3, sm⟩ := kk G' H' (some (.ref a)) _ (a :: dx :: m) g (fun b hb => (hr b (by simp [hb])).1) rN
        rw [set_same e1] at sm
        have es : setP ρ (.f i x) u = ρ.set i (reb o0 (.ins k (fs.put x u))) := by
          unfold setP
          simp only [q, q2, insOf]
        rw [es]
        have pB : m2.Perm (fp' ++ (a :: dx :: (f2 ++ l2))) := by
          refine pm3.trans ?_
          have p1 : (a :: dx :: m ++ l2).Perm (a :: dx :: (fp' ++ f2) ++ l2) := List.Perm.append_right l2 ((pm2.cons dx).cons a)
          refine p1.trans ?_
          have e : a :: dx :: (fp' ++ f2) ++ l2 = (a :: dx :: fp') ++ (f2 ++ l2) := by simp
          have e2 : fp' ++ (a :: dx :: (f2 ++ l2)) = (fp' ++ [a, dx]) ++ (f2 ++ l2) := by simp
          rw [e, e2]
          exact List.Perm.append_right _ (List.perm_append_comm (l₁ := [a, dx]) (l₂ := fp'))
        refine ⟨hp, gh, m2, pB.nodup_iff.mpr (nodup_mid nd2 hn fun y hy => (hf y hy).2.2), fun b hb => ?_, sm⟩
        rcases List.mem_append.mp (pB.mem_iff.mp hb) with z | z
        · exact ⟨(hf b z).1, (hf b z).2.1⟩
        · exact ⟨(ap b (pA.mem_iff.mpr (List.mem_append_right _ z))).1, (hr b z).2⟩
      | _ => rw [q2] at h; cases h
end
end VL

set_option Elab.async false
set_option linter.all false
set_option maxRecDepth 100000
/-! V23: expressions that are places; expressions that only make new things; reading and writing places. -/
namespace VL
open PySem PySem.Spec PyProof.Rows L2

/-- the names of fields are fields alone, in each class -/
def CiOk (c : Ct) (x : Str) : Prop := ∀ k C, c.ci k = some C → Cls c.K C ∧ NoAttr c.K C x
/-- an expression that is a place -/
def CPl (c : Ct) (X : Cx) (e : Expr) (p : Pl) : Prop := ∀ (pins : List (Addr × Obj)) (s : Shared) (σ : L2.St) (H : Hp) (v : V), Inv X pins σ H s → PlS c σ H p (some v) →
  wpAny (model X.prog X.w) X.A (eval e X.env) (EP X pins σ fun v' H' => v' = v ∧ H' = H) X.xe s
/-- an expression that makes new things alone -/
abbrev Pv := List O → Option D
def CEp (c : Ct) (X : Cx) (e : Expr) (f : Pv) : Prop := ∀ (pins : List (Addr × Obj)) (s : Shared) (σ : L2.St) (H Pr G : Hp) (ρ : List O) (d : D), Inv X pins σ H s → ER c Pr G H σ ρ → f ρ = some d →
  wpAny (model X.prog X.w) X.A (eval e X.env) (EP X pins σ fun v H' => ∃ G', Gr G H G' H' ∧ Rp c G' v d) X.xe s
abbrev Pvs := List O → Option (List D)
def CAp (c : Ct) (X : Cx) (es : List Expr) (f : Pvs) : Prop := ∀ (pos : Pos) (pins : List (Addr × Obj)) (s : Shared) (σ : L2.St) (H Pr G : Hp) (ρ : List O) (ds : List D), Inv X pins σ H s → ER c Pr G H σ ρ → f ρ = some ds →
  wpAny (model X.prog X.w) X.A (spliced (backTo pos (starEach es X.env))) (AP X pins σ fun vs H' => ∃ G', Gr G H G' H' ∧ RpA c G' vs ds) X.xe s
def pC (d : D) : Pv := fun _ => some d
def pQ (p : Pl) : Pv := fun ρ => match getP ρ p with
  | some (.val d) => some d
  | _ => none
def psNil : Pvs := fun _ => some []
def psCons (a : Pv) (r : Pvs) : Pvs := fun ρ => match a ρ with
  | some x => match r ρ with
    | some xs => some (x :: xs)
    | none => none
  | none => none
def pTup (es : Pvs) : Pv := fun ρ => match es ρ with
  | some xs => if xs.length ≤ LIM then some (.tuple xs) else none
  | none => none
def eP (f : Pv) : Ev := fun ρ => (f ρ).map fun d => (d, ρ)
/-- what stands at a place, told as data -/
def pkQ (ρ : List O) (p : Pl) : Option D := match getP ρ p with
  | some o => objD o
  | none => none
/-- an operation, its last operand a place -/
def o1Q (f : D → Option D) (p : Pl) : Ev := fun ρ => match pkQ ρ p with
  | some x => match f x with
    | some r => some (r, ρ)
    | none => none
  | none => none
def o2Q (f : D → D → Option D) (a : Ev) (p : Pl) : Ev := fun ρ => match a ρ with
  | some (x, ρ1) => match pkQ ρ1 p with
    | some y => match f x y with
      | some r => some (r, ρ1)
      | none => none
    | none => none
  | none => none
/-- place[key] -/
def ixQ (f : D → D → Option D) (p : Pl) (k : Pv) : Ev := fun ρ => match pkQ ρ p with
  | some x => match k ρ with
    | some y => match f x y with
      | some r => some (r, ρ)
      | none => none
    | none => none
  | none => none
/-- place[key] = e, the place a dict -/
def sPutQ (p : Pl) (k : Pv) (e : Ev) : Sm := fun ρ => match e ρ with
  | some (v, ρ1) => match k ρ1 with
    | some key => match getP ρ1 p with
      | some (.dic l) => match dAsk l key with
        | some _ => if l.length < LIM then some (.nx, setP ρ1 p (.dic (dput key v l))) else none
        | none => none
      | _ => none
    | none => none
  | none => none
/-- place.append(e) -/
def sAppQ (p : Pl) (e : Pv) : Sm := fun ρ => match e ρ with
  | some d => match getP ρ p with
    | some (.lst l) => if l.length < LIM then some (.nx, setP ρ p (.lst (l ++ [d]))) else none
    | _ => none
  | none => none
def ePopQ (p : Pl) : Ev := fun ρ => match getP ρ p with
  | some (.lst l) => match l.getLast? with
    | some d => some (d, setP ρ p (.lst l.dropLast))
    | none => none
  | _ => none
/-- name.f = e -/
def sFld (i : Nat) (x : Str) (e : Ev) : Sm := fun ρ => match e ρ with
  | some (d, ρ1) => match (ρ1[i]?).map unb with
    | some o => match insOf o with
      | some p => if p.2.size < 900 then some (.nx, setP ρ1 (.f i x) (.val d)) else none
      | none => none
    | none => none
  | none => none
/-- name.f = a new list or dict -/
def sFldO (i : Nat) (x : Str) (e : Ev) : Sm := fun ρ => match e ρ with
  | some (d, ρ1) => match (ρ1[i]?).map unb with
    | some o => match insOf o with
      | some p => if p.2.size < 900 then match d with
        | .list l => some (.nx, setP ρ1 (.f i x) (.lst l))
        | .dict l => some (.nx, setP ρ1 (.f i x) (.dic l))
        | _ => none
        else none
      | none => none
    | none => none
  | none => none

section
variable {c : Ct} {X : Cx} {Pr G G' H H' : Hp} {σ : L2.St} {ρ ρ' : List O} {pins : List (Addr × Obj)} {s : Shared} {e : Expr} {es : List Expr} {pos p p' apos cpos : Pos} {x f : Str}
theorem cpl_s (i : Nat) (hN : X.N[i]? = some x := by rfl) (hv : Vis X.env.scope x := by first | exact .inl rfl | exact .inr (.inl rfl) | exact .inr (.inr rfl)) (hd : (x == ("__debug__" : Str)) = false := by decide) (hcd : (x == ("__classdict__" : Str)) = false := by decide) : CPl c X (.Name x pos) (.s i) :=
  fun pins s σ H v I h => (pe_var hN hv hd hcd).run pins s σ H _ I ⟨v, h, rfl, rfl⟩
theorem cpl_f (C : XC c X) (ci : CiOk c f) (i : Nat) (hN : X.N[i]? = some x := by rfl) (hv : Vis X.env.scope x := by first | exact .inl rfl | exact .inr (.inl rfl) | exact .inr (.inr rfl)) (hd : (x == ("__debug__" : Str)) = false := by decide) (hcd : (x == ("__classdict__" : Str)) = false := by decide)
    (hb : attributeBase (.Name x p) f X.env (eval (.Name x p) X.env) = eval (.Name x p) X.env := by rfl) : CPl c X (.Attribute (.Name x p) f pos) (.f i f) :=
  fun pins s σ H v I ⟨a, C0, dx, fl, k, v', e1, e2, hA, hci, hl⟩ => by
    cases e1
    obtain ⟨c1, c2⟩ := ci k C0 hci
    exact (pe_fld (pe_var hN hv hd hcd) hb).run pins s σ H _ I ⟨.ref a, e2, a, C0, dx, fl, v, rfl, hA, by rw [C.K]; exact c1, by rw [C.K]; exact c2, hl, rfl, rfl⟩
def tPl (c : Ct) (p : Pl) : TE := fun σ H Q => ∃ v, PlS c σ H p (some v) ∧ Q v H
theorem CPl.pe {q : Pl} (h : CPl c X e q) : PE X e (tPl c q) := ⟨fun pins s σ H Q I ⟨v, hv, k⟩ => thn (h pins s σ H v I hv) fun u s' ⟨v', H', I', r, e1, e2⟩ => by
  subst e1
  subst e2
  exact ⟨_, _, I', r, k⟩⟩
theorem PlS.uniq {q : Pl} {s t : Option V} (a : PlS c σ H q s) (b : PlS c σ H q t) : s = t := by
  cases q with
  | s i =>
    have a : σ[i]? = some s := a
    have b : σ[i]? = some t := b
    rw [a] at b
    exact Option.some.inj b
  | f i x =>
    obtain ⟨a1, C1, d1, f1, k1, v1, e1, e2, e3, _, e5⟩ := a
    obtain ⟨a2, C2, d2, f2, k2, v2, g1, g2, g3, _, g5⟩ := b
    rw [e2] at g2
    cases g2
    rw [e3] at g3
    cases g3
    rw [e5] at g5
    rw [e1, g1, g5]
theorem PlS.ge {q : Pl} {s : Option V} (g : Ge H H') (a : PlS c σ H q s) : PlS c σ H' q s := by
  cases q with
  | s i => exact a
  | f i x =>
    obtain ⟨a1, C1, d1, f1, k1, v1, e1, e2, e3, e4, e5⟩ := a
    exact ⟨a1, C1, d1, f1, k1, v1, e1, e2, g _ _ e3, e4, e5⟩
theorem RpO.data {o : O} {s : Option V} {fp : List Addr} {d : D} (r : RpO c G H o s fp) (h : objD o = some d) : ∃ v, s = some v ∧ RpT c G H v d := by
  cases o with
  | val z =>
    cases h
    obtain ⟨_, v, e, q⟩ := r
    exact ⟨v, e, .of q⟩
  | lst z =>
    cases h
    obtain ⟨a, xs, e, _, h3, h4⟩ := r
    exact ⟨_, e, .lst h3 h4⟩
  | dic z =>
    cases h
    obtain ⟨a, ep, hs, xs, ys, e, _, h3, h4, h5, h6, h7⟩ := r
    exact ⟨_, e, .dic h3 h4 h5 h6 h7⟩
  | _ => cases h
theorem ER.placeData {q : Pl} {d : D} (E : ER c Pr G H σ ρ) (h : pkQ ρ q = some d) : ∃ v, PlS c σ H q (some v) ∧ RpT c G H v d := by
  unfold pkQ at h
  split at h
  · rename_i o ho
    obtain ⟨s, fp, R, h1, h2, _⟩ := E.swap ho
    obtain ⟨v, rfl, r⟩ := h2.data h
    exact ⟨v, h1, r⟩
  · cases h
/-! ### making new things alone -/
theorem cp_c {v : V} {d : D} (h : PE X e (tC v)) (r : ∀ G, Rp c G v d) : CEp c X e (pC d) := fun pins s σ H Pr G ρ d' I E q => by
  cases q
  exact h.run pins s σ H _ I (same_gr E.gh (r G))
theorem cp_int {i j} : CEp c X (.Constant (.int i) j pos) (pC (.int i)) := cp_c pe_int fun _ => .int i
theorem cp_bl {b j} : CEp c X (.Constant (.bool b) j pos) (pC (.bool b)) := cp_c pe_bl fun _ => .bl b
theorem cp_non {j} : CEp c X (.Constant .none j pos) (pC .none) := cp_c pe_non fun _ => .non
theorem cp_str {y j} : CEp c X (.Constant (.str y) j pos) (pC (.str y)) := cp_c pe_str fun _ => .str y
theorem cp_q {q : Pl} (h : CPl c X e q) : CEp c X e (pQ q) := fun pins s σ H Pr G ρ d I E w => by
  unfold pQ at w
  split at w
  · rename_i z hz
    cases w
    obtain ⟨t, fp, R, h1, ⟨_, v, e1, rv⟩, _⟩ := E.swap hz
    subst e1
    exact thn (h pins s σ H v I h1) fun u s' ⟨v', H', I', r, e1, e2⟩ => by
      subst e1
      subst e2
      exact ⟨_, _, I', r, same_gr E.gh rv⟩
  · cases w
theorem cps_nil : CAp c X [] psNil := fun pos pins s σ H Pr G ρ ds I E q => by
  cases q
  exact Calls.spliced_nil ⟨[], H, I, .nil, G, Gr.refl E.gh, .nil⟩
theorem cps_cons {a : Pv} {r : Pvs} (ha : CEp c X e a) (hr : CAp c X es r) (hs : starEach (e :: es) X.env = (false, eval e X.env) :: starEach es X.env := by rfl) : CAp c X (e :: es) (psCons a r) := fun pos pins s σ H Pr G ρ ds I E q => by
  unfold psCons at q
  split at q
  · rename_i d1 h1
    split at q
    · rename_i ds2 h2
      cases q
      rw [hs]
      show wpAny _ _ (spliced ((false, eval e X.env) :: backTo pos (starEach es X.env))) _ _ s
      refine Calls.spliced_cons (thn (ha pins s σ H Pr G ρ d1 I E h1) fun u s1 ⟨y, H1, I1, r1, G1, g1, q1⟩ => ?_)
      exact thn (hr pos pins s1 σ H1 Pr G1 ρ ds2 I1 (E.gr g1) h2) fun us s2 ⟨xs, H2, I2, r2, G2, g2, q2⟩ => ⟨y :: xs, H2, I2, .cons r1 r2, G2, g1.trans g2, .cons (q1.mono g2.ge) q2⟩
    · cases q
  · cases q
theorem cp_tup {x1} {fs : Pvs} (h : CAp c X es fs) : CEp c X (.Tuple es x1 pos) (pTup fs) := fun pins s σ H Pr G ρ d I E q => by
  unfold pTup at q
  split at q
  · rename_i ds h1
    split at q
    · rename_i hl
      cases q
      have big : LIM ≤ sizeLine := by decide
      refine wpAny_Tuple_spliced (thn (h pos pins s σ H Pr G ρ ds I E h1) fun us s1 ⟨vs, H1, I1, r1, G1, g1, q1⟩ => ?_)
      have l1 := q1.length
      have l2 := r1.length
      refine ⟨by omega, ?_⟩
      obtain ⟨z, H2, I2, rz, G2, gr, rp⟩ := laidT (s := s1) (h' := s1.heap) (tk := s1.toks) I1 g1.gh r1 (by omega) q1
      exact ⟨z, H2, I2, rz, G2, g1.trans gr, rp⟩
    · cases q
  · cases q
theorem CEp.ce {a : Pv} (h : CEp c X e a) : CE c X e (eP a) := fun pins s σ H Pr G ρ ρ' d I E q => by
  unfold eP at q
  cases h1 : a ρ with
  | none => rw [h1] at q; cases q
  | some z =>
    rw [h1] at q
    cases q
    exact thn (h pins s σ H Pr G ρ d I E h1) fun u s' ⟨v, H', I', r, G', g, rp⟩ => ⟨v, H', I', r, G', g.ge, E.gr g, rp⟩
def tPv (c : Ct) (a : Pv) : TE := fun σ H Q => ∃ Pr G ρ d, ER c Pr G H σ ρ ∧ a ρ = some d ∧ ∀ v H' G', Gr G H G' H' → Rp c G' v d → Q v H'
theorem CEp.pe {a : Pv} (h : CEp c X e a) : PE X e (tPv c a) := ⟨fun pins s σ H Q I ⟨Pr, G, ρ, d, E, q, k⟩ =>
  thn (h pins s σ H Pr G ρ d I E q) fun u s' ⟨v, H', I', r, G', g, rp⟩ => ⟨v, H', I', r, k v H' G' g rp⟩⟩
/-- a field's value -/
abbrev eQ (p : Pl) : Ev := eP (pQ p)
theorem ce_q {q : Pl} (h : CPl c X e q) : CE c X e (eQ q) := (cp_q h).ce
/-! ### operations whose last operand is a place -/
theorem o1Q_some {g : D → Option D} {q : Pl} {z : D × List O} (h : o1Q g q ρ = some z) : ∃ y, pkQ ρ q = some y ∧ g y = some z.1 ∧ z.2 = ρ := by
  unfold o1Q at h
  split at h
  · rename_i y h1
    split at h
    · rename_i r h2
      cases h
      exact ⟨y, h1, h2, rfl⟩
    · cases h
  · cases h
theorem ce_b1Q {id : String} {a : Expr} {g : D → Option D} {q : Pl} (C : XC c X) (ho : Op1 c X (fun v => call (.builtin id) [v]) g) (hg : Gl X x) (hm : x ∈ bltNames) (hv : bootBuiltins x = some (.builtin id)) (ha : CPl c X a q) (hn : x ≠ "__name__" := by decide) (hdb : (x == ("__debug__" : Str)) = false := by decide)
    (hs : starEach [a] X.env = [(false, eval a X.env)] := by rfl) : CE c X (.Call (.Name x p) [a] [] pos) (o1Q g q) := by
  intro pins s σ H Pr G ρ ρ' d I E h
  obtain ⟨y, h1, h2, h3⟩ := o1Q_some h
  cases h3
  obtain ⟨v0, hp, rt⟩ := E.placeData h1
  refine wpAny_Call_Name_kw (ld_blt I hg (C.blt x hm) hv ?_ hn hdb)
  refine PyProof.Rows.callWith_builtin1 (spl1 (t := pure .none) hs (thn (ha pins s σ H v0 I hp) fun v s2 ⟨v', H', I2, rv, e1, e2⟩ => ?_)) hs rfl
  subst e1
  subst e2
  exact thn (ho pins s2 σ _ G _ v y d I2 E.gh rv rt h2) fun z s3 ⟨w', H3, I3, r3, G3, g3, q3⟩ => ⟨w', H3, I3, r3, PostE.of (Ge.refl _) E g3 q3⟩
theorem o2Q_some {g : D → D → Option D} {a : Ev} {q : Pl} {z : D × List O} (h : o2Q g a q ρ = some z) : ∃ w y, a ρ = some (w, z.2) ∧ pkQ z.2 q = some y ∧ g w y = some z.1 := by
  unfold o2Q at h
  split at h
  · rename_i w ρ1 h0
    split at h
    · rename_i y h1
      split at h
      · rename_i r h2
        cases h
        exact ⟨w, y, h0, h1, h2⟩
      · cases h
    · cases h
  · cases h
theorem ce_cmpQ {a b : Expr} {op : CmpOp} {g : D → D → Option D} {fa : Ev} {q : Pl} (ho : Op2 c X (compareOp op) g) (ha : CE c X a fa) (hb : CPl c X b q) (hm : behindInMarks op b = false) : CE c X (.Compare a [op] [b] pos) (o2Q g fa q) := by
  intro pins s σ H Pr G ρ ρ' d I E h
  obtain ⟨w, y, h0, h1, h2⟩ := o2Q_some h
  refine wpAny_Compare1 (thn (ha pins s σ H Pr G ρ ρ' w I E h0) fun v s1 ⟨v1, H1, I1, r1, G1, g1, E1, q1⟩ => ?_) hm
  obtain ⟨v0, hp, rt⟩ := E1.placeData h1
  refine thn (hb pins s1 σ H1 v0 I1 hp) fun u s2 ⟨v', H', I2, rv, e1, e2⟩ => ?_
  subst e1
  subst e2
  exact thn (ho pins s2 σ _ G1 v1 _ v u w y d I2 E1.gh r1 rv (.of q1) rt h2) fun z s3 ⟨w', H3, I3, r3, G3, g3, q3⟩ => ⟨w', H3, I3, r3, PostE.of g1 E1 g3 q3⟩
theorem ixQ_some {g : D → D → Option D} {k : Pv} {q : Pl} {z : D × List O} (h : ixQ g q k ρ = some z) : ∃ w y, pkQ ρ q = some w ∧ k ρ = some y ∧ g w y = some z.1 ∧ z.2 = ρ := by
  unfold ixQ at h
  split at h
  · rename_i w h0
    split at h
    · rename_i y h1
      split at h
      · rename_i r h2
        cases h
        exact ⟨w, y, h0, h1, h2, rfl⟩
      · cases h
    · cases h
  · cases h
theorem RpT.gr {v : V} {d : D} (g : Gr G H G' H') (r : RpT c G H v d) : RpT c G' H' v d := by
  cases r with
  | of r => exact .of (r.mono g.ge)
  | lst h r => exact .lst (g.same _ _ h) (r.mono g.ge)
  | dic h h1 h2 r1 r2 => exact .dic (g.same _ _ h) h1 h2 (r1.mono g.ge) (r2.mono g.ge)
end
end VL

set_option Elab.async false
set_option linter.all false
set_option maxRecDepth 100000
/-! V24: places written. -/
namespace VL
open PySem PySem.Spec PyProof.Rows L2
section
variable {c : Ct} {X : Cx} {Pr G G' H H' : Hp} {σ : L2.St} {ρ ρ' : List O} {pins : List (Addr × Obj)} {s : Shared} {e : Expr} {es : List Expr} {pos p p' apos cpos : Pos} {x f : Str}
theorem ce_ixQ {a b : Expr} {g : D → D → Option D} {q : Pl} {k : Pv} (hr : IxV c X g) (ha : CPl c X a q) (hb : CEp c X b k) (hs : PlainIx b) : CE c X (.Subscript a b pos) (ixQ g q k) := by
  intro pins s σ H Pr G ρ ρ' d I E h
  obtain ⟨w, y, h0, h1, h2, h3⟩ := ixQ_some h
  cases h3
  obtain ⟨v0, hp, rt⟩ := E.placeData h0
  refine Subscript_ (thn (ha pins s σ H v0 I hp) fun v s1 ⟨v', H', I1, rv, e1, e2⟩ => ?_)
  subst e1
  subst e2
  refine thn (hb pins s1 σ _ Pr G _ y I1 E h1) fun u s2 ⟨v2, H2, I2, r2, G2, g2, q2⟩ => ?_
  exact thn (hr a b pins s2 σ H2 G2 _ v2 v u w y d I2 g2.gh rv r2 (rt.gr g2) (.of q2) h2 (hs _ _)) fun z s3 ⟨w', H3, I3, r3, G3, g3, q3⟩ => ⟨w', H3, I3, r3, PostE.of g2.ge (E.gr g2) g3 q3⟩
/-- the thing that stands alone at a place is changed -/
theorem ER.wr {q : Pl} {o u : O} {a : Addr} {t : HO} (E : ER c Pr G H σ ρ) (h : getP ρ q = some o) (hp : PlS c σ H q (some (.ref a))) (ho : ∀ s f, RpO c G H o s f → ∃ b, s = some (.ref b) ∧ f = [b]) (nb : noBor u = true)
    (hu : RpO c G (upd H a t) u (some (.ref a)) [a]) : ER c Pr G (upd H a t) σ (setP ρ q u) := by
  obtain ⟨s, fp, R, h1, h2, nd, ap, th, k⟩ := E.swap h
  have es := h1.uniq hp
  subst es
  obtain ⟨b, e1, e2⟩ := ho _ _ h2
  cases e1
  subst e2
  have ha := ap a (by simp)
  have nR : a ∉ R := fun z => (List.nodup_append.mp nd).2.2 a (by simp) a z rfl
  refine k G (upd H a t) u [a] (Ge.refl _) (fun b w e => ?_) (fun b w e => ?_) (fun b hb => ?_) (by simp) (fun b hb => ?_) nb hu
  · rw [upd_ne (ne_of_none e ha.2)]
    exact E.gh b w e
  · rw [upd_ne (ne_of_none e ha.1)]
    exact E.pr b w e
  · have hne : b ≠ a := fun z => nR (z ▸ hb)
    rw [upd_ne hne]
    exact ⟨rfl, (ap b (List.mem_append_right _ hb)).2⟩
  · rw [List.mem_singleton.mp hb]
    exact ⟨ha.1, ha.2, nR⟩
theorem ER.dicP {q : Pl} {l : List (D × D)} (E : ER c Pr G H σ ρ) (h : getP ρ q = some (.dic l)) : ∃ a ep hs xs ys, PlS c σ H q (some (.ref a)) ∧ H a = some (dO a ep hs xs ys) ∧ hs = l.map (fun p => hashK c.w p.1) ∧ keysNd l ∧ RpA c G xs (l.map (·.1)) ∧ RpA c G ys (l.map (·.2)) := by
  obtain ⟨s, fp, R, h1, ⟨a, ep, hs, xs, ys, e, _, h3, h4, h5, h6, h7⟩, _⟩ := E.swap h
  subst e
  exact ⟨a, ep, hs, xs, ys, h1, h3, h4, h5, h6, h7⟩
theorem ER.lstP {q : Pl} {l : List D} (E : ER c Pr G H σ ρ) (h : getP ρ q = some (.lst l)) : ∃ a xs, PlS c σ H q (some (.ref a)) ∧ H a = some (.lst xs) ∧ RpA c G xs l := by
  obtain ⟨s, fp, R, h1, ⟨a, xs, e, _, h3, h4⟩, _⟩ := E.swap h
  subst e
  exact ⟨a, xs, h1, h3, h4⟩
theorem RpO.one {l : List (D × D)} : ∀ s f, RpO c G H (.dic l) s f → ∃ b, s = some (.ref b) ∧ f = [b] := fun s f ⟨a, ep, hs, xs, ys, e, e2, _⟩ => ⟨a, e, e2⟩
theorem RpO.oneL {l : List D} : ∀ s f, RpO c G H (.lst l) s f → ∃ b, s = some (.ref b) ∧ f = [b] := fun s f ⟨a, xs, e, e2, _⟩ => ⟨a, e, e2⟩
theorem sPutQ_some {q : Pl} {k : Pv} {e : Ev} {z : Fl × List O} (h : sPutQ q k e ρ = some z) : ∃ v ρ1 key l cl, e ρ = some (v, ρ1) ∧ k ρ1 = some key ∧ getP ρ1 q = some (.dic l) ∧ kcls key = some cl ∧ keysAre cl l = true ∧ l.length < LIM ∧ z = (.nx, setP ρ1 q (.dic (dput key v l))) := by
  unfold sPutQ at h
  split at h
  · rename_i v ρ1 h1
    split at h
    · rename_i key h2
      split at h
      · rename_i l h3
        split at h
        · rename_i o h4
          split at h
          · rename_i h5
            cases h
            obtain ⟨cl, k1, k2, _⟩ := dAsk_some h4
            exact ⟨v, ρ1, key, l, cl, h1, h2, h3, k1, k2, h5, rfl⟩
          · cases h
        · cases h
      · cases h
    · cases h
  · cases h
theorem cs_putQ {q : Pl} {oe ke e : Expr} {fk : Pv} {fe : Ev} (C : XC c X) (ho : CPl c X oe q) (hk : CEp c X ke fk) (he : CE c X e fe) (hs : swapsWith e (some (.Subscript oe ke p')) pos.line X.env = pure false := by rfl) :
    CS c X (.Assign [.Subscript oe ke p'] e pos) (sPutQ q fk fe) := ⟨fun pins s σ H D0 I ⟨Pr, G, ρ, fl, ρ', E, w, kk⟩ => by
  obtain ⟨v, ρ1, key, l, cl, h1, h2, h3, k1, k2, h5, h6⟩ := sPutQ_some w
  cases h6
  refine wpAny_Assign_Subscript (thn (he pins s σ H Pr G ρ ρ1 v I E h1) fun r s1 ⟨vv, H1, I1, rv, G1, g1, E1, q1⟩ => ?_) hs
  obtain ⟨a, ep0, hs0, xs0, ys0, e0, hH0, _⟩ := E1.dicP h3
  refine thn (ho pins s1 σ H1 _ I1 e0) fun u s2 ⟨w', H', I2, ru, ew, eh⟩ => ?_
  subst ew
  subst eh
  cases ru
  refine thn (hk pins s2 σ _ Pr G1 ρ1 key I2 E1 h2) fun iv s3 ⟨y, H3, I3, ry, G3, g3, q3⟩ => ?_
  have E3 := E1.gr g3
  obtain ⟨a', ep, hs', xs, ys, e1, hH, g1', g2', g3', g4'⟩ := E3.dicP h3
  have ea := (PlS.ge g3.same e0).uniq e1
  cases ea
  have big : LIM ≤ sizeLine := by decide
  have hl1 := dput_len (key := key) (d := v) l
  have hkd : ∀ p ∈ dput key v l, (kcls p.1).isSome = true := fun p hp => by
    rcases dput_mem p hp with e | ⟨z, hz, e⟩
    · rw [e, k1]; rfl
    · rw [← e]; exact g2'.2 z hz
  obtain ⟨a2, ep2, hs2, xs2, ys2, ea, eu, hH2, lo, hl, h7⟩ := d_shape C I3 E3.gh (.dic hH g1' g2' g3' g4') (.of (H := H3) q3) (x := .ref a) (v := .ref a) rfl ry k1 k2
  cases ea
  rw [hH] at hH2
  have hH2 := Option.some.inj hH2
  rcases h7 with ⟨_, b, k, x3, rfl, rfl, n1, n2, n3, T, D3⟩ | ⟨_, k, kvs, n1, n2, n3, n4, M, D3⟩
  · have nd : (x3.map (·.1)).Nodup := let ⟨_, _, _, _, _, _, _, _, nd⟩ := D3; nd
    obtain ⟨xs', ys', T'⟩ := T.put n1 n2.1 n2.2 n3 rv (q1.mono g3.ge) nd
    refine wpAny_setItem_heap (hsz := by rw [T.rpa.2.2.2]; omega) (room1 C _ (by show X.A.units + 1 ≤ _; omega)) n2 D3 fun h' D4 sb => ?_
    obtain ⟨ep4, ph, nd4⟩ := dPhi_T3 (l := dput key v l) C lo (by omega) D4 T'
    have hes : ∃ q, h'.get? a = some q := let ⟨q, _, _, hq, _⟩ := D4; ⟨q, hq⟩
    have I4 := d_write (t' := s3.toks + (nestedKind X.prog X.w).draws k) I3 (by rw [hH]; exact True.intro) sb hes (dO_ok ph)
    exact ⟨σ, _, I4, kk σ _ G3 (g1.trans g3.ge) (E3.wr h3 e1 RpO.one rfl ⟨a, _, _, _, _, rfl, rfl, upd_same, rfl, T'.nd nd4 hkd, T'.rpa.1, T'.rpa.2.1⟩)⟩
  · have nd : (kvs.map (·.1)).Nodup := let ⟨_, _, _, _, _, _, _, _, nd⟩ := D3; nd
    obtain ⟨xs', ys', M'⟩ := M.put n1 n3 n4 rv (q1.mono g3.ge) nd
    refine wpAny_setItem_pairs (hsz := by rw [M.rpa.2.2]; omega) n2 D3 fun h' D4 sb => ?_
    obtain ⟨ep4, ph, nd4⟩ := dPhi_M3 (l := dput key v l) C lo (by omega) D4 M'
    have hes : ∃ q, h'.get? a = some q := let ⟨q, _, _, hq, _⟩ := D4; ⟨q, hq⟩
    have I4 := d_write (t' := s3.toks + 1) I3 (by rw [hH]; exact True.intro) sb hes (dO_ok ph)
    exact ⟨σ, _, I4, kk σ _ G3 (g1.trans g3.ge) (E3.wr h3 e1 RpO.one rfl ⟨a, _, _, _, _, rfl, rfl, upd_same, rfl, M'.nd nd4 hkd, M'.rpa.1, M'.rpa.2.1⟩)⟩⟩
/-- place.append(e) -/
theorem cs_appQ {q : Pl} {o e : Expr} {fe : Pv} (ho : CPl c X o q) (he : CEp c X e fe) (hs : swapsWith (.Call (.Attribute o "append" apos) [e] [] cpos) none pos.line X.env = pure false := by rfl)
    (hbase : attributeBase o "append" X.env (eval o X.env) = eval o X.env := by rfl) (hst : starEach [e] X.env = (false, eval e X.env) :: starEach [] X.env := by rfl) (hline : (apos.endLine == cpos.line) = true := by rfl) :
    CS c X (.Expr (.Call (.Attribute o "append" apos) [e] [] cpos) pos) (sAppQ q fe) := ⟨fun pins s σ H D0 I ⟨Pr, G, ρ, fl, ρ', E, w, k⟩ => by
  unfold sAppQ at w
  split at w
  · rename_i d h0
    split at w
    · rename_i l h1
      split at w
      · rename_i hz
        cases w
        obtain ⟨a0, xs0, e0, hA0, _⟩ := E.lstP h1
        refine (ps_expr (pe_bm PySem.F.plainAttrs_list PySem.F.slot_list_append PySem.F.type_list_append mt_append ho.pe (pa_cons he.pe pa_nil hst) hbase (by rw [hst]; rfl) hline hst rfl) hs).run pins s σ H D0 I ?_
        refine ⟨.ref a0, e0, .inl ⟨rfl, xs0, .inl (.inl hA0)⟩, Pr, G, ρ, d, E, h0, fun y H' G' g r => ?_⟩
        have E' := E.gr g
        obtain ⟨a1, xs1, e1, hA1, ra⟩ := E'.lstP h1
        have ea := (PlS.ge g.same e0).uniq e1
        cases ea
        have big : LIM ≤ sizeLine := by decide
        refine ⟨a0, xs1, y, rfl, rfl, hA1, by rw [ra.length]; omega, ?_⟩
        exact k σ _ G' g.ge (E'.wr h1 e1 RpO.oneL rfl ⟨a0, _, rfl, rfl, upd_same, ra.append (.cons r .nil)⟩)
      · cases w
    · cases w
  · cases w⟩
/-- place.pop() -/
theorem ce_popQ {q : Pl} {o : Expr} (ho : CPl c X o q) (hbase : attributeBase o "pop" X.env (eval o X.env) = eval o X.env := by rfl) (hline : (apos.endLine == cpos.line) = true := by rfl) :
    CE c X (.Call (.Attribute o "pop" apos) [] [] cpos) (ePopQ q) := by
  intro pins s σ H Pr G ρ ρ' d I E h
  unfold ePopQ at h
  split at h
  · rename_i l h0
    split at h
    · rename_i d' h1
      cases h
      obtain ⟨a, xs, e0, hA, ra⟩ := E.lstP h0
      refine (pe_bm0 PySem.F.plainAttrs_list PySem.F.slot_list_pop PySem.F.type_list_pop mt_pop ho.pe hbase hline).run pins s σ H _ I ⟨.ref a, e0, .inl ⟨rfl, xs, .inl (.inl hA)⟩, ?_⟩
      rw [List.getLast?_eq_getElem?] at h1
      obtain ⟨v, hv, rv⟩ := ra.get h1
      rw [← ra.length] at hv
      refine ⟨a, xs, v, rfl, rfl, hA, hv, G, Ge.refl _, E.wr h0 e0 RpO.oneL rfl ⟨a, _, rfl, rfl, upd_same, rpa_dropLast ra⟩, rv⟩
    · cases h
  · cases h
/-! ### fields stored -/
/-- what stands ahead of the slots comes into a field -/
theorem ER.fput {i k : Nat} {y : Str} {v : V} {u o0 : O} {fs : Fs} (E : ER c Pr G H (some v :: σ) (u :: ρ)) (hi : ρ[i]? = some o0) (ho : unb o0 = .ins k fs) (nb : noBor u = true) :
    ∃ a C dx fl, σ[i]? = some (some (.ref a)) ∧ H a = some (.ins C dx fl) ∧ c.ci k = some C ∧ fl.length = fs.size ∧ ER c Pr G (upd H a (.ins C dx (putF y v fl))) σ (setP ρ (.f i y) u) := by
  obtain ⟨l, nd, ap, l1, l2, el, ru, sl⟩ := E.own
  subst el
  obtain ⟨s, m1, m2, e1, pm, ro, kk⟩ := sl.at hi
  obtain ⟨r1, r2⟩ := ro.unb
  rw [ho] at r1
  obtain ⟨a, dx, C, fl, f', rfl, hci, hA, hD, ef, rf⟩ := r1
  subst ef
  have sz := rf.size
  obtain ⟨f1, f2, pf, k1, k2, k3⟩ := rf.put (x := y)
  -- the addresses, apart
  have pA : (l1 ++ l2).Perm (a :: dx :: ((l1 ++ f2) ++ (f1 ++ m2))) := by
    have p1 : (l1 ++ l2).Perm (l1 ++ ((a :: dx :: (f1 ++ f2)) ++ m2)) := (pm.trans (List.Perm.append_right m2 ((pf.cons dx).cons a))).append_left l1
    refine p1.trans ?_
    refine (List.perm_append_comm).trans ?_
    have e1 : (a :: dx :: (f1 ++ f2)) ++ m2 ++ l1 = a :: dx :: (f1 ++ (f2 ++ (m2 ++ l1))) := by simp
    have e2 : a :: dx :: ((l1 ++ f2) ++ (f1 ++ m2)) = a :: dx :: (l1 ++ (f2 ++ (f1 ++ m2))) := by simp
    rw [e1, e2]
    refine ((?_ : (f1 ++ (f2 ++ (m2 ++ l1))).Perm (l1 ++ (f2 ++ (f1 ++ m2)))).cons dx).cons a
    refine (List.perm_append_comm_assoc f1 f2 (m2 ++ l1)).trans ?_
    refine List.Perm.trans ?_ (List.perm_append_comm_assoc f2 l1 (f1 ++ m2))
    refine List.Perm.append_left f2 ?_
    refine List.Perm.trans ?_ (List.perm_append_comm (l₁ := f1 ++ m2) (l₂ := l1))
    rw [List.append_assoc]
  have nd2 := pA.nodup_iff.mp nd
  have na : a ∉ dx :: ((l1 ++ f2) ++ (f1 ++ m2)) := (List.nodup_cons.mp nd2).1
  have hapA := ap a (pA.mem_iff.mpr (by simp))
  have out : ∀ b ∈ dx :: ((l1 ++ f2) ++ (f1 ++ m2)), upd H a (.ins C dx (putF y v fl)) b = H b := fun b hb => upd_ne fun z => na (z ▸ hb)
  refine ⟨a, C, dx, fl, e1, hA, hci, sz, ?_⟩
  have ru' : RpO c G (upd H a (.ins C dx (putF y v fl))) u (some v) l1 := ru.mono (Ge.refl _) fun b hb => out b (by simp [hb])
  obtain ⟨m, pm2, rm⟩ := k3 G (upd H a (.ins C dx (putF y v fl))) u v l1 (Ge.refl _) (fun b hb => out b (by simp [hb])) ru'
  have rI : RpO c G (upd H a (.ins C dx (putF y v fl))) (.ins k (fs.put y u)) (some (.ref a)) (a :: dx :: m) := ⟨a, dx, C, _, m, rfl, hci, upd_same, (out dx (by simp)).trans hD, rfl, rm⟩
  have nb0 : noBorF fs = true ∨ unb o0 = o0 := by
    cases o0 with
    | bor j o1 =>
      obtain ⟨_, n, _⟩ := ro
      have q2 : o1 = .ins k fs := ho
      rw [q2] at n
      exact .inl n
    | _ => exact .inr rfl
  have rN : RpO c G (upd H a (.ins C dx (putF y v fl))) (reb o0 (.ins k (fs.put y u))) (some (.ref a)) (a :: dx :: m) := by
    rcases nb0 with n | n
    · exact r2 _ _ _ _ (noBorF_put nb n) rI
    · cases o0 with
      | bor j o1 =>
        have q2 : o1 = .ins k fs := ho
        have n : o1 = .bor j o1 := n
        rw [q2] at n
        cases n
      | _ => exact rI
  obtain ⟨m3, pm3, sm⟩ := kk G _ (some (.ref a)) _ (a :: dx :: m) (Ge.refl _) (fun b hb => out b (by simp [hb])) rN
  rw [set_same e1] at sm
  have es : setP ρ (.f i y) u = ρ.set i (reb o0 (.ins k (fs.put y u))) := by
    unfold setP
    simp only [hi, ho, insOf]
  rw [es]
  have pB : m3.Perm (a :: dx :: ((l1 ++ f2) ++ m2)) := by
    refine pm3.trans ?_
    have p1 : (a :: dx :: m ++ m2).Perm (a :: dx :: (l1 ++ f2) ++ m2) := List.Perm.append_right m2 ((pm2.cons dx).cons a)
    exact p1
  have sub : (a :: dx :: ((l1 ++ f2) ++ m2)).Sublist (a :: dx :: ((l1 ++ f2) ++ (f1 ++ m2))) := by
    refine List.Sublist.cons_cons _ (List.Sublist.cons_cons _ ?_)
    exact List.Sublist.append_left (List.sublist_append_right f1 m2) _
  refine ⟨fun b w e => ?_, fun b w e => ?_, m3, pB.nodup_iff.mpr (nd2.sublist sub), fun b hb => ap b (pA.mem_iff.mpr (sub.subset (pB.mem_iff.mp hb))), sm⟩
  · rw [upd_ne (ne_of_none e hapA.1)]
    exact E.pr b w e
  · rw [upd_ne (ne_of_none e hapA.2)]
    exact E.gh b w e
theorem ER.ahead {v : V} {d : D} (E : ER c Pr G H σ ρ) (r : Rp c G v d) : ER c Pr G H (some v :: σ) (.val d :: ρ) := by
  obtain ⟨l, nd, ap, sl⟩ := E.own
  exact ⟨E.pr, E.gh, l, nd, ap, [], l, rfl, ⟨rfl, v, rfl, r⟩, sl⟩
theorem cs_fld {i : Nat} {o e : Expr} {fe : Ev} (C : XC c X) (ci : CiOk c f) (ho : CPl c X o (.s i)) (he : CE c X e fe) (hs : swapsWith e (some (.Attribute o f p')) pos.line X.env = pure false := by rfl) :
    CS c X (.Assign [.Attribute o f p'] e pos) (sFld i f fe) := ⟨fun pins s σ H D0 I ⟨Pr, G, ρ, fl, ρ', E, w, k⟩ => by
  unfold sFld at w
  split at w
  · rename_i d ρ1 h0
    split at w
    · rename_i o1 h1
      split at w
      · rename_i kf h2
        split at w
        · rename_i hz
          cases w
          refine (ps_fld ho.pe he.pe hs).run pins s σ H D0 I ⟨Pr, G, ρ, d, ρ1, E, h0, fun v H' ⟨G', g, E', r⟩ => ?_⟩
          cases q : ρ1[i]? with
          | none => rw [q] at h1; cases h1
          | some o0 =>
            rw [q] at h1
            have e1 : unb o0 = o1 := Option.some.inj h1
            have e2 : o1 = .ins kf.1 kf.2 := by
              cases o1 with
              | ins k fs => cases h2; rfl
              | _ => cases h2
            obtain ⟨a, C0, dx, fl, s1, hA, hci, sz, E2⟩ := (E'.ahead r).fput (y := f) q (e1.trans e2) rfl
            obtain ⟨c1, c2⟩ := ci _ _ hci
            exact ⟨.ref a, s1, a, C0, dx, fl, rfl, hA, by rw [C.K]; exact c1, by rw [C.K]; exact c2, by omega, k σ _ G' g E2⟩
        · cases w
      · cases w
    · cases w
  · cases w⟩
theorem cs_fldO {i : Nat} {o e : Expr} {fe : Ev} (C : XC c X) (ci : CiOk c f) (ho : CPl c X o (.s i)) (he : CF c X e fe) (hs : swapsWith e (some (.Attribute o f p')) pos.line X.env = pure false := by rfl) :
    CS c X (.Assign [.Attribute o f p'] e pos) (sFldO i f fe) := ⟨fun pins s σ H D0 I ⟨Pr, G, ρ, fl, ρ', E, w, k⟩ => by
  unfold sFldO at w
  split at w
  · rename_i d ρ1 h0
    split at w
    · rename_i o1 h1
      split at w
      · rename_i kf h2
        split at w
        · rename_i hz
          refine (ps_fld ho.pe he.pe hs).run pins s σ H D0 I ⟨Pr, G, ρ, d, ρ1, E, h0, fun v H' ⟨G', u, g, E', hu⟩ => ?_⟩
          cases q : ρ1[i]? with
          | none => rw [q] at h1; cases h1
          | some o0 =>
            rw [q] at h1
            have e1 : unb o0 = o1 := Option.some.inj h1
            have e2 : o1 = .ins kf.1 kf.2 := by
              cases o1 with
              | ins k fs => cases h2; rfl
              | _ => cases h2
            have key : noBor u = true ∧ fl = .nx ∧ ρ' = setP ρ1 (.f i f) u := by
              rcases hu with ⟨z, rfl, rfl⟩ | ⟨z, rfl, rfl⟩
              · cases w; exact ⟨rfl, rfl, rfl⟩
              · cases w; exact ⟨rfl, rfl, rfl⟩
            obtain ⟨n, rfl, rfl⟩ := key
            obtain ⟨a, C0, dx, fl, s1, hA, hci, sz, E2⟩ := E'.fput (y := f) q (e1.trans e2) n
            obtain ⟨c1, c2⟩ := ci _ _ hci
            exact ⟨.ref a, s1, a, C0, dx, fl, rfl, hA, by rw [C.K]; exact c1, by rw [C.K]; exact c2, by omega, k σ _ G' g E2⟩
        · cases w
      · cases w
    · cases w
  · cases w⟩
theorem ct_cmpQ {a b : Expr} {op : CmpOp} {g : D → D → Option D} {fa : Ev} {q : Pl} (ho : Op2 c X (compareOp op) g) (ha : CE c X a fa) (hb : CPl c X b q) (hm : behindInMarks op b = false) : CT c X (.Compare a [op] [b] pos) (o2Q g fa q) := by
  intro pins s σ H Pr G ρ ρ' k I E h
  obtain ⟨w, y, h0, h1, h2⟩ := o2Q_some h
  refine wpAny_isTrue_Compare1 (thn (ha pins s σ H Pr G ρ ρ' w I E h0) fun v s1 ⟨v1, H1, I1, r1, G1, g1, E1, q1⟩ => ?_) hm
  obtain ⟨v0, hp, rt⟩ := E1.placeData h1
  refine thn (hb pins s1 σ H1 v0 I1 hp) fun u s2 ⟨v', H', I2, rv, e1, e2⟩ => ?_
  subst e1
  subst e2
  refine thn (ho pins s2 σ _ G1 v1 _ v u w y _ I2 E1.gh r1 rv (.of q1) rt h2) fun z s3 ⟨w', H3, I3, r3, G3, g3, q3⟩ => ?_
  cases q3
  cases r3
  exact wpAny_truthy_bool ⟨H3, I3, PostT.of g1 E1 g3⟩
end
end VL

set_option Elab.async false
set_option linter.all false
set_option maxRecDepth 100000
/-! V25: what is lent to a def, and comes back changed. -/
namespace VL
open PySem PySem.Spec PyProof.Rows L2
section
variable {c : Ct} {X : Cx} {Pr G G' H H' : Hp} {σ : L2.St} {ρ ρ' : List O} {pins : List (Addr × Obj)} {s : Shared} {e : Expr} {es : List Expr} {pos p p' apos cpos : Pos} {x f : Str}
/-- everything that stands and is neither seen nor of fp -/
def aside (G H : Hp) (fp : List Addr) : Hp := fun b => if (G b).isSome then none else if b ∈ fp then none else H b
theorem aside_some {fp : List Addr} {b : Addr} {u : HO} (h : aside G H fp b = some u) : G b = none ∧ b ∉ fp ∧ H b = some u := by
  unfold aside at h
  split at h
  · cases h
  · rename_i hG
    split at h
    · cases h
    · rename_i hf
      refine ⟨?_, hf, h⟩
      cases e : G b with
      | none => rfl
      | some w => rw [e] at hG; exact absurd rfl hG
theorem aside_of {fp : List Addr} {b : Addr} {u : HO} (h1 : G b = none) (h2 : b ∉ fp) (h3 : H b = some u) : aside G H fp b = some u := by
  unfold aside
  rw [h1, if_neg (by simp), if_neg h2, h3]
theorem aside_fp {fp : List Addr} {b : Addr} (h : b ∈ fp) : aside G H fp b = none := by
  unfold aside
  rw [if_pos h]
  split <;> rfl
theorem ER.lend {q : Pl} {o : O} (E : ER c Pr G H σ ρ) (h : getP ρ q = some o) : ∃ s Pr1, PlS c σ H q s ∧ ER c Pr1 G H [s] [o] ∧
    ∀ G' H' o', Ge G G' → noBor o' = true → ER c Pr1 G' H' [s] [o'] → ER c Pr G' H' σ (setP ρ q o') := by
  obtain ⟨s, fp, R, h1, h2, nd, ap, th, k⟩ := E.swap h
  refine ⟨s, aside G H fp, h1, ⟨fun b u e => ?_, E.gh, fp, (List.nodup_append.mp nd).1, fun b hb => ⟨aside_fp hb, (ap b (List.mem_append_left _ hb)).2⟩, fp, [], by simp, h2, rfl⟩, fun G' H' o' g nb E' => ?_⟩
  · obtain ⟨q1, _, q3⟩ := aside_some e
    exact ⟨q3, q1⟩
  · obtain ⟨l', nd', ap', f1, f2, el, ro, sl⟩ := E'.own
    have e2 : f2 = [] := sl
    subst e2
    rw [List.append_nil] at el
    subst el
    have keep : ∀ b u, G b = none → b ∉ fp → H b = some u → H' b = some u ∧ G' b = none := fun b u h1 h2 h3 => E'.pr b u (aside_of h1 h2 h3)
    have nfp : ∀ b u, Pr b = some u → b ∉ fp := fun b u e hb => by
      rw [(ap b (List.mem_append_left _ hb)).1] at e
      cases e
    refine k G' H' o' l' g E'.gh (fun b u e => ?_) (fun b hb => ?_) nd' (fun b hb => ?_) nb ro
    · obtain ⟨p1, p2⟩ := E.pr b u e
      exact keep b u p2 (nfp b u e) p1
    · obtain ⟨u, hu⟩ := th b hb
      have n : b ∉ fp := fun z => (List.nodup_append.mp nd).2.2 b z b hb rfl
      have r := keep b u (ap b (List.mem_append_right _ hb)).2 n hu
      exact ⟨r.1.trans hu.symm, r.2⟩
    · obtain ⟨a1, a2⟩ := ap' b hb
      refine ⟨?_, a2, fun hR => ?_⟩
      · cases e : Pr b with
        | none => rfl
        | some u =>
          obtain ⟨p1, p2⟩ := E.pr b u e
          rw [aside_of p2 (nfp b u e) p1] at a1
          cases a1
      · obtain ⟨u, hu⟩ := th b hR
        have n : b ∉ fp := fun z => (List.nodup_append.mp nd).2.2 b z b hR rfl
        rw [aside_of (ap b (List.mem_append_right _ hR)).2 n hu] at a1
        cases a1
/-- what stands ahead of the slots is put apart, and taken back -/
theorem ER.park {v : Option V} {o : O} (E : ER c Pr G H (v :: σ) (o :: ρ)) : ∃ Pr', ER c Pr' G H σ ρ ∧ ∀ G' H' σ' ρ', Ge G G' → ER c Pr' G' H' σ' ρ' → ER c Pr G' H' (v :: σ') (o :: ρ') := by
  obtain ⟨l, nd, ap, l1, l2, el, ro, sl⟩ := E.own
  subst el
  have th := ro.there
  obtain ⟨nd1, nd2, nd3⟩ := List.nodup_append.mp nd
  refine ⟨fun b => if b ∈ l1 then H b else Pr b, ⟨fun b u e => ?_, E.gh, l2, nd2, fun b hb => ?_, sl⟩, fun G' H' σ' ρ' g E' => ?_⟩
  · by_cases hb : b ∈ l1
    · have e : (if b ∈ l1 then H b else Pr b) = some u := e
      rw [if_pos hb] at e
      exact ⟨e, (ap b (List.mem_append_left _ hb)).2⟩
    · have e : (if b ∈ l1 then H b else Pr b) = some u := e
      rw [if_neg hb] at e
      exact E.pr b u e
  · have n : b ∉ l1 := fun z => nd3 b z b hb rfl
    show (if b ∈ l1 then H b else Pr b) = none ∧ _
    rw [if_neg n]
    exact ap b (List.mem_append_right _ hb)
  · obtain ⟨m, md, mp, ms⟩ := E'.own
    have inl : ∀ b ∈ l1, H' b = H b ∧ G' b = none := fun b hb => by
      obtain ⟨u, hu⟩ := th b hb
      have r := E'.pr b u (by show (if b ∈ l1 then H b else Pr b) = some u; rw [if_pos hb]; exact hu)
      exact ⟨r.1.trans hu.symm, r.2⟩
    have nm : ∀ b ∈ l1, b ∉ m := fun b hb z => by
      obtain ⟨u, hu⟩ := th b hb
      have r := (mp b z).1
      have r : (if b ∈ l1 then H b else Pr b) = none := r
      rw [if_pos hb, hu] at r
      cases r
    refine ⟨fun b u e => ?_, E'.gh, l1 ++ m, List.nodup_append.mpr ⟨nd1, md, fun b hb b' hb' e => nm b hb (e ▸ hb')⟩, fun b hb => ?_, l1, m, rfl, ro.mono g fun b hb => (inl b hb).1, ms⟩
    · have n : b ∉ l1 := fun z => by
        rw [(ap b (List.mem_append_left _ z)).1] at e
        cases e
      exact E'.pr b u (by show (if b ∈ l1 then H b else Pr b) = some u; rw [if_neg n]; exact e)
    · rcases List.mem_append.mp hb with z | z
      · exact ⟨(ap b (List.mem_append_left _ z)).1, (inl b z).2⟩
      · refine ⟨?_, (mp b z).2⟩
        have n : b ∉ l1 := fun w => nm b w z
        have r := (mp b z).1
        have r : (if b ∈ l1 then H b else Pr b) = none := r
        rw [if_neg n] at r
        exact r
/-- a new thing beside all that stood -/
theorem ER.add {v : Option V} {o : O} (E : ER c Pr G H σ ρ) (g : Ge G G') (E' : ER c (aside G H []) G' H' [v] [o]) : ER c Pr G' H' (v :: σ) (o :: ρ) := by
  obtain ⟨l, nd, ap, sl⟩ := E.own
  obtain ⟨m, md, mp, f1, f2, el, ro, s2⟩ := E'.own
  have e2 : f2 = [] := s2
  subst e2
  rw [List.append_nil] at el
  subst el
  have th := sl.there
  have inl : ∀ b ∈ l, H' b = H b ∧ G' b = none ∧ b ∉ m := fun b hb => by
    obtain ⟨u, hu⟩ := th b hb
    have q := aside_of (fp := []) (ap b hb).2 (by simp) hu
    have r := E'.pr b u q
    refine ⟨r.1.trans hu.symm, r.2, fun z => ?_⟩
    rw [(mp b z).1] at q
    cases q
  refine ⟨fun b u e => ?_, E'.gh, m ++ l, List.nodup_append.mpr ⟨md, nd, fun b hb b' hb' e => (inl b' hb').2.2 (e ▸ hb)⟩, fun b hb => ?_, m, l, rfl, ro, sl.mono g fun b hb => (inl b hb).1⟩
  · obtain ⟨p1, p2⟩ := E.pr b u e
    exact E'.pr b u (aside_of p2 (by simp) p1)
  · rcases List.mem_append.mp hb with z | z
    · refine ⟨?_, (mp b z).2⟩
      cases e : Pr b with
      | none => rfl
      | some u =>
        obtain ⟨p1, p2⟩ := E.pr b u e
        have q := aside_of (fp := []) p2 (by simp) p1
        rw [(mp b z).1] at q
        cases q
    · exact ⟨(ap b z).1, (inl b z).2.1⟩
/-! ### another table of lent things -/
def Ct.at (c : Ct) (t : Nat → Addr) : Ct := ⟨c.K, c.w, c.ci, t⟩
mutual
theorem Rp.tau {t : Nat → Addr} : ∀ {v : V} {d : D}, Rp c G v d → Rp (c.at t) G v d
  | _, _, .non => .non
  | _, _, .bl b => .bl b
  | _, _, .int i => .int i
  | _, _, .str x => .str x
  | _, _, .lst h r => .lst h (RpA.tau r)
  | _, _, .tup h k r => .tup h k (RpA.tau r)
  | _, _, .dic h1 h2 h3 r1 r2 => .dic h1 h2 h3 (RpA.tau r1) (RpA.tau r2)
theorem RpA.tau {t : Nat → Addr} : ∀ {vs : List V} {ds : List D}, RpA c G vs ds → RpA (c.at t) G vs ds
  | _, _, .nil => .nil
  | _, _, .cons h r => .cons (Rp.tau h) (RpA.tau r)
end
theorem Rp.tau' {t : Nat → Addr} {v : V} {d : D} (h : Rp (c.at t) G v d) : Rp c G v d := Rp.tau (c := c.at t) (t := c.tau) h
theorem RpA.tau' {t : Nat → Addr} {v : List V} {d : List D} (h : RpA (c.at t) G v d) : RpA c G v d := RpA.tau (c := c.at t) (t := c.tau) h
mutual
theorem RpO.tau {t : Nat → Addr} : ∀ {o : O} {s : Option V} {fp : List Addr}, noBor o = true → RpO c G H o s fp → RpO (c.at t) G H o s fp
  | .un, _, _, _, h => h
  | .val d, _, _, _, ⟨h0, v, h1, h2⟩ => ⟨h0, v, h1, h2.tau⟩
  | .lst l, _, _, _, ⟨a, xs, h1, h2, h3, h4⟩ => ⟨a, xs, h1, h2, h3, h4.tau⟩
  | .dic l, _, _, _, ⟨a, ep, hs, xs, ys, h1, h2, h3, h4, h5, h6, h7⟩ => ⟨a, ep, hs, xs, ys, h1, h2, h3, h4, h5, h6.tau, h7.tau⟩
  | .ins n fs, _, _, k, ⟨a, dx, C, flds, f', h1, h2, h3, h4, h5, h6⟩ => ⟨a, dx, C, flds, f', h1, h2, h3, h4, h5, RpF.tau k h6⟩
  | .bor _ _, _, _, k, _ => nomatch k
theorem RpF.tau {t : Nat → Addr} : ∀ {fs : Fs} {l : List (Str × V)} {fp : List Addr}, noBorF fs = true → RpF c G H fs l fp → RpF (c.at t) G H fs l fp
  | .nil, _, _, _, h => h
  | .cons n o r, _, _, k, ⟨v, l', f1, f2, h1, h2, h3, h4⟩ => by
    have k : (noBor o && noBorF r) = true := k
    rw [Bool.and_eq_true] at k
    exact ⟨v, l', f1, f2, h1, h2, RpO.tau k.1 h3, RpF.tau k.2 h4⟩
end
theorem RpO.tau' {t : Nat → Addr} {o : O} {s : Option V} {fp : List Addr} (n : noBor o = true) (h : RpO (c.at t) G H o s fp) : RpO c G H o s fp := RpO.tau (c := c.at t) (t := c.tau) n h
theorem ER.tau {t : Nat → Addr} {s : Option V} {o : O} (n : noBor o = true) (E : ER c Pr G H [s] [o]) : ER (c.at t) Pr G H [s] [o] := by
  obtain ⟨l, nd, ap, f1, f2, el, ro, s2⟩ := E.own
  exact ⟨E.pr, E.gh, l, nd, ap, f1, f2, el, ro.tau n, s2⟩
theorem ER.tau' {t : Nat → Addr} {s : Option V} {o : O} (n : noBor o = true) (E : ER (c.at t) Pr G H [s] [o]) : ER c Pr G H [s] [o] := by
  obtain ⟨l, nd, ap, f1, f2, el, ro, s2⟩ := E.own
  exact ⟨E.pr, E.gh, l, nd, ap, f1, f2, el, ro.tau' n, s2⟩
theorem spP_tau {t : Nat → Addr} {n : Nat} {φ : List D → Option D} {vs : List V} {Q : VK} {Ex : XK} (h : spP (c.at t) n φ vs H Q Ex) : spP c n φ vs H Q Ex := by
  obtain ⟨h1, G, ds, r, g, ra, h2, k⟩ := h
  exact ⟨h1, G, ds, r, g, ra.tau', h2, fun v G' H' gr rp => k v G' H' gr rp.tau⟩
/-! ### what a def promises that is lent a thing -/
def spB (c : Ct) (n j : Nat) (φ : O → List D → Option (D × O)) : Sp := fun vs H Q _ => vs.length = n ∧ ∃ (Pr G : Hp) (o o' : O) (ds : List D) (d : D) (a : Addr), vs[j]? = some (.ref a) ∧ noBor o = true ∧ ER c Pr G H [some (.ref a)] [o] ∧ RpA c G (vs.eraseIdx j) ds ∧ φ o ds = some (d, o') ∧
  ∀ v G' H', Ge G G' → noBor o' = true → ER c Pr G' H' [some (.ref a)] [o'] → Rp c G' v d → Q v H'
theorem spB_tau {t : Nat → Addr} {n j : Nat} {φ : O → List D → Option (D × O)} {vs : List V} {Q : VK} {Ex : XK} (h : spB (c.at t) n j φ vs H Q Ex) : spB c n j φ vs H Q Ex := by
  obtain ⟨h1, Pr, G, o, o', ds, d, a, h2, h3, h4, h5, h6, h7⟩ := h
  exact ⟨h1, Pr, G, o, o', ds, d, a, h2, h3, h4.tau' h3, h5.tau', h6, fun v G' H' g n' E r => h7 v G' H' g n' (E.tau n') r.tau⟩
end
end VL

set_option Elab.async false
set_option linter.all false
set_option maxRecDepth 100000
/-! V26: calls that lend a thing; objects made; defs by their bodies. -/
namespace VL
open PySem PySem.Spec PyProof.Rows L2
/-- arguments, the slot i's own thing the j-th -/
def CAB (c : Ct) (X : Cx) (es : List Expr) (i j : Nat) (f : Evs) : Prop := ∀ (pos : Pos) (pins : List (Addr × Obj)) (s : Shared) (σ : L2.St) (H Pr G : Hp) (ρ ρ' : List O) (ds : List D) (v : V), Inv X pins σ H s → ER c Pr G H σ ρ → σ[i]? = some (some v) → f ρ = some (ds, ρ') →
  wpAny (model X.prog X.w) X.A (spliced (backTo pos (starEach es X.env))) (AP X pins σ fun vs H' => vs[j]? = some v ∧ PostA c Pr G σ ρ' ds (vs.eraseIdx j) H') X.xe s
def lentK (d : D) (o : Option O) : Option (D × O) := match o with
  | some (.bor _ u) => some (d, u)
  | _ => none
/-- the slots of a def that is lent the j-th -/
def insB : Nat → O → List D → List O
  | 0, o, ds => o :: ds.map .val
  | _ + 1, _, [] => []
  | j + 1, o, d :: ds => .val d :: insB j o ds
def runB (n j : Nat) (m : Sm) (o : O) (ds : List D) : Option (D × O) := if (noBor o && hasRef o) = true then match m (insB j (.bor 0 o) ds ++ List.replicate (n - (ds.length + 1)) .un) with
  | some (.rt d, ρ') => lentK d ρ'[j]?
  | some (.nx, ρ') => lentK .none ρ'[j]?
  | _ => none
  else none
def mkB (p n j : Nat) (m : Sm) : O → List D → Option (D × O) := fun o ds => if ds.length + 1 = p ∧ j ≤ ds.length then runB n j m o ds else none
/-- f(.., name, ..), name's own thing lent -/
def eCallB (i : Nat) (φ : O → List D → Option (D × O)) (es : Evs) : Ev := fun ρ => match getP ρ (.s i) with
  | some o0 => if hasRef o0 = true then match es ρ with
    | some (ds, ρ1) => match getP ρ1 (.s i) with
      | some o => match φ o ds with
        | some (d, o') => some (d, setP ρ1 (.s i) o')
        | none => none
      | none => none
    | none => none
    else none
  | none => none
def isIns (cl : Nat) (m : Str) : O → Bool
  | .ins k fs => decide (k = cl) && (fs.get m).isNone
  | _ => false
/-- name.m(..) -/
def eMeth (i cl : Nat) (m : Str) (φ : O → List D → Option (D × O)) (es : Evs) : Ev := fun ρ => match getP ρ (.s i) with
  | some o0 => if isIns cl m o0 = true then match es ρ with
    | some (ds, ρ1) => match getP ρ1 (.s i) with
      | some o => match φ o ds with
        | some (d, o') => some (d, setP ρ1 (.s i) o')
        | none => none
      | none => none
    | none => none
    else none
  | none => none
/-- a new object -/
abbrev Eo := List O → Option (O × List O)
def oMake (cl : Nat) (φ : O → List D → Option (D × O)) (es : Evs) : Eo := fun ρ => match es ρ with
  | some (ds, ρ1) => match φ (.ins cl .nil) ds with
    | some (.none, o) => some (o, ρ1)
    | _ => none
  | none => none
def PostO (c : Ct) (Pr G : Hp) (σ : L2.St) (ρ' : List O) (o : O) : VK := fun v H' => ∃ G', Ge G G' ∧ noBor o = true ∧ ER c Pr G' H' (some v :: σ) (o :: ρ')
def CO (c : Ct) (X : Cx) (e : Expr) (f : Eo) : Prop := ∀ (pins : List (Addr × Obj)) (s : Shared) (σ : L2.St) (H Pr G : Hp) (ρ ρ' : List O) (o : O), Inv X pins σ H s → ER c Pr G H σ ρ → f ρ = some (o, ρ') →
  wpAny (model X.prog X.w) X.A (eval e X.env) (EP X pins σ (PostO c Pr G σ ρ' o)) X.xe s
/-- name = a new object -/
def sOwnO (i : Nat) (f : Eo) : Sm := fun ρ => match f ρ with
  | some (o, ρ1) => some (.nx, ρ1.set i o)
  | none => none
/-- C(..).m(..) -/
def eMethT (f : Eo) (cl : Nat) (m : Str) (φ : O → List D → Option (D × O)) (es : Evs) : Ev := fun ρ => match f ρ with
  | some (o, ρ1) => if isIns cl m o = true then match es ρ1 with
    | some (ds, ρ2) => match φ o ds with
      | some (d, _) => some (d, ρ2)
      | none => none
    | none => none
    else none
  | none => none
/-- the def x, lent the j-th argument -/
def FB (c : Ct) (P : Program) (mg : Str → Option Value) (base : Heap) (k : Nat) (x : Str) (j : Nat) (φ : O → List D → Option (D × O)) : Prop :=
  ∃ f fd ps, mg x = some (.ref f) ∧ PySem.W.keepIn c.K (.ref f) = true ∧ Binds c.K fd ps [] ∧ (∀ o ds r, φ o ds = some r → ds.length + 1 = ps.length ∧ noBor o = true) ∧ FnOk P c.w c.K mg base CX0 k f fd ps (spB c ps.length j φ)
/-- the method m of the class cl -/
def FM (c : Ct) (P : Program) (mg : Str → Option Value) (base : Heap) (k cl : Nat) (m : Str) (φ : O → List D → Option (D × O)) : Prop :=
  ∃ C f fd ps, c.ci cl = some C ∧ Cls c.K C ∧ Meth c.K C m f ∧ Binds c.K fd ps [] ∧ (∀ o ds r, φ o ds = some r → ds.length + 1 = ps.length ∧ noBor o = true) ∧ FnOk P c.w c.K mg base CX0 k f fd ps (spB c ps.length 0 φ)
/-- the class x, by its __init__ -/
def FI (c : Ct) (P : Program) (mg : Str → Option Value) (base : Heap) (k : Nat) (x : Str) (cl : Nat) (φ : O → List D → Option (D × O)) : Prop :=
  ∃ C f fd ps, c.ci cl = some C ∧ mg x = some (.ref C) ∧ Mk c.K C f ∧ Binds c.K fd ps [] ∧ (∀ o ds r, φ o ds = some r → ds.length + 1 = ps.length ∧ noBor o = true) ∧ FnOk P c.w c.K mg base CX0 k f fd ps (spB c ps.length 0 φ)
section
variable {c : Ct} {X : Cx} {Pr G G' H H' : Hp} {σ : L2.St} {ρ ρ' : List O} {pins : List (Addr × Obj)} {s : Shared} {e : Expr} {es : List Expr} {pos p p' apos cpos : Pos} {x f m : Str} {P : Program} {mg : Str → Option Value} {base : Heap} {j k cl i : Nat} {φ : O → List D → Option (D × O)} {fs : Evs}
theorem FP.tau {t : Nat → Addr} {ψ : List D → Option D} (F : FP c P mg base k x ψ) : FP (c.at t) P mg base k x ψ := by
  obtain ⟨f, fd, ps, h1, h2, h3, h4, h5⟩ := F
  exact ⟨f, fd, ps, h1, h2, h3, h4, h5.imp fun vs H Q E h => spP_tau h⟩
theorem FB.tau {t : Nat → Addr} (F : FB c P mg base k x j φ) : FB (c.at t) P mg base k x j φ := by
  obtain ⟨f, fd, ps, h1, h2, h3, h4, h5⟩ := F
  exact ⟨f, fd, ps, h1, h2, h3, h4, h5.imp fun vs H Q E h => spB_tau h⟩
theorem FM.tau {t : Nat → Addr} (F : FM c P mg base k cl m φ) : FM (c.at t) P mg base k cl m φ := by
  obtain ⟨C, f, fd, ps, h1, h2, h3, h4, h5, h6⟩ := F
  exact ⟨C, f, fd, ps, h1, h2, h3, h4, h5, h6.imp fun vs H Q E h => spB_tau h⟩
theorem FI.tau {t : Nat → Addr} (F : FI c P mg base k x cl φ) : FI (c.at t) P mg base k x cl φ := by
  obtain ⟨C, f, fd, ps, h1, h2, h3, h4, h5, h6⟩ := F
  exact ⟨C, f, fd, ps, h1, h2, h3, h4, h5, h6.imp fun vs H Q E h => spB_tau h⟩
theorem FB.mono {k' : Nat} (F : FB c P mg base k x j φ) (h : k ≤ k') : FB c P mg base k' x j φ := by
  obtain ⟨f, fd, ps, h1, h2, h3, h4, h5⟩ := F
  exact ⟨f, fd, ps, h1, h2, h3, h4, h5.mono h⟩
theorem FM.mono {k' : Nat} (F : FM c P mg base k cl m φ) (h : k ≤ k') : FM c P mg base k' cl m φ := by
  obtain ⟨C, f, fd, ps, h1, h2, h3, h4, h5, h6⟩ := F
  exact ⟨C, f, fd, ps, h1, h2, h3, h4, h5, h6.mono h⟩
theorem FI.mono {k' : Nat} (F : FI c P mg base k x cl φ) (h : k ≤ k') : FI c P mg base k' x cl φ := by
  obtain ⟨C, f, fd, ps, h1, h2, h3, h4, h5, h6⟩ := F
  exact ⟨C, f, fd, ps, h1, h2, h3, h4, h5, h6.mono h⟩
theorem XC.at (C : XC c X) (t : Nat → Addr) : XC (c.at t) X := ⟨C.K, C.w, C.calm, C.nd, C.hu, C.blt, C.xe⟩
/-! ### arguments -/
theorem cab_here {f : Evs} (i : Nat) (hr : CA c X es f) (hN : X.N[i]? = some x := by rfl) (hv : Vis X.env.scope x := by first | exact .inl rfl | exact .inr (.inl rfl) | exact .inr (.inr rfl)) (hd : (x == ("__debug__" : Str)) = false := by decide) (hcd : (x == ("__classdict__" : Str)) = false := by decide)
    (hs : starEach (.Name x p :: es) X.env = (false, eval (.Name x p) X.env) :: starEach es X.env := by rfl) : CAB c X (.Name x p :: es) i 0 f := by
  intro pos pins s σ H Pr G ρ ρ' ds v I E hσ h
  rw [hs]
  show wpAny _ _ (spliced ((false, eval (.Name x p) X.env) :: backTo pos (starEach es X.env))) _ _ s
  refine Calls.spliced_cons (thn ((pe_var hN hv hd hcd).run pins s σ H (fun w H' => w = v ∧ H' = H) I ⟨v, hσ, rfl, rfl⟩) fun u s1 ⟨w, H1, I1, r1, e1, e2⟩ => ?_)
  subst e1
  subst e2
  exact thn (hr pos pins s1 σ _ Pr G ρ ρ' ds I1 E h) fun us s2 ⟨xs, H2, I2, r2, q2⟩ => ⟨_ :: xs, H2, I2, .cons r1 r2, rfl, q2⟩
theorem cab_skip {f : Ev} {r : Evs} (ha : CE c X e f) (hr : CAB c X es i j r) (hs : starEach (e :: es) X.env = (false, eval e X.env) :: starEach es X.env := by rfl) : CAB c X (e :: es) i (j + 1) (esCons f r) := by
  intro pos pins s σ H Pr G ρ ρ' ds v I E hσ h
  unfold esCons at h
  cases h1 : f ρ with
  | none => rw [h1] at h; cases h
  | some z1 =>
    obtain ⟨d1, ρ1⟩ := z1
    rw [h1] at h
    cases h2 : r ρ1 with
    | none => simp only [h2] at h; cases h
    | some z2 =>
      obtain ⟨ds2, ρ2⟩ := z2
      simp only [h2] at h
      cases h
      rw [hs]
      show wpAny _ _ (spliced ((false, eval e X.env) :: backTo pos (starEach es X.env))) _ _ s
      refine Calls.spliced_cons (thn (ha pins s σ H Pr G ρ ρ1 d1 I E h1) fun u s1 ⟨y, H1, I1, r1, G1, g1, E1, q1⟩ => ?_)
      exact thn (hr pos pins s1 σ H1 Pr G1 ρ1 ρ' ds2 v I1 E1 hσ h2) fun us s2 ⟨xs, H2, I2, r2, hj, G2, g2, E2, q2⟩ => ⟨y :: xs, H2, I2, .cons r1 r2, by simpa using hj, G2, g1.trans g2, E2, by
        rw [List.eraseIdx_cons_succ]
        exact .cons (q1.mono g2) q2⟩
def tAB (c : Ct) (i j : Nat) (f : Evs) : TA := fun σ H Q => ∃ Pr G ρ ds ρ' v, ER c Pr G H σ ρ ∧ σ[i]? = some (some v) ∧ f ρ = some (ds, ρ') ∧ ∀ vs H', vs[j]? = some v → PostA c Pr G σ ρ' ds (vs.eraseIdx j) H' → Q vs H'
theorem CAB.pa {f : Evs} (h : CAB c X es i j f) : PA X es (tAB c i j f) := ⟨fun pos pins s σ H Q I ⟨Pr, G, ρ, ds, ρ', v, E, hσ, q, k⟩ =>
  thn (h pos pins s σ H Pr G ρ ρ' ds v I E hσ q) fun us s' ⟨vs, H', I', r, hj, p⟩ => ⟨vs, H', I', r, k vs H' hj p⟩⟩
theorem RpO.ref {o : O} {s : Option V} {fp : List Addr} (r : RpO c G H o s fp) (h : hasRef o = true) : ∃ a, s = some (.ref a) := by
  cases o with
  | lst l => obtain ⟨a, xs, e, _⟩ := r; exact ⟨a, e⟩
  | dic l => obtain ⟨a, ep, hs, xs, ys, e, _⟩ := r; exact ⟨a, e⟩
  | ins n fs => obtain ⟨a, dx, C, flds, f', e, _⟩ := r; exact ⟨a, e⟩
  | _ => cases h
theorem ER.refAt {o : O} (E : ER c Pr G H σ ρ) (h : getP ρ (.s i) = some o) (hr : hasRef o = true) : ∃ a, σ[i]? = some (some (.ref a)) := by
  obtain ⟨s, fp, R, h1, h2, _⟩ := E.swap h
  obtain ⟨a, rfl⟩ := h2.ref hr
  exact ⟨a, h1⟩
theorem ER.insAt {o : O} (E : ER c Pr G H σ ρ) (h : getP ρ (.s i) = some o) (hr : isIns cl m o = true) : ∃ a C dx fl, σ[i]? = some (some (.ref a)) ∧ c.ci cl = some C ∧ H a = some (.ins C dx fl) ∧ fl.lookup m = none := by
  obtain ⟨s, fp, R, h1, h2, _⟩ := E.swap h
  cases o with
  | ins n fs =>
    obtain ⟨a, dx, C, flds, f', e, hci, hA, hD, ef, rf⟩ := h2
    subst e
    have hr : (decide (n = cl) && (fs.get m).isNone) = true := hr
    rw [Bool.and_eq_true, decide_eq_true_iff] at hr
    obtain ⟨hn, hg⟩ := hr
    subst hn
    exact ⟨a, C, dx, flds, h1, hci, hA, rf.names (Option.isNone_iff_eq_none.mp hg)⟩
  | _ => cases hr
/-! ### the call's core -/
theorem lend_core {o o' : O} {d : D} {ds : List D} {vs : List V} {a : Addr} {n : Nat} (hφ : φ o ds = some (d, o')) (hn : noBor o = true) (hv : vs[j]? = some (.ref a)) (hl : vs.length = n) (E : ER c Pr G H σ ρ) (ho : getP ρ (.s i) = some o) (hσ : σ[i]? = some (some (.ref a))) (ra : RpA c G (vs.eraseIdx j) ds)
    {Q : VK} (k : ∀ v G' H', Ge G G' → ER c Pr G' H' σ (setP ρ (.s i) o') → Rp c G' v d → Q v H') : spB c n j φ vs H Q E0 := by
  obtain ⟨s, Pr1, h1, E1, back⟩ := E.lend ho
  have h1 : σ[i]? = some s := h1
  rw [hσ] at h1
  have es := Option.some.inj h1
  subst es
  exact ⟨hl, Pr1, G, o, o', ds, d, a, hv, hn, E1, ra, hφ, fun v G' H' g nb E' r => k v G' H' g (back G' H' o' g nb E') r⟩
theorem len_erase {α : Type} {l : List α} {j : Nat} {x : α} (h : l[j]? = some x) : l.length = (l.eraseIdx j).length + 1 := by
  have hj : j < l.length := (List.getElem?_eq_some_iff.mp h).1
  rw [List.length_eraseIdx, if_pos hj]
  omega
theorem eCallB_some {z : D × List O} (h : eCallB i φ fs ρ = some z) : ∃ o0 ds ρ1 o o', getP ρ (.s i) = some o0 ∧ hasRef o0 = true ∧ fs ρ = some (ds, ρ1) ∧ getP ρ1 (.s i) = some o ∧ φ o ds = some (z.1, o') ∧ z.2 = setP ρ1 (.s i) o' := by
  unfold eCallB at h
  split at h
  · rename_i o0 h0
    split at h
    · rename_i h1
      split at h
      · rename_i ds ρ1 h2
        split at h
        · rename_i o h3
          split at h
          · rename_i d o' h4
            cases h
            exact ⟨o0, ds, ρ1, o, o', h0, h1, h2, h3, h4, rfl⟩
          · cases h
        · cases h
      · cases h
    · cases h
  · cases h
theorem ce_callB {es : List Expr} (C : XC c X) (F : FB c X.prog X.mg X.base k x j φ) (hr : Room k X.A) (hg : Gl X x) (ha : CAB c X (e :: es) i j fs)
    (hdb : (x == ("__debug__" : Str)) = false := by decide) (he : starEach (e :: es) X.env = (false, eval e X.env) :: starEach es X.env := by rfl) (hpl : (backTo pos (starEach es X.env)).any (·.1) = false := by rfl) : CE c X (.Call (.Name x p) (e :: es) [] pos) (eCallB i φ fs) := by
  intro pins s σ H Pr G ρ ρ' d I E h
  obtain ⟨o0, ds, ρ1, o, o', h0, h1, h2, h3, h4, h5⟩ := eCallB_some h
  have h5 : ρ' = setP ρ1 (.s i) o' := h5
  subst h5
  obtain ⟨a, hσ⟩ := E.refAt h0 h1
  obtain ⟨f, fd, ps, f1, f2, f3, f4, f5⟩ := F
  obtain ⟨l1, l2⟩ := f4 o ds _ h4
  have f5 : FnOk X.prog X.w X.K X.mg X.base CX0 k f fd ps (spB c ps.length j φ) := by rw [C.K, C.w]; exact f5
  refine (pe_call (E := E0) f5 hr hg f1 (by rw [C.K]; exact f2) (by rw [C.K]; exact f3) .nil pass0 ha.pa hdb he hpl).run pins s σ H _ I ⟨Pr, G, ρ, ds, ρ1, _, E, hσ, h2, fun vs H1 hj ⟨G1, g1, E1, ra⟩ => ?_⟩
  show spB c ps.length j φ (vs ++ []) H1 (PostE c Pr G σ (setP ρ1 (.s i) o') d) E0
  rw [List.append_nil]
  exact lend_core h4 l2 hj (by rw [len_erase hj, ra.length]; exact l1) E1 h3 hσ ra fun v G' H' g E' r => ⟨G', g1.trans g, E', r⟩
theorem eMeth_some {z : D × List O} (h : eMeth i cl m φ fs ρ = some z) : ∃ o0 ds ρ1 o o', getP ρ (.s i) = some o0 ∧ isIns cl m o0 = true ∧ fs ρ = some (ds, ρ1) ∧ getP ρ1 (.s i) = some o ∧ φ o ds = some (z.1, o') ∧ z.2 = setP ρ1 (.s i) o' := by
  unfold eMeth at h
  split at h
  · rename_i o0 h0
    split at h
    · rename_i h1
      split at h
      · rename_i ds ρ1 h2
        split at h
        · rename_i o h3
          split at h
          · rename_i d o' h4
            cases h
            exact ⟨o0, ds, ρ1, o, o', h0, h1, h2, h3, h4, rfl⟩
          · cases h
        · cases h
      · cases h
    · cases h
  · cases h
theorem ce_meth {es : List Expr} {pl : Sem Bool} (C : XC c X) (F : FM c X.prog X.mg X.base k cl m φ) (hr : Room k X.A) (i : Nat) (ha : CA c X (e :: es) fs)
    (hN : X.N[i]? = some x := by rfl) (hv : Vis X.env.scope x := by first | exact .inl rfl | exact .inr (.inl rfl) | exact .inr (.inr rfl)) (hd : (x == ("__debug__" : Str)) = false := by decide) (hcd : (x == ("__classdict__" : Str)) = false := by decide)
    (hst : starEach (e :: es) X.env = (false, eval e X.env) :: starEach es X.env := by rfl) (hpl : (backTo pos (starEach es X.env)).any (·.1) = false := by rfl)
    (ht : eval (.Call (.Attribute (.Name x p) m apos) (e :: es) [] pos) X.env = (do
      let ov ← eval (.Name x p) X.env
      standAt apos.atName
      let (f, first) ← holding [ov] (getMethod ov m pl)
      callWith pos f first (backTo pos (starEach (e :: es) X.env)) (backToKw pos (keywordEach [] X.env))) := by rfl) :
    CE c X (.Call (.Attribute (.Name x p) m apos) (e :: es) [] pos) (eMeth i cl m φ fs) := by
  intro pins s σ H Pr G ρ ρ' d I E h
  obtain ⟨o0, ds, ρ1, o, o', h0, h1, h2, h3, h4, h5⟩ := eMeth_some h
  have h5 : ρ' = setP ρ1 (.s i) o' := h5
  subst h5
  obtain ⟨a, C1, dx, fl, hσ, hci, hA, hlk⟩ := E.insAt h0 h1
  obtain ⟨C0, f, fd, ps, f0, f1, f2, f3, f4, f5⟩ := F
  rw [f0] at hci
  cases hci
  obtain ⟨l1, l2⟩ := f4 o ds _ h4
  have f5 : FnOk X.prog X.w X.K X.mg X.base CX0 k f fd ps (spB c ps.length 0 φ) := by rw [C.K, C.w]; exact f5
  refine (pe_meth (E := E0) (pe_var hN hv hd hcd) (by rw [C.K]; exact f1) (by rw [C.K]; exact f2) f5 hr (by rw [C.K]; exact f3) .nil pass0 ha.pa hst hpl ht).run pins s σ H _ I ⟨.ref a, hσ, a, dx, fl, rfl, hA, hlk, Pr, G, ρ, ds, ρ1, E, h2, fun vs H1 ⟨G1, g1, E1, ra⟩ => ?_⟩
  show spB c ps.length 0 φ (.ref a :: (vs ++ [])) H1 (PostE c Pr G σ (setP ρ1 (.s i) o') d) E0
  rw [List.append_nil]
  exact lend_core (j := 0) h4 l2 (vs := .ref a :: vs) rfl (by rw [List.length_cons, ra.length]; exact l1) E1 h3 hσ ra fun v G' H' g E' r => ⟨G', g1.trans g, E', r⟩
theorem ce_meth0 {pl : Sem Bool} (C : XC c X) (F : FM c X.prog X.mg X.base k cl m φ) (hr : Room k X.A) (i : Nat)
    (hN : X.N[i]? = some x := by rfl) (hv : Vis X.env.scope x := by first | exact .inl rfl | exact .inr (.inl rfl) | exact .inr (.inr rfl)) (hd : (x == ("__debug__" : Str)) = false := by decide) (hcd : (x == ("__classdict__" : Str)) = false := by decide)
    (ht : eval (.Call (.Attribute (.Name x p) m apos) [] [] pos) X.env = (do
      let ov ← eval (.Name x p) X.env
      standAt apos.atName
      let (f, first) ← holding [ov] (getMethod ov m pl)
      callWith pos f first (backTo pos (starEach [] X.env)) (backToKw pos (keywordEach [] X.env))) := by rfl) :
    CE c X (.Call (.Attribute (.Name x p) m apos) [] [] pos) (eMeth i cl m φ esNil) := by
  intro pins s σ H Pr G ρ ρ' d I E h
  obtain ⟨o0, ds, ρ1, o, o', h0, h1, h2, h3, h4, h5⟩ := eMeth_some h
  have h5 : ρ' = setP ρ1 (.s i) o' := h5
  subst h5
  cases h2
  obtain ⟨a, C1, dx, fl, hσ, hci, hA, hlk⟩ := E.insAt h0 h1
  obtain ⟨C0, f, fd, ps, f0, f1, f2, f3, f4, f5⟩ := F
  rw [f0] at hci
  cases hci
  obtain ⟨l1, l2⟩ := f4 o [] _ h4
  have f5 : FnOk X.prog X.w X.K X.mg X.base CX0 k f fd ps (spB c ps.length 0 φ) := by rw [C.K, C.w]; exact f5
  refine (pe_meth0 (E := E0) (pe_var hN hv hd hcd) (by rw [C.K]; exact f1) (by rw [C.K]; exact f2) f5 hr (by rw [C.K]; exact f3) .nil pass0 ht).run pins s σ H _ I ⟨.ref a, hσ, a, dx, fl, rfl, hA, hlk, ?_⟩
  show spB c ps.length 0 φ (.ref a :: ([] ++ [])) H (PostE c Pr G σ (setP _ (.s i) o') d) E0
  exact lend_core (j := 0) h4 l2 (vs := [.ref a]) rfl l1 E h3 hσ .nil fun v G' H' g E' r => ⟨G', g, E', r⟩
/-! ### objects made -/
theorem co_make {es : List Expr} (C : XC c X) (F : FI c X.prog X.mg X.base k x cl φ) (hr : Room (k + 1) X.A) (hg : Gl X x) (ha : CA c X (e :: es) fs)
    (hdb : (x == ("__debug__" : Str)) = false := by decide) (he : starEach (e :: es) X.env = (false, eval e X.env) :: starEach es X.env := by rfl) (hpl : (backTo pos (starEach es X.env)).any (·.1) = false := by rfl) : CO c X (.Call (.Name x p) (e :: es) [] pos) (oMake cl φ fs) := by
  intro pins s σ H Pr G ρ ρ' o I E h
  unfold oMake at h
  split at h
  · rename_i ds ρ1 h1
    split at h
    · rename_i o1 h2
      cases h
      obtain ⟨C0, f, fd, ps, f0, f1, f2, f3, f4, f5⟩ := F
      obtain ⟨l1, l2⟩ := f4 _ ds _ h2
      have f5 : FnOk X.prog X.w X.K X.mg X.base CX0 k f fd ps (spB c ps.length 0 φ) := by rw [C.K, C.w]; exact f5
      refine (pe_make (E := E0) (by rw [C.K]; exact f2) f5 hr hg f1 (by rw [C.K]; exact f3) .nil pass0 ha.pa hdb he hpl).run pins s σ H _ I ⟨Pr, G, ρ, ds, _, E, h1, fun vs H1 ⟨G1, g1, E1, ra⟩ a dx n1 n2 ne => ?_⟩
      show spB c ps.length 0 φ (.ref a :: (vs ++ [])) _ _ E0
      rw [List.append_nil]
      have nG : ∀ b, H1 b = none → G1 b = none := fun b e => by
        cases e2 : G1 b with
        | none => rfl
        | some u => rw [E1.gh b u e2] at e; cases e
      refine ⟨by rw [List.length_cons, ra.length]; exact l1, aside G1 H1 [], G1, .ins cl .nil, o, ds, .none, a, rfl, l2, ⟨fun b u e => ?_, fun b u e => ?_, [a, dx], ?_, fun b hb => ?_, [a, dx], [], rfl, ⟨a, dx, C0, [], [], rfl, f0, upd_same, ?_, rfl, rfl, rfl⟩, rfl⟩, ra, h2, fun v G' H' g nb E' r => ?_⟩
      · obtain ⟨q1, _, q3⟩ := aside_some e
        have k1 : b ≠ a := ne_of_none q3 n1
        have k2 : b ≠ dx := ne_of_none q3 n2
        exact ⟨by rw [upd_ne k1, upd_ne k2]; exact q3, q1⟩
      · have q3 := E1.gh b u e
        have k1 : b ≠ a := ne_of_none q3 n1
        have k2 : b ≠ dx := ne_of_none q3 n2
        rw [upd_ne k1, upd_ne k2]
        exact q3
      · exact List.nodup_cons.mpr ⟨fun z => ne (List.mem_singleton.mp z).symm, by simp⟩
      · rcases List.mem_cons.mp hb with e | hb
        · subst e
          refine ⟨?_, nG _ n1⟩
          unfold aside
          rw [n1]
          split <;> rfl
        · rw [List.mem_singleton.mp hb]
          refine ⟨?_, nG _ n2⟩
          unfold aside
          rw [n2]
          split <;> rfl
      · rw [upd_ne ne, upd_same]
      · cases r
        exact ⟨rfl, G', g1.trans g, nb, E1.add g E'⟩
    · cases h
  · cases h
def tO (c : Ct) (f : Eo) : TE := fun σ H Q => ∃ Pr G ρ o ρ', ER c Pr G H σ ρ ∧ f ρ = some (o, ρ') ∧ ∀ v H', PostO c Pr G σ ρ' o v H' → Q v H'
theorem CO.pe {f : Eo} (h : CO c X e f) : PE X e (tO c f) := ⟨fun pins s σ H Q I ⟨Pr, G, ρ, o, ρ', E, q, k⟩ =>
  thn (h pins s σ H Pr G ρ ρ' o I E q) fun u s' ⟨v, H', I', r, p⟩ => ⟨v, H', I', r, k v H' p⟩⟩
/-- name = C(..) -/
theorem cs_ownO {f : Eo} (C : XC c X) (i : Nat) (he : CO c X e f) (hi : X.N[i]? = some x := by rfl) (hx : Loc X.env.scope x := by first | exact .inl rfl | exact .inr rfl) (hs : swapsWith e (some (.Name x p')) pos.line X.env = pure false := by rfl) (hf : X.fn x = true ∨ X.env.scope.names.lookup x = some .local := by first | exact .inl rfl | exact .inr rfl) :
    CS c X (.Assign [.Name x p'] e pos) (sOwnO i f) := ⟨fun pins s σ H D0 I ⟨Pr, G, ρ, fl, ρ', E, q, k⟩ => by
  unfold sOwnO at q
  split at q
  · rename_i o ρ1 h1
    cases q
    exact (ps_set C.nd hi hx he.pe hs hf).run pins s σ H D0 I ⟨Pr, G, ρ, o, ρ1, E, h1, fun v H' ⟨G', g, nb, E'⟩ => k _ H' G' g E'.moveIn⟩
  · cases q⟩
theorem noBor_unb {o : O} (h : noBor o = true) : unb o = o := by
  cases o with
  | bor j o => cases h
  | _ => rfl
/-- C(..).m(..) -/
theorem ce_methT {es : List Expr} {o : Expr} {pl : Sem Bool} {fo : Eo} (C : XC c X) (F : FM c X.prog X.mg X.base k cl m φ) (hr : Room k X.A) (ho : CO c X o fo) (ha : CA c X (e :: es) fs)
    (hst : starEach (e :: es) X.env = (false, eval e X.env) :: starEach es X.env := by rfl) (hpl : (backTo pos (starEach es X.env)).any (·.1) = false := by rfl)
    (ht : eval (.Call (.Attribute o m apos) (e :: es) [] pos) X.env = (do
      let ov ← eval o X.env
      standAt apos.atName
      let (f, first) ← holding [ov] (getMethod ov m pl)
      callWith pos f first (backTo pos (starEach (e :: es) X.env)) (backToKw pos (keywordEach [] X.env))) := by rfl) :
    CE c X (.Call (.Attribute o m apos) (e :: es) [] pos) (eMethT fo cl m φ fs) := by
  intro pins s σ H Pr G ρ ρ' d I E h
  unfold eMethT at h
  split at h
  · rename_i o0 ρ1 h0
    split at h
    · rename_i h1
      split at h
      · rename_i ds ρ2 h2
        split at h
        · rename_i d' o' h4
          cases h
          obtain ⟨C0, f, fd, ps, f0, f1, f2, f3, f4, f5⟩ := F
          obtain ⟨l1, l2⟩ := f4 o0 ds _ h4
          have f5 : FnOk X.prog X.w X.K X.mg X.base CX0 k f fd ps (spB c ps.length 0 φ) := by rw [C.K, C.w]; exact f5
          refine (pe_meth (E := E0) ho.pe (by rw [C.K]; exact f1) (by rw [C.K]; exact f2) f5 hr (by rw [C.K]; exact f3) .nil pass0 ha.pa hst hpl ht).run pins s σ H _ I ⟨Pr, G, ρ, o0, ρ1, E, h0, fun v H1 ⟨G1, g1, nb, E1⟩ => ?_⟩
          have hu : getP (o0 :: ρ1) (.s 0) = some o0 := by
            show some (unb o0) = some o0
            rw [noBor_unb nb]
          obtain ⟨a, C1, dx, fl, hσ, hci, hA, hlk⟩ := E1.insAt hu h1
          have hσ : some (some v) = some (some (V.ref a)) := hσ
          cases hσ
          rw [f0] at hci
          cases hci
          obtain ⟨Pr', E2, back⟩ := E1.park
          refine ⟨a, dx, fl, rfl, hA, hlk, Pr', G1, ρ1, ds, _, E2, h2, fun vs H2 ⟨G2, g2, E3, ra⟩ => ?_⟩
          have E4 := back G2 H2 σ _ g2 E3
          show spB c ps.length 0 φ (.ref a :: (vs ++ [])) H2 _ E0
          rw [List.append_nil]
          refine lend_core (i := 0) (j := 0) h4 l2 (vs := .ref a :: vs) rfl (by rw [List.length_cons, ra.length]; exact l1) E4 (by show some (unb o0) = some o0; rw [noBor_unb nb]) rfl ra fun v G' H' g E' r => ?_
          have e0 : ∀ (ρ2 : List O), setP (o0 :: ρ2) (.s 0) o' = reb o0 o' :: ρ2 := fun ρ2 => rfl
          rw [e0] at E'
          exact ⟨G', (g1.trans g2).trans g, E'.tail, r⟩
        · cases h
      · cases h
    · cases h
  · cases h
end
end VL

set_option Elab.async false
set_option linter.all false
set_option maxRecDepth 100000
/-! V27: defs that are lent a thing, by their bodies. -/
namespace VL
open PySem PySem.Spec PyProof.Rows L2
section
variable {c : Ct} {X : Cx} {Pr G G' H H' : Hp} {σ : L2.St} {ρ ρ' : List O} {P : Program} {mg : Str → Option Value} {base : Heap}
theorem slots_insB {u : O} {v : V} {n : Nat} {l : List Addr} (ro : RpO c G H u (some v) l) : ∀ {j : Nat} {vs : List V} {ds : List D}, vs[j]? = some v → RpA c G (vs.eraseIdx j) ds → Slots c G H (vs.map some ++ List.replicate n none) (insB j u ds ++ List.replicate n .un) l
  | 0, [], _, h, _ => by simp at h
  | 0, w :: vs, ds, h, r => by
    have h : some w = some v := h
    cases h
    exact ⟨l, [], by simp, ro, rpa_vals r⟩
  | j + 1, [], _, h, _ => by simp at h
  | j + 1, w :: vs, ds, h, r => by
    rw [List.eraseIdx_cons_succ] at r
    cases r with
    | cons h1 r => exact ⟨[], l, rfl, ⟨rfl, w, rfl, h1⟩, slots_insB ro (by simpa using h) r⟩
theorem mkB_some {p n j : Nat} {m : Sm} {o : O} {ds : List D} {z : D × O} (h : mkB p n j m o ds = some z) : ds.length + 1 = p ∧ j ≤ ds.length ∧ noBor o = true ∧ hasRef o = true ∧
    ∃ fl ρ', m (insB j (.bor 0 o) ds ++ List.replicate (n - (ds.length + 1)) .un) = some (fl, ρ') ∧ (∃ q, ρ'[j]? = some (.bor q z.2)) ∧ (fl = .rt z.1 ∨ fl = .nx ∧ z.1 = .none) := by
  unfold mkB at h
  split at h
  · rename_i h1
    unfold runB at h
    split at h
    · rename_i h2
      rw [Bool.and_eq_true] at h2
      refine ⟨h1.1, h1.2, h2.1, h2.2, ?_⟩
      have key : ∀ {d : D} {o : Option O}, lentK d o = some z → ∃ q, o = some (.bor q z.2) ∧ d = z.1 := fun {d o} e => by
        unfold lentK at e
        split at e
        · cases e; exact ⟨_, rfl, rfl⟩
        · cases e
      split at h
      · rename_i d ρ' h3
        obtain ⟨q, e1, e2⟩ := key h
        exact ⟨_, ρ', h3, ⟨q, e1⟩, .inl (by rw [e2])⟩
      · rename_i ρ' h3
        obtain ⟨q, e1, e2⟩ := key h
        exact ⟨_, ρ', h3, ⟨q, e1⟩, .inr ⟨rfl, e2.symm⟩⟩
      · cases h
    · cases h
  · cases h
theorem fnB_of {x qual : Str} {st : Stmt} {f : Addr} {fd : FuncData} {N ps : List Str} {k j : Nat} {m : Sm} (F : Fun c.K x qual st f fd) (S : FnScope N ps (defScope st)) (hblt : ∀ y ∈ bltNames, mg y = none)
    (body : ∀ (t : Nat → Addr) (cdv : Value) (A : Around) (outer : List Env) (s : Shared) (H : Hp) (E : XK), XC (c.at t) (cxOf CX0 P c.w c.K mg base N qual (defScope st) f cdv A outer s H E).nox → Room k (cxOf CX0 P c.w c.K mg base N qual (defScope st) f cdv A outer s H E).nox.A → CB (c.at t) (cxOf CX0 P c.w c.K mg base N qual (defScope st) f cdv A outer s H E).nox (defBody st) m) :
    FnOk P c.w c.K mg base CX0 (k + 1) f fd ps (spB c ps.length j (mkB ps.length N.length j m)) := by
  refine F.ok S (fun vs H Q E h => h.1) fun cdv A outer s H vs Q E hr h => ?_
  obtain ⟨hl, Pr, G, o, o', ds, d, a, hv, hn, E1, ra, hφ, kk⟩ := h
  obtain ⟨l1, l2, _, _, fl, ρ', hm, ⟨q, hq⟩, hfl⟩ := mkB_some hφ
  have C : XC (c.at fun _ => a) (cxOf CX0 P c.w c.K mg base N qual (defScope st) f cdv A outer s H E).nox := ⟨rfl, rfl, rfl, S.nd, by have := hr.un; show (A.deeper _).units + 150 < cLine; omega, hblt, rfl⟩
  refine ⟨_, body (fun _ => a) cdv A outer s H E C hr, ?_⟩
  obtain ⟨l, nd, ap, f1, f2, el, ro, sl⟩ := E1.own
  have e2 : f2 = [] := sl
  subst e2
  rw [List.append_nil] at el
  subst el
  have hlen : vs.length = ds.length + 1 := by rw [hl]; exact l1.symm
  have rb : RpO (c.at fun _ => a) G H (.bor 0 o) (some (.ref a)) l := ⟨rfl, hn, ro.tau hn⟩
  have E0 : ER (c.at fun _ => a) Pr G H (L2.start N vs) (insB j (.bor 0 o) ds ++ List.replicate (N.length - (ds.length + 1)) .un) := by
    refine ⟨E1.pr, E1.gh, l, nd, ap, ?_⟩
    unfold L2.start
    rw [hlen]
    exact slots_insB rb hv ra.tau
  have back : ∀ {G' H' : Hp} {σ' : L2.St}, Ge G G' → ER (c.at fun _ => a) Pr G' H' σ' ρ' → noBor o' = true ∧ ER c Pr G' H' [some (.ref a)] [o'] := fun {G' H' σ'} g E' => by
    obtain ⟨l', nd', ap', sl'⟩ := E'.own
    obtain ⟨s0, m1, m2, e1, pm, ⟨r1, r2, r3⟩, _⟩ := sl'.at hq
    subst r1
    have nm := pm.nodup_iff.mp nd'
    exact ⟨r2, E'.pr, E'.gh, m1, (List.nodup_append.mp nm).1, fun b hb => ap' b (pm.mem_iff.mpr (List.mem_append_left _ hb)), m1, [], by simp, r3.tau' r2, rfl⟩
  rcases hfl with rfl | ⟨rfl, e⟩
  · refine ⟨Pr, G, _, _, ρ', E0, hm, fun σ' H' G' g' E' v rp => ?_⟩
    obtain ⟨n', E2⟩ := back g' E'
    exact kk v G' H' g' n' E2 rp.tau'
  · refine ⟨Pr, G, _, _, ρ', E0, hm, fun σ' H' G' g' E' => ?_⟩
    obtain ⟨n', E2⟩ := back g' E'
    have e : d = .none := e
    rw [e] at kk
    exact kk .non G' H' g' n' E2 .non
theorem mkB_len {n j : Nat} {m : Sm} {ps : List Str} : ∀ o ds r, mkB ps.length n j m o ds = some r → ds.length + 1 = ps.length ∧ noBor o = true := fun o ds r h => by
  obtain ⟨h1, _, h2, _⟩ := mkB_some h
  exact ⟨h1, h2⟩
section
variable {x qual : Str} {st : Stmt} {f C0 : Addr} {fd : FuncData} {N ps : List Str} {k j cl : Nat} {m : Sm}
theorem fb_mk (F : Fun c.K x qual st f fd) (S : FnScope N ps (defScope st)) (hm : mg x = some (.ref f)) (hb : Binds c.K fd ps []) (hblt : ∀ y ∈ bltNames, mg y = none)
    (body : ∀ (t : Nat → Addr) (cdv : Value) (A : Around) (outer : List Env) (s : Shared) (H : Hp) (E : XK), XC (c.at t) (cxOf CX0 P c.w c.K mg base N qual (defScope st) f cdv A outer s H E).nox → Room k (cxOf CX0 P c.w c.K mg base N qual (defScope st) f cdv A outer s H E).nox.A → CB (c.at t) (cxOf CX0 P c.w c.K mg base N qual (defScope st) f cdv A outer s H E).nox (defBody st) m) :
    FB c P mg base (k + 1) x j (mkB ps.length N.length j m) :=
  ⟨f, fd, ps, hm, F.kp, hb, mkB_len, fnB_of F S hblt body⟩
theorem fm_mk {y : Str} (F : Fun c.K x qual st f fd) (S : FnScope N ps (defScope st)) (hC : c.ci cl = some C0) (hcl : Cls c.K C0) (hM : Meth c.K C0 y f) (hb : Binds c.K fd ps []) (hblt : ∀ y ∈ bltNames, mg y = none)
    (body : ∀ (t : Nat → Addr) (cdv : Value) (A : Around) (outer : List Env) (s : Shared) (H : Hp) (E : XK), XC (c.at t) (cxOf CX0 P c.w c.K mg base N qual (defScope st) f cdv A outer s H E).nox → Room k (cxOf CX0 P c.w c.K mg base N qual (defScope st) f cdv A outer s H E).nox.A → CB (c.at t) (cxOf CX0 P c.w c.K mg base N qual (defScope st) f cdv A outer s H E).nox (defBody st) m) :
    FM c P mg base (k + 1) cl y (mkB ps.length N.length 0 m) :=
  ⟨C0, f, fd, ps, hC, hcl, hM, hb, mkB_len, fnB_of F S hblt body⟩
theorem fi_mk {y : Str} (F : Fun c.K x qual st f fd) (S : FnScope N ps (defScope st)) (hC : c.ci cl = some C0) (hm : mg y = some (.ref C0)) (hM : Mk c.K C0 f) (hb : Binds c.K fd ps []) (hblt : ∀ y ∈ bltNames, mg y = none)
    (body : ∀ (t : Nat → Addr) (cdv : Value) (A : Around) (outer : List Env) (s : Shared) (H : Hp) (E : XK), XC (c.at t) (cxOf CX0 P c.w c.K mg base N qual (defScope st) f cdv A outer s H E).nox → Room k (cxOf CX0 P c.w c.K mg base N qual (defScope st) f cdv A outer s H E).nox.A → CB (c.at t) (cxOf CX0 P c.w c.K mg base N qual (defScope st) f cdv A outer s H E).nox (defBody st) m) :
    FI c P mg base (k + 1) y cl (mkB ps.length N.length 0 m) :=
  ⟨C0, f, fd, ps, hC, hm, hM, hb, mkB_len, fnB_of F S hblt body⟩
/-! ### nothing promised -/
theorem fb_none (hm : mg x = some (.ref f)) (hk : PySem.W.keepIn c.K (.ref f) = true) (hb : Binds c.K fd ps []) : FB c P mg base k x j fun _ _ => none :=
  ⟨f, fd, ps, hm, hk, hb, (fun _ _ _ h => nomatch h), ⟨fun vs H Q E h => h.1, fun A outer s H args us vs Q E _ _ _ _ ⟨_, _, _, _, _, _, _, _, _, _, _, _, h, _⟩ => nomatch h⟩⟩
theorem fm_none {y : Str} (hC : c.ci cl = some C0) (hcl : Cls c.K C0) (hM : Meth c.K C0 y f) (hb : Binds c.K fd ps []) : FM c P mg base k cl y fun _ _ => none :=
  ⟨C0, f, fd, ps, hC, hcl, hM, hb, (fun _ _ _ h => nomatch h), ⟨fun vs H Q E h => h.1, fun A outer s H args us vs Q E _ _ _ _ ⟨_, _, _, _, _, _, _, _, _, _, _, _, h, _⟩ => nomatch h⟩⟩
theorem fp_none (hm : mg x = some (.ref f)) (hk : PySem.W.keepIn c.K (.ref f) = true) (hb : Binds c.K fd ps []) : FP c P mg base k x fun _ => none :=
  ⟨f, fd, ps, hm, hk, hb, (fun _ _ h => nomatch h), ⟨fun vs H Q E h => h.1, fun A outer s H args us vs Q E _ _ _ _ ⟨_, _, _, _, _, _, h, _⟩ => nomatch h⟩⟩
end
/-! ### the classes by number -/
def ci1 (a : Addr) : Nat → Option Addr
  | 0 => some a
  | _ => none
def ci2 (a b : Addr) : Nat → Option Addr
  | 0 => some a
  | 1 => some b
  | _ => none
def ci3 (a b d : Addr) : Nat → Option Addr
  | 0 => some a
  | 1 => some b
  | 2 => some d
  | _ => none
theorem ciOk1 {K : PySem.W.Frag} {w : World} {a : Addr} {x : Str} (h : Cls K a) (n : NoAttr K a x) : CiOk ⟨K, w, ci1 a, fun _ => 0⟩ x := fun k C e => match k, e with
  | 0, e => by cases e; exact ⟨h, n⟩
  | _ + 1, e => nomatch e
theorem ciOk2 {K : PySem.W.Frag} {w : World} {a b : Addr} {x : Str} (h : Cls K a) (n : NoAttr K a x) (h2 : Cls K b) (n2 : NoAttr K b x) : CiOk ⟨K, w, ci2 a b, fun _ => 0⟩ x := fun k C e => match k, e with
  | 0, e => by cases e; exact ⟨h, n⟩
  | 1, e => by cases e; exact ⟨h2, n2⟩
  | _ + 2, e => nomatch e
theorem ciOk3 {K : PySem.W.Frag} {w : World} {a b d : Addr} {x : Str} (h : Cls K a) (n : NoAttr K a x) (h2 : Cls K b) (n2 : NoAttr K b x) (h3 : Cls K d) (n3 : NoAttr K d x) : CiOk ⟨K, w, ci3 a b d, fun _ => 0⟩ x := fun k C e => match k, e with
  | 0, e => by cases e; exact ⟨h, n⟩
  | 1, e => by cases e; exact ⟨h2, n2⟩
  | 2, e => by cases e; exact ⟨h3, n3⟩
  | _ + 3, e => nomatch e
end
end VL

set_option Elab.async false
set_option linter.all false
set_option maxRecDepth 100000
/-! V28: sorted tuples whose first items that differ can be compared. -/
namespace VL
open PySem PySem.Spec PyProof.Rows L2 PySem.W PySem.SeqAt
def cmpOk : List D → List D → Bool
  | x :: xs, y :: ys => alike x y && (!PyData.eqv x y || cmpOk xs ys)
  | _, _ => true
def tup1 : D → Bool
  | .tuple (x :: xs) => x.plain && PyData.plainAll xs
  | _ => false
def cmp2 : D → D → Bool
  | .tuple xs, .tuple ys => cmpOk xs ys
  | _, _ => false
def sortableT (l : List D) : Bool := (l.all tup1) && ((l.all fun x => l.all fun y => cmp2 x y) && (decide (l.length ≤ LIM) && l.all fun x => decide (x.depth ≤ lvl)))
theorem sortableT_of {l : List D} (h : sortableT l = true) : (∀ d ∈ l, ∃ x xs, d = .tuple (x :: xs) ∧ x.plain = true ∧ PyData.plainAll xs = true) ∧ (∀ d ∈ l, ∀ d' ∈ l, cmp2 d d' = true) ∧ l.length ≤ LIM ∧ ∀ d ∈ l, d.depth ≤ lvl := by
  unfold sortableT at h
  simp only [Bool.and_eq_true, List.all_eq_true, decide_eq_true_eq] at h
  obtain ⟨h1, h2, h3, h4⟩ := h
  refine ⟨fun d hd => ?_, h2, h3, h4⟩
  have := h1 d hd
  cases d with
  | tuple xs =>
    cases xs with
    | nil => cases this
    | cons x xs =>
      have this : (x.plain && PyData.plainAll xs) = true := this
      rw [Bool.and_eq_true] at this
      exact ⟨x, xs, rfl, this.1, this.2⟩
  | _ => cases this
section
variable {prog : Program} {w : World} {A : Around} {s : Shared}
theorem katLex_ok {b fin : Bool} {Q : Bool → Shared → Prop} : ∀ (xs ys : List PyData) (i : Nat) (vs ws : List Value) (as bs : List Addr), ReadsAll s.heap vs xs as → ReadsAll s.heap ws ys bs → cmpOk xs ys = true →
    A.units + min (PyData.depthAll xs) (PyData.depthAll ys) < cLine → (b = true → i = 0 → ∀ x r t, xs = x :: r → x ≠ .tuple t) → fin = decide (xs.length < ys.length) → Q (PyProof.Rows.lexLt itemOrd (keyToksAll xs) (keyToksAll ys)) s → KatLex prog w A b fin Q (vs.zip ws) i s
  | [], [], i, _, _, _, _, ra, rb, _, _, _, hf, hq => by
    cases ra
    cases rb
    have e : fin = false := by rw [hf]; rfl
    subst e
    rw [lex_irrefl] at hq
    exact kat_nil hq
  | [], y :: ys, i, _, _, _, _, ra, rb, _, _, _, hf, hq => by
    cases ra
    have e : fin = true := by rw [hf]; exact decide_eq_true (Nat.succ_pos _)
    subst e
    rw [toks_all_cons] at hq
    simp only [keyToksAll] at hq
    rw [lex_diff (O := itemOrd) (by simp)] at hq
    rw [List.zip_nil_left]
    exact kat_nil (by simpa [itemLt] using hq)
  | x :: xs, [], i, _, _, _, _, ra, rb, _, _, _, hf, hq => by
    cases rb
    have e : fin = false := by rw [hf]; exact decide_eq_false (Nat.not_lt_zero _)
    subst e
    rw [toks_all_cons] at hq
    simp only [keyToksAll] at hq
    rw [lex_diff (O := itemOrd) (by simp)] at hq
    rw [List.zip_nil_right]
    exact kat_nil (by simpa [itemLt] using hq)
  | x :: xs, y :: ys, i, _, _, _, _, ra, rb, h, hu, hb, hf, hq => by
    have h : (alike x y && (!PyData.eqv x y || cmpOk xs ys)) = true := h
    rw [Bool.and_eq_true] at h
    obtain ⟨h1, h2⟩ := h
    have hf' : fin = decide (xs.length < ys.length) := by
      rw [hf]
      simp only [List.length_cons, Nat.add_lt_add_iff_right]
    cases ra with
    | cons r rs =>
      cases rb with
      | cons r' rs' =>
        rw [List.zip_cons_cons]
        refine kat_cons (eqAt_alike x y A s _ _ _ _ r r' h1 (room_head hu) prog w _ _ ?_)
        cases hx : PyData.eqv x y with
        | true =>
          rw [hx] at h2
          rw [dataLt_all_yes h1 hx] at hq
          exact kat_yes (katLex_ok xs ys (i + 1) _ _ _ _ rs rs' h2 (room_tail hu) (fun _ hi => absurd hi (Nat.succ_ne_zero i)) hf' hq)
        | false =>
          rw [dataLt_all_no h1 hx] at hq
          refine kat_no (oneLt_alike (fun hbi t => ?_) r r' h1 (ne_none_of h1 hx) (room_head hu) hq)
          rw [Bool.and_eq_true] at hbi
          exact hb hbi.1 (by simpa using hbi.2) x xs t rfl
theorem dataKind_plain {h : Heap} {ds : List PyData} (hp : ∀ d ∈ ds, d.plain = true) {v : Value} {d : PyData} {as : List Addr} (hd : d ∈ ds) (r : Reads h v d as) : (dataKind h ds).keyOf v = some (keyToks d) := by
  have q : ∃ d, d ∈ ds ∧ ∃ as, Reads h v d as := ⟨d, hd, as, r⟩
  have e : (dataKind h ds).keyOf v = some (keyToks q.choose) := by
    show (open Classical in if q : ∃ d, d ∈ ds ∧ ∃ as, Reads h v d as then some (keyToks q.choose) else none) = _
    rw [dif_pos q]
  obtain ⟨h1, as', h2⟩ := q.choose_spec
  rw [e, plain_unique _ _ _ _ _ (hp _ h1) h2 r]
theorem sortsAt_T {vs : List Value} {ds : List D} (e : EachIs (fun v d => ∃ as, Reads s.heap v d as) vs ds) (ht : ∀ d ∈ ds, ∃ x r, d = .tuple (x :: r)) (hp : ∀ d ∈ ds, d.plain = true) (hal : ∀ d ∈ ds, ∀ d' ∈ ds, cmp2 d d' = true) (hu : ∀ d, d ∈ ds → A.units + d.depth < cLine) : SortsAt prog w A s (dataKind s.heap ds) vs := by
  have room : ∀ {d d' : PyData}, d ∈ ds → A.units + min d.depth d'.depth < cLine := fun {d d'} hd => Nat.lt_of_le_of_lt (Nat.add_le_add_left (Nat.min_le_left _ _) _) (hu d hd)
  refine ⟨fun v hv => ?_, ?_⟩
  · obtain ⟨d, hd, as, r⟩ := e.left v hv
    exact ⟨_, dataKind_plain hp hd r⟩
  · cases ds with
    | nil =>
      cases e
      exact ⟨general', fun E x y a b Q ha _ _ => (by
        obtain ⟨d, _, hd, _⟩ := dataKind_inv ha
        exact absurd hd (by simp)), fun h2 => absurd h2 (by simp)⟩
    | cons d₀ ds₀ =>
      obtain ⟨x₀, r₀, e₀⟩ := ht d₀ (List.mem_cons_self ..)
      have hfirst : ∀ x r, PyData.tuple (x :: r) ∈ d₀ :: ds₀ → alike x x₀ = true := by
        intro x r hm
        have q := hal _ hm d₀ (List.mem_cons_self ..)
        rw [e₀] at q
        have q : (alike x x₀ && (!PyData.eqv x x₀ || cmpOk r r₀)) = true := q
        rw [Bool.and_eq_true] at q
        exact q.1
      refine ⟨tuples' (dataType x₀ != Value.type "tuple"), ?_, fun h2 E Q hq => ?_⟩
      · intro E x y a b Q ha hb hq
        obtain ⟨d, as, hd, ra, rfl⟩ := dataKind_inv ha
        obtain ⟨d', as', hd', rb, rfl⟩ := dataKind_inv hb
        have hdd := hal d hd d' hd'
        have hroom := room (d' := d') hd
        obtain ⟨x1, r1, rfl⟩ := ht d hd
        obtain ⟨x2, r2, rfl⟩ := ht d' hd'
        have hq' : Q (dataLt (.tuple (x1 :: r1)) (.tuple (x2 :: r2))) s := hq
        rw [dataLt_tuple] at hq'
        cases ra with
        | @tuple l o xs n _ _ h1 h2 h3 h4 =>
          cases rb with
          | @tuple l' o' xs' n' _ _ k1 k2 k3 k4 =>
            have n1 : xs.size = (x1 :: r1).length := by simpa using SeqAt.ReadsAll.length _ _ _ h4
            have n2 : xs'.size = (x2 :: r2).length := by simpa using SeqAt.ReadsAll.length _ _ _ k4
            refine kat_lt h1 h3 k1 k3 (katLex_ok (x1 :: r1) (x2 :: r2) 0 _ _ _ _ h4 k4 hdd (by have q := SeqAt.room_in hroom; omega) (fun hb _ x r t ex => ?_) (by rw [n1, n2]) hq')
            obtain ⟨rfl, rfl⟩ := List.cons.inj ex
            have q := dataType_alike (hfirst _ _ hd)
            rw [← q] at hb
            exact dataType_tuple hb t
      · obtain ⟨fs, t1, t2, t3⟩ := each_katTups e ht
        refine kat_kind (T := dataType x₀) t1 (by omega) (fun f hf => ?_) (beq_self_eq_true _) hq
        obtain ⟨x, r, as, m1, m2⟩ := t3 f hf
        rw [← dataType_alike (hfirst x r m1)]
        exact looks_reads m2
end
/-- sorted(x), whatever is walked, the items tuples -/
theorem sorted_shellT {P : Program} {w : World} {A : Around} {E : Value → Shared → Prop} {s : Shared} {r : Value} {ds : List D} {C : (Value → D → Prop) → Heap → Prop} {Q : Value → Shared → Prop}
    (hcol : ∀ E' : Value → Shared → Prop, wpAny (model P w) A.in1 (collect r) (fun vs s1 => ∃ (h' : Heap) (tk : Nat) (R : Value → D → Prop), s1 = { s with heap := h', toks := tk } ∧ (∀ b o, s.heap.get? b = some o → h'.get? b = some o) ∧ EachIs R vs ds ∧ EachIs (fun v d => ∃ as, Reads h' v d as) vs ds ∧ C R h') E' s)
    (ht : ∀ d ∈ ds, ∃ x r, d = .tuple (x :: r)) (hp : ∀ d ∈ ds, d.plain = true) (hal : ∀ d ∈ ds, ∀ d' ∈ ds, cmp2 d d' = true) (hL : ds.length ≤ sizeLine) (hu : ∀ d, d ∈ ds → A.units + 2 + d.depth < cLine)
    (h : ∀ (h1 h' : Heap) (tk : Nat) (p : Addr) (out : List Value) (n : Nat) (R : Value → D → Prop), C R h1 → (∀ b o, s.heap.get? b = some o → h1.get? b = some o) → (∀ b o, h1.get? b = some o → h'.get? b = some o) → h1.objs.size ≤ p → h'.get? p = some { cls := .type "list", data := .seq out.toArray n } → out.length = ds.length → EachIs R out (ds.mergeSort (dataLe false id)) → Q (.ref p) { s with heap := h', toks := tk }) :
    wpAny (model P w) A (call (.builtin "sorted") [r]) Q E s := by
  refine call_function_entry_kw kind_sorted plain_sorted entry_sorted (args_sorted1 _) ?_
  unfold Builtin.«sorted»
  refine wpAny_bind (m := checkCount "sorted" 1 1 _) (wpAny_pure ?_)
  refine wpAny_bind (wpAny_mono (hcol _) (fun vs s1 ⟨h1, tk, R, e1, k1, eR, er, hC⟩ => ?_) fun _ _ x => x)
  subst e1
  have hlen : vs.length = ds.length := eR.length
  refine wpAny_bind (wpAny_newList ?_ (by rw [hlen]; exact hL))
  have ho : (h1.push (seqObj "list" vs.toArray 0)).get? h1.objs.size = some (seqObj "list" vs.toArray 0) := Heap.get?_push_size _ rfl
  have kp : ∀ b o, h1.get? b = some o → (h1.push (seqObj "list" vs.toArray 0)).get? b = some o := fun b o e => Heap.get?_push_of_some _ e
  have ks : ∀ b o, h1.get? b = some o → (sortingHeap (h1.push (seqObj "list" vs.toArray 0)) h1.objs.size vs).get? b = some o := fun b o e => sortingHeap_old (Nat.ne_of_lt (Heap.lt_size e)) (kp b o e)
  have er' : EachIs (fun v d => ∃ as, Reads (sortingHeap (h1.push (seqObj "list" vs.toArray 0)) h1.objs.size vs) v d as) vs ds := er.mono fun _ _ ⟨as, r⟩ => ⟨as, PyProof.Rows.Reads.keeps ks r⟩
  refine wpAny_bind (wpAny_holding (wpAny_call_entry_kw slot_list_sort ⟨_, ho, rfl⟩ entry_list_sort ?body (args_list_sort _)))
  case body =>
    show wpAny (model P w) A.in1.in1 (Builtin.«list.sort» ⟨[.ref h1.objs.size], []⟩) _ _ { s with heap := h1.push (seqObj "list" vs.toArray 0), toks := tk }
    refine list_sort_vals (s := { s with heap := h1.push (seqObj "list" vs.toArray 0), toks := tk }) (κ := dataKind (sortingHeap (h1.push (seqObj "list" vs.toArray 0)) h1.objs.size vs) ds) ho (sortsAt_T (s := { s with heap := sortingHeap (h1.push (seqObj "list" vs.toArray 0)) h1.objs.size vs, toks := tk }) er' ht hp hal hu) (by rw [hlen]; exact hL) ?_
    refine ⟨.none, rfl, wpAny_pure ⟨_, rfl, ?_⟩⟩
    obtain ⟨n, hn⟩ := PyProof.Rows.sortedHeap_at (vs := vs) (out := (sortVals (dataKind (sortingHeap (h1.push (seqObj "list" vs.toArray 0)) h1.objs.size vs) ds) false vs vs).toArray) ho
    refine h h1 _ tk h1.objs.size _ n R hC k1 (fun b o e => ?_) (Nat.le_refl _) hn (by rw [sortVals_length false rfl]; exact hlen) ?_
    · exact (PyProof.Rows.sortedHeap_old (Nat.ne_of_lt (Heap.lt_size e)) (Heap.lt_size (kp b o e))).trans (kp b o e)
    · exact sortVals_each (κ := dataKind (sortingHeap (h1.push (seqObj "list" vs.toArray 0)) h1.objs.size vs) ds) (fun b : D => keyToks b) eR ((each_mem er').mono fun _ _ ⟨⟨_, r⟩, hd⟩ => dataKind_plain hp hd r)
def sSortedT : D → Option D
  | .list l => if sortableT l then some (.list (isort l)) else none
  | _ => none
def sSortedA : D → Option D := or1 sSorted sSortedT
theorem plain_all {l : List D} (h : ∀ d ∈ l, d.plain = true) : PyData.plainAll l = true := by
  induction l with
  | nil => rfl
  | cons x l ih =>
    rw [PyData.plainAll, h x List.mem_cons_self, ih fun d hd => h d (List.mem_cons_of_mem _ hd)]
    rfl
section
variable {c : Ct} {X : Cx} {Pr G H : Hp} {σ : L2.St} {ρ ρ' : List O} {pins : List (Addr × Obj)} {s : Shared}
theorem fp_sortedT (C : XC c X) : Fp1 c X (fun v => call (.builtin "sorted") [v]) sSortedT := by
  intro pins s σ H G x v d r I g rx t e
  unfold sSortedT at e
  have hu := C.hu
  cases d with
  | list l =>
    have e : (if sortableT l = true then some (PyData.list (isort l)) else none) = some r := e
    by_cases hs : sortableT l = true
    · rw [if_pos hs] at e
      cases e
      obtain ⟨a, xs, rfl, q, ra⟩ := t.seqL g
      obtain ⟨its, rv, pl, hz⟩ := I.list (by rw [C.K]; exact q)
      cases rx
      obtain ⟨o, ho, hc, n, hd⟩ := pl.isList
      obtain ⟨a1, a2, a3, a4⟩ := sortableT_of hs
      have hp : ∀ d ∈ l, d.plain = true := fun d hd => by
        obtain ⟨y, ys, rfl, h1, h2⟩ := a1 d hd
        show PyData.plainAll (y :: ys) = true
        rw [PyData.plainAll, h1, h2]
        rfl
      have big : LIM ≤ sizeLine := by decide
      refine sorted_shellT (ds := l) (C := fun R _ => R = fun v d => ∃ x, RelV x v ∧ Rp c G x d) (fun E' => ?_) (fun d hd => let ⟨y, ys, e, _⟩ := a1 d hd; ⟨y, ys, e⟩) hp a2 (by omega) (fun d hd => by have h9 : d.depth ≤ 60 := a4 d hd; omega) (fun h1 h' tk p out n R hR k1 k2 hpp hpo hl eo => ?_)
      · refine wpAny_collect_seq a (.inl rfl) ho hc hd (fun h' k => ?_) (by rw [List.size_toArray, ← rv.length]; exact hz)
        refine ⟨h', s.toks, _, rfl, k, rp_each rv ra, ?_, rfl⟩
        have I' := I.kept (t' := s.toks) k
        obtain ⟨as, hr⟩ := Dp.readsAll I' _ xs its (by rw [C.K]; exact ra.dp g (plain_all hp)) rv
        refine readsAll_each (id : D → D) (as := as) ?_
        rw [List.map_id]
        exact hr
      · subst hR
        rw [← isort_eq] at eo
        obtain ⟨ys, rys, qs⟩ := each_rp eo
        have hsz : ys.length ≤ sizeLine := by
          rw [qs.length, (isort_perm l).length_eq]
          omega
        have I1 := I.kept (t' := s.toks) k1
        have n0 : H p = none := I1.hok.fresh hpp
        exact ⟨.ref p, upd H p (.lst ys), I1.laid (o := .lst ys) (t' := tk) k2 hpp ⟨hsz, out, n, rys, hpo⟩, rfl, G, H, p, ys, _, Gr.refl g, rfl, n0, rfl, rfl, qs⟩
    · rw [if_neg hs] at e
      cases e
  | _ => cases e
theorem fp_sortedA (C : XC c X) : Fp1 c X (fun v => call (.builtin "sorted") [v]) sSortedA := (fp_sortedV C).or (fp_sortedT C)
end
end VL

set_option Elab.async false
set_option linter.all false
set_option maxRecDepth 100000
/-! V29: tuple(range(..)). -/
namespace VL
open PySem PySem.Spec PyProof.Rows L2 PySem.W PySem.SeqAt
def eTupR (a : Ev) : Ev := fun ρ => match a ρ with
  | some (.int n, ρ1) => if (-1000000 ≤ n ∧ n ≤ 1000000) then some (.tuple (rangeL 0 n.toNat), ρ1) else none
  | _ => none
theorem rpA_ints {c : Ct} {G : Hp} (f : Nat → Int) : ∀ l : List Nat, RpA c G (l.map fun i => V.int (f i)) (l.map fun i => PyData.int (f i))
  | [] => .nil
  | i :: l => .cons (.int _) (rpA_ints f l)
section
variable {c : Ct} {X : Cx} {Pr G H : Hp} {σ : L2.St} {ρ ρ' : List O} {pins : List (Addr × Obj)} {s : Shared}
theorem ce_tupRg {a : Expr} {f : Ev} {p pos p2 pos2 : Pos} (C : XC c X) (hg : Gl X "tuple") (hg2 : Gl X "range") (ha : CE c X a f) (na : starEach [a] X.env = (false, eval a X.env) :: starEach [] X.env := by rfl)
    (nr : starEach [.Call (.Name "range" p2) [a] [] pos2] X.env = (false, eval (.Call (.Name "range" p2) [a] [] pos2) X.env) :: starEach [] X.env := by rfl) : CE c X (.Call (.Name "tuple" p) [.Call (.Name "range" p2) [a] [] pos2] [] pos) (eTupR f) := by
  intro pins s σ H Pr G ρ ρ' d I E q
  unfold eTupR at q
  split at q
  · rename_i n ρ1 hf
    split at q
    · rename_i hn
      cases q
      have big2 : sizeLine = 16777216 := sizeLine_eq
      have e62 : (2 : Int) ^ 62 = 4611686018427387904 := by decide
      have e24 : 2 ^ 24 = 16777216 := by decide
      refine Call_ (ld_blt I hg (C.blt _ (by decide)) boot_tuple (PyProof.Rows.callWith_type1 (args_cons (thn (prg_1 hg2 (C.blt _ (by decide)) ha.pe na pins s σ H (fun a b H1 => a = 0 ∧ b = n ∧ ∃ G', Ge G G' ∧ ER c Pr G' H1 σ ρ') I ⟨Pr, G, ρ, .int n, ρ', E, hf, fun v H' ⟨G', g, E', rp⟩ => ?_⟩) fun x s1 ⟨r, a, b, t, u, v, H1, ex, hr, I1, q⟩ => args_nil ?_) nr) nr))
      · cases rp
        exact ⟨n, rfl, rfl, rfl, G', g, E'⟩
      · obtain ⟨rfl, rfl, G1, g1, E1⟩ := q
        subst ex
        refine call_tuple_range (n := (b - 0).toNat) (I1.ok.hd C.calm) hr (small_one (by omega) (by omega) (by omega) (by omega)) (rangeSize_nat 0 b) (by omega) fun h' tk acc hk hi => ?_
        have I2 : Inv X pins σ H1 { s1 with heap := h', toks := tk } := I1.kept hk
        have hv := vals_rg hi
        have ra : RpA c G1 (rgV 0 b) (rangeL 0 b.toNat) := by
          unfold rgV rangeL
          rw [Int.sub_zero]
          exact rpA_ints (fun i => 0 + (i : Int)) _
        obtain ⟨z, H2, I3, rz, G2, gr, rp⟩ := laidT (s := s1) (h' := h') (tk := tk) I2 E1.gh hv (by rw [rgV_length, big2]; omega) ra
        rw [Array.toArray_toList] at I3
        exact ⟨z, H2, I3, rz, PostE.of g1 E1 gr rp⟩
    · cases q
  · cases q
instance {a : Ev} [Fz a] : Fz (eTupR a) := ⟨fun ρ z h => by
  unfold eTupR at h
  split at h
  · rename_i n ρ1 h1
    split at h
    · cases h
      exact Fz.fz (e := a) ρ (.int n, ρ1) h1
    · cases h
  · cases h⟩
end
end VL

set_option Elab.async false
set_option linter.all false
set_option maxRecDepth 100000
/-! V30: a tuple the other way round. -/
namespace VL
open PySem PySem.Spec PyProof.Rows L2 PySem.W PySem.SeqAt
section
variable {prog : Program} {w : World} {A : Around} {E : Value → Shared → Prop} {s : Shared}
theorem sliceApplied_rev {sl : Addr} {vl vu vs : Value} {n : Nat} {Q : Int × Int × Nat → Shared → Prop} (hs : s.heap.IsSliceOf sl vl vu vs) (pl : IsPart vl none) (pu : IsPart vu none) (ps : IsPart vs (some (-1)))
    (h : Q ((n : Int) - 1, -1, n) s) : wpAny (model prog w) A (Builtin.Slice.sliceApplied (.ref sl) (pure (n : Int))) Q E s := by
  obtain ⟨os, hos, hcs, hds⟩ := id hs
  unfold Builtin.Slice.sliceApplied Builtin.Slice.sliceFields
  refine wpAny_bind (wpAny_bind (wpAny_field hos hds (x := vl) rfl (wpAny_bind (wpAny_field hos hds (x := vu) rfl (wpAny_bind (wpAny_field hos hds (x := vs) rfl (wpAny_pure ?_)))))))
  refine wpAny_bind (HT.slicePart_ ps ?_)
  show wpAny _ _ (if ((-1 : Int) == 0) = true then _ else _) _ _ s
  rw [if_neg (by decide)]
  refine wpAny_bind (HT.slicePart_ pl (wpAny_bind (HT.slicePart_ pu (wpAny_bind (wpAny_pure ?_)))))
  show wpAny _ _ (match Builtin.Slice.sliceAdjust none none (-1) (n : Int) with | (lo, hi) => pure (lo, (-1 : Int), Builtin.Slice.slicePlaces lo hi (-1))) _ _ s
  have ea : Builtin.Slice.sliceAdjust none none (-1) (n : Int) = ((n : Int) - 1, -1) := by
    unfold Builtin.Slice.sliceAdjust
    simp
  rw [ea]
  have ep : Builtin.Slice.slicePlaces ((n : Int) - 1) (-1) (-1) = n := by
    unfold Builtin.Slice.slicePlaces
    have h1 : ¬ ((-1 : Int) > 0) := by omega
    have h2 : (- (-1 : Int)) = 1 := by decide
    simp only [h1, if_false, h2, Int.ediv_one]
    split <;> omega
  show wpAny _ _ (pure ((n : Int) - 1, (-1 : Int), Builtin.Slice.slicePlaces ((n : Int) - 1) (-1) (-1))) _ _ s
  rw [ep]
  exact wpAny_pure h
theorem pick_rev (xs : Array Value) : ((List.range xs.size).filterMap fun (m : Nat) => xs[(((xs.size : Int) - 1) + (m : Int) * (-1)).toNat]?).toArray = xs.toList.reverse.toArray := by
  have e : ((List.range xs.size).filterMap fun (m : Nat) => xs[(((xs.size : Int) - 1) + (m : Int) * (-1)).toNat]?) = ((List.range xs.size).map fun k => xs.size - 1 - k).filterMap (xs[·]?) := by
    rw [List.filterMap_map]
    refine congrArg (fun f => List.filterMap f (List.range xs.size)) (funext fun m => ?_)
    show xs[(((xs.size : Int) - 1) + (m : Int) * (-1)).toNat]? = xs[xs.size - 1 - m]?
    have : (((xs.size : Int) - 1) + (m : Int) * (-1)).toNat = xs.size - 1 - m := by omega
    rw [this]
  rw [e, krv_range, List.filterMap_reverse, krv_all]
theorem getItem_tuple_rev {t sl : Addr} {items : Array Value} {vl vu vs : Value} {Q : Value → Shared → Prop} (ht : IsTup s.heap t items) (hs : s.heap.IsSliceOf sl vl vu vs) (pl : IsPart vl none) (pu : IsPart vu none) (ps : IsPart vs (some (-1)))
    (h : Q (.ref s.heap.objs.size) { s with heap := s.heap.push { cls := .type "tuple", data := .seq items.toList.reverse.toArray } })
    (hsz : items.size ≤ sizeLine) : wpAny (model prog w) A (getItem (.ref t) (.ref sl)) Q E s := by
  have htake : sizeOk (.seq items.toList.reverse.toArray) := by
    show items.toList.reverse.toArray.size ≤ sizeLine
    rw [List.size_toArray, List.length_reverse, Array.length_toList]
    exact hsz
  obtain ⟨os, hos, hcs, hds⟩ := id hs
  have hTs : s.TypeIs (.ref sl) "slice" := ⟨os, hos, hcs⟩
  unfold getItem
  try with_reducible refine wpAny_holding ?_
  first | refine wpAny_bind (wpAny_pure ?_) | skip
  refine wpAny_bind (wpAny_sequenceKey ht.typeIs (by decide) ?_)
  refine wpAny_bind (wpAny_callSpecial?_slot (name := Str.ofString "__getitem__") ht.typeIs PyProof.Rows.slot_tuple_getitem
    (wpAny_call_entry PyProof.Rows.slot_tuple_getitem ht.typeIs entry_tuple_getitem ?_ (args_tuple_getitem _ _)))
  show wpAny _ _ (Builtin.Tuple.tupleItemsOf (.ref t) >>= _) _ _ s
  refine wpAny_bind (tupleItemsOf_ ht ?_)
  refine wpAny_bind (wpAny_typeOf hTs ?_)
  rw [if_pos (by decide)]
  refine wpAny_bind (sliceApplied_rev hs pl pu ps ?_)
  have hno : ¬ ((((items.size : Int) - 1) == 0 && (-1 : Int) == 1 && items.size == items.size) = true) := by
    intro q
    rw [Bool.and_eq_true, Bool.and_eq_true] at q
    exact absurd q.1.2 (by decide)
  show wpAny _ _ (if (((items.size : Int) - 1) == 0 && (-1 : Int) == 1 && items.size == items.size) = true then _ else _) _ _ s
  rw [if_neg hno, pick_rev]
  first
    | exact wpAny_bind (m := Builtin.Tuple.tupleExact _) (wpAny_newObj_type (wpAny_pure ⟨_, rfl, wpAny_pure h⟩) htake)
    | exact wpAny_bind (m := Builtin.Tuple.tupleExact _) (wpAny_newObj_type (wpAny_bind (wpAny_pure (wpAny_pure ⟨_, rfl, wpAny_pure h⟩))) htake)
    | exact wpAny_bind (wpAny_bind (m := Builtin.Tuple.tupleExact _) (wpAny_newObj_type (wpAny_pure (wpAny_pure ⟨_, rfl, wpAny_pure h⟩)) htake))
    | exact wpAny_bind (wpAny_bind (m := Builtin.Tuple.tupleExact _) (wpAny_newObj_type (wpAny_pure ⟨_, rfl, wpAny_pure h⟩) htake))
end
def sRevT : D → Option D
  | .tuple l => some (.tuple l.reverse)
  | _ => none
section
variable {c : Ct} {X : Cx} {Pr G H : Hp} {σ : L2.St} {ρ ρ' : List O} {pins : List (Addr × Obj)} {s : Shared}
theorem ce_revT {e : Expr} {f : Ev} {k : Nat} {p1 p2 p3 pos : Pos} (he : CE c X e f) : CE c X (.Subscript e (.Slice none none (some (.UnaryOp .USub (.Constant (.int 1) k p1) p2)) p3) pos) (o1 sRevT (kE f)) := by
  intro pins s σ H Pr G ρ ρ' d I E h
  obtain ⟨t, d1, h1, h2, h3⟩ := o1_some h
  obtain ⟨d2, h4, h5⟩ := kE_some h1
  have h5 : t = fun _ => some d2 := h5
  subst h5
  cases h2
  cases d1 with
  | tuple l =>
    cases h3
    refine Subscript_ (thn (he pins s σ H Pr G ρ ρ' _ I E h4) fun v s1 ⟨x, H1, I1, r1, G1, g1, E1, q1⟩ => ?_)
    have hst : PO X (some (.UnaryOp .USub (.Constant (.int 1) k p1) p2)) (tPart (tUn (rU fun i => .int (-i)) (tC (.int 1)))) := po_some (pe_un un_neg pe_int)
    refine wpAny_Slice (thn (po_none.run pins s1 σ H1 (fun o H2 => o = none ∧ H2 = H1) I1 ⟨rfl, rfl⟩) fun vl s2 ⟨l2, H2, I2, pl, el, e2⟩ => ?_)
    subst el e2
    refine thn (po_none.run pins s2 σ H2 (fun o H3 => o = none ∧ H3 = H2) I2 ⟨rfl, rfl⟩) fun vu s3 ⟨u, H3, I3, pu, eu, e3⟩ => ?_
    subst eu e3
    refine thn (hst.run pins s3 σ H3 (fun o H4 => o = some (-1) ∧ H4 = H3) I3 ⟨1, rfl, -1, rfl, rfl, rfl⟩) fun vs s4 ⟨o, H4, I4, ps, eo, e4⟩ => ?_
    subst eo e4
    have I5 : Inv X pins σ H4 { s4 with heap := s4.heap.push { cls := .type "slice", data := .fields #[vl, vu, vs] } } := I4.kept (t' := s4.toks) fun b ob q => Heap.get?_push_of_some _ q
    cases q1 with
    | @tup a o xs _ f n ra =>
      cases r1
      obtain ⟨its, rv, ht, hz⟩ := I5.tupAt E1.gh f
      have hlen : its.toArray.size = xs.length := by rw [List.size_toArray]; exact rv.length.symm
      show wpAny (model X.prog X.w) X.A (subscriptTail e (.Slice none none (some (.UnaryOp .USub (.Constant (.int 1) k p1) p2)) p3) (.ref a) (.ref s4.heap.objs.size)) (EP X pins σ (PostE c Pr G σ ρ' (.tuple l.reverse))) X.xe { s4 with heap := s4.heap.push { cls := .type "slice", data := .fields #[vl, vu, vs] } }
      refine tail_any (ops := [.ref a, .ref s4.heap.objs.size]) ht.typeIs (PyProof.Rows.slot_tuple_getitem.lookup) ?_ (by with_unfolding_all rfl)
      refine getItem_tuple_rev ht (Heap.IsSliceOf.new _ vl vu vs) pl pu ps ?_ (by rw [hlen]; exact hz)
      obtain ⟨z, H6, I6, rz, G2, gr, rp⟩ := laidT (s := { s4 with heap := s4.heap.push { cls := .type "slice", data := .fields #[vl, vu, vs] } }) (h' := s4.heap.push { cls := .type "slice", data := .fields #[vl, vu, vs] }) (tk := s4.toks) I5 E1.gh rv.reverse (by rw [List.length_reverse]; exact hz) (rpa_rev ra)
      exact ⟨z, H6, I6, rz, PostE.of g1 E1 gr rp⟩
  | _ => cases h3
end
end VL

set_option Elab.async false
set_option linter.all false
set_option maxRecDepth 100000
/-! P1: plain evaluation of mirrors: equations for simp. No program in sight. -/
namespace VL
open PySem

/-! ### which slots an expression hands out -/
def okS (S : List Nat) (ρ : List O) : Bool := S.all fun i => match ρ[i]? with
  | some (.lst _) => false
  | some (.dic _) => false
  | some (.ins _ _) => false
  | _ => true
class Stab (S : outParam (List Nat)) (e : Ev) : Prop where
  st : ∀ ρ z, okS S ρ = true → e ρ = some z → z.2 = ρ
class StabK (S : outParam (List Nat)) (p : Pk) : Prop where
  st : ∀ ρ z, okS S ρ = true → p ρ = some z → z.2 = ρ
class StabS (S : outParam (List Nat)) (e : Evs) : Prop where
  st : ∀ ρ z, okS S ρ = true → e ρ = some z → z.2 = ρ
class StabI (S : outParam (List Nat)) (e : Iv) : Prop where
  st : ∀ ρ z, okS S ρ = true → e ρ = some z → z.2 = ρ
theorem okS_app {S T : List Nat} {ρ : List O} (h : okS (S ++ T) ρ = true) : okS S ρ = true ∧ okS T ρ = true := by
  unfold okS at *
  rw [List.all_append, Bool.and_eq_true] at h
  exact h
section
variable {S T U : List Nat} {a b e : Ev} {p q r : Pk} {es : Evs}
instance (d : D) : Stab [] (eC d) := ⟨fun ρ z _ h => by cases h; rfl⟩
instance (i : Nat) : Stab [i] (eV i) := ⟨fun ρ z k h => by
  unfold okS at k
  unfold eV at h
  simp only [List.all_cons, List.all_nil, Bool.and_true] at k
  split at h
  · cases h; rfl
  · rename_i l e
    rw [e] at k
    cases k
  · rename_i l e
    rw [e] at k
    cases k
  · cases h⟩
instance (i : Nat) : StabK [] (kP i) := ⟨fun ρ z k h => by
  unfold kP at h
  split at h
  · cases h; rfl
  · cases h⟩
instance [Stab S a] : StabK S (kE a) := ⟨fun ρ z k h => by
  obtain ⟨d, h1, _⟩ := kE_some h
  exact Stab.st (e := a) ρ _ k h1⟩
instance {f : D → Option D} [StabK S p] : Stab S (o1 f p) := ⟨fun ρ z k h => by
  obtain ⟨t, d, h1, _⟩ := o1_some h
  exact StabK.st (p := p) ρ _ k h1⟩
instance {f : D → D → Option D} [StabK S p] [StabK T q] : Stab (S ++ T) (o2 f p q) := ⟨fun ρ z k h => by
  obtain ⟨k1, k2⟩ := okS_app k
  unfold o2 at h
  split at h
  · rename_i t ρ1 h1
    have e1 : ρ1 = ρ := StabK.st (p := p) ρ _ k1 h1
    subst e1
    split at h
    · rename_i u ρ2 h2
      have e2 : ρ2 = ρ1 := StabK.st (p := q) ρ1 _ k2 h2
      subst e2
      split at h
      · split at h
        · cases h; rfl
        · cases h
      · cases h
    · cases h
  · cases h⟩
instance {f : D → D → D → Option D} [StabK S p] [StabK T q] [StabK U r] : Stab (S ++ (T ++ U)) (o3 f p q r) := ⟨fun ρ z k h => by
  obtain ⟨k1, k2⟩ := okS_app k
  obtain ⟨k2, k3⟩ := okS_app k2
  obtain ⟨t, u, v, ρ1, ρ2, x, y, w, h1, h2, h3, _⟩ := o3_some h
  have e1 : ρ1 = ρ := StabK.st (p := p) ρ _ k1 h1
  subst e1
  have e2 : ρ2 = ρ1 := StabK.st (p := q) ρ1 _ k2 h2
  subst e2
  exact StabK.st (p := r) ρ2 _ k3 h3⟩
instance : StabS [] esNil := ⟨fun ρ z _ h => by cases h; rfl⟩
instance [Stab S a] [StabS T es] : StabS (S ++ T) (esCons a es) := ⟨fun ρ z k h => by
  obtain ⟨k1, k2⟩ := okS_app k
  unfold esCons at h
  split at h
  · rename_i x ρ1 h1
    have e1 : ρ1 = ρ := Stab.st (e := a) ρ _ k1 h1
    subst e1
    split at h
    · rename_i xs ρ2 h2
      cases h
      have := StabS.st (e := es) ρ1 (xs, ρ2) k2 h2
      exact this
    · cases h
  · cases h⟩
instance [StabS S es] : Stab S (eTup es) := ⟨fun ρ z k h => by
  unfold eTup at h
  split at h
  · rename_i x ρ1 h1
    split at h
    · cases h
      exact StabS.st (e := es) ρ _ k h1
    · cases h
  · cases h⟩
instance [StabS S es] : Stab S (eLst es) := ⟨fun ρ z k h => by
  unfold eLst at h
  split at h
  · rename_i x ρ1 h1
    split at h
    · cases h
      exact StabS.st (e := es) ρ _ k h1
    · cases h
  · cases h⟩
instance {φ : List D → Option D} [StabS S es] : Stab S (eCall φ es) := ⟨fun ρ z k h => by
  obtain ⟨ds, h1, _⟩ := eCall_some h
  exact StabS.st (e := es) ρ _ k h1⟩
instance {f : D → List D → Option D} [StabK S p] [StabS T es] : Stab (S ++ T) (eM f p es) := ⟨fun ρ z k h => by
  obtain ⟨k1, k2⟩ := okS_app k
  obtain ⟨t, ρ1, d0, ds, d, h1, h2, h3, _⟩ := eM_some h
  have e1 : ρ1 = ρ := StabK.st (p := p) ρ _ k1 h1
  subst e1
  exact StabS.st (e := es) ρ1 _ k2 h3⟩
instance [Stab S a] [Stab T b] : Stab (S ++ T) (eAnd a b) := ⟨fun ρ z k h => by
  obtain ⟨k1, k2⟩ := okS_app k
  obtain ⟨j, ρ1, h1, h2, h3⟩ := eAnd_true h
  have e1 : ρ1 = ρ := Stab.st (e := a) ρ _ k1 h1
  subst e1
  cases j with
  | true => exact Stab.st (e := b) ρ1 _ k2 (h2 rfl)
  | false => rw [h3 rfl]⟩
instance [Stab S a] [Stab T b] : Stab (S ++ T) (eOr a b) := ⟨fun ρ z k h => by
  obtain ⟨k1, k2⟩ := okS_app k
  obtain ⟨j, ρ1, h1, h2, h3⟩ := eOr_true h
  have e1 : ρ1 = ρ := Stab.st (e := a) ρ _ k1 h1
  subst e1
  cases j with
  | false => exact Stab.st (e := b) ρ1 _ k2 (h2 rfl)
  | true => rw [h3 rfl]⟩
instance {f g : D → D → Option D} [Stab S a] [Stab T b] [Stab U e] : Stab (S ++ (T ++ U)) (eChain f g a b e) := ⟨fun ρ z k h => by
  obtain ⟨k1, k2⟩ := okS_app k
  obtain ⟨k2, k3⟩ := okS_app k2
  obtain ⟨x, ρ1, y, ρ2, j, h1, h2, h3, h4, h5⟩ := eChain_some h
  have e1 : ρ1 = ρ := Stab.st (e := a) ρ _ k1 h1
  subst e1
  have e2 : ρ2 = ρ1 := Stab.st (e := b) ρ1 _ k2 h2
  subst e2
  cases j with
  | true =>
    obtain ⟨w, j, h6, _⟩ := h5 rfl
    have := Stab.st (e := e) ρ2 _ k3 h6
    exact this
  | false => rw [h4 rfl]⟩
instance [Stab S a] : StabI S (iSeq a) := ⟨fun ρ z k h => by
  unfold iSeq at h
  split at h
  · rename_i l ρ1 h1
    cases h
    exact Stab.st (e := a) ρ _ k h1
  · rename_i l ρ1 h1
    cases h
    exact Stab.st (e := a) ρ _ k h1
  · cases h⟩
instance [Stab S a] : StabI S (iSeqA a) := ⟨fun ρ z k h => by
  unfold iSeqA at h
  split at h
  · rename_i l ρ1 h1
    cases h
    exact Stab.st (e := a) ρ _ k h1
  · rename_i l ρ1 h1
    cases h
    exact Stab.st (e := a) ρ _ k h1
  · rename_i l ρ1 h1
    cases h
    exact Stab.st (e := a) ρ _ k h1
  · cases h⟩
instance : Stab [] eDnil := ⟨fun ρ z _ h => by cases h; rfl⟩
instance [Stab S a] : StabI S (iR1 a) := ⟨fun ρ z k h => by
  unfold iR1 at h
  split at h
  · rename_i l ρ1 h1
    split at h
    · cases h
      exact Stab.st (e := a) ρ _ k h1
    · cases h
  · cases h⟩
instance [Stab S a] [Stab T b] : StabI (S ++ T) (iR2 a b) := ⟨fun ρ z k h => by
  obtain ⟨k1, k2⟩ := okS_app k
  unfold iR2 at h
  split at h
  · rename_i m ρ1 h1
    have e1 : ρ1 = ρ := Stab.st (e := a) ρ _ k1 h1
    subst e1
    split at h
    · rename_i n ρ2 h2
      split at h
      · cases h
        exact Stab.st (e := b) ρ1 _ k2 h2
      · cases h
    · cases h
  · cases h⟩
end
instance : Stab [] eTrue := ⟨fun ρ z _ h => by cases h; rfl⟩

/-! ### comprehensions as functions -/
/-- all answers, some left out; none if any has none -/
def mapMO {α : Type} (f : α → Option (Option D)) : List α → Option (List D)
  | [] => some []
  | x :: xs => match f x with
    | some (some y) => (mapMO f xs).map (y :: ·)
    | some none => mapMO f xs
    | none => none
/-- one turn -/
def turnO (c e : Ev) (ρ : List O) : Option (Option D) := match c ρ with
  | some (.bool true, _) => match e ρ with
    | some (y, _) => some (some y)
    | none => none
  | some (.bool false, _) => some none
  | _ => none
def turnT (tg : Tg) (c e : Ev) (ρ : List O) (x : D) : Option (Option D) := match tgo tg x ρ with
  | some ρ1 => turnO c e ρ1
  | none => none
def covers (tg : Tg) (vs : List Nat) : Bool := (tgIs tg).all fun i => vs.any fun j => Nat.beq i j
theorem wipeO_len : ∀ (vs : List Nat) (ρ : List O), (wipeO ρ vs).length = ρ.length
  | [], _ => rfl
  | v :: vs, ρ => by unfold wipeO; rw [List.length_set, wipeO_len vs ρ]
theorem wipeO_at : ∀ (vs : List Nat) (ρ : List O) (j : Nat), (wipeO ρ vs)[j]? = if j ∈ vs then (if j < ρ.length then some .un else none) else ρ[j]?
  | [], ρ, j => by simp [wipeO]
  | v :: vs, ρ, j => by
    unfold wipeO
    by_cases h : v = j
    · subst h
      rw [if_pos List.mem_cons_self]
      by_cases hl : v < ρ.length
      · rw [List.getElem?_set_self (by rw [wipeO_len]; exact hl), if_pos hl]
      · rw [if_neg hl, List.getElem?_eq_none (by rw [List.length_set, wipeO_len]; omega)]
    · rw [List.getElem?_set_ne h, wipeO_at vs ρ j]
      have h2 : ¬ j = v := fun e => h e.symm
      by_cases hj : j ∈ vs
      · rw [if_pos hj, if_pos (List.mem_cons_of_mem _ hj)]
      · rw [if_neg hj, if_neg (fun q => (List.mem_cons.mp q).elim h2 hj)]
theorem setAll_at : ∀ (is : List Nat) (ds : List D) (ρ ρ' : List O), setAll is ds ρ = some ρ' → ρ'.length = ρ.length ∧ ∀ j, (j ∉ is → ρ'[j]? = ρ[j]?) ∧ (j ∈ is → ∀ o, ρ'[j]? = some o → ∃ d, o = .val d)
  | [], [], ρ, ρ', h => by
    cases h
    exact ⟨rfl, fun j => ⟨fun _ => rfl, fun h => by cases h⟩⟩
  | i :: is, d :: ds, ρ, ρ', h => by
    have h : setAll is ds (ρ.set i (.val d)) = some ρ' := h
    obtain ⟨h1, h2⟩ := setAll_at is ds _ _ h
    refine ⟨by rw [h1, List.length_set], fun j => ⟨fun hj => ?_, fun hj o e => ?_⟩⟩
    · rw [(h2 j).1 fun q => hj (List.mem_cons_of_mem _ q), List.getElem?_set_ne fun q => hj (by subst q; exact List.mem_cons_self)]
    · by_cases hi : j ∈ is
      · exact (h2 j).2 hi o e
      · have e2 : j = i := (List.mem_cons.mp hj).resolve_right hi
        subst e2
        rw [(h2 j).1 hi] at e
        by_cases hl : j < ρ.length
        · rw [List.getElem?_set_self hl] at e
          exact ⟨d, (Option.some.inj e).symm⟩
        · rw [List.getElem?_eq_none (by rw [List.length_set]; omega)] at e
          cases e
  | [], _ :: _, _, _, h => by cases h
  | _ :: _, [], _, _, h => by cases h
theorem tgo_at {tg : Tg} {x : D} {ρ ρ' : List O} (h : tgo tg x ρ = some ρ') : ρ'.length = ρ.length ∧ ∀ j, (j ∉ tgIs tg → ρ'[j]? = ρ[j]?) ∧ (j ∈ tgIs tg → ∀ o, ρ'[j]? = some o → ∃ d, o = .val d) := by
  cases tg with
  | one i => exact setAll_at [i] [x] ρ ρ' h
  | many is =>
    cases x with
    | tuple ds => exact setAll_at is ds ρ ρ' h
    | _ => cases h
theorem covers_mem {tg : Tg} {vs : List Nat} (h : covers tg vs = true) {j : Nat} (hj : j ∈ tgIs tg) : j ∈ vs := by
  unfold covers at h
  rw [List.all_eq_true] at h
  have := h j hj
  rw [List.any_eq_true] at this
  obtain ⟨k, hk, e⟩ := this
  have e2 : j = k := Nat.eq_of_beq_eq_true e
  rw [e2]
  exact hk
theorem giveBack_wipe (ρ : List O) (vs : List Nat) : giveBack ρ (wipeO ρ vs) vs = ρ := by
  have key : ∀ (is : List Nat) (ν : List O), ν.length = ρ.length → (giveBack ρ ν is).length = ρ.length ∧ ∀ j, (giveBack ρ ν is)[j]? = if j ∈ is then ρ[j]? else ν[j]? := by
    intro is
    induction is with
    | nil => intro ν h; exact ⟨h, fun j => by simp [giveBack]⟩
    | cons i is ih =>
      intro ν h
      obtain ⟨h1, h2⟩ := ih ν h
      unfold giveBack
      cases e : ρ[i]? with
      | none =>
        refine ⟨h1, fun j => ?_⟩
        simp only
        rw [h2 j]
        by_cases hj : j = i
        · subst hj
          have : ν[j]? = none := by
            rw [List.getElem?_eq_none_iff] at e ⊢
            omega
          simp [e, this]
        · simp [hj]
      | some o =>
        simp only
        refine ⟨by rw [List.length_set]; exact h1, fun j => ?_⟩
        by_cases hj : i = j
        · subst hj
          have hi : i < (giveBack ρ ν is).length := by
            rw [h1]
            exact (List.getElem?_eq_some_iff.mp e).1
          rw [List.getElem?_set_self hi]
          simp [e]
        · rw [List.getElem?_set_ne hj, h2 j]
          have : ¬ j = i := fun q => hj q.symm
          simp [this]
  refine List.ext_getElem? fun j => ?_
  rw [(key vs _ (wipeO_len vs ρ)).2 j, wipeO_at]
  by_cases hj : j ∈ vs
  · rw [if_pos hj]
  · rw [if_neg hj, if_neg hj]
/-- what a comprehension does where nothing of its own is handed out -/
theorem eComp_eq {Si Sc Se : List Nat} {it : Iv} {tg : Tg} {vs : List Nat} {c e : Ev} {ρ : List O} [StabI Si it] [Stab Sc c] [Stab Se e] (h : (okS Si ρ && (noOwn ρ vs && (okS (Sc ++ Se) (wipeO ρ vs) && covers tg vs))) = true) :
    eComp it tg c e vs ρ = (it ρ).bind fun z => (mapMO (turnT tg c e (wipeO ρ vs)) z.1).map fun l => (.list l, ρ) := by
  simp only [Bool.and_eq_true] at h
  obtain ⟨h1, h2, h3, h4⟩ := h
  unfold eComp
  cases hit : it ρ with
  | none => rfl
  | some z =>
    obtain ⟨xs, ρ1⟩ := z
    have e1 : ρ1 = ρ := StabI.st (e := it) ρ _ h1 hit
    subst e1
    simp only [h2, if_true]
    obtain ⟨kc, ke⟩ := okS_app h3
    have okx : ∀ (S : List Nat) (x : D) (ρ' : List O), okS S (wipeO ρ1 vs) = true → tgo tg x (wipeO ρ1 vs) = some ρ' → okS S ρ' = true := fun S x ρ' h q => by
      obtain ⟨_, q⟩ := tgo_at q
      unfold okS at *
      rw [List.all_eq_true] at *
      intro j hj
      have := h j hj
      by_cases hi : j ∈ tgIs tg
      · cases e : ρ'[j]? with
        | none => rfl
        | some o =>
          obtain ⟨d, rfl⟩ := (q j).2 hi o e
          rfl
      · rw [(q j).1 hi]
        exact this
    have back : ∀ (x : D) (ρ' : List O), tgo tg x (wipeO ρ1 vs) = some ρ' → wipeO ρ' vs = wipeO ρ1 vs := fun x ρ' q => by
      obtain ⟨hl, q⟩ := tgo_at q
      rw [wipeO_len] at hl
      refine List.ext_getElem? fun j => ?_
      rw [wipeO_at, wipeO_at, hl]
      by_cases hj : j ∈ vs
      · rw [if_pos hj, if_pos hj]
      · rw [if_neg hj, if_neg hj, (q j).1 fun hi => hj (covers_mem h4 hi), wipeO_at, if_neg hj]
    have key : ∀ (xs acc : List D), lcLoop tg c e vs xs (wipeO ρ1 vs) acc = (mapMO (turnT tg c e (wipeO ρ1 vs)) xs).map fun l => (acc ++ l, wipeO ρ1 vs) := by
      intro xs
      induction xs with
      | nil => intro acc; simp [lcLoop, mapMO]
      | cons x xs ih =>
        intro acc
        have hm : mapMO (turnT tg c e (wipeO ρ1 vs)) (x :: xs) = match turnT tg c e (wipeO ρ1 vs) x with
          | some (some y) => (mapMO (turnT tg c e (wipeO ρ1 vs)) xs).map (y :: ·)
          | some none => mapMO (turnT tg c e (wipeO ρ1 vs)) xs
          | none => none := rfl
        rw [hm]
        unfold lcLoop lcTurn
        cases ht : tgo tg x (wipeO ρ1 vs) with
        | none =>
          have eT : turnT tg c e (wipeO ρ1 vs) x = none := by unfold turnT; rw [ht]
          rw [eT]
          rfl
        | some ρ' =>
          have kc' := okx _ x ρ' kc ht
          have ke' := okx _ x ρ' ke ht
          have bk := back x ρ' ht
          simp only
          cases hc : c ρ' with
          | none =>
            have eT : turnT tg c e (wipeO ρ1 vs) x = none := by unfold turnT turnO; simp only [ht, hc]
            rw [eT]
            rfl
          | some w =>
            obtain ⟨d, ρ2⟩ := w
            have e2 : ρ2 = ρ' := Stab.st (e := c) _ _ kc' hc
            subst e2
            cases d with
            | bool b =>
              cases b with
              | true =>
                simp only
                cases he : e ρ2 with
                | none =>
                  have eT : turnT tg c e (wipeO ρ1 vs) x = none := by unfold turnT turnO; simp only [ht, hc, he]
                  rw [eT]
                  rfl
                | some w =>
                  obtain ⟨y, ρ3⟩ := w
                  have e3 : ρ3 = ρ2 := Stab.st (e := e) _ _ ke' he
                  subst e3
                  have eT : turnT tg c e (wipeO ρ1 vs) x = some (some y) := by unfold turnT turnO; simp only [ht, hc, he]
                  rw [eT]
                  simp only
                  rw [bk, ih]
                  cases mapMO (turnT tg c e (wipeO ρ1 vs)) xs with
                  | none => rfl
                  | some l => simp
              | false =>
                have eT : turnT tg c e (wipeO ρ1 vs) x = some none := by unfold turnT turnO; simp only [ht, hc]
                rw [eT]
                simp only
                rw [bk, ih]
            | _ =>
              have eT : turnT tg c e (wipeO ρ1 vs) x = none := by unfold turnT turnO; simp only [ht, hc]
              rw [eT]
              rfl
    rw [key]
    show _ = (mapMO (turnT tg c e (wipeO ρ1 vs)) xs).map fun l => (PyData.list l, ρ1)
    cases mapMO (turnT tg c e (wipeO ρ1 vs)) xs with
    | none => rfl
    | some l =>
      simp only [Option.map_some, List.nil_append]
      rw [giveBack_wipe]
class Cov (tg : Tg) (vs : List Nat) : Prop where
  cov : covers tg vs = true
theorem beq_self_nat (i : Nat) : Nat.beq i i = true := Nat.beq_refl i
instance (i : Nat) : Cov (.one i) [i] := ⟨by simp [covers, tgIs]⟩
instance (i j : Nat) : Cov (.many [i, j]) [i, j] := ⟨by simp [covers, tgIs]⟩
instance (i j k : Nat) : Cov (.many [i, j, k]) [i, j, k] := ⟨by simp [covers, tgIs]⟩
/-- comprehensions within expressions -/
instance {Si Sc Se : List Nat} {it : Iv} {tg : Tg} {vs : List Nat} {c e : Ev} [StabI Si it] [Stab Sc c] [Stab Se e] [Cov tg vs] : Stab (Si ++ (Sc ++ Se)) (eComp it tg c e vs) := ⟨fun ρ z k h => by
  obtain ⟨k1, k2⟩ := okS_app k
  by_cases hn : noOwn ρ vs = true
  · have kw : okS (Sc ++ Se) (wipeO ρ vs) = true := by
      unfold okS at *
      rw [List.all_eq_true] at *
      intro j hj
      have := k2 j hj
      rw [wipeO_at]
      split
      · rename_i o e
        split at e
        · split at e <;> cases e
        · simp only [e] at this
          exact this
      · rename_i o e
        split at e
        · split at e <;> cases e
        · simp only [e] at this
          exact this
      · rename_i o f e
        split at e
        · split at e <;> cases e
        · simp only [e] at this
          exact this
      · rfl
    rw [eComp_eq (Si := Si) (Sc := Sc) (Se := Se) (by rw [k1, hn, kw, Cov.cov]; rfl)] at h
    obtain ⟨w, h1, h2⟩ := Option.bind_eq_some_iff.mp h
    obtain ⟨l, h3, h4⟩ := Option.map_eq_some_iff.mp h2
    rw [← h4]
  · exfalso
    unfold eComp at h
    split at h
    · rename_i xs ρ1 hit
      have e1 : ρ1 = ρ := StabI.st (e := it) ρ _ k1 hit
      subst e1
      rw [if_neg hn] at h
      cases h
    · cases h⟩
end VL

set_option Elab.async false
set_option linter.all false
set_option maxRecDepth 100000
/-! P2: equations of the mirror's words, for simp. -/
namespace VL
open PySem

def vK (o : Option O) (i : Nat) (ρ : List O) : Option (D × List O) := match o with
  | some (.val d) => some (d, ρ)
  | some (.lst l) => some (.list l, ρ.set i (.val (.list l)))
  | some (.dic l) => some (.dict l, ρ.set i (.val (.dict l)))
  | _ => none
def pkK (o : Option O) : Option D := match o with
  | some (.val d) => some d
  | some (.lst l) => some (.list l)
  | some (.dic l) => some (.dict l)
  | some (.bor _ (.lst l)) => some (.list l)
  | some (.bor _ (.dic l)) => some (.dict l)
  | _ => none
def tupK (z : List D × List O) : Option (D × List O) := if z.1.length ≤ LIM then some (.tuple z.1, z.2) else none
def lstK (z : List D × List O) : Option (D × List O) := if z.1.length ≤ LIM then some (.list z.1, z.2) else none
def andK (x : D) (r : Option (D × List O)) (ρ : List O) : Option (D × List O) := match x with
  | .bool true => r
  | .bool false => some (.bool false, ρ)
  | _ => none
def orK (x : D) (r : Option (D × List O)) (ρ : List O) : Option (D × List O) := match x with
  | .bool true => some (.bool true, ρ)
  | .bool false => r
  | _ => none
def ifK (x : D) (u v : Option (Fl × List O)) : Option (Fl × List O) := match x with
  | .bool true => u
  | .bool false => v
  | _ => none
def tuK (x : D) (r : Option (D × List O)) : Option (Option D) := match x with
  | .bool true => r.map fun w => some w.1
  | .bool false => some none
  | _ => none
def seqK (r : Option (Fl × List O)) (b : Sm) : Option (Fl × List O) := match r with
  | some (.nx, ρ1) => b ρ1
  | r => r
def forK (r : Option (Fl × List O)) (k : Sm) : Option (Fl × List O) := match r with
  | some (.nx, ρ2) => k ρ2
  | some (.ct, ρ2) => k ρ2
  | some (.bk, ρ2) => some (.nx, ρ2)
  | some (.rt d, ρ2) => some (.rt d, ρ2)
  | none => none
def runK (r : Option (Fl × List O)) : Option D := match r with
  | some (.rt d, _) => some d
  | some (.nx, _) => some .none
  | _ => none
def ownK (i : Nat) (x : D) (ρ : List O) : Option (Fl × List O) := match x with
  | .list l => some (.nx, ρ.set i (.lst l))
  | .dict l => some (.nx, ρ.set i (.dic l))
  | _ => none
def r1K (x : D) (ρ : List O) : Option (List D × List O) := match x with
  | .int n => if -LIM ≤ n ∧ n ≤ LIM then some (rangeL 0 n.toNat, ρ) else none
  | _ => none
def r2K (x y : D) (ρ : List O) : Option (List D × List O) := match x, y with
  | .int m, .int n => if -LIM ≤ m ∧ m ≤ LIM ∧ -LIM ≤ n ∧ n ≤ LIM then some (rangeL m (n - m).toNat, ρ) else none
  | _, _ => none

section
variable {ρ : List O} {a b e : Ev} {es r : Evs} {i : Nat} {d x : D} {f : D → Option D} {f2 g2 : D → D → Option D} {p : Pk}
theorem ap_c : eC d ρ = some (d, ρ) := rfl
theorem ap_t : eTrue ρ = some (.bool true, ρ) := rfl
theorem ap_v : eV i ρ = vK ρ[i]? i ρ := by
  unfold eV vK
  rfl
theorem vK_val : vK (some (.val d)) i ρ = some (d, ρ) := rfl
theorem vK_lst {l : List D} : vK (some (.lst l)) i ρ = some (.list l, ρ.set i (.val (.list l))) := rfl
theorem vK_dic {l : List (D × D)} : vK (some (.dic l)) i ρ = some (.dict l, ρ.set i (.val (.dict l))) := rfl
theorem ap_peek : peek ρ i = pkK ρ[i]? := by
  unfold peek pkK
  rfl
theorem pkK_val : pkK (some (.val d)) = some d := rfl
theorem pkK_lst {l : List D} : pkK (some (.lst l)) = some (.list l) := rfl
theorem pkK_dic {l : List (D × D)} : pkK (some (.dic l)) = some (.dict l) := rfl
theorem ap_kE : kE a ρ = (a ρ).map fun z => (fun _ => some z.1, z.2) := by
  unfold kE
  cases a ρ <;> rfl
theorem ap_kP : kP i ρ = (peek ρ i).map fun _ => (fun ρ' => peek ρ' i, ρ) := by
  unfold kP
  cases peek ρ i <;> rfl
theorem ap_o1E : o1 f (kE a) ρ = (a ρ).bind fun z => (f z.1).map fun r => (r, z.2) := by
  unfold o1
  rw [ap_kE]
  cases a ρ with
  | none => rfl
  | some z => cases h : f z.1 <;> simp [h]
theorem ap_o1P : o1 f (kP i) ρ = (peek ρ i).bind fun d => (f d).map fun r => (r, ρ) := by
  unfold o1
  rw [ap_kP]
  cases h : peek ρ i with
  | none => rfl
  | some d => cases h2 : f d <;> simp [h, h2]
theorem ap_o2EE : o2 f2 (kE a) (kE b) ρ = (a ρ).bind fun z => (b z.2).bind fun w => (f2 z.1 w.1).map fun r => (r, w.2) := by
  unfold o2
  rw [ap_kE]
  cases a ρ with
  | none => rfl
  | some z =>
    simp only [Option.map_some, ap_kE, Option.bind_some]
    cases b z.2 with
    | none => rfl
    | some w => cases h : f2 z.1 w.1 <;> simp [h]
theorem ap_o2EP : o2 f2 (kE a) (kP i) ρ = (a ρ).bind fun z => (peek z.2 i).bind fun w => (f2 z.1 w).map fun r => (r, z.2) := by
  unfold o2
  rw [ap_kE]
  cases a ρ with
  | none => rfl
  | some z =>
    simp only [Option.map_some, ap_kP, Option.bind_some]
    cases h : peek z.2 i with
    | none => rfl
    | some w => cases h2 : f2 z.1 w <;> simp [h, h2]
theorem ap_o2PE : o2 f2 (kP i) (kE b) ρ = (peek ρ i).bind fun _ => (b ρ).bind fun w => (peek w.2 i).bind fun d => (f2 d w.1).map fun r => (r, w.2) := by
  unfold o2
  rw [ap_kP]
  cases peek ρ i with
  | none => rfl
  | some z =>
    simp only [Option.map_some, ap_kE, Option.bind_some]
    cases b ρ with
    | none => rfl
    | some w =>
      simp only [Option.map_some, Option.bind_some]
      cases h : peek w.2 i with
      | none => rfl
      | some d => cases h2 : f2 d w.1 <;> simp [h2]
theorem ap_o2PP {j : Nat} : o2 f2 (kP i) (kP j) ρ = (peek ρ i).bind fun d => (peek ρ j).bind fun w => (f2 d w).map fun r => (r, ρ) := by
  unfold o2
  rw [ap_kP]
  cases h : peek ρ i with
  | none => rfl
  | some z =>
    simp only [Option.map_some, ap_kP, Option.bind_some]
    cases h2 : peek ρ j with
    | none => rfl
    | some w => cases h3 : f2 z w <;> simp [h, h2, h3]
theorem ap_o3E {f3 : D → D → D → Option D} : o3 f3 (kE a) (kE b) (kE e) ρ = (a ρ).bind fun z => (b z.2).bind fun w => (e w.2).bind fun u => (f3 z.1 w.1 u.1).map fun r => (r, u.2) := by
  unfold o3
  rw [ap_kE]
  cases a ρ with
  | none => rfl
  | some z =>
    simp only [Option.map_some, ap_kE, Option.bind_some]
    cases b z.2 with
    | none => rfl
    | some w =>
      simp only [Option.map_some, Option.bind_some]
      cases e w.2 with
      | none => rfl
      | some u => cases h : f3 z.1 w.1 u.1 <;> simp [h]
theorem ap_o3P {f3 : D → D → D → Option D} : o3 f3 (kP i) (kE b) (kE e) ρ = (peek ρ i).bind fun _ => (b ρ).bind fun w => (e w.2).bind fun u => (peek u.2 i).bind fun d => (f3 d w.1 u.1).map fun r => (r, u.2) := by
  unfold o3
  rw [ap_kP]
  cases peek ρ i with
  | none => rfl
  | some z =>
    simp only [Option.map_some, ap_kE, Option.bind_some]
    cases b ρ with
    | none => rfl
    | some w =>
      simp only [Option.map_some, Option.bind_some]
      cases e w.2 with
      | none => rfl
      | some u =>
        simp only [Option.map_some, Option.bind_some]
        cases h : peek u.2 i with
        | none => rfl
        | some d => cases h2 : f3 d w.1 u.1 <;> simp [h2]
theorem ap_esNil : esNil ρ = some ([], ρ) := rfl
theorem ap_esCons : esCons a r ρ = (a ρ).bind fun z => (r z.2).map fun w => (z.1 :: w.1, w.2) := by
  unfold esCons
  cases a ρ with
  | none => rfl
  | some z =>
    obtain ⟨x, ρ1⟩ := z
    simp only [Option.bind_some]
    cases r ρ1 <;> rfl
theorem ap_tup : eTup es ρ = (es ρ).bind tupK := by
  unfold eTup
  cases es ρ <;> rfl
theorem ap_lst : eLst es ρ = (es ρ).bind lstK := by
  unfold eLst
  cases es ρ <;> rfl
theorem ap_and : eAnd a b ρ = (a ρ).bind fun z => andK z.1 (b z.2) z.2 := by
  unfold eAnd
  cases a ρ with
  | none => rfl
  | some z =>
    obtain ⟨d, ρ1⟩ := z
    cases d with
    | bool x => cases x <;> rfl
    | _ => rfl
theorem ap_or : eOr a b ρ = (a ρ).bind fun z => orK z.1 (b z.2) z.2 := by
  unfold eOr
  cases a ρ with
  | none => rfl
  | some z =>
    obtain ⟨d, ρ1⟩ := z
    cases d with
    | bool x => cases x <;> rfl
    | _ => rfl
theorem andK_t {r : Option (D × List O)} : andK (.bool true) r ρ = r := rfl
theorem andK_f {r : Option (D × List O)} : andK (.bool false) r ρ = some (.bool false, ρ) := rfl
theorem andK_b {x y : Bool} : andK (.bool x) (some (.bool y, ρ)) ρ = some (.bool (x && y), ρ) := by cases x <;> rfl
theorem orK_t {r : Option (D × List O)} : orK (.bool true) r ρ = some (.bool true, ρ) := rfl
theorem orK_f {r : Option (D × List O)} : orK (.bool false) r ρ = r := rfl
theorem orK_b {x y : Bool} : orK (.bool x) (some (.bool y, ρ)) ρ = some (.bool (x || y), ρ) := by cases x <;> rfl
theorem ap_call {φ : List D → Option D} : eCall φ es ρ = (es ρ).bind fun z => (φ z.1).map fun r => (r, z.2) := by
  unfold eCall
  cases es ρ with
  | none => rfl
  | some z => cases h : φ z.1 <;> simp [h]
theorem ap_mP {m : D → List D → Option D} : eM m (kP i) es ρ = (peek ρ i).bind fun d0 => (es ρ).bind fun z => (peek z.2 i).bind fun d => if kd d0 = kd d then (m d z.1).map (fun r => (r, z.2)) else none := by
  unfold eM
  rw [ap_kP]
  cases h0 : peek ρ i with
  | none => rfl
  | some d0 =>
    simp only [Option.map_some, Option.bind_some, h0]
    cases es ρ with
    | none => rfl
    | some z =>
      simp only [Option.bind_some]
      cases h1 : peek z.2 i with
      | none => rfl
      | some d =>
        simp only [Option.bind_some]
        split
        · cases h2 : m d z.1 <;> rfl
        · rfl
theorem ap_mE {m : D → List D → Option D} : eM m (kE a) es ρ = (a ρ).bind fun w => (es w.2).bind fun z => (m w.1 z.1).map fun r => (r, z.2) := by
  unfold eM
  rw [ap_kE]
  cases a ρ with
  | none => rfl
  | some w =>
    simp only [Option.map_some, Option.bind_some]
    cases es w.2 with
    | none => rfl
    | some z =>
      simp only [Option.bind_some, if_true]
      cases h2 : m w.1 z.1 <;> rfl
theorem ap_iSeq : iSeq a ρ = (a ρ).bind fun z => (seqOf z.1).map fun l => (l, z.2) := by
  unfold iSeq
  cases a ρ with
  | none => rfl
  | some z =>
    obtain ⟨d, ρ1⟩ := z
    cases d <;> rfl
theorem ap_iSeqA : iSeqA a ρ = (a ρ).bind fun z => (keysOf z.1).map fun l => (l, z.2) := by
  unfold iSeqA
  cases a ρ with
  | none => rfl
  | some z =>
    obtain ⟨d, ρ1⟩ := z
    cases d <;> rfl
theorem kOfL (l : List D) : keysOf (.list l) = some l := rfl
theorem kOfT (l : List D) : keysOf (.tuple l) = some l := rfl
theorem kOfD (l : List (D × D)) : keysOf (.dict l) = some (l.map (·.1)) := rfl
theorem ap_dnil : eDnil ρ = some (.dict [], ρ) := rfl
theorem ap_iR1 : iR1 a ρ = (a ρ).bind fun z => r1K z.1 z.2 := by
  unfold iR1
  cases a ρ with
  | none => rfl
  | some z =>
    obtain ⟨d, ρ1⟩ := z
    cases d <;> rfl
theorem ap_iR2 : iR2 a b ρ = (a ρ).bind fun z => (b z.2).bind fun w => r2K z.1 w.1 w.2 := by
  unfold iR2
  cases a ρ with
  | none => rfl
  | some z =>
    obtain ⟨d, ρ1⟩ := z
    cases d with
    | int m =>
      simp only [Option.bind_some]
      cases b ρ1 with
      | none => rfl
      | some w =>
        obtain ⟨d2, ρ2⟩ := w
        cases d2 <;> rfl
    | _ =>
      simp only [Option.bind_some]
      cases b ρ1 <;> rfl
theorem ap_tgo1 : tgo (.one i) d ρ = some (ρ.set i (.val d)) := rfl
theorem ap_tgoM {is : List Nat} {ds : List D} : tgo (.many is) (.tuple ds) ρ = setAll is ds ρ := rfl
theorem setAll0 : setAll [] [] ρ = some ρ := rfl
theorem setAllC {is : List Nat} {ds : List D} : setAll (i :: is) (d :: ds) ρ = setAll is ds (ρ.set i (.val d)) := rfl
theorem ap_turnT {tg : Tg} : turnT tg a e ρ x = (tgo tg x ρ).bind fun ρ1 => turnO a e ρ1 := by
  unfold turnT
  cases tgo tg x ρ <;> rfl
theorem ap_turnO : turnO a e ρ = (a ρ).bind fun z => tuK z.1 (e ρ) := by
  unfold turnO
  cases a ρ with
  | none => rfl
  | some z =>
    obtain ⟨d, ρ1⟩ := z
    cases d with
    | bool b =>
      cases b with
      | true =>
        simp only [Option.bind_some]
        cases e ρ <;> rfl
      | false => rfl
    | _ => rfl
theorem tuK_t {w : D × List O} : tuK (.bool true) (some w) = some (some w.1) := rfl
theorem tuK_f {w : Option (D × List O)} : tuK (.bool false) w = some none := rfl
theorem tuK_b {y : Bool} {w : D × List O} : tuK (.bool y) (some w) = if y = true then some (some w.1) else some none := by cases y <;> rfl
/-! statements -/
theorem ap_seq {u v : Sm} : sSeq u v ρ = seqK (u ρ) v := rfl
theorem seqK_nx {v : Sm} : seqK (some (.nx, ρ)) v = v ρ := rfl
theorem seqK_rt {v : Sm} : seqK (some (.rt d, ρ)) v = some (.rt d, ρ) := rfl
theorem seqK_ct {v : Sm} : seqK (some (.ct, ρ)) v = some (.ct, ρ) := rfl
theorem seqK_bk {v : Sm} : seqK (some (.bk, ρ)) v = some (.bk, ρ) := rfl
theorem seqK_no {v : Sm} : seqK none v = none := rfl
theorem seqK_if {q : Prop} [Decidable q] {s t : Option (Fl × List O)} {v : Sm} : seqK (if q then s else t) v = if q then seqK s v else seqK t v := by split <;> rfl
theorem ap_nil : sNil ρ = some (.nx, ρ) := rfl
theorem ap_cnt : sCnt ρ = some (.ct, ρ) := rfl
theorem ap_brk : sBrk ρ = some (.bk, ρ) := rfl
theorem ap_set {t : Tg} : sSet t e ρ = (e ρ).bind fun z => (tgo t z.1 z.2).map fun ρ2 => (.nx, ρ2) := by
  unfold sSet
  cases e ρ with
  | none => rfl
  | some z => cases h : tgo t z.1 z.2 <;> simp [h]
theorem ap_own : sOwn i e ρ = (e ρ).bind fun z => ownK i z.1 z.2 := by
  unfold sOwn
  cases e ρ with
  | none => rfl
  | some z =>
    obtain ⟨d, ρ1⟩ := z
    cases d <;> rfl
theorem ownK_l {l : List D} : ownK i (.list l) ρ = some (.nx, ρ.set i (.lst l)) := rfl
theorem ownK_d {l : List (D × D)} : ownK i (.dict l) ρ = some (.nx, ρ.set i (.dic l)) := rfl
theorem ap_ret : sRet e ρ = (e ρ).map fun z => (.rt z.1, z.2) := by
  unfold sRet
  cases e ρ <;> rfl
theorem ap_if {u v : Sm} : sIf a u v ρ = (a ρ).bind fun z => ifK z.1 (u z.2) (v z.2) := by
  unfold sIf
  cases a ρ with
  | none => rfl
  | some z =>
    obtain ⟨d, ρ1⟩ := z
    cases d with
    | bool x => cases x <;> rfl
    | _ => rfl
theorem ifK_t {u v : Option (Fl × List O)} : ifK (.bool true) u v = u := rfl
theorem ifK_f {u v : Option (Fl × List O)} : ifK (.bool false) u v = v := rfl
theorem ifK_b {x : Bool} {u v : Option (Fl × List O)} : ifK (.bool x) u v = if x = true then u else v := by cases x <;> rfl
theorem ap_for {t : Tg} {it : Iv} {u : Sm} : sFor t it u ρ = (it ρ).bind fun z => forLoop t u z.1 z.2 := by
  unfold sFor
  cases it ρ <;> rfl
theorem forL_nil {t : Tg} {u : Sm} : forLoop t u [] ρ = some (.nx, ρ) := rfl
theorem forL_cons {t : Tg} {u : Sm} {xs : List D} : forLoop t u (x :: xs) ρ = (tgo t x ρ).bind fun ρ1 => forK (u ρ1) (forLoop t u xs) := by
  show (match tgo t x ρ with
    | some ρ1 => match u ρ1 with
      | some (.nx, ρ2) => forLoop t u xs ρ2
      | some (.ct, ρ2) => forLoop t u xs ρ2
      | some (.bk, ρ2) => some (.nx, ρ2)
      | some (.rt d, ρ2) => some (.rt d, ρ2)
      | none => none
    | none => none) = _
  cases tgo t x ρ with
  | none => rfl
  | some ρ1 =>
    simp only [Option.bind_some]
    unfold forK
    rfl
theorem forK_nx {k : Sm} : forK (some (.nx, ρ)) k = k ρ := rfl
theorem forK_ct {k : Sm} : forK (some (.ct, ρ)) k = k ρ := rfl
theorem forK_bk {k : Sm} : forK (some (.bk, ρ)) k = some (.nx, ρ) := rfl
theorem forK_rt {k : Sm} : forK (some (.rt d, ρ)) k = some (.rt d, ρ) := rfl
theorem forK_if {q : Prop} [Decidable q] {s t : Option (Fl × List O)} {k : Sm} : forK (if q then s else t) k = if q then forK s k else forK t k := by split <;> rfl
theorem ap_par {j : Nat} : sPar i j a b ρ = (a ρ).bind fun z => (b z.2).map fun w => (.nx, (w.2.set i (.val z.1)).set j (.val w.1)) := by
  unfold sPar
  cases a ρ with
  | none => rfl
  | some z =>
    obtain ⟨d, ρ1⟩ := z
    simp only [Option.bind_some]
    cases b ρ1 <;> rfl
theorem run_eq {n : Nat} {u : Sm} {ds : List D} : runDef n u ds = runK (u (ds.map .val ++ List.replicate (n - ds.length) .un)) := rfl
theorem runK_rt : runK (some (.rt d, ρ)) = some d := rfl
theorem runK_nx : runK (some (.nx, ρ)) = some .none := rfl
theorem runK_if {q : Prop} [Decidable q] {s t : Option (Fl × List O)} : runK (if q then s else t) = if q then runK s else runK t := by split <;> rfl
end
theorem r1_eq {n : Int} {ρ : List O} : r1K (.int n) ρ = if -1000000 ≤ n ∧ n ≤ 1000000 then some (rangeL 0 n.toNat, ρ) else none := rfl
theorem r2_eq {m n : Int} {ρ : List O} : r2K (.int m) (.int n) ρ = if -1000000 ≤ m ∧ m ≤ 1000000 ∧ -1000000 ≤ n ∧ n ≤ 1000000 then some (rangeL m (n - m).toNat, ρ) else none := rfl
theorem LIM_eq : LIM = 1000000 := Nat.le_antisymm (Nat.le_refl 1000000) (Nat.le_refl 1000000)
/-! ### values -/
theorem v_add (a b : Int) : sAddA (.int a) (.int b) = some (.int (a + b)) := rfl
theorem v_sub (a b : Int) : sSub (.int a) (.int b) = some (.int (a - b)) := rfl
theorem v_neg (a : Int) : sNeg (.int a) = some (.int (-a)) := rfl
theorem v_mod (a b : Int) (h : 0 < b) : sMod (.int a) (.int b) = some (.int (a % b)) := if_pos h
theorem v_div (a b : Int) (h0 : 0 < b) (h1 : b < 18446744073709551616) : sDiv (.int a) (.int b) = some (.int (a / b)) := by
  have h2 : b.natAbs.log2 < 9000 := by
    have h3 : b.natAbs < 2 ^ 64 := by
      have e : (2 : Nat) ^ 64 = 18446744073709551616 := by decide
      omega
    have h4 : b.natAbs ≠ 0 := by omega
    have := (Nat.log2_lt h4).mpr h3
    omega
  exact if_pos (by rw [decide_eq_true h0, decide_eq_true h2]; rfl)
theorem abs_lt {b : Int} (h0 : -18446744073709551616 < b) (h1 : b < 18446744073709551616) : b.natAbs < 2 ^ 64 := by
  have e : (2 : Nat) ^ 64 = 18446744073709551616 := by decide
  omega
theorem v_mulR (a b : Int) (h0 : -18446744073709551616 < b) (h1 : b < 18446744073709551616) : sMulA (.int a) (.int b) = some (.int (a * b)) := by
  have e : mulOk a b = true := by
    unfold mulOk
    rw [decide_eq_true (abs_lt h0 h1)]
    rfl
  unfold sMulA or2 sMul
  simp only [e, if_true]
theorem v_mulL (a b : Int) (h0 : -18446744073709551616 < a) (h1 : a < 18446744073709551616) : sMulA (.int a) (.int b) = some (.int (a * b)) := by
  have e : mulOk a b = true := by
    unfold mulOk
    rw [decide_eq_true (abs_lt h0 h1)]
    simp
  unfold sMulA or2 sMul
  simp only [e, if_true]
theorem v_mulB (a : Int) (q : Prop) [Decidable q] : sMulA (.int a) (.int (if q then 1 else 0)) = some (.int (a * (if q then 1 else 0))) := by
  split <;> exact v_mulR _ _ (by omega) (by omega)
theorem v_addT (a b : List D) (h : a.length + b.length ≤ LIM) : sAddA (.tuple a) (.tuple b) = some (.tuple (a ++ b)) := by
  unfold sAddA or2 sAdd
  simp [h]
theorem v_addL (a b : List D) (h : a.length + b.length ≤ LIM) : sAddA (.list a) (.list b) = some (.list (a ++ b)) := by
  unfold sAddA or2 sAdd sCat
  simp [h]
theorem v_catL (a b : List D) (h : a.length + b.length ≤ LIM) : sCat (.list a) (.list b) = some (.list (a ++ b)) := by
  unfold sCat
  simp [h]
theorem v_lt (a b : Int) : sLt (.int a) (.int b) = some (.bool (decide (a < b))) := rfl
theorem v_le (a b : Int) : sLe (.int a) (.int b) = some (.bool (decide (a ≤ b))) := rfl
theorem v_gt (a b : Int) : sGt (.int a) (.int b) = some (.bool (decide (b < a))) := rfl
theorem v_ge (a b : Int) : sGe (.int a) (.int b) = some (.bool (decide (b ≤ a))) := rfl
theorem eqv_int (a b : Int) : PyData.eqv (.int a) (.int b) = decide (a = b) := by
  by_cases h : a = b
  · subst h; simp [PyData.eqv]
  · simp [PyData.eqv, h]
theorem eqv_str (a b : Str) : PyData.eqv (.str a) (.str b) = decide (a = b) := by
  by_cases h : a = b
  · subst h; simp [PyData.eqv]
  · simp [PyData.eqv, h]
theorem v_eqI (a b : Int) : sEq (.int a) (.int b) = some (.bool (decide (a = b))) := by
  unfold sEq
  rw [eqv_int]
  simp [PyData.plain, PyData.depth, lvl]
theorem v_neI (a b : Int) : sNe (.int a) (.int b) = some (.bool (!decide (a = b))) := by
  unfold sNe
  rw [eqv_int]
  simp [PyData.plain, PyData.depth, lvl]
theorem v_eqS (a b : Str) : sEq (.str a) (.str b) = some (.bool (decide (a = b))) := by
  unfold sEq
  rw [eqv_str]
  simp [PyData.plain, PyData.depth, lvl]
theorem v_neS (a b : Str) : sNe (.str a) (.str b) = some (.bool (!decide (a = b))) := by
  unfold sNe
  rw [eqv_str]
  simp [PyData.plain, PyData.depth, lvl]
theorem v_lenT (l : List D) : sLenA (.tuple l) = some (.int l.length) := rfl
theorem v_lenL (l : List D) : sLenA (.list l) = some (.int l.length) := rfl
theorem v_intB (b : Bool) : sInt (.bool b) = some (.int (if b = true then 1 else 0)) := by cases b <;> rfl
theorem v_intI (i : Int) : sInt (.int i) = some (.int i) := rfl
theorem v_not (b : Bool) : sNot (.bool b) = some (.bool (!b)) := rfl
theorem v_min (a b : Int) : sMin2 (.int a) (.int b) = some (.int (if b < a then b else a)) := rfl
theorem v_max (a b : Int) : sMax2 (.int a) (.int b) = some (.int (if a < b then b else a)) := rfl
theorem v_abs (a : Int) : sAbs (.int a) = some (.int (if a < 0 then -a else a)) := rfl
theorem v_tupL (l : List D) : sTuple (.list l) = some (.tuple l) := rfl
theorem v_tupT (l : List D) : sTuple (.tuple l) = some (.tuple l) := rfl
theorem v_isi {f : D → Bool} (d : D) (h : d.plain = true) : sIsi f d = some (.bool (f d)) := if_pos h
theorem v_ixT (l : List D) (i : Int) : sIxA (.tuple l) (.int i) = ixOf l i := by
  unfold sIxA or2 sIx
  simp only
  cases ixOf l i <;> rfl
theorem v_ixL (l : List D) (i : Int) : sIxA (.list l) (.int i) = ixOf l i := by
  unfold sIxA or2 sIx
  simp only
  cases ixOf l i <;> rfl
theorem ixOf_nat (l : List D) (j : Nat) (h : j < l.length) : ixOf l (j : Int) = l[j]? := by
  unfold ixOf L2.atI L2.ixN
  have h2 : (j : Int) < (l.length : Int) := by omega
  simp [h2]
theorem ix0 (x : D) (l : List D) : ixOf (x :: l) 0 = some x := ixOf_nat (x :: l) 0 (by simp)
theorem ix1 (x y : D) (l : List D) : ixOf (x :: y :: l) 1 = some y := ixOf_nat (x :: y :: l) 1 (by simp)
theorem ix2 (x y z : D) (l : List D) : ixOf (x :: y :: z :: l) 2 = some z := ixOf_nat (x :: y :: z :: l) 2 (by simp)
theorem ix3 (x y z u : D) (l : List D) : ixOf (x :: y :: z :: u :: l) 3 = some u := ixOf_nat (x :: y :: z :: u :: l) 3 (by simp)
theorem seqT (l : List D) : seqOf (.tuple l) = some l := rfl
theorem seqL (l : List D) : seqOf (.list l) = some l := rfl
theorem intsOf_map (l : List Int) : intsOf (l.map .int) = some l := by
  induction l with
  | nil => rfl
  | cons x l ih =>
    show (intsOf (l.map .int)).map (x :: ·) = some (x :: l)
    rw [ih]
    rfl
theorem boolsOf_map (l : List Bool) : boolsOf (l.map .bool) = some l := by
  induction l with
  | nil => rfl
  | cons x l ih =>
    show (boolsOf (l.map .bool)).map (x :: ·) = some (x :: l)
    rw [ih]
    rfl
theorem v_sumT (l : List Int) : sSum (.tuple (l.map .int)) = some (.int l.sum) := by
  unfold sSum
  simp [seqOf, intsOf_map]
theorem v_sumL (l : List Int) : sSum (.list (l.map .int)) = some (.int l.sum) := by
  unfold sSum
  simp [seqOf, intsOf_map]
theorem v_any {α : Type} (f : α → Bool) (l : List α) : sAny (.list (l.map fun x => .bool (f x))) = some (.bool (l.any f)) := by
  have e : (l.map fun x => PyData.bool (f x)) = (l.map f).map .bool := by rw [List.map_map]; rfl
  rw [e]
  show (boolsOf _).map _ = _
  rw [boolsOf_map]
  simp
theorem v_all {α : Type} (f : α → Bool) (l : List α) : sAll (.list (l.map fun x => .bool (f x))) = some (.bool (l.all f)) := by
  have e : (l.map fun x => PyData.bool (f x)) = (l.map f).map .bool := by rw [List.map_map]; rfl
  rw [e]
  show (boolsOf _).map _ = _
  rw [boolsOf_map]
  simp
theorem plain_ints (l : List Int) : PyData.plainAll (l.map .int) = true := by
  induction l with
  | nil => rfl
  | cons x l ih =>
    show (PyData.plain (.int x) && PyData.plainAll (l.map .int)) = true
    rw [ih]
    rfl
theorem v_inT (a : Int) (l : List Int) : sInA (.int a) (.tuple (l.map .int)) = some (.bool (l.contains a)) := by
  unfold sInA or2 sIn
  have e : ((l.map PyData.int).any fun z => PyData.eqv z (.int a)) = l.contains a := by
    induction l with
    | nil => rfl
    | cons x l ih =>
      rw [List.map_cons, List.any_cons, ih, eqv_int, List.contains_cons]
      congr 1
      by_cases h : x = a
      · subst h; simp
      · have h2 : ¬ a = x := fun q => h q.symm
        simp [h, h2]
  simp [plain_ints, PyData.plain, PyData.depth, lvl, e]
theorem v_inL (a : Int) (l : List Int) : sInA (.int a) (.list (l.map .int)) = some (.bool (l.contains a)) := v_inT a l
theorem v_ninT (a : Int) (l : List Int) : sNinA (.int a) (.tuple (l.map .int)) = some (.bool (!l.contains a)) := by
  have e : ((l.map PyData.int).any fun z => PyData.eqv z (.int a)) = l.contains a := by
    induction l with
    | nil => rfl
    | cons x l ih =>
      rw [List.map_cons, List.any_cons, ih, eqv_int, List.contains_cons]
      congr 1
      by_cases h : x = a
      · subst h; simp
      · have h2 : ¬ a = x := fun q => h q.symm
        simp [h, h2]
  unfold sNinA or2 sNin
  simp [plain_ints, PyData.plain, PyData.depth, lvl, e]
theorem v_ninL (a : Int) (l : List Int) : sNinA (.int a) (.list (l.map .int)) = some (.bool (!l.contains a)) := v_ninT a l
theorem v_countT (a : Int) (l : List Int) : mCountA (.tuple (l.map .int)) [.int a] = some (.int (l.count a)) := by
  unfold mCountA mCountT
  have e : ((l.map PyData.int).countP fun y => PyData.eqv y (.int a)) = l.count a := by
    rw [List.countP_map]
    unfold List.count
    refine List.countP_congr fun x _ => ?_
    simp [eqv_int]
  simp [plain_ints, PyData.plain, PyData.depth, lvl, e]
/-! ### comprehensions' answers -/
theorem mapMO_all {α : Type} (g : α → D) (l : List α) : mapMO (fun x => some (some (g x))) l = some (l.map g) := by
  induction l with
  | nil => rfl
  | cons x l ih =>
    show (mapMO _ l).map (g x :: ·) = _
    rw [ih]
    rfl
theorem mapMO_some {α : Type} (p : α → Bool) (g : α → D) (l : List α) : mapMO (fun x => if p x = true then some (some (g x)) else some none) l = some ((l.filter p).map g) := by
  induction l with
  | nil => rfl
  | cons x l ih =>
    unfold mapMO
    rw [ih]
    cases h : p x <;> simp [h]
theorem mapMO_map {α β : Type} (f : β → Option (Option D)) (h : α → β) (l : List α) : mapMO f (l.map h) = mapMO (fun x => f (h x)) l := by
  induction l with
  | nil => rfl
  | cons x l ih =>
    show (match f (h x) with
      | some (some y) => (mapMO f (l.map h)).map (y :: ·)
      | some none => mapMO f (l.map h)
      | none => none) = _
    rw [ih]
    rfl
theorem mapMO_range (f : D → Option (Option D)) (lo : Int) (n : Nat) : mapMO f (rangeL lo n) = mapMO (fun i : Nat => f (.int (lo + (i : Int)))) (List.range n) := mapMO_map f _ _
theorem mapMO_nil {α : Type} (f : α → Option (Option D)) : mapMO f [] = some [] := rfl
theorem mapMO_congr {α : Type} {f g : α → Option (Option D)} {l : List α} (h : ∀ x ∈ l, f x = g x) : mapMO f l = mapMO g l := by
  induction l with
  | nil => rfl
  | cons x l ih =>
    unfold mapMO
    rw [h x List.mem_cons_self, ih fun y hy => h y (List.mem_cons_of_mem _ hy)]
end VL

set_option Elab.async false
set_option linter.all false
set_option maxRecDepth 100000
/-! P3: lists of whole numbers: sorted, cut, greatest; choice by a place. -/
namespace VL
open PySem

def insI (x : Int) : List Int → List Int
  | [] => [x]
  | y :: r => if x ≤ y then x :: y :: r else y :: insI x r
def isortI : List Int → List Int
  | [] => []
  | x :: l => insI x (isortI l)
theorem dle_int (x y : Int) : PySem.W.dataLe false id (.int x : D) (.int y) = decide (x ≤ y) := by
  have h := congrFun (congrFun (PySem.W.dataLe_int (β := Int) id) x) y
  exact h
theorem insD_int (x : Int) : ∀ l : List Int, insD (.int x) (l.map .int) = (insI x l).map .int
  | [] => rfl
  | y :: r => by
    show (if PySem.W.dataLe false id (.int x : D) (.int y) = true then (.int x : D) :: .int y :: r.map .int else .int y :: insD (.int x) (r.map .int)) = _
    rw [dle_int, insD_int x r, show insI x (y :: r) = if x ≤ y then x :: y :: r else y :: insI x r from rfl]
    by_cases h : x ≤ y
    · simp [h]
    · simp [h]
theorem isort_int : ∀ l : List Int, isort (l.map .int) = (isortI l).map .int
  | [] => rfl
  | x :: l => by
    show insD (.int x) (isort (l.map .int)) = _
    rw [isort_int l, insD_int]
    rfl
theorem sortable_int (l : List Int) (h : l.length ≤ LIM) : sortable (l.map .int) = true := by
  unfold sortable
  rw [List.length_map, decide_eq_true h]
  simp [PySem.W.alike, kd, PyData.depth, lvl]
theorem v_sortedL (l : List Int) (h : l.length ≤ LIM) : sSorted (.list (l.map .int)) = some (.list ((isortI l).map .int)) := by
  unfold sSorted
  simp only [keysOf, sortable_int l h, if_true, isort_int]
theorem v_sortedT (l : List Int) (h : l.length ≤ LIM) : sSorted (.tuple (l.map .int)) = some (.list ((isortI l).map .int)) := by
  unfold sSorted
  simp only [keysOf, sortable_int l h, if_true, isort_int]
theorem insI_perm (x : Int) : ∀ l : List Int, (insI x l).Perm (x :: l)
  | [] => List.Perm.refl _
  | y :: r => by
    unfold insI
    split
    · exact List.Perm.refl _
    · exact ((insI_perm x r).cons y).trans (List.Perm.swap x y r)
theorem isortI_perm : ∀ l : List Int, (isortI l).Perm l
  | [] => List.Perm.refl _
  | x :: l => (insI_perm x _).trans ((isortI_perm l).cons x)
theorem insI_sorted (x : Int) : ∀ {l : List Int}, l.Pairwise (· ≤ ·) → (insI x l).Pairwise (· ≤ ·)
  | [], _ => List.pairwise_singleton _ _
  | y :: r, h => by
    obtain ⟨h1, h2⟩ := List.pairwise_cons.mp h
    unfold insI
    split
    · rename_i hx
      refine List.pairwise_cons.mpr ⟨fun z hz => ?_, h⟩
      rcases List.mem_cons.mp hz with e | hz
      · rw [e]; exact hx
      · exact Int.le_trans hx (h1 z hz)
    · rename_i hx
      refine List.pairwise_cons.mpr ⟨fun z hz => ?_, insI_sorted x h2⟩
      rcases List.mem_cons.mp ((insI_perm x r).mem_iff.mp hz) with e | hz
      · rw [e]; omega
      · exact h1 z hz
theorem isortI_sorted : ∀ l : List Int, (isortI l).Pairwise (· ≤ ·)
  | [] => List.Pairwise.nil
  | x :: l => insI_sorted x (isortI_sorted l)
theorem isortI_length (l : List Int) : (isortI l).length = l.length := (isortI_perm l).length_eq
/-! cut -/
theorem cutL_map {α β : Type} (f : α → β) (l : List α) (a b : Option Int) : cutL (l.map f) a b = (cutL l a b).map f := by
  unfold cutL
  rw [List.length_map, List.map_take, List.map_drop]
theorem v_cutTL (l : List D) (x y : D) (a b : Option Int) (ha : partOf x = some a) (hb : partOf y = some b) : sCutA (.tuple l) x y = some (.tuple (cutL l a b)) := by
  unfold sCutA sCutT
  simp only [ha, hb]
theorem v_cutLL (l : List D) (x y : D) (a b : Option Int) (ha : partOf x = some a) (hb : partOf y = some b) : sCutA (.list l) x y = some (.list (cutL l a b)) := by
  unfold sCutA sCutT sCutL
  simp only [ha, hb]
theorem v_cT (l : List D) (a b : Int) : sCutA (.tuple l) (.int a) (.int b) = some (.tuple (cutL l (some a) (some b))) := v_cutTL l _ _ _ _ rfl rfl
theorem v_cTl (l : List D) (a : Int) : sCutA (.tuple l) (.int a) .none = some (.tuple (cutL l (some a) none)) := v_cutTL l _ _ _ _ rfl rfl
theorem v_cTh (l : List D) (a : Int) : sCutA (.tuple l) .none (.int a) = some (.tuple (cutL l none (some a))) := v_cutTL l _ _ _ _ rfl rfl
theorem v_cL (l : List D) (a b : Int) : sCutA (.list l) (.int a) (.int b) = some (.list (cutL l (some a) (some b))) := v_cutLL l _ _ _ _ rfl rfl
theorem v_cLl (l : List D) (a : Int) : sCutA (.list l) (.int a) .none = some (.list (cutL l (some a) none)) := v_cutLL l _ _ _ _ rfl rfl
theorem v_cLh (l : List D) (a : Int) : sCutA (.list l) .none (.int a) = some (.list (cutL l none (some a))) := v_cutLL l _ _ _ _ rfl rfl
theorem cut2 (a b c d : D) : cutL [a, b, c, d] (some 2) none = [c, d] := rfl
theorem v_max0 (l : List Int) (x : Int) : sMax (.list ((x :: l).map .int)) = some (.int (l.foldl max x)) := by
  unfold sMax
  simp only [intsOf_map]
theorem v_maxI (l : List Int) (h : l ≠ []) : sMax (.list (l.map .int)) = some (.int (l.tail.foldl max (l.headD 0))) := by
  cases l with
  | nil => exact absurd rfl h
  | cons x l => exact v_max0 l x
/-! == [] -/
theorem eqv_nil (l : List D) : PyData.eqv (.list l) (.list []) = l.isEmpty := by
  cases l <;> simp [PyData.eqv, PyData.eqvAll]
theorem depth_ints0 (l : List Int) : PyData.depth (.list (l.map .int)) = 1 := by
  rw [PyData.depth, PySem.W.depth_ints]
theorem v_eqNil (l : List Int) : sEq (.list (l.map .int)) (.list []) = some (.bool l.isEmpty) := by
  unfold sEq
  rw [eqv_nil, depth_ints0]
  simp [PyData.plain, plain_ints, PyData.plainAll, lvl]
theorem v_neNil (l : List Int) : sNe (.list (l.map .int)) (.list []) = some (.bool (!l.isEmpty)) := by
  unfold sNe
  rw [eqv_nil, depth_ints0]
  simp [PyData.plain, plain_ints, PyData.plainAll, lvl]
/-! a choice of four -/
def sel4 {α : Type} (i : Int) (a b c d : α) : α := if i = 0 then a else if i = 1 then b else if i = 2 then c else d
theorem ix4 (x : Int) (a b c d : D) : ixOf [a, b, c, d] (x % 4) = some (sel4 (x % 4) a b c d) := by
  have h : x % 4 = 0 ∨ x % 4 = 1 ∨ x % 4 = 2 ∨ x % 4 = 3 := by omega
  rcases h with h | h | h | h <;> rw [h] <;> rfl
theorem sel4_int (i a b c d : Int) : (sel4 i (.int a) (.int b) (.int c) (.int d) : D) = .int (sel4 i a b c d) := by
  unfold sel4
  split
  · rfl
  · split
    · rfl
    · split <;> rfl
theorem sel4_le {i a b c d lo hi : Int} (h : lo ≤ a ∧ a ≤ hi) (h2 : lo ≤ b ∧ b ≤ hi) (h3 : lo ≤ c ∧ c ≤ hi) (h4 : lo ≤ d ∧ d ≤ hi) : lo ≤ sel4 i a b c d ∧ sel4 i a b c d ≤ hi := by
  unfold sel4
  split
  · exact h
  · split
    · exact h2
    · split
      · exact h3
      · exact h4
theorem mapMO_int {α : Type} (f : α → Int) (l : List α) : (l.map fun x => PyData.int (f x)) = (l.map f).map PyData.int := by
  rw [List.map_map]
  rfl
theorem ixOf_map (l : List Int) (k : Nat) (h : k < l.length) : ixOf (l.map .int) (k : Int) = some (.int (l.getD k 0)) := by
  rw [ixOf_nat _ _ (by rw [List.length_map]; exact h), List.getElem?_map]
  simp [h]
theorem mod_lo (x : Int) (m : Int) (h : 0 < m) : -18446744073709551616 < x % m := by
  have := Int.emod_nonneg x (show m ≠ 0 by omega)
  omega
theorem mod_hi (x : Int) (m : Int) (h : 0 < m) (h2 : m < 18446744073709551616) : x % m < 18446744073709551616 := by
  have := Int.emod_lt_of_pos x h
  omega
theorem pl_int (x : Int) : PyData.plain (.int x) = true := rfl
theorem pl_str (x : Str) : PyData.plain (.str x) = true := rfl
theorem pl_bool (x : Bool) : PyData.plain (.bool x) = true := rfl
theorem pl_none : PyData.plain .none = true := rfl
theorem v_isiI {f : D → Bool} (x : Int) : sIsi f (.int x) = some (.bool (f (.int x))) := rfl
theorem v_isiS {f : D → Bool} (x : Str) : sIsi f (.str x) = some (.bool (f (.str x))) := rfl
theorem v_isiB {f : D → Bool} (x : Bool) : sIsi f (.bool x) = some (.bool (f (.bool x))) := rfl
theorem v_isiN {f : D → Bool} : sIsi f .none = some (.bool (f .none)) := rfl
theorem ib_int (x : Int) : PyData.isBool (.int x) = false := rfl
theorem eq_dec {α : Type} [DecidableEq α] (x : α) : decide (x = x) = true := decide_eq_true rfl
theorem rl1 : rangeL 0 1 = [.int 0] := rfl
theorem rl2 : rangeL 0 2 = [.int 0, .int 1] := rfl
theorem rl3 : rangeL 0 3 = [.int 0, .int 1, .int 2] := rfl
theorem rl4 : rangeL 0 4 = [.int 0, .int 1, .int 2, .int 3] := rfl
/-- tuple * k -/
theorem v_repT (l : List D) (k : Int) (h : k ≤ 1000 ∧ -1000 ≤ k ∧ l.length ≤ 1000) : sMulA (.tuple l) (.int k) = some (.tuple (List.replicate k.toNat l).flatten) := by
  unfold sMulA or2 sMul sRep
  simp only [h, and_self, if_true]
end VL

set_option Elab.async false
set_option linter.all false
set_option maxRecDepth 100000
/-! P4: lists and dicts that are changed; loops by an invariant. -/
namespace VL
open PySem
def lstK1 (o : Option O) (r : Option (Fl × List O)) : Option (Fl × List O) := match o with
  | some (.lst _) => r
  | _ => none
def lstL (o : Option O) (f : List D → Option (Fl × List O)) : Option (Fl × List O) := match o with
  | some (.lst l) => f l
  | _ => none
def dicL (o : Option O) (f : List (D × D) → Option (Fl × List O)) : Option (Fl × List O) := match o with
  | some (.dic l) => f l
  | _ => none
def listK (d : D) (f : List D → Option (Fl × List O)) : Option (Fl × List O) := match d with
  | .list m => f m
  | _ => none
section
variable {i : Nat} {e k : Ev} {ρ : List O} {l : List D} {dl : List (D × D)} {r : Option (Fl × List O)} {f : List D → Option (Fl × List O)} {df : List (D × D) → Option (Fl × List O)}
theorem lstK1_l : lstK1 (some (.lst l)) r = r := rfl
theorem lstL_l : lstL (some (.lst l)) f = f l := rfl
theorem dicL_d : dicL (some (.dic dl)) df = df dl := rfl
theorem listK_l : listK (.list l) f = f l := rfl
theorem ap_ext : sExt i e ρ = lstK1 ρ[i]? ((e ρ).bind fun z => listK z.1 fun m => lstL z.2[i]? fun l => if l.length + m.length ≤ LIM then some (.nx, z.2.set i (.lst (l ++ m))) else none) := by
  unfold sExt
  cases h : ρ[i]? with
  | none => rfl
  | some o =>
    cases o with
    | lst l0 =>
      show (match e ρ with
        | some (.list m, ρ1) => match ρ1[i]? with
          | some (.lst l) => if l.length + m.length ≤ LIM then some (Fl.nx, ρ1.set i (.lst (l ++ m))) else none
          | _ => none
        | _ => none) = _
      rw [lstK1_l]
      cases he : e ρ with
      | none => rfl
      | some z =>
        obtain ⟨d, ρ1⟩ := z
        cases d with
        | list m =>
          simp only [Option.bind_some, listK_l]
          cases h2 : ρ1[i]? with
          | none => rfl
          | some o => cases o <;> rfl
        | _ => rfl
    | _ => rfl
theorem ap_app : sApp i e ρ = lstK1 ρ[i]? ((e ρ).bind fun z => lstL z.2[i]? fun l => if l.length < LIM then some (.nx, z.2.set i (.lst (l ++ [z.1]))) else none) := by
  unfold sApp
  cases h : ρ[i]? with
  | none => rfl
  | some o =>
    cases o with
    | lst l0 =>
      show (match e ρ with
        | some (d, ρ1) => match ρ1[i]? with
          | some (.lst l) => if l.length < LIM then some (Fl.nx, ρ1.set i (.lst (l ++ [d]))) else none
          | _ => none
        | none => none) = _
      rw [lstK1_l]
      cases he : e ρ with
      | none => rfl
      | some z =>
        simp only [Option.bind_some]
        cases h2 : z.2[i]? with
        | none => rfl
        | some o => cases o <;> rfl
    | _ => rfl
theorem ap_put : sPut i k e ρ = (e ρ).bind fun z => (k z.2).bind fun w => dicL w.2[i]? fun l => (dAsk l w.1).bind fun _ => if l.length < LIM then some (.nx, w.2.set i (.dic (dput w.1 z.1 l))) else none := by
  unfold sPut
  cases he : e ρ with
  | none => rfl
  | some z =>
    simp only [Option.bind_some]
    cases hk : k z.2 with
    | none => rfl
    | some w =>
      simp only [Option.bind_some]
      cases h2 : w.2[i]? with
      | none => rfl
      | some o =>
        cases o with
        | dic l =>
          rw [dicL_d]
          cases hd : dAsk l w.1 <;> simp only [hd] <;> rfl
        | _ => rfl
end
/-- a for by an invariant: each turn goes on -/
theorem for_inv {t : Tg} {b : Sm} (I : List O → Prop) : ∀ (xs : List D), (∀ x ∈ xs, ∀ ρ, I ρ → ∃ ρ1 ρ2, tgo t x ρ = some ρ1 ∧ (b ρ1 = some (.nx, ρ2) ∨ b ρ1 = some (.ct, ρ2)) ∧ I ρ2) → ∀ ρ, I ρ → ∃ ρ', forLoop t b xs ρ = some (.nx, ρ') ∧ I ρ'
  | [], _, ρ, h => ⟨ρ, rfl, h⟩
  | x :: xs, k, ρ, h => by
    obtain ⟨ρ1, ρ2, h1, h2, h3⟩ := k x List.mem_cons_self ρ h
    obtain ⟨ρ', h4, h5⟩ := for_inv I xs (fun y hy => k y (List.mem_cons_of_mem _ hy)) ρ2 h3
    refine ⟨ρ', ?_, h5⟩
    rw [forL_cons, h1]
    rcases h2 with h2 | h2
    · simp only [Option.bind_some, h2, forK_nx, h4]
    · simp only [Option.bind_some, h2, forK_ct, h4]
/-- the same, with what has been walked -/
theorem for_inv2 {t : Tg} {b : Sm} (I : List D → List O → Prop) : ∀ (xs pre : List D), (∀ pre' x, (∃ post, xs = pre' ++ x :: post) → ∀ ρ, I (pre ++ pre') ρ → ∃ ρ1 ρ2, tgo t x ρ = some ρ1 ∧ (b ρ1 = some (.nx, ρ2) ∨ b ρ1 = some (.ct, ρ2)) ∧ I (pre ++ pre' ++ [x]) ρ2) → ∀ ρ, I pre ρ → ∃ ρ', forLoop t b xs ρ = some (.nx, ρ') ∧ I (pre ++ xs) ρ'
  | [], pre, _, ρ, h => ⟨ρ, rfl, by rw [List.append_nil]; exact h⟩
  | x :: xs, pre, k, ρ, h => by
    obtain ⟨ρ1, ρ2, h1, h2, h3⟩ := k [] x ⟨xs, rfl⟩ ρ (by rw [List.append_nil]; exact h)
    rw [List.append_nil] at h3
    obtain ⟨ρ', h4, h5⟩ := for_inv2 I xs (pre ++ [x]) (fun pre' y ⟨post, hp⟩ ρ hI => by
      have := k (x :: pre') y ⟨post, by rw [hp]; rfl⟩ ρ (by simpa using hI)
      simpa using this) ρ2 h3
    refine ⟨ρ', ?_, by simpa using h5⟩
    rw [forL_cons, h1]
    rcases h2 with h2 | h2
    · simp only [Option.bind_some, h2, forK_nx, h4]
    · simp only [Option.bind_some, h2, forK_ct, h4]
end VL

set_option Elab.async false
set_option linter.all false
set_option maxRecDepth 100000
/-! P5: comprehensions and loops that carry a state; objects lent. -/
namespace VL
open PySem
theorem comp_st {α β : Type} {it : Iv} {tg : Tg} {cd e : Ev} {vs : List Nat} (E : β → List O) (P : β → Prop) (enc out : α → D) (xs : List α) (hit : ∀ b, it (E b) = some (xs.map enc, E b)) (hno : ∀ b, noOwn (E b) vs = true) (hw : ∀ b, wipeO (E b) vs = E b) (hg : ∀ b b', giveBack (E b) (E b') vs = E b')
    (step : ∀ q ∈ xs, ∀ b, P b → ∃ b', P b' ∧ ∀ acc, lcTurn tg cd e vs (enc q) (E b) acc = some (acc ++ [out q], E b')) (b : β) (hb : P b) : ∃ b', P b' ∧ eComp it tg cd e vs (E b) = some (.list (xs.map out), E b') := by
  have key : ∀ (ys : List α), (∀ q ∈ ys, q ∈ xs) → ∀ (b : β) (acc : List D), P b → ∃ b', P b' ∧ lcLoop tg cd e vs (ys.map enc) (E b) acc = some (acc ++ ys.map out, E b') := by
    intro ys
    induction ys with
    | nil => intro _ b acc hb; exact ⟨b, hb, by simp [lcLoop]⟩
    | cons y ys ih =>
      intro hs b acc hb
      obtain ⟨b1, h1, h2⟩ := step y (hs y List.mem_cons_self) b hb
      obtain ⟨b2, h3, h4⟩ := ih (fun q hq => hs q (List.mem_cons_of_mem _ hq)) b1 (acc ++ [out y]) h1
      refine ⟨b2, h3, ?_⟩
      rw [List.map_cons]
      unfold lcLoop
      rw [h2]
      simp only [h4]
      simp
  obtain ⟨b', h1, h2⟩ := key xs (fun _ h => h) b [] hb
  refine ⟨b', h1, ?_⟩
  unfold eComp
  simp only [hit, hno, if_true, hw, h2, hg, List.nil_append]
/-- a comprehension told turn by turn -/
theorem comp_fl {α : Type} {it : Iv} {tg : Tg} {cd e : Ev} {vs : List Nat} {ρ ρ1 ρw ρe : List O} (xs : List α) (enc : α → D) (p : α → Bool) (out : α → D) (hit : it ρ = some (xs.map enc, ρ1)) (hno : noOwn ρ1 vs = true) (hw : wipeO ρ1 vs = ρw) (hg : giveBack ρ1 ρw vs = ρe)
    (step : ∀ q ∈ xs, ∀ acc, lcTurn tg cd e vs (enc q) ρw acc = some (if p q = true then acc ++ [out q] else acc, ρw)) : eComp it tg cd e vs ρ = some (.list ((xs.filter p).map out), ρe) := by
  have key : ∀ (ys : List α), (∀ q ∈ ys, q ∈ xs) → ∀ acc : List D, lcLoop tg cd e vs (ys.map enc) ρw acc = some (acc ++ (ys.filter p).map out, ρw) := by
    intro ys
    induction ys with
    | nil => intro _ acc; simp [lcLoop]
    | cons y ys ih =>
      intro hs acc
      have h1 := step y (hs y List.mem_cons_self) acc
      rw [List.map_cons]
      unfold lcLoop
      rw [h1]
      simp only [ih (fun q hq => hs q (List.mem_cons_of_mem _ hq))]
      cases h : p y <;> simp [List.filter_cons, h]
  unfold eComp
  simp only [hit, hno, if_true, hw, key xs (fun _ h => h) [], hg, List.nil_append]
theorem comp_fa {α : Type} {it : Iv} {tg : Tg} {cd e : Ev} {vs : List Nat} {ρ ρ1 ρw ρe : List O} (xs : List α) (enc : α → D) (out : α → D) (hit : it ρ = some (xs.map enc, ρ1)) (hno : noOwn ρ1 vs = true) (hw : wipeO ρ1 vs = ρw) (hg : giveBack ρ1 ρw vs = ρe)
    (step : ∀ q ∈ xs, ∀ acc, lcTurn tg cd e vs (enc q) ρw acc = some (acc ++ [out q], ρw)) : eComp it tg cd e vs ρ = some (.list (xs.map out), ρe) := by
  have := comp_fl xs enc (fun _ => true) out hit hno hw hg (fun q hq acc => by rw [step q hq acc]; rfl)
  rwa [List.filter_eq_self.mpr (fun _ _ => rfl)] at this
theorem comp_fa1 {α : Type} {it : Iv} {tg : Tg} {cd e : Ev} {vs : List Nat} {ρ : List O} (xs : List α) (enc : α → D) (out : α → D) (hit : it ρ = some (xs.map enc, ρ)) (hno : noOwn ρ vs = true) (hw : wipeO ρ vs = ρ) (hg : giveBack ρ ρ vs = ρ)
    (step : ∀ q ∈ xs, ∀ acc, lcTurn tg cd e vs (enc q) ρ acc = some (acc ++ [out q], ρ)) : eComp it tg cd e vs ρ = some (.list (xs.map out), ρ) := comp_fa xs enc out hit hno hw hg step
theorem comp_fl1 {α : Type} {it : Iv} {tg : Tg} {cd e : Ev} {vs : List Nat} {ρ : List O} (xs : List α) (enc : α → D) (p : α → Bool) (out : α → D) (hit : it ρ = some (xs.map enc, ρ)) (hno : noOwn ρ vs = true) (hw : wipeO ρ vs = ρ) (hg : giveBack ρ ρ vs = ρ)
    (step : ∀ q ∈ xs, ∀ acc, lcTurn tg cd e vs (enc q) ρ acc = some (if p q = true then acc ++ [out q] else acc, ρ)) : eComp it tg cd e vs ρ = some (.list ((xs.filter p).map out), ρ) := comp_fl xs enc p out hit hno hw hg step
theorem for_st {α β γ : Type} {t : Tg} {bd : Sm} (E : β → γ → List O) (P : β → Prop) (Q : γ → Prop) (enc : α → D) (F : γ → α → γ) : ∀ (xs : List α), (∀ x ∈ xs, ∀ s c, P s → Q c → ∃ s', P s' ∧ Q (F c x) ∧ ((tgo t (enc x) (E s c)).bind bd = some (.nx, E s' (F c x)) ∨ (tgo t (enc x) (E s c)).bind bd = some (.ct, E s' (F c x)))) →
    ∀ s c, P s → Q c → ∃ s', P s' ∧ Q (xs.foldl F c) ∧ forLoop t bd (xs.map enc) (E s c) = some (.nx, E s' (xs.foldl F c))
  | [], _, s, c, h1, h2 => ⟨s, h1, h2, rfl⟩
  | x :: xs, k, s, c, h1, h2 => by
    obtain ⟨s1, p1, q1, r1⟩ := k x List.mem_cons_self s c h1 h2
    obtain ⟨s2, p2, q2, r2⟩ := for_st E P Q enc F xs (fun y hy => k y (List.mem_cons_of_mem _ hy)) s1 (F c x) p1 q1
    refine ⟨s2, p2, q2, ?_⟩
    rw [List.map_cons, forL_cons, List.foldl_cons]
    cases ht : tgo t (enc x) (E s c) with
    | none => rw [ht] at r1; rcases r1 with r1 | r1 <;> cases r1
    | some ρ1 =>
      rw [ht] at r1
      simp only [Option.bind_some] at r1 ⊢
      rcases r1 with r1 | r1
      · rw [r1, forK_nx, r2]
      · rw [r1, forK_ct, r2]
/-! the object with a game and a book -/
abbrev obj (k : Nat) (G : D) (M : List (D × D)) : O := .ins k (.cons "game" (.val G) (.cons "known" (.dic M) .nil))
section
variable {k : Nat} {G d : D} {M M' : List (D × D)} {r r' : List O} {ds : List D} {m : Str} {φ : O → List D → Option (D × O)} {es : Evs} {f : Pv}
theorem obj_ok : (noBor (obj k G M) && hasRef (obj k G M)) = true := rfl
theorem obj_game {j : Nat} : getP (.bor j (obj k G M) :: r) (.f 0 "game") = some (.val G) := by kernel_rfl
theorem obj_known {j : Nat} : getP (.bor j (obj k G M) :: r) (.f 0 "known") = some (.dic M) := by kernel_rfl
theorem obj_put {j : Nat} : setP (.bor j (obj k G M) :: r) (.f 0 "known") (.dic M') = .bor j (obj k G M') :: r := by kernel_rfl
theorem ap_eQg {j : Nat} : eP (pQ (.f 0 "game")) (.bor j (obj k G M) :: r) = some (G, .bor j (obj k G M) :: r) := by
  unfold eP pQ
  rw [obj_game]
  rfl
theorem is_of_stand : isIns k "of_stand" (obj k G M) = true := by
  have h : (Fs.get (.cons "game" (.val G) (.cons "known" (.dic M) .nil)) "of_stand").isNone = true := by kernel_rfl
  show (decide (k = k) && (Fs.get (.cons "game" (.val G) (.cons "known" (.dic M) .nil)) "of_stand").isNone) = true
  rw [h, decide_eq_true rfl]
  rfl
theorem is_of_move : isIns k "of_move" (obj k G M) = true := by
  have h : (Fs.get (.cons "game" (.val G) (.cons "known" (.dic M) .nil)) "of_move").isNone = true := by kernel_rfl
  show (decide (k = k) && (Fs.get (.cons "game" (.val G) (.cons "known" (.dic M) .nil)) "of_move").isNone) = true
  rw [h, decide_eq_true rfl]
  rfl
theorem is_known_of : isIns k "known_of" (obj k G M) = true := by
  have h : (Fs.get (.cons "game" (.val G) (.cons "known" (.dic M) .nil)) "known_of").isNone = true := by kernel_rfl
  show (decide (k = k) && (Fs.get (.cons "game" (.val G) (.cons "known" (.dic M) .nil)) "known_of").isNone) = true
  rw [h, decide_eq_true rfl]
  rfl
/-! one step where the book lies -/
theorem ap_o2k {j : Nat} {f : D → D → Option D} {a : Ev} {x : D} (ha : a (.bor j (obj k G M) :: r) = some (x, .bor j (obj k G M) :: r)) : o2Q f a (.f 0 "known") (.bor j (obj k G M) :: r) = (f x (.dict M)).bind fun d => some (d, .bor j (obj k G M) :: r) := by
  unfold o2Q pkQ
  rw [ha]
  simp only [obj_known]
  show (match f x (.dict M) with
    | some d => some (d, O.bor j (obj k G M) :: r)
    | none => none) = _
  cases f x (.dict M) <;> rfl
theorem ap_ixk {j : Nat} {g : D → D → Option D} {x : D} (hx : f (.bor j (obj k G M) :: r) = some x) : ixQ g (.f 0 "known") f (.bor j (obj k G M) :: r) = (g (.dict M) x).bind fun d => some (d, .bor j (obj k G M) :: r) := by
  unfold ixQ pkQ
  simp only [obj_known, hx]
  show (match g (.dict M) x with
    | some d => some (d, O.bor j (obj k G M) :: r)
    | none => none) = _
  cases g (.dict M) x <;> rfl
theorem ap_putk {j : Nat} {e : Ev} {x v : D} {ρ : List O} (he : e ρ = some (v, .bor j (obj k G M) :: r)) (hx : f (.bor j (obj k G M) :: r) = some x) (hd : (dAsk M x).isSome = true) (hM : M.length < LIM) : sPutQ (.f 0 "known") f e ρ = some (.nx, .bor j (obj k G (dput x v M)) :: r) := by
  unfold sPutQ
  simp only [he, hx, obj_known, obj_put]
  cases h : dAsk M x with
  | none => rw [h] at hd; cases hd
  | some y => simp only [if_pos hM]
/-- a call of the lent object's method -/
theorem meth_at {j : Nat} (hI : isIns k m (obj k G M) = true) (hes : es (.bor j (obj k G M) :: r) = some (ds, .bor j (obj k G M) :: r)) (hφ : φ (obj k G M) ds = some (d, obj k G M')) : eMeth 0 k m φ es (.bor j (obj k G M) :: r) = some (d, .bor j (obj k G M') :: r) := by
  unfold eMeth
  have e : getP (.bor j (obj k G M) :: r) (.s 0) = some (obj k G M) := rfl
  simp only [e, hI, if_true, hes, hφ]
  rfl
/-- the slot i's own object's method -/
theorem methI_at {i : Nat} {ρ : List O} (hρ : ρ[i]? = some (obj k G M)) (hI : isIns k m (obj k G M) = true) (hes : es ρ = some (ds, ρ)) (hφ : φ (obj k G M) ds = some (d, obj k G M')) : eMeth i k m φ es ρ = some (d, ρ.set i (obj k G M')) := by
  unfold eMeth
  have e : getP ρ (.s i) = some (obj k G M) := by
    show (ρ[i]?).map unb = _
    rw [hρ]
    rfl
  have e2 : setP ρ (.s i) (obj k G M') = ρ.set i (obj k G M') := by
    unfold setP
    simp only [hρ]
    rfl
  simp only [e, hI, if_true, hes, hφ, e2]
theorem mkB_obj {p n : Nat} {b : Sm} (hl : ds.length + 1 = p) (hm : b (.bor 0 (obj k G M) :: (ds.map .val ++ List.replicate (n - (ds.length + 1)) .un)) = some (.rt d, .bor 0 (obj k G M') :: r')) : mkB p n 0 b (obj k G M) ds = some (d, obj k G M') := by
  unfold mkB runB
  rw [if_pos ⟨hl, Nat.zero_le _⟩, if_pos obj_ok]
  show (match b (.bor 0 (obj k G M) :: (ds.map .val ++ List.replicate (n - (ds.length + 1)) .un)) with
    | some (.rt d, ρ') => lentK d ρ'[0]?
    | some (.nx, ρ') => lentK .none ρ'[0]?
    | _ => none) = _
  rw [hm]
  rfl
/-- a dict lent to a call -/
theorem callB_at {i : Nat} {ρ : List O} (hρ : (ρ[i]?).map unb = some (.dic M)) (hes : es ρ = some (ds, ρ)) (hφ : φ (.dic M) ds = some (d, .dic M')) : eCallB i φ es ρ = some (d, setP ρ (.s i) (.dic M')) := by
  unfold eCallB
  have e : getP ρ (.s i) = some (.dic M) := hρ
  have h : hasRef (.dic M) = true := rfl
  simp only [e, h, if_true, hes, hφ]
theorem mkB_dic {n : Nat} {b : Sm} {a1 a2 : D} {ρ' : List O} (hn : 3 ≤ n) (hm : b (.val a1 :: .val a2 :: .bor 0 (.dic M) :: List.replicate (n - 3) .un) = some (.rt d, ρ')) (h2 : ρ'[2]? = some (.bor 0 (.dic M'))) : mkB 3 n 2 b (.dic M) [a1, a2] = some (d, .dic M') := by
  unfold mkB runB
  rw [if_pos ⟨rfl, Nat.le_refl _⟩, if_pos (show (noBor (O.dic M) && hasRef (O.dic M)) = true from rfl)]
  show (match b (.val a1 :: .val a2 :: .bor 0 (.dic M) :: List.replicate (n - 3) .un) with
    | some (.rt d, ρ') => lentK d ρ'[2]?
    | some (.nx, ρ') => lentK .none ρ'[2]?
    | _ => none) = _
  rw [hm]
  show lentK d ρ'[2]? = _
  rw [h2]
  rfl
theorem putQ_s {i : Nat} {e : Ev} {ρ ρ1 : List O} {x v : D} (he : e ρ = some (v, ρ1)) (hx : f ρ1 = some x) (h2 : (ρ1[i]?).map unb = some (.dic M)) (hd : (dAsk M x).isSome = true) (hM : M.length < LIM) : sPutQ (.s i) f e ρ = some (.nx, setP ρ1 (.s i) (.dic (dput x v M))) := by
  unfold sPutQ
  have e1 : getP ρ1 (.s i) = some (.dic M) := h2
  simp only [he, hx, e1]
  cases h : dAsk M x with
  | none => rw [h] at hd; cases hd
  | some y => simp only [if_pos hM]
theorem pkK_bd {j : Nat} : pkK (some (.bor j (.dic M))) = some (.dict M) := rfl
end
end VL

set_option Elab.async false
set_option linter.all false
set_option maxRecDepth 100000
set_option maxHeartbeats 0
namespace VL
open PySem PySem.Spec PyProof.Rows L2
/-! law_box -/
abbrev N_law_box : List Str := ["_law_number", "_law_kind", "_law_some"]
def m_law_box_t3 : Sm := (sRet (o2 sIxA (kE (o2 sAddA (kP 2) (kE (eLst (esCons (eTup (esCons (eC (.str "even")) (esCons (o2 sAddA (kE (eC (.int 1))) (kE (o2 sMod (kE (o2 sDiv (kP 0) (kE (eC (.int 6))))) (kE (eC (.int 50)))))) esNil))) esNil))))) (kP 1)))
def m_law_box_s2 : Sm := (sSet (.one 2) (o2 sAddA (kP 2) (kE (eLst (esCons (eTup (esCons (eC (.str "run")) (esCons (o2 sAddA (kE (eC (.int 2))) (kE (o2 sMod (kE (o2 sDiv (kP 0) (kE (eC (.int 6))))) (kE (eC (.int 3)))))) (esCons (o2 sAddA (kE (eC (.int 1))) (kE (o2 sMod (kE (o2 sDiv (kP 0) (kE (eC (.int 64))))) (kE (eC (.int 50)))))) esNil)))) (esCons (eTup (esCons (eC (.str "under")) (esCons (o2 sAddA (kE (eC (.int 1))) (kE (o2 sMod (kE (o2 sDiv (kP 0) (kE (eC (.int 6))))) (kE (eC (.int 24)))))) esNil))) esNil))))))
def m_law_box_t2 : Sm := sSeq (m_law_box_s2) (m_law_box_t3)
def m_law_box_s1 : Sm := (sSet (.one 2) (eLst (esCons (eTup (esCons (eC (.str "face")) (esCons (o2 sAddA (kE (eC (.int 1))) (kE (o2 sMod (kE (o2 sDiv (kP 0) (kE (eC (.int 6))))) (kE (eC (.int 6)))))) esNil))) (esCons (eTup (esCons (eC (.str "all")) esNil)) (esCons (eTup (esCons (eC (.str "alike")) (esCons (o2 sAddA (kE (eC (.int 2))) (kE (o2 sMod (kE (o2 sDiv (kP 0) (kE (eC (.int 6))))) (kE (eC (.int 3)))))) (esCons (o2 sAddA (kE (eC (.int 1))) (kE (o2 sMod (kE (o2 sDiv (kP 0) (kE (eC (.int 64))))) (kE (eC (.int 50)))))) esNil)))) esNil)))))
def m_law_box_t1 : Sm := sSeq (m_law_box_s1) (m_law_box_t2)
def m_law_box_s0 : Sm := (sSet (.one 1) (o2 sMod (kP 0) (kE (eC (.int 6)))))
def m_law_box_t0 : Sm := sSeq (m_law_box_s0) (m_law_box_t1)
def m_law_box : Sm := m_law_box_t0
def f_law_box : List D → Option D := mkF 1 3 (m_law_box)
/-! law_drawn -/
abbrev N_law_drawn : List Str := ["_law_number", "_law_k", "_law_drawn_here"]
def m_law_drawn_t1 : Sm := (sRet (o2 sMod (kE (o2 sAddA (kE (o2 sAddA (kE (o2 sMulA (kP 2) (kP 2))) (kE (o2 sMulA (kE (eC (.int 3))) (kP 2))))) (kP 1))) (kE (eC (.int 2147483629)))))
def m_law_drawn_s0 : Sm := (sSet (.one 2) (o2 sMod (kE (o2 sMulA (kE (o2 sAddA (kE (o2 sAddA (kP 0) (kE (o2 sMulA (kE (eC (.int 104729))) (kP 1))))) (kE (eC (.int 17))))) (kE (eC (.int 69621))))) (kE (eC (.int 2147483647)))))
def m_law_drawn_t0 : Sm := sSeq (m_law_drawn_s0) (m_law_drawn_t1)
def m_law_drawn : Sm := m_law_drawn_t0
def f_law_drawn : List D → Option D := mkF 2 3 (m_law_drawn)
/-! law_game -/
abbrev N_law_game : List Str := ["_law_number", "_law_great", "_law_many", "_law_sides", "_law_throws", "_law_boxes", "_law_k"]
def m_law_game_t6 : Sm := (sRet (eTup (esCons (eV 2) (esCons (eV 3) (esCons (eV 4) (esCons (eV 5) esNil))))))
def m_law_game_s5 : Sm := (sIf (eOr (eAnd (o2 sEq (kP 2) (kE (eC (.int 3)))) (o2 sEq (kP 3) (kE (eC (.int 4))))) (eAnd (o2 sEq (kE (o1 sLenA (kP 5))) (kE (eC (.int 3)))) (o2 sGt (kE (o2 sMulA (kE (o2 sMulA (kP 2) (kP 3))) (kP 4))) (kE (eC (.int 12)))))) (sRet (eTup (esCons (eC (.int 2)) (esCons (o2 sMin2 (kP 3) (kE (eC (.int 3)))) (esCons (o2 sMin2 (kP 4) (kE (eC (.int 2)))) (esCons (eV 5) esNil)))))) sNil)
def m_law_game_t5 : Sm := sSeq (m_law_game_s5) (m_law_game_t6)
def m_law_game_s4 : Sm := (sIf (o2 sEq (kP 1) (kE (eC (.int 1)))) (sRet (eTup (esCons (o2 sAddA (kE (eC (.int 1))) (kE (o2 sMod (kE (o2 sDiv (kP 0) (kE (eC (.int 256))))) (kE (eC (.int 4)))))) (esCons (o2 sAddA (kE (eC (.int 2))) (kE (o2 sMod (kE (o2 sDiv (kP 0) (kE (eC (.int 1024))))) (kE (eC (.int 5)))))) (esCons (eV 4) (esCons (eV 5) esNil)))))) sNil)
def m_law_game_t4 : Sm := sSeq (m_law_game_s4) (m_law_game_t5)
def m_law_game_s3 : Sm := (sSet (.one 5) (o1 sTuple (kE (eComp (iR1 (o2 sIxA (kE (eTup (esCons (eC (.int 1)) (esCons (eC (.int 2)) (esCons (eC (.int 2)) (esCons (eC (.int 3)) esNil)))))) (kE (o2 sMod (kE (o2 sDiv (kP 0) (kE (eC (.int 64))))) (kE (eC (.int 4))))))) (.one 6) eTrue (eCall f_law_box (esCons (o2 sDiv (kE (eCall f_law_drawn (esCons (eV 0) (esCons (eV 6) esNil)))) (kE (eC (.int 4)))) esNil)) [6]))))
def m_law_game_t3 : Sm := sSeq (m_law_game_s3) (m_law_game_t4)
def m_law_game_s2 : Sm := (sSet (.one 4) (o2 sIxA (kE (eTup (esCons (eC (.int 1)) (esCons (eC (.int 2)) (esCons (eC (.int 3)) (esCons (eC (.int 2)) esNil)))))) (kE (o2 sMod (kE (o2 sDiv (kP 0) (kE (eC (.int 16))))) (kE (eC (.int 4)))))))
def m_law_game_t2 : Sm := sSeq (m_law_game_s2) (m_law_game_t3)
def m_law_game_s1 : Sm := (sSet (.one 3) (o2 sIxA (kE (eTup (esCons (eC (.int 2)) (esCons (eC (.int 3)) (esCons (eC (.int 4)) (esCons (eC (.int 2)) esNil)))))) (kE (o2 sMod (kE (o2 sDiv (kP 0) (kE (eC (.int 4))))) (kE (eC (.int 4)))))))
def m_law_game_t1 : Sm := sSeq (m_law_game_s1) (m_law_game_t2)
def m_law_game_s0 : Sm := (sSet (.one 2) (o2 sIxA (kE (eTup (esCons (eC (.int 2)) (esCons (eC (.int 1)) (esCons (eC (.int 3)) (esCons (eC (.int 2)) esNil)))))) (kE (o2 sMod (kP 0) (kE (eC (.int 4)))))))
def m_law_game_t0 : Sm := sSeq (m_law_game_s0) (m_law_game_t1)
def m_law_game : Sm := m_law_game_t0
def f_law_game : List D → Option D := mkF 2 7 (m_law_game)
/-! law_cell_at -/
abbrev N_law_cell_at : List Str := ["_law_script", "_law_k"]
def m_law_cell_at_t1 : Sm := (sRet (eC (.int 0)))
def m_law_cell_at_s0 : Sm := (sIf (o2 sLt (kP 1) (kE (o1 sLenA (kP 0)))) (sRet (o2 sIxA (kP 0) (kP 1))) sNil)
def m_law_cell_at_t0 : Sm := sSeq (m_law_cell_at_s0) (m_law_cell_at_t1)
def m_law_cell_at : Sm := m_law_cell_at_t0
def f_law_cell_at : List D → Option D := mkF 2 2 (m_law_cell_at)
/-! law_mixed -/
abbrev N_law_mixed : List Str := ["_law_script", "_law_k", "_law_drawn_here"]
def m_law_mixed_t1 : Sm := (sRet (o2 sMod (kE (o2 sAddA (kE (o2 sAddA (kE (o2 sMulA (kP 2) (kP 2))) (kE (o2 sMulA (kE (eC (.int 7))) (kP 2))))) (kP 1))) (kE (eC (.int 2147483629)))))
def m_law_mixed_s0 : Sm := (sSet (.one 2) (o2 sMod (kE (o2 sMulA (kE (o2 sAddA (kE (o2 sAddA (kE (eCall f_law_cell_at (esCons (eV 0) (esCons (eV 1) esNil)))) (kE (o2 sMulA (kE (eC (.int 7919))) (kP 1))))) (kE (eC (.int 1))))) (kE (eC (.int 48271))))) (kE (eC (.int 2147483647)))))
def m_law_mixed_t0 : Sm := sSeq (m_law_mixed_s0) (m_law_mixed_t1)
def m_law_mixed : Sm := m_law_mixed_t0
def f_law_mixed : List D → Option D := mkF 2 3 (m_law_mixed)
/-! law_text -/
abbrev N_law_text : List Str := ["_law_game_here", "_law_many", "_law_sides", "_law_throws", "_law_boxes", "_law_head", "_law_box_here", "_law_part"]
def m_law_text_t3 : Sm := (sRet (eM mJoin (kE (eC (.str "; "))) (esCons (o2 sAddX (kE (eLst (esCons (eV 5) esNil))) (kE (eComp (iSeqA (eV 4)) (.one 6) eTrue (eM mJoin (kE (eC (.str " "))) (esCons (eComp (iSeqA (eV 6)) (.one 7) eTrue (o1 sStr (kP 7)) [7]) esNil)) [6]))) esNil)))
def m_law_text_s2 : Sm := (sSet (.one 5) (o2 sAddX (kE (o2 sAddX (kP 5) (kE (o1 sStr (kP 3))))) (kE (o2 sIxA (kE (eLst (esCons (eC (.str " throws")) (esCons (eC (.str " throw")) esNil)))) (kE (o1 sInt (kE (o2 sEq (kP 3) (kE (eC (.int 1)))))))))))
def m_law_text_t2 : Sm := sSeq (m_law_text_s2) (m_law_text_t3)
def m_law_text_s1 : Sm := (sSet (.one 5) (o2 sAddX (kE (o2 sAddX (kE (o2 sAddX (kE (o1 sStr (kP 1))) (kE (o2 sIxA (kE (eLst (esCons (eC (.str " dice of ")) (esCons (eC (.str " die of ")) esNil)))) (kE (o1 sInt (kE (o2 sEq (kP 1) (kE (eC (.int 1))))))))))) (kE (o1 sStr (kP 2))))) (kE (eC (.str ", ")))))
def m_law_text_t1 : Sm := sSeq (m_law_text_s1) (m_law_text_t2)
def m_law_text_s0 : Sm := (sSet (.many [1, 2, 3, 4]) (eV 0))
def m_law_text_t0 : Sm := sSeq (m_law_text_s0) (m_law_text_t1)
def m_law_text : Sm := m_law_text_t0
def f_law_text : List D → Option D := mkF 1 8 (m_law_text)
/-! box_text -/
abbrev N_box_text : List Str := ["box", "part"]
def m_box_text : Sm := (sRet (eM mJoin (kE (eC (.str " "))) (esCons (eComp (iSeqA (eV 0)) (.one 1) eTrue (o1 sStr (kP 1)) [1]) esNil)))
def f_box_text : List D → Option D := mkF 1 2 (m_box_text)
/-! of_many -/
abbrev N_of_many : List Str := ["number", "one", "more"]
def m_of_many_t1 : Sm := (sRet (o2 sAddX (kE (o2 sAddX (kE (o1 sStr (kP 0))) (kE (eC (.str " "))))) (kP 2)))
def m_of_many_s0 : Sm := (sIf (o2 sEq (kP 0) (kE (eC (.int 1)))) (sRet (o2 sAddX (kE (o2 sAddX (kE (o1 sStr (kP 0))) (kE (eC (.str " "))))) (kP 1))) sNil)
def m_of_many_t0 : Sm := sSeq (m_of_many_s0) (m_of_many_t1)
def m_of_many : Sm := m_of_many_t0
def f_of_many : List D → Option D := mkF 3 3 (m_of_many)
/-! written -/
abbrev N_written : List Str := ["game", "many", "sides", "throws", "boxes", "head", "box"]
def m_written_t2 : Sm := (sRet (eM mJoin (kE (eC (.str "; "))) (esCons (o2 sAddX (kE (eLst (esCons (eV 5) esNil))) (kE (eComp (iSeqA (eV 4)) (.one 6) eTrue (eCall f_box_text (esCons (eV 6) esNil)) [6]))) esNil)))
def m_written_s1 : Sm := (sSet (.one 5) (o2 sAddX (kE (o2 sAddX (kE (o2 sAddX (kE (o2 sAddX (kE (eCall f_of_many (esCons (eV 1) (esCons (eC (.str "die")) (esCons (eC (.str "dice")) esNil))))) (kE (eC (.str " of "))))) (kE (o1 sStr (kP 2))))) (kE (eC (.str ", "))))) (kE (eCall f_of_many (esCons (eV 3) (esCons (eC (.str "throw")) (esCons (eC (.str "throws")) esNil)))))))
def m_written_t1 : Sm := sSeq (m_written_s1) (m_written_t2)
def m_written_s0 : Sm := (sSet (.many [1, 2, 3, 4]) (eV 0))
def m_written_t0 : Sm := sSeq (m_written_s0) (m_written_t1)
def m_written : Sm := m_written_t0
def f_written : List D → Option D := mkF 1 7 (m_written)
/-! law -/
abbrev N_law : List Str := ["_law_script", "_law_game_here"]
def m_law_t1 : Sm := (sRet (o2 sEq (kE (eCall f_written (esCons (eV 1) esNil))) (kE (eCall f_law_text (esCons (eV 1) esNil)))))
def m_law_s0 : Sm := (sSet (.one 1) (eCall f_law_game (esCons (eCall f_law_mixed (esCons (eV 0) (esCons (eC (.int 0)) esNil))) (esCons (eC (.int 1)) esNil))))
def m_law_t0 : Sm := sSeq (m_law_s0) (m_law_t1)
def m_law : Sm := m_law_t0
def f_law : List D → Option D := mkF 1 2 (m_law)
end VL
set_option Elab.async false
set_option linter.all false
set_option maxRecDepth 100000
set_option maxHeartbeats 0
namespace VL
open PySem PySem.Spec PyProof.Rows L2
def top (i : Nat) : Stmt := PySem.Challenge.pw_diceboxes_k02_written.main.body.getD i s0
abbrev st_law_box : Stmt := top 8
abbrev st_law_drawn : Stmt := top 7
abbrev st_law_game : Stmt := top 9
abbrev st_law_cell_at : Stmt := top 5
abbrev st_law_mixed : Stmt := top 6
abbrev st_law_text : Stmt := top 12
abbrev st_box_text : Stmt := top 2
abbrev st_of_many : Stmt := top 1
abbrev st_written : Stmt := top 3
abbrev st_law : Stmt := top 13
theorem sc_law_box : FnScope N_law_box ["_law_number"] (defScope st_law_box) := ⟨rfl, rfl, rfl, by decide +kernel, rfl, by decide +kernel, by decide +kernel⟩
theorem fp_law_box {c : Ct} {P : Program} {mg : Str → Option Value} {base : Heap} {k : Nat} {f : Addr} {fd : FuncData} (F : Fun c.K "_law_box" "_law_box" st_law_box f fd) (hm : mg "_law_box" = some (.ref f)) (hb : Binds c.K fd ["_law_number"] []) (hblt : ∀ y ∈ bltNames, mg y = none)    : FP c P mg base (k + 1) "_law_box" f_law_box := by
  refine fp_mk F sc_law_box hm hb hblt (m := (sSeq (sSet (.one 1) (o2 sMod (kP 0) (kE (eC (.int 6)))))
  (sSeq (sSet (.one 2) (eLst (esCons (eTup (esCons (eC (.str "face")) (esCons (o2 sAddA (kE (eC (.int 1))) (kE (o2 sMod (kE (o2 sDiv (kP 0) (kE (eC (.int 6))))) (kE (eC (.int 6)))))) esNil))) (esCons (eTup (esCons (eC (.str "all")) esNil)) (esCons (eTup (esCons (eC (.str "alike")) (esCons (o2 sAddA (kE (eC (.int 2))) (kE (o2 sMod (kE (o2 sDiv (kP 0) (kE (eC (.int 6))))) (kE (eC (.int 3)))))) (esCons (o2 sAddA (kE (eC (.int 1))) (kE (o2 sMod (kE (o2 sDiv (kP 0) (kE (eC (.int 64))))) (kE (eC (.int 50)))))) esNil)))) esNil)))))
  (sSeq (sSet (.one 2) (o2 sAddA (kP 2) (kE (eLst (esCons (eTup (esCons (eC (.str "run")) (esCons (o2 sAddA (kE (eC (.int 2))) (kE (o2 sMod (kE (o2 sDiv (kP 0) (kE (eC (.int 6))))) (kE (eC (.int 3)))))) (esCons (o2 sAddA (kE (eC (.int 1))) (kE (o2 sMod (kE (o2 sDiv (kP 0) (kE (eC (.int 64))))) (kE (eC (.int 50)))))) esNil)))) (esCons (eTup (esCons (eC (.str "under")) (esCons (o2 sAddA (kE (eC (.int 1))) (kE (o2 sMod (kE (o2 sDiv (kP 0) (kE (eC (.int 6))))) (kE (eC (.int 24)))))) esNil))) esNil))))))
  (sRet (o2 sIxA (kE (o2 sAddA (kP 2) (kE (eLst (esCons (eTup (esCons (eC (.str "even")) (esCons (o2 sAddA (kE (eC (.int 1))) (kE (o2 sMod (kE (o2 sDiv (kP 0) (kE (eC (.int 6))))) (kE (eC (.int 50)))))) esNil))) esNil))))) (kP 1))))))) fun cdv A outer s H E C hr => ?_
  exact (cb_cons (sN C 1 (ce_bin op_modV (nP 0) ce_int.ck))
  (cb_cons (sN C 2 (cf_lst (ca_cons (ce_tup (ca_cons ce_str (ca_cons (ce_bin (op_addA C) ce_int.ck (ce_bin op_modV (ce_bin op_divV (nP 0) ce_int.ck).ck ce_int.ck).ck) ca_nil))) (ca_cons (ce_tup (ca_cons ce_str ca_nil)) (ca_cons (ce_tup (ca_cons ce_str (ca_cons (ce_bin (op_addA C) ce_int.ck (ce_bin op_modV (ce_bin op_divV (nP 0) ce_int.ck).ck ce_int.ck).ck) (ca_cons (ce_bin (op_addA C) ce_int.ck (ce_bin op_modV (ce_bin op_divV (nP 0) ce_int.ck).ck ce_int.ck).ck) ca_nil)))) ca_nil)))).ce)
  (cb_cons (sN C 2 (ce_bin (op_addA C) (nP 2) (cf_lst (ca_cons (ce_tup (ca_cons ce_str (ca_cons (ce_bin (op_addA C) ce_int.ck (ce_bin op_modV (ce_bin op_divV (nP 0) ce_int.ck).ck ce_int.ck).ck) (ca_cons (ce_bin (op_addA C) ce_int.ck (ce_bin op_modV (ce_bin op_divV (nP 0) ce_int.ck).ck ce_int.ck).ck) ca_nil)))) (ca_cons (ce_tup (ca_cons ce_str (ca_cons (ce_bin (op_addA C) ce_int.ck (ce_bin op_modV (ce_bin op_divV (nP 0) ce_int.ck).ck ce_int.ck).ck) ca_nil))) ca_nil))).ce.ck))
  (cb_one (cs_ret (ce_ix (ix_A C) (ce_bin (op_addA C) (nP 2) (cf_lst (ca_cons (ce_tup (ca_cons ce_str (ca_cons (ce_bin (op_addA C) ce_int.ck (ce_bin op_modV (ce_bin op_divV (nP 0) ce_int.ck).ck ce_int.ck).ck) ca_nil))) ca_nil)).ce.ck).ck (nP 1) (fun _ _ => rfl)))))))
theorem sc_law_drawn : FnScope N_law_drawn ["_law_number", "_law_k"] (defScope st_law_drawn) := ⟨rfl, rfl, rfl, by decide +kernel, rfl, by decide +kernel, by decide +kernel⟩
theorem fp_law_drawn {c : Ct} {P : Program} {mg : Str → Option Value} {base : Heap} {k : Nat} {f : Addr} {fd : FuncData} (F : Fun c.K "_law_drawn" "_law_drawn" st_law_drawn f fd) (hm : mg "_law_drawn" = some (.ref f)) (hb : Binds c.K fd ["_law_number", "_law_k"] []) (hblt : ∀ y ∈ bltNames, mg y = none)    : FP c P mg base (k + 1) "_law_drawn" f_law_drawn := by
  refine fp_mk F sc_law_drawn hm hb hblt (m := (sSeq (sSet (.one 2) (o2 sMod (kE (o2 sMulA (kE (o2 sAddA (kE (o2 sAddA (kP 0) (kE (o2 sMulA (kE (eC (.int 104729))) (kP 1))))) (kE (eC (.int 17))))) (kE (eC (.int 69621))))) (kE (eC (.int 2147483647)))))
  (sRet (o2 sMod (kE (o2 sAddA (kE (o2 sAddA (kE (o2 sMulA (kP 2) (kP 2))) (kE (o2 sMulA (kE (eC (.int 3))) (kP 2))))) (kP 1))) (kE (eC (.int 2147483629))))))) fun cdv A outer s H E C hr => ?_
  exact (cb_cons (sN C 2 (ce_bin op_modV (ce_bin (op_mulA2 C) (ce_bin (op_addA C) (ce_bin (op_addA C) (nP 0) (ce_bin (op_mulA2 C) ce_int.ck (nP 1)).ck).ck ce_int.ck).ck ce_int.ck).ck ce_int.ck))
  (cb_one (cs_ret (ce_bin op_modV (ce_bin (op_addA C) (ce_bin (op_addA C) (ce_bin (op_mulA2 C) (nP 2) (nP 2)).ck (ce_bin (op_mulA2 C) ce_int.ck (nP 2)).ck).ck (nP 1)).ck ce_int.ck))))
theorem sc_law_game : FnScope N_law_game ["_law_number", "_law_great"] (defScope st_law_game) := ⟨rfl, rfl, rfl, by decide +kernel, rfl, by decide +kernel, by decide +kernel⟩
theorem fp_law_game {c : Ct} {P : Program} {mg : Str → Option Value} {base : Heap} {k : Nat} {f : Addr} {fd : FuncData} (F : Fun c.K "_law_game" "_law_game" st_law_game f fd) (hm : mg "_law_game" = some (.ref f)) (hb : Binds c.K fd ["_law_number", "_law_great"] []) (hblt : ∀ y ∈ bltNames, mg y = none)   (F_law_box : FP c P mg base k "_law_box" f_law_box) (F_law_drawn : FP c P mg base k "_law_drawn" f_law_drawn) : FP c P mg base (k + 1) "_law_game" f_law_game := by
  refine fp_mk F sc_law_game hm hb hblt (m := (sSeq (sSet (.one 2) (o2 sIxA (kE (eTup (esCons (eC (.int 2)) (esCons (eC (.int 1)) (esCons (eC (.int 3)) (esCons (eC (.int 2)) esNil)))))) (kE (o2 sMod (kP 0) (kE (eC (.int 4)))))))
  (sSeq (sSet (.one 3) (o2 sIxA (kE (eTup (esCons (eC (.int 2)) (esCons (eC (.int 3)) (esCons (eC (.int 4)) (esCons (eC (.int 2)) esNil)))))) (kE (o2 sMod (kE (o2 sDiv (kP 0) (kE (eC (.int 4))))) (kE (eC (.int 4)))))))
  (sSeq (sSet (.one 4) (o2 sIxA (kE (eTup (esCons (eC (.int 1)) (esCons (eC (.int 2)) (esCons (eC (.int 3)) (esCons (eC (.int 2)) esNil)))))) (kE (o2 sMod (kE (o2 sDiv (kP 0) (kE (eC (.int 16))))) (kE (eC (.int 4)))))))
  (sSeq (sSet (.one 5) (o1 sTuple (kE (eComp (iR1 (o2 sIxA (kE (eTup (esCons (eC (.int 1)) (esCons (eC (.int 2)) (esCons (eC (.int 2)) (esCons (eC (.int 3)) esNil)))))) (kE (o2 sMod (kE (o2 sDiv (kP 0) (kE (eC (.int 64))))) (kE (eC (.int 4))))))) (.one 6) eTrue (eCall f_law_box (esCons (o2 sDiv (kE (eCall f_law_drawn (esCons (eV 0) (esCons (eV 6) esNil)))) (kE (eC (.int 4)))) esNil)) [6]))))
  (sSeq (sIf (o2 sEq (kP 1) (kE (eC (.int 1)))) (sRet (eTup (esCons (o2 sAddA (kE (eC (.int 1))) (kE (o2 sMod (kE (o2 sDiv (kP 0) (kE (eC (.int 256))))) (kE (eC (.int 4)))))) (esCons (o2 sAddA (kE (eC (.int 2))) (kE (o2 sMod (kE (o2 sDiv (kP 0) (kE (eC (.int 1024))))) (kE (eC (.int 5)))))) (esCons (eV 4) (esCons (eV 5) esNil)))))) sNil)
  (sSeq (sIf (eOr (eAnd (o2 sEq (kP 2) (kE (eC (.int 3)))) (o2 sEq (kP 3) (kE (eC (.int 4))))) (eAnd (o2 sEq (kE (o1 sLenA (kP 5))) (kE (eC (.int 3)))) (o2 sGt (kE (o2 sMulA (kE (o2 sMulA (kP 2) (kP 3))) (kP 4))) (kE (eC (.int 12)))))) (sRet (eTup (esCons (eC (.int 2)) (esCons (o2 sMin2 (kP 3) (kE (eC (.int 3)))) (esCons (o2 sMin2 (kP 4) (kE (eC (.int 2)))) (esCons (eV 5) esNil)))))) sNil)
  (sRet (eTup (esCons (eV 2) (esCons (eV 3) (esCons (eV 4) (esCons (eV 5) esNil))))))))))))) fun cdv A outer s H E C hr => ?_
  have hr_law_box := hr
  have hr_law_drawn := hr
  exact (cb_cons (sN C 2 (ce_ix (ix_A C) (ce_tup (ca_cons ce_int (ca_cons ce_int (ca_cons ce_int (ca_cons ce_int ca_nil))))).ck (ce_bin op_modV (nP 0) ce_int.ck).ck (fun _ _ => rfl)))
  (cb_cons (sN C 3 (ce_ix (ix_A C) (ce_tup (ca_cons ce_int (ca_cons ce_int (ca_cons ce_int (ca_cons ce_int ca_nil))))).ck (ce_bin op_modV (ce_bin op_divV (nP 0) ce_int.ck).ck ce_int.ck).ck (fun _ _ => rfl)))
  (cb_cons (sN C 4 (ce_ix (ix_A C) (ce_tup (ca_cons ce_int (ca_cons ce_int (ca_cons ce_int (ca_cons ce_int ca_nil))))).ck (ce_bin op_modV (ce_bin op_divV (nP 0) ce_int.ck).ck ce_int.ck).ck (fun _ _ => rfl)))
  (cb_cons (sN C 5 (ce_t1 C (op_tupleV C) (by rfl) (by decide) (by decide +kernel) (cf_comp C (ci_range1 C (by rfl) (ce_ix (ix_A C) (ce_tup (ca_cons ce_int (ca_cons ce_int (ca_cons ce_int (ca_cons ce_int ca_nil))))).ck (ce_bin op_modV (ce_bin op_divV (nP 0) ce_int.ck).ck ce_int.ck).ck (fun _ _ => rfl))) (blkOk_by (N := N_law_game) (sc := (defScope st_law_game)) (scope := scE (atSE st_law_game [3] 0 [1])) (own := [("_law_k", 6)]) (by decide +kernel)) (by decide) (fun s1 H1 K1 cl1 fp1 => (gN (C.inn s1 H1 (scE (atSE st_law_game [3] 0 [1])) K1 cl1 fp1) 6)) (fun s1 H1 K1 cl1 fp1 => pts_true) (fun s1 H1 K1 cl1 fp1 => (ce_call (C.inn s1 H1 (scE (atSE st_law_game [3] 0 [1])) K1 cl1 fp1) F_law_box hr_law_box (by rfl) (ca_cons (ce_bin op_divV (ce_call (C.inn s1 H1 (scE (atSE st_law_game [3] 0 [1])) K1 cl1 fp1) F_law_drawn hr_law_drawn (by rfl) (ca_cons (nV 0) (ca_cons (nV 6) ca_nil))).ck ce_int.ck) ca_nil)))).ce.ck))
  (cb_cons (cs_if (ct_cmp (op_eqV C) (nP 1) ce_int.ck (by rfl)) (cb_one (cs_ret (ce_tup (ca_cons (ce_bin (op_addA C) ce_int.ck (ce_bin op_modV (ce_bin op_divV (nP 0) ce_int.ck).ck ce_int.ck).ck) (ca_cons (ce_bin (op_addA C) ce_int.ck (ce_bin op_modV (ce_bin op_divV (nP 0) ce_int.ck).ck ce_int.ck).ck) (ca_cons (nV 4) (ca_cons (nV 5) ca_nil))))))) cb_nil)
  (cb_cons (cs_if (cw_or (cw_and (ct_cmp (op_eqV C) (nP 2) ce_int.ck (by rfl)) (cw_and1 (ct_cmp (op_eqV C) (nP 3) ce_int.ck (by rfl)))).ct (cw_or1 (cw_and (ct_cmp (op_eqV C) (ce_b1 C (op_lenA C) (by rfl) (by decide) (by decide +kernel) (nP 5)).ck ce_int.ck (by rfl)) (cw_and1 (ct_cmp op_gtV (ce_bin (op_mulA2 C) (ce_bin (op_mulA2 C) (nP 2) (nP 3)).ck (nP 4)).ck ce_int.ck (by rfl)))).ct)).ct (cb_one (cs_ret (ce_tup (ca_cons ce_int (ca_cons (ce_b2 C (op_min2V C) (by rfl) (by decide) (by decide +kernel) (nP 3) ce_int.ck) (ca_cons (ce_b2 C (op_min2V C) (by rfl) (by decide) (by decide +kernel) (nP 4) ce_int.ck) (ca_cons (nV 5) ca_nil))))))) cb_nil)
  (cb_one (cs_ret (ce_tup (ca_cons (nV 2) (ca_cons (nV 3) (ca_cons (nV 4) (ca_cons (nV 5) ca_nil)))))))))))))
theorem sc_law_cell_at : FnScope N_law_cell_at ["_law_script", "_law_k"] (defScope st_law_cell_at) := ⟨rfl, rfl, rfl, by decide +kernel, rfl, by decide +kernel, by decide +kernel⟩
theorem fp_law_cell_at {c : Ct} {P : Program} {mg : Str → Option Value} {base : Heap} {k : Nat} {f : Addr} {fd : FuncData} (F : Fun c.K "_law_cell_at" "_law_cell_at" st_law_cell_at f fd) (hm : mg "_law_cell_at" = some (.ref f)) (hb : Binds c.K fd ["_law_script", "_law_k"] []) (hblt : ∀ y ∈ bltNames, mg y = none)    : FP c P mg base (k + 1) "_law_cell_at" f_law_cell_at := by
  refine fp_mk F sc_law_cell_at hm hb hblt (m := (sSeq (sIf (o2 sLt (kP 1) (kE (o1 sLenA (kP 0)))) (sRet (o2 sIxA (kP 0) (kP 1))) sNil)
  (sRet (eC (.int 0))))) fun cdv A outer s H E C hr => ?_
  exact (cb_cons (cs_if (ct_cmp op_ltV (nP 1) (ce_b1 C (op_lenA C) (by rfl) (by decide) (by decide +kernel) (nP 0)).ck (by rfl)) (cb_one (cs_ret (ce_ix (ix_A C) (nP 0) (nP 1) (fun _ _ => rfl)))) cb_nil)
  (cb_one (cs_ret ce_int)))
theorem sc_law_mixed : FnScope N_law_mixed ["_law_script", "_law_k"] (defScope st_law_mixed) := ⟨rfl, rfl, rfl, by decide +kernel, rfl, by decide +kernel, by decide +kernel⟩
theorem fp_law_mixed {c : Ct} {P : Program} {mg : Str → Option Value} {base : Heap} {k : Nat} {f : Addr} {fd : FuncData} (F : Fun c.K "_law_mixed" "_law_mixed" st_law_mixed f fd) (hm : mg "_law_mixed" = some (.ref f)) (hb : Binds c.K fd ["_law_script", "_law_k"] []) (hblt : ∀ y ∈ bltNames, mg y = none)   (F_law_cell_at : FP c P mg base k "_law_cell_at" f_law_cell_at) : FP c P mg base (k + 1) "_law_mixed" f_law_mixed := by
  refine fp_mk F sc_law_mixed hm hb hblt (m := (sSeq (sSet (.one 2) (o2 sMod (kE (o2 sMulA (kE (o2 sAddA (kE (o2 sAddA (kE (eCall f_law_cell_at (esCons (eV 0) (esCons (eV 1) esNil)))) (kE (o2 sMulA (kE (eC (.int 7919))) (kP 1))))) (kE (eC (.int 1))))) (kE (eC (.int 48271))))) (kE (eC (.int 2147483647)))))
  (sRet (o2 sMod (kE (o2 sAddA (kE (o2 sAddA (kE (o2 sMulA (kP 2) (kP 2))) (kE (o2 sMulA (kE (eC (.int 7))) (kP 2))))) (kP 1))) (kE (eC (.int 2147483629))))))) fun cdv A outer s H E C hr => ?_
  have hr_law_cell_at := hr
  exact (cb_cons (sN C 2 (ce_bin op_modV (ce_bin (op_mulA2 C) (ce_bin (op_addA C) (ce_bin (op_addA C) (ce_call C F_law_cell_at hr_law_cell_at (by rfl) (ca_cons (nV 0) (ca_cons (nV 1) ca_nil))).ck (ce_bin (op_mulA2 C) ce_int.ck (nP 1)).ck).ck ce_int.ck).ck ce_int.ck).ck ce_int.ck))
  (cb_one (cs_ret (ce_bin op_modV (ce_bin (op_addA C) (ce_bin (op_addA C) (ce_bin (op_mulA2 C) (nP 2) (nP 2)).ck (ce_bin (op_mulA2 C) ce_int.ck (nP 2)).ck).ck (nP 1)).ck ce_int.ck))))
theorem sc_law_text : FnScope N_law_text ["_law_game_here"] (defScope st_law_text) := ⟨rfl, rfl, rfl, by decide +kernel, rfl, by decide +kernel, by decide +kernel⟩
theorem fp_law_text {c : Ct} {P : Program} {mg : Str → Option Value} {base : Heap} {k : Nat} {f : Addr} {fd : FuncData} (F : Fun c.K "_law_text" "_law_text" st_law_text f fd) (hm : mg "_law_text" = some (.ref f)) (hb : Binds c.K fd ["_law_game_here"] []) (hblt : ∀ y ∈ bltNames, mg y = none)    : FP c P mg base (k + 1) "_law_text" f_law_text := by
  refine fp_mk F sc_law_text hm hb hblt (m := (sSeq (sSet (.many [1, 2, 3, 4]) (eV 0))
  (sSeq (sSet (.one 5) (o2 sAddX (kE (o2 sAddX (kE (o2 sAddX (kE (o1 sStr (kP 1))) (kE (o2 sIxA (kE (eLst (esCons (eC (.str " dice of ")) (esCons (eC (.str " die of ")) esNil)))) (kE (o1 sInt (kE (o2 sEq (kP 1) (kE (eC (.int 1))))))))))) (kE (o1 sStr (kP 2))))) (kE (eC (.str ", ")))))
  (sSeq (sSet (.one 5) (o2 sAddX (kE (o2 sAddX (kP 5) (kE (o1 sStr (kP 3))))) (kE (o2 sIxA (kE (eLst (esCons (eC (.str " throws")) (esCons (eC (.str " throw")) esNil)))) (kE (o1 sInt (kE (o2 sEq (kP 3) (kE (eC (.int 1)))))))))))
  (sRet (eM mJoin (kE (eC (.str "; "))) (esCons (o2 sAddX (kE (eLst (esCons (eV 5) esNil))) (kE (eComp (iSeqA (eV 4)) (.one 6) eTrue (eM mJoin (kE (eC (.str " "))) (esCons (eComp (iSeqA (eV 6)) (.one 7) eTrue (o1 sStr (kP 7)) [7]) esNil)) [6]))) esNil))))))) fun cdv A outer s H E C hr => ?_
  exact (cb_cons (cs_setT (cg_tup C (gNs C 1 (gNs C 2 (gNs C 3 (gNs C 4 cgs_nil))))) (nV 0))
  (cb_cons (sN C 5 (ce_bin (op_addX C) (ce_bin (op_addX C) (ce_bin (op_addX C) (ce_t1 C op_strV (by rfl) (by decide) (by decide +kernel) (nP 1)).ck (ce_ix (ix_A C) (cf_lst (ca_cons ce_str (ca_cons ce_str ca_nil))).ce.ck (ce_t1 C op_intV (by rfl) (by decide) (by decide +kernel) (ce_cmp (op_eqV C) (nP 1) ce_int.ck (by rfl)).ck).ck (fun _ _ => rfl)).ck).ck (ce_t1 C op_strV (by rfl) (by decide) (by decide +kernel) (nP 2)).ck).ck ce_str.ck))
  (cb_cons (sN C 5 (ce_bin (op_addX C) (ce_bin (op_addX C) (nP 5) (ce_t1 C op_strV (by rfl) (by decide) (by decide +kernel) (nP 3)).ck).ck (ce_ix (ix_A C) (cf_lst (ca_cons ce_str (ca_cons ce_str ca_nil))).ce.ck (ce_t1 C op_intV (by rfl) (by decide) (by decide +kernel) (ce_cmp (op_eqV C) (nP 3) ce_int.ck (by rfl)).ck).ck (fun _ _ => rfl)).ck))
  (cb_one (cs_ret (ce_join C ce_str.ck (ce_bin (op_addX C) (cf_lst (ca_cons (nV 5) ca_nil)).ce.ck (cf_comp C (ci_seqA C (nV 4)) (blkOk_by (N := N_law_text) (sc := (defScope st_law_text)) (scope := scE (atSE st_law_text [3] 0 [1, 1])) (own := [("_law_box_here", 6)]) (by decide +kernel)) (by decide) (fun s1 H1 K1 cl1 fp1 => (gN (C.inn s1 H1 (scE (atSE st_law_text [3] 0 [1, 1])) K1 cl1 fp1) 6)) (fun s1 H1 K1 cl1 fp1 => pts_true) (fun s1 H1 K1 cl1 fp1 => (ce_join (C.inn s1 H1 (scE (atSE st_law_text [3] 0 [1, 1])) K1 cl1 fp1) ce_str.ck (cf_comp (C.inn s1 H1 (scE (atSE st_law_text [3] 0 [1, 1])) K1 cl1 fp1) (ci_seqA (C.inn s1 H1 (scE (atSE st_law_text [3] 0 [1, 1])) K1 cl1 fp1) (nV 6)) (blkOk_by (N := N_law_text) (sc := (relS (scE (atSE st_law_text [3] 0 [1, 1])) (defScope st_law_text))) (scope := scE (atSE st_law_text [3] 0 [1, 1, 0, 1])) (own := [("_law_part", 7)]) (by decide +kernel)) (by decide) (fun s2 H2 K2 cl2 fp2 => (gN ((C.inn s1 H1 (scE (atSE st_law_text [3] 0 [1, 1])) K1 cl1 fp1).inn s2 H2 (scE (atSE st_law_text [3] 0 [1, 1, 0, 1])) K2 cl2 fp2) 7)) (fun s2 H2 K2 cl2 fp2 => pts_true) (fun s2 H2 K2 cl2 fp2 => (ce_t1 ((C.inn s1 H1 (scE (atSE st_law_text [3] 0 [1, 1])) K1 cl1 fp1).inn s2 H2 (scE (atSE st_law_text [3] 0 [1, 1, 0, 1])) K2 cl2 fp2) op_strV (by rfl) (by decide) (by decide +kernel) (nP 7)))).ce))).ce.ck)))))))
theorem sc_box_text : FnScope N_box_text ["box"] (defScope st_box_text) := ⟨rfl, rfl, rfl, by decide +kernel, rfl, by decide +kernel, by decide +kernel⟩
theorem fp_box_text {c : Ct} {P : Program} {mg : Str → Option Value} {base : Heap} {k : Nat} {f : Addr} {fd : FuncData} (F : Fun c.K "box_text" "box_text" st_box_text f fd) (hm : mg "box_text" = some (.ref f)) (hb : Binds c.K fd ["box"] []) (hblt : ∀ y ∈ bltNames, mg y = none)    : FP c P mg base (k + 1) "box_text" f_box_text := by
  refine fp_mk F sc_box_text hm hb hblt (m := (sRet (eM mJoin (kE (eC (.str " "))) (esCons (eComp (iSeqA (eV 0)) (.one 1) eTrue (o1 sStr (kP 1)) [1]) esNil)))) fun cdv A outer s H E C hr => ?_
  exact (cb_one (cs_ret (ce_join C ce_str.ck (cf_comp C (ci_seqA C (nV 0)) (blkOk_by (N := N_box_text) (sc := (defScope st_box_text)) (scope := scE (atSE st_box_text [0] 0 [1])) (own := [("part", 1)]) (by decide +kernel)) (by decide) (fun s1 H1 K1 cl1 fp1 => (gN (C.inn s1 H1 (scE (atSE st_box_text [0] 0 [1])) K1 cl1 fp1) 1)) (fun s1 H1 K1 cl1 fp1 => pts_true) (fun s1 H1 K1 cl1 fp1 => (ce_t1 (C.inn s1 H1 (scE (atSE st_box_text [0] 0 [1])) K1 cl1 fp1) op_strV (by rfl) (by decide) (by decide +kernel) (nP 1)))).ce)))
theorem sc_of_many : FnScope N_of_many ["number", "one", "more"] (defScope st_of_many) := ⟨rfl, rfl, rfl, by decide +kernel, rfl, by decide +kernel, by decide +kernel⟩
theorem fp_of_many {c : Ct} {P : Program} {mg : Str → Option Value} {base : Heap} {k : Nat} {f : Addr} {fd : FuncData} (F : Fun c.K "of_many" "of_many" st_of_many f fd) (hm : mg "of_many" = some (.ref f)) (hb : Binds c.K fd ["number", "one", "more"] []) (hblt : ∀ y ∈ bltNames, mg y = none)    : FP c P mg base (k + 1) "of_many" f_of_many := by
  refine fp_mk F sc_of_many hm hb hblt (m := (sSeq (sIf (o2 sEq (kP 0) (kE (eC (.int 1)))) (sRet (o2 sAddX (kE (o2 sAddX (kE (o1 sStr (kP 0))) (kE (eC (.str " "))))) (kP 1))) sNil)
  (sRet (o2 sAddX (kE (o2 sAddX (kE (o1 sStr (kP 0))) (kE (eC (.str " "))))) (kP 2))))) fun cdv A outer s H E C hr => ?_
  exact (cb_cons (cs_if (ct_cmp (op_eqV C) (nP 0) ce_int.ck (by rfl)) (cb_one (cs_ret (ce_bin (op_addX C) (ce_bin (op_addX C) (ce_t1 C op_strV (by rfl) (by decide) (by decide +kernel) (nP 0)).ck ce_str.ck).ck (nP 1)))) cb_nil)
  (cb_one (cs_ret (ce_bin (op_addX C) (ce_bin (op_addX C) (ce_t1 C op_strV (by rfl) (by decide) (by decide +kernel) (nP 0)).ck ce_str.ck).ck (nP 2)))))
theorem sc_written : FnScope N_written ["game"] (defScope st_written) := ⟨rfl, rfl, rfl, by decide +kernel, rfl, by decide +kernel, by decide +kernel⟩
theorem fp_written {c : Ct} {P : Program} {mg : Str → Option Value} {base : Heap} {k : Nat} {f : Addr} {fd : FuncData} (F : Fun c.K "written" "written" st_written f fd) (hm : mg "written" = some (.ref f)) (hb : Binds c.K fd ["game"] []) (hblt : ∀ y ∈ bltNames, mg y = none)   (F_box_text : FP c P mg base k "box_text" f_box_text) (F_of_many : FP c P mg base k "of_many" f_of_many) : FP c P mg base (k + 1) "written" f_written := by
  refine fp_mk F sc_written hm hb hblt (m := (sSeq (sSet (.many [1, 2, 3, 4]) (eV 0))
  (sSeq (sSet (.one 5) (o2 sAddX (kE (o2 sAddX (kE (o2 sAddX (kE (o2 sAddX (kE (eCall f_of_many (esCons (eV 1) (esCons (eC (.str "die")) (esCons (eC (.str "dice")) esNil))))) (kE (eC (.str " of "))))) (kE (o1 sStr (kP 2))))) (kE (eC (.str ", "))))) (kE (eCall f_of_many (esCons (eV 3) (esCons (eC (.str "throw")) (esCons (eC (.str "throws")) esNil)))))))
  (sRet (eM mJoin (kE (eC (.str "; "))) (esCons (o2 sAddX (kE (eLst (esCons (eV 5) esNil))) (kE (eComp (iSeqA (eV 4)) (.one 6) eTrue (eCall f_box_text (esCons (eV 6) esNil)) [6]))) esNil)))))) fun cdv A outer s H E C hr => ?_
  have hr_box_text := hr
  have hr_of_many := hr
  exact (cb_cons (cs_setT (cg_tup C (gNs C 1 (gNs C 2 (gNs C 3 (gNs C 4 cgs_nil))))) (nV 0))
  (cb_cons (sN C 5 (ce_bin (op_addX C) (ce_bin (op_addX C) (ce_bin (op_addX C) (ce_bin (op_addX C) (ce_call C F_of_many hr_of_many (by rfl) (ca_cons (nV 1) (ca_cons ce_str (ca_cons ce_str ca_nil)))).ck ce_str.ck).ck (ce_t1 C op_strV (by rfl) (by decide) (by decide +kernel) (nP 2)).ck).ck ce_str.ck).ck (ce_call C F_of_many hr_of_many (by rfl) (ca_cons (nV 3) (ca_cons ce_str (ca_cons ce_str ca_nil)))).ck))
  (cb_one (cs_ret (ce_join C ce_str.ck (ce_bin (op_addX C) (cf_lst (ca_cons (nV 5) ca_nil)).ce.ck (cf_comp C (ci_seqA C (nV 4)) (blkOk_by (N := N_written) (sc := (defScope st_written)) (scope := scE (atSE st_written [2] 0 [1, 1])) (own := [("box", 6)]) (by decide +kernel)) (by decide) (fun s1 H1 K1 cl1 fp1 => (gN (C.inn s1 H1 (scE (atSE st_written [2] 0 [1, 1])) K1 cl1 fp1) 6)) (fun s1 H1 K1 cl1 fp1 => pts_true) (fun s1 H1 K1 cl1 fp1 => (ce_call (C.inn s1 H1 (scE (atSE st_written [2] 0 [1, 1])) K1 cl1 fp1) F_box_text hr_box_text (by rfl) (ca_cons (nV 6) ca_nil)))).ce.ck))))))
theorem sc_law : FnScope N_law ["_law_script"] (defScope st_law) := ⟨rfl, rfl, rfl, by decide +kernel, rfl, by decide +kernel, by decide +kernel⟩
theorem fn_law {c : Ct} {P : Program} {mg : Str → Option Value} {base : Heap} {k : Nat} {f : Addr} {fd : FuncData} (F : Fun c.K "law" "law" st_law f fd) (hblt : ∀ y ∈ bltNames, mg y = none)   (F_law_game : FP c P mg base k "_law_game" f_law_game) (F_law_mixed : FP c P mg base k "_law_mixed" f_law_mixed) (F_law_text : FP c P mg base k "_law_text" f_law_text) (F_written : FP c P mg base k "written" f_written) : FnOk P c.w c.K mg base CX0 (k + 1) f fd ["_law_script"] (spP c 1 f_law) := by
  refine fn_mk F sc_law hblt (m := (sSeq (sSet (.one 1) (eCall f_law_game (esCons (eCall f_law_mixed (esCons (eV 0) (esCons (eC (.int 0)) esNil))) (esCons (eC (.int 1)) esNil))))
  (sRet (o2 sEq (kE (eCall f_written (esCons (eV 1) esNil))) (kE (eCall f_law_text (esCons (eV 1) esNil))))))) fun cdv A outer s H E C hr => ?_
  have hr_law_game := hr
  have hr_law_mixed := hr
  have hr_law_text := hr
  have hr_written := hr
  exact (cb_cons (sN C 1 (ce_call C F_law_game hr_law_game (by rfl) (ca_cons (ce_call C F_law_mixed hr_law_mixed (by rfl) (ca_cons (nV 0) (ca_cons ce_int ca_nil))) (ca_cons ce_int ca_nil))))
  (cb_one (cs_ret (ce_cmp (op_eqV C) (ce_call C F_written hr_written (by rfl) (ca_cons (nV 1) ca_nil)).ck (ce_call C F_law_text hr_law_text (by rfl) (ca_cons (nV 1) ca_nil)).ck (by rfl)))))
theorem all_mk {P : Program} {w : World} {K : PySem.W.Frag} {h : Heap} {mg : Str → Option Value} {fa : Addr} (X : K.In h) (G : h.Ns mainGlobals mg) (hfa : mg "law" = some (.ref fa))
    {f0 : Addr} {od0 an0 : Option Addr} {sl0 : Array (Option Value)} {oc0 kV0 dc0 pm0 cd0 ct0 : Value}
    {f1 : Addr} {od1 an1 : Option Addr} {sl1 : Array (Option Value)} {oc1 kV1 dc1 pm1 cd1 ct1 : Value}
    {f2 : Addr} {od2 an2 : Option Addr} {sl2 : Array (Option Value)} {oc2 kV2 dc2 pm2 cd2 ct2 : Value}
    {f3 : Addr} {od3 an3 : Option Addr} {sl3 : Array (Option Value)} {oc3 kV3 dc3 pm3 cd3 ct3 : Value}
    {f4 : Addr} {od4 an4 : Option Addr} {sl4 : Array (Option Value)} {oc4 kV4 dc4 pm4 cd4 ct4 : Value}
    {f5 : Addr} {od5 an5 : Option Addr} {sl5 : Array (Option Value)} {oc5 kV5 dc5 pm5 cd5 ct5 : Value}
    {f6 : Addr} {od6 an6 : Option Addr} {sl6 : Array (Option Value)} {oc6 kV6 dc6 pm6 cd6 ct6 : Value}
    {f7 : Addr} {od7 an7 : Option Addr} {sl7 : Array (Option Value)} {oc7 kV7 dc7 pm7 cd7 ct7 : Value}
    {f8 : Addr} {od8 an8 : Option Addr} {sl8 : Array (Option Value)} {oc8 kV8 dc8 pm8 cd8 ct8 : Value}
    {f9 : Addr} {od9 an9 : Option Addr} {sl9 : Array (Option Value)} {oc9 kV9 dc9 pm9 cd9 ct9 : Value}
    (a0 : PySem.W.nsIn K mainGlobals "_law_box" = some (some (.ref f0)))
    (l0 : K.lookup f0 = some ⟨oc0, od0, .func (PySem.W.fnOf "_law_box" "_law_box" (defArgs st_law_box) (defBody st_law_box) (defScope st_law_box) .none kV0 dc0 pm0 an0 cd0 ct0), sl0⟩) (c0 : PySem.W.codeIn K cd0 "_law_box" = true) (k0 : PySem.W.keepIn K (.ref f0) = true)
    (a1 : PySem.W.nsIn K mainGlobals "_law_drawn" = some (some (.ref f1)))
    (l1 : K.lookup f1 = some ⟨oc1, od1, .func (PySem.W.fnOf "_law_drawn" "_law_drawn" (defArgs st_law_drawn) (defBody st_law_drawn) (defScope st_law_drawn) .none kV1 dc1 pm1 an1 cd1 ct1), sl1⟩) (c1 : PySem.W.codeIn K cd1 "_law_drawn" = true) (k1 : PySem.W.keepIn K (.ref f1) = true)
    (a2 : PySem.W.nsIn K mainGlobals "_law_game" = some (some (.ref f2)))
    (l2 : K.lookup f2 = some ⟨oc2, od2, .func (PySem.W.fnOf "_law_game" "_law_game" (defArgs st_law_game) (defBody st_law_game) (defScope st_law_game) .none kV2 dc2 pm2 an2 cd2 ct2), sl2⟩) (c2 : PySem.W.codeIn K cd2 "_law_game" = true) (k2 : PySem.W.keepIn K (.ref f2) = true)
    (a3 : PySem.W.nsIn K mainGlobals "_law_cell_at" = some (some (.ref f3)))
    (l3 : K.lookup f3 = some ⟨oc3, od3, .func (PySem.W.fnOf "_law_cell_at" "_law_cell_at" (defArgs st_law_cell_at) (defBody st_law_cell_at) (defScope st_law_cell_at) .none kV3 dc3 pm3 an3 cd3 ct3), sl3⟩) (c3 : PySem.W.codeIn K cd3 "_law_cell_at" = true) (k3 : PySem.W.keepIn K (.ref f3) = true)
    (a4 : PySem.W.nsIn K mainGlobals "_law_mixed" = some (some (.ref f4)))
    (l4 : K.lookup f4 = some ⟨oc4, od4, .func (PySem.W.fnOf "_law_mixed" "_law_mixed" (defArgs st_law_mixed) (defBody st_law_mixed) (defScope st_law_mixed) .none kV4 dc4 pm4 an4 cd4 ct4), sl4⟩) (c4 : PySem.W.codeIn K cd4 "_law_mixed" = true) (k4 : PySem.W.keepIn K (.ref f4) = true)
    (a5 : PySem.W.nsIn K mainGlobals "_law_text" = some (some (.ref f5)))
    (l5 : K.lookup f5 = some ⟨oc5, od5, .func (PySem.W.fnOf "_law_text" "_law_text" (defArgs st_law_text) (defBody st_law_text) (defScope st_law_text) .none kV5 dc5 pm5 an5 cd5 ct5), sl5⟩) (c5 : PySem.W.codeIn K cd5 "_law_text" = true) (k5 : PySem.W.keepIn K (.ref f5) = true)
    (a6 : PySem.W.nsIn K mainGlobals "box_text" = some (some (.ref f6)))
    (l6 : K.lookup f6 = some ⟨oc6, od6, .func (PySem.W.fnOf "box_text" "box_text" (defArgs st_box_text) (defBody st_box_text) (defScope st_box_text) .none kV6 dc6 pm6 an6 cd6 ct6), sl6⟩) (c6 : PySem.W.codeIn K cd6 "box_text" = true) (k6 : PySem.W.keepIn K (.ref f6) = true)
    (a7 : PySem.W.nsIn K mainGlobals "of_many" = some (some (.ref f7)))
    (l7 : K.lookup f7 = some ⟨oc7, od7, .func (PySem.W.fnOf "of_many" "of_many" (defArgs st_of_many) (defBody st_of_many) (defScope st_of_many) .none kV7 dc7 pm7 an7 cd7 ct7), sl7⟩) (c7 : PySem.W.codeIn K cd7 "of_many" = true) (k7 : PySem.W.keepIn K (.ref f7) = true)
    (a8 : PySem.W.nsIn K mainGlobals "written" = some (some (.ref f8)))
    (l8 : K.lookup f8 = some ⟨oc8, od8, .func (PySem.W.fnOf "written" "written" (defArgs st_written) (defBody st_written) (defScope st_written) .none kV8 dc8 pm8 an8 cd8 ct8), sl8⟩) (c8 : PySem.W.codeIn K cd8 "written" = true) (k8 : PySem.W.keepIn K (.ref f8) = true)
    (a9 : PySem.W.nsIn K mainGlobals "law" = some (some (.ref f9)))
    (l9 : K.lookup f9 = some ⟨oc9, od9, .func (PySem.W.fnOf "law" "law" (defArgs st_law) (defBody st_law) (defScope st_law) .none kV9 dc9 pm9 an9 cd9 ct9), sl9⟩) (c9 : PySem.W.codeIn K cd9 "law" = true) (k9 : PySem.W.keepIn K (.ref f9) = true)
    (z0 : PySem.W.nsIn K mainGlobals "len" = some none)
    (z1 : PySem.W.nsIn K mainGlobals "sum" = some none)
    (z2 : PySem.W.nsIn K mainGlobals "any" = some none)
    (z3 : PySem.W.nsIn K mainGlobals "all" = some none)
    (z4 : PySem.W.nsIn K mainGlobals "max" = some none)
    (z5 : PySem.W.nsIn K mainGlobals "min" = some none)
    (z6 : PySem.W.nsIn K mainGlobals "abs" = some none)
    (z7 : PySem.W.nsIn K mainGlobals "int" = some none)
    (z8 : PySem.W.nsIn K mainGlobals "str" = some none)
    (z9 : PySem.W.nsIn K mainGlobals "tuple" = some none)
    (z10 : PySem.W.nsIn K mainGlobals "list" = some none)
    (z11 : PySem.W.nsIn K mainGlobals "sorted" = some none)
    (z12 : PySem.W.nsIn K mainGlobals "isinstance" = some none)
    (z13 : PySem.W.nsIn K mainGlobals "range" = some none)
    (z14 : PySem.W.nsIn K mainGlobals "zip" = some none)
    (z15 : PySem.W.nsIn K mainGlobals "enumerate" = some none)
    (z16 : PySem.W.nsIn K mainGlobals "dict" = some none)
    (z17 : PySem.W.nsIn K mainGlobals "set" = some none)
    (z18 : PySem.W.nsIn K mainGlobals "repr" = some none)
    (z19 : PySem.W.nsIn K mainGlobals "bool" = some none)
    (plain : ∀ ns : List Int, ns.length ≤ 63 → f_law [.list (ns.map .int)] = some (.bool true)) :
    ∃ fd : FuncData, (∀ (s : Shared) (v : Value), BindsTo s fd ⟨[v], []⟩ [("_law_script", v)]) ∧ ∀ base : Heap, K.In base → base.Ns mainGlobals mg → FnOk P w K mg base CX0 3 fa fd ["_law_script"] (spLaw ⟨K, w, fun _ => none, fun _ => 0⟩) := by
  have hblt : ∀ y ∈ bltNames, mg y = none := by
    intro y hy
    simp only [bltNames, List.mem_cons, List.not_mem_nil, or_false] at hy
    rcases hy with rfl | rfl | rfl | rfl | rfl | rfl | rfl | rfl | rfl | rfl | rfl | rfl | rfl | rfl | rfl | rfl | rfl | rfl | rfl | rfl
    · exact PySem.W.mg_none_of X G z0
    · exact PySem.W.mg_none_of X G z1
    · exact PySem.W.mg_none_of X G z2
    · exact PySem.W.mg_none_of X G z3
    · exact PySem.W.mg_none_of X G z4
    · exact PySem.W.mg_none_of X G z5
    · exact PySem.W.mg_none_of X G z6
    · exact PySem.W.mg_none_of X G z7
    · exact PySem.W.mg_none_of X G z8
    · exact PySem.W.mg_none_of X G z9
    · exact PySem.W.mg_none_of X G z10
    · exact PySem.W.mg_none_of X G z11
    · exact PySem.W.mg_none_of X G z12
    · exact PySem.W.mg_none_of X G z13
    · exact PySem.W.mg_none_of X G z14
    · exact PySem.W.mg_none_of X G z15
    · exact PySem.W.mg_none_of X G z16
    · exact PySem.W.mg_none_of X G z17
    · exact PySem.W.mg_none_of X G z18
    · exact PySem.W.mg_none_of X G z19
  have e := hfa.symm.trans (PySem.W.mg_of X G a9)
  cases e
  have F0 := fun_mk (st := st_law_box) l0 c0 k0
  have b0 := F0.binds (ps := ["_law_number"]) fun _ _ _ _ _ _ us hl => match us, hl with | [_], _ => rfl
  have F1 := fun_mk (st := st_law_drawn) l1 c1 k1
  have b1 := F1.binds (ps := ["_law_number", "_law_k"]) fun _ _ _ _ _ _ us hl => match us, hl with | [_, _], _ => rfl
  have F2 := fun_mk (st := st_law_game) l2 c2 k2
  have b2 := F2.binds (ps := ["_law_number", "_law_great"]) fun _ _ _ _ _ _ us hl => match us, hl with | [_, _], _ => rfl
  have F3 := fun_mk (st := st_law_cell_at) l3 c3 k3
  have b3 := F3.binds (ps := ["_law_script", "_law_k"]) fun _ _ _ _ _ _ us hl => match us, hl with | [_, _], _ => rfl
  have F4 := fun_mk (st := st_law_mixed) l4 c4 k4
  have b4 := F4.binds (ps := ["_law_script", "_law_k"]) fun _ _ _ _ _ _ us hl => match us, hl with | [_, _], _ => rfl
  have F5 := fun_mk (st := st_law_text) l5 c5 k5
  have b5 := F5.binds (ps := ["_law_game_here"]) fun _ _ _ _ _ _ us hl => match us, hl with | [_], _ => rfl
  have F6 := fun_mk (st := st_box_text) l6 c6 k6
  have b6 := F6.binds (ps := ["box"]) fun _ _ _ _ _ _ us hl => match us, hl with | [_], _ => rfl
  have F7 := fun_mk (st := st_of_many) l7 c7 k7
  have b7 := F7.binds (ps := ["number", "one", "more"]) fun _ _ _ _ _ _ us hl => match us, hl with | [_, _, _], _ => rfl
  have F8 := fun_mk (st := st_written) l8 c8 k8
  have b8 := F8.binds (ps := ["game"]) fun _ _ _ _ _ _ us hl => match us, hl with | [_], _ => rfl
  have F9 := fun_mk (st := st_law) l9 c9 k9
  have b9 := F9.binds (ps := ["_law_script"]) fun _ _ _ _ _ _ us hl => match us, hl with | [_], _ => rfl
  refine ⟨PySem.W.fnOf "law" "law" (defArgs st_law) (defBody st_law) (defScope st_law) .none kV9 dc9 pm9 an9 cd9 ct9, fun s v => .of_eq rfl, fun base _ _ => ?_⟩
  have Q0 : FP ⟨K, w, fun _ => none, fun _ => 0⟩ P mg base 1 "_law_box" f_law_box := fp_law_box (c := ⟨K, w, fun _ => none, fun _ => 0⟩) (k := 0) F0 (PySem.W.mg_of X G a0) b0 hblt 
  have Q1 : FP ⟨K, w, fun _ => none, fun _ => 0⟩ P mg base 1 "_law_drawn" f_law_drawn := fp_law_drawn (c := ⟨K, w, fun _ => none, fun _ => 0⟩) (k := 0) F1 (PySem.W.mg_of X G a1) b1 hblt 
  have Q2 : FP ⟨K, w, fun _ => none, fun _ => 0⟩ P mg base 2 "_law_game" f_law_game := fp_law_game (c := ⟨K, w, fun _ => none, fun _ => 0⟩) (k := 1) F2 (PySem.W.mg_of X G a2) b2 hblt (Q0.mono (by decide)) (Q1.mono (by decide))
  have Q3 : FP ⟨K, w, fun _ => none, fun _ => 0⟩ P mg base 1 "_law_cell_at" f_law_cell_at := fp_law_cell_at (c := ⟨K, w, fun _ => none, fun _ => 0⟩) (k := 0) F3 (PySem.W.mg_of X G a3) b3 hblt 
  have Q4 : FP ⟨K, w, fun _ => none, fun _ => 0⟩ P mg base 2 "_law_mixed" f_law_mixed := fp_law_mixed (c := ⟨K, w, fun _ => none, fun _ => 0⟩) (k := 1) F4 (PySem.W.mg_of X G a4) b4 hblt (Q3.mono (by decide))
  have Q5 : FP ⟨K, w, fun _ => none, fun _ => 0⟩ P mg base 1 "_law_text" f_law_text := fp_law_text (c := ⟨K, w, fun _ => none, fun _ => 0⟩) (k := 0) F5 (PySem.W.mg_of X G a5) b5 hblt 
  have Q6 : FP ⟨K, w, fun _ => none, fun _ => 0⟩ P mg base 1 "box_text" f_box_text := fp_box_text (c := ⟨K, w, fun _ => none, fun _ => 0⟩) (k := 0) F6 (PySem.W.mg_of X G a6) b6 hblt 
  have Q7 : FP ⟨K, w, fun _ => none, fun _ => 0⟩ P mg base 1 "of_many" f_of_many := fp_of_many (c := ⟨K, w, fun _ => none, fun _ => 0⟩) (k := 0) F7 (PySem.W.mg_of X G a7) b7 hblt 
  have Q8 : FP ⟨K, w, fun _ => none, fun _ => 0⟩ P mg base 2 "written" f_written := fp_written (c := ⟨K, w, fun _ => none, fun _ => 0⟩) (k := 1) F8 (PySem.W.mg_of X G a8) b8 hblt (Q6.mono (by decide)) (Q7.mono (by decide))
  exact law_of (c := ⟨K, w, fun _ => none, fun _ => 0⟩) (fn_law (c := ⟨K, w, fun _ => none, fun _ => 0⟩) (k := 2) F9 hblt (Q2.mono (by decide)) (Q4.mono (by decide)) (Q5.mono (by decide)) (Q8.mono (by decide))) plain
theorem walk {l : PySem.W.OpenLaw} {q : Program} {loose : List Str} {XP : (Str → Option Value) → Heap → Prop} {YP : World → Heap → Prop} {d : DefRec} {K : Params → PySem.W.Frag} (hn : l.most = some 63) (hdf : d.params.defaults = [])
    (hY : ∀ (w : World) (h : Heap), YP w h → (K w.params).In h)
    (F : ∀ (w : World) (mg : Str → Option Value) (fa : Addr) (h : Heap), (K w.params).In h → h.Ns mainGlobals mg → mg d.name = some (.ref fa) →
      ∃ fd : FuncData, (∀ (s : Shared) (u : Value), BindsTo s fd ⟨[u], []⟩ [("_law_script", u)]) ∧ ∀ base : Heap, (K w.params).In base → base.Ns mainGlobals mg → FnOk l.prog w (K w.params) mg base CX0 3 fa fd ["_law_script"] (spLaw ⟨K w.params, w, fun _ => none, fun _ => 0⟩)) :
    PySem.W.WalkO q loose XP YP l.row.toRowW d [] (fun f vs => PySem.call f vs) :=
  L2.walk_of (n := 63) (k := 3) (x := "_law_script") (CX := fun _ => CX0) (sp := fun w => spLaw ⟨K w.params, w, fun _ => none, fun _ => 0⟩) hn (by decide) hdf ⟨rfl, by decide, by decide⟩ hY F (fun _ _ a ns hl _ hS => ⟨a, ns, rfl, hS, hl, fun _ => rfl⟩) fun _ _ _ _ _ z => z
end VL
set_option Elab.async false
set_option linter.all false
set_option maxRecDepth 1000000
set_option maxHeartbeats 0
namespace VL
open PySem
/-! the drawn numbers -/
def drawnH (n k : Int) : Int := (n + 104729 * k + 17) * 69621 % 2147483647
def drawnV (n k : Int) : Int := (drawnH n k * drawnH n k + 3 * drawnH n k + k) % 2147483629
theorem f_drawn (n k : Int) : f_law_drawn [.int n, .int k] = some (.int (drawnV n k)) := by
  simp only [f_law_drawn, m_law_drawn, m_law_drawn_t0, m_law_drawn_t1, m_law_drawn_s0, ap_c, ap_t, ap_v, vK_val, vK_lst, vK_dic, ap_peek, pkK_val, pkK_lst, pkK_dic, ap_o1E, ap_o1P, ap_o2EE, ap_o2EP, ap_o2PE, ap_o2PP, ap_o3E, ap_o3P, ap_esNil, ap_esCons, ap_tup, ap_lst, tupK, lstK, ap_and, ap_or, andK_t, andK_f, andK_b, orK_t, orK_f, orK_b, ap_call, ap_mP, ap_mE, ap_iSeq, ap_iSeqA, kOfL, kOfT, kOfD, ap_dnil, ap_iR1, ap_iR2, r1_eq, r2_eq, ap_tgo1, ap_tgoM, setAll0, setAllC, eComp_eq, ap_turnT, ap_turnO, tuK_t, tuK_f, tuK_b, ap_seq, seqK_nx, seqK_rt, seqK_ct, seqK_bk, seqK_no, seqK_if, ap_nil, ap_cnt, ap_brk, ap_set, ap_own, ownK_l, ownK_d, ap_ret, ap_if, ifK_t, ifK_f, ifK_b, ap_for, forL_nil, forL_cons, forK_nx, forK_ct, forK_bk, forK_rt, forK_if, ap_par, run_eq, runK_rt, runK_nx, runK_if, v_add, v_sub, v_neg, v_mod, v_div, v_mulR, v_mulL, v_mulB, v_addT, v_addL, v_catL, v_lt, v_le, v_gt, v_ge, v_eqI, v_neI, v_eqS, v_neS, v_lenT, v_lenL, v_intB, v_intI, v_not, v_min, v_max, v_abs, v_tupL, v_tupT, v_ixT, v_ixL, ix0, ix1, ix2, ix3, seqT, seqL, v_sumT, v_sumL, v_any, v_all, v_inT, v_inL, v_ninT, v_ninL, v_countT, mapMO_all, mapMO_some, mapMO_map, mapMO_range, v_sortedL, v_sortedT, v_cT, v_cTl, v_cTh, v_cL, v_cLl, v_cLh, v_eqNil, v_neNil, ix4, sel4_int, v_repT, v_isiI, v_isiS, v_isiB, v_isiN, ib_int, eq_dec, rl1, rl2, rl3, rl4, Bool.not_true, Bool.not_false, List.length_map, cutL_map, mkF, List.length_cons, List.length_nil, List.map_cons, List.map_nil, List.append_eq, List.cons_append, List.nil_append, List.getElem?_cons_zero, List.getElem?_cons_succ, List.set_cons_zero, List.set_cons_succ, Option.bind_some, Option.map_some, Option.bind_none, Option.map_none, Nat.zero_add, Nat.reduceAdd, Nat.reduceSub, Nat.reduceLeDiff, Nat.reduceLT, Nat.reduceEqDiff, Nat.reduceMul, LIM_eq, List.replicate_succ, List.replicate_zero, if_true, if_false, Bool.false_eq_true, Bool.true_eq_false, decide_true, decide_false, okS, noOwn, covers, tgIs, wipeO, List.all_cons, List.all_nil, List.any_cons, List.any_nil, Bool.and_true, Bool.true_and, Bool.and_self, Bool.or_false, Bool.false_or, Bool.or_true, beq_self_nat, kd, Int.reduceLT, Int.reduceLE, Int.reduceNeg, Int.reduceAdd, Int.reduceToNat, Int.reduceMul, Int.reduceSub, and_true, true_and, and_self, ite_true, ite_false, ↓reduceIte, mod_lo, mod_hi]
  rfl
def cellV (l : List Int) (k : Nat) : Int := l.getD k 0
theorem f_cell (l : List Int) (k : Nat) : f_law_cell_at [.list (l.map .int), .int k] = some (.int (cellV l k)) := by
  by_cases h : k < l.length
  · have e : decide ((k : Int) < (l.length : Int)) = true := decide_eq_true (by omega)
    simp only [f_law_cell_at, m_law_cell_at, m_law_cell_at_t0, m_law_cell_at_t1, m_law_cell_at_s0, ap_c, ap_t, ap_v, vK_val, vK_lst, vK_dic, ap_peek, pkK_val, pkK_lst, pkK_dic, ap_o1E, ap_o1P, ap_o2EE, ap_o2EP, ap_o2PE, ap_o2PP, ap_o3E, ap_o3P, ap_esNil, ap_esCons, ap_tup, ap_lst, tupK, lstK, ap_and, ap_or, andK_t, andK_f, andK_b, orK_t, orK_f, orK_b, ap_call, ap_mP, ap_mE, ap_iSeq, ap_iSeqA, kOfL, kOfT, kOfD, ap_dnil, ap_iR1, ap_iR2, r1_eq, r2_eq, ap_tgo1, ap_tgoM, setAll0, setAllC, eComp_eq, ap_turnT, ap_turnO, tuK_t, tuK_f, tuK_b, ap_seq, seqK_nx, seqK_rt, seqK_ct, seqK_bk, seqK_no, seqK_if, ap_nil, ap_cnt, ap_brk, ap_set, ap_own, ownK_l, ownK_d, ap_ret, ap_if, ifK_t, ifK_f, ifK_b, ap_for, forL_nil, forL_cons, forK_nx, forK_ct, forK_bk, forK_rt, forK_if, ap_par, run_eq, runK_rt, runK_nx, runK_if, v_add, v_sub, v_neg, v_mod, v_div, v_mulR, v_mulL, v_mulB, v_addT, v_addL, v_catL, v_lt, v_le, v_gt, v_ge, v_eqI, v_neI, v_eqS, v_neS, v_lenT, v_lenL, v_intB, v_intI, v_not, v_min, v_max, v_abs, v_tupL, v_tupT, v_ixT, v_ixL, ix0, ix1, ix2, ix3, seqT, seqL, v_sumT, v_sumL, v_any, v_all, v_inT, v_inL, v_ninT, v_ninL, v_countT, mapMO_all, mapMO_some, mapMO_map, mapMO_range, v_sortedL, v_sortedT, v_cT, v_cTl, v_cTh, v_cL, v_cLl, v_cLh, v_eqNil, v_neNil, ix4, sel4_int, v_repT, v_isiI, v_isiS, v_isiB, v_isiN, ib_int, eq_dec, rl1, rl2, rl3, rl4, Bool.not_true, Bool.not_false, List.length_map, cutL_map, mkF, List.length_cons, List.length_nil, List.map_cons, List.map_nil, List.append_eq, List.cons_append, List.nil_append, List.getElem?_cons_zero, List.getElem?_cons_succ, List.set_cons_zero, List.set_cons_succ, Option.bind_some, Option.map_some, Option.bind_none, Option.map_none, Nat.zero_add, Nat.reduceAdd, Nat.reduceSub, Nat.reduceLeDiff, Nat.reduceLT, Nat.reduceEqDiff, Nat.reduceMul, LIM_eq, List.replicate_succ, List.replicate_zero, if_true, if_false, Bool.false_eq_true, Bool.true_eq_false, decide_true, decide_false, okS, noOwn, covers, tgIs, wipeO, List.all_cons, List.all_nil, List.any_cons, List.any_nil, Bool.and_true, Bool.true_and, Bool.and_self, Bool.or_false, Bool.false_or, Bool.or_true, beq_self_nat, kd, Int.reduceLT, Int.reduceLE, Int.reduceNeg, Int.reduceAdd, Int.reduceToNat, Int.reduceMul, Int.reduceSub, and_true, true_and, and_self, ite_true, ite_false, ↓reduceIte, List.length_map, e, ixOf_map l k h]
    rfl
  · have e : decide ((k : Int) < (l.length : Int)) = false := decide_eq_false (by omega)
    have e2 : cellV l k = 0 := by
      unfold cellV
      simp [h]
    simp only [f_law_cell_at, m_law_cell_at, m_law_cell_at_t0, m_law_cell_at_t1, m_law_cell_at_s0, ap_c, ap_t, ap_v, vK_val, vK_lst, vK_dic, ap_peek, pkK_val, pkK_lst, pkK_dic, ap_o1E, ap_o1P, ap_o2EE, ap_o2EP, ap_o2PE, ap_o2PP, ap_o3E, ap_o3P, ap_esNil, ap_esCons, ap_tup, ap_lst, tupK, lstK, ap_and, ap_or, andK_t, andK_f, andK_b, orK_t, orK_f, orK_b, ap_call, ap_mP, ap_mE, ap_iSeq, ap_iSeqA, kOfL, kOfT, kOfD, ap_dnil, ap_iR1, ap_iR2, r1_eq, r2_eq, ap_tgo1, ap_tgoM, setAll0, setAllC, eComp_eq, ap_turnT, ap_turnO, tuK_t, tuK_f, tuK_b, ap_seq, seqK_nx, seqK_rt, seqK_ct, seqK_bk, seqK_no, seqK_if, ap_nil, ap_cnt, ap_brk, ap_set, ap_own, ownK_l, ownK_d, ap_ret, ap_if, ifK_t, ifK_f, ifK_b, ap_for, forL_nil, forL_cons, forK_nx, forK_ct, forK_bk, forK_rt, forK_if, ap_par, run_eq, runK_rt, runK_nx, runK_if, v_add, v_sub, v_neg, v_mod, v_div, v_mulR, v_mulL, v_mulB, v_addT, v_addL, v_catL, v_lt, v_le, v_gt, v_ge, v_eqI, v_neI, v_eqS, v_neS, v_lenT, v_lenL, v_intB, v_intI, v_not, v_min, v_max, v_abs, v_tupL, v_tupT, v_ixT, v_ixL, ix0, ix1, ix2, ix3, seqT, seqL, v_sumT, v_sumL, v_any, v_all, v_inT, v_inL, v_ninT, v_ninL, v_countT, mapMO_all, mapMO_some, mapMO_map, mapMO_range, v_sortedL, v_sortedT, v_cT, v_cTl, v_cTh, v_cL, v_cLl, v_cLh, v_eqNil, v_neNil, ix4, sel4_int, v_repT, v_isiI, v_isiS, v_isiB, v_isiN, ib_int, eq_dec, rl1, rl2, rl3, rl4, Bool.not_true, Bool.not_false, List.length_map, cutL_map, mkF, List.length_cons, List.length_nil, List.map_cons, List.map_nil, List.append_eq, List.cons_append, List.nil_append, List.getElem?_cons_zero, List.getElem?_cons_succ, List.set_cons_zero, List.set_cons_succ, Option.bind_some, Option.map_some, Option.bind_none, Option.map_none, Nat.zero_add, Nat.reduceAdd, Nat.reduceSub, Nat.reduceLeDiff, Nat.reduceLT, Nat.reduceEqDiff, Nat.reduceMul, LIM_eq, List.replicate_succ, List.replicate_zero, if_true, if_false, Bool.false_eq_true, Bool.true_eq_false, decide_true, decide_false, okS, noOwn, covers, tgIs, wipeO, List.all_cons, List.all_nil, List.any_cons, List.any_nil, Bool.and_true, Bool.true_and, Bool.and_self, Bool.or_false, Bool.false_or, Bool.or_true, beq_self_nat, kd, Int.reduceLT, Int.reduceLE, Int.reduceNeg, Int.reduceAdd, Int.reduceToNat, Int.reduceMul, Int.reduceSub, and_true, true_and, and_self, ite_true, ite_false, ↓reduceIte, List.length_map, e, e2]
def mixedH (l : List Int) (k : Nat) : Int := (cellV l k + 7919 * (k : Int) + 1) * 48271 % 2147483647
def mixedV (l : List Int) (k : Nat) : Int := (mixedH l k * mixedH l k + 7 * mixedH l k + (k : Int)) % 2147483629
theorem f_mixed (l : List Int) (k : Nat) : f_law_mixed [.list (l.map .int), .int k] = some (.int (mixedV l k)) := by
  simp only [f_law_mixed, m_law_mixed, m_law_mixed_t0, m_law_mixed_t1, m_law_mixed_s0, ap_c, ap_t, ap_v, vK_val, vK_lst, vK_dic, ap_peek, pkK_val, pkK_lst, pkK_dic, ap_o1E, ap_o1P, ap_o2EE, ap_o2EP, ap_o2PE, ap_o2PP, ap_o3E, ap_o3P, ap_esNil, ap_esCons, ap_tup, ap_lst, tupK, lstK, ap_and, ap_or, andK_t, andK_f, andK_b, orK_t, orK_f, orK_b, ap_call, ap_mP, ap_mE, ap_iSeq, ap_iSeqA, kOfL, kOfT, kOfD, ap_dnil, ap_iR1, ap_iR2, r1_eq, r2_eq, ap_tgo1, ap_tgoM, setAll0, setAllC, eComp_eq, ap_turnT, ap_turnO, tuK_t, tuK_f, tuK_b, ap_seq, seqK_nx, seqK_rt, seqK_ct, seqK_bk, seqK_no, seqK_if, ap_nil, ap_cnt, ap_brk, ap_set, ap_own, ownK_l, ownK_d, ap_ret, ap_if, ifK_t, ifK_f, ifK_b, ap_for, forL_nil, forL_cons, forK_nx, forK_ct, forK_bk, forK_rt, forK_if, ap_par, run_eq, runK_rt, runK_nx, runK_if, v_add, v_sub, v_neg, v_mod, v_div, v_mulR, v_mulL, v_mulB, v_addT, v_addL, v_catL, v_lt, v_le, v_gt, v_ge, v_eqI, v_neI, v_eqS, v_neS, v_lenT, v_lenL, v_intB, v_intI, v_not, v_min, v_max, v_abs, v_tupL, v_tupT, v_ixT, v_ixL, ix0, ix1, ix2, ix3, seqT, seqL, v_sumT, v_sumL, v_any, v_all, v_inT, v_inL, v_ninT, v_ninL, v_countT, mapMO_all, mapMO_some, mapMO_map, mapMO_range, v_sortedL, v_sortedT, v_cT, v_cTl, v_cTh, v_cL, v_cLl, v_cLh, v_eqNil, v_neNil, ix4, sel4_int, v_repT, v_isiI, v_isiS, v_isiB, v_isiN, ib_int, eq_dec, rl1, rl2, rl3, rl4, Bool.not_true, Bool.not_false, List.length_map, cutL_map, mkF, List.length_cons, List.length_nil, List.map_cons, List.map_nil, List.append_eq, List.cons_append, List.nil_append, List.getElem?_cons_zero, List.getElem?_cons_succ, List.set_cons_zero, List.set_cons_succ, Option.bind_some, Option.map_some, Option.bind_none, Option.map_none, Nat.zero_add, Nat.reduceAdd, Nat.reduceSub, Nat.reduceLeDiff, Nat.reduceLT, Nat.reduceEqDiff, Nat.reduceMul, LIM_eq, List.replicate_succ, List.replicate_zero, if_true, if_false, Bool.false_eq_true, Bool.true_eq_false, decide_true, decide_false, okS, noOwn, covers, tgIs, wipeO, List.all_cons, List.all_nil, List.any_cons, List.any_nil, Bool.and_true, Bool.true_and, Bool.and_self, Bool.or_false, Bool.false_or, Bool.or_true, beq_self_nat, kd, Int.reduceLT, Int.reduceLE, Int.reduceNeg, Int.reduceAdd, Int.reduceToNat, Int.reduceMul, Int.reduceSub, and_true, true_and, and_self, ite_true, ite_false, ↓reduceIte, mod_lo, mod_hi, f_cell]
  rfl
theorem mixed_nn (l : List Int) (k : Nat) : 0 ≤ mixedV l k := Int.emod_nonneg _ (by decide)
theorem drawn_nn (n k : Int) : 0 ≤ drawnV n k := Int.emod_nonneg _ (by decide)
/-! boxes -/
inductive Bx
  | face (a : Int) | all | alike (m p : Int) | run (m p : Int) | under (a : Int) | even (a : Int)
def Bx.d : Bx → D
  | .face a => .tuple [.str "face", .int a]
  | .all => .tuple [.str "all"]
  | .alike m p => .tuple [.str "alike", .int m, .int p]
  | .run m p => .tuple [.str "run", .int m, .int p]
  | .under a => .tuple [.str "under", .int a]
  | .even a => .tuple [.str "even", .int a]
def Bx.ok : Bx → Prop
  | .face a => 1 ≤ a ∧ a ≤ 6
  | .all => True
  | .alike m p => 2 ≤ m ∧ m ≤ 4 ∧ 1 ≤ p ∧ p ≤ 50
  | .run m p => 2 ≤ m ∧ m ≤ 4 ∧ 1 ≤ p ∧ p ≤ 50
  | .under a => 1 ≤ a ∧ a ≤ 24
  | .even a => 1 ≤ a ∧ a ≤ 50
theorem six {n : Int} (h : 0 ≤ n) : n % 6 = 0 ∨ n % 6 = 1 ∨ n % 6 = 2 ∨ n % 6 = 3 ∨ n % 6 = 4 ∨ n % 6 = 5 := by omega
def bxV (n : Int) : Bx := if n % 6 = 0 then .face (1 + n / 6 % 6) else if n % 6 = 1 then .all else if n % 6 = 2 then .alike (2 + n / 6 % 3) (1 + n / 64 % 50) else if n % 6 = 3 then .run (2 + n / 6 % 3) (1 + n / 64 % 50) else if n % 6 = 4 then .under (1 + n / 6 % 24) else .even (1 + n / 6 % 50)
theorem bx_ok (n : Int) (h : 0 ≤ n) : (bxV n).ok := by
  unfold bxV
  split
  · exact ⟨by omega, by omega⟩
  · split
    · trivial
    · split
      · exact ⟨by omega, by omega, by omega, by omega⟩
      · split
        · exact ⟨by omega, by omega, by omega, by omega⟩
        · split
          · exact ⟨by omega, by omega⟩
          · exact ⟨by omega, by omega⟩
theorem f_box (n : Int) (h : 0 ≤ n) : f_law_box [.int n] = some (bxV n).d := by
  have q : ∀ i x, ixOf ([.tuple [.str "face", .int (1 + n / 6 % 6)], .tuple [.str "all"], .tuple [.str "alike", .int (2 + n / 6 % 3), .int (1 + n / 64 % 50)], .tuple [.str "run", .int (2 + n / 6 % 3), .int (1 + n / 64 % 50)], .tuple [.str "under", .int (1 + n / 6 % 24)], .tuple [.str "even", .int (1 + n / 6 % 50)]] : List D) i = some x → n % 6 = i → f_law_box [.int n] = some x := by
    intro i x h1 h2
    simp only [f_law_box, m_law_box, m_law_box_t0, m_law_box_t1, m_law_box_t2, m_law_box_t3, m_law_box_s0, m_law_box_s1, m_law_box_s2, ap_c, ap_t, ap_v, vK_val, vK_lst, vK_dic, ap_peek, pkK_val, pkK_lst, pkK_dic, ap_o1E, ap_o1P, ap_o2EE, ap_o2EP, ap_o2PE, ap_o2PP, ap_o3E, ap_o3P, ap_esNil, ap_esCons, ap_tup, ap_lst, tupK, lstK, ap_and, ap_or, andK_t, andK_f, andK_b, orK_t, orK_f, orK_b, ap_call, ap_mP, ap_mE, ap_iSeq, ap_iSeqA, kOfL, kOfT, kOfD, ap_dnil, ap_iR1, ap_iR2, r1_eq, r2_eq, ap_tgo1, ap_tgoM, setAll0, setAllC, eComp_eq, ap_turnT, ap_turnO, tuK_t, tuK_f, tuK_b, ap_seq, seqK_nx, seqK_rt, seqK_ct, seqK_bk, seqK_no, seqK_if, ap_nil, ap_cnt, ap_brk, ap_set, ap_own, ownK_l, ownK_d, ap_ret, ap_if, ifK_t, ifK_f, ifK_b, ap_for, forL_nil, forL_cons, forK_nx, forK_ct, forK_bk, forK_rt, forK_if, ap_par, run_eq, runK_rt, runK_nx, runK_if, v_add, v_sub, v_neg, v_mod, v_div, v_mulR, v_mulL, v_mulB, v_addT, v_addL, v_catL, v_lt, v_le, v_gt, v_ge, v_eqI, v_neI, v_eqS, v_neS, v_lenT, v_lenL, v_intB, v_intI, v_not, v_min, v_max, v_abs, v_tupL, v_tupT, v_ixT, v_ixL, ix0, ix1, ix2, ix3, seqT, seqL, v_sumT, v_sumL, v_any, v_all, v_inT, v_inL, v_ninT, v_ninL, v_countT, mapMO_all, mapMO_some, mapMO_map, mapMO_range, v_sortedL, v_sortedT, v_cT, v_cTl, v_cTh, v_cL, v_cLl, v_cLh, v_eqNil, v_neNil, ix4, sel4_int, v_repT, v_isiI, v_isiS, v_isiB, v_isiN, ib_int, eq_dec, rl1, rl2, rl3, rl4, Bool.not_true, Bool.not_false, List.length_map, cutL_map, mkF, List.length_cons, List.length_nil, List.map_cons, List.map_nil, List.append_eq, List.cons_append, List.nil_append, List.getElem?_cons_zero, List.getElem?_cons_succ, List.set_cons_zero, List.set_cons_succ, Option.bind_some, Option.map_some, Option.bind_none, Option.map_none, Nat.zero_add, Nat.reduceAdd, Nat.reduceSub, Nat.reduceLeDiff, Nat.reduceLT, Nat.reduceEqDiff, Nat.reduceMul, LIM_eq, List.replicate_succ, List.replicate_zero, if_true, if_false, Bool.false_eq_true, Bool.true_eq_false, decide_true, decide_false, okS, noOwn, covers, tgIs, wipeO, List.all_cons, List.all_nil, List.any_cons, List.any_nil, Bool.and_true, Bool.true_and, Bool.and_self, Bool.or_false, Bool.false_or, Bool.or_true, beq_self_nat, kd, Int.reduceLT, Int.reduceLE, Int.reduceNeg, Int.reduceAdd, Int.reduceToNat, Int.reduceMul, Int.reduceSub, and_true, true_and, and_self, ite_true, ite_false, ↓reduceIte, h2, h1]
  unfold bxV
  rcases six h with e | e | e | e | e | e
  · rw [if_pos e]; exact q 0 _ rfl e
  · rw [if_neg (by omega), if_pos e]; exact q 1 _ rfl e
  · rw [if_neg (by omega), if_neg (by omega), if_pos e]; exact q 2 _ rfl e
  · rw [if_neg (by omega), if_neg (by omega), if_neg (by omega), if_pos e]; exact q 3 _ rfl e
  · rw [if_neg (by omega), if_neg (by omega), if_neg (by omega), if_neg (by omega), if_pos e]; exact q 4 _ rfl e
  · rw [if_neg (by omega), if_neg (by omega), if_neg (by omega), if_neg (by omega), if_neg (by omega)]; exact q 5 _ rfl e
theorem div_nn (n k : Int) : 0 ≤ drawnV n k / 4 := by
  have := drawn_nn n k
  omega
/-! the game, the dice -/
def boxesV (n : Int) : List Bx := (List.range (sel4 (n / 64 % 4) 1 2 2 3 : Int).toNat).map fun (k : Nat) => bxV (drawnV n (0 + (k : Int)) / 4)
theorem some_map {α β : Type} (f : α → β) (x : α) : Option.map f (some x) = some (f x) := rfl
theorem nbx_ok (n : Int) : -1000000 ≤ (sel4 (n / 64 % 4) 1 2 2 3 : Int) ∧ (sel4 (n / 64 % 4) 1 2 2 3 : Int) ≤ 1000000 := sel4_le (by omega) (by omega) (by omega) (by omega)
theorem f_game1 (n : Int) (h : 0 ≤ n) : f_law_game [.int n, .int 1] = some (.tuple [.int (1 + n / 256 % 4), .int (2 + n / 1024 % 5), .int (sel4 (n / 16 % 4) 1 2 3 2), .tuple ((boxesV n).map Bx.d)]) := by
  simp only [f_law_game, m_law_game, m_law_game_t0, m_law_game_t1, m_law_game_t2, m_law_game_t3, m_law_game_t4, m_law_game_t5, m_law_game_t6, m_law_game_s0, m_law_game_s1, m_law_game_s2, m_law_game_s3, m_law_game_s4, m_law_game_s5, ap_c, ap_t, ap_v, vK_val, vK_lst, vK_dic, ap_peek, pkK_val, pkK_lst, pkK_dic, ap_o1E, ap_o1P, ap_o2EE, ap_o2EP, ap_o2PE, ap_o2PP, ap_o3E, ap_o3P, ap_esNil, ap_esCons, ap_tup, ap_lst, tupK, lstK, ap_and, ap_or, andK_t, andK_f, andK_b, orK_t, orK_f, orK_b, ap_call, ap_mP, ap_mE, ap_iSeq, ap_iSeqA, kOfL, kOfT, kOfD, ap_dnil, ap_iR1, ap_iR2, r1_eq, r2_eq, ap_tgo1, ap_tgoM, setAll0, setAllC, eComp_eq, ap_turnT, ap_turnO, tuK_t, tuK_f, tuK_b, ap_seq, seqK_nx, seqK_rt, seqK_ct, seqK_bk, seqK_no, seqK_if, ap_nil, ap_cnt, ap_brk, ap_set, ap_own, ownK_l, ownK_d, ap_ret, ap_if, ifK_t, ifK_f, ifK_b, ap_for, forL_nil, forL_cons, forK_nx, forK_ct, forK_bk, forK_rt, forK_if, ap_par, run_eq, runK_rt, runK_nx, runK_if, v_add, v_sub, v_neg, v_mod, v_div, v_mulR, v_mulL, v_mulB, v_addT, v_addL, v_catL, v_lt, v_le, v_gt, v_ge, v_eqI, v_neI, v_eqS, v_neS, v_lenT, v_lenL, v_intB, v_intI, v_not, v_min, v_max, v_abs, v_tupL, v_tupT, v_ixT, v_ixL, ix0, ix1, ix2, ix3, seqT, seqL, v_sumT, v_sumL, v_any, v_all, v_inT, v_inL, v_ninT, v_ninL, v_countT, mapMO_all, mapMO_some, mapMO_map, mapMO_range, v_sortedL, v_sortedT, v_cT, v_cTl, v_cTh, v_cL, v_cLl, v_cLh, v_eqNil, v_neNil, ix4, sel4_int, v_repT, v_isiI, v_isiS, v_isiB, v_isiN, ib_int, eq_dec, rl1, rl2, rl3, rl4, Bool.not_true, Bool.not_false, List.length_map, cutL_map, mkF, List.length_cons, List.length_nil, List.map_cons, List.map_nil, List.append_eq, List.cons_append, List.nil_append, List.getElem?_cons_zero, List.getElem?_cons_succ, List.set_cons_zero, List.set_cons_succ, Option.bind_some, Option.map_some, Option.bind_none, Option.map_none, Nat.zero_add, Nat.reduceAdd, Nat.reduceSub, Nat.reduceLeDiff, Nat.reduceLT, Nat.reduceEqDiff, Nat.reduceMul, LIM_eq, List.replicate_succ, List.replicate_zero, if_true, if_false, Bool.false_eq_true, Bool.true_eq_false, decide_true, decide_false, okS, noOwn, covers, tgIs, wipeO, List.all_cons, List.all_nil, List.any_cons, List.any_nil, Bool.and_true, Bool.true_and, Bool.and_self, Bool.or_false, Bool.false_or, Bool.or_true, beq_self_nat, kd, Int.reduceLT, Int.reduceLE, Int.reduceNeg, Int.reduceAdd, Int.reduceToNat, Int.reduceMul, Int.reduceSub, and_true, true_and, and_self, ite_true, ite_false, ↓reduceIte, f_drawn, f_box, div_nn, nbx_ok, v_eqI]
  unfold boxesV
  rw [List.map_map]
  rfl
def diceV (m s : Int) (n : Int) : List Int := isortI ((List.range m.toNat).map fun (k : Nat) => 1 + drawnV n (30 + (0 + (k : Int))) / 4 % s)

/-! texts -/
def numS (i : Int) : Str := Str.ofString (toString i)
theorem v_strI (i : Int) (h0 : 0 ≤ i) (h1 : i ≤ 50) : sStr (.int i) = some (.str (numS i)) := by
  have h : i.natAbs.log2 < 1920 := by
    by_cases z : i.natAbs = 0
    · rw [z]; decide
    · refine (Nat.log2_lt z).mpr (Nat.lt_of_lt_of_le (show i.natAbs < 2 ^ 6 by have : (2 : Nat) ^ 6 = 64 := rfl; omega) (Nat.pow_le_pow_right (by decide) (by decide)))
  show (if i.natAbs.log2 < 1920 then some (PyData.str (toString i)) else none) = _
  rw [if_pos h]
  rfl
theorem v_strS (a : Str) : sStr (.str a) = some (.str a) := rfl
theorem strsOf_map (xs : List Str) : strsOf (xs.map .str) = some xs := by
  induction xs with
  | nil => rfl
  | cons x xs ih =>
    rw [List.map_cons]
    unfold strsOf
    rw [ih]
    rfl
theorem v_join (a : Str) (xs : List Str) (h : (xs.map (·.length)).sum + xs.length * a.length ≤ LIM) : mJoin (.str a) [.list (xs.map .str)] = some (.str (Txt.join a xs)) := by
  unfold mJoin
  simp only [seqL, strsOf_map, if_pos h]
theorem num_all : ∀ n ∈ List.range 51, (numS (n : Int)).length ≤ 10 := by decide +kernel
theorem num_len (i : Int) (h0 : 0 ≤ i) (h1 : i ≤ 50) : (numS i).length ≤ 10 := by
  obtain ⟨n, rfl⟩ := Int.eq_ofNat_of_zero_le h0
  exact num_all n (List.mem_range.mpr (by omega))
def bw : Bx → List Str
  | .face a => ["face", numS a]
  | .all => ["all"]
  | .alike m p => ["alike", numS m, numS p]
  | .run m p => ["run", numS m, numS p]
  | .under a => ["under", numS a]
  | .even a => ["even", numS a]
def boxT (b : Bx) : Str := Txt.join " " (bw b)
theorem jn1 (a x : Str) (hx : x.length ≤ 10) (ha : a.length ≤ 10) : mJoin (.str a) [.list [.str x]] = some (.str (Txt.join a [x])) := v_join a [x] (by
  simp only [List.map_cons, List.map_nil, List.sum_cons, List.sum_nil, List.length_cons, List.length_nil, LIM_eq]; omega)
theorem jn2 (a x y : Str) (hx : x.length ≤ 10) (hy : y.length ≤ 10) (ha : a.length ≤ 10) : mJoin (.str a) [.list [.str x, .str y]] = some (.str (Txt.join a [x, y])) := v_join a [x, y] (by
  simp only [List.map_cons, List.map_nil, List.sum_cons, List.sum_nil, List.length_cons, List.length_nil, LIM_eq]; omega)
theorem jn3 (a x y z : Str) (hx : x.length ≤ 10) (hy : y.length ≤ 10) (hz : z.length ≤ 10) (ha : a.length ≤ 10) : mJoin (.str a) [.list [.str x, .str y, .str z]] = some (.str (Txt.join a [x, y, z])) := v_join a [x, y, z] (by
  simp only [List.map_cons, List.map_nil, List.sum_cons, List.sum_nil, List.length_cons, List.length_nil, LIM_eq]; omega)
theorem wl_face : (Str.ofString "face").length ≤ 10 := by decide
theorem wl_all : (Str.ofString "all").length ≤ 10 := by decide
theorem wl_alike : (Str.ofString "alike").length ≤ 10 := by decide
theorem wl_run : (Str.ofString "run").length ≤ 10 := by decide
theorem wl_under : (Str.ofString "under").length ≤ 10 := by decide
theorem wl_even : (Str.ofString "even").length ≤ 10 := by decide
theorem wl_sp : (Str.ofString " ").length ≤ 10 := by decide
theorem box_eq (b : Bx) (h : b.ok) : (∃ l : List D, b.d = .tuple l ∧ mapMO (fun x => (sStr x).map some) l = some ((bw b).map .str) ∧ l.length ≤ 3) ∧ mJoin (.str " ") [.list ((bw b).map .str)] = some (.str (boxT b)) := by
  cases b with
  | face a =>
    have e := v_strI a (by have := h.1; omega) (by have := h.2; omega)
    exact ⟨⟨_, rfl, by simp only [mapMO, v_strS, e, Option.map_some]; rfl, by simp⟩, jn2 _ _ _ wl_face (num_len a (by have := h.1; omega) (by have := h.2; omega)) wl_sp⟩
  | all => exact ⟨⟨_, rfl, by simp only [mapMO, v_strS, Option.map_some]; rfl, by simp⟩, jn1 _ _ wl_all wl_sp⟩
  | alike m p =>
    obtain ⟨h1, h2, h3, h4⟩ := h
    have e := v_strI m (by omega) (by omega)
    have e2 := v_strI p (by omega) (by omega)
    exact ⟨⟨_, rfl, by simp only [mapMO, v_strS, e, e2, Option.map_some]; rfl, by simp⟩, jn3 _ _ _ _ wl_alike (num_len m (by omega) (by omega)) (num_len p (by omega) (by omega)) wl_sp⟩
  | run m p =>
    obtain ⟨h1, h2, h3, h4⟩ := h
    have e := v_strI m (by omega) (by omega)
    have e2 := v_strI p (by omega) (by omega)
    exact ⟨⟨_, rfl, by simp only [mapMO, v_strS, e, e2, Option.map_some]; rfl, by simp⟩, jn3 _ _ _ _ wl_run (num_len m (by omega) (by omega)) (num_len p (by omega) (by omega)) wl_sp⟩
  | under a =>
    have e := v_strI a (by have := h.1; omega) (by have := h.2; omega)
    exact ⟨⟨_, rfl, by simp only [mapMO, v_strS, e, Option.map_some]; rfl, by simp⟩, jn2 _ _ _ wl_under (num_len a (by have := h.1; omega) (by have := h.2; omega)) wl_sp⟩
  | even a =>
    have e := v_strI a (by have := h.1; omega) (by have := h.2; omega)
    exact ⟨⟨_, rfl, by simp only [mapMO, v_strS, e, Option.map_some]; rfl, by simp⟩, jn2 _ _ _ wl_even (num_len a (by have := h.1; omega) (by have := h.2; omega)) wl_sp⟩
def lenB (b : Bx) : Bool := decide ((boxT b).length ≤ 1000)
theorem len_face : ∀ n ∈ List.range 51, lenB (.face (n : Int)) = true := by decide +kernel
theorem len_all : lenB .all = true := by decide +kernel
theorem len_under : ∀ n ∈ List.range 51, lenB (.under (n : Int)) = true := by decide +kernel
theorem len_even : ∀ n ∈ List.range 51, lenB (.even (n : Int)) = true := by decide +kernel
theorem len_alike : ∀ m ∈ List.range 5, ∀ n ∈ List.range 51, lenB (.alike (m : Int) (n : Int)) = true := by decide +kernel
theorem len_run : ∀ m ∈ List.range 5, ∀ n ∈ List.range 51, lenB (.run (m : Int) (n : Int)) = true := by decide +kernel
theorem box_len (b : Bx) (h : b.ok) : (boxT b).length ≤ 1000 := by
  refine of_decide_eq_true (show lenB b = true from ?_)
  cases b with
  | face a =>
    obtain ⟨h1, h2⟩ := h
    obtain ⟨n, rfl⟩ := Int.eq_ofNat_of_zero_le (show 0 ≤ a by omega)
    exact len_face n (List.mem_range.mpr (by omega))
  | all => exact len_all
  | under a =>
    obtain ⟨h1, h2⟩ := h
    obtain ⟨n, rfl⟩ := Int.eq_ofNat_of_zero_le (show 0 ≤ a by omega)
    exact len_under n (List.mem_range.mpr (by omega))
  | even a =>
    obtain ⟨h1, h2⟩ := h
    obtain ⟨n, rfl⟩ := Int.eq_ofNat_of_zero_le (show 0 ≤ a by omega)
    exact len_even n (List.mem_range.mpr (by omega))
  | alike m p =>
    obtain ⟨h1, h2, h3, h4⟩ := h
    obtain ⟨n, rfl⟩ := Int.eq_ofNat_of_zero_le (show 0 ≤ p by omega)
    obtain ⟨k, rfl⟩ := Int.eq_ofNat_of_zero_le (show 0 ≤ m by omega)
    exact len_alike k (List.mem_range.mpr (by omega)) n (List.mem_range.mpr (by omega))
  | run m p =>
    obtain ⟨h1, h2, h3, h4⟩ := h
    obtain ⟨n, rfl⟩ := Int.eq_ofNat_of_zero_le (show 0 ≤ p by omega)
    obtain ⟨k, rfl⟩ := Int.eq_ofNat_of_zero_le (show 0 ≤ m by omega)
    exact len_run k (List.mem_range.mpr (by omega)) n (List.mem_range.mpr (by omega))
/-! the head -/
def hd1 (m s : Int) : Str := ((numS m ++ (if m = 1 then Str.ofString " die of " else " dice of ")) ++ numS s) ++ Str.ofString ", "
def hdS (m s t : Int) : Str := (hd1 m s ++ numS t) ++ (if t = 1 then Str.ofString " throw" else " throws")
def L60 : List (Int × Int × Int) := ([1, 2, 3, 4] : List Int).flatMap fun m => ([2, 3, 4, 5, 6] : List Int).flatMap fun s => ([1, 2, 3] : List Int).map fun t => (m, s, t)
theorem mem60 {m s t : Int} (hm : 1 ≤ m ∧ m ≤ 4) (hs : 2 ≤ s ∧ s ≤ 6) (ht : 1 ≤ t ∧ t ≤ 3) : (m, s, t) ∈ L60 := by
  have h1 : m = 1 ∨ m = 2 ∨ m = 3 ∨ m = 4 := by omega
  have h2 : s = 2 ∨ s = 3 ∨ s = 4 ∨ s = 5 ∨ s = 6 := by omega
  have h3 : t = 1 ∨ t = 2 ∨ t = 3 := by omega
  rcases h1 with rfl | rfl | rfl | rfl <;> rcases h2 with rfl | rfl | rfl | rfl | rfl <;> rcases h3 with rfl | rfl | rfl <;> decide
theorem hW (G B : D) : L60.map (fun p => m_written_s1 [.val G, .val (.int p.1), .val (.int p.2.1), .val (.int p.2.2), .val B, .un, .un]) = L60.map fun p => some (.nx, [.val G, .val (.int p.1), .val (.int p.2.1), .val (.int p.2.2), .val B, .val (.str (hdS p.1 p.2.1 p.2.2)), .un]) := by kernel_rfl
theorem hL1 (G B : D) : L60.map (fun p => m_law_text_s1 [.val G, .val (.int p.1), .val (.int p.2.1), .val (.int p.2.2), .val B, .un, .un, .un]) = L60.map fun p => some (.nx, [.val G, .val (.int p.1), .val (.int p.2.1), .val (.int p.2.2), .val B, .val (.str (hd1 p.1 p.2.1)), .un, .un]) := by kernel_rfl
theorem hL2 (G B : D) : L60.map (fun p => m_law_text_s2 [.val G, .val (.int p.1), .val (.int p.2.1), .val (.int p.2.2), .val B, .val (.str (hd1 p.1 p.2.1)), .un, .un]) = L60.map fun p => some (.nx, [.val G, .val (.int p.1), .val (.int p.2.1), .val (.int p.2.2), .val B, .val (.str (hdS p.1 p.2.1 p.2.2)), .un, .un]) := by kernel_rfl
theorem hd_len : ∀ p ∈ L60, (hdS p.1 p.2.1 p.2.2).length ≤ 1000 := by decide +kernel

theorem nbeq (i j : Nat) : Nat.beq i j = decide (i = j) := by
  by_cases h : i = j
  · rw [h, Nat.beq_refl, decide_eq_true rfl]
  · rw [decide_eq_false h]
    cases e : Nat.beq i j with
    | false => rfl
    | true => exact absurd (Nat.eq_of_beq_eq_true e) h
abbrev outS (x : D) : D := (sStr x).getD .none
theorem mapMO_str : ∀ (l r : List D), mapMO (fun x => (sStr x).map some) l = some r → (∀ x ∈ l, sStr x = some (outS x)) ∧ l.map outS = r
  | [], r, h => by cases h; exact ⟨fun x hx => absurd hx List.not_mem_nil, rfl⟩
  | x :: l, r, h => by
    unfold mapMO at h
    cases e : sStr x with
    | none => simp only [e, Option.map_none] at h; cases h
    | some y =>
      simp only [e, Option.map_some] at h
      cases e2 : mapMO (fun x => (sStr x).map some) l with
      | none => rw [e2] at h; cases h
      | some r' =>
        rw [e2] at h
        cases h
        obtain ⟨h1, h2⟩ := mapMO_str l r' e2
        refine ⟨fun z hz => ?_, ?_⟩
        · cases List.mem_cons.mp hz with
          | inl q =>
            rw [q]
            show sStr x = some ((sStr x).getD .none)
            rw [e]
            rfl
          | inr q => exact h1 z q
        · rw [List.map_cons, h2]
          show (sStr x).getD .none :: r' = _
          rw [e]; rfl
theorem comp_box {b : Bx} (h : b.ok) (ρ ρ' : List O) (i : Nat) (hi : iSeqA (eV i) ρ = (seqOf b.d).map fun l => (l, ρ)) (j : Nat) (hno : noOwn ρ [j] = true) (hw : wipeO ρ [j] = ρ) (hg : giveBack ρ ρ [j] = ρ) (hj : ∀ x, peek (ρ.set j (.val x)) j = some x) (hs : ∀ x, wipeO (ρ.set j (.val x)) [j] = ρ) : eComp (iSeqA (eV i)) (.one j) eTrue (o1 sStr (kP j)) [j] ρ = some (.list ((bw b).map .str), ρ) := by
  obtain ⟨⟨l, e1, e2, _⟩, _⟩ := box_eq b h
  obtain ⟨h1, h2⟩ := mapMO_str _ _ e2
  have c := comp_fa1 (it := iSeqA (eV i)) (tg := .one j) (cd := eTrue) (e := o1 sStr (kP j)) (vs := [j]) (ρ := ρ) l id outS (by rw [hi, e1, List.map_id]; rfl) hno hw hg (fun x hx acc => by
    have k : o1 sStr (kP j) (ρ.set j (.val x)) = some (outS x, ρ.set j (.val x)) := by
      unfold o1 kP
      simp only [hj, h1 x hx]
    unfold lcTurn tgo eTrue
    simp only [id, k, hs])
  rw [c, h2]
theorem f_boxt {b : Bx} (h : b.ok) : f_box_text [b.d] = some (.str (boxT b)) := by
  have hd : ∃ l, b.d = .tuple l := by obtain ⟨⟨l, e, _⟩, _⟩ := box_eq b h; exact ⟨l, e⟩
  obtain ⟨l, hl⟩ := hd
  have c := comp_box h [.val b.d, .un] [] 0 (by rw [hl]; rfl) 1 rfl rfl rfl (fun x => rfl) (fun x => rfl)
  have j := (box_eq b h).2
  simp only [f_box_text, m_box_text, ap_c, ap_t, ap_v, vK_val, vK_lst, vK_dic, ap_peek, pkK_val, pkK_lst, pkK_dic, ap_o1E, ap_o1P, ap_o2EE, ap_o2EP, ap_o2PE, ap_o2PP, ap_o3E, ap_o3P, ap_esNil, ap_esCons, ap_tup, ap_lst, tupK, lstK, ap_and, ap_or, andK_t, andK_f, andK_b, orK_t, orK_f, orK_b, ap_call, ap_mP, ap_mE, ap_iSeq, ap_iSeqA, kOfL, kOfT, kOfD, ap_dnil, ap_iR1, ap_iR2, r1_eq, r2_eq, ap_tgo1, ap_tgoM, setAll0, setAllC, ap_turnT, ap_turnO, tuK_t, tuK_f, tuK_b, ap_seq, seqK_nx, seqK_rt, seqK_ct, seqK_bk, seqK_no, seqK_if, ap_nil, ap_cnt, ap_brk, ap_set, ap_own, ownK_l, ownK_d, ap_ret, ap_if, ifK_t, ifK_f, ifK_b, ap_for, forL_nil, forL_cons, forK_nx, forK_ct, forK_bk, forK_rt, forK_if, ap_par, run_eq, runK_rt, runK_nx, runK_if, v_add, v_sub, v_neg, v_mod, v_div, v_mulR, v_mulL, v_mulB, v_addT, v_addL, v_catL, v_lt, v_le, v_gt, v_ge, v_eqI, v_neI, v_eqS, v_neS, v_lenT, v_lenL, v_intB, v_intI, v_not, v_min, v_max, v_abs, v_tupL, v_tupT, v_ixT, v_ixL, ix0, ix1, ix2, ix3, seqT, seqL, v_sumT, v_sumL, v_any, v_all, v_inT, v_inL, v_ninT, v_ninL, v_countT, mapMO_all, mapMO_some, mapMO_map, mapMO_range, v_sortedL, v_sortedT, v_cT, v_cTl, v_cTh, v_cL, v_cLl, v_cLh, v_eqNil, v_neNil, ix4, sel4_int, v_repT, v_isiI, v_isiS, v_isiB, v_isiN, ib_int, eq_dec, rl1, rl2, rl3, rl4, Bool.not_true, Bool.not_false, List.length_map, cutL_map, mkF, List.length_cons, List.length_nil, List.map_cons, List.map_nil, List.append_eq, List.cons_append, List.nil_append, List.getElem?_cons_zero, List.getElem?_cons_succ, List.set_cons_zero, List.set_cons_succ, Option.bind_some, Option.map_some, Option.bind_none, Option.map_none, Nat.zero_add, Nat.reduceAdd, Nat.reduceSub, Nat.reduceLeDiff, Nat.reduceLT, Nat.reduceEqDiff, Nat.reduceMul, LIM_eq, List.replicate_succ, List.replicate_zero, if_true, if_false, Bool.false_eq_true, Bool.true_eq_false, decide_true, decide_false, okS, noOwn, covers, tgIs, wipeO, List.all_cons, List.all_nil, List.any_cons, List.any_nil, Bool.and_true, Bool.true_and, Bool.and_self, Bool.or_false, Bool.false_or, Bool.or_true, beq_self_nat, kd, Int.reduceLT, Int.reduceLE, Int.reduceNeg, Int.reduceAdd, Int.reduceToNat, Int.reduceMul, Int.reduceSub, and_true, true_and, and_self, ite_true, ite_false, ↓reduceIte, nbeq, eq_self, ap_ext, ap_app, ap_put, lstK1_l, lstL_l, dicL_d, listK_l, c, j]
theorem v_addXL (a b : List D) (h : a.length + b.length ≤ LIM) : sAddX (.list a) (.list b) = some (.list (a ++ b)) := by
  unfold sAddX or2
  rw [v_addL a b h]
def whole (m s t : Int) (B : List Bx) : Str := Txt.join "; " (hdS m s t :: B.map boxT)
theorem sum_len : ∀ (B : List Bx), (∀ b ∈ B, b.ok) → ((B.map boxT).map (·.length)).sum ≤ B.length * 1000
  | [], _ => by simp
  | b :: B, h => by
    have h1 := box_len b (h b List.mem_cons_self)
    have h2 := sum_len B fun c hc => h c (List.mem_cons_of_mem _ hc)
    simp only [List.map_cons, List.sum_cons, List.length_cons]
    omega
theorem wl_semi : (Str.ofString "; ").length ≤ 10 := by decide
theorem join_whole {m s t : Int} {B : List Bx} (h : ∀ b ∈ B, b.ok) (hB : B.length ≤ 3) (hp : (m, s, t) ∈ L60) : mJoin (.str "; ") [.list (.str (hdS m s t) :: B.map fun b => .str (boxT b))] = some (.str (whole m s t B)) := by
  have e : (PyData.str (hdS m s t) :: B.map fun b => PyData.str (boxT b)) = (hdS m s t :: B.map boxT).map .str := by
    rw [List.map_cons, List.map_map]
    rfl
  rw [e]
  refine v_join _ _ ?_
  have h1 := hd_len _ hp
  have h1 : (hdS m s t).length ≤ 1000 := h1
  have h2 := sum_len B h
  have h3 := wl_semi
  have h4 : (B.length + 1) * (Str.ofString "; ").length ≤ 4 * 10 := Nat.mul_le_mul (by omega) h3
  rw [List.map_cons, List.sum_cons, List.length_cons, List.length_map, LIM_eq]
  have h5 : ((B.map boxT).map (·.length)).sum ≤ 3 * 1000 := Nat.le_trans h2 (Nat.mul_le_mul_right _ hB)
  exact Nat.le_trans (Nat.add_le_add (Nat.add_le_add h1 h5) h4) (by decide)
theorem f_writ {m s t : Int} {B : List Bx} (h : ∀ b ∈ B, b.ok) (hB : B.length ≤ 3) (hp : (m, s, t) ∈ L60) : f_written [.tuple [.int m, .int s, .int t, .tuple (B.map Bx.d)]] = some (.str (whole m s t B)) := by
  generalize hG : PyData.tuple [.int m, .int s, .int t, .tuple (B.map Bx.d)] = G
  have w := List.map_inj_left.mp (hW G (.tuple (B.map Bx.d))) (m, s, t) hp
  have w : m_written_s1 [.val G, .val (.int m), .val (.int s), .val (.int t), .val (.tuple (B.map Bx.d)), .un, .un] = some (.nx, [.val G, .val (.int m), .val (.int s), .val (.int t), .val (.tuple (B.map Bx.d)), .val (.str (hdS m s t)), .un]) := w
  have c := comp_fa1 (it := iSeqA (eV 4)) (tg := .one 6) (cd := eTrue) (e := eCall f_box_text (esCons (eV 6) esNil)) (vs := [6]) (ρ := [.val G, .val (.int m), .val (.int s), .val (.int t), .val (.tuple (B.map Bx.d)), .val (.str (hdS m s t)), .un]) B Bx.d (fun b => .str (boxT b)) rfl rfl rfl rfl (fun b hb acc => by
    have e := f_boxt (h b hb)
    unfold lcTurn
    simp only [ap_c, ap_t, ap_v, vK_val, vK_lst, vK_dic, ap_peek, pkK_val, pkK_lst, pkK_dic, ap_o1E, ap_o1P, ap_o2EE, ap_o2EP, ap_o2PE, ap_o2PP, ap_o3E, ap_o3P, ap_esNil, ap_esCons, ap_tup, ap_lst, tupK, lstK, ap_and, ap_or, andK_t, andK_f, andK_b, orK_t, orK_f, orK_b, ap_call, ap_mP, ap_mE, ap_iSeq, ap_iSeqA, kOfL, kOfT, kOfD, ap_dnil, ap_iR1, ap_iR2, r1_eq, r2_eq, ap_tgo1, ap_tgoM, setAll0, setAllC, eComp_eq, ap_turnT, ap_turnO, tuK_t, tuK_f, tuK_b, ap_seq, seqK_nx, seqK_rt, seqK_ct, seqK_bk, seqK_no, seqK_if, ap_nil, ap_cnt, ap_brk, ap_set, ap_own, ownK_l, ownK_d, ap_ret, ap_if, ifK_t, ifK_f, ifK_b, ap_for, forL_nil, forL_cons, forK_nx, forK_ct, forK_bk, forK_rt, forK_if, ap_par, run_eq, runK_rt, runK_nx, runK_if, v_add, v_sub, v_neg, v_mod, v_div, v_mulR, v_mulL, v_mulB, v_addT, v_addL, v_catL, v_lt, v_le, v_gt, v_ge, v_eqI, v_neI, v_eqS, v_neS, v_lenT, v_lenL, v_intB, v_intI, v_not, v_min, v_max, v_abs, v_tupL, v_tupT, v_ixT, v_ixL, ix0, ix1, ix2, ix3, seqT, seqL, v_sumT, v_sumL, v_any, v_all, v_inT, v_inL, v_ninT, v_ninL, v_countT, mapMO_all, mapMO_some, mapMO_map, mapMO_range, v_sortedL, v_sortedT, v_cT, v_cTl, v_cTh, v_cL, v_cLl, v_cLh, v_eqNil, v_neNil, ix4, sel4_int, v_repT, v_isiI, v_isiS, v_isiB, v_isiN, ib_int, eq_dec, rl1, rl2, rl3, rl4, Bool.not_true, Bool.not_false, List.length_map, cutL_map, mkF, List.length_cons, List.length_nil, List.map_cons, List.map_nil, List.append_eq, List.cons_append, List.nil_append, List.getElem?_cons_zero, List.getElem?_cons_succ, List.set_cons_zero, List.set_cons_succ, Option.bind_some, Option.map_some, Option.bind_none, Option.map_none, Nat.zero_add, Nat.reduceAdd, Nat.reduceSub, Nat.reduceLeDiff, Nat.reduceLT, Nat.reduceEqDiff, Nat.reduceMul, LIM_eq, List.replicate_succ, List.replicate_zero, if_true, if_false, Bool.false_eq_true, Bool.true_eq_false, decide_true, decide_false, okS, noOwn, covers, tgIs, wipeO, List.all_cons, List.all_nil, List.any_cons, List.any_nil, Bool.and_true, Bool.true_and, Bool.and_self, Bool.or_false, Bool.false_or, Bool.or_true, beq_self_nat, kd, Int.reduceLT, Int.reduceLE, Int.reduceNeg, Int.reduceAdd, Int.reduceToNat, Int.reduceMul, Int.reduceSub, and_true, true_and, and_self, ite_true, ite_false, ↓reduceIte, nbeq, eq_self, ap_ext, ap_app, ap_put, lstK1_l, lstL_l, dicL_d, listK_l, e])
  have j := join_whole h hB hp
  have a := v_addXL [.str (hdS m s t)] (B.map fun b => .str (boxT b)) (by simp only [List.length_cons, List.length_nil, List.length_map, LIM_eq]; omega)
  have t0 : m_written_s0 [.val G, .un, .un, .un, .un, .un, .un] = some (.nx, [.val G, .val (.int m), .val (.int s), .val (.int t), .val (.tuple (B.map Bx.d)), .un, .un]) := by
    rw [← hG]
    unfold m_written_s0
    simp only [ap_c, ap_t, ap_v, vK_val, vK_lst, vK_dic, ap_peek, pkK_val, pkK_lst, pkK_dic, ap_o1E, ap_o1P, ap_o2EE, ap_o2EP, ap_o2PE, ap_o2PP, ap_o3E, ap_o3P, ap_esNil, ap_esCons, ap_tup, ap_lst, tupK, lstK, ap_and, ap_or, andK_t, andK_f, andK_b, orK_t, orK_f, orK_b, ap_call, ap_mP, ap_mE, ap_iSeq, ap_iSeqA, kOfL, kOfT, kOfD, ap_dnil, ap_iR1, ap_iR2, r1_eq, r2_eq, ap_tgo1, ap_tgoM, setAll0, setAllC, eComp_eq, ap_turnT, ap_turnO, tuK_t, tuK_f, tuK_b, ap_seq, seqK_nx, seqK_rt, seqK_ct, seqK_bk, seqK_no, seqK_if, ap_nil, ap_cnt, ap_brk, ap_set, ap_own, ownK_l, ownK_d, ap_ret, ap_if, ifK_t, ifK_f, ifK_b, ap_for, forL_nil, forL_cons, forK_nx, forK_ct, forK_bk, forK_rt, forK_if, ap_par, run_eq, runK_rt, runK_nx, runK_if, v_add, v_sub, v_neg, v_mod, v_div, v_mulR, v_mulL, v_mulB, v_addT, v_addL, v_catL, v_lt, v_le, v_gt, v_ge, v_eqI, v_neI, v_eqS, v_neS, v_lenT, v_lenL, v_intB, v_intI, v_not, v_min, v_max, v_abs, v_tupL, v_tupT, v_ixT, v_ixL, ix0, ix1, ix2, ix3, seqT, seqL, v_sumT, v_sumL, v_any, v_all, v_inT, v_inL, v_ninT, v_ninL, v_countT, mapMO_all, mapMO_some, mapMO_map, mapMO_range, v_sortedL, v_sortedT, v_cT, v_cTl, v_cTh, v_cL, v_cLl, v_cLh, v_eqNil, v_neNil, ix4, sel4_int, v_repT, v_isiI, v_isiS, v_isiB, v_isiN, ib_int, eq_dec, rl1, rl2, rl3, rl4, Bool.not_true, Bool.not_false, List.length_map, cutL_map, mkF, List.length_cons, List.length_nil, List.map_cons, List.map_nil, List.append_eq, List.cons_append, List.nil_append, List.getElem?_cons_zero, List.getElem?_cons_succ, List.set_cons_zero, List.set_cons_succ, Option.bind_some, Option.map_some, Option.bind_none, Option.map_none, Nat.zero_add, Nat.reduceAdd, Nat.reduceSub, Nat.reduceLeDiff, Nat.reduceLT, Nat.reduceEqDiff, Nat.reduceMul, LIM_eq, List.replicate_succ, List.replicate_zero, if_true, if_false, Bool.false_eq_true, Bool.true_eq_false, decide_true, decide_false, okS, noOwn, covers, tgIs, wipeO, List.all_cons, List.all_nil, List.any_cons, List.any_nil, Bool.and_true, Bool.true_and, Bool.and_self, Bool.or_false, Bool.false_or, Bool.or_true, beq_self_nat, kd, Int.reduceLT, Int.reduceLE, Int.reduceNeg, Int.reduceAdd, Int.reduceToNat, Int.reduceMul, Int.reduceSub, and_true, true_and, and_self, ite_true, ite_false, ↓reduceIte, nbeq, eq_self, ap_ext, ap_app, ap_put, lstK1_l, lstL_l, dicL_d, listK_l]
  simp only [f_written, m_written, m_written_t0, m_written_t1, m_written_t2, ap_c, ap_t, ap_v, vK_val, vK_lst, vK_dic, ap_peek, pkK_val, pkK_lst, pkK_dic, ap_o1E, ap_o1P, ap_o2EE, ap_o2EP, ap_o2PE, ap_o2PP, ap_o3E, ap_o3P, ap_esNil, ap_esCons, ap_tup, ap_lst, tupK, lstK, ap_and, ap_or, andK_t, andK_f, andK_b, orK_t, orK_f, orK_b, ap_call, ap_mP, ap_mE, ap_iSeq, ap_iSeqA, kOfL, kOfT, kOfD, ap_dnil, ap_iR1, ap_iR2, r1_eq, r2_eq, ap_tgo1, ap_tgoM, setAll0, setAllC, ap_turnT, ap_turnO, tuK_t, tuK_f, tuK_b, ap_seq, seqK_nx, seqK_rt, seqK_ct, seqK_bk, seqK_no, seqK_if, ap_nil, ap_cnt, ap_brk, ap_set, ap_own, ownK_l, ownK_d, ap_ret, ap_if, ifK_t, ifK_f, ifK_b, ap_for, forL_nil, forL_cons, forK_nx, forK_ct, forK_bk, forK_rt, forK_if, ap_par, run_eq, runK_rt, runK_nx, runK_if, v_add, v_sub, v_neg, v_mod, v_div, v_mulR, v_mulL, v_mulB, v_addT, v_addL, v_catL, v_lt, v_le, v_gt, v_ge, v_eqI, v_neI, v_eqS, v_neS, v_lenT, v_lenL, v_intB, v_intI, v_not, v_min, v_max, v_abs, v_tupL, v_tupT, v_ixT, v_ixL, ix0, ix1, ix2, ix3, seqT, seqL, v_sumT, v_sumL, v_any, v_all, v_inT, v_inL, v_ninT, v_ninL, v_countT, mapMO_all, mapMO_some, mapMO_map, mapMO_range, v_sortedL, v_sortedT, v_cT, v_cTl, v_cTh, v_cL, v_cLl, v_cLh, v_eqNil, v_neNil, ix4, sel4_int, v_repT, v_isiI, v_isiS, v_isiB, v_isiN, ib_int, eq_dec, rl1, rl2, rl3, rl4, Bool.not_true, Bool.not_false, List.length_map, cutL_map, mkF, List.length_cons, List.length_nil, List.map_cons, List.map_nil, List.append_eq, List.cons_append, List.nil_append, List.getElem?_cons_zero, List.getElem?_cons_succ, List.set_cons_zero, List.set_cons_succ, Option.bind_some, Option.map_some, Option.bind_none, Option.map_none, Nat.zero_add, Nat.reduceAdd, Nat.reduceSub, Nat.reduceLeDiff, Nat.reduceLT, Nat.reduceEqDiff, Nat.reduceMul, LIM_eq, List.replicate_succ, List.replicate_zero, if_true, if_false, Bool.false_eq_true, Bool.true_eq_false, decide_true, decide_false, okS, noOwn, covers, tgIs, wipeO, List.all_cons, List.all_nil, List.any_cons, List.any_nil, Bool.and_true, Bool.true_and, Bool.and_self, Bool.or_false, Bool.false_or, Bool.or_true, beq_self_nat, kd, Int.reduceLT, Int.reduceLE, Int.reduceNeg, Int.reduceAdd, Int.reduceToNat, Int.reduceMul, Int.reduceSub, and_true, true_and, and_self, ite_true, ite_false, ↓reduceIte, nbeq, eq_self, ap_ext, ap_app, ap_put, lstK1_l, lstL_l, dicL_d, listK_l, t0, w, c, a, j]
theorem f_ltext {m s t : Int} {B : List Bx} (h : ∀ b ∈ B, b.ok) (hB : B.length ≤ 3) (hp : (m, s, t) ∈ L60) : f_law_text [.tuple [.int m, .int s, .int t, .tuple (B.map Bx.d)]] = some (.str (whole m s t B)) := by
  generalize hG : PyData.tuple [.int m, .int s, .int t, .tuple (B.map Bx.d)] = G
  have w1 := List.map_inj_left.mp (hL1 G (.tuple (B.map Bx.d))) (m, s, t) hp
  have w1 : m_law_text_s1 [.val G, .val (.int m), .val (.int s), .val (.int t), .val (.tuple (B.map Bx.d)), .un, .un, .un] = some (.nx, [.val G, .val (.int m), .val (.int s), .val (.int t), .val (.tuple (B.map Bx.d)), .val (.str (hd1 m s)), .un, .un]) := w1
  have w2 := List.map_inj_left.mp (hL2 G (.tuple (B.map Bx.d))) (m, s, t) hp
  have w2 : m_law_text_s2 [.val G, .val (.int m), .val (.int s), .val (.int t), .val (.tuple (B.map Bx.d)), .val (.str (hd1 m s)), .un, .un] = some (.nx, [.val G, .val (.int m), .val (.int s), .val (.int t), .val (.tuple (B.map Bx.d)), .val (.str (hdS m s t)), .un, .un]) := w2
  have c := comp_fa1 (it := iSeqA (eV 4)) (tg := .one 6) (cd := eTrue) (e := eM mJoin (kE (eC (.str " "))) (esCons (eComp (iSeqA (eV 6)) (.one 7) eTrue (o1 sStr (kP 7)) [7]) esNil)) (vs := [6]) (ρ := [.val G, .val (.int m), .val (.int s), .val (.int t), .val (.tuple (B.map Bx.d)), .val (.str (hdS m s t)), .un, .un]) B Bx.d (fun b => .str (boxT b)) rfl rfl rfl rfl (fun b hb acc => by
    obtain ⟨⟨l, hl, _⟩, e2⟩ := box_eq b (h b hb)
    have e := comp_box (h b hb) [.val G, .val (.int m), .val (.int s), .val (.int t), .val (.tuple (B.map Bx.d)), .val (.str (hdS m s t)), .val b.d, .un] [] 6 (by rw [hl]; rfl) 7 rfl rfl rfl (fun x => rfl) (fun x => rfl)
    unfold lcTurn
    simp only [ap_c, ap_t, ap_v, vK_val, vK_lst, vK_dic, ap_peek, pkK_val, pkK_lst, pkK_dic, ap_o1E, ap_o1P, ap_o2EE, ap_o2EP, ap_o2PE, ap_o2PP, ap_o3E, ap_o3P, ap_esNil, ap_esCons, ap_tup, ap_lst, tupK, lstK, ap_and, ap_or, andK_t, andK_f, andK_b, orK_t, orK_f, orK_b, ap_call, ap_mP, ap_mE, ap_iSeq, ap_iSeqA, kOfL, kOfT, kOfD, ap_dnil, ap_iR1, ap_iR2, r1_eq, r2_eq, ap_tgo1, ap_tgoM, setAll0, setAllC, ap_turnT, ap_turnO, tuK_t, tuK_f, tuK_b, ap_seq, seqK_nx, seqK_rt, seqK_ct, seqK_bk, seqK_no, seqK_if, ap_nil, ap_cnt, ap_brk, ap_set, ap_own, ownK_l, ownK_d, ap_ret, ap_if, ifK_t, ifK_f, ifK_b, ap_for, forL_nil, forL_cons, forK_nx, forK_ct, forK_bk, forK_rt, forK_if, ap_par, run_eq, runK_rt, runK_nx, runK_if, v_add, v_sub, v_neg, v_mod, v_div, v_mulR, v_mulL, v_mulB, v_addT, v_addL, v_catL, v_lt, v_le, v_gt, v_ge, v_eqI, v_neI, v_eqS, v_neS, v_lenT, v_lenL, v_intB, v_intI, v_not, v_min, v_max, v_abs, v_tupL, v_tupT, v_ixT, v_ixL, ix0, ix1, ix2, ix3, seqT, seqL, v_sumT, v_sumL, v_any, v_all, v_inT, v_inL, v_ninT, v_ninL, v_countT, mapMO_all, mapMO_some, mapMO_map, mapMO_range, v_sortedL, v_sortedT, v_cT, v_cTl, v_cTh, v_cL, v_cLl, v_cLh, v_eqNil, v_neNil, ix4, sel4_int, v_repT, v_isiI, v_isiS, v_isiB, v_isiN, ib_int, eq_dec, rl1, rl2, rl3, rl4, Bool.not_true, Bool.not_false, List.length_map, cutL_map, mkF, List.length_cons, List.length_nil, List.map_cons, List.map_nil, List.append_eq, List.cons_append, List.nil_append, List.getElem?_cons_zero, List.getElem?_cons_succ, List.set_cons_zero, List.set_cons_succ, Option.bind_some, Option.map_some, Option.bind_none, Option.map_none, Nat.zero_add, Nat.reduceAdd, Nat.reduceSub, Nat.reduceLeDiff, Nat.reduceLT, Nat.reduceEqDiff, Nat.reduceMul, LIM_eq, List.replicate_succ, List.replicate_zero, if_true, if_false, Bool.false_eq_true, Bool.true_eq_false, decide_true, decide_false, okS, noOwn, covers, tgIs, wipeO, List.all_cons, List.all_nil, List.any_cons, List.any_nil, Bool.and_true, Bool.true_and, Bool.and_self, Bool.or_false, Bool.false_or, Bool.or_true, beq_self_nat, kd, Int.reduceLT, Int.reduceLE, Int.reduceNeg, Int.reduceAdd, Int.reduceToNat, Int.reduceMul, Int.reduceSub, and_true, true_and, and_self, ite_true, ite_false, ↓reduceIte, nbeq, eq_self, ap_ext, ap_app, ap_put, lstK1_l, lstL_l, dicL_d, listK_l, e, e2])
  have j := join_whole h hB hp
  have a := v_addXL [.str (hdS m s t)] (B.map fun b => .str (boxT b)) (by simp only [List.length_cons, List.length_nil, List.length_map, LIM_eq]; omega)
  have t0 : m_law_text_s0 [.val G, .un, .un, .un, .un, .un, .un, .un] = some (.nx, [.val G, .val (.int m), .val (.int s), .val (.int t), .val (.tuple (B.map Bx.d)), .un, .un, .un]) := by
    rw [← hG]
    unfold m_law_text_s0
    simp only [ap_c, ap_t, ap_v, vK_val, vK_lst, vK_dic, ap_peek, pkK_val, pkK_lst, pkK_dic, ap_o1E, ap_o1P, ap_o2EE, ap_o2EP, ap_o2PE, ap_o2PP, ap_o3E, ap_o3P, ap_esNil, ap_esCons, ap_tup, ap_lst, tupK, lstK, ap_and, ap_or, andK_t, andK_f, andK_b, orK_t, orK_f, orK_b, ap_call, ap_mP, ap_mE, ap_iSeq, ap_iSeqA, kOfL, kOfT, kOfD, ap_dnil, ap_iR1, ap_iR2, r1_eq, r2_eq, ap_tgo1, ap_tgoM, setAll0, setAllC, eComp_eq, ap_turnT, ap_turnO, tuK_t, tuK_f, tuK_b, ap_seq, seqK_nx, seqK_rt, seqK_ct, seqK_bk, seqK_no, seqK_if, ap_nil, ap_cnt, ap_brk, ap_set, ap_own, ownK_l, ownK_d, ap_ret, ap_if, ifK_t, ifK_f, ifK_b, ap_for, forL_nil, forL_cons, forK_nx, forK_ct, forK_bk, forK_rt, forK_if, ap_par, run_eq, runK_rt, runK_nx, runK_if, v_add, v_sub, v_neg, v_mod, v_div, v_mulR, v_mulL, v_mulB, v_addT, v_addL, v_catL, v_lt, v_le, v_gt, v_ge, v_eqI, v_neI, v_eqS, v_neS, v_lenT, v_lenL, v_intB, v_intI, v_not, v_min, v_max, v_abs, v_tupL, v_tupT, v_ixT, v_ixL, ix0, ix1, ix2, ix3, seqT, seqL, v_sumT, v_sumL, v_any, v_all, v_inT, v_inL, v_ninT, v_ninL, v_countT, mapMO_all, mapMO_some, mapMO_map, mapMO_range, v_sortedL, v_sortedT, v_cT, v_cTl, v_cTh, v_cL, v_cLl, v_cLh, v_eqNil, v_neNil, ix4, sel4_int, v_repT, v_isiI, v_isiS, v_isiB, v_isiN, ib_int, eq_dec, rl1, rl2, rl3, rl4, Bool.not_true, Bool.not_false, List.length_map, cutL_map, mkF, List.length_cons, List.length_nil, List.map_cons, List.map_nil, List.append_eq, List.cons_append, List.nil_append, List.getElem?_cons_zero, List.getElem?_cons_succ, List.set_cons_zero, List.set_cons_succ, Option.bind_some, Option.map_some, Option.bind_none, Option.map_none, Nat.zero_add, Nat.reduceAdd, Nat.reduceSub, Nat.reduceLeDiff, Nat.reduceLT, Nat.reduceEqDiff, Nat.reduceMul, LIM_eq, List.replicate_succ, List.replicate_zero, if_true, if_false, Bool.false_eq_true, Bool.true_eq_false, decide_true, decide_false, okS, noOwn, covers, tgIs, wipeO, List.all_cons, List.all_nil, List.any_cons, List.any_nil, Bool.and_true, Bool.true_and, Bool.and_self, Bool.or_false, Bool.false_or, Bool.or_true, beq_self_nat, kd, Int.reduceLT, Int.reduceLE, Int.reduceNeg, Int.reduceAdd, Int.reduceToNat, Int.reduceMul, Int.reduceSub, and_true, true_and, and_self, ite_true, ite_false, ↓reduceIte, nbeq, eq_self, ap_ext, ap_app, ap_put, lstK1_l, lstL_l, dicL_d, listK_l]
  simp only [f_law_text, m_law_text, m_law_text_t0, m_law_text_t1, m_law_text_t2, m_law_text_t3, ap_c, ap_t, ap_v, vK_val, vK_lst, vK_dic, ap_peek, pkK_val, pkK_lst, pkK_dic, ap_o1E, ap_o1P, ap_o2EE, ap_o2EP, ap_o2PE, ap_o2PP, ap_o3E, ap_o3P, ap_esNil, ap_esCons, ap_tup, ap_lst, tupK, lstK, ap_and, ap_or, andK_t, andK_f, andK_b, orK_t, orK_f, orK_b, ap_call, ap_mP, ap_mE, ap_iSeq, ap_iSeqA, kOfL, kOfT, kOfD, ap_dnil, ap_iR1, ap_iR2, r1_eq, r2_eq, ap_tgo1, ap_tgoM, setAll0, setAllC, ap_turnT, ap_turnO, tuK_t, tuK_f, tuK_b, ap_seq, seqK_nx, seqK_rt, seqK_ct, seqK_bk, seqK_no, seqK_if, ap_nil, ap_cnt, ap_brk, ap_set, ap_own, ownK_l, ownK_d, ap_ret, ap_if, ifK_t, ifK_f, ifK_b, ap_for, forL_nil, forL_cons, forK_nx, forK_ct, forK_bk, forK_rt, forK_if, ap_par, run_eq, runK_rt, runK_nx, runK_if, v_add, v_sub, v_neg, v_mod, v_div, v_mulR, v_mulL, v_mulB, v_addT, v_addL, v_catL, v_lt, v_le, v_gt, v_ge, v_eqI, v_neI, v_eqS, v_neS, v_lenT, v_lenL, v_intB, v_intI, v_not, v_min, v_max, v_abs, v_tupL, v_tupT, v_ixT, v_ixL, ix0, ix1, ix2, ix3, seqT, seqL, v_sumT, v_sumL, v_any, v_all, v_inT, v_inL, v_ninT, v_ninL, v_countT, mapMO_all, mapMO_some, mapMO_map, mapMO_range, v_sortedL, v_sortedT, v_cT, v_cTl, v_cTh, v_cL, v_cLl, v_cLh, v_eqNil, v_neNil, ix4, sel4_int, v_repT, v_isiI, v_isiS, v_isiB, v_isiN, ib_int, eq_dec, rl1, rl2, rl3, rl4, Bool.not_true, Bool.not_false, List.length_map, cutL_map, mkF, List.length_cons, List.length_nil, List.map_cons, List.map_nil, List.append_eq, List.cons_append, List.nil_append, List.getElem?_cons_zero, List.getElem?_cons_succ, List.set_cons_zero, List.set_cons_succ, Option.bind_some, Option.map_some, Option.bind_none, Option.map_none, Nat.zero_add, Nat.reduceAdd, Nat.reduceSub, Nat.reduceLeDiff, Nat.reduceLT, Nat.reduceEqDiff, Nat.reduceMul, LIM_eq, List.replicate_succ, List.replicate_zero, if_true, if_false, Bool.false_eq_true, Bool.true_eq_false, decide_true, decide_false, okS, noOwn, covers, tgIs, wipeO, List.all_cons, List.all_nil, List.any_cons, List.any_nil, Bool.and_true, Bool.true_and, Bool.and_self, Bool.or_false, Bool.false_or, Bool.or_true, beq_self_nat, kd, Int.reduceLT, Int.reduceLE, Int.reduceNeg, Int.reduceAdd, Int.reduceToNat, Int.reduceMul, Int.reduceSub, and_true, true_and, and_self, ite_true, ite_false, ↓reduceIte, nbeq, eq_self, ap_ext, ap_app, ap_put, lstK1_l, lstL_l, dicL_d, listK_l, t0, w1, w2, c, a, j]
theorem v_eqStr (a : Str) : sEq (.str a) (.str a) = some (.bool true) := by
  unfold sEq
  simp [PyData.plain, PyData.depth, lvl, PyData.eqv]
theorem plain_law (ns : List Int) (hn : ns.length ≤ 63) : f_law [.list (ns.map .int)] = some (.bool true) := by
  have m0 : f_law_mixed [.list (ns.map .int), .int 0] = some (.int (mixedV ns 0)) := f_mixed ns 0
  have hnn := mixed_nn ns 0
  generalize PyData.list (ns.map .int) = S at m0 ⊢
  generalize mixedV ns 0 = n at m0 hnn
  have e0 := f_game1 n hnn
  have ht : 1 ≤ (sel4 (n / 16 % 4) 1 2 3 2 : Int) ∧ (sel4 (n / 16 % 4) 1 2 3 2 : Int) ≤ 3 := by
    unfold sel4
    split
    · decide
    · split
      · decide
      · split <;> decide
  have hb : ∀ b ∈ boxesV n, b.ok := fun b hb => by
    unfold boxesV at hb
    obtain ⟨k, _, rfl⟩ := List.mem_map.mp hb
    exact bx_ok _ (div_nn _ _)
  have hB : (boxesV n).length ≤ 3 := by
    unfold boxesV
    rw [List.length_map, List.length_range]
    unfold sel4
    split
    · decide
    · split
      · decide
      · split <;> decide
  generalize boxesV n = B at e0 hb hB
  generalize (sel4 (n / 16 % 4) 1 2 3 2 : Int) = t at e0 ht
  have hm : 1 ≤ 1 + n / 256 % 4 ∧ 1 + n / 256 % 4 ≤ 4 := by omega
  have hs : 2 ≤ 2 + n / 1024 % 5 ∧ 2 + n / 1024 % 5 ≤ 6 := by omega
  generalize 1 + n / 256 % 4 = m at e0 hm
  generalize 2 + n / 1024 % 5 = s at e0 hs
  have hp := mem60 hm hs ht
  have w1 := f_writ hb hB hp
  have w2 := f_ltext hb hB hp
  have w3 := v_eqStr (whole m s t B)
  simp only [f_law, m_law, m_law_t0, m_law_t1, m_law_s0, ap_c, ap_t, ap_v, vK_val, vK_lst, vK_dic, ap_peek, pkK_val, pkK_lst, pkK_dic, ap_o1E, ap_o1P, ap_o2EE, ap_o2EP, ap_o2PE, ap_o2PP, ap_o3E, ap_o3P, ap_esNil, ap_esCons, ap_tup, ap_lst, tupK, lstK, ap_and, ap_or, andK_t, andK_f, andK_b, orK_t, orK_f, orK_b, ap_call, ap_mP, ap_mE, ap_iSeq, ap_iSeqA, kOfL, kOfT, kOfD, ap_dnil, ap_iR1, ap_iR2, r1_eq, r2_eq, ap_tgo1, ap_tgoM, setAll0, setAllC, eComp_eq, ap_turnT, ap_turnO, tuK_t, tuK_f, tuK_b, ap_seq, seqK_nx, seqK_rt, seqK_ct, seqK_bk, seqK_no, seqK_if, ap_nil, ap_cnt, ap_brk, ap_set, ap_own, ownK_l, ownK_d, ap_ret, ap_if, ifK_t, ifK_f, ifK_b, ap_for, forL_nil, forL_cons, forK_nx, forK_ct, forK_bk, forK_rt, forK_if, ap_par, run_eq, runK_rt, runK_nx, runK_if, v_add, v_sub, v_neg, v_mod, v_div, v_mulR, v_mulL, v_mulB, v_addT, v_addL, v_catL, v_lt, v_le, v_gt, v_ge, v_eqI, v_neI, v_eqS, v_neS, v_lenT, v_lenL, v_intB, v_intI, v_not, v_min, v_max, v_abs, v_tupL, v_tupT, v_ixT, v_ixL, ix0, ix1, ix2, ix3, seqT, seqL, v_sumT, v_sumL, v_any, v_all, v_inT, v_inL, v_ninT, v_ninL, v_countT, mapMO_all, mapMO_some, mapMO_map, mapMO_range, v_sortedL, v_sortedT, v_cT, v_cTl, v_cTh, v_cL, v_cLl, v_cLh, v_eqNil, v_neNil, ix4, sel4_int, v_repT, v_isiI, v_isiS, v_isiB, v_isiN, ib_int, eq_dec, rl1, rl2, rl3, rl4, Bool.not_true, Bool.not_false, List.length_map, cutL_map, mkF, List.length_cons, List.length_nil, List.map_cons, List.map_nil, List.append_eq, List.cons_append, List.nil_append, List.getElem?_cons_zero, List.getElem?_cons_succ, List.set_cons_zero, List.set_cons_succ, Option.bind_some, Option.map_some, Option.bind_none, Option.map_none, Nat.zero_add, Nat.reduceAdd, Nat.reduceSub, Nat.reduceLeDiff, Nat.reduceLT, Nat.reduceEqDiff, Nat.reduceMul, LIM_eq, List.replicate_succ, List.replicate_zero, if_true, if_false, Bool.false_eq_true, Bool.true_eq_false, decide_true, decide_false, okS, noOwn, covers, tgIs, wipeO, List.all_cons, List.all_nil, List.any_cons, List.any_nil, Bool.and_true, Bool.true_and, Bool.and_self, Bool.or_false, Bool.false_or, Bool.or_true, beq_self_nat, kd, Int.reduceLT, Int.reduceLE, Int.reduceNeg, Int.reduceAdd, Int.reduceToNat, Int.reduceMul, Int.reduceSub, and_true, true_and, and_self, ite_true, ite_false, ↓reduceIte, nbeq, eq_self, ap_ext, ap_app, ap_put, lstK1_l, lstL_l, dicL_d, listK_l, m0, e0, w1, w2, w3]

end VL

open PySem PySem.W PyProof.Rows
set_option maxRecDepth 100000 in
set_option maxHeartbeats 0 in
theorem PySem.Challenge.cw_diceboxes_k02_written_holds : PySem.Challenge.rw_diceboxes_k02_written.Holds := by
  w_on; o_law; k_head; (case hw => w_witness2)
  k_fill
  refine VL.walk (l := PySem.Challenge.rw_diceboxes_k02_written) rfl rfl (fun w h Y => PySem.W.kIn_of Y) ?F
  case F =>
    intro w mg fa h KX G hmg
    refine' VL.all_mk KX G hmg ?a0 ?l0 ?c0 ?k0 ?a1 ?l1 ?c1 ?k1 ?a2 ?l2 ?c2 ?k2 ?a3 ?l3 ?c3 ?k3 ?a4 ?l4 ?c4 ?k4 ?a5 ?l5 ?c5 ?k5 ?a6 ?l6 ?c6 ?k6 ?a7 ?l7 ?c7 ?k7 ?a8 ?l8 ?c8 ?k8 ?a9 ?l9 ?c9 ?k9 ?z0 ?z1 ?z2 ?z3 ?z4 ?z5 ?z6 ?z7 ?z8 ?z9 ?z10 ?z11 ?z12 ?z13 ?z14 ?z15 ?z16 ?z17 ?z18 ?z19 VL.plain_law
    (case a0 => k_is)
    (case l0 => k_is)
    (case c0 => k_is)
    (case k0 => k_is)
    (case a1 => k_is)
    (case l1 => k_is)
    (case c1 => k_is)
    (case k1 => k_is)
    (case a2 => k_is)
    (case l2 => k_is)
    (case c2 => k_is)
    (case k2 => k_is)
    (case a3 => k_is)
    (case l3 => k_is)
    (case c3 => k_is)
    (case k3 => k_is)
    (case a4 => k_is)
    (case l4 => k_is)
    (case c4 => k_is)
    (case k4 => k_is)
    (case a5 => k_is)
    (case l5 => k_is)
    (case c5 => k_is)
    (case k5 => k_is)
    (case a6 => k_is)
    (case l6 => k_is)
    (case c6 => k_is)
    (case k6 => k_is)
    (case a7 => k_is)
    (case l7 => k_is)
    (case c7 => k_is)
    (case k7 => k_is)
    (case a8 => k_is)
    (case l8 => k_is)
    (case c8 => k_is)
    (case k8 => k_is)
    (case a9 => k_is)
    (case l9 => k_is)
    (case c9 => k_is)
    (case k9 => k_is)
    (case z0 => k_is)
    (case z1 => k_is)
    (case z2 => k_is)
    (case z3 => k_is)
    (case z4 => k_is)
    (case z5 => k_is)
    (case z6 => k_is)
    (case z7 => k_is)
    (case z8 => k_is)
    (case z9 => k_is)
    (case z10 => k_is)
    (case z11 => k_is)
    (case z12 => k_is)
    (case z13 => k_is)
    (case z14 => k_is)
    (case z15 => k_is)
    (case z16 => k_is)
    (case z17 => k_is)
    (case z18 => k_is)
    (case z19 => k_is)
#print axioms PySem.Challenge.cw_diceboxes_k02_written_holds
