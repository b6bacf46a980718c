import PyProof.Rows.All
import PySem.Challenge.RW_diceboxes_k42_whole_goals_move_by_move
import Wide.All
import OpenK.AllK
import Wide.FinOn
import HandS.ForMost
import HandS.Wide
import HandS.TupAny
import KE.KeyNested
import KE.KDictKeyed
import KE.KDictWalk
import KE.DataEq
import KE.DataFind
import KE.DataIsa
import KE.DataAny
import KE.DataMinMax
import KE.SortData
import KE.OsSortAny
import HandS.TupLe
import HandS.TupMul
import HandS.Style
import KE.KDictCopyH
import KE.LtSeq
import KE.KDictDisplayH
import KE.GoesEnum
import KE.KDictItemsList
import HandS.Keys
import HandS.Text
import HandS.RaiseMore
set_option Elab.async false
set_option linter.all false
set_option maxRecDepth 100000
/-! V1: values, slots, environments; what an operation does to values. Plain Lean: no heap, no program. -/
namespace VL
open PySem
abbrev D := PyData

mutual
/-- a slot: unbound; a value that never changes; a list or a dict that this slot alone holds; an object with its fields -/
inductive O
  | un | val (d : D) | lst (l : List D) | dic (l : List (D × D)) | ins (c : Nat) (fs : Fs) | bor (j : Nat) (o : O)
inductive Fs
  | nil | cons (f : Str) (o : O) (r : Fs)
end
abbrev Ev := List O → Option (D × List O)
/-- what an operand is, told by the slots as they stand when the operation is done -/
abbrev Pk := List O → Option ((List O → Option D) × List O)

def LIM : Nat := 1000000

/-! ### operations on values -/
def sNeg : D → Option D
  | .int a => some (.int (-a))
  | _ => none
def sAdd : D → D → Option D
  | .int a, .int b => some (.int (a + b))
  | .tuple a, .tuple b => if a.length + b.length ≤ LIM then some (.tuple (a ++ b)) else none
  | _, _ => none
/-- of two lists: a new one -/
def sCat : D → D → Option D
  | .list a, .list b => if a.length + b.length ≤ LIM then some (.list (a ++ b)) else none
  | _, _ => none
def sSub : D → D → Option D
  | .int a, .int b => some (.int (a - b))
  | _, _ => none
def mulOk (a b : Int) : Bool := decide (b.natAbs < 2 ^ 64) || decide (a.natAbs < 2 ^ 64) || decide (a.natAbs.log2 + b.natAbs.log2 < 1000000)
def sMul : D → D → Option D
  | .int a, .int b => if mulOk a b = true then some (.int (a * b)) else none
  | _, _ => none
def sDiv : D → D → Option D
  | .int a, .int b => if decide (0 < b) && decide (b.natAbs.log2 < 9000) then some (.int (a / b)) else none
  | _, _ => none
def sMod : D → D → Option D
  | .int a, .int b => if 0 < b then some (.int (a % b)) else none
  | _, _ => none
def lvl : Nat := 60
def sEq : D → D → Option D := fun a b => if a.plain && b.plain && decide (a.depth ≤ lvl) then some (.bool (PyData.eqv a b)) else none
def sNe : D → D → Option D := fun a b => if a.plain && b.plain && decide (a.depth ≤ lvl) then some (.bool (!PyData.eqv a b)) else none
def sLt : D → D → Option D
  | .int a, .int b => some (.bool (decide (a < b)))
  | _, _ => none
def sLe : D → D → Option D
  | .int a, .int b => some (.bool (decide (a ≤ b)))
  | _, _ => none
def sGt : D → D → Option D
  | .int a, .int b => some (.bool (decide (b < a)))
  | _, _ => none
def sGe : D → D → Option D
  | .int a, .int b => some (.bool (decide (b ≤ a)))
  | _, _ => none
/-- the items of a list or a tuple -/
def seqOf : D → Option (List D)
  | .list l => some l
  | .tuple l => some l
  | _ => none
def sIn (x c : D) : Option D := match c with
  | .list l => if x.plain && PyData.plainAll l && decide (x.depth ≤ lvl) then some (.bool (l.any fun z => PyData.eqv z x)) else none
  | .tuple l => if x.plain && PyData.plainAll l && decide (x.depth ≤ lvl) then some (.bool (l.any fun z => PyData.eqv z x)) else none
  | _ => none
def sNin (x c : D) : Option D := match c with
  | .list l => if x.plain && PyData.plainAll l && decide (x.depth ≤ lvl) then some (.bool (!l.any fun z => PyData.eqv z x)) else none
  | .tuple l => if x.plain && PyData.plainAll l && decide (x.depth ≤ lvl) then some (.bool (!l.any fun z => PyData.eqv z x)) else none
  | _ => none
def sNoneB : D → Bool
  | .none => true
  | _ => false
/-- is, of None or a truth on the right -/
def sIs : D → D → Option D
  | d, .none => some (.bool (sNoneB d))
  | .bool a, .bool b => some (.bool (decide (a = b)))
  | _, _ => none
def sIsn : D → D → Option D
  | d, .none => some (.bool (!sNoneB d))
  | .bool a, .bool b => some (.bool (!decide (a = b)))
  | _, _ => none
def sNot : D → Option D
  | .bool b => some (.bool (!b))
  | _ => none
def sLen : D → Option D
  | .list l => some (.int l.length)
  | .tuple l => some (.int l.length)
  | _ => none
/-- an item by its place, from behind where the place is below nought -/
def ixOf (l : List D) (i : Int) : Option D := L2.atI l i
def sIx : D → D → Option D
  | .list l, .int i => ixOf l i
  | .tuple l, .int i => ixOf l i
  | _, _ => none
def intsOf : List D → Option (List Int)
  | [] => some []
  | .int i :: r => (intsOf r).map (i :: ·)
  | _ :: _ => none
def boolsOf : List D → Option (List Bool)
  | [] => some []
  | .bool i :: r => (boolsOf r).map (i :: ·)
  | _ :: _ => none
def sSum (c : D) : Option D := do
  let l ← seqOf c
  let ns ← intsOf l
  some (.int ns.sum)
def sAny (c : D) : Option D := match c with
  | .list l => (boolsOf l).map fun bs => .bool (bs.any id)
  | _ => none
def sAll (c : D) : Option D := match c with
  | .list l => (boolsOf l).map fun bs => .bool (bs.all id)
  | _ => none
def sMax (c : D) : Option D := match c with
  | .list l => match intsOf l with
    | some (n :: ns) => some (.int (ns.foldl max n))
    | _ => none
  | _ => none
def sMin2 : D → D → Option D
  | .int a, .int b => some (.int (if b < a then b else a))
  | _, _ => none
def sMax2 : D → D → Option D
  | .int a, .int b => some (.int (if a < b then b else a))
  | _, _ => none
def sAbs : D → Option D
  | .int a => some (.int (if a < 0 then -a else a))
  | _ => none
def sInt : D → Option D
  | .int a => some (.int a)
  | .bool b => some (.int (if b then 1 else 0))
  | _ => none
/-- t.count(x) of a tuple, l.count(x) of a list -/
def sCount (c x : D) : Option D := match c with
  | .tuple l => if x.plain && PyData.plainAll l && decide (x.depth ≤ lvl) then some (.int (l.countP fun y => PyData.eqv y x)) else none
  | .list l => if x.plain && PyData.plainAll l && decide (x.depth ≤ lvl) then some (.int (l.countP fun y => PyData.eqv y x)) else none
  | _ => none
/-- tuple(x) -/
def sTuple : D → Option D
  | .list l => some (.tuple l)
  | .tuple l => some (.tuple l)
  | _ => none
/-- list(x): a new list -/
def sList : D → Option D
  | .list l => some (.list l)
  | .tuple l => some (.list l)
  | .dict l => some (.list (l.map (·.1)))
  | _ => none
def sIsInt : D → Option D := fun d => some (.bool d.isInt)
def sIsBool : D → Option D := fun d => some (.bool d.isBool)
def sIsStr : D → Option D := fun d => some (.bool d.isStr)
def sIsTuple : D → Option D := fun d => some (.bool d.isTuple)
/-- a slice: its ends as they are told -/
def partOf : D → Option (Option Int)
  | .none => some none
  | .int i => some (some i)
  | _ => none
def cutL {α : Type} (l : List α) (lo hi : Option Int) : List α := (l.drop (HT.sIx l.length 0 lo)).take (HT.sIx l.length l.length hi - HT.sIx l.length 0 lo)
def sCutT (c a b : D) : Option D := match c with
  | .tuple l => match partOf a, partOf b with
    | some lo, some hi => some (.tuple (cutL l lo hi))
    | _, _ => none
  | _ => none
def sCutL (c a b : D) : Option D := match c with
  | .list l => match partOf a, partOf b with
    | some lo, some hi => some (.list (cutL l lo hi))
    | _, _ => none
  | _ => none

/-! ### keys of dicts -/
mutual
def nk : D → Option NestedKey
  | .none => some .none
  | .int i => some (.num i)
  | .str x => some (.text x)
  | .tuple l => (nks l).map .tup
  | .bool _ => none
  | .list _ => none
  | .dict _ => none
def nks : List D → Option (List NestedKey)
  | [] => some []
  | d :: r => match nk d, nks r with
    | some k, some ks => some (k :: ks)
    | _, _ => none
end
/-- a key's kind: a number or a text; a tuple of numbers, texts, None and such tuples -/
def kcls (d : D) : Option Bool := match d with
  | .int _ => some false
  | .str _ => some false
  | .tuple l => match nks l with
    | some ks => if NestedKey.depth (.tup ks) ≤ 8 then some true else none
    | none => none
  | _ => none
def keysAre (c : Bool) (l : List (D × D)) : Bool := l.all fun p => kcls p.1 == some c
def dgo (k : D) : List (D × D) → Option D
  | [] => none
  | p :: r => if PyData.eqv p.1 k then some p.2 else dgo k r
def dput (k v : D) : List (D × D) → List (D × D)
  | [] => [(k, v)]
  | p :: r => if PyData.eqv p.1 k then (p.1, v) :: r else p :: dput k v r
/-- what a dict holds at a key, if the key may be asked -/
def dAsk (l : List (D × D)) (k : D) : Option (Option D) := match kcls k with
  | some c => if keysAre c l then some (dgo k l) else none
  | none => none
def sDin (k c : D) : Option D := match c with
  | .dict l => (dAsk l k).map fun o => .bool o.isSome
  | _ => none
def sDget (c k : D) : Option D := match c with
  | .dict l => (dAsk l k).join
  | _ => none
def sDgetOr (c k x : D) : Option D := match c with
  | .dict l => (dAsk l k).map fun o => o.getD x
  | _ => none

/-! ### environments -/
def eC (d : D) : Ev := fun ρ => some (d, ρ)
def eV (i : Nat) : Ev := fun ρ => match ρ[i]? with
  | some (.val d) => some (d, ρ)
  | some (.lst l) => some (.list l, ρ.set i (.val (.list l)))
  | some (.dic l) => some (.dict l, ρ.set i (.val (.dict l)))
  | _ => none
/-- a slot's value as it stands -/
def peek (ρ : List O) (i : Nat) : Option D := match ρ[i]? with
  | some (.val d) => some d
  | some (.lst l) => some (.list l)
  | some (.dic l) => some (.dict l)
  | some (.bor _ (.lst l)) => some (.list l)
  | some (.bor _ (.dic l)) => some (.dict l)
  | _ => none
def kE (a : Ev) : Pk := fun ρ => match a ρ with
  | some (x, ρ1) => some (fun _ => some x, ρ1)
  | none => none
def kP (i : Nat) : Pk := fun ρ => match peek ρ i with
  | some _ => some (fun ρ' => peek ρ' i, ρ)
  | none => none
def o1 (f : D → Option D) (a : Pk) : Ev := fun ρ => match a ρ with
  | some (t, ρ1) => match t ρ1 with
    | some x => match f x with
      | some r => some (r, ρ1)
      | none => none
    | none => none
  | none => none
def o2 (f : D → D → Option D) (a b : Pk) : Ev := fun ρ => match a ρ with
  | some (t, ρ1) => match b ρ1 with
    | some (u, ρ2) => match t ρ2, u ρ2 with
      | some x, some y => match f x y with
        | some r => some (r, ρ2)
        | none => none
      | _, _ => none
    | none => none
  | none => none
def o3 (f : D → D → D → Option D) (a b c : Pk) : Ev := fun ρ => match a ρ with
  | some (t, ρ1) => match b ρ1 with
    | some (u, ρ2) => match c ρ2 with
      | some (v, ρ3) => match t ρ3, u ρ3, v ρ3 with
        | some x, some y, some z => match f x y z with
          | some r => some (r, ρ3)
          | none => none
        | _, _, _ => none
      | none => none
    | none => none
  | none => none
/-- several expressions, from the left -/
abbrev Evs := List O → Option (List D × List O)
def esNil : Evs := fun ρ => some ([], ρ)
def esCons (a : Ev) (r : Evs) : Evs := fun ρ => match a ρ with
  | some (x, ρ1) => match r ρ1 with
    | some (xs, ρ2) => some (x :: xs, ρ2)
    | none => none
  | none => none
def eTup (es : Evs) : Ev := fun ρ => match es ρ with
  | some (xs, ρ1) => if xs.length ≤ LIM then some (.tuple xs, ρ1) else none
  | none => none
def eLst (es : Evs) : Ev := fun ρ => match es ρ with
  | some (xs, ρ1) => if xs.length ≤ LIM then some (.list xs, ρ1) else none
  | none => none
def eAnd (a b : Ev) : Ev := fun ρ => match a ρ with
  | some (.bool true, ρ1) => b ρ1
  | some (.bool false, ρ1) => some (.bool false, ρ1)
  | _ => none
def eOr (a b : Ev) : Ev := fun ρ => match a ρ with
  | some (.bool true, ρ1) => some (.bool true, ρ1)
  | some (.bool false, ρ1) => b ρ1
  | _ => none
/-- a op b op' c -/
def eChain (f g : D → D → Option D) (a b c : Ev) : Ev := fun ρ => match a ρ with
  | some (x, ρ1) => match b ρ1 with
    | some (y, ρ2) => match f x y with
      | some (.bool true) => match c ρ2 with
        | some (z, ρ3) => match g y z with
          | some (.bool r) => some (.bool r, ρ3)
          | _ => none
        | none => none
      | some (.bool false) => some (.bool false, ρ2)
      | _ => none
    | none => none
  | none => none
/-- a call of a def by values -/
def eCall (φ : List D → Option D) (es : Evs) : Ev := fun ρ => match es ρ with
  | some (xs, ρ1) => match φ xs with
    | some r => some (r, ρ1)
    | none => none
  | none => none

/-! ### what is walked -/
/-- where it comes from: the items, and the slots behind that -/
abbrev Iv := List O → Option (List D × List O)
def rangeL (lo : Int) (n : Nat) : List D := (List.range n).map fun (i : Nat) => .int (lo + (i : Int))
def iSeq (a : Ev) : Iv := fun ρ => match a ρ with
  | some (.list l, ρ1) => some (l, ρ1)
  | some (.tuple l, ρ1) => some (l, ρ1)
  | _ => none
def iR1 (a : Ev) : Iv := fun ρ => match a ρ with
  | some (.int n, ρ1) => if -LIM ≤ n ∧ n ≤ LIM then some (rangeL 0 n.toNat, ρ1) else none
  | _ => none
def iR2 (a b : Ev) : Iv := fun ρ => match a ρ with
  | some (.int m, ρ1) => match b ρ1 with
    | some (.int n, ρ2) => if -LIM ≤ m ∧ m ≤ LIM ∧ -LIM ≤ n ∧ n ≤ LIM then some (rangeL m (n - m).toNat, ρ2) else none
    | _ => none
  | _ => none
/-- a target: one name, or several by a tuple -/
inductive Tg | one (i : Nat) | many (is : List Nat)
def setAll : List Nat → List D → List O → Option (List O)
  | [], [], ρ => some ρ
  | i :: is, d :: ds, ρ => setAll is ds (ρ.set i (.val d))
  | _, _, _ => none
def tgo : Tg → D → List O → Option (List O)
  | .one i, d, ρ => some (ρ.set i (.val d))
  | .many is, .tuple ds, ρ => setAll is ds ρ
  | .many _, _, _ => none
def tgIs : Tg → List Nat
  | .one i => [i]
  | .many is => is
/-- slots that are not told any more -/
def wipeO (ρ : List O) : List Nat → List O
  | [] => ρ
  | i :: is => (wipeO ρ is).set i .un
/-- these slots hold no list or dict of their own -/
def noOwn (ρ : List O) (is : List Nat) : Bool := is.all fun i => match ρ[i]? with
  | some (.val _) => true
  | some .un => true
  | _ => false
/-- one turn of a comprehension: the test, the item -/
def lcTurn (tg : Tg) (c e : Ev) (vs : List Nat) (x : D) (ρ : List O) (acc : List D) : Option (List D × List O) := match tgo tg x ρ with
  | some ρ1 => match c ρ1 with
    | some (.bool true, ρ2) => match e ρ2 with
      | some (y, ρ3) => some (acc ++ [y], wipeO ρ3 vs)
      | none => none
    | some (.bool false, ρ2) => some (acc, wipeO ρ2 vs)
    | _ => none
  | none => none
def lcLoop (tg : Tg) (c e : Ev) (vs : List Nat) : List D → List O → List D → Option (List D × List O)
  | [], ρ, acc => some (acc, ρ)
  | x :: xs, ρ, acc => match lcTurn tg c e vs x ρ acc with
    | some (acc', ρ') => lcLoop tg c e vs xs ρ' acc'
    | none => none
/-- the slots vs of the comprehension are given back behind it -/
def giveBack (old new : List O) : List Nat → List O
  | [] => new
  | i :: is => match old[i]? with
    | some o => (giveBack old new is).set i o
    | none => giveBack old new is
def eComp (it : Iv) (tg : Tg) (c e : Ev) (vs : List Nat) : Ev := fun ρ => match it ρ with
  | some (xs, ρ1) => if noOwn ρ1 vs then match lcLoop tg c e vs xs (wipeO ρ1 vs) [] with
      | some (acc, ρ2) => some (.list acc, giveBack ρ1 ρ2 vs)
      | none => none
    else none
  | none => none
def eTrue : Ev := fun ρ => some (.bool true, ρ)

/-! ### statements -/
inductive Fl | nx | rt (d : D) | bk | ct
abbrev Sm := List O → Option (Fl × List O)
def sNil : Sm := fun ρ => some (.nx, ρ)
def sSeq (a b : Sm) : Sm := fun ρ => match a ρ with
  | some (.nx, ρ1) => b ρ1
  | r => r
def sSet (t : Tg) (e : Ev) : Sm := fun ρ => match e ρ with
  | some (d, ρ1) => match tgo t d ρ1 with
    | some ρ2 => some (.nx, ρ2)
    | none => none
  | none => none
/-- name = a new list or dict: the name's own -/
def sOwn (i : Nat) (e : Ev) : Sm := fun ρ => match e ρ with
  | some (.list l, ρ1) => some (.nx, ρ1.set i (.lst l))
  | some (.dict l, ρ1) => some (.nx, ρ1.set i (.dic l))
  | _ => none
def sRet (e : Ev) : Sm := fun ρ => match e ρ with
  | some (d, ρ1) => some (.rt d, ρ1)
  | none => none
def sIf (c : Ev) (a b : Sm) : Sm := fun ρ => match c ρ with
  | some (.bool true, ρ1) => a ρ1
  | some (.bool false, ρ1) => b ρ1
  | _ => none
/-- name.append(e) -/
def sApp (i : Nat) (e : Ev) : Sm := fun ρ => match ρ[i]? with
  | some (.lst _) => match e ρ with
    | some (d, ρ1) => match ρ1[i]? with
      | some (.lst l) => if l.length < LIM then some (.nx, ρ1.set i (.lst (l ++ [d]))) else none
      | _ => none
    | none => none
  | _ => none
/-- name[k] = e, name a dict -/
def sPut (i : Nat) (k e : Ev) : Sm := fun ρ => match e ρ with
  | some (v, ρ1) => match k ρ1 with
    | some (key, ρ2) => match ρ2[i]? with
      | some (.dic l) => match dAsk l key with
        | some _ => if l.length < LIM then some (.nx, ρ2.set i (.dic (dput key v l))) else none
        | none => none
      | _ => none
    | none => none
  | none => none
def forLoop (t : Tg) (b : Sm) : List D → Sm
  | [], ρ => some (.nx, ρ)
  | x :: xs, ρ => match tgo t x ρ with
    | some ρ1 => match b ρ1 with
      | some (.nx, ρ2) => forLoop t b xs ρ2
      | some (.ct, ρ2) => forLoop t b xs ρ2
      | some (.bk, ρ2) => some (.nx, ρ2)
      | some (.rt d, ρ2) => some (.rt d, ρ2)
      | none => none
    | none => none
def sFor (t : Tg) (it : Iv) (b : Sm) : Sm := fun ρ => match it ρ with
  | some (xs, ρ1) => forLoop t b xs ρ1
  | none => none
def whLoop (c : Ev) (b : Sm) : Nat → Sm
  | 0, _ => none
  | n + 1, ρ => match c ρ with
    | some (.bool true, ρ1) => match b ρ1 with
      | some (.nx, ρ2) => whLoop c b n ρ2
      | some (.ct, ρ2) => whLoop c b n ρ2
      | some (.bk, ρ2) => some (.nx, ρ2)
      | some (.rt d, ρ2) => some (.rt d, ρ2)
      | none => none
    | some (.bool false, ρ1) => some (.nx, ρ1)
    | _ => none
/-- a while: with a number of turns that is enough -/
def sWh (μ : List O → Nat) (c : Ev) (b : Sm) : Sm := fun ρ => whLoop c b (μ ρ) ρ
/-- name1, name2 = a, b -/
def sPar (i j : Nat) (a b : Ev) : Sm := fun ρ => match a ρ with
  | some (x, ρ1) => match b ρ1 with
    | some (y, ρ2) => some (.nx, (ρ2.set i (.val x)).set j (.val y))
    | none => none
  | none => none

/-- a def: its parameters' values, then its other names, unbound -/
def runDef (n : Nat) (b : Sm) (ds : List D) : Option D := match b (ds.map .val ++ List.replicate (n - ds.length) .un) with
  | some (.rt d, _) => some d
  | some (.nx, _) => some .none
  | _ => none
end VL

set_option Elab.async false
set_option linter.all false
set_option maxRecDepth 100000
/-! V2: how values lie in the tracked heap; what a slot holds alone; growth. -/
namespace VL
open PySem PySem.Spec PyProof.Rows L2

/-- the written part, the world, the classes by number -/
structure Ct where
  K : PySem.W.Frag
  w : World
  ci : Nat → Option Addr
  tau : Nat → Addr
mutual
/-- nothing borrowed in it -/
def noBor : O → Bool
  | .un => true
  | .val _ => true
  | .lst _ => true
  | .dic _ => true
  | .ins _ fs => noBorF fs
  | .bor _ _ => false
def noBorF : Fs → Bool
  | .nil => true
  | .cons _ o r => noBor o && noBorF r
end

/-- what lies at a dict: entries by hash, key, value -/
inductive Ent : List DictEntry → List Int → List V → List V → Prop
  | nil : Ent [] [] [] []
  | cons {e : DictEntry} {es : List DictEntry} {h : Int} {hs : List Int} {x y : V} {xs ys : List V} : e.hash = h → RelV x e.key → RelV y e.val → Ent es hs xs ys → Ent (e :: es) (h :: hs) (x :: xs) (y :: ys)
def dPhi (a : Addr) (ep : Nat) (hs : List Int) (xs ys : List V) : Heap → Prop := fun h => (a == sysModules) = false ∧ hs.length ≤ sizeLine ∧ ∃ es : Array DictEntry, h.DictRaw a es ep ∧ Ent es.toList hs xs ys
def dO (a : Addr) (ep : Nat) (hs : List Int) (xs ys : List V) : HO := .ext (dPhi a ep hs xs ys)
def hashK (w : World) (d : D) : Int := match nk d with
  | some k => k.hash w
  | none => 0
/-- the keys of a dict differ -/
def keysNd (l : List (D × D)) : Prop := (l.map fun p => nk p.1).Nodup ∧ ∀ p ∈ l, (kcls p.1).isSome = true

mutual
inductive Rp (c : Ct) (G : Hp) : V → D → Prop
  | non : Rp c G .non .none
  | bl (b : Bool) : Rp c G (.bl b) (.bool b)
  | int (i : Int) : Rp c G (.int i) (.int i)
  | str (x : Str) : Rp c G (.str x) (.str x)
  | lst {a : Addr} {xs : List V} {ds : List D} : SqL c.K G a xs → RpA c G xs ds → Rp c G (.ref a) (.list ds)
  | tup {a : Addr} {o : Obj} {xs : List V} {ds : List D} : G a = some (.frz o (.tup xs)) → o.dict = none → RpA c G xs ds → Rp c G (.ref a) (.tuple ds)
  | dic {a : Addr} {ep : Nat} {hs : List Int} {xs ys : List V} {l : List (D × D)} : G a = some (dO a ep hs xs ys) → hs = l.map (fun p => hashK c.w p.1) → keysNd l → RpA c G xs (l.map (·.1)) → RpA c G ys (l.map (·.2)) → Rp c G (.ref a) (.dict l)
inductive RpA (c : Ct) (G : Hp) : List V → List D → Prop
  | nil : RpA c G [] []
  | cons {v : V} {vs : List V} {d : D} {ds : List D} : Rp c G v d → RpA c G vs ds → RpA c G (v :: vs) (d :: ds)
end

/-- more is to be seen -/
def Ge (G G' : Hp) : Prop := ∀ a o, G a = some o → G' a = some o
theorem Ge.refl (G : Hp) : Ge G G := fun _ _ h => h
theorem Ge.trans {G G1 G2 : Hp} (x : Ge G G1) (y : Ge G1 G2) : Ge G G2 := fun a o h => y a o (x a o h)
theorem Ge.upd {G : Hp} {a : Addr} {o : HO} (h : G a = none) : Ge G (upd G a o) := fun b u e => by
  rw [upd_ne (ne_of_none e h)]
  exact e
theorem Ge.rd {G G' : Hp} {a : Addr} {u : HO} (g : Ge G G') (h : Rd G a u) : Rd G' a u := by
  rcases h with h | ⟨o, h⟩
  · exact .inl (g _ _ h)
  · exact .inr ⟨o, g _ _ h⟩
theorem Ge.sqL {K : PySem.W.Frag} {G G' : Hp} {a : Addr} {xs : List V} (g : Ge G G') (h : SqL K G a xs) : SqL K G' a xs := by
  rcases h with h | h
  · exact .inl (g.rd h)
  · exact .inr h
theorem Ge.sqT {K : PySem.W.Frag} {G G' : Hp} {a : Addr} {xs : List V} (g : Ge G G') (h : SqT K G a xs) : SqT K G' a xs := by
  rcases h with h | h
  · exact .inl (g.rd h)
  · exact .inr h

section
variable {c : Ct} {G G' H H' : Hp}
mutual
theorem Rp.mono (g : Ge G G') : ∀ {v : V} {d : D}, Rp c G v d → Rp c G' v d
  | _, _, .non => .non
  | _, _, .bl b => .bl b
  | _, _, .int i => .int i
  | _, _, .str x => .str x
  | _, _, .lst h r => .lst (g.sqL h) (RpA.mono g r)
  | _, _, .tup h k r => .tup (g _ _ h) k (RpA.mono g r)
  | _, _, .dic h1 h2 h3 r1 r2 => .dic (g _ _ h1) h2 h3 (RpA.mono g r1) (RpA.mono g r2)
theorem RpA.mono (g : Ge G G') : ∀ {vs : List V} {ds : List D}, RpA c G vs ds → RpA c G' vs ds
  | _, _, .nil => .nil
  | _, _, .cons h r => .cons (Rp.mono g h) (RpA.mono g r)
end
theorem RpA.length : ∀ {vs : List V} {ds : List D}, RpA c G vs ds → vs.length = ds.length
  | _, _, .nil => rfl
  | _, _, .cons _ r => by rw [List.length_cons, List.length_cons, RpA.length r]
theorem RpA.append : ∀ {vs us : List V} {ds es : List D}, RpA c G vs ds → RpA c G us es → RpA c G (vs ++ us) (ds ++ es)
  | _, _, _, _, .nil, q => q
  | _, _, _, _, .cons h r, q => .cons h (RpA.append r q)
theorem RpA.get : ∀ {vs : List V} {ds : List D} {i : Nat} {d : D}, RpA c G vs ds → ds[i]? = some d → ∃ v, vs[i]? = some v ∧ Rp c G v d
  | _, _, _, _, .nil, e => by simp at e
  | _, _, 0, _, .cons h _, e => by
    have e' := Option.some.inj e
    subst e'
    exact ⟨_, rfl, h⟩
  | _, _, i + 1, _, .cons _ r, e => by
    obtain ⟨v, h1, h2⟩ := RpA.get (i := i) r (by simpa using e)
    exact ⟨v, by simpa using h1, h2⟩
theorem RpA.getV : ∀ {vs : List V} {ds : List D} {i : Nat} {v : V}, RpA c G vs ds → vs[i]? = some v → ∃ d, ds[i]? = some d ∧ Rp c G v d
  | _, _, _, _, .nil, e => by simp at e
  | _, _, 0, _, .cons h _, e => by
    have e' := Option.some.inj e
    subst e'
    exact ⟨_, rfl, h⟩
  | _, _, i + 1, _, .cons _ r, e => by
    obtain ⟨v, h1, h2⟩ := RpA.getV (i := i) r (by simpa using e)
    exact ⟨v, by simpa using h1, h2⟩
theorem RpA.take (n : Nat) : ∀ {vs : List V} {ds : List D}, RpA c G vs ds → RpA c G (vs.take n) (ds.take n) := by
  induction n with
  | zero => intro vs ds _; exact .nil
  | succ n ih =>
    intro vs ds r
    cases r with
    | nil => exact .nil
    | cons h r => exact .cons h (ih r)
theorem RpA.drop (n : Nat) : ∀ {vs : List V} {ds : List D}, RpA c G vs ds → RpA c G (vs.drop n) (ds.drop n) := by
  induction n with
  | zero => intro vs ds r; exact r
  | succ n ih =>
    intro vs ds r
    cases r with
    | nil => exact .nil
    | cons h r => exact ih r
theorem RpA.ints (c : Ct) (G : Hp) : ∀ ns : List Int, RpA c G (ns.map V.int) (ns.map PyData.int)
  | [] => .nil
  | n :: ns => .cons (.int n) (RpA.ints c G ns)

/-! ### what a slot holds -/
mutual
def RpO (c : Ct) (G H : Hp) : O → Option V → List Addr → Prop
  | .un, _, f => f = []
  | .val d, s, f => f = [] ∧ ∃ v, s = some v ∧ Rp c G v d
  | .lst l, s, f => ∃ a xs, s = some (.ref a) ∧ f = [a] ∧ H a = some (.lst xs) ∧ RpA c G xs l
  | .dic l, s, f => ∃ a ep hs xs ys, s = some (.ref a) ∧ f = [a] ∧ H a = some (dO a ep hs xs ys) ∧ hs = l.map (fun p => hashK c.w p.1) ∧ keysNd l ∧ RpA c G xs (l.map (·.1)) ∧ RpA c G ys (l.map (·.2))
  | .ins k fs, s, f => ∃ a dx C flds f', s = some (.ref a) ∧ c.ci k = some C ∧ H a = some (.ins C dx flds) ∧ H dx = some (.own a) ∧ f = a :: dx :: f' ∧ RpF c G H fs flds f'
  | .bor j o, s, f => s = some (.ref (c.tau j)) ∧ noBor o = true ∧ RpO c G H o s f
def RpF (c : Ct) (G H : Hp) : Fs → List (Str × V) → List Addr → Prop
  | .nil, l, f => l = [] ∧ f = []
  | .cons n o r, l, f => ∃ v l' f1 f2, l = (n, v) :: l' ∧ f = f1 ++ f2 ∧ RpO c G H o (some v) f1 ∧ RpF c G H r l' f2
end
mutual
theorem RpO.mono (g : Ge G G') : ∀ {o : O} {s : Option V} {f : List Addr}, (∀ a ∈ f, H' a = H a) → RpO c G H o s f → RpO c G' H' o s f
  | .un, _, _, _, h => h
  | .val d, _, _, _, h => by
    obtain ⟨h0, v, h1, h2⟩ := h
    exact ⟨h0, v, h1, h2.mono g⟩
  | .lst l, _, _, k, h => by
    obtain ⟨a, xs, h1, h2, h3, h4⟩ := h
    subst h2
    exact ⟨a, xs, h1, rfl, (k a (by simp)).trans h3, h4.mono g⟩
  | .dic l, _, _, k, h => by
    obtain ⟨a, ep, hs, xs, ys, h1, h2, h3, h4, h5, h6, h7⟩ := h
    subst h2
    exact ⟨a, ep, hs, xs, ys, h1, rfl, (k a (by simp)).trans h3, h4, h5, h6.mono g, h7.mono g⟩
  | .ins n fs, _, _, k, h => by
    obtain ⟨a, dx, C, flds, f', h1, h2, h3, h4, h5, h6⟩ := h
    subst h5
    exact ⟨a, dx, C, flds, f', h1, h2, (k a (by simp)).trans h3, (k dx (by simp)).trans h4, rfl, RpF.mono g (fun b hb => k b (by simp [hb])) h6⟩
  | .bor j o, _, _, k, h => by
    obtain ⟨h1, h2, h3⟩ := h
    exact ⟨h1, h2, RpO.mono g k h3⟩
theorem RpF.mono (g : Ge G G') : ∀ {fs : Fs} {l : List (Str × V)} {f : List Addr}, (∀ a ∈ f, H' a = H a) → RpF c G H fs l f → RpF c G' H' fs l f
  | .nil, _, _, _, h => h
  | .cons n o r, _, _, k, h => by
    obtain ⟨v, l', f1, f2, h1, h2, h3, h4⟩ := h
    subst h2
    exact ⟨v, l', f1, f2, h1, rfl, RpO.mono g (fun b hb => k b (by simp [hb])) h3, RpF.mono g (fun b hb => k b (by simp [hb])) h4⟩
end
mutual
theorem RpO.there : ∀ {o : O} {s : Option V} {f : List Addr}, RpO c G H o s f → ∀ a ∈ f, ∃ u, H a = some u
  | .un, _, _, h, a, ha => by
    have e : _ = [] := h
    rw [e] at ha
    cases ha
  | .val d, _, _, h, a, ha => by
    rw [h.1] at ha
    cases ha
  | .lst l, _, _, h, b, hb => by
    obtain ⟨a, xs, h1, h2, h3, h4⟩ := h
    subst h2
    rw [List.mem_singleton.mp hb]
    exact ⟨_, h3⟩
  | .dic l, _, _, h, b, hb => by
    obtain ⟨a, ep, hs, xs, ys, h1, h2, h3, _⟩ := h
    subst h2
    rw [List.mem_singleton.mp hb]
    exact ⟨_, h3⟩
  | .ins n fs, _, _, h, b, hb => by
    obtain ⟨a, dx, C, flds, f', h1, h2, h3, h4, h5, h6⟩ := h
    subst h5
    rcases List.mem_cons.mp hb with e | hb
    · rw [e]; exact ⟨_, h3⟩
    · rcases List.mem_cons.mp hb with e | hb
      · rw [e]; exact ⟨_, h4⟩
      · exact RpF.there h6 b hb
  | .bor j o, _, _, h, b, hb => RpO.there h.2.2 b hb
theorem RpF.there : ∀ {fs : Fs} {l : List (Str × V)} {f : List Addr}, RpF c G H fs l f → ∀ a ∈ f, ∃ u, H a = some u
  | .nil, _, _, h, a, ha => by
    rw [h.2] at ha
    cases ha
  | .cons n o r, _, _, h, a, ha => by
    obtain ⟨v, l', f1, f2, h1, h2, h3, h4⟩ := h
    subst h2
    rcases List.mem_append.mp ha with q | q
    · exact RpO.there h3 a q
    · exact RpF.there h4 a q
end
def Slots (c : Ct) (G H : Hp) : List (Option V) → List O → List Addr → Prop
  | [], [], l => l = []
  | s :: σ, o :: ρ, l => ∃ l1 l2, l = l1 ++ l2 ∧ RpO c G H o s l1 ∧ Slots c G H σ ρ l2
  | _, _, _ => False
theorem Slots.length : ∀ {σ : List (Option V)} {ρ : List O} {l : List Addr}, Slots c G H σ ρ l → σ.length = ρ.length
  | [], [], _, _ => rfl
  | s :: σ, o :: ρ, _, h => by
    obtain ⟨_, _, _, _, h⟩ := h
    rw [List.length_cons, List.length_cons, Slots.length h]
  | [], _ :: _, _, h => h.elim
  | _ :: _, [], _, h => h.elim
theorem Slots.mono (g : Ge G G') : ∀ {σ : List (Option V)} {ρ : List O} {l : List Addr}, (∀ a ∈ l, H' a = H a) → Slots c G H σ ρ l → Slots c G' H' σ ρ l
  | [], [], _, _, h => h
  | s :: σ, o :: ρ, _, k, h => by
    obtain ⟨l1, l2, e, h1, h2⟩ := h
    subst e
    exact ⟨l1, l2, rfl, h1.mono g fun b hb => k b (by simp [hb]), Slots.mono g (fun b hb => k b (by simp [hb])) h2⟩
  | [], _ :: _, _, _, h => h.elim
  | _ :: _, [], _, _, h => h.elim
theorem Slots.there : ∀ {σ : List (Option V)} {ρ : List O} {l : List Addr}, Slots c G H σ ρ l → ∀ a ∈ l, ∃ u, H a = some u
  | [], [], _, h, a, ha => by
    have e : _ = [] := h
    rw [e] at ha
    cases ha
  | s :: σ, o :: ρ, _, h, a, ha => by
    obtain ⟨l1, l2, e, h1, h2⟩ := h
    subst e
    rcases List.mem_append.mp ha with q | q
    · exact h1.there a q
    · exact Slots.there h2 a q
  | [], _ :: _, _, h, _, _ => h.elim
  | _ :: _, [], _, h, _, _ => h.elim
/-- one slot taken out, and another put in its place -/
theorem Slots.at : ∀ {σ : List (Option V)} {ρ : List O} {l : List Addr} {i : Nat} {o : O}, Slots c G H σ ρ l → ρ[i]? = some o →
    ∃ s l1 l2, σ[i]? = some s ∧ l.Perm (l1 ++ l2) ∧ RpO c G H o s l1 ∧ ∀ (G' H' : Hp) (s' : Option V) (o' : O) (l' : List Addr), Ge G G' → (∀ a ∈ l2, H' a = H a) → RpO c G' H' o' s' l' → ∃ m, m.Perm (l' ++ l2) ∧ Slots c G' H' (σ.set i s') (ρ.set i o') m
  | [], [], _, _, _, _, e => by simp at e
  | s :: σ, o :: ρ, l, 0, o0, h, e => by
    obtain ⟨l1, l2, el, h1, h2⟩ := h
    have e' : o = o0 := Option.some.inj e
    subst e'
    exact ⟨s, l1, l2, rfl, by rw [el], h1, fun G' H' s' o' l' g k r => ⟨l' ++ l2, List.Perm.refl _, l', l2, rfl, r, h2.mono g k⟩⟩
  | s :: σ, o :: ρ, l, i + 1, o0, h, e => by
    obtain ⟨l1, l2, el, h1, h2⟩ := h
    obtain ⟨s0, m1, m2, e1, p, r, k⟩ := Slots.at (i := i) h2 (by simpa using e)
    refine ⟨s0, m1, l1 ++ m2, by simpa using e1, ?_, r, fun G' H' s' o' l' g q r' => ?_⟩
    · rw [el]
      have p1 : (l1 ++ l2).Perm (l1 ++ (m1 ++ m2)) := p.append_left l1
      refine p1.trans ?_
      rw [← List.append_assoc, ← List.append_assoc]
      exact (List.perm_append_comm).append_right m2
    · obtain ⟨m, pm, sm⟩ := k G' H' s' o' l' g (fun a ha => q a (by simp [ha])) r'
      refine ⟨l1 ++ m, ?_, l1, m, rfl, h1.mono g fun a ha => q a (by simp [ha]), sm⟩
      have p1 : (l1 ++ m).Perm (l1 ++ (l' ++ m2)) := pm.append_left l1
      refine p1.trans ?_
      rw [← List.append_assoc, ← List.append_assoc]
      exact (List.perm_append_comm).append_right m2
  | [], _ :: _, _, _, _, h, _ => h.elim
  | _ :: _, [], _, _, _, h, _ => h.elim

/-- Pr: what stands apart, unseen and unchanged; G: what is seen and never changes; the slots' own -/
structure ER (c : Ct) (Pr G H : Hp) (σ : List (Option V)) (ρ : List O) : Prop where
  pr : ∀ a o, Pr a = some o → H a = some o ∧ G a = none
  gh : ∀ a o, G a = some o → H a = some o
  own : ∃ l : List Addr, l.Nodup ∧ (∀ a ∈ l, Pr a = none ∧ G a = none) ∧ Slots c G H σ ρ l
/-- only new things came -/
structure Gr (G H G' H' : Hp) : Prop where
  ge : Ge G G'
  same : Ge H H'
  gh : Ge G' H'
  new : ∀ a, G a = none → (∃ o, H a = some o) → G' a = none
variable {Pr : Hp} {σ : List (Option V)} {ρ : List O}
theorem ER.len (E : ER c Pr G H σ ρ) : σ.length = ρ.length := let ⟨_, _, _, h⟩ := E.own; h.length
theorem Gr.refl (h : Ge G H) : Gr G H G H := ⟨Ge.refl _, Ge.refl _, h, fun _ e _ => e⟩
theorem Gr.trans {G1 H1 G2 H2 : Hp} (x : Gr G H G1 H1) (y : Gr G1 H1 G2 H2) : Gr G H G2 H2 :=
  ⟨x.ge.trans y.ge, x.same.trans y.same, y.gh, fun a e ⟨o, h⟩ => y.new a (x.new a e ⟨o, h⟩) ⟨o, x.same _ _ h⟩⟩
theorem Gr.laid {a : Addr} {o : HO} (h : Ge G H) (n : H a = none) : Gr G H (upd G a o) (upd H a o) := by
  have n2 : G a = none := by
    cases e : G a with
    | none => rfl
    | some u => rw [h a u e] at n; cases n
  refine ⟨Ge.upd n2, Ge.upd n, fun b u e => ?_, fun b e ⟨u, q⟩ => ?_⟩
  · by_cases hb : b = a
    · subst hb; rw [upd_same] at e ⊢; exact e
    · rw [upd_ne hb] at e ⊢; exact h b u e
  · rw [upd_ne (ne_of_none q n)]; exact e
theorem ER.gr (E : ER c Pr G H σ ρ) (g : Gr G H G' H') : ER c Pr G' H' σ ρ := by
  obtain ⟨l, nd, ap, sl⟩ := E.own
  have th := sl.there
  refine ⟨fun a o e => ?_, g.gh, l, nd, fun a ha => ?_, sl.mono g.ge fun a ha => ?_⟩
  · obtain ⟨h1, h2⟩ := E.pr a o e
    exact ⟨g.same _ _ h1, g.new a h2 ⟨o, h1⟩⟩
  · exact ⟨(ap a ha).1, g.new a (ap a ha).2 (th a ha)⟩
  · obtain ⟨u, e⟩ := th a ha
    rw [e, g.same _ _ e]
theorem nodup_sub {l m k : List Addr} (h : l.Nodup) (p : l.Perm (m ++ k)) : k.Nodup := (List.nodup_append.mp (p.nodup_iff.mp h)).2.1
/-- a value is put into a slot -/
theorem ER.setv {i : Nat} {v : V} {d : D} {o : O} (E : ER c Pr G H σ ρ) (hi : ρ[i]? = some o) (r : Rp c G v d) : ER c Pr G H (σ.set i (some v)) (ρ.set i (.val d)) := by
  obtain ⟨l, nd, ap, sl⟩ := E.own
  obtain ⟨s, l1, l2, e1, p, ro, k⟩ := sl.at hi
  obtain ⟨m, pm, sm⟩ := k G H (some v) (.val d) [] (Ge.refl _) (fun _ _ => rfl) ⟨rfl, v, rfl, r⟩
  exact ⟨E.pr, E.gh, m, pm.nodup_iff.mpr (nodup_sub nd p), fun a ha => ap a (p.mem_iff.mpr (List.mem_append_right _ (pm.mem_iff.mp ha))), sm⟩
theorem ER.unset {i : Nat} {s' : Option V} {o : O} (E : ER c Pr G H σ ρ) (hi : ρ[i]? = some o) : ER c Pr G H (σ.set i s') (ρ.set i .un) := by
  obtain ⟨l, nd, ap, sl⟩ := E.own
  obtain ⟨s, l1, l2, e1, p, ro, k⟩ := sl.at hi
  obtain ⟨m, pm, sm⟩ := k G H s' .un [] (Ge.refl _) (fun _ _ => rfl) rfl
  exact ⟨E.pr, E.gh, m, pm.nodup_iff.mpr (nodup_sub nd p), fun a ha => ap a (p.mem_iff.mpr (List.mem_append_right _ (pm.mem_iff.mp ha))), sm⟩
/-- the same, the slot's value as it was -/
theorem set_same {α : Type} : ∀ {l : List α} {i : Nat} {x : α}, l[i]? = some x → l.set i x = l
  | [], i, x, h => by simp at h
  | a :: l, 0, x, h => by
    have e : a = x := Option.some.inj h
    subst e
    rfl
  | a :: l, i + 1, x, h => by
    rw [List.set_cons_succ, set_same (l := l) (by simpa using h)]
theorem ER.ofVal {i : Nat} {d : D} (E : ER c Pr G H σ ρ) (hi : ρ[i]? = some (.val d)) : ∃ v, σ[i]? = some (some v) ∧ Rp c G v d := by
  obtain ⟨l, nd, ap, sl⟩ := E.own
  obtain ⟨s, l1, l2, e1, p, ⟨_, v, rfl, r⟩, k⟩ := sl.at hi
  exact ⟨v, e1, r⟩
/-- a slot's own becomes a thing that is seen -/
theorem ER.show {i : Nat} {o o' : O} {a : Addr} {u : HO} {s : Option V} (E : ER c Pr G H σ ρ) (hi : ρ[i]? = some o) (hs : σ[i]? = some s)
    (hf : ∀ l1, RpO c G H o s l1 → l1 = [a] ∧ H a = some u ∧ (G a = none → RpO c (upd G a u) H o' s [])) : ER c Pr (upd G a u) H σ (ρ.set i o') ∧ G a = none := by
  obtain ⟨l, nd, ap, sl⟩ := E.own
  obtain ⟨s0, l1, l2, e1, p, ro, k⟩ := sl.at hi
  rw [hs] at e1
  cases e1
  obtain ⟨el, hH, ro'⟩ := hf l1 ro
  subst el
  have ha := ap a (p.mem_iff.mpr (by simp))
  obtain ⟨m, pm, sm⟩ := k (upd G a u) H s o' [] (Ge.upd ha.2) (fun _ _ => rfl) (ro' ha.2)
  rw [set_same hs] at sm
  have nd2 := p.nodup_iff.mp nd
  refine ⟨⟨fun b q e => ?_, fun b q e => ?_, m, pm.nodup_iff.mpr (nodup_sub nd p), fun b hb => ?_, sm⟩, ha.2⟩
  · obtain ⟨h1, h2⟩ := E.pr b q e
    refine ⟨h1, ?_⟩
    rw [upd_ne (ne_of_none e ha.1)]
    exact h2
  · by_cases hb : b = a
    · subst hb; rw [upd_same] at e; cases e; exact hH
    · rw [upd_ne hb] at e; exact E.gh b q e
  · have hb2 := pm.mem_iff.mp hb
    have hb3 := ap b (p.mem_iff.mpr (List.mem_append_right _ hb2))
    refine ⟨hb3.1, ?_⟩
    have ne : b ≠ a := fun e => by
      subst e
      exact (List.nodup_append.mp nd2).2.2 b (by simp) b hb2 rfl
    rw [upd_ne ne]
    exact hb3.2
end
end VL

set_option Elab.async false
set_option linter.all false
set_option maxRecDepth 100000
/-! V3: the judgements by values, for expressions. -/
namespace VL
open PySem PySem.Spec PyProof.Rows L2

/-- the names of what is built in, none of them stored by the program -/
def bltNames : List Str := ["len", "sum", "any", "all", "max", "min", "abs", "int", "str", "tuple", "list", "sorted", "isinstance", "range", "zip", "enumerate", "dict", "set", "repr", "bool"]
/-- what holds of a body's context -/
structure XC (c : Ct) (X : Cx) : Prop where
  K : X.K = c.K
  w : X.w = c.w
  calm : X.calm = true
  nd : X.N.Nodup
  hu : X.A.units + 150 < cLine
  blt : ∀ x ∈ bltNames, X.mg x = none
  xe : X.xe = fun _ _ => False
/-- the end of an expression by values -/
def PostE (c : Ct) (Pr G : Hp) (σ : L2.St) (ρ' : List O) (d : D) : VK := fun v H' => ∃ G', Ge G G' ∧ ER c Pr G' H' σ ρ' ∧ Rp c G' v d
/-- an expression does what f says -/
def CE (c : Ct) (X : Cx) (e : Expr) (f : Ev) : Prop := ∀ (pins : List (Addr × Obj)) (s : Shared) (σ : L2.St) (H Pr G : Hp) (ρ ρ' : List O) (d : D), Inv X pins σ H s → ER c Pr G H σ ρ → f ρ = some (d, ρ') →
  wpAny (model X.prog X.w) X.A (eval e X.env) (EP X pins σ (PostE c Pr G σ ρ' d)) X.xe s
/-- the end of a test -/
def PostT (c : Ct) (Pr G : Hp) (σ : L2.St) (ρ' : List O) (b : Bool) : Bool → Hp → Prop := fun k H' => k = b ∧ ∃ G', Ge G G' ∧ ER c Pr G' H' σ ρ'
def CT (c : Ct) (X : Cx) (e : Expr) (f : Ev) : Prop := ∀ (pins : List (Addr × Obj)) (s : Shared) (σ : L2.St) (H Pr G : Hp) (ρ ρ' : List O) (b : Bool), Inv X pins σ H s → ER c Pr G H σ ρ → f ρ = some (.bool b, ρ') →
  wpAny (model X.prog X.w) X.A (isTrue e X.env (eval e X.env)) (TP X pins σ (PostT c Pr G σ ρ' b)) X.xe s
/-- the same whatever its 'whole' is (and, or) -/
def CW (c : Ct) (X : Cx) (e : Expr) (f : Ev) : Prop := ∀ (wh : Sem Value) (pins : List (Addr × Obj)) (s : Shared) (σ : L2.St) (H Pr G : Hp) (ρ ρ' : List O) (b : Bool), Inv X pins σ H s → ER c Pr G H σ ρ → f ρ = some (.bool b, ρ') →
  wpAny (model X.prog X.w) X.A (isTrue e X.env wh) (TP X pins σ (PostT c Pr G σ ρ' b)) X.xe s
theorem CW.ct {c : Ct} {X : Cx} {e : Expr} {f : Ev} (h : CW c X e f) : CT c X e f := h _
/-- a value that is read: of what is seen, or at its top a list or a dict as it stands now -/
inductive RpT (c : Ct) (G H : Hp) : V → D → Prop
  | of {v : V} {d : D} : Rp c G v d → RpT c G H v d
  | lst {a : Addr} {xs : List V} {l : List D} : H a = some (.lst xs) → RpA c G xs l → RpT c G H (.ref a) (.list l)
  | dic {a : Addr} {ep : Nat} {hs : List Int} {xs ys : List V} {l : List (D × D)} : H a = some (dO a ep hs xs ys) → hs = l.map (fun p => hashK c.w p.1) → keysNd l → RpA c G xs (l.map (·.1)) → RpA c G ys (l.map (·.2)) → RpT c G H (.ref a) (.dict l)
/-- what an operand's value is, later too -/
def KOk (c : Ct) (Pr G : Hp) (σ : L2.St) (v : V) (t : List O → Option D) : Prop := ∀ (G' H' : Hp) (ρ' : List O) (d : D), Ge G G' → ER c Pr G' H' σ ρ' → t ρ' = some d → RpT c G' H' v d
def PostK (c : Ct) (Pr G : Hp) (σ : L2.St) (ρ' : List O) (t : List O → Option D) : VK := fun v H' => ∃ G', Ge G G' ∧ ER c Pr G' H' σ ρ' ∧ KOk c Pr G' σ v t
/-- an operand -/
def CK (c : Ct) (X : Cx) (e : Expr) (p : Pk) : Prop := ∀ (pins : List (Addr × Obj)) (s : Shared) (σ : L2.St) (H Pr G : Hp) (ρ ρ' : List O) (t : List O → Option D), Inv X pins σ H s → ER c Pr G H σ ρ → p ρ = some (t, ρ') →
  wpAny (model X.prog X.w) X.A (eval e X.env) (EP X pins σ (PostK c Pr G σ ρ' t)) X.xe s
/-- a new list or dict, that nobody else holds -/
def PostF (c : Ct) (Pr G : Hp) (σ : L2.St) (ρ' : List O) (d : D) : VK := fun v H' => ∃ G' o, Ge G G' ∧ ER c Pr G' H' (some v :: σ) (o :: ρ') ∧ ((∃ l, o = .lst l ∧ d = .list l) ∨ ∃ l, o = .dic l ∧ d = .dict l)
def CF (c : Ct) (X : Cx) (e : Expr) (f : Ev) : Prop := ∀ (pins : List (Addr × Obj)) (s : Shared) (σ : L2.St) (H Pr G : Hp) (ρ ρ' : List O) (d : D), Inv X pins σ H s → ER c Pr G H σ ρ → f ρ = some (d, ρ') →
  wpAny (model X.prog X.w) X.A (eval e X.env) (EP X pins σ (PostF c Pr G σ ρ' d)) X.xe s
/-- arguments -/
def PostA (c : Ct) (Pr G : Hp) (σ : L2.St) (ρ' : List O) (ds : List D) : List V → Hp → Prop := fun vs H' => ∃ G', Ge G G' ∧ ER c Pr G' H' σ ρ' ∧ RpA c G' vs ds
def CA (c : Ct) (X : Cx) (es : List Expr) (f : Evs) : Prop := ∀ (pos : Pos) (pins : List (Addr × Obj)) (s : Shared) (σ : L2.St) (H Pr G : Hp) (ρ ρ' : List O) (ds : List D), Inv X pins σ H s → ER c Pr G H σ ρ → f ρ = some (ds, ρ') →
  wpAny (model X.prog X.w) X.A (spliced (backTo pos (starEach es X.env))) (AP X pins σ (PostA c Pr G σ ρ' ds)) X.xe s

section
variable {c : Ct} {X : Cx} {Pr G H : Hp} {σ : L2.St} {ρ ρ' : List O}

/-! ### slots read -/
theorem ER.peeks {i : Nat} {d : D} (E : ER c Pr G H σ ρ) (h : peek ρ i = some d) : ∃ v, σ[i]? = some (some v) ∧ RpT c G H v d := by
  unfold peek at h
  obtain ⟨l, nd, ap, sl⟩ := E.own
  cases q : ρ[i]? with
  | none => rw [q] at h; cases h
  | some o =>
    rw [q] at h
    obtain ⟨s, l1, l2, e1, p, ro, k⟩ := sl.at q
    cases o with
    | un => cases h
    | val z =>
      cases h
      obtain ⟨_, v, rfl, r⟩ := ro
      exact ⟨v, e1, .of r⟩
    | lst z =>
      cases h
      obtain ⟨a, xs, rfl, _, h3, h4⟩ := ro
      exact ⟨_, e1, .lst h3 h4⟩
    | dic z =>
      cases h
      obtain ⟨a, ep, hs, xs, ys, rfl, _, h3, h4, h5, h6, h7⟩ := ro
      exact ⟨_, e1, .dic h3 h4 h5 h6 h7⟩
    | ins n fs => cases h
    | bor j o =>
      obtain ⟨_, _, ro⟩ := ro
      cases o with
      | lst z =>
        cases h
        obtain ⟨a, xs, rfl, _, h3, h4⟩ := ro
        exact ⟨_, e1, .lst h3 h4⟩
      | dic z =>
        cases h
        obtain ⟨a, ep, hs, xs, ys, rfl, _, h3, h4, h5, h6, h7⟩ := ro
        exact ⟨_, e1, .dic h3 h4 h5 h6 h7⟩
      | un => cases h
      | val z => cases h
      | ins n fs => cases h
      | bor n o => cases h
theorem ER.takes {i : Nat} {d : D} (E : ER c Pr G H σ ρ) (h : eV i ρ = some (d, ρ')) : ∃ v G', σ[i]? = some (some v) ∧ Ge G G' ∧ ER c Pr G' H σ ρ' ∧ Rp c G' v d := by
  unfold eV at h
  cases q : ρ[i]? with
  | none => rw [q] at h; cases h
  | some o =>
    rw [q] at h
    cases o with
    | un => cases h
    | val z =>
      cases h
      obtain ⟨v, e1, r⟩ := E.ofVal q
      exact ⟨v, G, e1, Ge.refl _, E, r⟩
    | lst z =>
      cases h
      obtain ⟨l, nd, ap, sl⟩ := E.own
      obtain ⟨s, l1, l2, e1, p, ro, k⟩ := sl.at q
      obtain ⟨a, xs, rfl, e2, h3, h4⟩ := ro
      have g : G a = none := (ap a (p.mem_iff.mpr (by rw [e2]; simp))).2
      have R : Rp c (upd G a (.lst xs)) (.ref a) (.list z) := .lst (.inl (.inl upd_same)) (h4.mono (Ge.upd g))
      obtain ⟨E2, _⟩ := E.show (o' := .val (.list z)) (a := a) (u := .lst xs) q e1 fun l1 ro => by
        obtain ⟨a', xs', e3, e4, h5, h6⟩ := ro
        cases e3
        rw [h3] at h5
        cases h5
        exact ⟨e4, h3, fun _ => ⟨rfl, _, rfl, R⟩⟩
      exact ⟨_, _, e1, Ge.upd g, E2, R⟩
    | dic z =>
      cases h
      obtain ⟨l, nd, ap, sl⟩ := E.own
      obtain ⟨s, l1, l2, e1, p, ro, k⟩ := sl.at q
      obtain ⟨a, ep, hs, xs, ys, rfl, e2, h3, h4, h5, h6, h7⟩ := ro
      have g : G a = none := (ap a (p.mem_iff.mpr (by rw [e2]; simp))).2
      have R : Rp c (upd G a (dO a ep hs xs ys)) (.ref a) (.dict z) := .dic upd_same h4 h5 (h6.mono (Ge.upd g)) (h7.mono (Ge.upd g))
      obtain ⟨E2, _⟩ := E.show (o' := .val (.dict z)) (a := a) (u := dO a ep hs xs ys) q e1 fun l1 ro => by
        obtain ⟨a', ep', hs', xs', ys', e3, e4, h8, h9, h10, h11, h12⟩ := ro
        cases e3
        exact ⟨e4, h3, fun _ => ⟨rfl, _, rfl, R⟩⟩
      exact ⟨_, _, e1, Ge.upd g, E2, R⟩
    | ins n fs => cases h
    | bor j o => cases h

/-! ### reading from values to the library's data -/
mutual
theorem Rp.dp (hp : Ge G H) : ∀ {v : V} {d : D}, d.plain = true → Rp c G v d → Dp c.K H v d
  | _, _, _, .non => .non
  | _, _, _, .bl b => .bl b
  | _, _, _, .int i => .int i
  | _, _, _, .str x => .str x
  | _, _, h, .lst q r => .lst (hp.sqL q) (RpA.dp hp (by simpa [PyData.plain] using h) r)
  | _, _, h, .tup q _ r => .tup (.inl (.inr ⟨_, hp _ _ q⟩)) (RpA.dp hp (by simpa [PyData.plain] using h) r)
  | _, _, h, .dic _ _ _ _ _ => by simp [PyData.plain] at h
theorem RpA.dp (hp : Ge G H) : ∀ {vs : List V} {ds : List D}, PyData.plainAll ds = true → RpA c G vs ds → DpAll c.K H vs ds
  | _, _, _, .nil => .nil
  | _, _, h, .cons q r => by
    simp only [PyData.plainAll, Bool.and_eq_true] at h
    exact .cons (Rp.dp hp h.1 q) (RpA.dp hp h.2 r)
end
theorem RpT.dp {v : V} {d : D} (hp : Ge G H) (h : d.plain = true) (r : RpT c G H v d) : Dp c.K H v d := by
  cases r with
  | of r => exact r.dp hp h
  | lst q r => exact .lst (.inl (.inl q)) (r.dp hp (by simpa [PyData.plain] using h))
  | dic => simp [PyData.plain] at h
theorem RpT.reads {pins : List (Addr × Obj)} {s : Shared} {v : V} {u : Value} {d : D} (C : XC c X) (I : Inv X pins σ H s) (hp : Ge G H) (h : d.plain = true) (r : RpT c G H v d) (ru : RelV v u) : ∃ as, Reads s.heap u d as :=
  Dp.reads I d v u (by rw [C.K]; exact r.dp hp h) ru
theorem RpT.seqL {v : V} {l : List D} (r : RpT c G H v (.list l)) (hp : Ge G H) : ∃ a xs, v = .ref a ∧ SqL c.K H a xs ∧ RpA c G xs l := by
  cases r with
  | of r =>
    cases r with
    | lst q r => exact ⟨_, _, rfl, hp.sqL q, r⟩
  | lst q r => exact ⟨_, _, rfl, .inl (.inl q), r⟩
theorem RpT.seqT {v : V} {l : List D} (r : RpT c G H v (.tuple l)) (hp : Ge G H) : ∃ a xs o, v = .ref a ∧ G a = some (.frz o (.tup xs)) ∧ o.dict = none ∧ SqT c.K H a xs ∧ RpA c G xs l := by
  cases r with
  | of r =>
    cases r with
    | tup q k r => exact ⟨_, _, _, rfl, q, k, .inl (.inr ⟨_, hp _ _ q⟩), r⟩
theorem RpT.int {v : V} {i : Int} (r : RpT c G H v (.int i)) : v = .int i := by
  cases r with
  | of r => cases r; rfl
theorem RpT.bl {v : V} {b : Bool} (r : RpT c G H v (.bool b)) : v = .bl b := by
  cases r with
  | of r => cases r; rfl
theorem RpT.str {v : V} {z : Str} (r : RpT c G H v (.str z)) : v = .str z := by
  cases r with
  | of r => cases r; rfl
theorem RpT.non {v : V} (r : RpT c G H v .none) : v = .non := by
  cases r with
  | of r => cases r; rfl

/-! ### a new thing, hidden or shown -/
/-- a new list, ahead of the slots -/
theorem ER.newL {p : Addr} {xs : List V} {l : List D} (E : ER c Pr G H σ ρ) (n : H p = none) (r : RpA c G xs l) : ER c Pr G (upd H p (.lst xs)) (some (.ref p) :: σ) (.lst l :: ρ) := by
  obtain ⟨m, nd, ap, sl⟩ := E.own
  have th := sl.there
  have npr : Pr p = none := by
    cases e : Pr p with
    | none => rfl
    | some o => rw [(E.pr p o e).1] at n; cases n
  have ng : G p = none := by
    cases e : G p with
    | none => rfl
    | some o => rw [E.gh p o e] at n; cases n
  have nm : ∀ a ∈ m, a ≠ p := fun a ha e => by
    obtain ⟨u, q⟩ := th a ha
    rw [e, n] at q
    cases q
  refine ⟨fun a o e => ?_, fun a o e => ?_, p :: m, List.nodup_cons.mpr ⟨fun h => nm p h rfl, nd⟩, fun a ha => ?_, [p], m, rfl, ⟨p, xs, rfl, rfl, upd_same, r⟩, sl.mono (Ge.refl _) fun a ha => upd_ne (nm a ha)⟩
  · obtain ⟨h1, h2⟩ := E.pr a o e
    exact ⟨by rw [upd_ne (ne_of_none h1 n)]; exact h1, h2⟩
  · have h1 := E.gh a o e
    rw [upd_ne (ne_of_none h1 n)]
    exact h1
  · rcases List.mem_cons.mp ha with e | h
    · rw [e]; exact ⟨npr, ng⟩
    · exact ap a h
theorem ER.tail {s : Option V} {o : O} (E : ER c Pr G H (s :: σ) (o :: ρ)) : ER c Pr G H σ ρ := by
  obtain ⟨m, nd, ap, l1, l2, e, _, sl⟩ := E.own
  subst e
  exact ⟨E.pr, E.gh, l2, (List.nodup_append.mp nd).2.1, fun a ha => ap a (List.mem_append_right _ ha), sl⟩
/-- what is hidden ahead of the slots is shown -/
theorem ER.showHead {v : V} {o : O} {d : D} (E : ER c Pr G H (some v :: σ) (o :: ρ)) (h : (∃ l, o = .lst l ∧ d = .list l) ∨ ∃ l, o = .dic l ∧ d = .dict l) : ∃ G', Ge G G' ∧ ER c Pr G' H σ ρ ∧ Rp c G' v d := by
  have q : eV 0 (o :: ρ) = some (d, .val d :: ρ) := by
    rcases h with ⟨l, rfl, rfl⟩ | ⟨l, rfl, rfl⟩ <;> rfl
  obtain ⟨v', G', e, g, E', r⟩ := E.takes q
  cases e
  exact ⟨G', g, E'.tail, r⟩
theorem CF.ce {e : Expr} {f : Ev} (h : CF c X e f) : CE c X e f := fun pins s σ H Pr G ρ ρ' d I E q =>
  thn (h pins s σ H Pr G ρ ρ' d I E q) fun u s' ⟨v, H', I', r, G', o, g, E', k⟩ => by
    obtain ⟨G2, g2, E2, r2⟩ := E'.showHead k
    exact ⟨v, H', I', r, G2, g.trans g2, E2, r2⟩
theorem CE.ck {e : Expr} {f : Ev} (h : CE c X e f) : CK c X e (kE f) := fun pins s σ H Pr G ρ ρ' t I E q => by
  unfold kE at q
  cases hf : f ρ with
  | none => rw [hf] at q; cases q
  | some z =>
    obtain ⟨d, ρ1⟩ := z
    rw [hf] at q
    cases q
    refine thn (h pins s σ H Pr G ρ ρ' d I E hf) fun u s' ⟨v, H', I', r, G', g, E', rp⟩ => ⟨v, H', I', r, G', g, E', fun G2 H2 ρ2 d2 g2 E2 e2 => ?_⟩
    cases e2
    exact .of (rp.mono g2)

/-! ### names, constants -/
theorem ce_v {i : Nat} {x : Str} {pos : Pos} (hN : X.N[i]? = some x) (hv : Vis X.env.scope x) (hd : (x == ("__debug__" : Str)) = false := by decide) (hcd : (x == ("__classdict__" : Str)) = false := by decide) : CE c X (.Name x pos) (eV i) := by
  intro pins s σ H Pr G ρ ρ' d I E q
  obtain ⟨v, G', e, g, E', r⟩ := E.takes q
  exact (pe_var hN hv hd hcd).run pins s σ H _ I ⟨v, e, G', g, E', r⟩
theorem ck_p {i : Nat} {x : Str} {pos : Pos} (hN : X.N[i]? = some x) (hv : Vis X.env.scope x) (hd : (x == ("__debug__" : Str)) = false := by decide) (hcd : (x == ("__classdict__" : Str)) = false := by decide) : CK c X (.Name x pos) (kP i) := by
  intro pins s σ H Pr G ρ ρ' t I E q
  unfold kP at q
  cases hp : peek ρ i with
  | none => rw [hp] at q; cases q
  | some d0 =>
    rw [hp] at q
    cases q
    obtain ⟨v, e, _⟩ := E.peeks hp
    refine (pe_var hN hv hd hcd).run pins s σ H _ I ⟨v, e, G, Ge.refl _, E, fun G2 H2 ρ2 d2 g2 E2 e2 => ?_⟩
    obtain ⟨v2, e3, r⟩ := E2.peeks e2
    rw [e] at e3
    cases e3
    exact r
theorem ce_c {e : Expr} {v : V} {d : D} (h : PE X e (tC v)) (r : ∀ G, Rp c G v d) : CE c X e (eC d) := by
  intro pins s σ H Pr G ρ ρ' d' I E q
  cases q
  exact h.run pins s σ H _ I ⟨G, Ge.refl _, E, r G⟩
theorem ce_int {i j pos} : CE c X (.Constant (.int i) j pos) (eC (.int i)) := ce_c pe_int fun _ => .int i
theorem ce_bl {b j pos} : CE c X (.Constant (.bool b) j pos) (eC (.bool b)) := ce_c pe_bl fun _ => .bl b
theorem ce_non {j pos} : CE c X (.Constant .none j pos) (eC .none) := ce_c pe_non fun _ => .non
theorem ce_str {x j pos} : CE c X (.Constant (.str x) j pos) (eC (.str x)) := ce_c pe_str fun _ => .str x

/-! ### operations by values -/
/-- what an operation on two values does: only new things come -/
def Op2 (c : Ct) (X : Cx) (g : Value → Value → Sem Value) (f : D → D → Option D) : Prop := ∀ (pins : List (Addr × Obj)) (s : Shared) (σ : L2.St) (H G : Hp) (x y : V) (v u : Value) (d e r : D), Inv X pins σ H s → Ge G H → RelV x v → RelV y u → RpT c G H x d → RpT c G H y e → f d e = some r →
  wpAny (model X.prog X.w) X.A (g v u) (EP X pins σ fun z H' => ∃ G', Gr G H G' H' ∧ Rp c G' z r) X.xe s
def Op1 (c : Ct) (X : Cx) (g : Value → Sem Value) (f : D → Option D) : Prop := ∀ (pins : List (Addr × Obj)) (s : Shared) (σ : L2.St) (H G : Hp) (x : V) (v : Value) (d r : D), Inv X pins σ H s → Ge G H → RelV x v → RpT c G H x d → f d = some r →
  wpAny (model X.prog X.w) X.A (g v) (EP X pins σ fun z H' => ∃ G', Gr G H G' H' ∧ Rp c G' z r) X.xe s
/-- a new list comes -/
def FL (c : Ct) (G H : Hp) (r : D) : VK := fun z H' => ∃ G1 H1 p xs l, Gr G H G1 H1 ∧ z = .ref p ∧ H1 p = none ∧ H' = upd H1 p (.lst xs) ∧ r = .list l ∧ RpA c G1 xs l
def Fp2 (c : Ct) (X : Cx) (g : Value → Value → Sem Value) (f : D → D → Option D) : Prop := ∀ (pins : List (Addr × Obj)) (s : Shared) (σ : L2.St) (H G : Hp) (x y : V) (v u : Value) (d e r : D), Inv X pins σ H s → Ge G H → RelV x v → RelV y u → RpT c G H x d → RpT c G H y e → f d e = some r →
  wpAny (model X.prog X.w) X.A (g v u) (EP X pins σ (FL c G H r)) X.xe s
def Fp1 (c : Ct) (X : Cx) (g : Value → Sem Value) (f : D → Option D) : Prop := ∀ (pins : List (Addr × Obj)) (s : Shared) (σ : L2.St) (H G : Hp) (x : V) (v : Value) (d r : D), Inv X pins σ H s → Ge G H → RelV x v → RpT c G H x d → f d = some r →
  wpAny (model X.prog X.w) X.A (g v) (EP X pins σ (FL c G H r)) X.xe s
/-- the same thing from another place -/
theorem same_gr {z : V} {r : D} (h : Ge G H) (q : Rp c G z r) : ∃ G', Gr G H G' H ∧ Rp c G' z r := ⟨G, Gr.refl h, q⟩
theorem FL.post {v : V} {r : D} {H' : Hp} (E : ER c Pr G H σ ρ) (h : FL c G H r v H') : PostF c Pr G σ ρ r v H' := by
  obtain ⟨G1, H1, p, xs, l, g, rfl, n, rfl, rfl, ra⟩ := h
  exact ⟨G1, _, g.ge, (E.gr g).newL n ra, .inl ⟨l, rfl, rfl⟩⟩

/-- two operands, then the operation -/
theorem k2 {a b : Expr} {p q : Pk} {f : D → D → Option D} {d : D} {pins : List (Addr × Obj)} {s : Shared} {R : Value → Value → Shared → Prop} (ha : CK c X a p) (hb : CK c X b q) (I : Inv X pins σ H s) (E : ER c Pr G H σ ρ) (h : o2 f p q ρ = some (d, ρ'))
    (k : ∀ (v u : Value) (s2 : Shared) (x y : V) (G2 H2 : Hp) (d1 d2 : D), Inv X pins σ H2 s2 → Ge G G2 → ER c Pr G2 H2 σ ρ' → RelV x v → RelV y u → RpT c G2 H2 x d1 → RpT c G2 H2 y d2 → f d1 d2 = some d → R v u s2) :
    wpAny (model X.prog X.w) X.A (eval a X.env) (fun v s1 => wpAny (model X.prog X.w) X.A (eval b X.env) (fun u s2 => R v u s2) X.xe s1) X.xe s := by
  unfold o2 at h
  cases hp : p ρ with
  | none => rw [hp] at h; cases h
  | some z1 =>
    obtain ⟨t, ρ1⟩ := z1
    rw [hp] at h
    cases hq : q ρ1 with
    | none => simp only [hq] at h; cases h
    | some z2 =>
      obtain ⟨t2, ρ2⟩ := z2
      simp only [hq] at h
      cases e1 : t ρ2 with
      | none => simp only [e1] at h; cases h
      | some d1 =>
        cases e2 : t2 ρ2 with
        | none => simp only [e1, e2] at h; cases h
        | some d2 =>
          simp only [e1, e2] at h
          cases e3 : f d1 d2 with
          | none => simp only [e3] at h; cases h
          | some r =>
            simp only [e3] at h
            cases h
            refine thn (ha pins s σ H Pr G ρ ρ1 t I E hp) fun v s1 ⟨x, H1, I1, r1, G1, g1, E1, k1⟩ => ?_
            refine thn (hb pins s1 σ H1 Pr G1 ρ1 ρ' t2 I1 E1 hq) fun u s2 ⟨y, H2, I2, r2, G2, g2, E2, k2⟩ => ?_
            exact k v u s2 x y G2 H2 d1 d2 I2 (g1.trans g2) E2 r1 r2 (k1 G2 H2 ρ' d1 g2 E2 e1) (k2 G2 H2 ρ' d2 (Ge.refl _) E2 e2) e3
theorem k1 {a : Expr} {p : Pk} {f : D → Option D} {d : D} {pins : List (Addr × Obj)} {s : Shared} {R : Value → Shared → Prop} (ha : CK c X a p) (I : Inv X pins σ H s) (E : ER c Pr G H σ ρ) (h : o1 f p ρ = some (d, ρ'))
    (k : ∀ (v : Value) (s2 : Shared) (x : V) (G2 H2 : Hp) (d1 : D), Inv X pins σ H2 s2 → Ge G G2 → ER c Pr G2 H2 σ ρ' → RelV x v → RpT c G2 H2 x d1 → f d1 = some d → R v s2) :
    wpAny (model X.prog X.w) X.A (eval a X.env) R X.xe s := by
  unfold o1 at h
  cases hp : p ρ with
  | none => rw [hp] at h; cases h
  | some z1 =>
    obtain ⟨t, ρ1⟩ := z1
    rw [hp] at h
    cases e1 : t ρ1 with
    | none => simp only [e1] at h; cases h
    | some d1 =>
      simp only [e1] at h
      cases e3 : f d1 with
      | none => simp only [e3] at h; cases h
      | some r =>
        simp only [e3] at h
        cases h
        refine thn (ha pins s σ H Pr G ρ ρ' t I E hp) fun v s1 ⟨x, H1, I1, r1, G1, g1, E1, kk⟩ => ?_
        exact k v s1 x G1 H1 d1 I1 g1 E1 r1 (kk G1 H1 ρ' d1 (Ge.refl _) E1 e1) e3
theorem PostE.of {v : V} {r : D} {G2 H2 G3 H3 : Hp} (g : Ge G G2) (E : ER c Pr G2 H2 σ ρ) (g2 : Gr G2 H2 G3 H3) (q : Rp c G3 v r) : PostE c Pr G σ ρ r v H3 := ⟨G3, g.trans g2.ge, E.gr g2, q⟩
theorem ce_bin {a b : Expr} {op : Operator} {pos : Pos} {p q : Pk} {f : D → D → Option D} (ho : Op2 c X (binaryOp op) f) (ha : CK c X a p) (hb : CK c X b q) : CE c X (.BinOp a op b pos) (o2 f p q) := by
  intro pins s σ H Pr G ρ ρ' d I E h
  refine wpAny_BinOp (k2 ha hb I E h fun v u s2 x y G2 H2 d1 d2 I2 g E2 r1 r2 t1 t2 e => ?_)
  exact thn (ho pins s2 σ H2 G2 x y v u d1 d2 d I2 E2.gh r1 r2 t1 t2 e) fun z s3 ⟨w', H3, I3, r3, G3, g3, q3⟩ => ⟨w', H3, I3, r3, PostE.of g E2 g3 q3⟩
theorem PostF.of {v : V} {r : D} {G2 H2 H3 : Hp} (g : Ge G G2) (E : ER c Pr G2 H2 σ ρ) (h : FL c G2 H2 r v H3) : PostF c Pr G σ ρ r v H3 := by
  obtain ⟨G', o, g', E', k⟩ := FL.post E h
  exact ⟨G', o, g.trans g', E', k⟩
theorem cf_bin {a b : Expr} {op : Operator} {pos : Pos} {p q : Pk} {f : D → D → Option D} (ho : Fp2 c X (binaryOp op) f) (ha : CK c X a p) (hb : CK c X b q) : CF c X (.BinOp a op b pos) (o2 f p q) := by
  intro pins s σ H Pr G ρ ρ' d I E h
  refine wpAny_BinOp (k2 ha hb I E h fun v u s2 x y G2 H2 d1 d2 I2 g E2 r1 r2 t1 t2 e => ?_)
  exact thn (ho pins s2 σ H2 G2 x y v u d1 d2 d I2 E2.gh r1 r2 t1 t2 e) fun z s3 ⟨w', H3, I3, r3, q3⟩ => ⟨w', H3, I3, r3, PostF.of g E2 q3⟩
theorem ce_un {a : Expr} {op : UnaryOp} {pos : Pos} {p : Pk} {f : D → Option D} (ho : Op1 c X (unaryOp op) f) (ha : CK c X a p) : CE c X (.UnaryOp op a pos) (o1 f p) := by
  intro pins s σ H Pr G ρ ρ' d I E h
  refine UnaryOp_ (k1 ha I E h fun v s2 x G2 H2 d1 I2 g E2 r1 t1 e => ?_)
  exact thn (ho pins s2 σ H2 G2 x v d1 d I2 E2.gh r1 t1 e) fun z s3 ⟨w', H3, I3, r3, G3, g3, q3⟩ => ⟨w', H3, I3, r3, PostE.of g E2 g3 q3⟩
/-! ### comparisons -/
theorem ce_cmp {a b : Expr} {op : CmpOp} {pos : Pos} {p q : Pk} {f : D → D → Option D} (ho : Op2 c X (compareOp op) f) (ha : CK c X a p) (hb : CK c X b q) (hm : behindInMarks op b = false) : CE c X (.Compare a [op] [b] pos) (o2 f p q) := by
  intro pins s σ H Pr G ρ ρ' d I E h
  refine wpAny_Compare1 (k2 ha hb I E h fun v u s2 x y G2 H2 d1 d2 I2 g E2 r1 r2 t1 t2 e => ?_) hm
  exact thn (ho pins s2 σ H2 G2 x y v u d1 d2 d I2 E2.gh r1 r2 t1 t2 e) fun z s3 ⟨w', H3, I3, r3, G3, g3, q3⟩ => ⟨w', H3, I3, r3, PostE.of g E2 g3 q3⟩
theorem PostT.of {b : Bool} {G2 H2 G3 H3 : Hp} (g : Ge G G2) (E : ER c Pr G2 H2 σ ρ) (g2 : Gr G2 H2 G3 H3) : PostT c Pr G σ ρ b b H3 := ⟨rfl, G3, g.trans g2.ge, E.gr g2⟩
theorem ct_cmp {a b : Expr} {op : CmpOp} {pos : Pos} {p q : Pk} {f : D → D → Option D} (ho : Op2 c X (compareOp op) f) (ha : CK c X a p) (hb : CK c X b q) (hm : behindInMarks op b = false) : CT c X (.Compare a [op] [b] pos) (o2 f p q) := by
  intro pins s σ H Pr G ρ ρ' k I E h
  refine wpAny_isTrue_Compare1 (thn (k2 (R := fun v u s2 => wpAny (model X.prog X.w) X.A (compareOp op v u) (fun z s3 => ∃ H3, Inv X pins σ H3 s3 ∧ z = Value.bool k ∧ PostT c Pr G σ ρ' k k H3) X.xe s2) ha hb I E h fun v u s2 x y G2 H2 d1 d2 I2 g E2 r1 r2 t1 t2 e => ?_) fun v s1 h1 => thn h1 fun u s2 h2 => thn h2 fun z s3 ⟨H3, I3, ez, q3⟩ => ?_) hm
  · exact thn (ho pins s2 σ H2 G2 x y v u d1 d2 _ I2 E2.gh r1 r2 t1 t2 e) fun z s3 ⟨w', H3, I3, r3, G3, g3, q3⟩ => ⟨H3, I3, by cases q3; exact r3, PostT.of g E2 g3⟩
  · subst ez
    exact wpAny_truthy_bool ⟨H3, I3, q3⟩
/-- an expression whose value is a truth, as a test -/
theorem CE.ct {e : Expr} {f : Ev} (h : CE c X e f) (he : ∀ whole, isTrue e X.env whole = (do let v ← whole; standAt e.pos; holding [v] (truthy v)) := by intro _; rfl) : CT c X e f := by
  intro pins s σ H Pr G ρ ρ' b I E q
  refine isTrue_plain (thn (h pins s σ H Pr G ρ ρ' _ I E q) fun v s1 ⟨x, H1, I1, r1, G1, g1, E1, q1⟩ => ?_) (he _)
  cases q1
  cases r1
  exact wpAny_truthy_bool ⟨H1, I1, rfl, G1, g1, E1⟩
/-! ### and, or, not -/
theorem eAnd_true : ∀ {a b : Ev} {ρ : List O} {z : D × List O}, eAnd a b ρ = some z → ∃ k ρ1, a ρ = some (.bool k, ρ1) ∧ (k = true → b ρ1 = some z) ∧ (k = false → z = (.bool false, ρ1)) := by
  intro a b ρ z h
  unfold eAnd at h
  split at h
  · exact ⟨true, _, by assumption, fun _ => h, (fun e => nomatch e)⟩
  · exact ⟨false, _, by assumption, (fun e => nomatch e), fun _ => (Option.some.inj h).symm⟩
  · cases h
theorem eOr_true : ∀ {a b : Ev} {ρ : List O} {z : D × List O}, eOr a b ρ = some z → ∃ k ρ1, a ρ = some (.bool k, ρ1) ∧ (k = false → b ρ1 = some z) ∧ (k = true → z = (.bool true, ρ1)) := by
  intro a b ρ z h
  unfold eOr at h
  split at h
  · exact ⟨true, _, by assumption, (fun e => nomatch e), fun _ => (Option.some.inj h).symm⟩
  · exact ⟨false, _, by assumption, fun _ => h, (fun e => nomatch e)⟩
  · cases h
section
variable {a b : Expr} {rest : List Expr} {pos : Pos} {f g : Ev}
theorem cw_and1 (ha : CT c X a f) : CW c X (.BoolOp .And [a] pos) f := by
  intro wh pins s σ H Pr G ρ ρ' k I E h
  refine isTrue_and (thn (ha pins s σ H Pr G ρ ρ' k I E h) fun z s1 e => ?_)
  cases z with
  | true => exact isTrue_and_nil e
  | false => exact e
theorem cw_or1 (ha : CT c X a f) : CW c X (.BoolOp .Or [a] pos) f := by
  intro wh pins s σ H Pr G ρ ρ' k I E h
  refine isTrue_or (thn (ha pins s σ H Pr G ρ ρ' k I E h) fun z s1 e => ?_)
  cases z with
  | false => exact isTrue_or_nil e
  | true => exact e
theorem cw_and (ha : CT c X a f) (hb : CW c X (.BoolOp .And (b :: rest) pos) g) : CW c X (.BoolOp .And (a :: b :: rest) pos) (eAnd f g) := by
  intro wh pins s σ H Pr G ρ ρ' k I E h
  obtain ⟨j, ρ1, h1, h2, h3⟩ := eAnd_true h
  refine isTrue_and (thn (ha pins s σ H Pr G ρ ρ1 j I E h1) fun z s1 ⟨H1, I1, ez, G1, g1, E1⟩ => ?_)
  subst ez
  cases z with
  | true =>
    refine thn (hb wh pins s1 σ H1 Pr G1 ρ1 ρ' k I1 E1 (h2 rfl)) fun z s2 ⟨H2, I2, ez, G2, g2, E2⟩ => ⟨H2, I2, ez, G2, g1.trans g2, E2⟩
  | false =>
    have e := h3 rfl
    cases e
    exact ⟨H1, I1, rfl, G1, g1, E1⟩
theorem cw_or (ha : CT c X a f) (hb : CW c X (.BoolOp .Or (b :: rest) pos) g) : CW c X (.BoolOp .Or (a :: b :: rest) pos) (eOr f g) := by
  intro wh pins s σ H Pr G ρ ρ' k I E h
  obtain ⟨j, ρ1, h1, h2, h3⟩ := eOr_true h
  refine isTrue_or (thn (ha pins s σ H Pr G ρ ρ1 j I E h1) fun z s1 ⟨H1, I1, ez, G1, g1, E1⟩ => ?_)
  subst ez
  cases z with
  | false =>
    refine thn (hb wh pins s1 σ H1 Pr G1 ρ1 ρ' k I1 E1 (h2 rfl)) fun z s2 ⟨H2, I2, ez, G2, g2, E2⟩ => ⟨H2, I2, ez, G2, g1.trans g2, E2⟩
  | true =>
    have e := h3 rfl
    cases e
    exact ⟨H1, I1, rfl, G1, g1, E1⟩
theorem ce_one {op} (h : CE c X a f) : CE c X (.BoolOp op [a] pos) f := fun pins s σ H Pr G ρ ρ' d I E q => BoolOp_one (h pins s σ H Pr G ρ ρ' d I E q)
theorem ce_and (ha : CE c X a f) (hb : CE c X (.BoolOp .And (b :: rest) pos) g) : CE c X (.BoolOp .And (a :: b :: rest) pos) (eAnd f g) := by
  intro pins s σ H Pr G ρ ρ' d I E h
  obtain ⟨j, ρ1, h1, h2, h3⟩ := eAnd_true h
  refine BoolOp_and (thn (ha pins s σ H Pr G ρ ρ1 _ I E h1) fun v s1 ⟨x, H1, I1, r1, G1, g1, E1, q1⟩ => ?_)
  cases q1
  cases r1
  refine wpAny_truthy_bool ?_
  cases j with
  | true => exact thn (hb pins s1 σ H1 Pr G1 ρ1 ρ' d I1 E1 (h2 rfl)) fun v s2 ⟨x, H2, I2, r2, G2, g2, E2, q2⟩ => ⟨x, H2, I2, r2, G2, g1.trans g2, E2, q2⟩
  | false =>
    have e := h3 rfl
    cases e
    exact ⟨.bl false, H1, I1, rfl, G1, g1, E1, .bl false⟩
theorem ce_or (ha : CE c X a f) (hb : CE c X (.BoolOp .Or (b :: rest) pos) g) : CE c X (.BoolOp .Or (a :: b :: rest) pos) (eOr f g) := by
  intro pins s σ H Pr G ρ ρ' d I E h
  obtain ⟨j, ρ1, h1, h2, h3⟩ := eOr_true h
  refine BoolOp_or (thn (ha pins s σ H Pr G ρ ρ1 _ I E h1) fun v s1 ⟨x, H1, I1, r1, G1, g1, E1, q1⟩ => ?_)
  cases q1
  cases r1
  refine wpAny_truthy_bool ?_
  cases j with
  | false => exact thn (hb pins s1 σ H1 Pr G1 ρ1 ρ' d I1 E1 (h2 rfl)) fun v s2 ⟨x, H2, I2, r2, G2, g2, E2, q2⟩ => ⟨x, H2, I2, r2, G2, g1.trans g2, E2, q2⟩
  | true =>
    have e := h3 rfl
    cases e
    exact ⟨.bl true, H1, I1, rfl, G1, g1, E1, .bl true⟩
theorem o1_some {f : D → Option D} {p : Pk} {z : D × List O} (h : o1 f p ρ = some z) : ∃ t d, p ρ = some (t, z.2) ∧ t z.2 = some d ∧ f d = some z.1 := by
  unfold o1 at h
  split at h
  · rename_i t ρ1 hp
    split at h
    · rename_i d hd
      split at h
      · rename_i r hr
        cases h
        exact ⟨t, d, hp, hd, hr⟩
      · cases h
    · cases h
  · cases h
theorem ct_not (ha : CT c X a f) : CT c X (.UnaryOp .Not a pos) (o1 sNot (kE f)) := by
  intro pins s σ H Pr G ρ ρ' k I E h
  obtain ⟨t, d, h1, h2, h3⟩ := o1_some h
  unfold kE at h1
  split at h1
  · rename_i x ρ1 hf
    cases h1
    cases h2
    cases d with
    | bool j =>
      cases h3
      exact isTrue_not (thn (ha pins s σ H Pr G ρ ρ' j I E hf) fun z s1 ⟨H1, I1, ez, G1, g1, E1⟩ => ⟨H1, I1, by rw [ez], G1, g1, E1⟩)
    | _ => cases h3
  · cases h1
theorem ce_not (ha : CE c X a f) : CE c X (.UnaryOp .Not a pos) (o1 sNot (kE f)) := by
  intro pins s σ H Pr G ρ ρ' k I E h
  obtain ⟨t, d, h1, h2, h3⟩ := o1_some h
  unfold kE at h1
  split at h1
  · rename_i x ρ1 hf
    cases h1
    cases h2
    cases d with
    | bool j =>
      cases h3
      refine UnaryOp_ (thn (ha pins s σ H Pr G ρ ρ' _ I E hf) fun v s1 ⟨x, H1, I1, r1, G1, g1, E1, q1⟩ => ?_)
      cases q1
      cases r1
      exact not_of (wpAny_truthy_bool ⟨.bl (!j), H1, I1, rfl, G1, g1, E1, .bl _⟩)
    | _ => cases h3
  · cases h1
end
end
end VL

set_option Elab.async false
set_option linter.all false
set_option maxRecDepth 100000
/-! V4: the operations, by values. -/
namespace VL
open PySem PySem.Spec PyProof.Rows L2

section
variable {c : Ct} {X : Cx} {Pr G H : Hp} {σ : L2.St} {ρ ρ' : List O} {pins : List (Addr × Obj)} {s : Shared}

/-- a new tuple is laid: just as it is made -/
theorem laidT {h' : Heap} {tk : Nat} {vs : List V} {us : List Value} {ds : List D} (I : Inv X pins σ H { s with heap := h', toks := tk }) (g : Ge G H) (r : Vals vs us) (hz : vs.length ≤ sizeLine) (ra : RpA c G vs ds) :
    EP X pins σ (fun z H' => ∃ G', Gr G H G' H' ∧ Rp c G' z (.tuple ds)) (.ref h'.objs.size) { s with heap := h'.push { cls := .type "tuple", data := .seq us.toArray }, toks := tk } := by
  have n : H h'.objs.size = none := I.hok.fresh (Nat.le_refl _)
  have gr := Gr.laid (G := G) (a := h'.objs.size) (o := .frz { cls := .type "tuple", data := .seq us.toArray } (.tup vs)) g n
  refine ⟨.ref h'.objs.size, _, I.laid (o := .frz { cls := .type "tuple", data := .seq us.toArray } (.tup vs)) (t' := tk) (fun b o q => Heap.get?_push_of_some _ q) (Nat.le_refl _) ?_, rfl, _, gr, .tup (o := { cls := .type "tuple", data := .seq us.toArray }) upd_same rfl (ra.mono gr.ge)⟩
  exact ⟨Heap.get?_push_size _ rfl, hz, us, r, IsTup.new _ _⟩
theorem laidL {h' : Heap} {tk : Nat} {vs : List V} {us : List Value} {ds : List D} (I : Inv X pins σ H { s with heap := h', toks := tk }) (g : Ge G H) (r : Vals vs us) (hz : vs.length ≤ sizeLine) (ra : RpA c G vs ds) :
    EP X pins σ (FL c G H (.list ds)) (.ref h'.objs.size) { s with heap := h'.push { cls := .type "list", data := .seq us.toArray }, toks := tk } := by
  have n : H h'.objs.size = none := I.hok.fresh (Nat.le_refl _)
  refine ⟨.ref h'.objs.size, upd H h'.objs.size (.lst vs), I.laid (o := .lst vs) (t' := tk) (fun b o q => Heap.get?_push_of_some _ q) (Nat.le_refl _) ?_, rfl, G, H, h'.objs.size, vs, ds, Gr.refl g, rfl, n, rfl, rfl, ra⟩
  exact ⟨hz, us, 0, r, Heap.get?_push_size _ rfl⟩
theorem gr_same {z : V} {r : D} (g : Ge G H) (q : Rp c G z r) : ∃ G', Gr G H G' H ∧ Rp c G' z r := ⟨G, Gr.refl g, q⟩
/-- a rule whose end stands in the same heap -/
theorem end_int {i : Int} {t : Nat} {H' : Hp} (I : Inv X pins σ H s) (g : Ge G H) : ∃ G', Gr G H G' H ∧ Rp c G' (.int i) (.int i) := gr_same g (.int i)

theorem _root_.L2.Inv.tupAt {a : Addr} {o : Obj} {xs : List V} (I : Inv X pins σ H s) (g : Ge G H) (h : G a = some (.frz o (.tup xs))) : ∃ its : List Value, Vals xs its ∧ IsTup s.heap a its.toArray ∧ xs.length ≤ sizeLine :=
  I.tuple (.inl (.inr ⟨o, g _ _ h⟩))
theorem op_neg : Op1 c X (unaryOp .USub) sNeg := by
  intro pins s σ H G x v d r I g rx t e
  cases d with
  | int i =>
    cases e
    rw [t.int] at rx
    exact un_neg pins s σ H _ v _ I rx ⟨i, rfl, gr_same g (.int _)⟩
  | _ => cases e
theorem op_addV : Op2 c X (binaryOp .Add) sAdd := by
  intro pins s σ H G x y v u d e r I g rx ry t1 t2 h
  cases d with
  | int i =>
    cases e with
    | int j =>
      cases h
      rw [t1.int] at rx
      rw [t2.int] at ry
      exact op_add pins s σ H _ _ v u _ I rx ry ⟨i, j, rfl, rfl, gr_same g (.int _)⟩
    | _ => cases h
  | tuple l =>
    cases e with
    | tuple m =>
      have h : (if l.length + m.length ≤ LIM then some (PyData.tuple (l ++ m)) else none) = some r := h
      by_cases hl : l.length + m.length ≤ LIM
      · rw [if_pos hl] at h
        cases h
        obtain ⟨a, xs, o1, rfl, f1, n1, q1, r1⟩ := t1.seqT g
        obtain ⟨b, ys, o2, rfl, f2, n2, q2, r2⟩ := t2.seqT g
        cases rx
        cases ry
        obtain ⟨its1, v1, p1, z1⟩ := I.tupAt g f1
        obtain ⟨its2, v2, p2, z2⟩ := I.tupAt g f2
        have lm1 := r1.length
        have lm2 := r2.length
        have big : LIM ≤ sizeLine := by decide
        by_cases e1 : its1 = []
        · subst e1
          cases v1
          cases r1
          exact cat_tup0 p1 p2 ⟨.ref b, H, I, rfl, gr_same g (.tup f2 n2 r2)⟩
        · refine HT.cat_tup p1 p2 e1 (fun e2 => ?_) (fun e2 => ?_) (by rw [← v1.length, ← v2.length]; omega)
          · subst e2
            cases v2
            cases r2
            exact ⟨.ref a, H, I, rfl, gr_same g (by rw [List.append_nil]; exact .tup f1 n1 r1)⟩
          · exact laidT (h' := s.heap) (tk := s.toks) I g (v1.append v2) (by rw [List.length_append]; omega) (r1.append r2)
      · rw [if_neg hl] at h
        cases h
    | _ => cases h
  | _ => cases h
theorem fp_cat (C : XC c X) : Fp2 c X (binaryOp .Add) sCat := by
  intro pins s σ H G x y v u d e r I g rx ry t1 t2 h
  cases d with
  | list l =>
    cases e with
    | list m =>
      have h : (if l.length + m.length ≤ LIM then some (PyData.list (l ++ m)) else none) = some r := h
      by_cases hl : l.length + m.length ≤ LIM
      · rw [if_pos hl] at h
        cases h
        obtain ⟨a, xs, rfl, q1, r1⟩ := t1.seqL g
        obtain ⟨b, ys, rfl, q2, r2⟩ := t2.seqL g
        cases rx
        cases ry
        obtain ⟨its1, v1, p1, z1⟩ := I.list (by rw [C.K]; exact q1)
        obtain ⟨its2, v2, p2, z2⟩ := I.list (by rw [C.K]; exact q2)
        have lm1 := r1.length
        have lm2 := r2.length
        have big : LIM ≤ sizeLine := by decide
        obtain ⟨⟨cls, dd, data, sl⟩, n, ho, hc, hd0, hd⟩ := p1
        obtain ⟨⟨cls2, dd2, data2, sl2⟩, n2, ho2, hc2, hd02, hd2⟩ := p2
        simp only at hc hd hc2 hd2
        subst hc hd hc2 hd2
        have e : its1.toArray ++ its2.toArray = (its1 ++ its2).toArray := by simp
        refine concat_meets ⟨_, ho, rfl⟩ ⟨_, ho2, rfl⟩ noFill_list_add seq_list_add PySem.F.slot_list_add PySem.F.entry_list_add (PySem.F.args_list_add_2 _ _)
          (list_addW a b its1.toArray its2.toArray n n2 dd dd2 sl sl2 (by rw [List.size_toArray, List.size_toArray, ← v1.length, ← v2.length]; omega)) ⟨ho, ho2, ?_⟩
        rw [e]
        exact laidL (h' := s.heap) (tk := s.toks) I g (v1.append v2) (by rw [List.length_append]; omega) (r1.append r2)
      · rw [if_neg hl] at h
        cases h
    | _ => cases h
  | _ => cases h
/-- an operation on two whole numbers, by its rule -/
theorem op_ii {f : Value → Value → Sem Value} {C : Int → Int → Prop} {k : Int → Int → V} {k' : Int → Int → D} {F : D → D → Option D} (ho : OpR X f (rI C k)) (hk : ∀ i j (G : Hp), Rp c G (k i j) (k' i j))
    (hF : ∀ d e r, F d e = some r → ∃ i j, d = .int i ∧ e = .int j ∧ C i j ∧ r = k' i j) : Op2 c X f F := by
  intro pins s σ H G x y v u d e r I g rx ry t1 t2 h
  obtain ⟨i, j, rfl, rfl, hc, rfl⟩ := hF d e r h
  rw [t1.int] at rx
  rw [t2.int] at ry
  exact ho pins s σ H _ _ v u _ I rx ry ⟨i, j, rfl, rfl, hc, gr_same g (hk i j G)⟩
theorem op_ii0 {f : Value → Value → Sem Value} {k : Int → Int → V} {k' : Int → Int → D} {F : D → D → Option D} (ho : OpR X f (rI0 k)) (hk : ∀ i j (G : Hp), Rp c G (k i j) (k' i j))
    (hF : ∀ d e r, F d e = some r → ∃ i j, d = .int i ∧ e = .int j ∧ r = k' i j) : Op2 c X f F := by
  intro pins s σ H G x y v u d e r I g rx ry t1 t2 h
  obtain ⟨i, j, rfl, rfl, rfl⟩ := hF d e r h
  rw [t1.int] at rx
  rw [t2.int] at ry
  exact ho pins s σ H _ _ v u _ I rx ry ⟨i, j, rfl, rfl, gr_same g (hk i j G)⟩
theorem op_subV : Op2 c X (binaryOp .Sub) sSub := op_ii0 (k' := fun i j => .int (i - j)) op_sub (fun _ _ _ => .int _) fun d e r h => by
  cases d <;> cases e <;> first | (cases h; exact ⟨_, _, rfl, rfl, rfl⟩) | cases h
theorem op_ltV : Op2 c X (compareOp .Lt) sLt := op_ii0 (k' := fun i j => .bool (decide (i < j))) op_lt (fun _ _ _ => .bl _) fun d e r h => by
  cases d <;> cases e <;> first | (cases h; exact ⟨_, _, rfl, rfl, rfl⟩) | cases h
theorem op_leV : Op2 c X (compareOp .LtE) sLe := op_ii0 (k' := fun i j => .bool (decide (i ≤ j))) op_le (fun _ _ _ => .bl _) fun d e r h => by
  cases d <;> cases e <;> first | (cases h; exact ⟨_, _, rfl, rfl, rfl⟩) | cases h
theorem op_gtV : Op2 c X (compareOp .Gt) sGt := op_ii0 (k' := fun i j => .bool (decide (j < i))) op_gt (fun _ _ _ => .bl _) fun d e r h => by
  cases d <;> cases e <;> first | (cases h; exact ⟨_, _, rfl, rfl, rfl⟩) | cases h
theorem op_geV : Op2 c X (compareOp .GtE) sGe := op_ii0 (k' := fun i j => .bool (decide (j ≤ i))) op_ge (fun _ _ _ => .bl _) fun d e r h => by
  cases d <;> cases e <;> first | (cases h; exact ⟨_, _, rfl, rfl, rfl⟩) | cases h
theorem op_modV : Op2 c X (binaryOp .Mod) sMod := op_ii (k' := fun i j => .int (i % j)) op_mod (fun _ _ _ => .int _) fun d e r h => by
  cases d <;> cases e <;> try (cases h; done)
  rename_i i j
  have h : (if 0 < j then some (PyData.int (i % j)) else none) = some r := h
  by_cases q : 0 < j
  · rw [if_pos q] at h
    cases h
    exact ⟨i, j, rfl, rfl, q, rfl⟩
  · rw [if_neg q] at h
    cases h
theorem op_divV : Op2 c X (binaryOp .FloorDiv) sDiv := op_ii (k' := fun i j => .int (i / j)) op_fdivW (fun _ _ _ => .int _) fun d e r h => by
  cases d <;> cases e <;> try (cases h; done)
  rename_i i j
  have h : (if (decide (0 < j) && decide (j.natAbs.log2 < 9000)) = true then some (PyData.int (i / j)) else none) = some r := h
  by_cases q : (decide (0 < j) && decide (j.natAbs.log2 < 9000)) = true
  · rw [if_pos q] at h
    cases h
    simp only [Bool.and_eq_true, decide_eq_true_eq] at q
    exact ⟨i, j, rfl, rfl, q, rfl⟩
  · rw [if_neg q] at h
    cases h
theorem small64 {j : Int} (h : j.natAbs < 2 ^ 64) : -(2 ^ 64) < j ∧ j < 2 ^ 64 := by
  have e : ((2 ^ 64 : Nat) : Int) = 2 ^ 64 := by decide
  omega
theorem mulOk_ok {i j : Int} (h : mulOk i j = true) : IntMulOk i j := by
  unfold mulOk at h
  simp only [Bool.or_eq_true, decide_eq_true_eq] at h
  rcases h with (h | h) | h
  · exact (show CMul i j from .inr (small64 h)).ok
  · exact (show CMul i j from .inl (small64 h)).ok
  · exact (show CMulW i j from h).ok
theorem op_mulA : OpR X (binaryOp .Mult) (rI (fun i j => mulOk i j = true) fun i j => .int (i * j)) := opI fun _ _ _ _ _ _ _ hc q => mul_int q (mulOk_ok hc)
theorem op_mulV : Op2 c X (binaryOp .Mult) sMul := op_ii (k' := fun i j => .int (i * j)) op_mulA (fun _ _ _ => .int _) fun d e r h => by
  cases d <;> cases e <;> try (cases h; done)
  rename_i i j
  have h : (if mulOk i j = true then some (PyData.int (i * j)) else none) = some r := h
  by_cases q : mulOk i j = true
  · rw [if_pos q] at h
    cases h
    exact ⟨i, j, rfl, rfl, q, rfl⟩
  · rw [if_neg q] at h
    cases h
/-! ### == and in -/
theorem ge_hu (C : XC c X) (n : Nat) (h : n ≤ 100) : X.A.units + n < cLine := Nat.lt_of_le_of_lt (by omega) C.hu
theorem op_eqV (C : XC c X) : Op2 c X (compareOp .Eq) sEq := by
  intro pins s σ H G x y v u d e r I g rx ry t1 t2 h
  unfold sEq at h
  split at h
  · rename_i q
    simp only [Bool.and_eq_true, decide_eq_true_eq] at q
    cases h
    obtain ⟨as, ra⟩ := t1.reads C I g q.1.1 rx
    obtain ⟨bs, rb⟩ := t2.reads C I g q.1.2 ry
    refine SeqAt.eq_plain ra rb q.1.1 q.1.2 ?_ ⟨.bl _, H, I, rfl, gr_same g (.bl _)⟩
    have := C.hu
    have q2 : d.depth ≤ 60 := q.2
    omega
  · cases h
theorem op_neV (C : XC c X) : Op2 c X (compareOp .NotEq) sNe := by
  intro pins s σ H G x y v u d e r I g rx ry t1 t2 h
  unfold sNe at h
  split at h
  · rename_i q
    simp only [Bool.and_eq_true, decide_eq_true_eq] at q
    cases h
    obtain ⟨as, ra⟩ := t1.reads C I g q.1.1 rx
    obtain ⟨bs, rb⟩ := t2.reads C I g q.1.2 ry
    refine SeqAt.ne_plain ra rb q.1.1 q.1.2 ?_ ⟨.bl _, H, I, rfl, gr_same g (.bl _)⟩
    have := C.hu
    have q2 : d.depth ≤ 60 := q.2
    omega
  · cases h
theorem op_inV (C : XC c X) : Op2 c X (compareOp .In) sIn := by
  intro pins s σ H G x y v u d e r I g rx ry t1 t2 h
  have hu := C.hu
  unfold sIn at h
  split at h
  all_goals first
    | cases h; done
    | (split at h
       · rename_i q
         simp only [Bool.and_eq_true, decide_eq_true_eq] at q
         cases h
         obtain ⟨as, ra⟩ := t1.reads C I g q.1.1 rx
         obtain ⟨bs, rb⟩ := t2.reads C I g (by simpa [PyData.plain] using q.1.2) ry
         have q2 : d.depth ≤ 60 := q.2
         first
           | exact SeqAt.in_list_data rb ra q.1.2 q.1.1 (by omega) ⟨.bl _, H, I, rfl, gr_same g (.bl _)⟩
           | exact SeqAt.in_tuple_data rb ra q.1.2 q.1.1 (by omega) ⟨.bl _, H, I, rfl, gr_same g (.bl _)⟩
       · cases h)
theorem op_ninV (C : XC c X) : Op2 c X (compareOp .NotIn) sNin := by
  intro pins s σ H G x y v u d e r I g rx ry t1 t2 h
  have hu := C.hu
  unfold sNin at h
  split at h
  all_goals first
    | cases h; done
    | (split at h
       · rename_i q
         simp only [Bool.and_eq_true, decide_eq_true_eq] at q
         cases h
         obtain ⟨as, ra⟩ := t1.reads C I g q.1.1 rx
         obtain ⟨bs, rb⟩ := t2.reads C I g (by simpa [PyData.plain] using q.1.2) ry
         have q2 : d.depth ≤ 60 := q.2
         first
           | exact SeqAt.notIn_list_data rb ra q.1.2 q.1.1 (by omega) ⟨.bl _, H, I, rfl, gr_same g (.bl _)⟩
           | exact SeqAt.notIn_tuple_data rb ra q.1.2 q.1.1 (by omega) ⟨.bl _, H, I, rfl, gr_same g (.bl _)⟩
       · cases h)
/-! ### is -/
theorem rpt_non {G H : Hp} {v : V} {d : D} (t : RpT c G H v d) : (decide (v = .non)) = sNoneB d := by
  cases t with
  | of r => cases r <;> rfl
  | lst _ _ => rfl
  | dic => rfl
theorem op_isV : Op2 c X (compareOp .Is) sIs := by
  intro pins s σ H G x y v u d e r I g rx ry t1 t2 h
  cases e with
  | none =>
    cases h
    rw [t2.non] at ry
    exact op_isN pins s σ H _ _ v u _ I rx ry ⟨rfl, gr_same g (by rw [rpt_non t1]; exact .bl _)⟩
  | bool b =>
    cases d with
    | bool a =>
      cases h
      rw [t1.bl] at rx
      rw [t2.bl] at ry
      exact op_is_bl pins s σ H _ _ v u _ I rx ry ⟨a, b, rfl, rfl, gr_same g (.bl _)⟩
    | _ => cases h
  | _ => cases d <;> cases h
theorem op_isnV : Op2 c X (compareOp .IsNot) sIsn := by
  intro pins s σ H G x y v u d e r I g rx ry t1 t2 h
  cases e with
  | none =>
    cases h
    rw [t2.non] at ry
    exact op_notN pins s σ H _ _ v u _ I rx ry ⟨rfl, gr_same g (by rw [rpt_non t1]; exact .bl _)⟩
  | bool b =>
    cases d with
    | bool a =>
      cases h
      rw [t1.bl] at rx
      rw [t2.bl] at ry
      exact op_isnot_bl pins s σ H _ _ v u _ I rx ry ⟨a, b, rfl, rfl, gr_same g (.bl _)⟩
    | _ => cases h
  | _ => cases d <;> cases h
end
end VL

set_option Elab.async false
set_option linter.all false
set_option maxRecDepth 100000
/-! V5: displays, calls of what is built in, methods, subscripts, slices, chains. -/
namespace VL
open PySem PySem.Spec PyProof.Rows L2

section
variable {c : Ct} {X : Cx} {Pr G H : Hp} {σ : L2.St} {ρ ρ' : List O} {e a b : Expr} {es : List Expr} {pos p : Pos} {x : Str}

/-! ### several expressions -/
theorem ca_nil : CA c X [] esNil := by
  intro pos pins s σ H Pr G ρ ρ' ds I E h
  cases h
  exact Calls.spliced_nil ⟨[], H, I, .nil, G, Ge.refl _, E, .nil⟩
theorem ca_cons {f : Ev} {r : Evs} (ha : CE c X e f) (hr : CA c X es r) (hs : starEach (e :: es) X.env = (false, eval e X.env) :: starEach es X.env := by rfl) : CA c X (e :: es) (esCons f r) := by
  intro pos pins s σ H Pr G ρ ρ' ds I E h
  unfold esCons at h
  cases h1 : f ρ with
  | none => rw [h1] at h; cases h
  | some z1 =>
    obtain ⟨d1, ρ1⟩ := z1
    rw [h1] at h
    cases h2 : r ρ1 with
    | none => simp only [h2] at h; cases h
    | some z2 =>
      obtain ⟨ds2, ρ2⟩ := z2
      simp only [h2] at h
      cases h
      rw [hs]
      show wpAny _ _ (spliced ((false, eval e X.env) :: backTo pos (starEach es X.env))) _ _ s
      refine Calls.spliced_cons (thn (ha pins s σ H Pr G ρ ρ1 d1 I E h1) fun u s1 ⟨x, H1, I1, r1, G1, g1, E1, q1⟩ => ?_)
      exact thn (hr pos pins s1 σ H1 Pr G1 ρ1 ρ' ds2 I1 E1 h2) fun us s2 ⟨xs, H2, I2, r2, G2, g2, E2, q2⟩ => ⟨x :: xs, H2, I2, .cons r1 r2, G2, g1.trans g2, E2, .cons (q1.mono g2) q2⟩
theorem ce_tup {x1} {f : Evs} (h : CA c X es f) : CE c X (.Tuple es x1 pos) (eTup f) := by
  intro pins s σ H Pr G ρ ρ' d I E q
  unfold eTup at q
  cases hf : f ρ with
  | none => rw [hf] at q; cases q
  | some z =>
    obtain ⟨ds, ρ1⟩ := z
    rw [hf] at q
    have q : (if ds.length ≤ LIM then some (PyData.tuple ds, ρ1) else none) = some (d, ρ') := q
    by_cases hl : ds.length ≤ LIM
    · rw [if_pos hl] at q
      cases q
      have big : LIM ≤ sizeLine := by decide
      refine wpAny_Tuple_spliced (thn (h pos pins s σ H Pr G ρ ρ' ds I E hf) fun us s1 ⟨vs, H1, I1, r1, G1, g1, E1, q1⟩ => ?_)
      have l1 := q1.length
      have l2 := r1.length
      refine ⟨by omega, ?_⟩
      obtain ⟨z, H2, I2, rz, G2, gr, rp⟩ := laidT (s := s1) (h' := s1.heap) (tk := s1.toks) I1 E1.gh r1 (by omega) q1
      exact ⟨z, H2, I2, rz, PostE.of g1 E1 gr rp⟩
    · rw [if_neg hl] at q
      cases q
theorem cf_lst {f : Evs} (h : CA c X es f) : CF c X (.List es pos) (eLst f) := by
  intro pins s σ H Pr G ρ ρ' d I E q
  unfold eLst at q
  cases hf : f ρ with
  | none => rw [hf] at q; cases q
  | some z =>
    obtain ⟨ds, ρ1⟩ := z
    rw [hf] at q
    have q : (if ds.length ≤ LIM then some (PyData.list ds, ρ1) else none) = some (d, ρ') := q
    by_cases hl : ds.length ≤ LIM
    · rw [if_pos hl] at q
      cases q
      have big : LIM ≤ sizeLine := by decide
      refine wpAny_List_spliced (thn (h pos pins s σ H Pr G ρ ρ' ds I E hf) fun us s1 ⟨vs, H1, I1, r1, G1, g1, E1, q1⟩ => ?_)
      have l1 := q1.length
      have l2 := r1.length
      refine ⟨by omega, ?_⟩
      obtain ⟨z, H2, I2, rz, fl⟩ := laidL (s := s1) (h' := s1.heap) (tk := s1.toks) I1 E1.gh r1 (by omega) q1
      exact ⟨z, H2, I2, rz, PostF.of g1 E1 fl⟩
    · rw [if_neg hl] at q
      cases q

/-! ### f(x), f(x, y) of what is built in -/
theorem spl1 {t : Sem Value} {M : Model} {A : Around} {Q : List Value → Shared → Prop} {E : Value → Shared → Prop} {s : Shared} (hs : starEach [a] X.env = [(false, eval a X.env)]) (h : wpAny M A (eval a X.env) (fun u s1 => Q [u] s1) E s) : wpAny M A (spliced (backTo pos (starEach [a] X.env))) Q E s := by
  rw [hs]
  exact Calls.spliced_cons (thn h fun u s1 q => Calls.spliced_nil q)
theorem spl2 {M : Model} {A : Around} {Q : List Value → Shared → Prop} {E : Value → Shared → Prop} {s : Shared} (hs : starEach [a, b] X.env = [(false, eval a X.env), (false, eval b X.env)]) (h : wpAny M A (eval a X.env) (fun v s1 => wpAny M A (eval b X.env) (fun u s2 => Q [v, u] s2) E s1) E s) :
    wpAny M A (spliced (backTo pos (starEach [a, b] X.env))) Q E s := by
  rw [hs]
  exact Calls.spliced_cons (thn h fun v s1 h1 => Calls.spliced_cons (thn h1 fun u s2 q => Calls.spliced_nil q))
section
variable {id T : String} {pk qk : Pk} {f : D → Option D} {f2 : D → D → Option D}
theorem ce_b1 (C : XC c X) (ho : Op1 c X (fun v => call (.builtin id) [v]) f) (hg : Gl X x) (hm : x ∈ bltNames) (hv : bootBuiltins x = some (.builtin id)) (ha : CK c X a pk) (hn : x ≠ "__name__" := by decide) (hdb : (x == ("__debug__" : Str)) = false := by decide)
    (hs : starEach [a] X.env = [(false, eval a X.env)] := by rfl) : CE c X (.Call (.Name x p) [a] [] pos) (o1 f pk) := by
  intro pins s σ H Pr G ρ ρ' d I E h
  refine wpAny_Call_Name_kw (ld_blt I hg (C.blt x hm) hv ?_ hn hdb)
  refine PyProof.Rows.callWith_builtin1 (spl1 (t := pure .none) hs (k1 ha I E h fun v s2 y G2 H2 d1 I2 g E2 r1 t1 e => ?_)) hs rfl
  exact thn (ho pins s2 σ H2 G2 y v d1 d I2 E2.gh r1 t1 e) fun z s3 ⟨w', H3, I3, r3, G3, g3, q3⟩ => ⟨w', H3, I3, r3, PostE.of g E2 g3 q3⟩
theorem ce_t1 (C : XC c X) (ho : Op1 c X (fun v => call (.type T) [v]) f) (hg : Gl X x) (hm : x ∈ bltNames) (hv : bootBuiltins x = some (.type T)) (ha : CK c X a pk) (hn : x ≠ "__name__" := by decide) (hdb : (x == ("__debug__" : Str)) = false := by decide)
    (hs : starEach [a] X.env = [(false, eval a X.env)] := by rfl) : CE c X (.Call (.Name x p) [a] [] pos) (o1 f pk) := by
  intro pins s σ H Pr G ρ ρ' d I E h
  refine wpAny_Call_Name_kw (ld_blt I hg (C.blt x hm) hv ?_ hn hdb)
  refine PyProof.Rows.callWith_type1 (spl1 (t := pure .none) hs (k1 ha I E h fun v s2 y G2 H2 d1 I2 g E2 r1 t1 e => ?_)) hs rfl
  exact thn (ho pins s2 σ H2 G2 y v d1 d I2 E2.gh r1 t1 e) fun z s3 ⟨w', H3, I3, r3, G3, g3, q3⟩ => ⟨w', H3, I3, r3, PostE.of g E2 g3 q3⟩
theorem cf_b1 (C : XC c X) (ho : Fp1 c X (fun v => call (.builtin id) [v]) f) (hg : Gl X x) (hm : x ∈ bltNames) (hv : bootBuiltins x = some (.builtin id)) (ha : CK c X a pk) (hn : x ≠ "__name__" := by decide) (hdb : (x == ("__debug__" : Str)) = false := by decide)
    (hs : starEach [a] X.env = [(false, eval a X.env)] := by rfl) : CF c X (.Call (.Name x p) [a] [] pos) (o1 f pk) := by
  intro pins s σ H Pr G ρ ρ' d I E h
  refine wpAny_Call_Name_kw (ld_blt I hg (C.blt x hm) hv ?_ hn hdb)
  refine PyProof.Rows.callWith_builtin1 (spl1 (t := pure .none) hs (k1 ha I E h fun v s2 y G2 H2 d1 I2 g E2 r1 t1 e => ?_)) hs rfl
  exact thn (ho pins s2 σ H2 G2 y v d1 d I2 E2.gh r1 t1 e) fun z s3 ⟨w', H3, I3, r3, fl⟩ => ⟨w', H3, I3, r3, PostF.of g E2 fl⟩
theorem cf_t1 (C : XC c X) (ho : Fp1 c X (fun v => call (.type T) [v]) f) (hg : Gl X x) (hm : x ∈ bltNames) (hv : bootBuiltins x = some (.type T)) (ha : CK c X a pk) (hn : x ≠ "__name__" := by decide) (hdb : (x == ("__debug__" : Str)) = false := by decide)
    (hs : starEach [a] X.env = [(false, eval a X.env)] := by rfl) : CF c X (.Call (.Name x p) [a] [] pos) (o1 f pk) := by
  intro pins s σ H Pr G ρ ρ' d I E h
  refine wpAny_Call_Name_kw (ld_blt I hg (C.blt x hm) hv ?_ hn hdb)
  refine PyProof.Rows.callWith_type1 (spl1 (t := pure .none) hs (k1 ha I E h fun v s2 y G2 H2 d1 I2 g E2 r1 t1 e => ?_)) hs rfl
  exact thn (ho pins s2 σ H2 G2 y v d1 d I2 E2.gh r1 t1 e) fun z s3 ⟨w', H3, I3, r3, fl⟩ => ⟨w', H3, I3, r3, PostF.of g E2 fl⟩
theorem ce_b2 (C : XC c X) (ho : Op2 c X (fun v u => call (.builtin id) [v, u]) f2) (hg : Gl X x) (hm : x ∈ bltNames) (hv : bootBuiltins x = some (.builtin id)) (ha : CK c X a pk) (hb : CK c X b qk) (hn : x ≠ "__name__" := by decide) (hdb : (x == ("__debug__" : Str)) = false := by decide)
    (hs : starEach [a, b] X.env = [(false, eval a X.env), (false, eval b X.env)] := by rfl) (hs2 : starEach [b] X.env = [(false, eval b X.env)] := by rfl) : CE c X (.Call (.Name x p) [a, b] [] pos) (o2 f2 pk qk) := by
  intro pins s σ H Pr G ρ ρ' d I E h
  refine wpAny_Call_Name_kw (ld_blt I hg (C.blt x hm) hv ?_ hn hdb)
  refine PyProof.Rows.callWith_builtin1 (spl2 hs (k2 ha hb I E h fun v u s2 y z G2 H2 d1 d2 I2 g E2 r1 r2 t1 t2 e => ?_)) (by rw [hs, hs2]) (by rw [hs2]; rfl)
  exact thn (ho pins s2 σ H2 G2 y z v u d1 d2 d I2 E2.gh r1 r2 t1 t2 e) fun z s3 ⟨w', H3, I3, r3, G3, g3, q3⟩ => ⟨w', H3, I3, r3, PostE.of g E2 g3 q3⟩
/-- isinstance(x, T), T a built-in class by its name -/
theorem ce_isi {y : Str} {q : Pos} (C : XC c X) (ho : Op1 c X (fun v => call (.builtin "isinstance") [v, .type T]) f) (hg : Gl X "isinstance") (hg2 : Gl X y) (hm2 : y ∈ bltNames) (hv2 : bootBuiltins y = some (.type T)) (ha : CK c X a pk) (hn2 : y ≠ "__name__" := by decide) (hdb2 : (y == ("__debug__" : Str)) = false := by decide)
    (hs : starEach [a, .Name y q] X.env = [(false, eval a X.env), (false, eval (.Name y q) X.env)] := by rfl) : CE c X (.Call (.Name "isinstance" p) [a, .Name y q] [] pos) (o1 f pk) := by
  intro pins s σ H Pr G ρ ρ' d I E h
  refine wpAny_Call_Name_kw (ld_blt I hg (C.blt _ (by decide)) (by decide +kernel : bootBuiltins "isinstance" = some (.builtin "isinstance")) ?_)
  refine PyProof.Rows.callWith_builtin1 (spl2 hs ?_) (by rw [hs]; rfl) rfl
  refine k1 ha I E h fun v s2 z G2 H2 d1 I2 g E2 r1 t1 e => ?_
  exact ld_blt I2 hg2 (C.blt y hm2) hv2 (thn (ho pins s2 σ H2 G2 z v d1 d I2 E2.gh r1 t1 e) fun z s3 ⟨w', H3, I3, r3, G3, g3, q3⟩ => ⟨w', H3, I3, r3, PostE.of g E2 g3 q3⟩) hn2 hdb2
end
end
end VL

set_option Elab.async false
set_option linter.all false
set_option maxRecDepth 100000
/-! V6: what is built in, by values; places, slices, methods of tuples and lists. -/
namespace VL
open PySem PySem.Spec PyProof.Rows L2

section
variable {c : Ct} {X : Cx} {Pr G H : Hp} {σ : L2.St} {ρ ρ' : List O} {pins : List (Addr × Obj)} {s : Shared}

/-- from a call's rule of the layer, at a state -/
theorem op_lenV (C : XC c X) : Op1 c X (fun v => call (.builtin "len") [v]) sLen := by
  intro pins s σ H G x v d r I g rx t e
  cases d with
  | list l =>
    cases e
    obtain ⟨a, xs, rfl, q, ra⟩ := t.seqL g
    exact call_len_seq pins s σ H [.ref a] [v] _ I (.cons rx .nil) ⟨a, xs, rfl, .inl (by rw [C.K]; exact q), gr_same g (by rw [ra.length]; exact .int _)⟩
  | tuple l =>
    cases e
    obtain ⟨a, xs, o, rfl, _, _, q, ra⟩ := t.seqT g
    exact call_len_seq pins s σ H [.ref a] [v] _ I (.cons rx .nil) ⟨a, xs, rfl, .inr (by rw [C.K]; exact q), gr_same g (by rw [ra.length]; exact .int _)⟩
  | _ => cases e
theorem ints_of : ∀ {l : List D} {ns : List Int}, intsOf l = some ns → l = ns.map PyData.int
  | [], _, h => by cases h; rfl
  | .int i :: r, ns, h => by
    unfold intsOf at h
    cases e : intsOf r with
    | none => rw [e] at h; cases h
    | some m =>
      rw [e] at h
      cases h
      rw [ints_of e]
      rfl
  | .none :: _, _, h => by cases h
  | .bool _ :: _, _, h => by cases h
  | .str _ :: _, _, h => by cases h
  | .list _ :: _, _, h => by cases h
  | .tuple _ :: _, _, h => by cases h
  | .dict _ :: _, _, h => by cases h
theorem bools_of : ∀ {l : List D} {bs : List Bool}, boolsOf l = some bs → l = bs.map PyData.bool
  | [], _, h => by cases h; rfl
  | .bool i :: r, ns, h => by
    unfold boolsOf at h
    cases e : boolsOf r with
    | none => rw [e] at h; cases h
    | some m =>
      rw [e] at h
      cases h
      rw [bools_of e]
      rfl
  | .none :: _, _, h => by cases h
  | .int _ :: _, _, h => by cases h
  | .str _ :: _, _, h => by cases h
  | .list _ :: _, _, h => by cases h
  | .tuple _ :: _, _, h => by cases h
  | .dict _ :: _, _, h => by cases h
theorem rpa_ints : ∀ {vs : List V} {ns : List Int}, RpA c G vs (ns.map PyData.int) → vs = ns.map V.int
  | [], [], _ => rfl
  | v :: vs, n :: ns, h => by
    cases h with
    | cons h r =>
      cases h
      rw [rpa_ints r]
      rfl
  | [], _ :: _, h => by cases h
  | _ :: _, [], h => by cases h
/-- sum of a tuple of whole numbers -/
theorem sum_tup {A : Around} {E : Value → Shared → Prop} {P : Program} {w : World} {s : Shared} {l : Addr} {its : List Value} {ns : List Int} {Q : Value → Shared → Prop} (hh : A.handled = none) (hl : s.heap.IsTuple l its.toArray) (hi : IntsAre its ns)
    (h : ∀ h' tk t', (∀ b o, s.heap.get? b = some o → h'.get? b = some o) → Q (.int ns.sum t') { s with heap := h', toks := tk }) : wpAny (model P w) A (call (.builtin "sum") [.ref l]) Q E s := by
  obtain ⟨xs, e⟩ := hi.allInts.items
  have hn : numsOf (intItems xs).toList = ns := by rw [← e]; exact hi.numsOf
  rw [nums_intItems] at hn
  rw [e] at hl
  have hlt : l < s.heap.objs.size := by obtain ⟨_, q, _⟩ := hl; exact Heap.lt_size q
  refine call_sum_walkG (wpAny_pyIter_tuple hl ⟨_, _, _, _, _, _, numAt xs, rfl, Walks.tuple (A := A.in1) hh _ l (Nat.ne_of_lt hlt) (intItems xs), ⟨⟨_, Heap.get?_push_size _ rfl, rfl, rfl⟩, hl.push _⟩, fun b hb => ?_, (fun _ _ => intItems_at), fun h' tk t' hk => ?_⟩)
  · show b < (s.heap.push _).objs.size
    rw [Heap.size_push]
    rcases List.mem_cons.mp hb with rfl | hb
    · exact Nat.lt_succ_self _
    · rcases List.mem_cons.mp hb with rfl | hb
      · exact Nat.lt_succ_of_lt hlt
      · cases hb
  · have q := h h' tk t' fun b o e => hk b o (fun hb => absurd (Heap.lt_size e) ((List.mem_singleton.mp hb) ▸ Nat.lt_irrefl _)) (Heap.get?_push_of_some _ e)
    have e2 : preSum (numAt xs) (intItems xs).size = ns.sum := by
      have : (intItems xs).size = xs.size := by simp [intItems]
      rw [this, preSum_eq, List.take_of_length_le (by simp), hn]
    rw [e2]
    exact q
theorem op_sumV (C : XC c X) : Op1 c X (fun v => call (.builtin "sum") [v]) sSum := by
  intro pins s σ H G x v d r I g rx t e
  unfold sSum at e
  cases d with
  | list l =>
    simp only [seqOf, Option.bind_eq_bind, Option.bind_some, Option.bind_eq_some_iff] at e
    obtain ⟨ns, h1, h2⟩ := e
    cases h2
    obtain rfl := ints_of h1
    obtain ⟨a, xs, rfl, q, ra⟩ := t.seqL g
    obtain rfl := rpa_ints ra
    exact cr_sum C.calm pins s σ H [.ref a] [v] _ I (.cons rx .nil) ⟨a, ns, rfl, by rw [C.K]; exact q, gr_same g (.int _)⟩
  | tuple l =>
    simp only [seqOf, Option.bind_eq_bind, Option.bind_some, Option.bind_eq_some_iff] at e
    obtain ⟨ns, h1, h2⟩ := e
    cases h2
    obtain rfl := ints_of h1
    obtain ⟨a, xs, o, rfl, f, _, q, ra⟩ := t.seqT g
    obtain rfl := rpa_ints ra
    obtain ⟨its, rv, p, z⟩ := I.tupAt g f
    cases rx
    exact sum_tup (I.ok.hd C.calm) p (intsAre_of rv) fun h' tk t' hk => ⟨.int _, H, I.kept hk, ⟨_, rfl⟩, gr_same g (.int _)⟩
  | _ => simp [seqOf] at e
theorem bools_plain : ∀ bs : List Bool, PyData.plainAll (bs.map PyData.bool) = true
  | [] => rfl
  | b :: bs => by
    show (PyData.plain (.bool b) && PyData.plainAll (bs.map PyData.bool)) = true
    rw [bools_plain bs]
    rfl
theorem bools_fit {bs : List Bool} : ∀ x ∈ bs.map PyData.bool, x.fits63 := by
  intro x hx
  obtain ⟨b, _, rfl⟩ := List.mem_map.mp hx
  trivial
theorem op_anyV (C : XC c X) : Op1 c X (fun v => call (.builtin "any") [v]) sAny := by
  intro pins s σ H G x v d r I g rx t e
  cases d with
  | list l =>
    have e : (boolsOf l).map (fun bs => PyData.bool (bs.any id)) = some r := e
    obtain ⟨bs, h1, rfl⟩ := Option.map_eq_some_iff.mp e
    obtain rfl := bools_of h1
    obtain ⟨a, xs, rfl, q, ra⟩ := t.seqL g
    obtain ⟨its, rv, pl, hz⟩ := I.list (by rw [C.K]; exact q)
    cases rx
    obtain ⟨as, hr⟩ := Dp.readsAll I _ xs its (by rw [C.K]; exact ra.dp g (bools_plain bs)) rv
    refine PySem.W.any_list_data (I.ok.hd C.calm) pl.isList (by simpa using hr) (bools_plain bs) bools_fit fun h' tk hk => ⟨.bl _, H, I.kept hk, rfl, gr_same g ?_⟩
    have e2 : (bs.map PyData.bool).any PyData.truthy = bs.any id := by
      rw [List.any_map]
      rfl
    rw [e2]
    exact .bl _
  | _ => cases e
theorem op_allV (C : XC c X) : Op1 c X (fun v => call (.builtin "all") [v]) sAll := by
  intro pins s σ H G x v d r I g rx t e
  cases d with
  | list l =>
    have e : (boolsOf l).map (fun bs => PyData.bool (bs.all id)) = some r := e
    obtain ⟨bs, h1, rfl⟩ := Option.map_eq_some_iff.mp e
    obtain rfl := bools_of h1
    obtain ⟨a, xs, rfl, q, ra⟩ := t.seqL g
    obtain ⟨its, rv, pl, hz⟩ := I.list (by rw [C.K]; exact q)
    cases rx
    obtain ⟨as, hr⟩ := Dp.readsAll I _ xs its (by rw [C.K]; exact ra.dp g (bools_plain bs)) rv
    refine PySem.W.all_list_data (I.ok.hd C.calm) pl.isList (by simpa using hr) (bools_plain bs) bools_fit fun h' tk hk => ⟨.bl _, H, I.kept hk, rfl, gr_same g ?_⟩
    have e2 : (bs.map PyData.bool).all PyData.truthy = bs.all id := by
      rw [List.all_map]
      rfl
    rw [e2]
    exact .bl _
  | _ => cases e
theorem foldl_max_mem (n : Int) : ∀ ns : List Int, ∀ m, (n ≤ m) → (ns.foldl max m = m ∨ ns.foldl max m ∈ ns) ∧ m ≤ ns.foldl max m ∧ ∀ y ∈ ns, y ≤ ns.foldl max m
  | [], m, _ => ⟨.inl rfl, Int.le_refl _, fun _ h => by cases h⟩
  | k :: ns, m, h => by
    obtain ⟨h1, h2, h3⟩ := foldl_max_mem n ns (max m k) (by omega)
    show (ns.foldl max (max m k) = m ∨ ns.foldl max (max m k) ∈ k :: ns) ∧ m ≤ ns.foldl max (max m k) ∧ ∀ y ∈ k :: ns, y ≤ ns.foldl max (max m k)
    refine ⟨?_, by omega, fun y hy => ?_⟩
    · rcases h1 with h1 | h1
      · by_cases q : k ≤ m
        · left; omega
        · right
          have : ns.foldl max (max m k) = k := by omega
          rw [this]
          exact List.mem_cons_self
      · right; exact List.mem_cons_of_mem _ h1
    · rcases List.mem_cons.mp hy with e | hy
      · omega
      · exact h3 y hy
theorem op_maxV (C : XC c X) : Op1 c X (fun v => call (.builtin "max") [v]) sMax := by
  intro pins s σ H G x v d r I g rx t e
  cases d with
  | list l =>
    unfold sMax at e
    simp only at e
    split at e
    · rename_i n ns h1
      cases e
      obtain rfl := ints_of h1
      obtain ⟨a, xs, rfl, q, ra⟩ := t.seqL g
      obtain rfl := rpa_ints ra
      refine cr_max C.calm pins s σ H [.ref a] [v] _ I (.cons rx .nil) ⟨a, n :: ns, rfl, by rw [C.K]; exact q, by simp, fun m hm hy => gr_same g ?_⟩
      have f := foldl_max_mem n ns n (Int.le_refl _)
      have e1 : m = ns.foldl max n := by
        have a1 := hy (ns.foldl max n) (by
          rcases f.1 with h | h
          · rw [h]; exact List.mem_cons_self
          · exact List.mem_cons_of_mem _ h)
        rcases List.mem_cons.mp hm with h | h
        · have := f.2.1; omega
        · have := f.2.2 m h; omega
      rw [e1]
      exact .int _
    · cases e
  | _ => cases e
theorem op_absV : Op1 c X (fun v => call (.builtin "abs") [v]) sAbs := by
  intro pins s σ H G x v d r I g rx t e
  cases d with
  | int i =>
    cases e
    rw [t.int] at rx
    exact call_abs pins s σ H [.int i] [v] _ I (.cons rx .nil) ⟨i, rfl, gr_same g (.int _)⟩
  | _ => cases e
theorem op_intV : Op1 c X (fun v => call (.type "int") [v]) sInt := by
  intro pins s σ H G x v d r I g rx t e
  cases d with
  | int i =>
    cases e
    rw [t.int] at rx
    exact call_int1 pins s σ H [.int i] [v] _ I (.cons rx .nil) (.inl ⟨i, rfl, gr_same g (.int _)⟩)
  | bool b =>
    cases e
    rw [t.bl] at rx
    exact call_int1 pins s σ H [.bl b] [v] _ I (.cons rx .nil) (.inr ⟨b, rfl, gr_same g (.int _)⟩)
  | _ => cases e
theorem op_min2V (C : XC c X) : Op2 c X (fun v u => call (.builtin "min") [v, u]) sMin2 := by
  intro pins s σ H G x y v u d e r I g rx ry t1 t2 h
  cases d <;> cases e <;> try (cases h; done)
  rename_i i j
  cases h
  rw [t1.int] at rx
  rw [t2.int] at ry
  exact call_min2 C.calm pins s σ H [.int i, .int j] [v, u] _ I (.cons rx (.cons ry .nil)) ⟨i, j, rfl, gr_same g (.int _)⟩
theorem op_max2V (C : XC c X) : Op2 c X (fun v u => call (.builtin "max") [v, u]) sMax2 := by
  intro pins s σ H G x y v u d e r I g rx ry t1 t2 h
  cases d <;> cases e <;> try (cases h; done)
  rename_i i j
  cases h
  rw [t1.int] at rx
  rw [t2.int] at ry
  exact call_max2 C.calm pins s σ H [.int i, .int j] [v, u] _ I (.cons rx (.cons ry .nil)) ⟨i, j, rfl, gr_same g (.int _)⟩
theorem op_tupleV (C : XC c X) : Op1 c X (fun v => call (.type "tuple") [v]) sTuple := by
  intro pins s σ H G x v d r I g rx t e
  cases d with
  | list l =>
    cases e
    obtain ⟨a, xs, rfl, q, ra⟩ := t.seqL g
    obtain ⟨its, rv, pl, hz⟩ := I.list (by rw [C.K]; exact q)
    cases rx
    refine call_tuple_list pl.isList (fun h' kp => ?_) (by rw [List.size_toArray, ← rv.length]; exact hz)
    exact laidT (s := s) (h' := h') (tk := s.toks) (I.kept (t' := s.toks) kp) g rv hz ra
  | tuple l =>
    cases e
    obtain ⟨a, xs, o, rfl, f, n, q, ra⟩ := t.seqT g
    obtain ⟨its, rv, p, z⟩ := I.tupAt g f
    cases rx
    exact call_tuple_same p ⟨.ref a, H, I, rfl, gr_same g (.tup f n ra)⟩
  | _ => cases e
/-- list(x) of a list, a tuple -/
def sListS : D → Option D
  | .list l => some (.list l)
  | .tuple l => some (.list l)
  | _ => none
theorem fp_listV (C : XC c X) : Fp1 c X (fun v => call (.type "list") [v]) sListS := by
  intro pins s σ H G x v d r I g rx t e
  have fin : ∀ {a : Addr} {xs : List V} {l : List D}, x = .ref a → (SqL X.K H a xs ∨ SqT X.K H a xs) → RpA c G xs l → wpAny (model X.prog X.w) X.A (call (.type "list") [v]) (EP X pins σ (FL c G H (.list l))) X.xe s := fun {a xs l} ex q ra => by
    subst ex
    exact call_list_of pins s σ H [.ref a] [v] _ I (.cons rx .nil) ⟨a, xs, rfl, q, fun p n => ⟨G, H, p, xs, l, Gr.refl g, rfl, n, rfl, rfl, ra⟩⟩
  cases d with
  | list l =>
    cases e
    obtain ⟨a, xs, ex, q, ra⟩ := t.seqL g
    exact fin ex (.inl (by rw [C.K]; exact q)) ra
  | tuple l =>
    cases e
    obtain ⟨a, xs, o, ex, f, n, q, ra⟩ := t.seqT g
    exact fin ex (.inr (by rw [C.K]; exact q)) ra
  | _ => cases e
/-! ### isinstance -/
theorem rpt_reads_or_dict {v : V} {u : Value} {d : D} (C : XC c X) (I : Inv X pins σ H s) (g : Ge G H) (t : RpT c G H v d) (ru : RelV v u) (hd : d.plain = true) : ∃ as, Reads s.heap u d as := t.reads C I g hd ru
/-- isinstance of a value without dicts in it -/
def sIsi (f : D → Bool) (d : D) : Option D := if d.plain then some (.bool (f d)) else none
theorem op_isi {T : String} {f : D → Bool} (C : XC c X) (h : ∀ {P : Program} {w : World} {A : Around} {E : Value → Shared → Prop} {s : Shared} {v : Value} {d : D} {as : List Addr} {Q : Value → Shared → Prop}, Reads s.heap v d as → (∀ tk, s.toks ≤ tk → Q (.bool (f d)) { s with toks := tk }) → wpAny (model P w) A (call (.builtin "isinstance") [v, .type T]) Q E s) :
    Op1 c X (fun v => call (.builtin "isinstance") [v, .type T]) (sIsi f) := by
  intro pins s σ H G x v d r I g rx t e
  unfold sIsi at e
  split at e
  · rename_i q
    cases e
    obtain ⟨as, ra⟩ := t.reads C I g q rx
    exact h ra fun tk _ => ⟨.bl _, H, I.tok tk, rfl, gr_same g (.bl _)⟩
  · cases e
theorem op_isiInt (C : XC c X) : Op1 c X (fun v => call (.builtin "isinstance") [v, .type "int"]) (sIsi PyData.isInt) := op_isi C fun r h => PySem.W.isinstance_int_data r h
theorem op_isiBool (C : XC c X) : Op1 c X (fun v => call (.builtin "isinstance") [v, .type "bool"]) (sIsi PyData.isBool) := op_isi C fun r h => PySem.W.isinstance_bool_data r h
theorem op_isiStr (C : XC c X) : Op1 c X (fun v => call (.builtin "isinstance") [v, .type "str"]) (sIsi PyData.isStr) := op_isi C fun r h => PySem.W.isinstance_str_data r h
theorem op_isiTuple (C : XC c X) : Op1 c X (fun v => call (.builtin "isinstance") [v, .type "tuple"]) (sIsi PyData.isTuple) := op_isi C fun r h => PySem.W.isinstance_tuple_data r h

/-! ### places -/
theorem rpa_at {vs : List V} {ds : List D} {i : Int} {d : D} (ra : RpA c G vs ds) (h : ixOf ds i = some d) : ∃ v, atI vs i = some v ∧ Rp c G v d := by
  unfold ixOf atI at h
  rw [← ra.length] at h
  unfold atI
  cases e : ixN vs.length i with
  | none => rw [e] at h; cases h
  | some j =>
    rw [e] at h
    exact ra.get h
/-- the tail of a subscript -/
def IxV (c : Ct) (X : Cx) (f : D → D → Option D) : Prop := ∀ (value slice : Expr) (pins : List (Addr × Obj)) (s : Shared) (σ : L2.St) (H G : Hp) (x y : V) (v u : Value) (d e r : D), Inv X pins σ H s → Ge G H → RelV x v → RelV y u → RpT c G H x d → RpT c G H y e → f d e = some r →
  subscripted slice false v u = operate [v, u] (getItem v u) → wpAny (model X.prog X.w) X.A (subscriptTail value slice v u) (EP X pins σ fun z H' => ∃ G', Gr G H G' H' ∧ Rp c G' z r) X.xe s
theorem ix_seqV (C : XC c X) : IxV c X sIx := by
  intro value slice pins s σ H G x y v u d e r I g rx ry t1 t2 h hs
  cases d with
  | list l =>
    cases e with
    | int i =>
      obtain ⟨a, xs, rfl, q, ra⟩ := t1.seqL g
      obtain ⟨z, h1, h2⟩ := rpa_at ra h
      rw [t2.int] at ry
      exact ix_list value slice pins s σ H _ _ v u _ I rx ry ⟨a, xs, i, z, rfl, rfl, by rw [C.K]; exact q, h1, gr_same g h2⟩ hs
    | _ => cases h
  | tuple l =>
    cases e with
    | int i =>
      obtain ⟨a, xs, o, rfl, f, n, q, ra⟩ := t1.seqT g
      obtain ⟨z, h1, h2⟩ := rpa_at ra h
      rw [t2.int] at ry
      exact ix_tup value slice pins s σ H _ _ v u _ I rx ry ⟨a, xs, i, z, rfl, rfl, by rw [C.K]; exact q, h1, gr_same g h2⟩ hs
    | _ => cases h
  | _ => cases e <;> cases h
theorem ce_ix {a b : Expr} {pos : Pos} {p q : Pk} {f : D → D → Option D} (hr : IxV c X f) (ha : CK c X a p) (hb : CK c X b q) (hs : PlainIx b) : CE c X (.Subscript a b pos) (o2 f p q) := by
  intro pins s σ H Pr G ρ ρ' d I E h
  refine Subscript_ (k2 ha hb I E h fun v u s2 x y G2 H2 d1 d2 I2 g E2 r1 r2 t1 t2 e => ?_)
  exact thn (hr a b pins s2 σ H2 G2 x y v u d1 d2 d I2 E2.gh r1 r2 t1 t2 e (hs _ _)) fun z s3 ⟨w', H3, I3, r3, G3, g3, q3⟩ => ⟨w', H3, I3, r3, PostE.of g E2 g3 q3⟩

/-! ### slices -/
/-- a slice's part: a whole number or nothing -/
def CP (c : Ct) (X : Cx) (e : Option Expr) (f : Ev) : Prop := ∀ (pins : List (Addr × Obj)) (s : Shared) (σ : L2.St) (H Pr G : Hp) (ρ ρ' : List O) (d : D) (i : Option Int), Inv X pins σ H s → ER c Pr G H σ ρ → f ρ = some (d, ρ') → partOf d = some i →
  wpAny (model X.prog X.w) X.A (evalPart e X.env) (fun u s' => ∃ H' G', Inv X pins σ H' s' ∧ Ge G G' ∧ ER c Pr G' H' σ ρ' ∧ IsPart u i) X.xe s
theorem cp_none : CP c X none (eC .none) := by
  intro pins s σ H Pr G ρ ρ' d i I E q hp
  cases q
  cases hp
  rw [evalPart_none]
  exact wpAny_pure ⟨H, G, I, Ge.refl _, E, .none⟩
theorem cp_some {e : Expr} {f : Ev} (h : CE c X e f) : CP c X (some e) f := by
  intro pins s σ H Pr G ρ ρ' d i I E q hp
  rw [evalPart_some]
  refine thn (h pins s σ H Pr G ρ ρ' d I E q) fun u s1 ⟨x, H1, I1, r1, G1, g1, E1, q1⟩ => ?_
  cases d with
  | none =>
    cases hp
    cases q1
    cases r1
    exact ⟨H1, G1, I1, g1, E1, .none⟩
  | int j =>
    cases hp
    cases q1
    obtain ⟨t, rfl⟩ := r1
    exact ⟨H1, G1, I1, g1, E1, .int _ _⟩
  | _ => cases hp
theorem o3_some {f : D → D → D → Option D} {p q r : Pk} {z : D × List O} (h : o3 f p q r ρ = some z) : ∃ t u v ρ1 ρ2 x y w, p ρ = some (t, ρ1) ∧ q ρ1 = some (u, ρ2) ∧ r ρ2 = some (v, z.2) ∧ t z.2 = some x ∧ u z.2 = some y ∧ v z.2 = some w ∧ f x y w = some z.1 := by
  unfold o3 at h
  split at h
  · rename_i t ρ1 h1
    split at h
    · rename_i u ρ2 h2
      split at h
      · rename_i v ρ3 h3
        split at h
        · rename_i x y w hx hy hw
          split at h
          · rename_i d hd
            cases h
            exact ⟨t, u, v, ρ1, ρ2, x, y, w, h1, h2, h3, hx, hy, hw, hd⟩
          · cases h
        · cases h
      · cases h
    · cases h
  · cases h
theorem kE_some {f : Ev} {z : (List O → Option D) × List O} (h : kE f ρ = some z) : ∃ d, f ρ = some (d, z.2) ∧ z.1 = fun _ => some d := by
  unfold kE at h
  split at h
  · rename_i d ρ1 h1
    cases h
    exact ⟨d, h1, rfl⟩
  · cases h
theorem rpa_cut {vs : List V} {ds : List D} {lo hi : Option Int} (ra : RpA c G vs ds) : RpA c G (cutV vs lo hi) (cutL ds lo hi) := by
  unfold cutV cutL
  rw [← ra.length]
  exact (ra.drop _).take _
/-- what a slice of a value is, by values -/
def SlV (c : Ct) (X : Cx) (f : D → D → D → Option D) (W : Hp → Hp → D → VK) : Prop := ∀ (pins : List (Addr × Obj)) (s : Shared) (σ : L2.St) (H G : Hp) (x : V) (v vl vu : Value) (d dl dh r : D) (lo hi : Option Int) (sl : Addr), Inv X pins σ H s → Ge G H → RelV x v → RpT c G H x d → s.heap.IsSliceOf sl vl vu .none → partOf dl = some lo → partOf dh = some hi → IsPart vl lo → IsPart vu hi → f d dl dh = some r →
  ∃ T id, typeLookup (.type T) "__getitem__" = pure (some (.builtin id)) ∧ s.TypeIs v T ∧ wpAny (model X.prog X.w) X.A (getItem v (.ref sl)) (EP X pins σ (W G H r)) X.xe s
theorem sl_core {a : Expr} {lo hi : Option Expr} {pos p2 : Pos} {p : Pk} {fl fh : Ev} {f : D → D → D → Option D} {d : D} {W : Hp → Hp → D → VK} {Q : VK} (hW : ∀ G2 H2 v H3, Ge G G2 → ER c Pr G2 H2 σ ρ' → W G2 H2 d v H3 → Q v H3) (hr : SlV c X f W) (hf : ∀ x y z r, f x y z = some r → (∃ i, partOf y = some i) ∧ ∃ i, partOf z = some i)
    (ha : CK c X a p) (hl : CP c X lo fl) (hh : CP c X hi fh) (I : Inv X pins σ H s) (E : ER c Pr G H σ ρ) (h : o3 f p (kE fl) (kE fh) ρ = some (d, ρ')) :
    wpAny (model X.prog X.w) X.A (eval (.Subscript a (.Slice lo hi none p2) pos) X.env) (EP X pins σ Q) X.xe s := by
  obtain ⟨t, u, v, ρ1, ρ2, x, y, z, h1, h2, h3, hx, hy, hz, hd⟩ := o3_some h
  obtain ⟨y', h4, e4⟩ := kE_some h2
  obtain ⟨z', h5, e5⟩ := kE_some h3
  have e4 : u = fun _ => some y' := e4
  have e5 : v = fun _ => some z' := e5
  rw [e4] at hy
  rw [e5] at hz
  cases hy
  cases hz
  obtain ⟨⟨il, pl⟩, ih, ph⟩ := hf _ _ _ _ hd
  refine Subscript_ (thn (ha pins s σ H Pr G ρ ρ1 t I E h1) fun v s1 ⟨xv, H1, I1, r1, G1, g1, E1, q1⟩ => ?_)
  refine wpAny_Slice (thn (hl pins s1 σ H1 Pr G1 ρ1 ρ2 y il I1 E1 h4 pl) fun vl s2 ⟨H2, G2, I2, g2, E2, il⟩ => thn (hh pins s2 σ H2 Pr G2 ρ2 ρ' z ih I2 E2 h5 ph) fun vu s3 ⟨H3, G3, I3, g3, E3, ih⟩ => ?_)
  rw [evalPart_none]
  refine wpAny_pure ?_
  have I4 : Inv X pins σ H3 { s3 with heap := s3.heap.push { cls := .type "slice", data := .fields #[vl, vu, .none] } } := I3.kept (t' := s3.toks) fun b ob q => Heap.get?_push_of_some _ q
  have rx := q1 G3 H3 ρ' x (g2.trans g3) E3 hx
  obtain ⟨T, id, hT, ht, hg⟩ := hr pins { s3 with heap := s3.heap.push { cls := .type "slice", data := .fields #[vl, vu, .none] } } σ H3 G3 xv v vl vu x y z d _ _ s3.heap.objs.size I4 E3.gh r1 rx (Heap.IsSliceOf.new ..) pl ph il ih hd
  show wpAny (model X.prog X.w) X.A (subscriptTail a (.Slice lo hi none p2) v (.ref s3.heap.objs.size)) (EP X pins σ Q) X.xe { s3 with heap := s3.heap.push { cls := .type "slice", data := .fields #[vl, vu, .none] } }
  refine tail_any (ops := [.ref s3.heap.objs.size, v]) ht hT (thn hg fun z s4 ⟨w', H4, I4, r4, q4⟩ => ?_) (by with_unfolding_all rfl)
  exact ⟨w', H4, I4, r4, hW G3 H3 w' H4 ((g1.trans g2).trans g3) E3 q4⟩
theorem sl_tupV : SlV c X sCutT (fun G H r z H' => ∃ G', Gr G H G' H' ∧ Rp c G' z r) := by
  intro pins s σ H G x v vl vu d dl dh r lo hi sl I g rx t hs p1 p2 i1 i2 h
  cases d with
  | tuple l =>
    unfold sCutT at h
    simp only [p1, p2] at h
    cases h
    obtain ⟨a, xs, o, rfl, f, n, q, ra⟩ := t.seqT g
    obtain ⟨its, rv, ht, hz⟩ := I.tupAt g f
    cases rx
    refine ⟨"tuple", _, PyProof.Rows.slot_tuple_getitem.lookup, ht.typeIs, ?_⟩
    have hlen : its.toArray.size = xs.length := by rw [List.size_toArray]; exact rv.length.symm
    have rc := rpa_cut (lo := lo) (hi := hi) ra
    by_cases hw : HT.sIx xs.length 0 lo = 0 ∧ HT.sIx xs.length xs.length hi = xs.length
    · refine getItem_tuple_whole ht hs i1 i2 (by rw [hlen]; exact hw) ⟨.ref a, H, I, rfl, gr_same g ?_⟩
      have e1 : cutL l lo hi = l := by
        unfold cutL
        rw [← ra.length, hw.1, hw.2, List.drop_zero, ra.length, Nat.sub_zero, List.take_length]
      rw [e1]
      exact .tup f n ra
    · refine HT.getItem_tuple_cut ht hs i1 i2 (by rw [hlen]; exact hw) ?_ (by rw [hlen]; exact hz)
      rw [hlen]
      exact laidT (h' := s.heap) (tk := s.toks) I g ((rv.drop (HT.sIx xs.length 0 lo)).take (HT.sIx xs.length xs.length hi - HT.sIx xs.length 0 lo)) (Nat.le_trans (cutV_length xs lo hi) hz) rc
  | _ => cases h
theorem ce_cutT {a : Expr} {lo hi : Option Expr} {pos p2 : Pos} {p : Pk} {fl fh : Ev} (ha : CK c X a p) (hl : CP c X lo fl) (hh : CP c X hi fh) : CE c X (.Subscript a (.Slice lo hi none p2) pos) (o3 sCutT p (kE fl) (kE fh)) := by
  intro pins s σ H Pr G ρ ρ' d I E h
  refine sl_core (fun G2 H2 v H3 g E2 q => ?_) sl_tupV (fun x y z r h => ?_) ha hl hh I E h
  · obtain ⟨G3, g3, rp⟩ := q
    exact PostE.of g E2 g3 rp
  · cases x with
    | tuple l =>
      unfold sCutT at h
      simp only at h
      split at h
      · rename_i lo hi h1 h2
        exact ⟨⟨_, h1⟩, _, h2⟩
      · cases h
    | _ => cases h
theorem sl_listV (C : XC c X) : SlV c X sCutL (fun G H r => FL c G H r) := by
  intro pins s σ H G x v vl vu d dl dh r lo hi sl I g rx t hs p1 p2 i1 i2 h
  cases d with
  | list l =>
    unfold sCutL at h
    simp only [p1, p2] at h
    cases h
    obtain ⟨a, xs, rfl, q, ra⟩ := t.seqL g
    have rc := rpa_cut (lo := lo) (hi := hi) ra
    exact sl_list pins s σ H _ v vl vu lo hi sl _ I rx hs i1 i2 ⟨a, xs, rfl, by rw [C.K]; exact q, fun p n => ⟨G, H, p, _, _, Gr.refl g, rfl, n, rfl, rfl, rc⟩⟩
  | _ => cases h
theorem cf_cutL {a : Expr} {lo hi : Option Expr} {pos p2 : Pos} {p : Pk} {fl fh : Ev} (C : XC c X) (ha : CK c X a p) (hl : CP c X lo fl) (hh : CP c X hi fh) : CF c X (.Subscript a (.Slice lo hi none p2) pos) (o3 sCutL p (kE fl) (kE fh)) := by
  intro pins s σ H Pr G ρ ρ' d I E h
  refine sl_core (fun G2 H2 v H3 g E2 q => ?_) (sl_listV C) (fun x y z r h => ?_) ha hl hh I E h
  · exact PostF.of g E2 q
  · cases x with
    | list l =>
      unfold sCutL at h
      simp only at h
      split at h
      · rename_i lo hi h1 h2
        exact ⟨⟨_, h1⟩, _, h2⟩
      · cases h
    | _ => cases h
/-- a op b op' c -/
theorem eChain_some {f g : D → D → Option D} {a b e : Ev} {z : D × List O} (h : eChain f g a b e ρ = some z) : ∃ x ρ1 y ρ2 k, a ρ = some (x, ρ1) ∧ b ρ1 = some (y, ρ2) ∧ f x y = some (.bool k) ∧ (k = false → z = (.bool false, ρ2)) ∧ (k = true → ∃ w j, e ρ2 = some (w, z.2) ∧ g y w = some (.bool j) ∧ z.1 = .bool j) := by
  unfold eChain at h
  split at h
  · rename_i x ρ1 h1
    split at h
    · rename_i y ρ2 h2
      split at h
      · rename_i h3
        split at h
        · rename_i w ρ3 h4
          split at h
          · rename_i j h5
            cases h
            exact ⟨x, ρ1, y, ρ2, true, h1, h2, h3, (fun q => nomatch q), fun _ => ⟨w, j, h4, h5, rfl⟩⟩
          · cases h
        · cases h
      · rename_i h3
        cases h
        exact ⟨x, ρ1, y, ρ2, false, h1, h2, h3, fun _ => rfl, fun q => nomatch q⟩
      · cases h
    · cases h
  · cases h
theorem ce_chain {a b e : Expr} {pos : Pos} {op op' : CmpOp} {f g : D → D → Option D} {fa fb fe : Ev} (ho : Op2 c X (compareOp op) f) (ho' : Op2 c X (compareOp op') g) (ha : CE c X a fa) (hb : CE c X b fb) (he : CE c X e fe)
    (hm : lastMarks [op, op'] [b, e] = false := by with_unfolding_all rfl) : CE c X (.Compare a [op, op'] [b, e] pos) (eChain f g fa fb fe) := by
  intro pins s σ H Pr G ρ ρ' d I E h
  obtain ⟨x, ρ1, y, ρ2, k, h1, h2, h3, h4, h5⟩ := eChain_some h
  refine Compare_chain (thn (ha pins s σ H Pr G ρ ρ1 x I E h1) fun v s1 ⟨xv, H1, I1, r1, G1, g1, E1, q1⟩ => chain_link (thn (hb pins s1 σ H1 Pr G1 ρ1 ρ2 y I1 E1 h2) fun u s2 ⟨yv, H2, I2, r2, G2, g2, E2, q2⟩ =>
    thn (ho pins s2 σ H2 G2 xv yv v u x y _ I2 E2.gh r1 r2 (.of (q1.mono g2)) (.of q2) h3) fun z s3 ⟨zv, H3, I3, r3, G3, g3, q3⟩ => ?_)) hm
  cases q3
  cases r3
  have E3 := E2.gr g3
  refine wpAny_truthy_bool ?_
  cases k with
  | false =>
    have e := h4 rfl
    cases e
    exact ite_ff ⟨.bl false, H3, I3, rfl, G3, (g1.trans g2).trans g3.ge, E3, .bl false⟩
  | true =>
    obtain ⟨w, j, h6, h7, h8⟩ := h5 rfl
    have h8 : d = .bool j := h8
    subst h8
    refine ite_tt (chain_last (thn (he pins s3 σ H3 Pr G3 ρ2 ρ' w I3 E3 h6) fun w' s4 ⟨wv, H4, I4, r4, G4, g4, E4, q4⟩ => ?_))
    exact thn (ho' pins s4 σ H4 G4 yv wv u w' y w _ I4 E4.gh r2 r4 (.of (q2.mono (g3.ge.trans g4))) (.of q4) h7) fun z s5 ⟨zv, H5, I5, r5, G5, g5, q5⟩ => ⟨zv, H5, I5, r5, G5, ((g1.trans g2).trans g3.ge).trans (g4.trans g5.ge), E4.gr g5, q5⟩
end
end VL

set_option Elab.async false
set_option linter.all false
set_option maxRecDepth 100000
/-! V7: targets, what is walked, comprehensions. -/
namespace VL
open PySem PySem.Spec PyProof.Rows L2

/-- the readings -/
def tE (c : Ct) (f : Ev) : TE := fun σ H Q => ∃ Pr G ρ d ρ', ER c Pr G H σ ρ ∧ f ρ = some (d, ρ') ∧ ∀ v H', PostE c Pr G σ ρ' d v H' → Q v H'
def tT (c : Ct) (f : Ev) : TT := fun σ H Q => ∃ Pr G ρ b ρ', ER c Pr G H σ ρ ∧ f ρ = some (.bool b, ρ') ∧ ∀ H', (∃ G', Ge G G' ∧ ER c Pr G' H' σ ρ') → Q b H'
theorem CE.pe {c : Ct} {X : Cx} {e : Expr} {f : Ev} (h : CE c X e f) : PE X e (tE c f) := ⟨fun pins s σ H Q I ⟨Pr, G, ρ, d, ρ', E, q, k⟩ =>
  thn (h pins s σ H Pr G ρ ρ' d I E q) fun u s' ⟨v, H', I', r, p⟩ => ⟨v, H', I', r, k v H' p⟩⟩
theorem CT.pt {c : Ct} {X : Cx} {e : Expr} {f : Ev} (h : CT c X e f) : PT X e (tT c f) := ⟨fun pins s σ H Q I ⟨Pr, G, ρ, b, ρ', E, q, k⟩ =>
  thn (h pins s σ H Pr G ρ ρ' b I E q) fun u s' ⟨H', I', eu, p⟩ => ⟨H', I', by rw [eu]; exact k H' p⟩⟩
/-- a target: the slots it stores, and no others -/
def tG (c : Ct) (t : Tg) : TG := fun v σ H Q => ∃ Pr G ρ d ρ', ER c Pr G H σ ρ ∧ Rp c G v d ∧ tgo t d ρ = some ρ' ∧ ∀ σ' H', ER c Pr G H' σ' ρ' → H' = H → σ'.length = σ.length → (∀ j, j ∉ tgIs t → σ'[j]? = σ[j]?) → Q σ' H'
def CG (c : Ct) (X : Cx) (e : Expr) (t : Tg) : Prop := PG X e (tG c t)
/-- an iterator whose items are xs -/
structure Wk (c : Ct) (G0 : Hp) (J : It) (xs : List D) : Prop where
  few : xs.length ≤ sizeLine
  item : ∀ G H, Ge G0 G → Ge G H → ∀ i d, xs[i]? = some d → J.go i H ∧ ∀ x H', J.yld i H x H' → ∃ G', Gr G H G' H' ∧ Rp c G' x d
  stop : ∀ G H, Ge G0 G → Ge G H → J.stop xs.length H
def tI (c : Ct) (it : Iv) : TI := fun σ H R => ∃ Pr G ρ xs ρ', ER c Pr G H σ ρ ∧ it ρ = some (xs, ρ') ∧ ∀ J G' H', Ge G G' → ER c Pr G' H' σ ρ' → Wk c G' J xs → R J H'
def CI (c : Ct) (X : Cx) (tg e : Expr) (it : Iv) : Prop := PI X tg e (tI c it)

section
variable {c : Ct} {X : Cx} {Pr G H : Hp} {σ : L2.St} {ρ ρ' : List O} {pins : List (Addr × Obj)} {s : Shared}

theorem ER.at {i : Nat} {v : Option V} (E : ER c Pr G H σ ρ) (h : σ[i]? = some v) : ∃ o, ρ[i]? = some o := by
  have hl := E.len
  have : i < ρ.length := by rw [← hl]; exact (List.getElem?_eq_some_iff.mp h).1
  exact ⟨ρ[i], by simp [this]⟩
theorem ER.set {i : Nat} {v : V} {d : D} (E : ER c Pr G H σ ρ) (r : Rp c G v d) : ER c Pr G H (σ.set i (some v)) (ρ.set i (.val d)) := by
  by_cases h : i < ρ.length
  · exact E.setv (o := ρ[i]) (by simp [h]) r
  · have h2 : ¬ i < σ.length := by rw [E.len]; exact h
    rw [List.set_eq_of_length_le (by omega), List.set_eq_of_length_le (by omega)]
    exact E
theorem ER.unset' {i : Nat} {s' : Option V} (E : ER c Pr G H σ ρ) : ER c Pr G H (σ.set i s') (ρ.set i .un) := by
  by_cases h : i < ρ.length
  · exact E.unset (o := ρ[i]) (by simp [h])
  · have h2 : ¬ i < σ.length := by rw [E.len]; exact h
    rw [List.set_eq_of_length_le (by omega), List.set_eq_of_length_le (by omega)]
    exact E
/-! ### targets -/
theorem cg_name {i : Nat} {x : Str} {pos : Pos} (hN : X.N.Nodup) (hi : X.N[i]? = some x) (hx : Loc X.env.scope x) (hf : X.fn x = true ∨ X.env.scope.names.lookup x = some .local := by first | exact .inl rfl | exact .inr rfl | assumption) : CG c X (.Name x pos) (.one i) := by
  refine ⟨fun pins s σ H v u Q I r ⟨Pr, G, ρ, d, ρ', E, rp, q, k⟩ => ?_⟩
  cases q
  exact (pg_name hN hi hx hf).run pins s σ H v u Q I r (k _ H (E.set rp) rfl (List.length_set) fun j hj => List.getElem?_set_ne fun e => hj (by subst e; simp [tgIs]))
/-- several names, one after another -/
def gAll (c : Ct) (is : List Nat) : TGs := fun vs σ H Q => ∃ Pr G ρ ds ρ', ER c Pr G H σ ρ ∧ RpA c G vs ds ∧ setAll is ds ρ = some ρ' ∧ ∀ σ' H', ER c Pr G H' σ' ρ' → H' = H → σ'.length = σ.length → (∀ j, j ∉ is → σ'[j]? = σ[j]?) → Q σ' H'
theorem cgs_nil : PGs X [] (gAll c []) := by
  refine ⟨fun pins s σ H vs us Q I r ⟨Pr, G, ρ, ds, ρ', E, ra, q, k⟩ => ?_⟩
  cases ds with
  | nil =>
    cases q
    cases ra
    exact pgs_nil.run pins s σ H [] us Q I r ⟨rfl, k σ H E rfl rfl fun _ _ => rfl⟩
  | cons d ds => cases q
theorem cgs_cons {i : Nat} {x : Str} {pos : Pos} {es : List Expr} {is : List Nat} (hN : X.N.Nodup) (hi : X.N[i]? = some x) (hx : Loc X.env.scope x) (hr : PGs X es (gAll c is)) (hf : X.fn x = true ∨ X.env.scope.names.lookup x = some .local := by first | exact .inl rfl | exact .inr rfl | assumption) : PGs X (.Name x pos :: es) (gAll c (i :: is)) := by
  refine ⟨fun pins s σ H vs us Q I r ⟨Pr, G, ρ, ds, ρ', E, ra, q, k⟩ => ?_⟩
  cases ra with
  | nil => cases q
  | @cons v vs d ds rv ra =>
    have q : setAll is ds (ρ.set i (.val d)) = some ρ' := q
    refine (pgs_cons (pg_name hN hi hx hf) hr).run pins s σ H (v :: vs) us Q I r ⟨v, vs, rfl, Pr, G, _, ds, ρ', E.set rv, ra, q, fun σ' H' E' eh el ej => ?_⟩
    refine k σ' H' E' eh (el.trans (List.length_set)) fun j hj => ?_
    rw [ej j (fun h => hj (List.mem_cons_of_mem _ h))]
    exact List.getElem?_set_ne fun e => hj (by subst e; exact List.mem_cons_self)
theorem setAll_len : ∀ {is : List Nat} {ds : List D} {ρ ρ' : List O}, setAll is ds ρ = some ρ' → ds.length = is.length
  | [], [], _, _, _ => rfl
  | i :: is, d :: ds, _, _, h => by
    have h : setAll is ds _ = some _ := h
    rw [List.length_cons, List.length_cons, setAll_len h]
  | [], _ :: _, _, _, h => by cases h
  | _ :: _, [], _, _, h => by cases h
theorem cg_tup {es : List Expr} {k : Nat} {pos : Pos} {is : List Nat} (C : XC c X) (h : PGs X es (gAll c is)) (hn : (assignEach es X.env).length = is.length := by rfl) (hst : (assignEach es X.env).findIdx? (·.1) = none := by rfl) : CG c X (.Tuple es k pos) (.many is) := by
  refine ⟨fun pins s σ H v u Q I r ⟨Pr, G, ρ, d, ρ', E, rp, q, k⟩ => ?_⟩
  cases d with
  | tuple ds =>
    have q : setAll is ds ρ = some ρ' := q
    obtain ⟨a, xs, o, rfl, f, n, sq, ra⟩ := (RpT.of (H := H) rp).seqT E.gh
    exact (pg_tup C.calm h hn hst).run pins s σ H _ u Q I r ⟨a, xs, rfl, by rw [C.K]; exact sq, by rw [ra.length]; exact setAll_len q, Pr, G, ρ, ds, ρ', E, ra, q, k⟩
  | _ => cases q

/-! ### what is walked -/
theorem ci_seq {tg e : Expr} {f : Ev} (C : XC c X) (h : CE c X e f) : CI c X tg e (iSeq f) := by
  refine ⟨fun pins s σ H R I ⟨Pr, G, ρ, xs, ρ', E, q, k⟩ => ?_⟩
  unfold iSeq at q
  split at q
  · rename_i l ρ1 hf
    cases q
    refine thn ((pi_list (tg := tg) h.pe).run pins s σ H (fun J H' => ∃ a G', J = Itl X.K a ∧ Ge G G' ∧ ER c Pr G' H' σ ρ' ∧ ∃ vs, SqL c.K G' a vs ∧ RpA c G' vs xs) I ⟨Pr, G, ρ, .list xs, ρ', E, hf, fun v H' ⟨G', g, E', rp⟩ => ?_⟩) fun v s1 h1 => thn h1 fun itv s2 ⟨it, fp, tn, J, H2, e1, I2, T, st, f2, a, G', eJ, g, E', vs, sq, ra⟩ => ?_
    · cases rp with
      | lst sq ra => exact ⟨_, rfl, ⟨_, by rw [C.K]; exact E'.gh |> fun gh => Ge.sqL gh sq⟩, _, G', rfl, g, E', _, sq, ra⟩
    · subst eJ
      refine ⟨it, fp, tn, _, H2, e1, I2, T, st, f2, k _ G' H2 g E' ?_⟩
      obtain ⟨its, rv, pl, hz⟩ := I2.list (by rw [C.K]; exact Ge.sqL E'.gh sq)
      refine ⟨by rw [← ra.length]; exact hz, fun G3 H3 g3 gh i d hd => ?_, fun G3 H3 g3 gh => ?_⟩
      · obtain ⟨v, hv, rv⟩ := ra.get hd
        have sq3 : SqL X.K H3 a vs := by rw [C.K]; exact Ge.sqL (g3.trans gh) sq
        refine ⟨⟨vs, v, sq3, hv⟩, fun x H' ⟨eH, y⟩ => ?_⟩
        subst eH
        have e := y vs sq3
        rw [hv] at e
        cases e
        exact ⟨G3, Gr.refl gh, rv.mono g3⟩
      · exact ⟨vs, by rw [C.K]; exact Ge.sqL (g3.trans gh) sq, Nat.le_of_eq ra.length⟩
  · rename_i l ρ1 hf
    cases q
    refine thn ((pi_tup (tg := tg) h.pe).run pins s σ H (fun J H' => ∃ a G', J = Itt X.K a ∧ Ge G G' ∧ ER c Pr G' H' σ ρ' ∧ ∃ vs, SqT c.K G' a vs ∧ RpA c G' vs xs) I ⟨Pr, G, ρ, .tuple xs, ρ', E, hf, fun v H' ⟨G', g, E', rp⟩ => ?_⟩) fun v s1 h1 => thn h1 fun itv s2 ⟨it, fp, tn, J, H2, e1, I2, T, st, f2, a, G', eJ, g, E', vs, sq, ra⟩ => ?_
    · cases rp with
      | tup sq n ra => exact ⟨_, rfl, ⟨_, .inl (.inr ⟨_, E'.gh _ _ sq⟩)⟩, _, G', rfl, g, E', _, .inl (.inr ⟨_, sq⟩), ra⟩
    · subst eJ
      refine ⟨it, fp, tn, _, H2, e1, I2, T, st, f2, k _ G' H2 g E' ?_⟩
      obtain ⟨its, rv, pl, hz⟩ := I2.tuple (by rw [C.K]; exact Ge.sqT E'.gh sq)
      refine ⟨by rw [← ra.length]; exact hz, fun G3 H3 g3 gh i d hd => ?_, fun G3 H3 g3 gh => ?_⟩
      · obtain ⟨v, hv, rv⟩ := ra.get hd
        have sq3 : SqT X.K H3 a vs := by rw [C.K]; exact Ge.sqT (g3.trans gh) sq
        refine ⟨⟨vs, v, sq3, hv⟩, fun x H' ⟨eH, y⟩ => ?_⟩
        subst eH
        have e := y vs sq3
        rw [hv] at e
        cases e
        exact ⟨G3, Gr.refl gh, rv.mono g3⟩
      · exact ⟨vs, by rw [C.K]; exact Ge.sqT (g3.trans gh) sq, Nat.le_of_eq ra.length⟩
  · cases q
theorem wk_range (lo : Int) (n : Nat) (h : n ≤ sizeLine) : Wk c G (Itr lo n) (rangeL lo n) := by
  have hl : (rangeL lo n).length = n := by simp [rangeL]
  refine ⟨by rw [hl]; exact h, fun G3 H3 g3 gh i d hd => ?_, fun G3 H3 g3 gh => by rw [hl]; exact Nat.le_refl _⟩
  have hi : i < n := by
    have := (List.getElem?_eq_some_iff.mp hd).1
    rw [hl] at this
    exact this
  refine ⟨hi, fun x H' ⟨eH, ex⟩ => ?_⟩
  subst eH
  subst ex
  have e : d = .int (lo + (i : Int)) := by
    unfold rangeL at hd
    rw [List.getElem?_map, List.getElem?_range hi] at hd
    exact (Option.some.inj hd).symm
  subst e
  exact ⟨G3, Gr.refl gh, .int _⟩
theorem ci_range1 {tg a : Expr} {f : Ev} {p pos : Pos} (C : XC c X) (hg : Gl X "range") (ha : CE c X a f) (hs : starEach [a] X.env = [(false, eval a X.env)] := by rfl) : CI c X tg (.Call (.Name "range" p) [a] [] pos) (iR1 f) := by
  refine ⟨fun pins s σ H R I ⟨Pr, G, ρ, xs, ρ', E, q, k⟩ => ?_⟩
  unfold iR1 at q
  split at q
  · rename_i n ρ1 hf
    split at q
    · rename_i hn
      cases q
      have big : LIM = 1000000 := rfl
      have big2 : sizeLine = 16777216 := sizeLine_eq
      have e62 : (2 : Int) ^ 62 = 4611686018427387904 := by decide
      have hm : -(2 ^ 62) ≤ n := by omega
      · refine (pi_range1 (tg := tg) hg (C.blt _ (by decide)) (pa_cons ha.pe pa_nil hs) hs).run pins s σ H R I ⟨Pr, G, ρ, .int n, ρ', E, hf, fun v H' ⟨G', g, E', rp⟩ => ?_⟩
        cases rp
        exact ⟨n, rfl, hm, by omega, k _ G' H' g E' (wk_range 0 n.toNat (by omega))⟩
    · cases q
  · cases q
theorem ci_range2 {tg a b : Expr} {f h : Ev} {p pos : Pos} (C : XC c X) (hg : Gl X "range") (ha : CE c X a f) (hb : CE c X b h) (hs : starEach [a, b] X.env = [(false, eval a X.env), (false, eval b X.env)] := by rfl) (hs2 : starEach [b] X.env = [(false, eval b X.env)] := by rfl) : CI c X tg (.Call (.Name "range" p) [a, b] [] pos) (iR2 f h) := by
  refine ⟨fun pins s σ H R I ⟨Pr, G, ρ, xs, ρ', E, q, k⟩ => ?_⟩
  unfold iR2 at q
  split at q
  · rename_i m ρ1 hf
    split at q
    · rename_i n ρ2 hf2
      split at q
      · rename_i hn
        cases q
        have big : LIM = 1000000 := rfl
        have big2 : sizeLine = 16777216 := sizeLine_eq
        have e62 : (2 : Int) ^ 62 = 4611686018427387904 := by decide
        refine (pi_range2 (tg := tg) hg (C.blt _ (by decide)) (pa_cons ha.pe (pa_cons hb.pe pa_nil hs2) (by rw [hs, hs2])) hs hs2).run pins s σ H R I ⟨Pr, G, ρ, .int m, ρ1, E, hf, fun v H' ⟨G', g, E', rp⟩ => ?_⟩
        cases rp
        refine ⟨Pr, G', ρ1, .int n, ρ', E', hf2, fun v2 H2 ⟨G2, g2, E2, rp2⟩ => ?_⟩
        cases rp2
        exact ⟨m, n, rfl, ⟨by omega, by omega, by omega, by omega⟩, k _ G2 H2 (g.trans g2) E2 (wk_range m (n - m).toNat (by omega))⟩
      · cases q
    · cases q
  · cases q

/-! ### comprehensions -/
theorem XC.blk (C : XC c X) (s : Shared) (H : Hp) (scope : Scope) (cenv : Env) (fp : List Addr) : XC c (X.blk s H scope cenv fp) := ⟨C.K, C.w, C.calm, C.nd, C.hu, C.blt, rfl⟩
theorem ER.wipe (E : ER c Pr G H σ ρ) : ∀ vs : List Nat, ER c Pr G H (wipe σ vs) (wipeO ρ vs)
  | [] => E
  | v :: vs => (E.wipe vs).unset'
def gbS (old new : L2.St) : List Nat → L2.St
  | [] => new
  | i :: is => match old[i]? with
    | some o => (gbS old new is).set i o
    | none => gbS old new is
theorem gbS_at (old new : L2.St) (hl : old.length = new.length) : ∀ (vs : List Nat), (gbS old new vs).length = new.length ∧ ∀ j, (gbS old new vs)[j]? = if j ∈ vs then old[j]? else new[j]?
  | [] => ⟨rfl, fun j => by simp [gbS]⟩
  | i :: is => by
    obtain ⟨h1, h2⟩ := gbS_at old new hl is
    unfold gbS
    cases e : old[i]? with
    | none =>
      refine ⟨h1, fun j => ?_⟩
      rw [h2 j]
      by_cases hj : j = i
      · subst hj
        have : new[j]? = none := by
          rw [List.getElem?_eq_none_iff] at e ⊢
          omega
        simp [e, this]
      · simp [hj]
    | some o =>
      refine ⟨by rw [List.length_set]; exact h1, fun j => ?_⟩
      by_cases hj : i = j
      · subst hj
        have hi : i < (gbS old new is).length := by
          rw [h1, ← hl]
          exact (List.getElem?_eq_some_iff.mp e).1
        rw [List.getElem?_set_self hi]
        simp [e]
      · rw [List.getElem?_set_ne hj, h2 j]
        have : ¬ j = i := fun q => hj q.symm
        simp [this]
theorem wipe_at (σ : L2.St) : ∀ (vs : List Nat) (j : Nat), j ∉ vs → (wipe σ vs)[j]? = σ[j]?
  | [], _, _ => rfl
  | v :: vs, j, h => by
    unfold wipe
    rw [List.getElem?_set_ne (fun e => h (by subst e; exact List.mem_cons_self))]
    exact wipe_at σ vs j fun q => h (List.mem_cons_of_mem _ q)
theorem gbS_wipe (σ : L2.St) (vs : List Nat) : gbS σ (wipe σ vs) vs = σ := by
  have h := gbS_at σ (wipe σ vs) (wipe_length σ vs).symm vs
  refine List.ext_getElem? fun j => ?_
  rw [h.2 j]
  by_cases hj : j ∈ vs
  · rw [if_pos hj]
  · rw [if_neg hj, wipe_at σ vs j hj]
theorem wipe_same {σ σ' : L2.St} (hl : σ'.length = σ.length) : ∀ (vs : List Nat), (∀ j, j ∉ vs → σ'[j]? = σ[j]?) → wipe σ' vs = wipe σ vs := by
  intro vs h
  refine List.ext_getElem? fun j => ?_
  have key : ∀ (vs : List Nat) (j : Nat), j ∈ vs → ∀ σ : L2.St, (wipe σ vs)[j]? = if j < σ.length then some none else none := by
    intro vs
    induction vs with
    | nil => intro j hj; cases hj
    | cons v vs ih =>
      intro j hj σ
      unfold wipe
      by_cases e : v = j
      · subst e
        by_cases hv : v < σ.length
        · rw [List.getElem?_set_self (by rw [wipe_length]; exact hv), if_pos hv]
        · rw [if_neg hv, List.getElem?_eq_none (by rw [List.length_set, wipe_length]; omega)]
      · rw [List.getElem?_set_ne e]
        rcases List.mem_cons.mp hj with q | q
        · exact absurd q.symm e
        · exact ih j q σ
  by_cases hj : j ∈ vs
  · rw [key vs j hj, key vs j hj, hl]
  · rw [wipe_at _ vs j hj, wipe_at _ vs j hj, h j hj]
/-- what a slot without an own thing holds, holds further -/
theorem noOwn_rp (E : ER c Pr G H σ ρ) {vs : List Nat} (h : noOwn ρ vs = true) : ∀ i ∈ vs, ∀ o, ρ[i]? = some o → ∃ s, σ[i]? = some s ∧ RpO c G H o s [] := by
  intro i hi o ho
  unfold noOwn at h
  rw [List.all_eq_true] at h
  have q := h i hi
  rw [ho] at q
  obtain ⟨l, nd, ap, sl⟩ := E.own
  obtain ⟨s, l1, l2, e1, p, ro, k⟩ := sl.at ho
  refine ⟨s, e1, ?_⟩
  cases o with
  | un => exact rfl
  | val d => exact ⟨rfl, ro.2⟩
  | _ => cases q
theorem ER.putBack {i : Nat} {o : O} {s0 : Option V} (E : ER c Pr G H σ ρ) (r : RpO c G H o s0 []) : ER c Pr G H (σ.set i s0) (ρ.set i o) := by
  by_cases h : i < ρ.length
  · obtain ⟨l, nd, ap, sl⟩ := E.own
    obtain ⟨s, l1, l2, e1, p, ro, k⟩ := sl.at (i := i) (o := ρ[i]) (by simp [h])
    obtain ⟨m, pm, sm⟩ := k G H s0 o [] (Ge.refl _) (fun _ _ => rfl) r
    exact ⟨E.pr, E.gh, m, pm.nodup_iff.mpr (nodup_sub nd p), fun a ha => ap a (p.mem_iff.mpr (List.mem_append_right _ (pm.mem_iff.mp ha))), sm⟩
  · have h2 : ¬ i < σ.length := by rw [E.len]; exact h
    rw [List.set_eq_of_length_le (by omega), List.set_eq_of_length_le (by omega)]
    exact E
theorem ER.giveBack {σ0 : L2.St} {ρ0 : List O} (E : ER c Pr G H σ ρ) (hl : σ0.length = ρ0.length) : ∀ vs : List Nat, (∀ i ∈ vs, ∀ o, ρ0[i]? = some o → ∃ s, σ0[i]? = some s ∧ RpO c G H o s []) → ER c Pr G H (gbS σ0 σ vs) (giveBack ρ0 ρ vs)
  | [], _ => E
  | i :: is, h => by
    have ih := E.giveBack hl is fun j hj => h j (List.mem_cons_of_mem _ hj)
    unfold gbS VL.giveBack
    cases e : ρ0[i]? with
    | none =>
      have e2 : σ0[i]? = none := by
        rw [List.getElem?_eq_none_iff] at e ⊢
        omega
      rw [e2]
      exact ih
    | some o =>
      obtain ⟨s, e2, r⟩ := h i List.mem_cons_self o e
      rw [e2]
      exact ih.putBack r
/-- a thing set apart becomes a slot's own -/
theorem ER.apart {D0 : Addr} {acc : List V} {l : List D} (E : ER c (upd Pr D0 (.lst acc)) G H σ ρ) (n : Pr D0 = none) (hD : H D0 = some (.lst acc)) (r : RpA c G acc l) : ER c Pr G H (some (.ref D0) :: σ) (.lst l :: ρ) := by
  obtain ⟨m, nd, ap, sl⟩ := E.own
  have gD : G D0 = none := (E.pr D0 _ upd_same).2
  have nm : ∀ a ∈ m, a ≠ D0 := fun a ha e => by
    have := (ap a ha).1
    rw [e, upd_same] at this
    cases this
  refine ⟨fun a o e => E.pr a o (by rw [upd_ne (ne_of_none e n)]; exact e), E.gh, D0 :: m, List.nodup_cons.mpr ⟨fun h => nm D0 h rfl, nd⟩, fun a ha => ?_, [D0], m, rfl, ⟨D0, acc, rfl, rfl, hD, r⟩, sl⟩
  rcases List.mem_cons.mp ha with e | h
  · rw [e]; exact ⟨n, gD⟩
  · have q := ap a h
    rw [upd_ne (nm a h)] at q
    exact q
/-- the list that is filled, set apart, is grown -/
theorem ER.grow {D0 : Addr} {acc acc' : List V} (E : ER c (upd Pr D0 (.lst acc)) G H σ ρ) : ER c (upd Pr D0 (.lst acc')) G (upd H D0 (.lst acc')) σ ρ := by
  obtain ⟨m, nd, ap, sl⟩ := E.own
  have gD : G D0 = none := (E.pr D0 _ upd_same).2
  have nm : ∀ a ∈ m, a ≠ D0 := fun a ha e => by
    have := (ap a ha).1
    rw [e, upd_same] at this
    cases this
  refine ⟨fun a o e => ?_, fun a o e => ?_, m, nd, fun a ha => ?_, sl.mono (Ge.refl _) fun a ha => upd_ne (nm a ha)⟩
  · by_cases h : a = D0
    · subst h
      rw [upd_same] at e ⊢
      exact ⟨e, gD⟩
    · rw [upd_ne h] at e ⊢
      exact E.pr a o (by rw [upd_ne h]; exact e)
  · have h : a ≠ D0 := fun h => by rw [h, gD] at e; cases e
    rw [upd_ne h]
    exact E.gh a o e
  · have q := ap a ha
    rw [upd_ne (nm a ha)] at q ⊢
    exact q
theorem ER.setApart {D0 : Addr} (E : ER c Pr G H σ ρ) (n : H D0 = none) : ER c (upd Pr D0 (.lst [])) G (upd H D0 (.lst [])) σ ρ ∧ Pr D0 = none := by
  obtain ⟨m, nd, ap, sl⟩ := E.own
  have npr : Pr D0 = none := by
    cases e : Pr D0 with
    | none => rfl
    | some o => rw [(E.pr D0 o e).1] at n; cases n
  have ng : G D0 = none := by
    cases e : G D0 with
    | none => rfl
    | some o => rw [E.gh D0 o e] at n; cases n
  have nm : ∀ a ∈ m, a ≠ D0 := fun a ha e => by
    obtain ⟨u, q⟩ := sl.there a ha
    rw [e, n] at q
    cases q
  refine ⟨⟨fun a o e => ?_, fun a o e => ?_, m, nd, fun a ha => ?_, sl.mono (Ge.refl _) fun a ha => upd_ne (nm a ha)⟩, npr⟩
  · by_cases h : a = D0
    · subst h
      rw [upd_same] at e ⊢
      exact ⟨e, ng⟩
    · rw [upd_ne h] at e ⊢
      exact E.pr a o e
  · have h : a ≠ D0 := fun h => by rw [h, ng] at e; cases e
    rw [upd_ne h]
    exact E.gh a o e
  · rw [upd_ne (nm a ha)]
    exact ap a ha
/-- a comprehension's reading -/
theorem lc_reads {it : Iv} {tg : Tg} {cd e : Ev} {vs : List Nat} {d : D} {Q : VK} (hvs : ∀ j ∈ tgIs tg, j ∈ vs) (E : ER c Pr G H σ ρ) (h : eComp it tg cd e vs ρ = some (d, ρ')) (k : ∀ v H', PostF c Pr G σ ρ' d v H' → Q v H') :
    tLc (tI c it) (tG c tg) (tT c cd) (tE c e) vs σ H Q := by
  unfold eComp at h
  split at h
  · rename_i xs ρ1 hit
    split at h
    · rename_i hno
      split at h
      · rename_i acc ρ2 hlp
        cases h
        refine ⟨Pr, G, ρ, xs, ρ1, E, hit, fun J G1 H1 g1 E1 W => fun D0 hD => ?_⟩
        obtain ⟨EA, nP⟩ := (E1.wipe vs).setApart hD
        have keep := noOwn_rp E1 hno
        refine ⟨fun i m H => m = xs.length - i ∧ i ≤ xs.length ∧ ∃ G ρ accV accD, H D0 = some (.lst accV) ∧ RpA c G accV accD ∧ accV.length ≤ i ∧ Ge G1 G ∧ ER c (upd Pr D0 (.lst accV)) G H (wipe σ vs) ρ ∧ lcLoop tg cd e vs (xs.drop i) ρ accD = some (acc, ρ2),
          ⟨xs.length, by simp, Nat.zero_le _, G1, _, [], [], upd_same, .nil, Nat.le_refl _, Ge.refl _, EA, hlp⟩, ?_⟩
        rintro i m H2 ⟨rfl, hi, G2, ρa, accV, accD, hA, ra, hal, g2, E2, hl⟩
        by_cases hlt : i < xs.length
        · have hx : xs[i]? = some xs[i] := by simp [hlt]
          have hdr : xs.drop i = xs[i] :: xs.drop (i + 1) := List.drop_eq_getElem_cons hlt
          rw [hdr] at hl
          obtain ⟨hgo, hyld⟩ := W.item G2 H2 g2 E2.gh i _ hx
          unfold lcLoop at hl
          split at hl
          · rename_i acc2 ρb hturn
            unfold lcTurn at hturn
            split at hturn
            · rename_i ρc htg
              refine .inr ⟨hgo, fun H3 => ∃ G3 accV3, H3 D0 = some (.lst accV3) ∧ RpA c G3 accV3 acc2 ∧ accV3.length ≤ i + 1 ∧ Ge G1 G3 ∧ ER c (upd Pr D0 (.lst accV3)) G3 H3 (wipe σ vs) ρb,
                fun H3 ⟨G3, accV3, h1, h2, h3, h4, h5⟩ => ⟨xs.length - (i + 1), by omega, rfl, hlt, G3, ρb, accV3, acc2, h1, h2, h3, h4, h5, hl⟩, fun x H3 hy => ?_⟩
              obtain ⟨G3, gr, rx⟩ := hyld x H3 hy
              have E3 := E2.gr gr
              refine ⟨_, G3, ρa, _, ρc, E3, rx, htg, fun σ4 H4 E4 eH el ej => ?_⟩
              subst eH
              have ws : wipe σ4 vs = wipe σ vs := by
                have e1 : wipe σ4 vs = wipe (wipe σ vs) vs := wipe_same el vs fun j hj => ej j fun q => hj (hvs j q)
                rw [e1]
                exact wipe_same (wipe_length σ vs) vs fun j hj => wipe_at σ vs j hj
              refine ⟨ws, ?_⟩
              split at hturn
              · rename_i ρd hc
                split at hturn
                · rename_i y ρf he
                  cases hturn
                  refine ⟨_, G3, ρc, true, ρd, E4, hc, fun H5 ⟨G5, g5, E5⟩ => ?_⟩
                  refine iteT ?_
                  refine ⟨_, G5, ρd, y, ρf, E5, he, fun yv H6 ⟨G6, g6, E6, ry⟩ => ?_⟩
                  have hA6 : H6 D0 = some (.lst accV) := (E6.pr D0 _ upd_same).1
                  refine ⟨accV, hA6, Nat.lt_of_le_of_lt hal (Nat.lt_of_lt_of_le hlt W.few), G6, accV ++ [yv], upd_same, ?_, by rw [List.length_append]; exact Nat.add_le_add_right hal 1, ((g2.trans gr.ge).trans g5).trans g6, ?_⟩
                  · exact (ra.mono ((gr.ge.trans g5).trans g6)).append (.cons ry .nil)
                  · rw [← ws]
                    exact (E6.wipe vs).grow
                · cases hturn
              · rename_i ρd hc
                cases hturn
                refine ⟨_, G3, ρc, false, ρd, E4, hc, fun H5 ⟨G5, g5, E5⟩ => ?_⟩
                refine iteF ?_
                refine ⟨G5, accV, (E5.pr D0 _ upd_same).1, ra.mono (gr.ge.trans g5), Nat.le_succ_of_le hal, (g2.trans gr.ge).trans g5, ?_⟩
                rw [← ws]
                exact E5.wipe vs
              · cases hturn
            · cases hturn
          · cases hl
        · have e : i = xs.length := by omega
          subst e
          rw [List.drop_length] at hl
          cases hl
          refine .inl ⟨W.stop G2 H2 g2 E2.gh, k _ H2 ⟨G2, .lst acc, g1.trans g2, ?_, .inl ⟨acc, rfl, rfl⟩⟩⟩
          have back := E2.giveBack (σ0 := σ) (ρ0 := ρ1) E1.len vs fun j hj o ho => by
            obtain ⟨s, e1, r⟩ := keep j hj o ho
            exact ⟨s, e1, r.mono g2 fun a ha => by cases ha⟩
          rw [gbS_wipe] at back
          exact back.apart nP hA ra
      · cases h
    · cases h
  · cases h
section
variable {elt tg iter : Expr} {ifs : List Expr} {scope : Scope} {own : List (Str × Nat)} {pos : Pos} {it : Iv} {t : Tg} {cd e : Ev}
theorem cf_comp (C : XC c X) (hi : CI c X tg iter it) (ok : BlkOk X.N X.env.scope scope own) (hvs : ∀ j ∈ tgIs t, j ∈ own.map (·.2))
    (hg : ∀ (s : Shared) (H : Hp) (K : Addr) (cl : List (Str × Addr)) (fp : List Addr), CG c (X.blk s H scope (compEnvC scope cl K X.env) fp) tg t) (ht : ∀ (s : Shared) (H : Hp) (K : Addr) (cl : List (Str × Addr)) (fp : List Addr), PTs (X.blk s H scope (compEnvC scope cl K X.env) fp) ifs (tT c cd))
    (he : ∀ (s : Shared) (H : Hp) (K : Addr) (cl : List (Str × Addr)) (fp : List Addr), CE c (X.blk s H scope (compEnvC scope cl K X.env) fp) elt e) (hs : ∀ x, foldedSetIterable iter X.env x = pure x := by intro _; rfl) :
    CF c X (.ListComp elt [⟨tg, iter, ifs, 0⟩] scope pos) (eComp it t cd e (own.map (·.2))) := by
  intro pins s σ H Pr G ρ ρ' d I E h
  exact (pe_lc C.calm C.nd hi ok hg ht (fun s H K cl fp => (he s H K cl fp).pe) hs).run pins s σ H _ I (lc_reads hvs E h fun v H' q => q)
theorem pts_true : PTs X [] (tT c eTrue) := by
  refine ⟨fun pins s σ H Q I ⟨Pr, G, ρ, b, ρ', E, q, k⟩ => ?_⟩
  cases q
  exact pts_nil.run pins s σ H Q I (k H ⟨G, Ge.refl _, E⟩)
theorem pts_test {a : Expr} {f : Ev} (h : CT c X a f) : PTs X [a] (tT c f) := pts_one h.pt
end
end
end VL

set_option Elab.async false
set_option linter.all false
set_option maxRecDepth 100000
/-! V8: statements, loops, calls, what a def promises. -/
namespace VL
open PySem PySem.Spec PyProof.Rows L2

/-- what is wanted behind a statement's way -/
def EndS (c : Ct) (G' : Hp) (D0 : Ends) (σ' : L2.St) (H' : Hp) : Fl → Prop
  | .nx => D0.nx σ' H'
  | .bk => D0.bk σ' H'
  | .ct => D0.ct σ' H'
  | .rt d => ∀ v, Rp c G' v d → D0.rt v H'
def tS (c : Ct) (m : Sm) : TS := fun D0 σ H => ∃ Pr G ρ fl ρ', ER c Pr G H σ ρ ∧ m ρ = some (fl, ρ') ∧ ∀ σ' H' G', Ge G G' → ER c Pr G' H' σ' ρ' → EndS c G' D0 σ' H' fl
def CS (c : Ct) (X : Cx) (st : Stmt) (m : Sm) : Prop := PS X st (tS c m)
def CB (c : Ct) (X : Cx) (st : List Stmt) (m : Sm) : Prop := PSs X st (tS c m)
def tA (c : Ct) (f : Evs) : TA := fun σ H Q => ∃ Pr G ρ ds ρ', ER c Pr G H σ ρ ∧ f ρ = some (ds, ρ') ∧ ∀ vs H', PostA c Pr G σ ρ' ds vs H' → Q vs H'
theorem CA.pa {c : Ct} {X : Cx} {es : List Expr} {f : Evs} (h : CA c X es f) : PA X es (tA c f) := ⟨fun pos pins s σ H Q I ⟨Pr, G, ρ, ds, ρ', E, q, k⟩ =>
  thn (h pos pins s σ H Pr G ρ ρ' ds I E q) fun us s' ⟨vs, H', I', r, p⟩ => ⟨vs, H', I', r, k vs H' p⟩⟩

section
variable {c : Ct} {X : Cx} {Pr G H : Hp} {σ : L2.St} {ρ ρ' : List O} {st : Stmt} {rest : List Stmt} {a b : Sm} {e : Expr} {f : Ev} {pos : Pos}

theorem cb_nil : CB c X [] sNil := ⟨fun pins s σ H D0 I ⟨Pr, G, ρ, fl, ρ', E, q, k⟩ => by
  cases q
  exact pss_nil.run pins s σ H D0 I (k σ H G (Ge.refl _) E)⟩
theorem cb_cons (h1 : CS c X st a) (h2 : CB c X rest b) : CB c X (st :: rest) (sSeq a b) := ⟨fun pins s σ H D0 I ⟨Pr, G, ρ, fl, ρ', E, q, k⟩ => by
  refine (pss_cons h1 h2).run pins s σ H D0 I ?_
  unfold sSeq at q
  cases ha : a ρ with
  | none => rw [ha] at q; cases q
  | some z =>
    obtain ⟨fa, ρ1⟩ := z
    rw [ha] at q
    cases fa with
    | nx => exact ⟨Pr, G, ρ, .nx, ρ1, E, ha, fun σ1 H1 G1 g1 E1 => ⟨Pr, G1, ρ1, fl, ρ', E1, q, fun σ2 H2 G2 g2 E2 => k σ2 H2 G2 (g1.trans g2) E2⟩⟩
    | bk => cases q; exact ⟨Pr, G, ρ, _, _, E, ha, k⟩
    | ct => cases q; exact ⟨Pr, G, ρ, _, _, E, ha, k⟩
    | rt d => cases q; exact ⟨Pr, G, ρ, _, _, E, ha, k⟩⟩
theorem cb_one (h1 : CS c X st a) : CB c X [st] a := ⟨fun pins s σ H D0 I h => (pss_one h1).run pins s σ H D0 I h⟩
theorem cs_pass : CS c X (.Pass pos) sNil := ⟨fun pins s σ H D0 I ⟨Pr, G, ρ, fl, ρ', E, q, k⟩ => by
  cases q
  exact ps_pass.run pins s σ H D0 I (k σ H G (Ge.refl _) E)⟩
def sBrk : Sm := fun ρ => some (.bk, ρ)
def sCnt : Sm := fun ρ => some (.ct, ρ)
theorem cs_break : CS c X (.Break pos) sBrk := ⟨fun pins s σ H D0 I ⟨Pr, G, ρ, fl, ρ', E, q, k⟩ => by
  cases q
  exact ps_break.run pins s σ H D0 I (k σ H G (Ge.refl _) E)⟩
theorem cs_continue : CS c X (.Continue pos) sCnt := ⟨fun pins s σ H D0 I ⟨Pr, G, ρ, fl, ρ', E, q, k⟩ => by
  cases q
  exact ps_continue.run pins s σ H D0 I (k σ H G (Ge.refl _) E)⟩
/-- a statement that is never reached -/
def sNever : Sm := fun _ => none
theorem cs_never : CS c X st sNever := ⟨fun _ _ _ _ _ _ ⟨_, _, _, _, _, _, q, _⟩ => nomatch q⟩
/-- an expression whose value is dropped -/
def sDrop (f : Ev) : Sm := fun ρ => match f ρ with
  | some (_, ρ1) => some (.nx, ρ1)
  | none => none
theorem cs_expr (he : CE c X e f) (hs : swapsWith e none pos.line X.env = pure false := by rfl) : CS c X (.Expr e pos) (sDrop f) := ⟨fun pins s σ H D0 I ⟨Pr, G, ρ, fl, ρ', E, q, k⟩ => by
  unfold sDrop at q
  cases hf : f ρ with
  | none => rw [hf] at q; cases q
  | some z =>
    obtain ⟨d, ρ1⟩ := z
    rw [hf] at q
    cases q
    exact (ps_expr he.pe hs).run pins s σ H D0 I ⟨Pr, G, ρ, d, _, E, hf, fun v H' ⟨G', g, E', _⟩ => k σ H' G' g E'⟩⟩
theorem cs_ret (he : CE c X e f) : CS c X (.Return (some e) pos) (sRet f) := ⟨fun pins s σ H D0 I ⟨Pr, G, ρ, fl, ρ', E, q, k⟩ => by
  unfold sRet at q
  cases hf : f ρ with
  | none => rw [hf] at q; cases q
  | some z =>
    obtain ⟨d, ρ1⟩ := z
    rw [hf] at q
    cases q
    exact (ps_ret he.pe).run pins s σ H D0 I ⟨Pr, G, ρ, d, _, E, hf, fun v H' ⟨G', g, E', r⟩ => k σ H' G' g E' v r⟩⟩
theorem cs_if {t : Expr} {x y : List Stmt} {ft : Ev} (hc : CT c X t ft) (ha : CB c X x a) (hb : CB c X y b) : CS c X (.If t x y pos) (sIf ft a b) := ⟨fun pins s σ H D0 I ⟨Pr, G, ρ, fl, ρ', E, q, k⟩ => by
  unfold sIf at q
  refine (ps_if hc.pt ha hb).run pins s σ H D0 I ?_
  split at q
  · rename_i ρ1 hf
    exact ⟨Pr, G, ρ, true, ρ1, E, hf, fun H' ⟨G', g, E'⟩ => iteT ⟨Pr, G', ρ1, fl, ρ', E', q, fun σ2 H2 G2 g2 E2 => k σ2 H2 G2 (g.trans g2) E2⟩⟩
  · rename_i ρ1 hf
    exact ⟨Pr, G, ρ, false, ρ1, E, hf, fun H' ⟨G', g, E'⟩ => iteF ⟨Pr, G', ρ1, fl, ρ', E', q, fun σ2 H2 G2 g2 E2 => k σ2 H2 G2 (g.trans g2) E2⟩⟩
  · cases q⟩

/-! ### assignments -/
theorem sSet_some {t : Tg} {z : Fl × List O} (h : sSet t f ρ = some z) : ∃ d ρ1, f ρ = some (d, ρ1) ∧ tgo t d ρ1 = some z.2 ∧ z.1 = .nx := by
  unfold sSet at h
  split at h
  · rename_i d ρ1 h1
    split at h
    · rename_i ρ2 h2
      cases h
      exact ⟨d, ρ1, h1, h2, rfl⟩
    · cases h
  · cases h
/-- name = e -/
theorem cs_set {i : Nat} {x : Str} {pos' : Pos} (hN : X.N.Nodup) (hi : X.N[i]? = some x) (hx : Loc X.env.scope x) (he : CE c X e f) (hs : swapsWith e (some (.Name x pos')) pos.line X.env = pure false := by rfl) (hf : X.fn x = true ∨ X.env.scope.names.lookup x = some .local := by first | exact .inl rfl | exact .inr rfl | assumption) :
    CS c X (.Assign [.Name x pos'] e pos) (sSet (.one i) f) := ⟨fun pins s σ H D0 I ⟨Pr, G, ρ, fl, ρ', E, q, k⟩ => by
  obtain ⟨d, ρ1, h1, h2, h3⟩ := sSet_some q
  cases h3
  have h2 : some (ρ1.set i (.val d)) = some ρ' := h2
  cases h2
  exact (ps_set hN hi hx he.pe hs hf).run pins s σ H D0 I ⟨Pr, G, ρ, d, ρ1, E, h1, fun v H' ⟨G', g, E', r⟩ => k _ H' G' g (E'.set r)⟩⟩
/-- a, b = e -/
theorem cs_setT {t : Tg} {tg : Expr} (hg : CG c X tg t) (he : CE c X e f) (hs : swapsWithSole [tg] e pos.line X.env = pure false := by rfl) (hw : swappedStores [tg] e X.env = pure none := by rfl)
    (h1 : (assignEach [tg] X.env).map (·.2) = [assign tg X.env] := by rfl) : CS c X (.Assign [tg] e pos) (sSet t f) := ⟨fun pins s σ H D0 I ⟨Pr, G, ρ, fl, ρ', E, q, k⟩ => by
  obtain ⟨d, ρ1, h2, h3, h4⟩ := sSet_some q
  cases h4
  exact (ps_asg he.pe hg hs hw h1).run pins s σ H D0 I ⟨Pr, G, ρ, d, ρ1, E, h2, fun v H' ⟨G', g, E', r⟩ => ⟨Pr, G', ρ1, d, ρ', E', r, h3, fun σ2 H2 E2 eH _ _ => by
    subst eH
    exact k σ2 H2 G' g E2⟩⟩⟩
/-- what stands ahead of the slots comes into one -/
theorem ER.moveIn {i : Nat} {v : V} {o : O} (E : ER c Pr G H (some v :: σ) (o :: ρ)) : ER c Pr G H (σ.set i (some v)) (ρ.set i o) := by
  by_cases h : i < ρ.length
  · obtain ⟨m, nd, ap, l1, l2, e, r, sl⟩ := E.own
    subst e
    obtain ⟨s0, m1, m2, e1, p, ro, k⟩ := sl.at (i := i) (o := ρ[i]) (by simp [h])
    obtain ⟨m, pm, sm⟩ := k G H (some v) o l1 (Ge.refl _) (fun _ _ => rfl) r
    have nd2 : (l1 ++ (m1 ++ m2)).Nodup := (p.append_left l1).nodup_iff.mp nd
    have nd3 : (l1 ++ m2).Nodup := by
      rw [List.nodup_append] at nd2 ⊢
      obtain ⟨n1, n2, n3⟩ := nd2
      exact ⟨n1, (List.nodup_append.mp n2).2.1, fun x hx y hy => n3 x hx y (List.mem_append_right _ hy)⟩
    refine ⟨E.pr, E.gh, m, pm.nodup_iff.mpr nd3, fun x hx => ap x ?_, sm⟩
    rcases List.mem_append.mp (pm.mem_iff.mp hx) with q | q
    · exact List.mem_append_left _ q
    · exact List.mem_append_right _ (p.mem_iff.mpr (List.mem_append_right _ q))
  · have E' := E.tail
    have h2 : ¬ i < σ.length := by rw [E'.len]; exact h
    rw [List.set_eq_of_length_le (by omega), List.set_eq_of_length_le (by omega)]
    exact E'
theorem sOwn_some {i : Nat} {z : Fl × List O} (h : sOwn i f ρ = some z) : ∃ d o ρ1, f ρ = some (d, ρ1) ∧ z = (.nx, ρ1.set i o) ∧ ∀ o', ((∃ l, o' = .lst l ∧ d = .list l) ∨ ∃ l, o' = .dic l ∧ d = .dict l) → o' = o := by
  unfold sOwn at h
  split at h
  · rename_i l ρ1 h1
    cases h
    refine ⟨_, .lst l, ρ1, h1, rfl, fun o' q => ?_⟩
    rcases q with ⟨l', rfl, e⟩ | ⟨l', rfl, e⟩
    · cases e; rfl
    · cases e
  · rename_i l ρ1 h1
    cases h
    refine ⟨_, .dic l, ρ1, h1, rfl, fun o' q => ?_⟩
    rcases q with ⟨l', rfl, e⟩ | ⟨l', rfl, e⟩
    · cases e
    · cases e; rfl
  · cases h
def tF (c : Ct) (f : Ev) : TE := fun σ H Q => ∃ Pr G ρ d ρ', ER c Pr G H σ ρ ∧ f ρ = some (d, ρ') ∧ ∀ v H', PostF c Pr G σ ρ' d v H' → Q v H'
theorem CF.pe (h : CF c X e f) : PE X e (tF c f) := ⟨fun pins s σ H Q I ⟨Pr, G, ρ, d, ρ', E, q, k⟩ =>
  thn (h pins s σ H Pr G ρ ρ' d I E q) fun u s' ⟨v, H', I', r, p⟩ => ⟨v, H', I', r, k v H' p⟩⟩
/-- name = a new list or dict, the name's own -/
theorem cs_own {i : Nat} {x : Str} {pos' : Pos} (hN : X.N.Nodup) (hi : X.N[i]? = some x) (hx : Loc X.env.scope x) (he : CF c X e f) (hs : swapsWith e (some (.Name x pos')) pos.line X.env = pure false := by rfl) (hf : X.fn x = true ∨ X.env.scope.names.lookup x = some .local := by first | exact .inl rfl | exact .inr rfl | assumption) :
    CS c X (.Assign [.Name x pos'] e pos) (sOwn i f) := ⟨fun pins s σ H D0 I ⟨Pr, G, ρ, fl, ρ', E, q, k⟩ => by
  obtain ⟨d, o, ρ1, h1, h2, h3⟩ := sOwn_some q
  cases h2
  refine (ps_set hN hi hx he.pe hs hf).run pins s σ H D0 I ⟨Pr, G, ρ, d, ρ1, E, h1, fun v H' ⟨G', o', g, E', ho⟩ => ?_⟩
  rw [h3 o' ho] at E'
  exact k _ H' G' g E'.moveIn⟩
section
variable {elt tg iter : Expr} {ifs : List Expr} {scope : Scope} {own : List (Str × Nat)} {spos py : Pos} {it : Iv} {t : Tg} {cd g : Ev} {i : Nat} {y : Str}
/-- name = [..]: the name's own -/
theorem cs_ownC (C : XC c X) (hy : X.N[i]? = some y) (hyl : X.env.scope.names.lookup y = some .local) (hsw : swapsWith (.ListComp elt [⟨tg, iter, ifs, 0⟩] scope pos) (some (.Name y py)) spos.line X.env = pure true)
    (hi : CI c X tg iter it) (ok : BlkOk X.N X.env.scope scope own) (hvs : ∀ j ∈ tgIs t, j ∈ own.map (·.2))
    (hg : ∀ (s : Shared) (H : Hp) (K : Addr) (cl : List (Str × Addr)) (fp : List Addr), CG c (X.blk s H scope (compEnvC scope cl K X.env) fp) tg t) (ht : ∀ (s : Shared) (H : Hp) (K : Addr) (cl : List (Str × Addr)) (fp : List Addr), PTs (X.blk s H scope (compEnvC scope cl K X.env) fp) ifs (tT c cd))
    (he : ∀ (s : Shared) (H : Hp) (K : Addr) (cl : List (Str × Addr)) (fp : List Addr), CE c (X.blk s H scope (compEnvC scope cl K X.env) fp) elt g) (hs : ∀ x, foldedSetIterable iter X.env x = pure x := by intro _; rfl) :
    CS c X (.Assign [.Name y py] (.ListComp elt [⟨tg, iter, ifs, 0⟩] scope pos) spos) (sOwn i (eComp it t cd g (own.map (·.2)))) := ⟨fun pins s σ H D0 I ⟨Pr, G, ρ, fl, ρ', E, q, k⟩ => by
  obtain ⟨d, o, ρ1, h1, h2, h3⟩ := sOwn_some q
  cases h2
  refine (ps_setLc C.calm C.nd hy hyl hsw hi ok hg ht (fun s H K cl fp => (he s H K cl fp).pe) hs).run pins s σ H D0 I (lc_reads hvs E h1 fun v H' ⟨G', o', g', E', ho⟩ => ?_)
  rw [h3 o' ho] at E'
  exact k _ H' G' g' E'.moveIn⟩
end
/-- name1, name2 = a, b -/
theorem cs_par {i j : Nat} {x y : Str} {a b : Expr} {fa fb : Ev} {px py pt : Pos} {kt k2 pt2} (C : XC c X) (hi : X.N[i]? = some x) (hj : X.N[j]? = some y) (hij : i ≠ j)
    (hx : X.env.scope.names.lookup x = some .local) (hy : X.env.scope.names.lookup y = some .local) (ha : CE c X a fa) (hb : CE c X b fb)
    (hw : swappedStores [.Tuple [.Name x px, .Name y py] kt pt] (.Tuple [a, b] k2 pt2) X.env = pure (some [x, y]))
    (hs : swapsWithSole [.Tuple [.Name x px, .Name y py] kt pt] (.Tuple [a, b] k2 pt2) pos.line X.env = pure false := by rfl) (hs1 : starEach [a, b] X.env = (false, eval a X.env) :: starEach [b] X.env := by rfl) (hs2 : starEach [b] X.env = (false, eval b X.env) :: starEach [] X.env := by rfl) :
    CS c X (.Assign [.Tuple [.Name x px, .Name y py] kt pt] (.Tuple [a, b] k2 pt2) pos) (sPar i j fa fb) := ⟨fun pins s σ H D0 I ⟨Pr, G, ρ, fl, ρ', E, q, k⟩ => by
  unfold sPar at q
  split at q
  · rename_i d1 ρ1 h1
    split at q
    · rename_i d2 ρ2 h2
      cases q
      refine (ps_par C.calm C.nd hi hj hij hx hy (pa_cons ha.pe (pa_cons hb.pe pa_nil hs2) hs1) hw hs).run pins s σ H D0 I ⟨Pr, G, ρ, d1, ρ1, E, h1, fun v H' ⟨G', g, E', r⟩ => ⟨Pr, G', ρ1, d2, ρ2, E', h2, fun v2 H2 ⟨G2, g2, E2, r2⟩ => ⟨v, v2, rfl, ?_⟩⟩⟩
      exact k _ H2 G2 (g.trans g2) ((E2.set (r.mono g2)).set r2)
    · cases q
  · cases q⟩
/-- a slot's own list is changed -/
theorem ER.writeL {i : Nat} {l l' : List D} {vs' : List V} {a : Addr} (E : ER c Pr G H σ ρ) (hi : ρ[i]? = some (.lst l)) (hs : σ[i]? = some (some (.ref a))) (r : RpA c G vs' l') : ER c Pr G (upd H a (.lst vs')) σ (ρ.set i (.lst l')) := by
  obtain ⟨m, nd, ap, sl⟩ := E.own
  obtain ⟨s0, m1, m2, e1, p, ⟨a', xs, e2, e3, h3, h4⟩, k⟩ := sl.at hi
  rw [hs] at e1
  cases e1
  cases e2
  subst e3
  have ha := ap a (p.mem_iff.mpr (by simp))
  have nd2 := p.nodup_iff.mp nd
  have nm : ∀ b ∈ m2, b ≠ a := fun b hb e => by
    subst e
    exact (List.nodup_append.mp nd2).2.2 b (by simp) b hb rfl
  obtain ⟨m', pm, sm⟩ := k G (upd H a (.lst vs')) (some (.ref a)) (.lst l') [a] (Ge.refl _) (fun b hb => upd_ne (nm b hb)) ⟨a, vs', rfl, rfl, upd_same, r⟩
  rw [set_same hs] at sm
  refine ⟨fun b o e => ?_, fun b o e => ?_, m', pm.nodup_iff.mpr nd2, fun b hb => ap b (p.mem_iff.mpr (pm.mem_iff.mp hb)), sm⟩
  · rw [upd_ne (ne_of_none e ha.1)]
    exact E.pr b o e
  · rw [upd_ne (ne_of_none e ha.2)]
    exact E.gh b o e
/-- name.append(e) -/
theorem cs_app {i : Nat} {x : Str} {xp apos cpos : Pos} (hN : X.N[i]? = some x) (hv : Vis X.env.scope x) (he : CE c X e f) (hs : swapsWith (.Call (.Attribute (.Name x xp) "append" apos) [e] [] cpos) none pos.line X.env = pure false := by rfl)
    (hd : (x == ("__debug__" : Str)) = false := by decide) (hcd : (x == ("__classdict__" : Str)) = false := by decide)
    (hbase : attributeBase (.Name x xp) "append" X.env (eval (.Name x xp) X.env) = eval (.Name x xp) X.env := by rfl) (hst : starEach [e] X.env = (false, eval e X.env) :: starEach [] X.env := by rfl) (hline : (apos.endLine == cpos.line) = true := by rfl) :
    CS c X (.Expr (.Call (.Attribute (.Name x xp) "append" apos) [e] [] cpos) pos) (sApp i f) := ⟨fun pins s σ H D0 I ⟨Pr, G, ρ, fl, ρ', E, q, k⟩ => by
  unfold sApp at q
  split at q
  · rename_i l0 h0
    split at q
    · rename_i d ρ1 h1
      split at q
      · rename_i l h2
        split at q
        · rename_i hz
          cases q
          refine (ps_expr (pe_bm PySem.F.plainAttrs_list PySem.F.slot_list_append PySem.F.type_list_append mt_append (pe_var hN hv hd hcd) (pa_cons he.pe pa_nil hst) hbase (by rw [hst]; rfl) hline hst rfl) hs).run pins s σ H D0 I ?_
          obtain ⟨a0, xs0, e0, hA0⟩ : ∃ a xs, σ[i]? = some (some (.ref a)) ∧ H a = some (.lst xs) := by
            obtain ⟨m, nd, ap, sl⟩ := E.own
            obtain ⟨s0, m1, m2, e1, p, ⟨a', xs, e2, e3, h3, h4⟩, kk⟩ := sl.at h0
            subst e2
            exact ⟨a', xs, e1, h3⟩
          refine ⟨.ref a0, e0, .inl ⟨rfl, xs0, .inl (.inl hA0)⟩, Pr, G, ρ, d, ρ1, E, h1, fun y H' ⟨G', g, E', r⟩ => ?_⟩
          obtain ⟨xs1, hA1, ra⟩ : ∃ xs, H' a0 = some (.lst xs) ∧ RpA c G' xs l := by
            obtain ⟨m, nd, ap, sl⟩ := E'.own
            obtain ⟨s0, m1, m2, e1, p, ⟨a', xs, e2, e3, h3, h4⟩, kk⟩ := sl.at h2
            rw [e0] at e1
            cases e1
            cases e2
            exact ⟨xs, h3, h4⟩
          have big : LIM ≤ sizeLine := by decide
          refine ⟨a0, xs1, y, rfl, rfl, hA1, by rw [ra.length]; omega, ?_⟩
          exact k σ _ G' g (E'.writeL h2 e0 (ra.append (.cons r .nil)))
        · cases q
      · cases q
    · cases q
  · cases q⟩
/-! ### loops -/
theorem cs_for {tg iter : Expr} {body : List Stmt} {it : Iv} {t : Tg} {m : Sm} (C : XC c X) (hi : CI c X tg iter it) (hg : CG c X tg t) (hb : CB c X body m) (hs : ∀ x, foldedSetIterable iter X.env x = pure x := by intro _; rfl) : CS c X (.For tg iter body [] pos) (sFor t it m) := ⟨fun pins s σ H D0 I ⟨Pr, G, ρ, fl, ρ', E, q, k⟩ => by
  unfold sFor at q
  split at q
  · rename_i xs ρ1 hit
    refine (ps_for (by rw [C.xe]; exact PassesOwn.never) C.calm hi hg hb hs).run pins s σ H D0 I ⟨Pr, G, ρ, xs, ρ1, E, hit, fun J G1 H1 g1 E1 W => ?_⟩
    refine ⟨fun i n σ H => n = xs.length - i ∧ i ≤ xs.length ∧ ∃ G ρ, Ge G1 G ∧ ER c Pr G H σ ρ ∧ forLoop t m (xs.drop i) ρ = some (fl, ρ'), ⟨xs.length, by simp, Nat.zero_le _, G1, ρ1, Ge.refl _, E1, q⟩, ?_⟩
    rintro i n σ2 H2 ⟨rfl, hi, G2, ρ2, g2, E2, hl⟩
    by_cases hlt : i < xs.length
    · have hx : xs[i]? = some xs[i] := by simp [hlt]
      have hdr : xs.drop i = xs[i] :: xs.drop (i + 1) := List.drop_eq_getElem_cons hlt
      rw [hdr] at hl
      obtain ⟨hgo, hyld⟩ := W.item G2 H2 g2 E2.gh i _ hx
      unfold forLoop at hl
      split at hl
      · rename_i ρ3 htg
        split at hl
        all_goals rename_i hm
        -- the ways of the body
        · refine .inr ⟨hgo, fun σ3 H3 => ∃ G3, Ge G1 G3 ∧ ER c Pr G3 H3 σ3 _, fun σ3 H3 ⟨G3, g3, E3⟩ => ⟨xs.length - (i + 1), by omega, rfl, hlt, G3, _, g3, E3, hl⟩, fun x H3 hy => ?_⟩
          obtain ⟨G3, gr, rx⟩ := hyld x H3 hy
          exact ⟨Pr, G3, ρ2, _, ρ3, E2.gr gr, rx, htg, fun σ4 H4 E4 eH _ _ => ⟨Pr, G3, ρ3, .nx, _, E4, hm, fun σ5 H5 G5 g5 E5 => ⟨G5, (g2.trans gr.ge).trans g5, E5⟩⟩⟩
        · refine .inr ⟨hgo, fun σ3 H3 => ∃ G3, Ge G1 G3 ∧ ER c Pr G3 H3 σ3 _, fun σ3 H3 ⟨G3, g3, E3⟩ => ⟨xs.length - (i + 1), by omega, rfl, hlt, G3, _, g3, E3, hl⟩, fun x H3 hy => ?_⟩
          obtain ⟨G3, gr, rx⟩ := hyld x H3 hy
          exact ⟨Pr, G3, ρ2, _, ρ3, E2.gr gr, rx, htg, fun σ4 H4 E4 eH _ _ => ⟨Pr, G3, ρ3, .ct, _, E4, hm, fun σ5 H5 G5 g5 E5 => ⟨G5, (g2.trans gr.ge).trans g5, E5⟩⟩⟩
        · cases hl
          refine .inr ⟨hgo, fun _ _ => False, fun _ _ h => h.elim, fun x H3 hy => ?_⟩
          obtain ⟨G3, gr, rx⟩ := hyld x H3 hy
          exact ⟨Pr, G3, ρ2, _, ρ3, E2.gr gr, rx, htg, fun σ4 H4 E4 eH _ _ => ⟨Pr, G3, ρ3, .bk, _, E4, hm, fun σ5 H5 G5 g5 E5 => k σ5 H5 G5 (((g1.trans g2).trans gr.ge).trans g5) E5⟩⟩
        · cases hl
          refine .inr ⟨hgo, fun _ _ => False, fun _ _ h => h.elim, fun x H3 hy => ?_⟩
          obtain ⟨G3, gr, rx⟩ := hyld x H3 hy
          exact ⟨Pr, G3, ρ2, _, ρ3, E2.gr gr, rx, htg, fun σ4 H4 E4 eH _ _ => ⟨Pr, G3, ρ3, .rt _, _, E4, hm, fun σ5 H5 G5 g5 E5 => k σ5 H5 G5 (((g1.trans g2).trans gr.ge).trans g5) E5⟩⟩
        · cases hl
      · cases hl
    · have e : i = xs.length := by omega
      subst e
      rw [List.drop_length] at hl
      cases hl
      exact .inl ⟨W.stop G2 H2 g2 E2.gh, k σ2 H2 G2 (g1.trans g2) E2⟩
  · cases q⟩
theorem cs_while {t : Expr} {body : List Stmt} {ft : Ev} {m : Sm} {μ : List O → Nat} (C : XC c X) (hc : CT c X t ft) (hb : CB c X body m) : CS c X (.While t body [] pos) (sWh μ ft m) := ⟨fun pins s σ H D0 I ⟨Pr, G, ρ, fl, ρ', E, q, k⟩ => by
  have q : whLoop ft m (μ ρ) ρ = some (fl, ρ') := q
  refine (ps_while (by rw [C.xe]; exact PassesOwn.never) hc.pt hb).run pins s σ H D0 I ?_
  refine ⟨fun n σ H => ∃ G' ρ, Ge G G' ∧ ER c Pr G' H σ ρ ∧ whLoop ft m n ρ = some (fl, ρ'), ⟨_, G, ρ, Ge.refl _, E, q⟩, ?_⟩
  rintro n σ2 H2 ⟨G2, ρ2, g2, E2, hl⟩
  cases n with
  | zero => cases hl
  | succ n =>
    unfold whLoop at hl
    split at hl
    · rename_i ρ3 hf
      refine ⟨Pr, G2, ρ2, true, ρ3, E2, hf, fun H3 ⟨G3, g3, E3⟩ => iteT ?_⟩
      split at hl
      all_goals rename_i hm
      · exact ⟨fun σ4 H4 => ∃ G4, Ge G G4 ∧ ER c Pr G4 H4 σ4 _, fun σ4 H4 ⟨G4, g4, E4⟩ => ⟨n, Nat.lt_succ_self _, G4, _, g4, E4, hl⟩, Pr, G3, ρ3, .nx, _, E3, hm, fun σ5 H5 G5 g5 E5 => ⟨G5, (g2.trans g3).trans g5, E5⟩⟩
      · exact ⟨fun σ4 H4 => ∃ G4, Ge G G4 ∧ ER c Pr G4 H4 σ4 _, fun σ4 H4 ⟨G4, g4, E4⟩ => ⟨n, Nat.lt_succ_self _, G4, _, g4, E4, hl⟩, Pr, G3, ρ3, .ct, _, E3, hm, fun σ5 H5 G5 g5 E5 => ⟨G5, (g2.trans g3).trans g5, E5⟩⟩
      · cases hl
        exact ⟨fun _ _ => False, fun _ _ h => h.elim, Pr, G3, ρ3, .bk, _, E3, hm, fun σ5 H5 G5 g5 E5 => k σ5 H5 G5 ((g2.trans g3).trans g5) E5⟩
      · cases hl
        exact ⟨fun _ _ => False, fun _ _ h => h.elim, Pr, G3, ρ3, .rt _, _, E3, hm, fun σ5 H5 G5 g5 E5 => k σ5 H5 G5 ((g2.trans g3).trans g5) E5⟩
      · cases hl
    · rename_i ρ3 hf
      cases hl
      exact ⟨Pr, G2, ρ2, false, ρ', E2, hf, fun H3 ⟨G3, g3, E3⟩ => iteF (k σ2 H3 G3 (g2.trans g3) E3)⟩
    · cases hl⟩
end

/-! ### what a def promises, by values -/
def spP (c : Ct) (n : Nat) (φ : List D → Option D) : Sp := fun vs H Q _ => vs.length = n ∧ ∃ G ds r, Ge G H ∧ RpA c G vs ds ∧ φ ds = some r ∧ ∀ v G' H', Gr G H G' H' → Rp c G' v r → Q v H'
/-- the def x of the program does φ, with k rooms -/
def FP (c : Ct) (P : Program) (mg : Str → Option Value) (base : Heap) (k : Nat) (x : Str) (φ : List D → Option D) : Prop :=
  ∃ f fd ps, mg x = some (.ref f) ∧ PySem.W.keepIn c.K (.ref f) = true ∧ Binds c.K fd ps [] ∧ (∀ ds r, φ ds = some r → ds.length = ps.length) ∧ FnOk P c.w c.K mg base CX0 k f fd ps (spP c ps.length φ)
section
variable {c : Ct} {X : Cx} {Pr G H : Hp} {σ : L2.St} {ρ ρ' : List O} {P : Program} {mg : Str → Option Value} {base : Heap}
theorem FP.mono {j k : Nat} {x : Str} {φ : List D → Option D} (F : FP c P mg base j x φ) (h : j ≤ k) : FP c P mg base k x φ := by
  obtain ⟨f, fd, ps, h1, h2, h3, h4, h5⟩ := F
  exact ⟨f, fd, ps, h1, h2, h3, h4, h5.mono h⟩
/-- what a def promises more than it is asked -/
theorem FP.imp {k : Nat} {x : Str} {φ ψ : List D → Option D} (F : FP c P mg base k x φ) (h : ∀ ds r, ψ ds = some r → φ ds = some r) : FP c P mg base k x ψ := by
  obtain ⟨f, fd, ps, h1, h2, h3, h4, h5⟩ := F
  exact ⟨f, fd, ps, h1, h2, h3, fun ds r q => h4 ds r (h ds r q), h5.imp fun vs H Q E ⟨a, G, ds, r, b, d, e, g⟩ => ⟨a, G, ds, r, b, d, h ds r e, g⟩⟩
theorem eCall_some {φ : List D → Option D} {fs : Evs} {z : D × List O} (h : eCall φ fs ρ = some z) : ∃ ds, fs ρ = some (ds, z.2) ∧ φ ds = some z.1 := by
  unfold eCall at h
  split at h
  · rename_i ds ρ1 h1
    split at h
    · rename_i r h2
      cases h
      exact ⟨ds, h1, h2⟩
    · cases h
  · cases h
theorem ce_call {x : Str} {e : Expr} {es : List Expr} {p pos : Pos} {k : Nat} {φ : List D → Option D} {fs : Evs} (C : XC c X) (F : FP c X.prog X.mg X.base k x φ) (hr : Room k X.A) (hg : Gl X x) (ha : CA c X (e :: es) fs)
    (hdb : (x == ("__debug__" : Str)) = false := by decide) (he : starEach (e :: es) X.env = (false, eval e X.env) :: starEach es X.env := by rfl) (hpl : (backTo pos (starEach es X.env)).any (·.1) = false := by rfl) : CE c X (.Call (.Name x p) (e :: es) [] pos) (eCall φ fs) := by
  intro pins s σ H Pr G ρ ρ' d I E h
  obtain ⟨ds, h1, h2⟩ := eCall_some h
  obtain ⟨f, fd, ps, f1, f2, f3, f4, f5⟩ := F
  have f5 : FnOk X.prog X.w X.K X.mg X.base CX0 k f fd ps (spP c ps.length φ) := by rw [C.K, C.w]; exact f5
  refine (pe_call (E := E0) f5 hr hg f1 (by rw [C.K]; exact f2) (by rw [C.K]; exact f3) .nil pass0 ha.pa hdb he hpl).run pins s σ H _ I ⟨Pr, G, ρ, ds, ρ', E, h1, fun vs H1 ⟨G1, g1, E1, ra⟩ => ?_⟩
  show spP c ps.length φ (vs ++ []) H1 (PostE c Pr G σ ρ' d) E0
  rw [List.append_nil]
  exact ⟨by rw [ra.length]; exact f4 ds d h2, G1, ds, d, E1.gh, ra, h2, fun v G2 H2 gr rp => PostE.of g1 E1 gr rp⟩
theorem rpa_vals : ∀ {vs : List V} {ds : List D} {n : Nat}, RpA c G vs ds → Slots c G H (vs.map some ++ List.replicate n none) (ds.map O.val ++ List.replicate n .un) []
  | [], [], 0, _ => rfl
  | [], [], n + 1, r => ⟨[], [], rfl, rfl, rpa_vals (n := n) r⟩
  | v :: vs, d :: ds, n, .cons h r => ⟨[], [], rfl, ⟨rfl, v, rfl, h⟩, rpa_vals r⟩
/-- a def of the program by its body -/
theorem fn_of {x qual : Str} {st : Stmt} {f : Addr} {fd : FuncData} {N ps : List Str} {k : Nat} {φ : List D → Option D} {m : Sm} (F : Fun c.K x qual st f fd) (S : FnScope N ps (defScope st)) (hblt : ∀ y ∈ bltNames, mg y = none)
    (body : ∀ (cdv : Value) (A : Around) (outer : List Env) (s : Shared) (H : Hp) (E : XK), XC c (cxOf CX0 P c.w c.K mg base N qual (defScope st) f cdv A outer s H E).nox → Room k (cxOf CX0 P c.w c.K mg base N qual (defScope st) f cdv A outer s H E).nox.A → CB c (cxOf CX0 P c.w c.K mg base N qual (defScope st) f cdv A outer s H E).nox (defBody st) m)
    (hφ : ∀ ds r, φ ds = some r → runDef N.length m ds = some r) : FnOk P c.w c.K mg base CX0 (k + 1) f fd ps (spP c ps.length φ) := by
  refine F.ok S (fun vs H Q E h => h.1) fun cdv A outer s H vs Q E hr h => ?_
  obtain ⟨hl, G, ds, r, g, ra, h1, q⟩ := h
  have C : XC c (cxOf CX0 P c.w c.K mg base N qual (defScope st) f cdv A outer s H E).nox := ⟨rfl, rfl, rfl, S.nd, by have := hr.un; show (A.deeper _).units + 150 < cLine; omega, hblt, rfl⟩
  refine ⟨_, body cdv A outer s H E C hr, ?_⟩
  have h2 := hφ ds r h1
  unfold runDef at h2
  have el : vs.length = ds.length := ra.length
  have E0 : ER c (fun a => if (G a).isSome then none else H a) G H (L2.start N vs) (ds.map .val ++ List.replicate (N.length - ds.length) .un) := by
    refine ⟨fun a o e => ?_, g, [], List.nodup_nil, (fun a ha => nomatch ha), ?_⟩
    · cases q : G a with
      | none => rw [q] at e; exact ⟨e, rfl⟩
      | some u => rw [q] at e; cases e
    · unfold L2.start
      rw [el]
      exact rpa_vals ra
  have gr : ∀ {G' H' : Hp} {σ' : L2.St} {ρ' : List O}, Ge G G' → ER c (fun a => if (G a).isSome then none else H a) G' H' σ' ρ' → Gr G H G' H' := fun {G' H' σ' ρ'} g' E' => by
    refine ⟨g', fun a o e => ?_, E'.gh, fun a n ⟨o, e⟩ => ?_⟩
    · cases q : G a with
      | some u =>
        have e2 := g a u q
        rw [e] at e2
        cases e2
        exact E'.gh a _ (g' a _ q)
      | none => exact (E'.pr a o (by rw [q]; exact e)).1
    · exact (E'.pr a o (by rw [n]; exact e)).2
  split at h2
  · rename_i d ρ' hb
    cases h2
    exact ⟨_, G, _, .rt r, ρ', E0, hb, fun σ' H' G' g' E' v rp => q v G' H' (gr g' E') rp⟩
  · rename_i ρ' hb
    cases h2
    exact ⟨_, G, _, .nx, ρ', E0, hb, fun σ' H' G' g' E' => q .non G' H' (gr g' E') .non⟩
  · cases h2
/-- a def of the program by its body -/
theorem fp_of {x qual : Str} {st : Stmt} {f : Addr} {fd : FuncData} {N ps : List Str} {k : Nat} {φ : List D → Option D} {m : Sm} (F : Fun c.K x qual st f fd) (S : FnScope N ps (defScope st)) (hm : mg x = some (.ref f)) (hb : Binds c.K fd ps []) (hblt : ∀ y ∈ bltNames, mg y = none)
    (body : ∀ (cdv : Value) (A : Around) (outer : List Env) (s : Shared) (H : Hp) (E : XK), XC c (cxOf CX0 P c.w c.K mg base N qual (defScope st) f cdv A outer s H E).nox → Room k (cxOf CX0 P c.w c.K mg base N qual (defScope st) f cdv A outer s H E).nox.A → CB c (cxOf CX0 P c.w c.K mg base N qual (defScope st) f cdv A outer s H E).nox (defBody st) m)
    (hn : ∀ ds r, φ ds = some r → ds.length = ps.length) (hφ : ∀ ds r, φ ds = some r → runDef N.length m ds = some r) : FP c P mg base (k + 1) x φ := by
  exact ⟨f, fd, ps, hm, F.kp, hb, hn, fn_of F S hblt body hφ⟩
end
end VL

set_option Elab.async false
set_option linter.all false
set_option maxRecDepth 100000
/-! V9: methods by values, sorted, repeated tuples. -/
namespace VL
open PySem PySem.Spec PyProof.Rows L2

/-! ### values -/
def kd : D → Nat
  | .none => 0 | .bool _ => 1 | .int _ => 2 | .str _ => 3 | .list _ => 4 | .tuple _ => 5 | .dict _ => 6
/-- a method's call: the receiver as it stands, and its kind already ahead of the arguments -/
def eM (f : D → List D → Option D) (p : Pk) (es : Evs) : Ev := fun ρ => match p ρ with
  | some (t, ρ1) => match t ρ1 with
    | some d0 => match es ρ1 with
      | some (ds, ρ2) => match t ρ2 with
        | some d => if kd d0 = kd d then match f d ds with
            | some r => some (r, ρ2)
            | none => none
          else none
        | none => none
      | none => none
    | none => none
  | none => none
def mCountT (d : D) (ds : List D) : Option D := match d, ds with
  | .tuple l, [x] => if x.plain && PyData.plainAll l && decide (x.depth ≤ lvl) then some (.int (l.countP fun y => PyData.eqv y x)) else none
  | _, _ => none
def mCountL (d : D) (ds : List D) : Option D := match d, ds with
  | .list l, [x] => if x.plain && PyData.plainAll l && decide (x.depth ≤ lvl) then some (.int (l.countP fun y => PyData.eqv y x)) else none
  | _, _ => none
/-- may be sorted: all alike, and either all tuples or none a tuple or None -/
def sortable (l : List D) : Bool := (l.all fun x => l.all fun y => PySem.W.alike x y) && ((l.all fun x => kd x == 5) || l.all fun x => kd x != 5 && kd x != 0) && decide (l.length ≤ LIM) && l.all fun x => decide (x.depth ≤ lvl)
def keysOf : D → Option (List D)
  | .list l => some l
  | .tuple l => some l
  | .dict l => some (l.map (·.1))
  | _ => none
/-- a item put ahead of the first that it does not come behind -/
def insD (x : D) : List D → List D
  | [] => [x]
  | y :: r => if PySem.W.dataLe false id x y then x :: y :: r else y :: insD x r
def isort : List D → List D
  | [] => []
  | x :: l => insD x (isort l)
theorem insD_perm (x : D) : ∀ l : List D, (insD x l).Perm (x :: l)
  | [] => List.Perm.refl _
  | y :: r => by
    unfold insD
    split
    · exact List.Perm.refl _
    · exact ((insD_perm x r).cons y).trans (List.Perm.swap x y r)
theorem isort_perm : ∀ l : List D, (isort l).Perm l
  | [] => List.Perm.refl _
  | x :: l => (insD_perm x _).trans ((isort_perm l).cons x)
theorem dle_total : PySem.W.TotalLe (PySem.W.dataLe (β := D) false id) := PySem.W.sortLe_total _ false _
theorem insD_sorted (x : D) : ∀ {l : List D}, l.Pairwise (fun a b => PySem.W.dataLe false id a b = true) → (insD x l).Pairwise (fun a b => PySem.W.dataLe false id a b = true)
  | [], _ => List.pairwise_singleton _ _
  | y :: r, h => by
    obtain ⟨h1, h2⟩ := List.pairwise_cons.mp h
    unfold insD
    split
    · rename_i hx
      refine List.pairwise_cons.mpr ⟨fun z hz => ?_, h⟩
      rcases List.mem_cons.mp hz with e | hz
      · rw [e]; exact hx
      · exact dle_total.trans x y z hx (h1 z hz)
    · rename_i hx
      refine List.pairwise_cons.mpr ⟨fun z hz => ?_, insD_sorted x h2⟩
      rcases List.mem_cons.mp ((insD_perm x r).mem_iff.mp hz) with e | hz
      · rw [e]
        have := dle_total.total x y
        simpa [hx] using this
      · exact h1 z hz
theorem isort_sorted : ∀ l : List D, (isort l).Pairwise (fun a b => PySem.W.dataLe false id a b = true)
  | [] => List.Pairwise.nil
  | x :: l => insD_sorted x (isort_sorted l)
theorem insD_filter (z x : D) : ∀ l : List D, (insD x l).filter (PySem.W.Srt.alike (PySem.W.dataLe false id) z) = (x :: l).filter (PySem.W.Srt.alike (PySem.W.dataLe false id) z)
  | [] => rfl
  | y :: r => by
    unfold insD
    split
    · rfl
    · rename_i hx
      have ih := insD_filter z x r
      by_cases hz : PySem.W.Srt.alike (PySem.W.dataLe false id) z x = true
      · have hy : ¬ PySem.W.Srt.alike (PySem.W.dataLe false id) z y = true := by
          intro hy
          unfold PySem.W.Srt.alike at hz hy
          rw [Bool.and_eq_true] at hz hy
          exact hx (dle_total.trans x z y hz.2 hy.1)
        rw [List.filter_cons_of_neg hy, ih, List.filter_cons_of_pos hz, List.filter_cons_of_pos hz, List.filter_cons_of_neg hy]
      · rw [List.filter_cons, ih, List.filter_cons_of_neg hz, List.filter_cons_of_neg hz, List.filter_cons]
theorem isort_filter (z : D) : ∀ l : List D, (isort l).filter (PySem.W.Srt.alike (PySem.W.dataLe false id) z) = l.filter (PySem.W.Srt.alike (PySem.W.dataLe false id) z)
  | [] => rfl
  | x :: l => by
    unfold isort
    rw [insD_filter, List.filter_cons, List.filter_cons, isort_filter z l]
theorem isort_eq (l : List D) : isort l = l.mergeSort (PySem.W.dataLe false id) :=
  PySem.W.Srt.the _ dle_total.trans (fun x y => by rw [Bool.or_eq_true]; exact dle_total.total x y) (isort_sorted l) fun z => isort_filter z l
def sSorted (d : D) : Option D := match keysOf d with
  | some l => if sortable l then some (.list (isort l)) else none
  | none => none
/-- a tuple k times -/
def sRep : D → D → Option D
  | .tuple l, .int k => if k ≤ 1000 ∧ -1000 ≤ k ∧ l.length ≤ 1000 then some (.tuple (List.replicate k.toNat l).flatten) else none
  | _, _ => none

theorem eM_some {f : D → List D → Option D} {p : Pk} {es : Evs} {ρ : List O} {z : D × List O} (h : eM f p es ρ = some z) : ∃ t ρ1 d0 ds d, p ρ = some (t, ρ1) ∧ t ρ1 = some d0 ∧ es ρ1 = some (ds, z.2) ∧ t z.2 = some d ∧ kd d0 = kd d ∧ f d ds = some z.1 := by
  unfold eM at h
  split at h
  · rename_i t ρ1 h1
    split at h
    · rename_i d0 h2
      split at h
      · rename_i ds ρ2 h3
        split at h
        · rename_i d h4
          split at h
          · rename_i h5
            split at h
            · rename_i r h6
              cases h
              exact ⟨t, ρ1, d0, ds, d, h1, h2, h3, h4, h5, h6⟩
            · cases h
          · cases h
        · cases h
      · cases h
    · cases h
  · cases h

section
variable {c : Ct} {X : Cx} {Pr G H : Hp} {σ : L2.St} {ρ ρ' : List O} {pins : List (Addr × Obj)} {s : Shared}

/-! ### methods -/
/-- of which type a value of a kind is -/
def kdT : Nat → String
  | 3 => "str" | 4 => "list" | 5 => "tuple" | _ => "dict"
theorem rpt_type {v : V} {u : Value} {d : D} (C : XC c X) (I : Inv X pins σ H s) (g : Ge G H) (t : RpT c G H v d) (r : RelV v u) (h : 3 ≤ kd d) : s.TypeIs u (kdT (kd d)) ∧ ∀ a, u = .ref a → ∃ ob, s.heap.get? a = some ob ∧ ob.dict = none := by
  cases d with
  | none => simp [kd] at h
  | bool b => simp [kd] at h
  | int i => simp [kd] at h
  | str x =>
    rw [t.str] at r
    obtain ⟨tk, rfl⟩ := r
    exact ⟨typeIs_str _ _ _, fun a e => nomatch e⟩
  | list l =>
    obtain ⟨a, xs, rfl, q, ra⟩ := t.seqL g
    exact tyV_is (x := .ref a) I r (.inl ⟨rfl, xs, by rw [C.K]; exact q⟩)
  | tuple l =>
    obtain ⟨a, xs, o, rfl, f, n, q, ra⟩ := t.seqT g
    obtain ⟨its, rv, ⟨o2, h1, h2, k, h3⟩, hz⟩ := I.tupAt g f
    cases r
    have ho : s.heap.get? a = some o := (I.hok _ _ (g _ _ f)).1
    rw [ho] at h1
    cases h1
    exact ⟨⟨o, ho, h2⟩, fun b e => by cases e; exact ⟨o, ho, n⟩⟩
  | dict l =>
    have hD : ∃ a ep hs xs ys, v = .ref a ∧ H a = some (dO a ep hs xs ys) := by
      cases t with
      | of t => cases t with
        | dic h1 h2 h3 h4 h5 => exact ⟨_, _, _, _, _, rfl, g _ _ h1⟩
      | dic h1 h2 h3 h4 h5 => exact ⟨_, _, _, _, _, rfl, h1⟩
    obtain ⟨a, ep, hs, xs, ys, rfl, hH⟩ := hD
    cases r
    have hp : dPhi a ep hs xs ys s.heap := by
      exact (I.hok _ _ hH).1
    obtain ⟨_, _, es, ⟨o, ho, hx, hd⟩, _⟩ := hp
    exact ⟨⟨o, ho, hx.1⟩, fun b e => by cases e; exact ⟨o, ho, hx.2.1⟩⟩

/-- a method of what is built in, by values -/
def MtV (c : Ct) (X : Cx) (k : Nat) (id : String) (f : D → List D → Option D) (W : Hp → Hp → D → VK) : Prop := ∀ (pins : List (Addr × Obj)) (s : Shared) (σ : L2.St) (H G : Hp) (x : V) (xs : List V) (v : Value) (us : List Value) (d : D) (ds : List D) (r : D), Inv X pins σ H s → Ge G H → RelV x v → Vals xs us → RpT c G H x d → RpA c G xs ds → kd d = k → f d ds = some r →
  wpAny (model X.prog X.w) X.A (call (.builtin id) (v :: us)) (EP X pins σ (W G H r)) X.xe s
/-- an end by new things alone -/
def NW (c : Ct) (G H : Hp) (r : D) : VK := fun z H' => ∃ G', Gr G H G' H' ∧ Rp c G' z r
section
variable {T : String} {id : String} {k : Nat} {name : Str} {f : D → List D → Option D} {W : Hp → Hp → D → VK} {o e : Expr} {es : List Expr} {apos cpos : Pos} {p : Pk} {fs : Evs}
theorem m_core {Q : VK} {d : D} (C : XC c X) (hW : ∀ G2 H2 v H3, Ge G G2 → ER c Pr G2 H2 σ ρ' → W G2 H2 d v H3 → Q v H3) (hT : T = kdT k) (hk : 3 ≤ k) (pa : PlainAttrs T) (slot : Slot T name id) (hty : typeOf (.builtin id) = pure (.type "method_descriptor")) (hm : MtV c X k id f W) (hf : ∀ d ds r, f d ds = some r → kd d = k) (ho : CK c X o p) (ha : CA c X (e :: es) fs) (I : Inv X pins σ H s) (E : ER c Pr G H σ ρ) (h : eM f p fs ρ = some (d, ρ'))
    (hbase : attributeBase o name X.env (eval o X.env) = eval o X.env)
    (hfew : ((backTo cpos (starEach (e :: es) X.env)).all (fun x => !x.1) && (backToKw cpos (keywordEach [] X.env)).all (fun x => x.1.isSome)
      && decide ((e :: es).length + ([] : List Keyword).length + (if ([] : List Keyword).isEmpty then 0 else 1) < 30)) = true)
    (hline : (apos.endLine == cpos.line) = true) (hs : starEach (e :: es) X.env = (false, eval e X.env) :: starEach es X.env) (hplain : (backTo cpos (starEach es X.env)).any (·.1) = false) :
    wpAny (model X.prog X.w) X.A (eval (.Call (.Attribute o name apos) (e :: es) [] cpos) X.env) (EP X pins σ Q) X.xe s := by
  obtain ⟨t, ρ1, d0, ds, d1, h1, h2, h3, h4, h5, h6⟩ := eM_some h
  refine wpAny_Call_method_late hbase hfew hline rfl (thn (ho pins s σ H Pr G ρ ρ1 t I E h1) fun v s1 ⟨x, H1, I1, r1, G1, g1, E1, q1⟩ => ?_)
  have hkd : kd d0 = k := h5.trans (hf _ _ _ h6)
  obtain ⟨a1, a2⟩ := rpt_type C I1 E1.gh (q1 G1 H1 ρ1 d0 (Ge.refl _) E1 h2) r1 (by omega)
  rw [hkd, ← hT] at a1
  refine ⟨T, id, pa, slot, hty, a1, a2, ?_⟩
  have hA := ha cpos pins s1 σ H1 Pr G1 ρ1 ρ' ds I1 E1 h3
  rw [hs] at hA ⊢
  refine Calls.callWith_builtin (by show (false || (backTo cpos (starEach es X.env)).any (·.1)) = false; rw [hplain] <;> rfl) (Calls.evalArgs_plain ?_)
  refine thn hA fun us s2 ⟨vs, H2, I2, r2, G2, g2, E2, ra⟩ => ?_
  refine thn (hm pins s2 σ H2 G2 x vs v us d1 ds d I2 E2.gh r1 r2 (q1 G2 H2 ρ' d1 g2 E2 h4) ra (hf _ _ _ h6) h6) fun z s3 ⟨w', H3, I3, r3, q3⟩ => ⟨w', H3, I3, r3, ?_⟩
  exact hW G2 H2 w' H3 (g1.trans g2) E2 q3
theorem ce_m (C : XC c X) (hT : T = kdT k) (hk : 3 ≤ k) (pa : PlainAttrs T) (slot : Slot T name id) (hty : typeOf (.builtin id) = pure (.type "method_descriptor")) (hm : MtV c X k id f (NW c)) (hf : ∀ d ds r, f d ds = some r → kd d = k) (ho : CK c X o p) (ha : CA c X (e :: es) fs)
    (hbase : attributeBase o name X.env (eval o X.env) = eval o X.env := by rfl)
    (hfew : ((backTo cpos (starEach (e :: es) X.env)).all (fun x => !x.1) && (backToKw cpos (keywordEach [] X.env)).all (fun x => x.1.isSome)
      && decide ((e :: es).length + ([] : List Keyword).length + (if ([] : List Keyword).isEmpty then 0 else 1) < 30)) = true := by rfl)
    (hline : (apos.endLine == cpos.line) = true := by rfl) (hs : starEach (e :: es) X.env = (false, eval e X.env) :: starEach es X.env := by rfl) (hplain : (backTo cpos (starEach es X.env)).any (·.1) = false := by rfl) :
    CE c X (.Call (.Attribute o name apos) (e :: es) [] cpos) (eM f p fs) := fun pins s σ H Pr G ρ ρ' d I E h =>
  m_core C (fun G2 H2 v H3 g E2 ⟨G3, g3, rp⟩ => PostE.of g E2 g3 rp) hT hk pa slot hty hm hf ho ha I E h hbase hfew hline hs hplain
theorem cf_m (C : XC c X) (hT : T = kdT k) (hk : 3 ≤ k) (pa : PlainAttrs T) (slot : Slot T name id) (hty : typeOf (.builtin id) = pure (.type "method_descriptor")) (hm : MtV c X k id f (FL c)) (hf : ∀ d ds r, f d ds = some r → kd d = k) (ho : CK c X o p) (ha : CA c X (e :: es) fs)
    (hbase : attributeBase o name X.env (eval o X.env) = eval o X.env := by rfl)
    (hfew : ((backTo cpos (starEach (e :: es) X.env)).all (fun x => !x.1) && (backToKw cpos (keywordEach [] X.env)).all (fun x => x.1.isSome)
      && decide ((e :: es).length + ([] : List Keyword).length + (if ([] : List Keyword).isEmpty then 0 else 1) < 30)) = true := by rfl)
    (hline : (apos.endLine == cpos.line) = true := by rfl) (hs : starEach (e :: es) X.env = (false, eval e X.env) :: starEach es X.env := by rfl) (hplain : (backTo cpos (starEach es X.env)).any (·.1) = false := by rfl) :
    CF c X (.Call (.Attribute o name apos) (e :: es) [] cpos) (eM f p fs) := fun pins s σ H Pr G ρ ρ' d I E h =>
  m_core C (fun G2 H2 v H3 g E2 q => PostF.of g E2 q) hT hk pa slot hty hm hf ho ha I E h hbase hfew hline hs hplain
end
theorem vals1 {x : V} {us : List Value} (h : Vals [x] us) : ∃ u, us = [u] ∧ RelV x u := by
  cases h with
  | cons r t => cases t; exact ⟨_, rfl, r⟩
theorem rpa1 {xs : List V} {d : D} (h : RpA c G xs [d]) : ∃ x, xs = [x] ∧ Rp c G x d := by
  cases h with
  | cons r t => cases t; exact ⟨_, rfl, r⟩
theorem depthAll_le {l : List D} {n : Nat} (h : ∀ x ∈ l, x.depth ≤ n) : PyData.depthAll l ≤ n := by
  induction l with
  | nil => simp [PyData.depthAll]
  | cons x l ih =>
    rw [PyData.depthAll]
    have h1 := h x List.mem_cons_self
    have h2 := ih fun y hy => h y (List.mem_cons_of_mem _ hy)
    omega
theorem mt_countT (C : XC c X) : MtV c X 5 "tuple.count" mCountT (NW c) := by
  intro pins s σ H G x xs v us d ds r I g rx rs t ra hk h
  unfold mCountT at h
  split at h
  · rename_i l y
    split at h
    · rename_i q
      simp only [Bool.and_eq_true, decide_eq_true_eq] at q
      cases h
      obtain ⟨z, rfl, rz⟩ := rpa1 ra
      obtain ⟨u, rfl, ru⟩ := vals1 rs
      obtain ⟨a, xs, o, rfl, f, n, sq, rl⟩ := t.seqT g
      obtain ⟨its, rv, pl, hz⟩ := I.tupAt g f
      cases rx
      obtain ⟨bs, rd⟩ := (RpT.of (H := H) rz).reads C I g q.1.1 ru
      obtain ⟨as, hr⟩ := Dp.readsAll I _ xs its (by rw [C.K]; exact rl.dp g q.1.2) rv
      have hd : y.depth ≤ 60 := q.2
      have := C.hu
      exact PySem.SeqAt.count_tuple_data pl (by simpa using hr) rd q.1.2 q.1.1 (by omega) ⟨.int _, H, I.tok _, ⟨_, rfl⟩, gr_same g (.int _)⟩
    · cases h
  · cases h
theorem mt_countL (C : XC c X) : MtV c X 4 "list.count" mCountL (NW c) := by
  intro pins s σ H G x xs v us d ds r I g rx rs t ra hk h
  unfold mCountL at h
  split at h
  · rename_i l y
    split at h
    · rename_i q
      simp only [Bool.and_eq_true, decide_eq_true_eq] at q
      cases h
      obtain ⟨z, rfl, rz⟩ := rpa1 ra
      obtain ⟨u, rfl, ru⟩ := vals1 rs
      obtain ⟨a, xs, rfl, sq, rl⟩ := t.seqL g
      obtain ⟨its, rv, pl, hz⟩ := I.list (by rw [C.K]; exact sq)
      cases rx
      obtain ⟨bs, rd⟩ := (RpT.of (H := H) rz).reads C I g q.1.1 ru
      obtain ⟨as, hr⟩ := Dp.readsAll I _ xs its (by rw [C.K]; exact rl.dp g q.1.2) rv
      have hd : y.depth ≤ 60 := q.2
      have := C.hu
      exact PySem.SeqAt.count_list_data pl.isList (by simpa using hr) rd q.1.2 q.1.1 (by omega) ⟨.int _, H, I.tok _, ⟨_, rfl⟩, gr_same g (.int _)⟩
    · cases h
  · cases h
theorem count_kT {d : D} {ds : List D} {r : D} (h : mCountT d ds = some r) : kd d = 5 := by
  unfold mCountT at h
  split at h
  · rfl
  · cases h
theorem count_kL {d : D} {ds : List D} {r : D} (h : mCountL d ds = some r) : kd d = 4 := by
  unfold mCountL at h
  split at h
  · rfl
  · cases h
theorem ce_countT {o e : Expr} {apos cpos : Pos} {p : Pk} {f : Ev} (C : XC c X) (ho : CK c X o p) (he : CE c X e f)
    (hbase : attributeBase o "count" X.env (eval o X.env) = eval o X.env := by rfl) (hline : (apos.endLine == cpos.line) = true := by rfl) (hs : starEach [e] X.env = [(false, eval e X.env)] := by rfl) :
    CE c X (.Call (.Attribute o "count" apos) [e] [] cpos) (eM mCountT p (esCons f esNil)) :=
  ce_m (T := "tuple") (k := 5) C rfl (by decide) PySem.F.plainAttrs_tuple PySem.F.slot_tuple_count PySem.F.type_tuple_count (mt_countT C) (fun _ _ _ h => count_kT h) ho (ca_cons he ca_nil hs) hbase (by rw [hs]; rfl) hline hs rfl
theorem ce_countL {o e : Expr} {apos cpos : Pos} {p : Pk} {f : Ev} (C : XC c X) (ho : CK c X o p) (he : CE c X e f)
    (hbase : attributeBase o "count" X.env (eval o X.env) = eval o X.env := by rfl) (hline : (apos.endLine == cpos.line) = true := by rfl) (hs : starEach [e] X.env = [(false, eval e X.env)] := by rfl) :
    CE c X (.Call (.Attribute o "count" apos) [e] [] cpos) (eM mCountL p (esCons f esNil)) :=
  ce_m (T := "list") (k := 4) C rfl (by decide) PySem.F.plainAttrs_list PySem.F.slot_list_count PySem.F.type_list_count (mt_countL C) (fun _ _ _ h => count_kL h) ho (ca_cons he ca_nil hs) hbase (by rw [hs]; rfl) hline hs rfl

/-! ### a tuple k times -/
theorem tuple_mul_same (l : Addr) (items : Array Value) (n : Nat) (dd : Option Addr) (sl : Array (Option Value)) (x : Int) (u : Tok) (c0 : (decide (x < -(2 ^ 63)) || decide (x ≥ 2 ^ 63)) = false) (c1 : (items.isEmpty || x == 1) = true) :
    Meets (Builtin.«tuple.__mul__» ⟨[.ref l, .int x u], []⟩) (fun _ R s => s.heap.get? l = some { cls := .type "tuple", dict := dd, data := .seq items n, slots := sl } ∧ R (.ok (.ret (Value.ref l))) s) :=
  .of_wp fun prog w A R s h => by
    obtain ⟨hp, g, d, tk, os⟩ := s
    obtain ⟨hl, h⟩ := h
    have f1 := AutoSeq1.idx_int
    wp_walk using AutoSeq1.wpAny_loadPart' hl
    repeat (first
      | (refine wpAny_ite_false (decide_eq_false (by rw [c0]; exact Bool.false_ne_true)) ?_; wp_walk using AutoSeq1.wpAny_loadPart' hl)
      | (refine wpAny_ite_true (decide_eq_true c1) ?_; wp_walk using AutoSeq1.wpAny_loadPart' hl))
    exact ⟨_, rfl, h⟩
theorem tuple_mul_none (l : Addr) (items : Array Value) (n : Nat) (dd : Option Addr) (sl : Array (Option Value)) (x : Int) (u : Tok) (c0 : (decide (x < -(2 ^ 63)) || decide (x ≥ 2 ^ 63)) = false) (c1 : (items.isEmpty || x == 1) = false) (c2 : (decide (x ≤ 0) || items.isEmpty) = true) :
    Meets (Builtin.«tuple.__mul__» ⟨[.ref l, .int x u], []⟩) (fun _ R s => s.heap.get? l = some { cls := .type "tuple", dict := dd, data := .seq items n, slots := sl } ∧
      R (.ok (.ret (Value.ref s.heap.objs.size))) { s with heap := s.heap.push { cls := Value.type "tuple", data := Data.seq #[] }, toks := s.toks }) :=
  .of_wp fun prog w A R s h => by
    obtain ⟨hp, g, d, tk, os⟩ := s
    obtain ⟨hl, h⟩ := h
    have f1 := AutoSeq1.idx_int
    wp_walk using AutoSeq1.wpAny_loadPart' hl
    repeat (first
      | (refine wpAny_ite_false (decide_eq_false (by rw [c0]; exact Bool.false_ne_true)) ?_; wp_walk using AutoSeq1.wpAny_loadPart' hl)
      | (refine wpAny_ite_false (decide_eq_false (by rw [c1]; exact Bool.false_ne_true)) ?_; wp_walk using AutoSeq1.wpAny_loadPart' hl)
      | (refine wpAny_ite_true (decide_eq_true c2) ?_; wp_walk using AutoSeq1.wpAny_loadPart' hl))
    exact ⟨_, rfl, h⟩
end
end VL

set_option Elab.async false
set_option linter.all false
set_option maxRecDepth 100000
/-! V10: a tuple k times; sorted. -/
namespace VL
open PySem PySem.Spec PyProof.Rows L2

section
variable {c : Ct} {X : Cx} {Pr G H : Hp} {σ : L2.St} {ρ ρ' : List O} {pins : List (Addr × Obj)} {s : Shared}
theorem rpa_rep {xs : List V} {l : List D} (ra : RpA c G xs l) : ∀ n : Nat, RpA c G (List.replicate n xs).flatten (List.replicate n l).flatten
  | 0 => .nil
  | n + 1 => by
    rw [List.replicate_succ, List.replicate_succ, List.flatten_cons, List.flatten_cons]
    exact ra.append (rpa_rep ra n)
/-- a list k times: a new list -/
def sRepL : D → D → Option D
  | .list l, .int k => if k ≤ 1000 ∧ -1000 ≤ k ∧ l.length ≤ 1000 then some (.list (List.replicate k.toNat l).flatten) else none
  | _, _ => none
theorem int_rmul_listW (a : Int) (t : Tok) (l : Addr) (items : Array Value) (n : Nat) (dd : Option Addr) (sl : Array (Option Value)) :
    Meets (Builtin.«int.__rmul__» ⟨[.int a t, .ref l], []⟩) (fun _ R s => s.heap.get? l = some { cls := .type "list", dict := dd, data := .seq items n, slots := sl } ∧ R (.ok (.ret Value.notImplemented)) s) :=
  .of_wp fun prog w A R s h => by obtain ⟨hp, g, d, tk, os⟩ := s; obtain ⟨hl, h⟩ := h; wp_walk; exact ⟨_, rfl, h⟩
theorem list_mulW (l : Addr) (items : Array Value) (n : Nat) (dd : Option Addr) (sl : Array (Option Value)) (x : Int) (u : Tok) (hc0 : ¬(!Builtin.List.listFitsIndex x) = true) (hc1 : ¬items.size * x.toNat > (2 ^ 63 - 1) / 8) (hc2 : ¬Builtin.List.listTooLong (items.size * x.toNat) = true) :
    Meets (Builtin.«list.__mul__» ⟨[.ref l, .int x u], []⟩) (fun _ R s => s.heap.get? l = some { cls := .type "list", dict := dd, data := .seq items n, slots := sl } ∧ R (.ok (.ret (Value.ref s.heap.objs.size))) { s with heap := s.heap.push { cls := Value.type "list", data := Data.seq (List.foldl (fun x1 x2 => x1 ++ x2) #[] (List.replicate (if items.isEmpty = true then 0 else x.toNat) items)) }, toks := s.toks }) :=
  .of_wp fun prog w A R s h => by
    obtain ⟨hp, g, d, tk, os⟩ := s; obtain ⟨hl, h⟩ := h
    have hsz := AutoListH.joined_fits hc2
    wp_walk; refine wpAny_ite_false (decide_eq_false (Nat.not_lt.mpr hsz)) ?_; wp_walk; exact ⟨_, rfl, h⟩
theorem fp_repL (C : XC c X) : Fp2 c X (binaryOp .Mult) sRepL := by
  intro pins s σ H G x y v u d e r I g rx ry t1 t2 h
  unfold sRepL at h
  split at h
  · rename_i l k
    split at h
    · rename_i q
      cases h
      obtain ⟨a, xs, rfl, q1, ra⟩ := t1.seqL g
      rw [t2.int] at ry
      cases rx
      obtain ⟨tk, rfl⟩ := ry
      obtain ⟨its, rv, p1, hz⟩ := I.list (by rw [C.K]; exact q1)
      obtain ⟨⟨cls, dd, data, sl⟩, n, ho, hc, hd0, hd⟩ := p1
      simp only at hc hd
      subst hc hd
      have hl : xs.length = l.length := ra.length
      have hle : its.length = xs.length := rv.length.symm
      have hsz0 : its.toArray.size = xs.length := by rw [List.size_toArray, hle]
      have hk : k.toNat ≤ 1000 := by omega
      have hp : xs.length * k.toNat ≤ 1000 * 1000 := Nat.mul_le_mul (by omega) hk
      have big : LIM ≤ sizeLine := by decide
      have hlim : LIM = 1000000 := rfl
      have hlen : its.toArray.size * k.toNat ≤ sizeLine := by rw [hsz0]; omega
      have hcap : ¬ its.toArray.size * k.toNat > (2 ^ 63 - 1) / 8 := by
        have : (sizeLine : Nat) ≤ (2 ^ 63 - 1) / 8 := by decide
        omega
      have e63 : (2 : Int) ^ 63 = 9223372036854775808 := by decide
      have hfit : ¬ (!Builtin.List.listFitsIndex k) = true := by
        rw [fitsIndex_both (by omega) (by omega)]
        exact Bool.false_ne_true
      have hlong : ¬ Builtin.List.listTooLong (its.toArray.size * k.toNat) = true := by
        rw [notLongL hlen]
        exact Bool.false_ne_true
      have hnew : List.foldl (fun x1 x2 => x1 ++ x2) #[] (List.replicate (if its.toArray.isEmpty = true then 0 else k.toNat) its.toArray) = (List.replicate k.toNat its).flatten.toArray := by
        have f0 : ∀ m : Nat, List.foldl (fun x1 x2 => x1 ++ x2) #[] (List.replicate m its.toArray) = (List.replicate m its).flatten.toArray := fun m => by
          have := foldl_rep its m []
          rw [List.nil_append] at this
          exact this
        rw [f0]
        cases its with
        | nil => simp
        | cons a r' => rw [if_neg (by simp)]
      refine wpAny_binaryOp_repeat_ref (T := "list") (U := "int") (by decide) ⟨_, ho, rfl⟩ (fun s' => typeIs_int s' k tk) noFill_list_mul F.fills_int_mul F.slot_int_rmul repeat_list F.slot_int_index.lookup
        (call_meets F.slot_int_rmul (typeIs_int s k tk) F.entry_int_rmul (F.args_int_rmul_2 _ _) (int_rmul_listW k tk a its.toArray n dd sl)
          ⟨ho, rfl, ⟨_, ho, rfl⟩, call_meets F.slot_list_mul ⟨_, ho, rfl⟩ F.entry_list_mul (F.args_list_mul_2 _ _) (list_mulW a its.toArray n dd sl k tk hfit hcap hlong) ⟨ho, ?_⟩⟩)
      rw [hnew]
      exact laidL (h' := s.heap) (tk := s.toks) I g (rv.rep k.toNat) (by rw [PyProof.Rows.lm_len_rep_flat, Nat.mul_comm]; omega) (rpa_rep ra k.toNat)
    · cases h
  · cases h
theorem op_repV : Op2 c X (binaryOp .Mult) sRep := by
  intro pins s σ H G x y v u d e r I g rx ry t1 t2 h
  unfold sRep at h
  split at h
  · rename_i l k
    split at h
    · rename_i q
      cases h
      obtain ⟨a, xs, o, rfl, f, n, sq, ra⟩ := t1.seqT g
      rw [t2.int] at ry
      cases rx
      obtain ⟨tk, rfl⟩ := ry
      obtain ⟨its, rv, ⟨⟨cls, dd, data, sl⟩, ho, hc, m, hd⟩, hz⟩ := I.tupAt g f
      simp only at hc hd
      subst hc hd
      have hl : xs.length = l.length := ra.length
      have hle : its.length = xs.length := rv.length.symm
      have hsz0 : its.toArray.size = xs.length := by rw [List.size_toArray, hle]
      have c0 : (decide (k < -(2 ^ 63)) || decide (k ≥ 2 ^ 63)) = false := by
        have e63 : (2 : Int) ^ 63 = 9223372036854775808 := by decide
        rw [decide_eq_false (by omega), decide_eq_false (by omega)] <;> rfl
      refine wpAny_binaryOp_repeat_ref (T := "tuple") (U := "int") (by decide) ⟨_, ho, rfl⟩ (fun s' => typeIs_int s' k tk) noFill_tuple_mul F.fills_int_mul F.slot_int_rmul repeat_tuple F.slot_int_index.lookup
        (call_meets F.slot_int_rmul (typeIs_int s k tk) F.entry_int_rmul (F.args_int_rmul_2 _ _) (int_rmul_tuple k tk a its.toArray m dd sl)
          ⟨ho, rfl, ⟨_, ho, rfl⟩, ?_⟩)
      cases e1 : (its.toArray.isEmpty || k == 1) with
      | true =>
        refine call_meets F.slot_tuple_mul ⟨_, ho, rfl⟩ F.entry_tuple_mul (F.args_tuple_mul_2 _ _) (tuple_mul_same a its.toArray m dd sl k tk c0 e1) ⟨ho, .ref a, H, I, rfl, gr_same g ?_⟩
        have el : (List.replicate k.toNat l).flatten = l := by
          rcases Bool.or_eq_true_iff.mp e1 with h | h
          · have e2 : its = [] := by simpa using h
            subst e2
            cases rv
            cases ra
            simp
          · have e2 : k = 1 := by simpa using h
            subst e2
            show (List.replicate 1 l).flatten = l
            simp
        rw [el]
        exact .tup f n ra
      | false =>
        by_cases hk : k ≤ 0
        · have c2 : (decide (k ≤ 0) || its.toArray.isEmpty) = true := by rw [decide_eq_true hk]; rfl
          refine call_meets F.slot_tuple_mul ⟨_, ho, rfl⟩ F.entry_tuple_mul (F.args_tuple_mul_2 _ _) (tuple_mul_none a its.toArray m dd sl k tk c0 e1 c2) ⟨ho, ?_⟩
          have e0 : k.toNat = 0 := by omega
          rw [e0]
          exact laidT (h' := s.heap) (tk := s.toks) (vs := []) (us := []) I g .nil (Nat.zero_le _) .nil
        · obtain ⟨e2, e3⟩ := Bool.or_eq_false_iff.mp e1
          have c2 : (decide (k ≤ 0) || its.toArray.isEmpty) = false := by rw [e2, decide_eq_false hk]; rfl
          have hm : ((its.toArray.size : Nat) : Int) * k ≤ 1000000 := by
            rw [hsz0]
            have a1 : ((xs.length : Nat) : Int) * k ≤ 1000 * k := Int.mul_le_mul_of_nonneg_right (by omega) (by omega)
            omega
          have c4 : Builtin.Tuple.tupleTooMany (((its.toArray.size : Nat) : Int) * k) = false := by
            unfold Builtin.Tuple.tupleTooMany
            rw [sizeLine_eq]
            exact decide_eq_false (by omega)
          have flen : (List.replicate k.toNat its).flatten.length ≤ sizeLine := by
            rw [PyProof.Rows.lm_len_rep_flat, hle, sizeLine_eq]
            have a1 : k.toNat * xs.length ≤ 1000 * 1000 := Nat.mul_le_mul (by omega) (by omega)
            omega
          have flen2 : (List.replicate k.toNat xs).flatten.length ≤ sizeLine := by
            rw [PyProof.Rows.lm_len_rep_flat, sizeLine_eq]
            have a1 : k.toNat * xs.length ≤ 1000 * 1000 := Nat.mul_le_mul (by omega) (by omega)
            omega
          refine call_meets F.slot_tuple_mul ⟨_, ho, rfl⟩ F.entry_tuple_mul (F.args_tuple_mul_2 _ _) (tuple_mulW a its.toArray m dd sl k tk c0 e1 c2 (by omega) c4 (by rw [size_rep, List.size_toArray]; exact flen)) ⟨ho, ?_⟩
          rw [size_rep]
          exact laidT (h' := s.heap) (tk := s.toks) I g (rv.rep k.toNat) flen2 (rpa_rep ra _)
    · cases h
  · cases h

/-! ### sorted -/
open PySem.W PySem.SeqAt
theorem oneLt_tups {P : Program} {w : World} {A : Around} {E : Value → Shared → Prop} {s : Shared} {xs ys : List PyData} {a b : Value} {as bs : List Addr} {Q : Bool → Shared → Prop} (ra : Reads s.heap a (.tuple xs) as) (rb : Reads s.heap b (.tuple ys) bs) (hal : alikeAll xs ys = true)
    (hu : A.units + min (PyData.tuple xs).depth (PyData.tuple ys).depth < cLine) (hq : Q (dataLt (.tuple xs) (.tuple ys)) s) : wpAny (model P w) A (oneLt' true a b) Q E s := by
  cases ra with
  | @tuple l o vs n _ as₁ h1 h2 h3 h4 =>
    cases rb with
    | @tuple l' o' vs' n' _ bs₁ k1 k2 k3 k4 =>
      have n1 : vs.size = xs.length := by simpa using ReadsAll.length _ _ _ h4
      have n2 : vs'.size = ys.length := by simpa using ReadsAll.length _ _ _ k4
      rw [dataLt_tuple, ← firstLt_toks xs ys hal, ← n1, ← n2] at hq
      rw [oneLt'_eq]
      simp only [if_true]
      refine wpAny_bind (wpAny_cRoomFor (room_here hu) ?_)
      obtain ⟨cls, dd, data, sl⟩ := o
      obtain ⟨cls2, dd2, data2, sl2⟩ := o'
      simp only at h2 h3 k2 k3
      subst h2 h3 k2 k3
      refine wpAny_bind (wpAny_callSpecialIfBound?_slot (T := "tuple") ⟨_, h1, rfl⟩ F.slot_tuple_lt (call_meets F.slot_tuple_lt ⟨_, h1, rfl⟩ F.entry_tuple_lt (F.args_tuple_lt_2 _ _) (tuple_ltAt l l' vs vs' n n' dd dd2 sl sl2 (pairEq xs ys) (fun j => dataLt (xs.getD j .none) (ys.getD j .none))) ⟨h1, k1, fun j j1 j2 => ?_, fun j j1 j2 hj => ?_, ?_⟩))
      · have := eqAt_alikeAll xs ys A.in1 s vs.toList vs'.toList _ _ h4 k4 hal (room_in hu) j (by simpa using j1) (by simpa using j2)
        simpa using this
      · have := rcLt_alikeAll xs ys A.in1 s vs.toList vs'.toList _ _ h4 k4 hal (room_in hu) j (by simpa using j1) (by simpa using j2) hj
        simpa using this
      · exact wpAny_truthy_bool hq
/-- the first items of tuples -/
theorem firsts_tups {M : Model} {A : Around} {E : Value → Shared → Prop} {s : Shared} : ∀ (vs : List Value) (ds : List D) {Q : List (Option Value) → Shared → Prop}, EachIs (fun v d => ∃ as, Reads s.heap v d as) vs ds → (∀ d ∈ ds, kd d = 5) →
    (∀ fs : List (Option Value), fs.length = ds.length → (∀ (i : Nat) (d : D), ds[i]? = some d → ∃ f : Option Value, fs[i]? = some f ∧ (f.isSome = true ↔ d ≠ .tuple [])) → Q fs s) → wpAny M A (vs.mapM firstOfTuple') Q E s
  | _, _, Q, .nil, _, h => by rw [List.mapM_nil]; exact wpAny_pure (h [] rfl fun i d e => by simp at e)
  | _, _, Q, .cons (b := d) (as := vs) (bs := ds) ⟨as, r⟩ t, hk, h => by
    have hd := hk d List.mem_cons_self
    rw [List.mapM_cons]
    refine wpAny_bind ?_
    cases d with
    | tuple xs =>
      cases r with
      | @tuple a o vs1 n _ as₁ h1 h2 h3 h4 =>
        rw [kas_first_eq]
        refine wpAny_bind (Looks.here (show Looks M s.heap (typeOf (.ref a)) o.cls from (Looks.ld h1).andThen .now) ?_)
        rw [h2, if_neg (by first | decide | simp)]
        refine wpAny_bind (listItems_at h1 h3 (wpAny_pure ?_))
        refine wpAny_bind (firsts_tups vs ds t (fun d hd => hk d (List.mem_cons_of_mem _ hd)) fun fs hl hf => wpAny_pure (h _ (by simp [hl]) fun i d e => ?_))
        cases i with
        | zero =>
          have e : PyData.tuple xs = d := by simpa using e
          subst e
          refine ⟨_, rfl, ?_⟩
          have hlen : vs1.size = xs.length := by simpa using ReadsAll.length _ _ _ h4
          cases xs with
          | nil =>
            have : vs1[0]? = none := by simp; simpa using hlen
            simp [this]
          | cons x xs =>
            have hp : 0 < vs1.size := by rw [hlen]; simp
            simp [hp]
        | succ i => simpa using hf i d (by simpa using e)
    | _ => simp [kd] at hd
/-- tuples, some of them empty, can be sorted -/
theorem sortsAt_tups {P : Program} {w : World} {A : Around} {s : Shared} {vs : List Value} {ds : List D} (e : EachIs (fun v d => ∃ as, Reads s.heap v d as) vs ds) (hal : AllAlike ds) (hk : ∀ d ∈ ds, kd d = 5) (hu : ∀ d, d ∈ ds → A.units + d.depth < cLine) : SortsAt P w A s (dataKind s.heap ds) vs := by
  by_cases hne : ∀ d ∈ ds, d ≠ .tuple []
  · refine SortsAt.data e hal (.inl fun d hd => ?_) hu
    have h1 := hk d hd
    cases d with
    | tuple xs =>
      cases xs with
      | nil => exact absurd rfl (hne _ hd)
      | cons x r => exact ⟨x, r, rfl⟩
    | _ => simp [kd] at h1
  have room : ∀ {d d' : PyData}, d ∈ ds → A.units + min d.depth d'.depth < cLine := fun {d d'} hd => Nat.lt_of_le_of_lt (Nat.add_le_add_left (Nat.min_le_left _ _) _) (hu d hd)
  have keys : ∀ v, v ∈ vs → ∃ a, (dataKind s.heap ds).keyOf v = some a := fun v hv => by
    obtain ⟨d, hd, as, r⟩ := e.left v hv
    exact ⟨_, dataKind_some hal hd r⟩
  have lt1 : H.LtAt P w A s (dataKind s.heap ds) oneType' := by
    intro E x y a b Q ha hb hq
    obtain ⟨d, as, hd, ra, rfl⟩ := dataKind_inv ha
    obtain ⟨d', as', hd', rb, rfl⟩ := dataKind_inv hb
    rw [keyLt'_oneType]
    have k1 := hk d hd
    have k2 := hk d' hd'
    have hdd := hal d hd d' hd'
    have hroom := room (d' := d') hd
    cases d with
    | tuple xs =>
      cases d' with
      | tuple ys => exact oneLt_tups ra rb (by simpa [alike] using hdd) hroom hq
      | _ => simp [kd] at k2
    | _ => simp [kd] at k1
  have lt2 : H.LtAt P w A s (dataKind s.heap ds) general' := by
    intro E x y a b Q ha hb hq
    obtain ⟨d, as, hd, ra, rfl⟩ := dataKind_inv ha
    obtain ⟨d', as', hd', rb, rfl⟩ := dataKind_inv hb
    show wpAny (model P w) A (oneLt' false x y) Q E s
    exact oneLt_alike (fun h => absurd h Bool.false_ne_true) ra rb (hal d hd d' hd') (fun e => by have := hk d hd; rw [e] at this; simp [kd] at this) (room hd) hq
  refine ⟨keys, ?_⟩
  have hlen : vs.length = ds.length := e.length
  -- the kind: by the first one
  by_cases h0 : ds[0]? = some (.tuple [])
  · refine ⟨oneType', lt1, fun h2 E Q hq => ?_⟩
    rw [kat_kind_eq, List.mapM_toArray, map_eq_pure_bind]
    refine wpAny_bind (wpAny_bind (firsts_tups vs ds e hk fun fs hl hf => wpAny_pure ?_))
    obtain ⟨f0, e0, i0⟩ := hf 0 _ h0
    have hn : ¬ (fs.toArray.all fun x => x.isSome) = true := by
      intro hh
      have := List.all_eq_true.mp (by simpa using hh) f0 (List.mem_of_getElem? e0)
      exact (i0.mp this) rfl
    rw [if_neg hn]
    have hb : ¬ (fs.toArray[0]?.bind id).isSome = true := by
      have : fs.toArray[0]? = some f0 := by simpa using e0
      rw [this]
      intro hh
      exact (i0.mp (by simpa using hh)) rfl
    rw [if_neg hb]
    rw [oneTypeOnly'_eq, List.mapM_toArray, map_eq_pure_bind]
    refine wpAny_bind (wpAny_bind (wpAny_bind (kas_mapM (r := Value.type "tuple") _ (fun v hv Q' hq => ?_) (wpAny_pure ?_))))
    · obtain ⟨d, hd, as, r⟩ := e.left v hv
      have hT : Looks (model P w) s.heap (typeOf v) (dataType d) := looks_reads r
      have k1 := hk d hd
      cases d with
      | tuple xs => exact hT.here hq
      | _ => simp [kd] at k1
    · have hall2 : ((List.map (fun _ => Value.type "tuple") vs).toArray.all fun x => x == Value.type "tuple") = true := by
        simp only [List.all_toArray, List.all_map, List.all_eq_true]
        intro _ _
        rfl
      have h00 : (List.map (fun _ => Value.type "tuple") vs).toArray[0]? = some (Value.type "tuple") := by
        have : 0 < vs.length := by omega
        simp [this]
      rw [h00]
      simp only [hall2, if_true]
      exact wpAny_pure (wpAny_pure hq)
  · refine ⟨general', lt2, fun h2 E Q hq => ?_⟩
    rw [kat_kind_eq, List.mapM_toArray, map_eq_pure_bind]
    refine wpAny_bind (wpAny_bind (firsts_tups vs ds e hk fun fs hl hf => wpAny_pure ?_))
    have hn : ¬ (fs.toArray.all fun x => x.isSome) = true := by
      intro hh
      apply hne
      intro d hd hd0
      obtain ⟨i, hi⟩ := List.getElem?_of_mem hd
      obtain ⟨f, e1, e2⟩ := hf i d hi
      have := List.all_eq_true.mp (by simpa using hh) f (List.mem_of_getElem? e1)
      exact (e2.mp this) hd0
    rw [if_neg hn]
    have hds : 0 < ds.length := by omega
    obtain ⟨f0, e0, i0⟩ := hf 0 ds[0] (by simp [hds])
    have hb : (fs.toArray[0]?.bind id).isSome = true := by
      have : fs.toArray[0]? = some f0 := by simpa using e0
      rw [this]
      have hi := i0.mpr (fun hh => h0 (by rw [← hh]; simp [hds]))
      simpa using hi
    rw [if_pos hb]
    exact wpAny_pure hq
end
end VL

set_option Elab.async false
set_option linter.all false
set_option maxRecDepth 100000
/-! V11: sorted(x) of a list, a tuple, a dict. -/
namespace VL
open PySem PySem.Spec PyProof.Rows L2 PySem.W PySem.SeqAt

section
variable {c : Ct} {X : Cx} {Pr G H : Hp} {σ : L2.St} {ρ ρ' : List O} {pins : List (Addr × Obj)} {s : Shared}
theorem alike_of {l : List D} (h : sortable l = true) : AllAlike l ∧ ((∀ d ∈ l, kd d = 5) ∨ ∀ d ∈ l, kd d ≠ 5 ∧ kd d ≠ 0) ∧ l.length ≤ LIM ∧ ∀ d ∈ l, d.depth ≤ lvl := by
  unfold sortable at h
  simp only [Bool.and_eq_true, Bool.or_eq_true, List.all_eq_true, decide_eq_true_eq, beq_iff_eq, bne_iff_ne] at h
  exact ⟨fun d h1 d' h2 => h.1.1.1 d h1 d' h2, h.1.1.2, h.1.2, h.2⟩
theorem sortsAt_of {P : Program} {w : World} {A : Around} {s : Shared} {vs : List Value} {ds : List D} (e : EachIs (fun v d => ∃ as, Reads s.heap v d as) vs ds) (hal : AllAlike ds) (hk : (∀ d ∈ ds, kd d = 5) ∨ ∀ d ∈ ds, kd d ≠ 5 ∧ kd d ≠ 0) (hu : ∀ d, d ∈ ds → A.units + d.depth < cLine) : SortsAt P w A s (dataKind s.heap ds) vs := by
  rcases hk with hk | hk
  · exact sortsAt_tups e hal hk hu
  · refine SortsAt.data e hal (.inr fun d hd => ?_) hu
    obtain ⟨h1, h2⟩ := hk d hd
    refine ⟨fun e => h2 (by rw [e]; rfl), fun xs e => h1 (by rw [e]; rfl)⟩
/-- sorted(x), whatever is walked -/
theorem sorted_shell {P : Program} {w : World} {A : Around} {E : Value → Shared → Prop} {s : Shared} {r : Value} {ds : List D} {C : (Value → D → Prop) → Heap → Prop} {Q : Value → Shared → Prop}
    (hcol : ∀ E' : Value → Shared → Prop, wpAny (model P w) A.in1 (collect r) (fun vs s1 => ∃ (h' : Heap) (tk : Nat) (R : Value → D → Prop), s1 = { s with heap := h', toks := tk } ∧ (∀ b o, s.heap.get? b = some o → h'.get? b = some o) ∧ EachIs R vs ds ∧ EachIs (fun v d => ∃ as, Reads h' v d as) vs ds ∧ C R h') E' s)
    (hal : AllAlike ds) (hk : (∀ d ∈ ds, kd d = 5) ∨ ∀ d ∈ ds, kd d ≠ 5 ∧ kd d ≠ 0) (hL : ds.length ≤ sizeLine) (hu : ∀ d, d ∈ ds → A.units + 2 + d.depth < cLine)
    (h : ∀ (h1 h' : Heap) (tk : Nat) (p : Addr) (out : List Value) (n : Nat) (R : Value → D → Prop), C R h1 → (∀ b o, s.heap.get? b = some o → h1.get? b = some o) → (∀ b o, h1.get? b = some o → h'.get? b = some o) → h1.objs.size ≤ p → h'.get? p = some { cls := .type "list", data := .seq out.toArray n } → out.length = ds.length → EachIs R out (ds.mergeSort (dataLe false id)) → Q (.ref p) { s with heap := h', toks := tk }) :
    wpAny (model P w) A (call (.builtin "sorted") [r]) Q E s := by
  refine call_function_entry_kw kind_sorted plain_sorted entry_sorted (args_sorted1 _) ?_
  unfold Builtin.«sorted»
  refine wpAny_bind (m := checkCount "sorted" 1 1 _) (wpAny_pure ?_)
  refine wpAny_bind (wpAny_mono (hcol _) (fun vs s1 ⟨h1, tk, R, e1, k1, eR, er, hC⟩ => ?_) fun _ _ x => x)
  subst e1
  have hlen : vs.length = ds.length := eR.length
  refine wpAny_bind (wpAny_newList ?_ (by rw [hlen]; exact hL))
  have ho : (h1.push (seqObj "list" vs.toArray 0)).get? h1.objs.size = some (seqObj "list" vs.toArray 0) := Heap.get?_push_size _ rfl
  have kp : ∀ b o, h1.get? b = some o → (h1.push (seqObj "list" vs.toArray 0)).get? b = some o := fun b o e => Heap.get?_push_of_some _ e
  have ks : ∀ b o, h1.get? b = some o → (sortingHeap (h1.push (seqObj "list" vs.toArray 0)) h1.objs.size vs).get? b = some o := fun b o e => sortingHeap_old (Nat.ne_of_lt (Heap.lt_size e)) (kp b o e)
  have er' : EachIs (fun v d => ∃ as, Reads (sortingHeap (h1.push (seqObj "list" vs.toArray 0)) h1.objs.size vs) v d as) vs ds := er.mono fun _ _ ⟨as, r⟩ => ⟨as, PyProof.Rows.Reads.keeps ks r⟩
  refine wpAny_bind (wpAny_holding (wpAny_call_entry_kw slot_list_sort ⟨_, ho, rfl⟩ entry_list_sort ?body (args_list_sort _)))
  case body =>
    show wpAny (model P w) A.in1.in1 (Builtin.«list.sort» ⟨[.ref h1.objs.size], []⟩) _ _ { s with heap := h1.push (seqObj "list" vs.toArray 0), toks := tk }
    refine list_sort_vals (s := { s with heap := h1.push (seqObj "list" vs.toArray 0), toks := tk }) (κ := dataKind (sortingHeap (h1.push (seqObj "list" vs.toArray 0)) h1.objs.size vs) ds) ho (sortsAt_of (s := { s with heap := sortingHeap (h1.push (seqObj "list" vs.toArray 0)) h1.objs.size vs, toks := tk }) er' hal hk hu) (by rw [hlen]; exact hL) ?_
    refine ⟨.none, rfl, wpAny_pure ⟨_, rfl, ?_⟩⟩
    obtain ⟨n, hn⟩ := PyProof.Rows.sortedHeap_at (vs := vs) (out := (sortVals (dataKind (sortingHeap (h1.push (seqObj "list" vs.toArray 0)) h1.objs.size vs) ds) false vs vs).toArray) ho
    have eid : ds.map id = ds := List.map_id ds
    refine h h1 _ tk h1.objs.size _ n R hC k1 (fun b o e => ?_) (Nat.le_refl _) hn (by rw [sortVals_length false rfl]; exact hlen) ?_
    · exact (PyProof.Rows.sortedHeap_old (Nat.ne_of_lt (Heap.lt_size e)) (Heap.lt_size (kp b o e))).trans (kp b o e)
    · have q := sortVals_data (h' := sortingHeap (h1.push (seqObj "list" vs.toArray 0)) h1.objs.size vs) (enc := (id : D → D)) (rev := false) eR er' (by rw [eid]; exact hal)
      rw [eid] at q
      exact q
theorem each_rp {vs : List Value} {ds : List D} (h : EachIs (fun v d => ∃ x, RelV x v ∧ Rp c G x d) vs ds) : ∃ xs, Vals xs vs ∧ RpA c G xs ds := by
  induction h with
  | nil => exact ⟨[], .nil, .nil⟩
  | cons h t ih =>
    obtain ⟨x, r, q⟩ := h
    obtain ⟨xs, rs, qs⟩ := ih
    exact ⟨x :: xs, .cons r rs, .cons q qs⟩
theorem rp_each {ds : List D} : ∀ {xs : List V} {vs : List Value}, Vals xs vs → RpA c G xs ds → EachIs (fun v d => ∃ x, RelV x v ∧ Rp c G x d) vs ds := by
  induction ds with
  | nil => intro xs vs r q; cases q; cases r; exact .nil
  | cons d ds ih =>
    intro xs vs r q
    cases q with
    | cons q1 q2 =>
      cases r with
      | cons r1 r2 => exact .cons ⟨_, r1, q1⟩ (ih r2 q2)
mutual
theorem alike_plain : ∀ x : D, alike x x = true → x.plain = true
  | .none, _ => rfl
  | .bool _, _ => rfl
  | .int _, _ => rfl
  | .str _, _ => rfl
  | .list xs, h => by
    rw [PyData.plain]
    exact alike_plainAll xs (by simpa [alike] using h)
  | .tuple xs, h => by
    rw [PyData.plain]
    exact alike_plainAll xs (by simpa [alike] using h)
  | .dict _, h => by simp [alike] at h
theorem alike_plainAll : ∀ xs : List D, alikeAll xs xs = true → PyData.plainAll xs = true
  | [], _ => rfl
  | x :: xs, h => by
    rw [alikeAll, Bool.and_eq_true] at h
    rw [PyData.plainAll, alike_plain x h.1, alike_plainAll xs h.2]
    rfl
end
theorem allAlike_plain {l : List D} (h : AllAlike l) : PyData.plainAll l = true := by
  induction l with
  | nil => rfl
  | cons x l ih =>
    rw [PyData.plainAll, alike_plain x (h x List.mem_cons_self x List.mem_cons_self), ih fun d hd d' hd' => h d (List.mem_cons_of_mem _ hd) d' (List.mem_cons_of_mem _ hd')]
    rfl
/-- what a dict lies as -/
theorem rpt_dict {v : V} {l : List (D × D)} (t : RpT c G H v (.dict l)) (g : Ge G H) : ∃ a ep hs xs ys, v = .ref a ∧ H a = some (dO a ep hs xs ys) ∧ hs = l.map (fun p => hashK c.w p.1) ∧ keysNd l ∧ RpA c G xs (l.map (·.1)) ∧ RpA c G ys (l.map (·.2)) := by
  cases t with
  | of t => cases t with
    | dic h1 h2 h3 h4 h5 => exact ⟨_, _, _, _, _, rfl, g _ _ h1, h2, h3, h4, h5⟩
  | dic h1 h2 h3 h4 h5 => exact ⟨_, _, _, _, _, rfl, h1, h2, h3, h4, h5⟩
theorem Ent.keys : ∀ {es : List DictEntry} {hs : List Int} {xs ys : List V}, Ent es hs xs ys → Vals xs (es.map (·.key)) ∧ Vals ys (es.map (·.val)) ∧ hs = es.map (·.hash)
  | _, _, _, _, .nil => ⟨.nil, .nil, rfl⟩
  | _, _, _, _, .cons h r1 r2 t => by
    obtain ⟨h1, h2, h3⟩ := t.keys
    exact ⟨.cons r1 h1, .cons r2 h2, by rw [List.map_cons, h, h3]⟩
theorem fp_sortedV (C : XC c X) : Fp1 c X (fun v => call (.builtin "sorted") [v]) sSorted := by
  intro pins s σ H G x v d r I g rx t e
  unfold sSorted at e
  have hu := C.hu
  -- the items as they are collected
  have fin : ∀ {l : List D} {xs : List V} {its : List Value}, Vals xs its → RpA c G xs l → sortable l = true → r = .list (isort l) →
      (∀ (E' : Value → Shared → Prop) (R : List Value → Shared → Prop), (∀ (h' : Heap) (tk : Nat), (∀ b o, s.heap.get? b = some o → h'.get? b = some o) → R its { s with heap := h', toks := tk }) → wpAny (model X.prog X.w) X.A.in1 (collect v) R E' s) →
      wpAny (model X.prog X.w) X.A (call (.builtin "sorted") [v]) (EP X pins σ (FL c G H r)) X.xe s := fun {l xs its} rv ra hs er hc => by
    obtain ⟨a1, a2, a3, a4⟩ := alike_of hs
    have big : LIM ≤ sizeLine := by decide
    refine sorted_shell (ds := l) (C := fun R _ => R = fun v d => ∃ x, RelV x v ∧ Rp c G x d) (fun E' => hc E' _ fun h' tk k => ?_) a1 a2 (by omega) (fun d hd => by have h9 : d.depth ≤ 60 := a4 d hd; omega) (fun h1 h' tk p out n R hR k1 k2 hp ho hl eo => ?_)
    · refine ⟨h', tk, _, rfl, k, rp_each rv ra, ?_, rfl⟩
      have I' := I.kept (t' := tk) k
      obtain ⟨as, hr⟩ := Dp.readsAll I' _ xs its (by rw [C.K]; exact ra.dp g (allAlike_plain a1)) rv
      refine readsAll_each (id : D → D) (as := as) ?_
      rw [List.map_id]
      exact hr
    · subst hR
      rw [← isort_eq] at eo
      obtain ⟨ys, rys, qs⟩ := each_rp eo
      have hsz : ys.length ≤ sizeLine := by
        rw [qs.length, (isort_perm l).length_eq]
        omega
      have I1 := I.kept (t' := s.toks) k1
      have n0 : H p = none := I1.hok.fresh hp
      exact ⟨.ref p, upd H p (.lst ys), I1.laid (o := .lst ys) (t' := tk) k2 hp ⟨hsz, out, n, rys, ho⟩, rfl, G, H, p, ys, _, Gr.refl g, rfl, n0, rfl, er, qs⟩
  cases d with
  | list l =>
    have e : (if sortable l = true then some (PyData.list (isort l)) else none) = some r := e
    by_cases hs : sortable l = true
    · rw [if_pos hs] at e
      cases e
      obtain ⟨a, xs, rfl, q, ra⟩ := t.seqL g
      obtain ⟨its, rv, pl, hz⟩ := I.list (by rw [C.K]; exact q)
      cases rx
      obtain ⟨o, ho, hc, n, hd⟩ := pl.isList
      exact fin rv ra hs rfl fun E' R k => wpAny_collect_seq a (.inl rfl) ho hc hd (fun h' kh => k h' s.toks kh) (by rw [List.size_toArray, ← rv.length]; exact hz)
    · rw [if_neg hs] at e
      cases e
  | tuple l =>
    have e : (if sortable l = true then some (PyData.list (isort l)) else none) = some r := e
    by_cases hs : sortable l = true
    · rw [if_pos hs] at e
      cases e
      obtain ⟨a, xs, o, rfl, f, n, q, ra⟩ := t.seqT g
      obtain ⟨its, rv, ⟨o, ho, hc, n, hd⟩, hz⟩ := I.tupAt g f
      cases rx
      exact fin rv ra hs rfl fun E' R k => wpAny_collect_seq a (.inr rfl) ho hc hd (fun h' kh => k h' s.toks kh) (by rw [List.size_toArray, ← rv.length]; exact hz)
    · rw [if_neg hs] at e
      cases e
  | dict l =>
    have e : (if sortable (l.map (·.1)) = true then some (PyData.list (isort (l.map (·.1)))) else none) = some r := e
    by_cases hs : sortable (l.map (·.1)) = true
    · rw [if_pos hs] at e
      cases e
      obtain ⟨a, ep, hs', xs, ys, rfl, hH, h2, h3, h4, h5⟩ := rpt_dict t g
      obtain ⟨⟨lo, hz, es, hraw, he⟩, _⟩ := I.hok _ _ hH
      obtain ⟨v1, v2, v3⟩ := he.keys
      cases rx
      refine fin v1 h4 hs rfl fun E' R k => ?_
      have hn : es.size ≤ sizeLine := by
        rw [v3] at hz
        simpa using hz
      refine kdu_collect (KdlSrc.rawDict lo (es := es) (ep := ep)) (I.ok.hd C.calm) hraw hn fun h' tk acc kh hacc => ?_
      have e2 : acc.toList = es.toList.map (·.key) := by
        refine List.ext_getElem? fun i => ?_
        by_cases hi : i < acc.size
        · obtain ⟨hi2, e3⟩ := hacc.2 i acc[i] (by simp [hi])
          have e4 : i < es.toList.length := by simpa using hi2
          rw [Array.getElem?_toList, List.getElem?_map, Array.getElem?_toList]
          simp [hi, hi2, e3]
        · have e4 : ¬ i < es.size := by rw [← hacc.1]; exact hi
          rw [Array.getElem?_toList, List.getElem?_map, Array.getElem?_toList]
          simp [hi, e4]
      rw [e2]
      exact k h' tk kh
    · rw [if_neg hs] at e
      cases e
  | _ => cases e
end
end VL

set_option Elab.async false
set_option linter.all false
set_option maxRecDepth 100000
/-! V12: one operation for all kinds of values; short forms for printed derivations. -/
namespace VL
open PySem PySem.Spec PyProof.Rows L2

/-- the first that answers -/
def or2 (f g : D → D → Option D) : D → D → Option D := fun x y => match f x y with
  | some r => some r
  | none => g x y
def or1 (f g : D → Option D) : D → Option D := fun x => match f x with
  | some r => some r
  | none => g x
def sAddA : D → D → Option D := or2 sAdd sCat
def sMulA : D → D → Option D := or2 sMul (or2 sRep sRepL)
def sCutA (x a b : D) : Option D := match sCutT x a b with
  | some r => some r
  | none => sCutL x a b
def mCountA (d : D) (ds : List D) : Option D := match mCountT d ds with
  | some r => some r
  | none => mCountL d ds

section
variable {c : Ct} {X : Cx} {Pr G H : Hp} {σ : L2.St} {ρ ρ' : List O} {pins : List (Addr × Obj)} {s : Shared}
theorem FL.nw {r : D} {z : V} {H' : Hp} (h : FL c G H r z H') : NW c G H r z H' := by
  obtain ⟨G1, H1, p, xs, l, g, rfl, n, rfl, rfl, ra⟩ := h
  have n2 : G1 p = none := by
    cases e : G1 p with
    | none => rfl
    | some u => rw [g.gh p u e] at n; cases n
  exact ⟨upd G1 p (.lst xs), g.trans (Gr.laid g.gh n), .lst (.inl (.inl upd_same)) (ra.mono (Ge.upd n2))⟩
theorem Fp2.op {g : Value → Value → Sem Value} {f : D → D → Option D} (h : Fp2 c X g f) : Op2 c X g f := fun pins s σ H G x y v u d e r I hg rx ry t1 t2 q =>
  thn (h pins s σ H G x y v u d e r I hg rx ry t1 t2 q) fun z s' ⟨w', H', I', r', fl⟩ => ⟨w', H', I', r', fl.nw⟩
theorem Fp1.op {g : Value → Sem Value} {f : D → Option D} (h : Fp1 c X g f) : Op1 c X g f := fun pins s σ H G x v d r I hg rx t q =>
  thn (h pins s σ H G x v d r I hg rx t q) fun z s' ⟨w', H', I', r', fl⟩ => ⟨w', H', I', r', fl.nw⟩
theorem Op2.or {g : Value → Value → Sem Value} {f1 f2 : D → D → Option D} (h1 : Op2 c X g f1) (h2 : Op2 c X g f2) : Op2 c X g (or2 f1 f2) := fun pins s σ H G x y v u d e r I hg rx ry t1 t2 q => by
  unfold or2 at q
  split at q
  · rename_i z e1
    cases q
    exact h1 pins s σ H G x y v u d e _ I hg rx ry t1 t2 e1
  · exact h2 pins s σ H G x y v u d e r I hg rx ry t1 t2 q
theorem Op1.or {g : Value → Sem Value} {f1 f2 : D → Option D} (h1 : Op1 c X g f1) (h2 : Op1 c X g f2) : Op1 c X g (or1 f1 f2) := fun pins s σ H G x v d r I hg rx t q => by
  unfold or1 at q
  split at q
  · rename_i z e1
    cases q
    exact h1 pins s σ H G x v d _ I hg rx t e1
  · exact h2 pins s σ H G x v d r I hg rx t q
theorem op_addA (C : XC c X) : Op2 c X (binaryOp .Add) sAddA := op_addV.or (fp_cat C).op
theorem op_mulA2 (C : XC c X) : Op2 c X (binaryOp .Mult) sMulA := op_mulV.or (op_repV.or (fp_repL C).op)
theorem ce_cutA {a : Expr} {lo hi : Option Expr} {pos p2 : Pos} {p : Pk} {fl fh : Ev} (C : XC c X) (ha : CK c X a p) (hl : CP c X lo fl) (hh : CP c X hi fh) : CE c X (.Subscript a (.Slice lo hi none p2) pos) (o3 sCutA p (kE fl) (kE fh)) := by
  intro pins s σ H Pr G ρ ρ' d I E h
  obtain ⟨t, u, v, ρ1, ρ2, x, y, w, h1, h2, h3, hx, hy, hw, hd⟩ := o3_some h
  have hd : sCutA x y w = some d := hd
  cases e1 : sCutT x y w with
  | some r =>
    refine ce_cutT ha hl hh pins s σ H Pr G ρ ρ' d I E ?_
    have e2 : r = d := by
      unfold sCutA at hd
      rw [e1] at hd
      exact Option.some.inj hd
    subst e2
    unfold o3
    simp only [h1, h2, h3, hx, hy, hw, e1]
  | none =>
    refine (cf_cutL C ha hl hh).ce pins s σ H Pr G ρ ρ' d I E ?_
    unfold sCutA at hd
    rw [e1] at hd
    unfold o3
    simp only [h1, h2, h3, hx, hy, hw, hd]
theorem ce_countA {o e : Expr} {apos cpos : Pos} {p : Pk} {f : Ev} (C : XC c X) (ho : CK c X o p) (he : CE c X e f)
    (hbase : attributeBase o "count" X.env (eval o X.env) = eval o X.env := by rfl) (hline : (apos.endLine == cpos.line) = true := by rfl) (hs : starEach [e] X.env = [(false, eval e X.env)] := by rfl) :
    CE c X (.Call (.Attribute o "count" apos) [e] [] cpos) (eM mCountA p (esCons f esNil)) := by
  intro pins s σ H Pr G ρ ρ' d I E h
  obtain ⟨t, ρ1, d0, ds, d1, h1, h2, h3, h4, h5, h6⟩ := eM_some h
  have h6 : mCountA d1 ds = some d := h6
  cases e1 : mCountT d1 ds with
  | some r =>
    refine ce_countT C ho he hbase hline hs pins s σ H Pr G ρ ρ' d I E ?_
    unfold mCountA at h6
    rw [e1] at h6
    have h6 := Option.some.inj h6
    subst h6
    unfold eM
    simp only [h1, h2, h3, h4, h5, e1, if_true]
  | none =>
    refine ce_countL C ho he hbase hline hs pins s σ H Pr G ρ ρ' d I E ?_
    unfold mCountA at h6
    rw [e1] at h6
    unfold eM
    simp only [h1, h2, h3, h4, h5, h6, if_true]
/-! ### short forms -/
theorem nV (i : Nat) {x : Str} {pos : Pos} (hN : X.N[i]? = some x := by rfl) (hv : Vis X.env.scope x := by first | exact .inl rfl | exact .inr (.inl rfl) | exact .inr (.inr rfl)) (hd : (x == ("__debug__" : Str)) = false := by decide) (hcd : (x == ("__classdict__" : Str)) = false := by decide) : CE c X (.Name x pos) (eV i) := ce_v hN hv hd hcd
theorem nP (i : Nat) {x : Str} {pos : Pos} (hN : X.N[i]? = some x := by rfl) (hv : Vis X.env.scope x := by first | exact .inl rfl | exact .inr (.inl rfl) | exact .inr (.inr rfl)) (hd : (x == ("__debug__" : Str)) = false := by decide) (hcd : (x == ("__classdict__" : Str)) = false := by decide) : CK c X (.Name x pos) (kP i) := ck_p hN hv hd hcd
theorem gN (C : XC c X) (i : Nat) {x : Str} {pos : Pos} (hi : X.N[i]? = some x := by rfl) (hx : Loc X.env.scope x := by first | exact .inl rfl | exact .inr rfl) (hf : X.fn x = true ∨ X.env.scope.names.lookup x = some .local := by first | exact .inl rfl | exact .inr rfl) : CG c X (.Name x pos) (.one i) := cg_name C.nd hi hx hf
theorem gNs (C : XC c X) (i : Nat) {x : Str} {pos : Pos} {es : List Expr} {is : List Nat} (hr : PGs X es (gAll c is)) (hi : X.N[i]? = some x := by rfl) (hx : Loc X.env.scope x := by first | exact .inl rfl | exact .inr rfl) (hf : X.fn x = true ∨ X.env.scope.names.lookup x = some .local := by first | exact .inl rfl | exact .inr rfl) : PGs X (.Name x pos :: es) (gAll c (i :: is)) := cgs_cons C.nd hi hx hr hf
section
variable {a b e : Expr} {f : Ev} {pos : Pos} {st : Stmt} {rest : List Stmt}
theorem sN (C : XC c X) (i : Nat) {x : Str} {pos' : Pos} (he : CE c X e f) (hi : X.N[i]? = some x := by rfl) (hx : Loc X.env.scope x := by first | exact .inl rfl | exact .inr rfl) (hs : swapsWith e (some (.Name x pos')) pos.line X.env = pure false := by rfl) (hf : X.fn x = true ∨ X.env.scope.names.lookup x = some .local := by first | exact .inl rfl | exact .inr rfl) :
    CS c X (.Assign [.Name x pos'] e pos) (sSet (.one i) f) := cs_set C.nd hi hx he hs hf
theorem sO (C : XC c X) (i : Nat) {x : Str} {pos' : Pos} (he : CF c X e f) (hi : X.N[i]? = some x := by rfl) (hx : Loc X.env.scope x := by first | exact .inl rfl | exact .inr rfl) (hs : swapsWith e (some (.Name x pos')) pos.line X.env = pure false := by rfl) (hf : X.fn x = true ∨ X.env.scope.names.lookup x = some .local := by first | exact .inl rfl | exact .inr rfl) :
    CS c X (.Assign [.Name x pos'] e pos) (sOwn i f) := cs_own C.nd hi hx he hs hf
end
end
/-- a walk's end: the row's promise for a law of at most 63 whole numbers -/
def spLaw (c : Ct) : Sp := fun vs H Q _ => ∃ (a : Addr) (ns : List Int), vs = [.ref a] ∧ SqL c.K H a (ns.map V.int) ∧ ns.length ≤ 63 ∧ ∀ H', Q (.bl true) H'
theorem law_of {c : Ct} {P : Program} {mg : Str → Option Value} {base : Heap} {k : Nat} {f : Addr} {fd : FuncData} {ps : List Str} {φ : List D → Option D} (F : FnOk P c.w c.K mg base CX0 k f fd ps (spP c 1 φ)) (h : ∀ ns : List Int, ns.length ≤ 63 → φ [.list (ns.map .int)] = some (.bool true)) : FnOk P c.w c.K mg base CX0 k f fd ps (spLaw c) := by
  refine F.imp fun vs H Q E ⟨a, ns, e, q, hl, k⟩ => ?_
  subst e
  have hG : ∀ o, H a = some o → (fun b => if b = a then H b else none : Hp) a = some o := fun o e => by
    show (if a = a then H a else none) = some o
    rw [if_pos rfl]
    exact e
  have q' : SqL c.K (fun b => if b = a then H b else none : Hp) a (ns.map V.int) := by
    rcases q with q | q
    · rcases q with q | ⟨o, q⟩
      · exact .inl (.inl (hG _ q))
      · exact .inl (.inr ⟨o, hG _ q⟩)
    · exact .inr q
  refine ⟨rfl, (fun b => if b = a then H b else none : Hp), [.list (ns.map .int)], .bool true, fun b o e => ?_, .cons (.lst q' (RpA.ints c _ ns)) .nil, h ns hl, fun v G' H' g r => ?_⟩
  · by_cases hb : b = a
    · have e : (if b = a then H b else none) = some o := e
      rw [if_pos hb] at e
      exact e
    · have e : (if b = a then H b else none) = some o := e
      rw [if_neg hb] at e
      cases e
  · cases r
    exact k H'
end VL

set_option Elab.async false
set_option linter.all false
set_option maxRecDepth 100000
/-! V13: places in a text; a def as a function of its arguments. -/
namespace VL
open PySem PySem.Spec PyProof.Rows L2

abbrev XC.xenv {c : Ct} {X : Cx} (_ : XC c X) : Env := X.env
theorem XC.inn {c : Ct} {X : Cx} (C : XC c X) (s : Shared) (H : Hp) (scope : Scope) (K : Addr) (cl : List (Str × Addr)) (fp : List Addr) : XC c (X.blk s H scope (compEnvC scope cl K X.env) fp) := C.blk s H scope _ fp
def kidsE : Expr → List Expr
  | .BoolOp _ vs _ => vs
  | .BinOp a _ b _ => [a, b]
  | .UnaryOp _ a _ => [a]
  | .ListComp e gs _ _ => e :: gs.flatMap fun g => g.iter :: g.ifs
  | .Compare a _ bs _ => a :: bs
  | .Call f as _ _ => f :: as
  | .Attribute v _ _ => [v]
  | .Subscript a b _ => [a, b]
  | .List es _ => es
  | .Tuple es _ _ => es
  | .Dict ks vs _ => ks.filterMap id ++ vs
  | .Slice a b c _ => a.toList ++ b.toList ++ c.toList
  | .Lambda _ b _ _ => [b]
  | _ => []
def kidsS : Stmt → List Expr
  | .Return v _ => v.toList
  | .Assign ts v _ => v :: ts
  | .For t i _ _ _ => [i, t]
  | .While t _ _ _ => [t]
  | .If t _ _ _ => [t]
  | .Expr v _ => [v]
  | .Raise e _ _ => e.toList
  | _ => []
def bodyS : Stmt → List Stmt
  | .For _ _ b _ _ => b
  | .While _ b _ _ => b
  | .If _ b e _ => b ++ e
  | .Try b _ _ _ _ => b
  | .FunctionDef _ _ b _ _ _ _ _ _ _ => b
  | .ClassDef _ _ _ b _ _ _ _ _ _ _ => b
  | _ => []
def e0 : Expr := .Constant .none 0 ⟨0, 0, 0, 0⟩
def s0 : Stmt := .Pass ⟨0, 0, 0, 0⟩
def atS : Stmt → List Nat → Stmt
  | s, [] => s
  | s, i :: r => atS ((bodyS s).getD i s0) r
def atE : Expr → List Nat → Expr
  | e, [] => e
  | e, i :: r => atE ((kidsE e).getD i e0) r
def atSE (s : Stmt) (p : List Nat) (i : Nat) (q : List Nat) : Expr := atE ((kidsS (atS s p)).getD i e0) q
def scE : Expr → Scope
  | .ListComp _ _ s _ => s
  | .Lambda _ _ s _ => s
  | _ => defScope s0
/-- a block's scope as it stands in its outer block -/
def relS (sc outer : Scope) : Scope := relabel sc { scope := outer, locals := 0, globals := 0, cells := [] }
/-- a def's values: of just so many arguments -/
def mkF (p n : Nat) (m : Sm) : List D → Option D := fun ds => if ds.length = p then runDef n m ds else none
theorem mkF_len {p n : Nat} {m : Sm} {ds : List D} {r : D} (h : mkF p n m ds = some r) : ds.length = p := by
  unfold mkF at h
  split at h
  · assumption
  · cases h
theorem mkF_run {p n : Nat} {m : Sm} {ds : List D} {r : D} (h : mkF p n m ds = some r) : runDef n m ds = some r := by
  unfold mkF at h
  split at h
  · exact h
  · cases h
theorem fp_mk {c : Ct} {P : Program} {mg : Str → Option Value} {base : Heap} {x qual : Str} {st : Stmt} {f : Addr} {fd : FuncData} {N ps : List Str} {k : Nat} {m : Sm} (F : Fun c.K x qual st f fd) (S : FnScope N ps (defScope st)) (hm : mg x = some (.ref f)) (hb : Binds c.K fd ps []) (hblt : ∀ y ∈ bltNames, mg y = none)
    (body : ∀ (cdv : Value) (A : Around) (outer : List Env) (s : Shared) (H : Hp) (E : XK), XC c (cxOf CX0 P c.w c.K mg base N qual (defScope st) f cdv A outer s H E).nox → Room k (cxOf CX0 P c.w c.K mg base N qual (defScope st) f cdv A outer s H E).nox.A → CB c (cxOf CX0 P c.w c.K mg base N qual (defScope st) f cdv A outer s H E).nox (defBody st) m) : FP c P mg base (k + 1) x (mkF ps.length N.length m) :=
  fp_of F S hm hb hblt body (fun _ _ h => mkF_len h) fun _ _ h => mkF_run h
theorem fn_mk {c : Ct} {P : Program} {mg : Str → Option Value} {base : Heap} {x qual : Str} {st : Stmt} {f : Addr} {fd : FuncData} {N ps : List Str} {k : Nat} {m : Sm} (F : Fun c.K x qual st f fd) (S : FnScope N ps (defScope st)) (hblt : ∀ y ∈ bltNames, mg y = none)
    (body : ∀ (cdv : Value) (A : Around) (outer : List Env) (s : Shared) (H : Hp) (E : XK), XC c (cxOf CX0 P c.w c.K mg base N qual (defScope st) f cdv A outer s H E).nox → Room k (cxOf CX0 P c.w c.K mg base N qual (defScope st) f cdv A outer s H E).nox.A → CB c (cxOf CX0 P c.w c.K mg base N qual (defScope st) f cdv A outer s H E).nox (defBody st) m) : FnOk P c.w c.K mg base CX0 (k + 1) f fd ps (spP c ps.length (mkF ps.length N.length m)) :=
  fn_of F S hblt body fun _ _ h => mkF_run h
end VL

set_option Elab.async false
set_option linter.all false
set_option maxRecDepth 100000
/-! V14: dicts as they lie: keys that are tuples (nested), keys that are numbers or texts. -/
namespace VL
open PySem PySem.Spec PyProof.Rows L2

/-! ### keys -/
mutual
theorem eqv_nk : ∀ (d e : D) (k j : NestedKey), nk d = some k → nk e = some j → PyData.eqv d e = NestedKey.beq k j
  | .none, e, k, j, h1, h2 => by
    cases e <;> simp [nk] at h1 h2 <;> try (subst h1; subst h2; simp [PyData.eqv, NestedKey.beq])
    · rename_i l
      cases q : nks l with
      | none => simp [q] at h2
      | some ks => simp [q] at h2; subst h1; subst h2; simp [PyData.eqv, NestedKey.beq]
  | .int a, e, k, j, h1, h2 => by
    cases e <;> simp [nk] at h1 h2 <;> try (subst h1; subst h2; simp [PyData.eqv, NestedKey.beq])
    · rename_i b
      by_cases h : a = b <;> simp [h]
    · rename_i l
      cases q : nks l with
      | none => simp [q] at h2
      | some ks => simp [q] at h2; subst h1; subst h2; simp [PyData.eqv, NestedKey.beq]
  | .str a, e, k, j, h1, h2 => by
    cases e <;> simp [nk] at h1 h2 <;> try (subst h1; subst h2; simp [PyData.eqv, NestedKey.beq])
    · rename_i b
      by_cases h : a = b <;> simp [h]
    · rename_i l
      cases q : nks l with
      | none => simp [q] at h2
      | some ks => simp [q] at h2; subst h1; subst h2; simp [PyData.eqv, NestedKey.beq]
  | .tuple l, e, k, j, h1, h2 => by
    cases q : nks l with
    | none => simp [nk, q] at h1
    | some ks =>
      simp [nk, q] at h1
      subst h1
      cases e <;> simp [nk] at h2 <;> try (subst h2; simp [PyData.eqv, NestedKey.beq])
      rename_i m
      cases q2 : nks m with
      | none => simp [q2] at h2
      | some js =>
        simp [q2] at h2
        subst h2
        rw [PyData.eqv, NestedKey.beq]
        exact eqv_nks l m ks js q q2
  | .bool _, _, _, _, h1, _ => by simp [nk] at h1
  | .list _, _, _, _, h1, _ => by simp [nk] at h1
  | .dict _, _, _, _, h1, _ => by simp [nk] at h1
theorem eqv_nks : ∀ (l m : List D) (ks js : List NestedKey), nks l = some ks → nks m = some js → PyData.eqvAll l m = NestedKey.beqAll ks js
  | [], [], ks, js, h1, h2 => by
    cases h1; cases h2
    simp [PyData.eqvAll, NestedKey.beqAll]
  | [], y :: m, ks, js, h1, h2 => by
    cases h1
    unfold nks at h2
    split at h2
    · cases h2
      simp [PyData.eqvAll, NestedKey.beqAll]
    · cases h2
  | x :: l, [], ks, js, h1, h2 => by
    cases h2
    unfold nks at h1
    split at h1
    · cases h1
      simp [PyData.eqvAll, NestedKey.beqAll]
    · cases h1
  | x :: l, y :: m, ks, js, h1, h2 => by
    unfold nks at h1 h2
    split at h1
    · rename_i k kr e1 e2
      cases h1
      split at h2
      · rename_i j jr e3 e4
        cases h2
        rw [PyData.eqvAll, NestedKey.beqAll, eqv_nk x y k j e1 e3, eqv_nks l m kr jr e2 e4]
      · cases h2
    · cases h1
end
theorem eqv_key {d e : D} {k j : NestedKey} (h1 : nk d = some k) (h2 : nk e = some j) : PyData.eqv d e = decide (k = j) := by
  rw [eqv_nk d e k j h1 h2, NestedKey.decide_eq]
theorem kcls_t {d : D} (h : kcls d = some true) : ∃ l ks, d = .tuple l ∧ nks l = some ks ∧ nk d = some (.tup ks) ∧ (NestedKey.tup ks).depth ≤ 8 := by
  cases d with
  | tuple l =>
    cases q : nks l with
    | none => simp [kcls, q] at h
    | some ks =>
      simp [kcls, q] at h
      exact ⟨l, ks, rfl, q, by simp [nk, q], h⟩
  | _ => simp [kcls] at h
theorem kcls_f {d : D} (h : kcls d = some false) : (∃ i, d = .int i) ∨ ∃ x, d = .str x := by
  cases d with
  | int i => exact .inl ⟨i, rfl⟩
  | str x => exact .inr ⟨x, rfl⟩
  | tuple l =>
    cases q : nks l with
    | none => simp [kcls, q] at h
    | some ks => simp [kcls, q] at h
  | _ => simp [kcls] at h

section
variable {c : Ct} {X : Cx} {Pr G H : Hp} {σ : L2.St} {ρ ρ' : List O} {pins : List (Addr × Obj)} {s : Shared}
mutual
theorem rp_nested (I : Inv X pins σ H s) (g : Ge G H) : ∀ {v : V} {d : D} {k : NestedKey} {u : Value}, Rp c G v d → nk d = some k → RelV v u → NestedIs s.heap k u
  | _, _, _, _, .non, h, r => by
    cases h
    cases r
    exact .none
  | _, _, _, _, .bl b, h, r => by cases h
  | _, _, _, _, .int i, h, r => by
    cases h
    obtain ⟨t, rfl⟩ := r
    exact .int _ _
  | _, _, _, _, .str x, h, r => by
    cases h
    obtain ⟨t, rfl⟩ := r
    exact .text _ _
  | _, _, _, _, .lst _ _, h, r => by cases h
  | _, .tuple ds, _, _, .tup (a := a) (xs := xs) f n ra, h, r => by
    cases q : nks ds with
    | none => simp [nk, q] at h
    | some ks =>
      simp [nk, q] at h
      subst h
      obtain rfl : _ = Value.ref a := r
      obtain ⟨its, rv, ⟨o, ho, hc, m, hd⟩, hz⟩ := I.tupAt g f
      exact .tup ho hc hd (rpa_nested I g ra q rv)
  | _, _, _, _, .dic _ _ _ _ _, h, r => by cases h
theorem rpa_nested (I : Inv X pins σ H s) (g : Ge G H) : ∀ {vs : List V} {ds : List D} {ks : List NestedKey} {us : List Value}, RpA c G vs ds → nks ds = some ks → Vals vs us → NestedAll s.heap ks us
  | _, _, _, _, .nil, h, r => by
    cases h
    cases r
    exact .nil
  | _, d :: ds, _, _, .cons h1 h2, h, r => by
    unfold nks at h
    split at h
    · rename_i k ks e1 e2
      cases h
      cases r with
      | cons r1 r2 => exact .cons (rp_nested I g h1 e1 r1) (rpa_nested I g h2 e2 r2)
    · cases h
end
/-- a dict's items, its keys tuples -/
inductive T3 (c : Ct) (G : Hp) (h : Heap) : List (D × D) → List V → List V → List (NestedKey × Addr × Value) → Prop
  | nil : T3 c G h [] [] [] []
  | cons {p : D × D} {l : List (D × D)} {b : Addr} {y : V} {v : Value} {k : NestedKey} {xs ys : List V} {x3 : List (NestedKey × Addr × Value)} : nk p.1 = some k → NestedIs h k (.ref b) → k.depth ≤ 8 → Rp c G (.ref b) p.1 → RelV y v → Rp c G y p.2 → T3 c G h l xs ys x3 → T3 c G h (p :: l) (.ref b :: xs) (y :: ys) ((k, b, v) :: x3)
theorem T3.rpa {h : Heap} : ∀ {l : List (D × D)} {xs ys : List V} {x3 : List (NestedKey × Addr × Value)}, T3 c G h l xs ys x3 → RpA c G xs (l.map (·.1)) ∧ RpA c G ys (l.map (·.2)) ∧ x3.map (·.1) = (l.map fun p => (nk p.1).getD .none) ∧ x3.length = l.length
  | _, _, _, _, .nil => ⟨.nil, .nil, rfl, rfl⟩
  | _, _, _, _, .cons h1 h2 h3 h4 h5 h6 t => by
    obtain ⟨a, b, e, f⟩ := t.rpa
    exact ⟨.cons h4 a, .cons h6 b, by rw [List.map_cons, List.map_cons, e, h1]; rfl, by rw [List.length_cons, List.length_cons, f]⟩
theorem T3.ent {h : Heap} {P : Program} {w : World} (hw : c.w = w) : ∀ {l : List (D × D)} {xs ys : List V} {x3 : List (NestedKey × Addr × Value)}, T3 c G h l xs ys x3 → Ent (x3.map (entryOfKey (nestedKind P w))) (l.map fun p => hashK c.w p.1) xs ys
  | _, _, _, _, .nil => .nil
  | _, _, _, _, .cons h1 h2 h3 h4 h5 h6 t => by
    refine .cons ?_ rfl h5 (t.ent hw)
    show _ = hashK c.w _
    unfold hashK
    rw [h1, hw]
    rfl
theorem T3.mk (I : Inv X pins σ H s) (g : Ge G H) (P : Program) (hw : c.w = X.w) : ∀ {l : List (D × D)} {es : List DictEntry} {hs : List Int} {xs ys : List V}, Ent es hs xs ys → hs = l.map (fun p => hashK c.w p.1) → keysAre true l = true → RpA c G xs (l.map (·.1)) → RpA c G ys (l.map (·.2)) →
    ∃ x3, T3 c G s.heap l xs ys x3 ∧ es = x3.map (entryOfKey (nestedKind P X.w)) := by
  intro l
  induction l with
  | nil =>
    intro es hs xs ys e eh hk r1 r2
    cases r1
    cases r2
    cases e
    exact ⟨[], .nil, rfl⟩
  | cons p l ih =>
    intro es hs xs ys e eh hk r1 r2
    unfold keysAre at hk
    rw [List.all_cons, Bool.and_eq_true, beq_iff_eq] at hk
    obtain ⟨tl, ks, e1, e2, e3, e4⟩ := kcls_t hk.1
    cases r1 with
    | cons q1 r1 =>
      cases r2 with
      | cons q2 r2 =>
        cases e with
        | @cons en es h0 hs x y xs ys f1 f2 f3 f4 =>
          rw [List.map_cons] at eh
          obtain ⟨g1, g2⟩ := List.cons.inj eh
          obtain ⟨x3, t, ee⟩ := ih f4 g2 hk.2 r1 r2
          have q0 : Rp c G _ p.1 := q1
          rw [e1] at q0
          cases q0 with
          | @tup b o zs ds z1 z2 z3 =>
            have nis : NestedIs s.heap (.tup ks) (.ref b) := rp_nested I g q1 e3 rfl
            refine ⟨(.tup ks, b, en.val) :: x3, .cons e3 nis e4 q1 f3 q2 t, ?_⟩
            rw [List.map_cons, ee]
            congr 1
            obtain ⟨eh2, ek, ev⟩ := en
            have f2 : ek = Value.ref b := f2
            subst f2
            show _ = DictEntry.mk _ _ _
            have f1 : eh2 = h0 := f1
            rw [f1, g1]
            unfold hashK
            rw [e3, hw]
            rfl
theorem T3.at {h : Heap} {key : D} {k : NestedKey} (hk : nk key = some k) : ∀ {l : List (D × D)} {xs ys : List V} {x3 : List (NestedKey × Addr × Value)}, T3 c G h l xs ys x3 →
    (atKey x3 k = none ∧ dgo key l = none) ∨ ∃ b v y d, atKey x3 k = some (b, v) ∧ dgo key l = some d ∧ RelV y v ∧ Rp c G y d
  | _, _, _, _, .nil => .inl ⟨rfl, rfl⟩
  | _, _, _, _, .cons (p := p) (l := l) (b := b) (y := y) (v := v) (k := k') h1 h2 h3 h4 h5 h6 t => by
    have e : PyData.eqv p.1 key = decide (k' = k) := eqv_key h1 hk
    by_cases hq : k' = k
    · right
      refine ⟨b, v, y, p.2, ?_, ?_, h5, h6⟩
      · unfold atKey
        rw [List.find?_cons_of_pos (by simpa using hq)]
        rfl
      · show (if PyData.eqv p.1 key = true then some p.2 else dgo key l) = some p.2
        rw [e, decide_eq_true hq, if_pos rfl]
    · have hq2 : dgo key (p :: l) = dgo key l := by
        show (if PyData.eqv p.1 key = true then some p.2 else dgo key l) = _
        rw [e, decide_eq_false hq]
        rfl
      have hq3 : ∀ x3 : List (NestedKey × Addr × Value), atKey ((k', b, v) :: x3) k = atKey x3 k := fun x3 => by
        unfold atKey
        rw [List.find?_cons_of_neg (by simpa using hq)]
      rcases t.at hk with ⟨a1, a2⟩ | ⟨b2, v2, y2, d2, a1, a2, a3, a4⟩
      · exact .inl ⟨by rw [hq3]; exact a1, by rw [hq2]; exact a2⟩
      · exact .inr ⟨b2, v2, y2, d2, by rw [hq3]; exact a1, by rw [hq2]; exact a2, a3, a4⟩
theorem dput_none {key d : D} : ∀ {l : List (D × D)}, dgo key l = none → dput key d l = l ++ [(key, d)]
  | [], _ => rfl
  | p :: l, h => by
    have h : (if PyData.eqv p.1 key = true then some p.2 else dgo key l) = none := h
    show (if PyData.eqv p.1 key = true then (p.1, d) :: l else p :: dput key d l) = _
    by_cases q : PyData.eqv p.1 key = true
    · rw [if_pos q] at h; cases h
    · rw [if_neg q] at h ⊢
      rw [dput_none h]
      rfl
theorem T3.app {h : Heap} : ∀ {l m : List (D × D)} {xs ys us ws : List V} {x3 y3 : List (NestedKey × Addr × Value)}, T3 c G h l xs ys x3 → T3 c G h m us ws y3 → T3 c G h (l ++ m) (xs ++ us) (ys ++ ws) (x3 ++ y3)
  | _, _, _, _, _, _, _, _, .nil, t => t
  | _, _, _, _, _, _, _, _, .cons h1 h2 h3 h4 h5 h6 t, t2 => .cons h1 h2 h3 h4 h5 h6 (t.app t2)
theorem putAt_same {k : NestedKey} {v : Value} {x : NestedKey × Addr × Value} (h : ¬ x.1 = k) : putAt k v x = x := by
  unfold putAt
  simp [h]
theorem putAt_none {k : NestedKey} {v : Value} {x3 : List (NestedKey × Addr × Value)} (h : k ∉ x3.map (·.1)) : x3.map (putAt k v) = x3 := by
  induction x3 with
  | nil => rfl
  | cons x x3 ih =>
    rw [List.map_cons, List.mem_cons, not_or] at h
    rw [List.map_cons, putAt_same fun e => h.1 e.symm, ih h.2]
theorem T3.over {h : Heap} {key d : D} {k : NestedKey} {y : V} {v : Value} (hk : nk key = some k) (ry : RelV y v) (rp : Rp c G y d) : ∀ {l : List (D × D)} {xs ys : List V} {x3 : List (NestedKey × Addr × Value)}, T3 c G h l xs ys x3 → (x3.map (·.1)).Nodup → (atKey x3 k).isSome = true →
    ∃ xs' ys', T3 c G h (dput key d l) xs' ys' (x3.map (putAt k v))
  | _, _, _, _, .nil, _, hs => by cases hs
  | _, _, _, _, .cons (p := p) (l := l) (b := b) (y := y0) (v := v0) (k := k') (x3 := x3) h1 h2 h3 h4 h5 h6 t, nd, hs => by
    have e : PyData.eqv p.1 key = decide (k' = k) := eqv_key h1 hk
    rw [List.map_cons, List.nodup_cons] at nd
    rw [List.map_cons]
    by_cases hq : k' = k
    · subst hq
      have e1 : dput key d (p :: l) = (p.1, d) :: l := by
        show (if PyData.eqv p.1 key = true then (p.1, d) :: l else p :: dput key d l) = _
        rw [e, decide_eq_true rfl, if_pos rfl]
      have e2 : putAt k' v (k', b, v0) = (k', b, v) := by simp [putAt]
      rw [e1, e2, putAt_none nd.1]
      exact ⟨_, _, .cons h1 h2 h3 h4 ry rp t⟩
    · have e1 : dput key d (p :: l) = p :: dput key d l := by
        show (if PyData.eqv p.1 key = true then (p.1, d) :: l else p :: dput key d l) = _
        rw [e, decide_eq_false hq]
        rfl
      have hs2 : (atKey x3 k).isSome = true := by
        unfold atKey at hs ⊢
        rw [List.find?_cons_of_neg (by simpa using hq)] at hs
        exact hs
      obtain ⟨xs', ys', t'⟩ := t.over hk ry rp nd.2 hs2
      rw [e1, putAt_same (x := (k', b, v0)) hq]
      exact ⟨_, _, .cons h1 h2 h3 h4 h5 h6 t'⟩
theorem T3.put {h : Heap} {key d : D} {k : NestedKey} {a : Addr} {y : V} {v : Value} (hk : nk key = some k) (n : NestedIs h k (.ref a)) (hd : k.depth ≤ 8) (rk : Rp c G (.ref a) key) (ry : RelV y v) (rp : Rp c G y d) {l : List (D × D)} {xs ys : List V} {x3 : List (NestedKey × Addr × Value)} (t : T3 c G h l xs ys x3) (nd : (x3.map (·.1)).Nodup) :
    ∃ xs' ys', T3 c G h (dput key d l) xs' ys' (storedH x3 k a v) := by
  rcases t.at hk with ⟨a1, a2⟩ | ⟨b2, v2, y2, d2, a1, a2, a3, a4⟩
  · rw [storedH_new a1, dput_none a2]
    exact ⟨_, _, t.app (.cons hk n hd rk ry rp .nil)⟩
  · rw [storedH_old a1]
    exact t.over hk ry rp nd (by rw [a1]; rfl)

/-! ### keys that are numbers or texts -/
def kof : D → Option Key
  | .int i => some (.inl i)
  | .str x => some (.inr x)
  | _ => none
theorem eqv_kof {d e : D} {k j : Key} (h1 : kof d = some k) (h2 : kof e = some j) : PyData.eqv d e = decide (k = j) := by
  cases d <;> cases h1 <;> cases e <;> cases h2
  · rename_i a b
    by_cases h : a = b
    · subst h; simp [PyData.eqv]
    · have : ¬ (Sum.inl a : Key) = Sum.inl b := fun q => h (Sum.inl.inj q)
      simp [PyData.eqv, h]
  · rename_i a b
    rw [decide_eq_false (fun q => nomatch q)]
    simp [PyData.eqv]
  · rename_i a b
    rw [decide_eq_false (fun q => nomatch q)]
    simp [PyData.eqv]
  · rename_i a b
    by_cases h : a = b
    · subst h; simp [PyData.eqv]
    · have : ¬ (Sum.inr a : Key) = Sum.inr b := fun q => h (Sum.inr.inj q)
      simp [PyData.eqv, h]
theorem kof_of {d : D} (h : kcls d = some false) : ∃ k, kof d = some k ∧ (∀ G : Hp, Rp c G (kV k) d) ∧ (∀ {G : Hp} {v : V}, Rp c G v d → v = kV k) ∧ hashK c.w d = keyH c.w k := by
  rcases kcls_f h with ⟨i, rfl⟩ | ⟨x, rfl⟩
  · exact ⟨.inl i, rfl, fun _ => .int i, fun h => by cases h; rfl, rfl⟩
  · exact ⟨.inr x, rfl, fun _ => .str x, fun h => by cases h; rfl, rfl⟩
inductive M3 (c : Ct) (G : Hp) : List (D × D) → List V → List V → List (Key × Value) → Prop
  | nil : M3 c G [] [] [] []
  | cons {p : D × D} {l : List (D × D)} {y : V} {v : Value} {k : Key} {xs ys : List V} {kvs : List (Key × Value)} : kof p.1 = some k → hashK c.w p.1 = keyH c.w k → Rp c G (kV k) p.1 → RelV y v → Rp c G y p.2 → M3 c G l xs ys kvs → M3 c G (p :: l) (kV k :: xs) (y :: ys) ((k, v) :: kvs)
theorem M3.rpa : ∀ {l : List (D × D)} {xs ys : List V} {kvs : List (Key × Value)}, M3 c G l xs ys kvs → RpA c G xs (l.map (·.1)) ∧ RpA c G ys (l.map (·.2)) ∧ kvs.length = l.length
  | _, _, _, _, .nil => ⟨.nil, .nil, rfl⟩
  | _, _, _, _, .cons h1 h2 h3 h4 h5 t => by
    obtain ⟨a, b, f⟩ := t.rpa
    exact ⟨.cons h3 a, .cons h5 b, by rw [List.length_cons, List.length_cons, f]⟩
theorem M3.mk (P : Program) {w : World} (hw : c.w = w) : ∀ {l : List (D × D)} {es : List DictEntry} {hs : List Int} {xs ys : List V}, Ent es hs xs ys → hs = l.map (fun p => hashK c.w p.1) → keysAre false l = true → RpA c G xs (l.map (·.1)) → RpA c G ys (l.map (·.2)) →
    ∃ kvs, M3 c G l xs ys kvs ∧ Pairs (mixKind P w) es kvs ∧ ∀ e ∈ es, ∃ k, (mixKind P w).is k e.key = true ∧ e.hash = (mixKind P w).hash k := by
  intro l
  induction l with
  | nil =>
    intro es hs xs ys e eh hk r1 r2
    cases r1
    cases r2
    cases e
    exact ⟨[], .nil, .nil, fun e he => by cases he⟩
  | cons p l ih =>
    intro es hs xs ys e eh hk r1 r2
    unfold keysAre at hk
    rw [List.all_cons, Bool.and_eq_true, beq_iff_eq] at hk
    obtain ⟨k, k1, k2, k3, k4⟩ := kof_of (c := c) hk.1
    cases r1 with
    | cons q1 r1 =>
      cases r2 with
      | cons q2 r2 =>
        cases e with
        | @cons en es h0 hs x y xs ys f1 f2 f3 f4 =>
          rw [List.map_cons] at eh
          obtain ⟨g1, g2⟩ := List.cons.inj eh
          obtain ⟨kvs, t, pp, ho⟩ := ih f4 g2 hk.2 r1 r2
          have ex := k3 q1
          subst ex
          have is : (mixKind P w).is k en.key = true := kV_is f2
          refine ⟨(k, en.val) :: kvs, .cons k1 k4 (k2 _) f3 q2 t, .cons is rfl pp, fun e he => ?_⟩
          rcases List.mem_cons.mp he with e1 | he
          · subst e1
            exact ⟨k, is, by rw [f1, g1, k4, hw]; rfl⟩
          · exact ho e he
theorem M3.ent (P : Program) {w : World} (hw : c.w = w) : ∀ {l : List (D × D)} {xs ys : List V} {kvs : List (Key × Value)} {es : List DictEntry}, M3 c G l xs ys kvs → Pairs (mixKind P w) es kvs → (∀ e ∈ es, ∃ k, (mixKind P w).is k e.key = true ∧ e.hash = (mixKind P w).hash k) → Ent es (l.map fun p => hashK c.w p.1) xs ys
  | _, _, _, _, _, .nil, .nil, _ => .nil
  | _, _, _, _, _, .cons h1 h2 h3 h4 h5 t, .cons (e := e) i1 i2 pp, ho => by
    obtain ⟨k', j1, j2⟩ := ho e List.mem_cons_self
    have ek := (mixKind P w).inj _ _ _ i1 j1
    subst ek
    refine .cons ?_ ?_ ?_ (t.ent P hw pp fun e he => ho e (List.mem_cons_of_mem _ he))
    · rw [j2]
      show _ = hashK c.w _
      rw [h2, hw]
      rfl
    · rcases keyIs_shape i1 with ⟨i, t, e1, e2⟩ | ⟨x, t, e1, e2⟩
      · dsimp only at e1
        rw [e1, e2]
        exact ⟨t, rfl⟩
      · dsimp only at e1
        rw [e1, e2]
        exact ⟨t, rfl⟩
    · rw [i2]
      exact h4
theorem M3.at {key : D} {k : Key} (hk : kof key = some k) : ∀ {l : List (D × D)} {xs ys : List V} {kvs : List (Key × Value)}, M3 c G l xs ys kvs →
    (valueAt kvs k = none ∧ dgo key l = none) ∨ ∃ v y d, valueAt kvs k = some v ∧ dgo key l = some d ∧ RelV y v ∧ Rp c G y d
  | _, _, _, _, .nil => .inl ⟨rfl, rfl⟩
  | _, _, _, _, .cons (p := p) (l := l) (y := y) (v := v) (k := k') h1 h2 h3 h4 h5 t => by
    have e : PyData.eqv p.1 key = decide (k' = k) := eqv_kof h1 hk
    by_cases hq : k' = k
    · right
      refine ⟨v, y, p.2, ?_, ?_, h4, h5⟩
      · unfold valueAt
        rw [List.find?_cons_of_pos (by simpa using hq)]
        rfl
      · show (if PyData.eqv p.1 key = true then some p.2 else dgo key l) = some p.2
        rw [e, decide_eq_true hq, if_pos rfl]
    · have hq2 : dgo key (p :: l) = dgo key l := by
        show (if PyData.eqv p.1 key = true then some p.2 else dgo key l) = _
        rw [e, decide_eq_false hq]
        rfl
      have hq3 : ∀ kvs : List (Key × Value), valueAt ((k', v) :: kvs) k = valueAt kvs k := fun kvs => by
        unfold valueAt
        rw [List.find?_cons_of_neg (by simpa using hq)]
      rcases t.at hk with ⟨a1, a2⟩ | ⟨v2, y2, d2, a1, a2, a3, a4⟩
      · exact .inl ⟨by rw [hq3]; exact a1, by rw [hq2]; exact a2⟩
      · exact .inr ⟨v2, y2, d2, by rw [hq3]; exact a1, by rw [hq2]; exact a2, a3, a4⟩
theorem M3.app : ∀ {l m : List (D × D)} {xs ys us ws : List V} {x3 y3 : List (Key × Value)}, M3 c G l xs ys x3 → M3 c G m us ws y3 → M3 c G (l ++ m) (xs ++ us) (ys ++ ws) (x3 ++ y3)
  | _, _, _, _, _, _, _, _, .nil, t => t
  | _, _, _, _, _, _, _, _, .cons h1 h2 h3 h4 h5 t, t2 => .cons h1 h2 h3 h4 h5 (t.app t2)
theorem over_none {k : Key} {v : Value} {kvs : List (Key × Value)} (h : k ∉ kvs.map (·.1)) : (kvs.map fun kv => if kv.1 = k then (kv.1, v) else kv) = kvs := by
  induction kvs with
  | nil => rfl
  | cons x kvs ih =>
    rw [List.map_cons, List.mem_cons, not_or] at h
    rw [List.map_cons, if_neg fun e => h.1 e.symm, ih h.2]
theorem M3.over {key d : D} {k : Key} {y : V} {v : Value} (hk : kof key = some k) (ry : RelV y v) (rp : Rp c G y d) : ∀ {l : List (D × D)} {xs ys : List V} {kvs : List (Key × Value)}, M3 c G l xs ys kvs → (kvs.map (·.1)).Nodup → (valueAt kvs k).isSome = true →
    ∃ xs' ys', M3 c G (dput key d l) xs' ys' (kvs.map fun kv => if kv.1 = k then (kv.1, v) else kv)
  | _, _, _, _, .nil, _, hs => by cases hs
  | _, _, _, _, .cons (p := p) (l := l) (y := y0) (v := v0) (k := k') (kvs := kvs) h1 h2 h3 h4 h5 t, nd, hs => by
    have e : PyData.eqv p.1 key = decide (k' = k) := eqv_kof h1 hk
    rw [List.map_cons, List.nodup_cons] at nd
    rw [List.map_cons]
    by_cases hq : k' = k
    · subst hq
      have e1 : dput key d (p :: l) = (p.1, d) :: l := by
        show (if PyData.eqv p.1 key = true then (p.1, d) :: l else p :: dput key d l) = _
        rw [e, decide_eq_true rfl, if_pos rfl]
      rw [e1, if_pos rfl, over_none nd.1]
      exact ⟨_, _, .cons h1 h2 h3 ry rp t⟩
    · have e1 : dput key d (p :: l) = p :: dput key d l := by
        show (if PyData.eqv p.1 key = true then (p.1, d) :: l else p :: dput key d l) = _
        rw [e, decide_eq_false hq]
        rfl
      have hs2 : (valueAt kvs k).isSome = true := by
        unfold valueAt at hs ⊢
        rw [List.find?_cons_of_neg (by simpa using hq)] at hs
        exact hs
      obtain ⟨xs', ys', t'⟩ := t.over hk ry rp nd.2 hs2
      rw [e1, if_neg hq]
      exact ⟨_, _, .cons h1 h2 h3 h4 h5 t'⟩
theorem any_valueAt {k : Key} : ∀ kvs : List (Key × Value), (kvs.any fun kv => decide (kv.1 = k)) = (valueAt kvs k).isSome
  | [] => rfl
  | p :: kvs => by
    rw [List.any_cons, any_valueAt kvs]
    unfold valueAt
    by_cases h : p.1 = k
    · rw [List.find?_cons_of_pos (by simpa using h)]
      simp [h]
    · rw [List.find?_cons_of_neg (by simpa using h)]
      simp [h]
theorem M3.put {key d : D} {k : Key} {y : V} {v : Value} (hk : kof key = some k) (hh : hashK c.w key = keyH c.w k) (rk : Rp c G (kV k) key) (ry : RelV y v) (rp : Rp c G y d) {l : List (D × D)} {xs ys : List V} {kvs : List (Key × Value)} (t : M3 c G l xs ys kvs) (nd : (kvs.map (·.1)).Nodup) :
    ∃ xs' ys', M3 c G (dput key d l) xs' ys' (stored kvs k v) := by
  unfold stored
  rw [any_valueAt]
  rcases t.at hk with ⟨a1, a2⟩ | ⟨v2, y2, d2, a1, a2, a3, a4⟩
  · rw [a1, dput_none a2]
    exact ⟨_, _, t.app (.cons hk hh rk ry rp .nil)⟩
  · rw [a1, if_pos (by rfl)]
    exact t.over hk ry rp nd (by rw [a1]; rfl)
end
end VL

set_option Elab.async false
set_option linter.all false
set_option maxRecDepth 100000
/-! V15: what dicts do, by values. -/
namespace VL
open PySem PySem.Spec PyProof.Rows L2

section
variable {c : Ct} {X : Cx} {Pr G H : Hp} {σ : L2.St} {ρ ρ' : List O} {pins : List (Addr × Obj)} {s : Shared}
theorem dO_ok {P : Program} {w : World} {h : Heap} {a : Addr} {ep : Nat} {hs : List Int} {xs ys : List V} (x : dPhi a ep hs xs ys h) : ObjOk P w H h a (dO a ep hs xs ys) := by
  refine ⟨x, let ⟨_, _, es, ⟨o, ho, _⟩, _⟩ := x; ⟨o, ho⟩, fun h1 h2 x k => ?_⟩
  obtain ⟨lo, hz, es, ⟨o, ho, hx, hd⟩, he⟩ := x
  exact ⟨lo, hz, es, ⟨o, k o ho, hx, hd⟩, he⟩
theorem dAsk_some {l : List (D × D)} {key : D} {o : Option D} (h : dAsk l key = some o) : ∃ cl, kcls key = some cl ∧ keysAre cl l = true ∧ o = dgo key l := by
  unfold dAsk at h
  split at h
  · rename_i cl e
    split at h
    · rename_i k
      cases h
      exact ⟨cl, e, k, rfl⟩
    · cases h
  · cases h
theorem T3.is {h : Heap} : ∀ {l : List (D × D)} {xs ys : List V} {x3 : List (NestedKey × Addr × Value)}, T3 c G h l xs ys x3 → ∀ z ∈ x3, NestedIs h z.1 (.ref z.2.1) ∧ z.1.depth ≤ 8
  | _, _, _, _, .nil, z, hz => by cases hz
  | _, _, _, _, .cons h1 h2 h3 h4 h5 h6 t, z, hz => by
    rcases List.mem_cons.mp hz with e | hz
    · subst e
      exact ⟨h2, h3⟩
    · exact t.is z hz
theorem T3.nks {h : Heap} : ∀ {l : List (D × D)} {xs ys : List V} {x3 : List (NestedKey × Addr × Value)}, T3 c G h l xs ys x3 → (l.map fun p => nk p.1) = (x3.map (·.1)).map some
  | _, _, _, _, .nil => rfl
  | _, _, _, _, .cons h1 h2 h3 h4 h5 h6 t => by
    rw [List.map_cons, List.map_cons, List.map_cons, t.nks, h1]
def kn : Key → NestedKey
  | .inl i => .num i
  | .inr x => .text x
theorem kof_nk {d : D} {k : Key} (h : kof d = some k) : nk d = some (kn k) := by
  cases d <;> cases h <;> rfl
theorem M3.nks : ∀ {l : List (D × D)} {xs ys : List V} {kvs : List (Key × Value)}, M3 c G l xs ys kvs → (l.map fun p => nk p.1) = (kvs.map (·.1)).map fun k => some (kn k)
  | _, _, _, _, .nil => rfl
  | _, _, _, _, .cons h1 h2 h3 h4 h5 t => by
    rw [List.map_cons, List.map_cons, List.map_cons, t.nks, kof_nk h1]
theorem nodup_of_map {α β : Type} {f : α → β} {l : List α} (h : (l.map f).Nodup) : l.Nodup := by
  unfold List.Nodup at *
  rw [List.pairwise_map] at h
  exact h.imp fun hn e => hn (by rw [e])
/-- a dict at an address, asked for a key: either it holds the key as the value says, or it doesn't -/
theorem d_shape (C : XC c X) (I : Inv X pins σ H s) (g : Ge G H) {x y : V} {v u : Value} {l : List (D × D)} {key : D} {cl : Bool} (t : RpT c G H x (.dict l)) (tk : RpT c G H y key) (rx : RelV x v) (ry : RelV y u) (hc : kcls key = some cl) (hk : keysAre cl l = true) :
    ∃ a ep hs xs ys, x = .ref a ∧ v = .ref a ∧ H a = some (dO a ep hs xs ys) ∧ (a == sysModules) = false ∧ hs.length = l.length ∧
      ((cl = true ∧ ∃ b k x3, y = .ref b ∧ u = .ref b ∧ nk key = some k ∧ (nestedKind X.prog X.w).is s.heap k b ∧ Rp c G (.ref b) key ∧ T3 c G s.heap l xs ys x3 ∧ s.heap.DictOfH (nestedKind X.prog X.w) a x3) ∨
       (cl = false ∧ ∃ k kvs, kof key = some k ∧ (mixKind X.prog X.w).is k u = true ∧ hashK c.w key = keyH c.w k ∧ Rp c G (kV k) key ∧ M3 c G l xs ys kvs ∧ s.heap.DictOf (mixKind X.prog X.w) a kvs)) := by
  obtain ⟨a, ep, hs, xs, ys, rfl, hH, h2, h3, h4, h5⟩ := rpt_dict t g
  obtain ⟨⟨lo, hz, es, ⟨o, ho, hx, hd⟩, he⟩, _⟩ := I.hok _ _ hH
  cases rx
  refine ⟨a, ep, hs, xs, ys, rfl, rfl, hH, lo, by rw [h2, List.length_map], ?_⟩
  cases cl with
  | true =>
    left
    obtain ⟨tl, ks, e1, e2, e3, e4⟩ := kcls_t hc
    obtain ⟨x3, T, ee⟩ := T3.mk I g X.prog C.w.symm he h2 hk h4 h5
    have rk : Rp c G y key := by
      subst e1
      cases tk with
      | of r => exact r
    have rk2 := rk
    rw [e1] at rk2
    cases rk2 with
    | @tup b o2 zs ds z1 z2 z3 =>
      cases ry
      refine ⟨rfl, b, .tup ks, x3, rfl, rfl, e3, ⟨rp_nested I g rk e3 rfl, e4⟩, rk, T, ⟨o, es, ep, ho, hx, hd, ee, ?_, ?_⟩⟩
      · exact fun z hz => T.is z hz
      · have nd := h3.1
        rw [T.nks] at nd
        exact nodup_of_map nd
  | false =>
    right
    obtain ⟨k, k1, k2, k3, k4⟩ := kof_of (c := c) hc
    obtain ⟨kvs, M, pp, hh⟩ := M3.mk X.prog C.w.symm he h2 hk h4 h5
    have ey : y = kV k := by
      cases tk with
      | of r => exact k3 r
      | lst _ _ => cases k1
      | dic _ _ _ _ _ => cases k1
    subst ey
    refine ⟨rfl, k, kvs, k1, kV_is ry, k4, k2 _, M, o, es, ep, ho, hx, hd, fun e he => hh e (by simpa using he), pp, ?_⟩
    have nd := h3.1
    rw [M.nks] at nd
    exact nodup_of_map nd

theorem room1 (C : XC c X) (A : Around) (hA : A.units ≤ X.A.units + 10) : (nestedKind X.prog X.w).room A := by
  show A.units + 8 < cLine
  have := C.hu
  omega
/-- k in d -/
theorem op_dinV (C : XC c X) : Op2 c X (compareOp .In) sDin := by
  intro pins s σ H G x y v u key e r I g rx ry t1 t2 h
  cases e with
  | dict l =>
    have h : (dAsk l key).map (fun o => PyData.bool o.isSome) = some r := h
    obtain ⟨o, h1, rfl⟩ := Option.map_eq_some_iff.mp h
    obtain ⟨cl, k1, k2, rfl⟩ := dAsk_some h1
    obtain ⟨a, ep, hs, xs, ys, rfl, rfl, hH, lo, hl, h2⟩ := d_shape C I g t2 t1 ry rx k1 k2
    rcases h2 with ⟨_, b, k, x3, rfl, rfl, n1, n2, n3, T, D3⟩ | ⟨_, k, kvs, n1, n2, n3, n4, M, D3⟩
    · refine wpAny_in_heap (room1 C _ (by show X.A.units + 1 ≤ _; omega)) n2 lo D3 ⟨.bl _, H, I.tok _, rfl, gr_same g ?_⟩
      rcases T.at n1 with ⟨a1, a2⟩ | ⟨b2, v2, y2, d2, a1, a2, a3, a4⟩
      · rw [a1, a2]; exact .bl _
      · rw [a1, a2]; exact .bl _
    · refine wpAny_in_of n2 lo D3.mapOf ⟨.bl _, H, I.tok _, rfl, gr_same g ?_⟩
      rcases M.at n1 with ⟨a1, a2⟩ | ⟨v2, y2, d2, a1, a2, a3, a4⟩
      · rw [a1, a2]; exact .bl _
      · rw [a1, a2]; exact .bl _
  | _ => cases h
def sDnin (k c : D) : Option D := match c with
  | .dict l => (dAsk l k).map fun o => .bool (!o.isSome)
  | _ => none
theorem op_dninV (C : XC c X) : Op2 c X (compareOp .NotIn) sDnin := by
  intro pins s σ H G x y v u key e r I g rx ry t1 t2 h
  cases e with
  | dict l =>
    have h : (dAsk l key).map (fun o => PyData.bool (!o.isSome)) = some r := h
    obtain ⟨o, h1, rfl⟩ := Option.map_eq_some_iff.mp h
    obtain ⟨cl, k1, k2, rfl⟩ := dAsk_some h1
    obtain ⟨a, ep, hs, xs, ys, rfl, rfl, hH, lo, hl, h2⟩ := d_shape C I g t2 t1 ry rx k1 k2
    rcases h2 with ⟨_, b, k, x3, rfl, rfl, n1, n2, n3, T, D3⟩ | ⟨_, k, kvs, n1, n2, n3, n4, M, D3⟩
    · refine wpAny_notIn_heap (room1 C _ (by show X.A.units + 1 ≤ _; omega)) n2 lo D3 ⟨.bl _, H, I.tok _, rfl, gr_same g ?_⟩
      rcases T.at n1 with ⟨a1, a2⟩ | ⟨b2, v2, y2, d2, a1, a2, a3, a4⟩
      · rw [a1, a2]; exact .bl _
      · rw [a1, a2]; exact .bl _
    · refine wpAny_notIn_of n2 lo D3.mapOf ⟨.bl _, H, I.tok _, rfl, gr_same g ?_⟩
      rcases M.at n1 with ⟨a1, a2⟩ | ⟨v2, y2, d2, a1, a2, a3, a4⟩
      · rw [a1, a2]; exact .bl _
      · rw [a1, a2]; exact .bl _
  | _ => cases h
/-- d[k] -/
theorem ix_dictV (C : XC c X) : IxV c X sDget := by
  intro value slice pins s σ H G x y v u d key r I g rx ry t1 t2 h hs
  cases d with
  | dict l =>
    have h : (dAsk l key).join = some r := h
    rw [Option.join_eq_some_iff] at h
    obtain ⟨cl, k1, k2, h3⟩ := dAsk_some h
    obtain ⟨a, ep, hs', xs, ys, rfl, rfl, hH, lo, hl, h2⟩ := d_shape C I g t1 t2 rx ry k1 k2
    rcases h2 with ⟨_, b, k, x3, rfl, rfl, n1, n2, n3, T, D3⟩ | ⟨_, k, kvs, n1, n2, n3, n4, M, D3⟩
    · rcases T.at n1 with ⟨a1, a2⟩ | ⟨b2, v2, y2, d2, a1, a2, a3, a4⟩
      · rw [a2] at h3; cases h3
      · rw [a2] at h3
        cases h3
        exact tail_any (ops := [.ref a, .ref b]) D3.typeIs slot_dict_getitem.lookup (wpAny_getItem_heap (room1 C _ (by show X.A.units + 1 ≤ _; omega)) n2 D3 a1 ⟨y2, H, I.tok _, a3, gr_same g a4⟩) hs
    · rcases M.at n1 with ⟨a1, a2⟩ | ⟨v2, y2, d2, a1, a2, a3, a4⟩
      · rw [a2] at h3; cases h3
      · rw [a2] at h3
        cases h3
        exact tail_any (ops := [.ref a, u]) D3.typeIs slot_dict_getitem.lookup (wpAny_getItem_of n2 D3.mapOf a1 ⟨y2, H, I.tok _, a3, gr_same g a4⟩) hs
  | _ => cases h
/-- d.get(k, x) -/
def mGet2 (d : D) (ds : List D) : Option D := match ds with
  | [k, x] => sDgetOr d k x
  | _ => none
theorem mt_get2 (C : XC c X) : MtV c X 6 "dict.get" mGet2 (NW c) := by
  intro pins s σ H G x xs v us d ds r I g rx rs t ra hk h
  unfold mGet2 at h
  split at h
  · rename_i key dflt
    cases d with
    | dict l =>
      have h : (dAsk l key).map (fun o => o.getD dflt) = some r := h
      obtain ⟨o, h1, rfl⟩ := Option.map_eq_some_iff.mp h
      obtain ⟨cl, k1, k2, rfl⟩ := dAsk_some h1
      cases ra with
      | @cons yk _ _ _ rk ra =>
        obtain ⟨yd, rfl, rd⟩ := rpa1 ra
        cases rs with
        | @cons _ uk _ _ ruk rs =>
          obtain ⟨ud, rfl, rud⟩ := vals1 rs
          obtain ⟨a, ep, hs', xs, ys, rfl, rfl, hH, lo, hl, h2⟩ := d_shape C I g t (.of (H := H) rk) rx ruk k1 k2
          rcases h2 with ⟨_, b, k, x3, rfl, rfl, n1, n2, n3, T, D3⟩ | ⟨_, k, kvs, n1, n2, n3, n4, M, D3⟩
          · refine call_meetsIn PySem.F.slot_dict_get D3.typeIs PySem.F.entry_dict_get (PySem.F.args_dict_get_3 _ _ _) (meetsH_dict_get_default (nestedKind X.prog X.w) a b lo ud) ⟨room1 C _ (by show X.A.units + 1 ≤ _; omega), k, x3, n2, D3, ?_⟩
            rcases T.at n1 with ⟨a1, a2⟩ | ⟨b2, v2, y2, d2, a1, a2, a3, a4⟩
            · rw [a1, a2]
              exact ⟨yd, H, I.tok _, rud, gr_same g rd⟩
            · rw [a1, a2]
              exact ⟨y2, H, I.tok _, a3, gr_same g a4⟩
          · refine call_meetsIn PySem.F.slot_dict_get D3.typeIs PySem.F.entry_dict_get (PySem.F.args_dict_get_3 _ _ _) (meets_dict_get_default (mixKind X.prog X.w) a n2 lo ud) ⟨_, D3.mapOf, ?_⟩
            rcases M.at n1 with ⟨a1, a2⟩ | ⟨v2, y2, d2, a1, a2, a3, a4⟩
            · rw [a1, a2]
              exact ⟨yd, H, I.tok _, rud, gr_same g rd⟩
            · rw [a1, a2]
              exact ⟨y2, H, I.tok _, a3, gr_same g a4⟩
    | _ => cases h
  · cases h
theorem get2_k {d : D} {ds : List D} {r : D} (h : mGet2 d ds = some r) : kd d = 6 := by
  unfold mGet2 at h
  split at h
  · cases d <;> first | rfl | cases h
  · cases h
theorem ce_get2 {o e f : Expr} {apos cpos : Pos} {p : Pk} {fe ff : Ev} (C : XC c X) (ho : CK c X o p) (he : CE c X e fe) (hf : CE c X f ff)
    (hbase : attributeBase o "get" X.env (eval o X.env) = eval o X.env := by rfl) (hline : (apos.endLine == cpos.line) = true := by rfl) (hs : starEach [e, f] X.env = [(false, eval e X.env), (false, eval f X.env)] := by rfl) (hs2 : starEach [f] X.env = [(false, eval f X.env)] := by rfl) :
    CE c X (.Call (.Attribute o "get" apos) [e, f] [] cpos) (eM mGet2 p (esCons fe (esCons ff esNil))) :=
  ce_m (T := "dict") (k := 6) C rfl (by decide) PySem.F.plainAttrs_dict PySem.F.slot_dict_get PySem.F.type_dict_get (mt_get2 C) (fun _ _ _ h => get2_k h) ho (ca_cons he (ca_cons hf ca_nil hs2) (by rw [hs, hs2])) hbase (by rw [hs]; rfl) hline (by rw [hs, hs2]) (by rw [hs2]; rfl)
end
end VL

set_option Elab.async false
set_option linter.all false
set_option maxRecDepth 100000
/-! V16: dicts made, filled, walked, listed. -/
namespace VL
open PySem PySem.Spec PyProof.Rows L2

def eDnil : Ev := fun ρ => some (.dict [], ρ)
/-- {k: v} -/
def eD1 (k v : Ev) : Ev := fun ρ => match k ρ with
  | some (x, ρ1) => match v ρ1 with
    | some (y, ρ2) => if kcls x = some true then some (.dict [(x, y)], ρ2) else none
    | none => none
  | none => none
section
variable {c : Ct} {X : Cx} {Pr G H : Hp} {σ : L2.St} {ρ ρ' : List O} {pins : List (Addr × Obj)} {s : Shared}
/-- a new dict, ahead of the slots -/
theorem ER.newD {p : Addr} {ep : Nat} {hs : List Int} {xs ys : List V} {l : List (D × D)} (E : ER c Pr G H σ ρ) (n : H p = none) (h1 : hs = l.map fun p => hashK c.w p.1) (h2 : keysNd l) (r1 : RpA c G xs (l.map (·.1))) (r2 : RpA c G ys (l.map (·.2))) :
    ER c Pr G (upd H p (dO p ep hs xs ys)) (some (.ref p) :: σ) (.dic l :: ρ) := by
  obtain ⟨m, nd, ap, sl⟩ := E.own
  have th := sl.there
  have npr : Pr p = none := by
    cases e : Pr p with
    | none => rfl
    | some o => rw [(E.pr p o e).1] at n; cases n
  have ng : G p = none := by
    cases e : G p with
    | none => rfl
    | some o => rw [E.gh p o e] at n; cases n
  have nm : ∀ a ∈ m, a ≠ p := fun a ha e => by
    obtain ⟨u, q⟩ := th a ha
    rw [e, n] at q
    cases q
  refine ⟨fun a o e => ?_, fun a o e => ?_, p :: m, List.nodup_cons.mpr ⟨fun h => nm p h rfl, nd⟩, fun a ha => ?_, [p], m, rfl, ⟨p, ep, hs, xs, ys, rfl, rfl, upd_same, h1, h2, r1, r2⟩, sl.mono (Ge.refl _) fun a ha => upd_ne (nm a ha)⟩
  · obtain ⟨h1, h2⟩ := E.pr a o e
    exact ⟨by rw [upd_ne (ne_of_none h1 n)]; exact h1, h2⟩
  · have h1 := E.gh a o e
    rw [upd_ne (ne_of_none h1 n)]
    exact h1
  · rcases List.mem_cons.mp ha with e | h
    · rw [e]; exact ⟨npr, ng⟩
    · exact ap a h
theorem big_ne (I : Inv X pins σ H s) : (s.heap.objs.size == sysModules) = false := by
  obtain ⟨_, h, _⟩ := dk_empty (P := X.prog) (w := X.w) (H := fun _ => none) s.heap I.big
  exact h
theorem dPhi_new (h : Heap) (lo : (h.objs.size == sysModules) = false) : dPhi h.objs.size 0 [] [] [] (h.push { cls := .type "dict", data := .dict #[] }) :=
  ⟨lo, Nat.zero_le _, #[], ⟨_, Heap.get?_push_size _ rfl, ⟨rfl, rfl, rfl⟩, rfl⟩, .nil⟩
theorem cf_dnil {pos : Pos} : CF c X (.Dict [] [] pos) eDnil := by
  intro pins s σ H Pr G ρ ρ' d I E h
  cases h
  have n : H s.heap.objs.size = none := I.hok.fresh (Nat.le_refl _)
  refine wpAny_Dict_empty ⟨.ref s.heap.objs.size, _, I.laid (a := s.heap.objs.size) (o := dO s.heap.objs.size 0 [] [] []) (t' := s.toks) (fun _ _ q => Heap.get?_push_of_some _ q) (Nat.le_refl _) (dO_ok (dPhi_new s.heap (big_ne I))), rfl, G, .dic [], Ge.refl _, E.newD n rfl ⟨List.nodup_nil, fun p hp => nomatch hp⟩ .nil .nil, .inr ⟨[], rfl, rfl⟩⟩

/-! ### a thing set apart while others are made -/
theorem ER.setA {p : Addr} {o : HO} (E : ER c Pr G H σ ρ) (n : H p = none) : ER c (upd Pr p o) G (upd H p o) σ ρ ∧ Pr p = none := by
  obtain ⟨m, nd, ap, sl⟩ := E.own
  have th := sl.there
  have npr : Pr p = none := by
    cases e : Pr p with
    | none => rfl
    | some o => rw [(E.pr p o e).1] at n; cases n
  have ng : G p = none := by
    cases e : G p with
    | none => rfl
    | some o => rw [E.gh p o e] at n; cases n
  have nm : ∀ a ∈ m, a ≠ p := fun a ha e => by
    obtain ⟨u, q⟩ := th a ha
    rw [e, n] at q
    cases q
  refine ⟨⟨fun a u e => ?_, fun a u e => ?_, m, nd, fun a ha => ?_, sl.mono (Ge.refl _) fun a ha => upd_ne (nm a ha)⟩, npr⟩
  · by_cases h : a = p
    · subst h
      rw [upd_same] at e ⊢
      exact ⟨e, ng⟩
    · rw [upd_ne h] at e ⊢
      exact E.pr a u e
  · have h1 := E.gh a u e
    rw [upd_ne (ne_of_none h1 n)]
    exact h1
  · rw [upd_ne (nm a ha)]
    exact ap a ha
theorem ER.growA {p : Addr} {o o' : HO} (E : ER c (upd Pr p o) G H σ ρ) : ER c (upd Pr p o') G (upd H p o') σ ρ := by
  obtain ⟨m, nd, ap, sl⟩ := E.own
  have gD : G p = none := (E.pr p _ upd_same).2
  have nm : ∀ a ∈ m, a ≠ p := fun a ha e => by
    have := (ap a ha).1
    rw [e, upd_same] at this
    cases this
  refine ⟨fun a u e => ?_, fun a u e => ?_, m, nd, fun a ha => ?_, sl.mono (Ge.refl _) fun a ha => upd_ne (nm a ha)⟩
  · by_cases h : a = p
    · subst h
      rw [upd_same] at e ⊢
      exact ⟨e, gD⟩
    · rw [upd_ne h] at e ⊢
      exact E.pr a u (by rw [upd_ne h]; exact e)
  · have h : a ≠ p := fun h => by rw [h, gD] at e; cases e
    rw [upd_ne h]
    exact E.gh a u e
  · have q := ap a ha
    rw [upd_ne (nm a ha)] at q ⊢
    exact q
theorem ER.apartD {p : Addr} {ep : Nat} {hs : List Int} {xs ys : List V} {l : List (D × D)} (E : ER c (upd Pr p (dO p ep hs xs ys)) G H σ ρ) (n : Pr p = none) (h1 : hs = l.map fun p => hashK c.w p.1) (h2 : keysNd l) (r1 : RpA c G xs (l.map (·.1))) (r2 : RpA c G ys (l.map (·.2))) : ER c Pr G H (some (.ref p) :: σ) (.dic l :: ρ) := by
  obtain ⟨m, nd, ap, sl⟩ := E.own
  obtain ⟨hH, gD⟩ := E.pr p _ upd_same
  have nm : ∀ a ∈ m, a ≠ p := fun a ha e => by
    have := (ap a ha).1
    rw [e, upd_same] at this
    cases this
  refine ⟨fun a o e => E.pr a o (by rw [upd_ne (ne_of_none e n)]; exact e), E.gh, p :: m, List.nodup_cons.mpr ⟨fun h => nm p h rfl, nd⟩, fun a ha => ?_, [p], m, rfl, ⟨p, ep, hs, xs, ys, rfl, rfl, hH, h1, h2, r1, r2⟩, sl⟩
  rcases List.mem_cons.mp ha with e | h
  · rw [e]; exact ⟨n, gD⟩
  · have q := ap a h
    rw [upd_ne (nm a h)] at q
    exact q
/-- a dict as it lies behind a change, by its entries -/
theorem dPhi_T3 (C : XC c X) {a : Addr} {h h0 : Heap} {l : List (D × D)} {xs ys : List V} {x3 : List (NestedKey × Addr × Value)} (lo : (a == sysModules) = false) (hl : l.length ≤ sizeLine) (D3 : h.DictOfH (nestedKind X.prog X.w) a x3) (T : T3 c G h0 l xs ys x3) :
    ∃ ep, dPhi a ep (l.map fun p => hashK c.w p.1) xs ys h ∧ (x3.map (·.1)).Nodup := by
  obtain ⟨o, es, ep, ho, hx, hd, he, his, nd⟩ := D3
  refine ⟨ep, ⟨lo, by rw [List.length_map]; exact hl, es, ⟨o, ho, hx, hd⟩, ?_⟩, nd⟩
  rw [he]
  exact T.ent C.w.symm
theorem dPhi_M3 (C : XC c X) {a : Addr} {h : Heap} {l : List (D × D)} {xs ys : List V} {kvs : List (Key × Value)} (lo : (a == sysModules) = false) (hl : l.length ≤ sizeLine) (D3 : h.DictOf (mixKind X.prog X.w) a kvs) (M : M3 c G l xs ys kvs) :
    ∃ ep, dPhi a ep (l.map fun p => hashK c.w p.1) xs ys h ∧ (kvs.map (·.1)).Nodup := by
  obtain ⟨o, es, ep, ho, hx, hd, hk, pp, nd⟩ := D3
  exact ⟨ep, ⟨lo, by rw [List.length_map]; exact hl, es, ⟨o, ho, hx, hd⟩, M.ent X.prog C.w.symm pp fun e he => hk e (by simpa using he)⟩, nd⟩
theorem T3.nd {h : Heap} {l : List (D × D)} {xs ys : List V} {x3 : List (NestedKey × Addr × Value)} (T : T3 c G h l xs ys x3) (nd : (x3.map (·.1)).Nodup) (hk : ∀ p ∈ l, (kcls p.1).isSome = true) : keysNd l := by
  refine ⟨?_, hk⟩
  rw [T.nks]
  exact List.Pairwise.map _ (fun a b h e => h (Option.some.inj e)) nd
theorem kn_inj {a b : Key} (h : kn a = kn b) : a = b := by
  cases a <;> cases b <;> first | (cases h; rfl) | cases h
theorem M3.nd {l : List (D × D)} {xs ys : List V} {kvs : List (Key × Value)} (M : M3 c G l xs ys kvs) (nd : (kvs.map (·.1)).Nodup) (hk : ∀ p ∈ l, (kcls p.1).isSome = true) : keysNd l := by
  refine ⟨?_, hk⟩
  rw [M.nks]
  exact List.Pairwise.map _ (fun a b h e => h (kn_inj (Option.some.inj e))) nd
theorem dput_mem {key d : D} : ∀ {l : List (D × D)}, ∀ p ∈ dput key d l, p.1 = key ∨ ∃ q ∈ l, q.1 = p.1
  | [], p, h => by
    cases List.mem_singleton.mp h
    exact .inl rfl
  | q :: l, p, h => by
    have h : p ∈ (if PyData.eqv q.1 key = true then (q.1, d) :: l else q :: dput key d l) := h
    split at h
    · rcases List.mem_cons.mp h with e | h
      · exact .inr ⟨q, List.mem_cons_self, by rw [e]⟩
      · exact .inr ⟨p, List.mem_cons_of_mem _ h, rfl⟩
    · rcases List.mem_cons.mp h with e | h
      · exact .inr ⟨q, List.mem_cons_self, by rw [e]⟩
      · rcases dput_mem p h with e | ⟨z, hz, e⟩
        · exact .inl e
        · exact .inr ⟨z, List.mem_cons_of_mem _ hz, e⟩
theorem dput_len {key d : D} : ∀ l : List (D × D), (dput key d l).length ≤ l.length + 1
  | [] => Nat.le_refl _
  | q :: l => by
    show (if PyData.eqv q.1 key = true then (q.1, d) :: l else q :: dput key d l).length ≤ _
    split
    · simp
    · have := dput_len (key := key) (d := d) l
      simp only [List.length_cons]
      omega
/-- {k: v}, the key a tuple -/
theorem cf_d1 {k v : Expr} {pos : Pos} {fk fv : Ev} (C : XC c X) (hk : CE c X k fk) (hv : CE c X v fv) : CF c X (.Dict [some k] [v] pos) (eD1 fk fv) := by
  intro pins s σ H Pr G ρ ρ' d I E h
  unfold eD1 at h
  split at h
  · rename_i x ρ1 h1
    split at h
    · rename_i y ρ2 h2
      split at h
      · rename_i hc
        cases h
        have n : H s.heap.objs.size = none := I.hok.fresh (Nat.le_refl _)
        have lo := big_ne I
        have I1 := I.laid (a := s.heap.objs.size) (o := dO s.heap.objs.size 0 [] [] []) (t' := s.toks) (h' := s.heap.push { cls := .type "dict", data := .dict #[] }) (fun _ _ q => Heap.get?_push_of_some _ q) (Nat.le_refl _) (dO_ok (dPhi_new s.heap lo))
        obtain ⟨E1, npr⟩ := E.setA (o := dO s.heap.objs.size 0 [] [] []) n
        rw [arm_eval_Dict, zip_pairTrees [some k] [v] X.env pos rfl rfl, dictDisplay_pairs (pairTrees [some k] [v] X.env pos) (by intro q; cases q) (by rw [pairTrees_length [some k] [v] X.env pos rfl rfl]; show 1 < 17; decide)]
        refine wpAny_bind (wpAny_standAt (wpAny_bind (wpAny_subDictH (knd := nestedKind X.prog X.w) (Q := fun d s' => wpAny (model X.prog X.w) X.A (pure (Value.ref d)) (EP X pins σ (PostF c Pr G σ ρ' (.dict [(x, y)]))) X.xe s') (room1 C _ (by omega)) (by rw [pairTrees_length [some k] [v] X.env pos rfl rfl]; show 1 ≤ 15; decide) ?_)))
        refine pairTrees_cons_walk (thn (hk pins _ σ _ _ G ρ ρ1 x I1 E1 h1) fun u s2 ⟨xv, H2, I2, r2, G2, g2, E2, q2⟩ => thn (hv pins s2 σ H2 _ G2 ρ1 ρ' y I2 E2 h2) fun w2 s3 ⟨yv, H3, I3, r3, G3, g3, E3, q3⟩ => pairTrees_nil_walk ?_)
        obtain ⟨tl, ks, e1, e2, e3, e4⟩ := kcls_t hc
        have q2' := q2
        rw [e1] at q2'
        cases q2' with
        | @tup b o zs ds z1 z2 z3 =>
          cases r2
          have nis : NestedIs s3.heap (.tup ks) (.ref b) := rp_nested I3 E3.gh (q2.mono g3) e3 rfl
          obtain ⟨hp, gp⟩ := E3.pr _ _ upd_same
          obtain ⟨⟨_, hz, es, ⟨o, ho, hx, hd⟩, he⟩, _⟩ := I3.hok _ _ hp
          refine ⟨[(.tup ks, b, w2)], ⟨rfl, rfl, ⟨nis, e4⟩, trivial⟩, ⟨o, es, 0, ho, hx, hd, ?_, (fun z hz => by cases hz), List.nodup_nil⟩, fun h' tk D3 hs => wpAny_pure ?_⟩
          · generalize es.toList = q at he
            cases he
            rfl
          have T : T3 c G3 s3.heap [(x, y)] [.ref b] [yv] [(.tup ks, b, w2)] := .cons e3 nis e4 (q2.mono g3) r3 q3 .nil
          obtain ⟨ep, ph, nd⟩ := dPhi_T3 (l := [(x, y)]) C lo (by show 1 ≤ sizeLine; decide) D3 T
          have hes : ∃ q, h'.get? s.heap.objs.size = some q := let ⟨q, _, _, hq, _⟩ := D3; ⟨q, hq⟩
          exact ⟨.ref s.heap.objs.size, _, d_write I3 (by rw [hp]; exact True.intro) hs hes (dO_ok ph), rfl, G3, .dic [(x, y)], g2.trans g3, E3.growA.apartD npr rfl (T.nd nd fun p hp => by cases List.mem_singleton.mp hp; rw [hc]; rfl) T.rpa.1 T.rpa.2.1, .inr ⟨_, rfl, rfl⟩⟩
      · cases h
    · cases h
  · cases h

/-! ### name[k] = e -/
/-- a slot's own dict is changed -/
theorem ER.writeD {i : Nat} {l l' : List (D × D)} {ep : Nat} {hs : List Int} {xs ys : List V} {a : Addr} (E : ER c Pr G H σ ρ) (hi : ρ[i]? = some (.dic l)) (hs0 : σ[i]? = some (some (.ref a))) (h1 : hs = l'.map fun p => hashK c.w p.1) (h2 : keysNd l') (r1 : RpA c G xs (l'.map (·.1))) (r2 : RpA c G ys (l'.map (·.2))) : ER c Pr G (upd H a (dO a ep hs xs ys)) σ (ρ.set i (.dic l')) := by
  obtain ⟨m, nd, ap, sl⟩ := E.own
  obtain ⟨s0, m1, m2, e1, p, ⟨a', ep', hs', xs', ys', e2, e3, h3, h4, h5, h6, h7⟩, k⟩ := sl.at hi
  rw [hs0] at e1
  cases e1
  cases e2
  subst e3
  have ha := ap a (p.mem_iff.mpr (by simp))
  have nd2 := p.nodup_iff.mp nd
  have nm : ∀ b ∈ m2, b ≠ a := fun b hb e => by
    subst e
    exact (List.nodup_append.mp nd2).2.2 b (by simp) b hb rfl
  obtain ⟨m', pm, sm⟩ := k G (upd H a (dO a ep hs xs ys)) (some (.ref a)) (.dic l') [a] (Ge.refl _) (fun b hb => upd_ne (nm b hb)) ⟨a, ep, hs, xs, ys, rfl, rfl, upd_same, h1, h2, r1, r2⟩
  rw [set_same hs0] at sm
  refine ⟨fun b o e => ?_, fun b o e => ?_, m', pm.nodup_iff.mpr nd2, fun b hb => ap b (p.mem_iff.mpr (pm.mem_iff.mp hb)), sm⟩
  · rw [upd_ne (ne_of_none e ha.1)]
    exact E.pr b o e
  · rw [upd_ne (ne_of_none e ha.2)]
    exact E.gh b o e
theorem ER.dicAt {i : Nat} {l : List (D × D)} (E : ER c Pr G H σ ρ) (hi : ρ[i]? = some (.dic l)) : ∃ a ep hs xs ys, σ[i]? = some (some (.ref a)) ∧ H a = some (dO a ep hs xs ys) ∧ hs = l.map (fun p => hashK c.w p.1) ∧ keysNd l ∧ RpA c G xs (l.map (·.1)) ∧ RpA c G ys (l.map (·.2)) := by
  obtain ⟨m, nd, ap, sl⟩ := E.own
  obtain ⟨s0, m1, m2, e1, p, ⟨a', ep', hs', xs', ys', e2, e3, h3, h4, h5, h6, h7⟩, k⟩ := sl.at hi
  subst e2
  exact ⟨a', ep', hs', xs', ys', e1, h3, h4, h5, h6, h7⟩
theorem sPut_some {i : Nat} {k e : Ev} {z : Fl × List O} (h : sPut i k e ρ = some z) : ∃ v ρ1 key ρ2 l cl, e ρ = some (v, ρ1) ∧ k ρ1 = some (key, ρ2) ∧ ρ2[i]? = some (.dic l) ∧ kcls key = some cl ∧ keysAre cl l = true ∧ l.length < LIM ∧ z = (.nx, ρ2.set i (.dic (dput key v l))) := by
  unfold sPut at h
  split at h
  · rename_i v ρ1 h1
    split at h
    · rename_i key ρ2 h2
      split at h
      · rename_i l h3
        split at h
        · rename_i o h4
          split at h
          · rename_i h5
            cases h
            obtain ⟨cl, k1, k2, _⟩ := dAsk_some h4
            exact ⟨v, ρ1, key, ρ2, l, cl, h1, h2, h3, k1, k2, h5, rfl⟩
          · cases h
        · cases h
      · cases h
    · cases h
  · cases h
theorem cs_put {i : Nat} {x : Str} {xp pos' pos : Pos} {ke e : Expr} {fk fe : Ev} (C : XC c X) (hN : X.N[i]? = some x) (hv : Vis X.env.scope x) (hk : CE c X ke fk) (he : CE c X e fe)
    (hst : ∀ ρ z, fk ρ = some z → ∀ l, z.2[i]? = some (.dic l) → ρ[i]? = some (.dic l))
    (hs : swapsWith e (some (.Subscript (.Name x xp) ke pos')) pos.line X.env = pure false := by rfl) (hd : (x == ("__debug__" : Str)) = false := by decide) (hcd : (x == ("__classdict__" : Str)) = false := by decide) :
    CS c X (.Assign [.Subscript (.Name x xp) ke pos'] e pos) (sPut i fk fe) := ⟨fun pins s σ H D0 I ⟨Pr, G, ρ, fl, ρ', E, q, kk⟩ => by
  obtain ⟨v, ρ1, key, ρ2, l, cl, h1, h2, h3, k1, k2, h5, h6⟩ := sPut_some q
  cases h6
  refine wpAny_Assign_Subscript (thn (he pins s σ H Pr G ρ ρ1 v I E h1) fun r s1 ⟨vv, H1, I1, rv, G1, g1, E1, q1⟩ => ?_) hs
  obtain ⟨a, ep0, hs0, xs0, ys0, e0, _⟩ := E1.dicAt (hst ρ1 _ h2 l h3)
  refine (pe_var hN hv hd hcd).run pins s1 σ H1 (fun w' H' => ∀ u s', Inv X pins σ H' s' → RelV w' u → _) I1 ⟨.ref a, e0, fun u s2 I2 ru => ?_⟩ |> fun h => thn h fun u s2 ⟨w', H', I2, ru, f⟩ => f u s2 I2 ru
  cases ru
  refine thn (hk pins s2 σ H1 Pr G1 ρ1 ρ2 key I2 E1 h2) fun iv s3 ⟨y, H3, I3, ry, G3, g3, E3, q3⟩ => ?_
  obtain ⟨a', ep, hs', xs, ys, e1, hH, g1', g2', g3', g4'⟩ := E3.dicAt h3
  rw [e0] at e1
  cases e1
  have big : LIM ≤ sizeLine := by decide
  have hl1 := dput_len (key := key) (d := v) l
  have hkd : ∀ p ∈ dput key v l, (kcls p.1).isSome = true := fun p hp => by
    rcases dput_mem p hp with e | ⟨z, hz, e⟩
    · rw [e, k1]; rfl
    · rw [← e]; exact g2'.2 z hz
  obtain ⟨a2, ep2, hs2, xs2, ys2, ea, eu, hH2, lo, hl, h7⟩ := d_shape C I3 E3.gh (.dic hH g1' g2' g3' g4') (.of (H := H3) q3) (x := .ref a) (v := .ref a) rfl ry k1 k2
  cases ea
  rw [hH] at hH2
  have hH2 := Option.some.inj hH2
  rcases h7 with ⟨_, b, k, x3, rfl, rfl, n1, n2, n3, T, D3⟩ | ⟨_, k, kvs, n1, n2, n3, n4, M, D3⟩
  · have nd : (x3.map (·.1)).Nodup := let ⟨_, _, _, _, _, _, _, _, nd⟩ := D3; nd
    obtain ⟨xs', ys', T'⟩ := T.put n1 n2.1 n2.2 n3 rv (q1.mono g3) nd
    refine wpAny_setItem_heap (hsz := by rw [T.rpa.2.2.2]; omega) (room1 C _ (by show X.A.units + 1 ≤ _; omega)) n2 D3 fun h' D4 sb => ?_
    obtain ⟨ep4, ph, nd4⟩ := dPhi_T3 (l := dput key v l) C lo (by omega) D4 T'
    have hes : ∃ q, h'.get? a = some q := let ⟨q, _, _, hq, _⟩ := D4; ⟨q, hq⟩
    have I4 := d_write (t' := s3.toks + (nestedKind X.prog X.w).draws k) I3 (by rw [hH]; exact True.intro) sb hes (dO_ok ph)
    exact ⟨σ, _, I4, kk σ _ G3 (g1.trans g3) (E3.writeD h3 e0 rfl (T'.nd nd4 hkd) T'.rpa.1 T'.rpa.2.1)⟩
  · have nd : (kvs.map (·.1)).Nodup := let ⟨_, _, _, _, _, _, _, _, nd⟩ := D3; nd
    obtain ⟨xs', ys', M'⟩ := M.put n1 n3 n4 rv (q1.mono g3) nd
    refine wpAny_setItem_pairs (hsz := by rw [M.rpa.2.2]; omega) n2 D3 fun h' D4 sb => ?_
    obtain ⟨ep4, ph, nd4⟩ := dPhi_M3 (l := dput key v l) C lo (by omega) D4 M'
    have hes : ∃ q, h'.get? a = some q := let ⟨q, _, _, hq, _⟩ := D4; ⟨q, hq⟩
    have I4 := d_write (t' := s3.toks + 1) I3 (by rw [hH]; exact True.intro) sb hes (dO_ok ph)
    exact ⟨σ, _, I4, kk σ _ G3 (g1.trans g3) (E3.writeD h3 e0 rfl (M'.nd nd4 hkd) M'.rpa.1 M'.rpa.2.1)⟩⟩
end
end VL

set_option Elab.async false
set_option linter.all false
set_option maxRecDepth 100000
/-! V17: dicts walked, listed; lists reversed, extended, popped. -/
namespace VL
open PySem PySem.Spec PyProof.Rows L2 PySem.W

/-- the items of a list, a tuple; the keys of a dict -/
def iSeqA (a : Ev) : Iv := fun ρ => match a ρ with
  | some (.list l, ρ1) => some (l, ρ1)
  | some (.tuple l, ρ1) => some (l, ρ1)
  | some (.dict l, ρ1) => some (l.map (·.1), ρ1)
  | _ => none
section
variable {c : Ct} {X : Cx} {Pr G H : Hp} {σ : L2.St} {ρ ρ' : List O} {pins : List (Addr × Obj)} {s : Shared}
theorem Ent.len : ∀ {es : List DictEntry} {hs : List Int} {xs ys : List V}, Ent es hs xs ys → es.length = xs.length ∧ hs.length = xs.length ∧ ys.length = xs.length
  | _, _, _, _, .nil => ⟨rfl, rfl, rfl⟩
  | _, _, _, _, .cons h r1 r2 t => by
    obtain ⟨a, b, d⟩ := t.len
    simp only [List.length_cons]
    omega
def Itd (a : Addr) (ep : Nat) (hs : List Int) (xs ys : List V) : It :=
  ⟨fun i H => H a = some (dO a ep hs xs ys) ∧ i < xs.length, fun i H x H' => H' = H ∧ xs[i]? = some x, fun i H => H a = some (dO a ep hs xs ys) ∧ xs.length ≤ i⟩
theorem turn_dict {P : Program} {w : World} {K : PySem.W.Frag} {tg : Expr} (a it : Addr) (hne : a ≠ it) (ep : Nat) (hs : List Int) (xs ys : List V) : Turn P w K tg (Itd a ep hs xs ys) [it] it (fun i h => h.IsKeyIter it a i xs.length ep) where
  mem := by simp
  obj := fun i h st b hb => by
    have e : b = it := by simpa using hb
    subst e
    obtain ⟨o, e, c, d⟩ := st
    exact ⟨o, e, fun v z => by rw [d] at z; cases z⟩
  keep := fun i h h' st k => st.at fun o e => k it (by simp) o e
  item := by
    intro X hP hw hK hc i pins s σ H E I hf st hg
    subst hP hw hK
    obtain ⟨hH, hi⟩ := hg
    obtain ⟨⟨lo, hz, es, hraw, he⟩, _⟩ := I.hok _ _ hH
    obtain ⟨v1, v2, v3⟩ := he.keys
    have hl := he.len.1
    have hsz : es.size = xs.length := by simpa using hl
    obtain ⟨f0, f1, f2, f3, f4, f5⟩ := hf it (by simp)
    have hi2 : i < es.size := by omega
    rw [← hsz] at st
    refine wpAny_pyNext_keys_item_raw st hraw hi2 fun h' st' sb => ?_
    have I1 : Inv X pins σ H { s with heap := h' } := I.turned (t' := s.toks) (fun b o hb e => (sb.2 b hb).trans e) f0 f1 f3 f4 f5
    obtain ⟨o, e, c, d⟩ := id st'
    have hx : xs[i]? = some xs[i] := by simp [hi]
    obtain ⟨u, hu, ru⟩ := v1.get hx
    have eu : u = es[i].key := by
      rw [List.getElem?_map, Array.getElem?_toList] at hu
      simp [hi2] at hu
      exact hu.symm
    subst eu
    rw [hsz] at st'
    exact ⟨_, rfl, go_of (s := { s with heap := h' }) e c d (by decide) ⟨xs[i], H, I1, ru, ⟨rfl, hx⟩, st', fun b hb => (hf b hb).1⟩⟩
  done := by
    intro X hP hw hK hc i pins s σ H E I hf st hg
    subst hP hw hK
    obtain ⟨hH, hi⟩ := hg
    obtain ⟨⟨lo, hz, es, hraw, he⟩, _⟩ := I.hok _ _ hH
    have hsz : es.size = xs.length := by simpa using he.len.1
    obtain ⟨f0, f1, f2, f3, f4, f5⟩ := hf it (by simp)
    rw [← hsz] at st
    exact wpAny_pyNext_keys_end_raw (I.ok.hd hc) st hraw (by omega) fun h' eb => ⟨rfl, I.turned (t' := s.toks) (fun b o hb e => eb b o hb e) f0 f1 f3 f4 f5⟩
  self := fun _ _ _ _ _ st h => wpAny_pyIter_keyiter st h
theorem ci_seqA {tg e : Expr} {f : Ev} (C : XC c X) (h : CE c X e f) : CI c X tg e (iSeqA f) := by
  refine ⟨fun pins s σ H R I ⟨Pr, G, ρ, xs, ρ', E, q, k⟩ => ?_⟩
  unfold iSeqA at q
  split at q
  · rename_i l ρ1 hf
    cases q
    exact (ci_seq (tg := tg) C h).run pins s σ H R I ⟨Pr, G, ρ, xs, ρ', E, by unfold iSeq; rw [hf], k⟩
  · rename_i l ρ1 hf
    cases q
    exact (ci_seq (tg := tg) C h).run pins s σ H R I ⟨Pr, G, ρ, xs, ρ', E, by unfold iSeq; rw [hf], k⟩
  · rename_i l ρ1 hf
    cases q
    refine thn (h pins s σ H Pr G ρ ρ' _ I E hf) fun v s1 ⟨x, H1, I1, r1, G1, g1, E1, q1⟩ => ?_
    cases q1 with
    | @dic a ep hs xs ys l hG h2 h3 h4 h5 =>
      cases r1
      have hH := E1.gh _ _ hG
      obtain ⟨⟨lo, hz, es, hraw, he⟩, _⟩ := I1.hok _ _ hH
      have hsz : es.size = xs.length := by simpa using he.len.1
      refine wpAny_pyIter_dict_raw lo hraw ?_
      have hlt : a < s1.heap.objs.size := let ⟨_, ho, _⟩ := hraw; Heap.lt_size ho
      refine ⟨s1.heap.objs.size, [s1.heap.objs.size], _, _, H1, rfl, I1.kept (t' := s1.toks) fun b o e => Heap.get?_push_of_some _ e, turn_dict a _ (Nat.ne_of_lt hlt) ep hs xs ys, ⟨_, Heap.get?_push_size _ rfl, rfl, by rw [← hsz]; rfl⟩, fun b hb => ?_, k _ G1 H1 g1 E1 ?_⟩
      · have e : b = s1.heap.objs.size := by simpa using hb
        subst e
        exact I1.fpOk (Nat.le_refl _) (I1.hok.fresh (Nat.le_refl _))
      · have hlen := h4.length
        refine ⟨by rw [← hlen]; rw [he.len.2.1] at hz; exact hz, fun G3 H3 g3 gh i d hd => ?_, fun G3 H3 g3 gh => ⟨gh _ _ (g3 _ _ hG), Nat.le_of_eq hlen⟩⟩
        obtain ⟨v, hv, rv⟩ := h4.get hd
        refine ⟨⟨gh _ _ (g3 _ _ hG), (List.getElem?_eq_some_iff.mp hv).1⟩, fun x H' ⟨eH, y⟩ => ?_⟩
        subst eH
        rw [hv] at y
        cases y
        exact ⟨G3, Gr.refl gh, rv.mono g3⟩
  · cases q
/-! ### len(d), list(d) -/
def sLenD : D → Option D
  | .dict l => some (.int l.length)
  | _ => none
def sListD : D → Option D
  | .dict l => some (.list (l.map (·.1)))
  | _ => none
theorem op_lenDV (C : XC c X) : Op1 c X (fun v => call (.builtin "len") [v]) sLenD := by
  intro pins s σ H G x v d r I g rx t e
  cases d with
  | dict l =>
    cases e
    obtain ⟨a, ep, hs, xs, ys, rfl, hH, h2, h3, h4, h5⟩ := rpt_dict t g
    obtain ⟨⟨lo, hz, es, hraw, he⟩, _⟩ := I.hok _ _ hH
    cases rx
    have hsz : es.size = l.length := by
      have h1 : es.size = xs.length := by simpa using he.len.1
      have h2 := h4.length
      rw [List.length_map] at h2
      omega
    rw [h2, List.length_map] at hz
    have e63 : (2 : Int) ^ 63 = 9223372036854775808 := by decide
    refine PyProof.Rows.call_len_slot (n := (l.length : Int)) hraw.typeIs PySem.F.slot_dict_len (fun Q' hq => call_len_raw lo hraw (by rw [hsz]; exact hq)) (by omega) (by rw [sizeLine_eq] at hz; omega) ⟨.int _, H, I.tok _, ⟨_, rfl⟩, gr_same g (.int _)⟩
  | _ => cases e
theorem fp_listDV (C : XC c X) : Fp1 c X (fun v => call (.type "list") [v]) sListD := by
  intro pins s σ H G x v d r I g rx t e
  cases d with
  | dict l =>
    cases e
    obtain ⟨a, ep, hs, xs, ys, rfl, hH, h2, h3, h4, h5⟩ := rpt_dict t g
    obtain ⟨⟨lo, hz, es, hraw, he⟩, _⟩ := I.hok _ _ hH
    obtain ⟨v1, v2, v3⟩ := he.keys
    cases rx
    have hn : es.size ≤ sizeLine := by
      rw [v3] at hz
      simpa using hz
    refine PySem.W.kdl_call (KdlSrc.rawDict lo (es := es) (ep := ep)) (I.ok.hd C.calm) hraw hn fun h' tk acc c' kh hS hacc => ?_
    have e2 : acc.toList = es.toList.map (·.key) := by
      refine List.ext_getElem? fun i => ?_
      by_cases hi : i < acc.size
      · obtain ⟨hi2, e3⟩ := hacc.2 i acc[i] (by simp [hi])
        have e4 : i < es.toList.length := by simpa using hi2
        rw [Array.getElem?_toList, List.getElem?_map, Array.getElem?_toList]
        simp [hi, hi2, e3]
      · have e4 : ¬ i < es.size := by rw [← hacc.1]; exact hi
        rw [Array.getElem?_toList, List.getElem?_map, Array.getElem?_toList]
        simp [hi, e4]
    have n : H s.heap.objs.size = none := I.hok.fresh (Nat.le_refl _)
    have hl := he.len.1
    refine ⟨.ref s.heap.objs.size, upd H s.heap.objs.size (.lst xs), I.laid (o := .lst xs) (t' := tk) kh (Nat.le_refl _) ⟨by rw [← hl]; simpa using hn, es.toList.map (·.key), c', v1, ?_⟩, rfl, G, H, _, xs, _, Gr.refl g, rfl, n, rfl, rfl, h4⟩
    rw [← e2, Array.toArray_toList]
    exact hS
  | _ => cases e
/-! ### l[::-1] -/
def sRevL : D → Option D
  | .list l => some (.list l.reverse)
  | _ => none
theorem rpa_rev : ∀ {xs : List V} {l : List D}, RpA c G xs l → RpA c G xs.reverse l.reverse
  | _, _, .nil => .nil
  | _, _, .cons h r => by
    rw [List.reverse_cons, List.reverse_cons]
    exact (rpa_rev r).append (.cons h .nil)
theorem cf_rev {e : Expr} {f : Ev} {k : Nat} {p1 p2 p3 pos : Pos} (C : XC c X) (he : CE c X e f) : CF c X (.Subscript e (.Slice none none (some (.UnaryOp .USub (.Constant (.int 1) k p1) p2)) p3) pos) (o1 sRevL (kE f)) := by
  intro pins s σ H Pr G ρ ρ' d I E h
  obtain ⟨t, d1, h1, h2, h3⟩ := o1_some h
  obtain ⟨d2, h4, h5⟩ := kE_some h1
  have h5 : t = fun _ => some d2 := h5
  subst h5
  cases h2
  cases d1 with
  | list l =>
    cases h3
    refine (pe_revL he.pe).run pins s σ H _ I ⟨Pr, G, ρ, _, ρ', E, h4, fun v H' ⟨G', g, E', rp⟩ => ?_⟩
    cases rp with
    | lst sq ra => exact ⟨_, _, rfl, by rw [C.K]; exact Ge.sqL E'.gh sq, fun p n => ⟨G', .lst _, g, E'.newL n (rpa_rev ra), .inl ⟨_, rfl, rfl⟩⟩⟩
  | _ => cases h3
/-! ### l.extend(new list), l.pop() of a slot's own list -/
def sExt (i : Nat) (e : Ev) : Sm := fun ρ => match ρ[i]? with
  | some (.lst _) => match e ρ with
    | some (.list m, ρ1) => match ρ1[i]? with
      | some (.lst l) => if l.length + m.length ≤ LIM then some (.nx, ρ1.set i (.lst (l ++ m))) else none
      | _ => none
    | _ => none
  | _ => none
def ePop (i : Nat) : Ev := fun ρ => match ρ[i]? with
  | some (.lst l) => match l.getLast? with
    | some d => some (d, ρ.set i (.lst l.dropLast))
    | none => none
  | _ => none
theorem ER.lstAt {i : Nat} {l : List D} (E : ER c Pr G H σ ρ) (hi : ρ[i]? = some (.lst l)) : ∃ a xs, σ[i]? = some (some (.ref a)) ∧ H a = some (.lst xs) ∧ RpA c G xs l := by
  obtain ⟨m, nd, ap, sl⟩ := E.own
  obtain ⟨s0, m1, m2, e1, p, ⟨a', xs, e2, e3, h3, h4⟩, kk⟩ := sl.at hi
  subst e2
  exact ⟨a', xs, e1, h3, h4⟩
theorem rpa_dropLast : ∀ {xs : List V} {l : List D}, RpA c G xs l → RpA c G xs.dropLast l.dropLast := by
  intro xs l r
  rw [List.dropLast_eq_take, List.dropLast_eq_take, r.length]
  exact r.take _
theorem ce_pop {i : Nat} {x : Str} {xp apos cpos : Pos} (hN : X.N[i]? = some x) (hv : Vis X.env.scope x)
    (hd : (x == ("__debug__" : Str)) = false := by decide) (hcd : (x == ("__classdict__" : Str)) = false := by decide)
    (hbase : attributeBase (.Name x xp) "pop" X.env (eval (.Name x xp) X.env) = eval (.Name x xp) X.env := by rfl) (hline : (apos.endLine == cpos.line) = true := by rfl) :
    CE c X (.Call (.Attribute (.Name x xp) "pop" apos) [] [] cpos) (ePop i) := by
  intro pins s σ H Pr G ρ ρ' d I E h
  unfold ePop at h
  split at h
  · rename_i l h0
    split at h
    · rename_i d' h1
      cases h
      obtain ⟨a, xs, e0, hA, ra⟩ := E.lstAt h0
      refine (pe_bm0 PySem.F.plainAttrs_list PySem.F.slot_list_pop PySem.F.type_list_pop mt_pop (pe_var hN hv hd hcd) hbase hline).run pins s σ H _ I ⟨.ref a, e0, .inl ⟨rfl, xs, .inl (.inl hA)⟩, ?_⟩
      rw [List.getLast?_eq_getElem?] at h1
      obtain ⟨v, hv, rv⟩ := ra.get h1
      rw [← ra.length] at hv
      refine ⟨a, xs, v, rfl, rfl, hA, hv, G, Ge.refl _, E.writeL h0 e0 (rpa_dropLast ra), rv⟩
    · cases h
  · cases h
theorem cs_ext {i : Nat} {x : Str} {xp apos cpos pos : Pos} {e : Expr} {f : Ev} (hN : X.N[i]? = some x) (hv : Vis X.env.scope x) (he : CF c X e f) (hs : swapsWith (.Call (.Attribute (.Name x xp) "extend" apos) [e] [] cpos) none pos.line X.env = pure false := by rfl)
    (hd : (x == ("__debug__" : Str)) = false := by decide) (hcd : (x == ("__classdict__" : Str)) = false := by decide)
    (hbase : attributeBase (.Name x xp) "extend" X.env (eval (.Name x xp) X.env) = eval (.Name x xp) X.env := by rfl) (hst : starEach [e] X.env = (false, eval e X.env) :: starEach [] X.env := by rfl) (hline : (apos.endLine == cpos.line) = true := by rfl) :
    CS c X (.Expr (.Call (.Attribute (.Name x xp) "extend" apos) [e] [] cpos) pos) (sExt i f) := ⟨fun pins s σ H D0 I ⟨Pr, G, ρ, fl, ρ', E, q, k⟩ => by
  unfold sExt at q
  split at q
  · rename_i l0 h0
    split at q
    · rename_i m ρ1 h1
      split at q
      · rename_i l h2
        split at q
        · rename_i hz
          cases q
          refine (ps_expr (pe_bm PySem.F.plainAttrs_list PySem.F.slot_list_extend PySem.F.type_list_extend mt_extend (pe_var hN hv hd hcd) (pa_cons he.pe pa_nil hst) hbase (by rw [hst]; rfl) hline hst rfl) hs).run pins s σ H D0 I ?_
          obtain ⟨a0, xs0, e0, hA0, _⟩ := E.lstAt h0
          refine ⟨.ref a0, e0, .inl ⟨rfl, xs0, .inl (.inl hA0)⟩, Pr, G, ρ, _, ρ1, E, h1, fun y H' ⟨G', o', g, E', ho⟩ => ?_⟩
          rcases ho with ⟨m', rfl, em⟩ | ⟨m', rfl, em⟩
          · cases em
            obtain ⟨b, zs, eb, hB, rb⟩ := E'.lstAt (i := 0) rfl
            cases eb
            obtain ⟨a1, xs1, e1, hA1, ra⟩ := E'.lstAt (i := i + 1) (by simpa using h2)
            have e1 : σ[i]? = some (some (.ref a1)) := by simpa using e1
            rw [e0] at e1
            cases e1
            have big : LIM ≤ sizeLine := by decide
            have l1 := ra.length
            have l2 := rb.length
            refine ⟨a0, b, xs1, zs, rfl, rfl, hA1, hB, by omega, ?_⟩
            have E2 := (E'.writeL (i := i + 1) (l' := l ++ m) (by simpa using h2) (by simpa using e0) (ra.append rb)).tail
            exact k σ _ G' g E2
          · cases em
        · cases q
      · cases q
    · cases q
  · cases q⟩
end
end VL

set_option Elab.async false
set_option linter.all false
set_option maxRecDepth 100000
/-! V18: no slot becomes a dict by being read; one operation for all kinds, II. -/
namespace VL
open PySem PySem.Spec PyProof.Rows L2

/-- what an expression leaves in a slot as a dict of its own was one before -/
def FzR (ρ ρ' : List O) : Prop := ∀ (i : Nat) (l : List (D × D)), ρ'[i]? = some (O.dic l) → ρ[i]? = some (O.dic l)
theorem FzR.refl (ρ : List O) : FzR ρ ρ := fun _ _ h => h
theorem FzR.trans {a b c : List O} (x : FzR a b) (y : FzR b c) : FzR a c := fun i l h => x i l (y i l h)
theorem FzR.set {ρ : List O} {i : Nat} {o : O} (h : ∀ l, o ≠ O.dic l) : FzR ρ (ρ.set i o) := fun j l e => by
  by_cases q : i = j
  · subst q
    by_cases hl : i < ρ.length
    · rw [List.getElem?_set_self hl] at e
      exact absurd (Option.some.inj e) (h l)
    · rw [List.getElem?_eq_none (by rw [List.length_set]; omega)] at e
      cases e
  · rw [List.getElem?_set_ne q] at e
    exact e
class Fz (e : Ev) : Prop where
  fz : ∀ ρ z, e ρ = some z → FzR ρ z.2
class FzK (e : Pk) : Prop where
  fz : ∀ ρ z, e ρ = some z → FzR ρ z.2
class FzS (e : Evs) : Prop where
  fz : ∀ ρ z, e ρ = some z → FzR ρ z.2
section
variable {a b e : Ev} {p q r : Pk} {es : Evs}
instance (d : D) : Fz (eC d) := ⟨fun ρ z h => by cases h; exact .refl _⟩
instance (i : Nat) : Fz (eV i) := ⟨fun ρ z h => by
  unfold eV at h
  split at h
  · cases h; exact .refl _
  · cases h; exact .set fun _ q => nomatch q
  · cases h; exact .set fun _ q => nomatch q
  · cases h⟩
instance (i : Nat) : FzK (kP i) := ⟨fun ρ z h => by
  unfold kP at h
  split at h
  · cases h; exact .refl _
  · cases h⟩
instance [Fz a] : FzK (kE a) := ⟨fun ρ z h => by
  obtain ⟨d, h1, _⟩ := kE_some h
  exact Fz.fz (e := a) ρ _ h1⟩
instance {f : D → Option D} [FzK p] : Fz (o1 f p) := ⟨fun ρ z h => by
  obtain ⟨t, d, h1, _⟩ := o1_some h
  exact FzK.fz (e := p) ρ _ h1⟩
instance {f : D → D → Option D} [FzK p] [FzK q] : Fz (o2 f p q) := ⟨fun ρ z h => by
  unfold o2 at h
  split at h
  · rename_i t ρ1 h1
    split at h
    · rename_i u ρ2 h2
      split at h
      · split at h
        · cases h
          exact (FzK.fz (e := p) ρ _ h1).trans (FzK.fz (e := q) ρ1 _ h2)
        · cases h
      · cases h
    · cases h
  · cases h⟩
instance {f : D → D → D → Option D} [FzK p] [FzK q] [FzK r] : Fz (o3 f p q r) := ⟨fun ρ z h => by
  obtain ⟨t, u, v, ρ1, ρ2, x, y, w, h1, h2, h3, _⟩ := o3_some h
  exact ((FzK.fz (e := p) ρ _ h1).trans (FzK.fz (e := q) ρ1 _ h2)).trans (FzK.fz (e := r) ρ2 _ h3)⟩
instance : FzS esNil := ⟨fun ρ z h => by cases h; exact .refl _⟩
instance [Fz a] [FzS es] : FzS (esCons a es) := ⟨fun ρ z h => by
  unfold esCons at h
  split at h
  · rename_i x ρ1 h1
    split at h
    · rename_i xs ρ2 h2
      cases h
      exact (Fz.fz (e := a) ρ (x, ρ1) h1).trans (FzS.fz (e := es) ρ1 (xs, ρ2) h2)
    · cases h
  · cases h⟩
instance [FzS es] : Fz (eTup es) := ⟨fun ρ z h => by
  unfold eTup at h
  split at h
  · rename_i x ρ1 h1
    split at h
    · cases h
      exact FzS.fz (e := es) ρ _ h1
    · cases h
  · cases h⟩
instance [FzS es] : Fz (eLst es) := ⟨fun ρ z h => by
  unfold eLst at h
  split at h
  · rename_i x ρ1 h1
    split at h
    · cases h
      exact FzS.fz (e := es) ρ _ h1
    · cases h
  · cases h⟩
instance {φ : List D → Option D} [FzS es] : Fz (eCall φ es) := ⟨fun ρ z h => by
  obtain ⟨ds, h1, _⟩ := eCall_some h
  exact FzS.fz (e := es) ρ _ h1⟩
instance {f : D → List D → Option D} [FzK p] [FzS es] : Fz (eM f p es) := ⟨fun ρ z h => by
  obtain ⟨t, ρ1, d0, ds, d, h1, h2, h3, _⟩ := eM_some h
  exact (FzK.fz (e := p) ρ _ h1).trans (FzS.fz (e := es) ρ1 _ h3)⟩
theorem fz_tgo {t : Tg} {d : D} {ρ ρ' : List O} (h : tgo t d ρ = some ρ') : FzR ρ ρ' := by
  have key : ∀ (is : List Nat) (ds : List D) (ρ ρ' : List O), setAll is ds ρ = some ρ' → FzR ρ ρ' := by
    intro is
    induction is with
    | nil =>
      intro ds ρ ρ' h
      cases ds with
      | nil => cases h; exact .refl _
      | cons => cases h
    | cons i is ih =>
      intro ds ρ ρ' h
      cases ds with
      | nil => cases h
      | cons d ds => exact (FzR.set (i := i) (o := .val d) fun _ q => nomatch q).trans (ih ds _ _ h)
  cases t with
  | one i => cases h; exact .set fun _ q => nomatch q
  | many is =>
    cases d with
    | tuple ds => exact key is ds ρ ρ' h
    | _ => cases h
theorem fz_wipe (ρ : List O) : ∀ vs : List Nat, FzR ρ (wipeO ρ vs)
  | [] => .refl _
  | v :: vs => (fz_wipe ρ vs).trans (.set fun _ q => nomatch q)
end
/-- turns that are enough where a slot's number falls -/
def muI (i : Nat) : List O → Nat := fun ρ => match ρ[i]? with
  | some (.val (.int n)) => n.toNat + 1
  | _ => 0
/-! ### combined -/
def sInA : D → D → Option D := or2 sIn sDin
def sNinA : D → D → Option D := or2 sNin sDnin
def sIxA : D → D → Option D := or2 sIx sDget
def sLenA : D → Option D := or1 sLen sLenD
def sListA : D → Option D := or1 sListS sListD
section
variable {c : Ct} {X : Cx} {Pr G H : Hp} {σ : L2.St} {ρ ρ' : List O} {pins : List (Addr × Obj)} {s : Shared}
theorem op_inA (C : XC c X) : Op2 c X (compareOp .In) sInA := (op_inV C).or (op_dinV C)
theorem op_ninA (C : XC c X) : Op2 c X (compareOp .NotIn) sNinA := (op_ninV C).or (op_dninV C)
theorem op_lenA (C : XC c X) : Op1 c X (fun v => call (.builtin "len") [v]) sLenA := (op_lenV C).or (op_lenDV C)
theorem IxV.or {f1 f2 : D → D → Option D} (h1 : IxV c X f1) (h2 : IxV c X f2) : IxV c X (or2 f1 f2) := fun value slice pins s σ H G x y v u d e r I hg rx ry t1 t2 q hs => by
  unfold or2 at q
  split at q
  · rename_i z e1
    cases q
    exact h1 value slice pins s σ H G x y v u d e _ I hg rx ry t1 t2 e1 hs
  · exact h2 value slice pins s σ H G x y v u d e r I hg rx ry t1 t2 q hs
theorem ix_A (C : XC c X) : IxV c X sIxA := (ix_seqV C).or (ix_dictV C)
theorem Fp1.or {g : Value → Sem Value} {f1 f2 : D → Option D} (h1 : Fp1 c X g f1) (h2 : Fp1 c X g f2) : Fp1 c X g (or1 f1 f2) := fun pins s σ H G x v d r I hg rx t q => by
  unfold or1 at q
  split at q
  · rename_i z e1
    cases q
    exact h1 pins s σ H G x v d _ I hg rx t e1
  · exact h2 pins s σ H G x v d r I hg rx t q
theorem fp_listA (C : XC c X) : Fp1 c X (fun v => call (.type "list") [v]) sListA := (fp_listV C).or (fp_listDV C)
theorem cs_putF {i : Nat} {x : Str} {xp pos' pos : Pos} {ke e : Expr} {fk fe : Ev} [Fz fk] (C : XC c X) (hk : CE c X ke fk) (he : CE c X e fe) (hN : X.N[i]? = some x := by rfl) (hv : Vis X.env.scope x := by first | exact .inl rfl | exact .inr (.inl rfl) | exact .inr (.inr rfl))
    (hs : swapsWith e (some (.Subscript (.Name x xp) ke pos')) pos.line X.env = pure false := by rfl) (hd : (x == ("__debug__" : Str)) = false := by decide) (hcd : (x == ("__classdict__" : Str)) = false := by decide) :
    CS c X (.Assign [.Subscript (.Name x xp) ke pos'] e pos) (sPut i fk fe) := cs_put C hN hv hk he (fun ρ z h l e => Fz.fz (e := fk) ρ z h i l e) hs hd hcd
end
end VL

set_option Elab.async false
set_option linter.all false
set_option maxRecDepth 100000
/-! V19: enumerate. -/
namespace VL
open PySem PySem.Spec PyProof.Rows L2

section
variable {KF : PySem.W.Frag}
theorem meets_enumerate_newT (l : Addr) (items : Array Value) (n : Nat) (dct : Option Addr) (sl : Array (Option Value)) :
    Meets (Builtin.«enumerate.__new__» ⟨[.type "enumerate", .ref l], []⟩) (fun _ R s => s.heap.get? l = some { cls := .type "tuple", dict := dct, data := .seq items n, slots := sl } ∧
      R (.ok (.ret (.ref (s.heap.push { cls := .type "tuple_iterator", data := .fields #[.ref l, .int 0 0] }).objs.size)))
        { s with heap := (s.heap.push { cls := .type "tuple_iterator", data := .fields #[.ref l, .int 0 0] }).push { cls := .type "enumerate", data := .fields #[.none, .bool false, .ref s.heap.objs.size, rawInt 0, .none, .none] } }) :=
  .of_wp fun prog w A R s h => by
    obtain ⟨hp, g, d, tk, os⟩ := s; obtain ⟨hl, h⟩ := h
    have hsub := sub_enumerate
    have hL : Heap.IsTuple (Shared.heap ⟨hp, g, d, tk, os⟩) l items := ⟨_, hl, rfl, n, rfl⟩
    wp_walk using AutoSeq1.wpAny_loadPart' hl
    refine wpAny_stack_any fun st => wpAny_pure ?_
    split
    · rename_i c _ _ _ _ _
      cases (c == Value.type "enumerate")
      · wp_walk using AutoSeq1.wpAny_loadPart' hl, wpAny_pyIter_tuple hL
        exact ⟨_, rfl, h⟩
      · wp_walk using AutoSeq1.wpAny_loadPart' hl, wpAny_pyIter_tuple hL
        exact ⟨_, rfl, h⟩
    · wp_walk using AutoSeq1.wpAny_loadPart' hl, wpAny_pyIter_tuple hL
      exact ⟨_, rfl, h⟩
theorem call_enumerate_tuple {prog : Program} {w : World} {A : Around} {E : Value → Shared → Prop} {s : Shared} {l : Addr} {items : Array Value} {Q : Value → Shared → Prop} (hL : s.heap.IsTuple l items)
    (h : ∀ h', IsEnum h' (s.heap.objs.size + 1) s.heap.objs.size 0 .none → h'.IsTupleIter s.heap.objs.size l 0 → h'.objs.size = s.heap.objs.size + 2 →
      (∀ b o, s.heap.get? b = some o → h'.get? b = some o) → Q (.ref (s.heap.objs.size + 1)) { s with heap := h' }) :
    wpAny (model prog w) A (call (.type "enumerate") [.ref l]) Q E s := by
  obtain ⟨⟨c, dct, dt, sl⟩, hl, hc, n, hd⟩ := hL
  replace hc : c = .type "tuple" := hc
  replace hd : dt = .seq items n := hd
  subst hc hd
  refine callType_new PySem.F.called_enumerate (by decide) (PySem.F.typeCall_enumerate_1 _) (PySem.F.newCall_enumerate_1 _) (fun obj => PySem.F.args_object_init_2 obj _) PySem.F.entry_enumerate_new
    (meets_enumerate_newT l items n dct sl) ⟨hl, ?_⟩
  have hz : (s.heap.push { cls := .type "tuple_iterator", data := .fields #[.ref l, .int 0 0] }).objs.size = s.heap.objs.size + 1 := Heap.size_push ..
  show _ ∧ _
  rw [hz]
  have he : IsEnum ((s.heap.push { cls := .type "tuple_iterator", data := .fields #[.ref l, .int 0 0] }).push
      { cls := .type "enumerate", data := .fields #[.none, .bool false, .ref s.heap.objs.size, rawInt 0, .none, .none] }) (s.heap.objs.size + 1) s.heap.objs.size 0 .none := by
    have := Heap.get?_push_size (s.heap.push { cls := .type "tuple_iterator", data := .fields #[.ref l, .int 0 0] })
      (o := { cls := .type "enumerate", data := .fields #[.none, .bool false, .ref s.heap.objs.size, rawInt 0, .none, .none] }) rfl
    rw [hz] at this; exact this
  refine ⟨⟨_, he, rfl⟩, h _ he ⟨_, Heap.get?_push_of_some _ (Heap.get?_push_size _ rfl), rfl, rfl⟩ (by rw [Heap.size_push, hz]) fun b o x => Heap.get?_push_of_some _ (Heap.get?_push_of_some _ x)⟩

/-- enumerate(list): each item in a new pair -/
def ItEL (a : Addr) (xs : List V) : It :=
  ⟨fun i H => SqL KF H a xs ∧ i < xs.length, fun i H v H' => ∃ T o x, v = .ref T ∧ H T = none ∧ o.dict = none ∧ H' = upd H T (.frz o (.tup [.int (i : Nat), x])) ∧ xs[i]? = some x, fun i H => SqL KF H a xs ∧ xs.length = i⟩
theorem turn_enumL {P : Program} {w : World} {K : PySem.W.Frag} {elts : List Expr} {kk : Nat} {tpos : Pos} (a e it : Addr) (xs : List V) (hit : a ≠ it) :
    Turn P w K (.Tuple elts kk tpos) (ItEL (KF := K) a xs) [e, it] e (fun i h => (∃ old, IsEnum h e it ((i : Nat) : Int) old) ∧ h.IsListIter it a i ∧ e ≠ it ∧ e ≠ a) where
  mem := by simp
  obj := fun i h st b hb => by
    obtain ⟨⟨old, he⟩, ⟨o, ho, hc, hd⟩, _⟩ := st
    have e' : b = e ∨ b = it := by simpa using hb
    rcases e' with z | z
    · rw [z]; exact ⟨_, he, fun v q => nomatch q⟩
    · rw [z]; exact ⟨o, ho, fun v q => by rw [hd] at q; cases q⟩
  keep := fun i h h' st k => let ⟨⟨old, he⟩, hi, hne⟩ := st; ⟨⟨old, k e (by simp) _ he⟩, hi.at fun o q => k it (by simp) o q, hne⟩
  item := by
    intro X hP hw hK hc i pins s σ H E I hf st hg
    subst hP hw hK
    obtain ⟨⟨old, he⟩, hti, hne, hea⟩ := st
    obtain ⟨hq, hi⟩ := hg
    obtain ⟨its, rv, p, hz⟩ := I.list hq
    have hx : xs[i]? = some xs[i] := by simp [hi]
    obtain ⟨u, hu, ru⟩ := rv.get hx
    have hl := rv.length
    have hel : e < s.heap.objs.size := Heap.lt_size he
    have hil : it < s.heap.objs.size := by obtain ⟨_, q, _⟩ := hti; exact Heap.lt_size q
    have hh : X.A.in1.handled = none := I.ok.hd hc
    refine wpAny_pyNext_enum_itemD (Draws.list hh it a hit its.toArray) he ⟨hti, p.isList⟩ (by simp; omega) hne (fun q => by
      rcases List.mem_cons.mp q with z | q
      · exact hne z
      · exact hea (List.mem_singleton.mp q)) fun x h' tk hPx ho hit' hT hsz hk => ?_
    have ex : x = u := by
      have h1 : its[i]? = some x := by simpa using hPx
      rw [hu] at h1
      exact (Option.some.inj h1).symm
    subst ex
    refine ⟨_, rfl, wpAny_letOwnedTupleGo_enum (s := { s with heap := h', toks := tk + 1 }) ho fun h'' he' sb => ?_⟩
    have hT2 : h''.get? s.heap.objs.size = some { cls := .type "tuple", data := .seq #[.int i tk, x] } := (sb.2 _ (Nat.ne_of_gt hel)).trans hT
    have new : ObjOk X.prog X.w (upd H s.heap.objs.size (.frz { cls := .type "tuple", data := .seq #[.int i tk, x] } (.tup [.int (i : Nat), xs[i]]))) h'' s.heap.objs.size (.frz { cls := .type "tuple", data := .seq #[.int i tk, x] } (.tup [.int (i : Nat), xs[i]])) :=
      ⟨hT2, by show 2 ≤ sizeLine; decide, [.int i tk, x], .cons ⟨_, rfl⟩ (.cons ru .nil), ⟨_, hT2, rfl, _, rfl⟩⟩
    have I1 : Inv X pins σ (upd H s.heap.objs.size (.frz { cls := .type "tuple", data := .seq #[.int i tk, x] } (.tup [.int (i : Nat), xs[i]]))) { s with heap := h'', toks := tk + 1 } :=
      I.turnedNew (ch := [e, it]) (fun b ob hb q => (sb.2 b (fun z => hb (by simp [z]))).trans (hk b ob (fun z => hb (by simp [z])) (fun z => hb (by simp [z])) q)) hf (Nat.le_refl _) new
    refine ⟨.ref s.heap.objs.size, _, I1, rfl, ⟨_, _, xs[i], rfl, I.hok.fresh (Nat.le_refl _), rfl, rfl, hx⟩, ⟨⟨x, ?_⟩, hit'.1.at fun o q => (sb.2 it (Ne.symm hne)).trans q, hne, hea⟩, fun b hb => ?_⟩
    · have e1 : ((i + 1 : Nat) : Int) = (i : Int) + 1 := by omega
      rw [e1]; exact he'
    · have hb' : b < s.heap.objs.size := by
        have e' : b = e ∨ b = it := by simpa using hb
        rcases e' with z | z
        · rw [z]; exact hel
        · rw [z]; exact hil
      rw [upd_ne (Nat.ne_of_lt hb')]
      exact (hf b hb).1
  done := by
    intro X hP hw hK hc i pins s σ H E I hf st hg
    subst hP hw hK
    obtain ⟨⟨old, he⟩, hti, hne, hea⟩ := st
    obtain ⟨hq, hx⟩ := hg
    obtain ⟨its, rv, p, hz⟩ := I.list hq
    obtain ⟨f0, f1, f2, f3, f4, f5⟩ := hf it (by simp)
    have hl := rv.length
    have hh : X.A.handled = none := I.ok.hd hc
    exact wpAny_pyNext_enum_end hh he hti p.isList (by simp; omega) fun h' eb => ⟨rfl, I.turned (t' := s.toks) (fun b o hb q => eb b o hb q) f0 f1 f3 f4 f5⟩
  self := fun A i s Q E st h => let ⟨⟨_, he⟩, _⟩ := st; wpAny_pyIter_enum he h

/-- enumerate(tuple): each item in a new pair -/
def ItET (a : Addr) (xs : List V) : It :=
  ⟨fun i H => SqT KF H a xs ∧ i < xs.length, fun i H v H' => ∃ T o x, v = .ref T ∧ H T = none ∧ o.dict = none ∧ H' = upd H T (.frz o (.tup [.int (i : Nat), x])) ∧ xs[i]? = some x, fun i H => SqT KF H a xs ∧ xs.length = i⟩
theorem turn_enumT {P : Program} {w : World} {K : PySem.W.Frag} {elts : List Expr} {kk : Nat} {tpos : Pos} (a e it : Addr) (xs : List V) (hit : a ≠ it) :
    Turn P w K (.Tuple elts kk tpos) (ItET (KF := K) a xs) [e, it] e (fun i h => (∃ old, IsEnum h e it ((i : Nat) : Int) old) ∧ h.IsTupleIter it a i ∧ e ≠ it ∧ e ≠ a) where
  mem := by simp
  obj := fun i h st b hb => by
    obtain ⟨⟨old, he⟩, ⟨o, ho, hc, hd⟩, _⟩ := st
    have e' : b = e ∨ b = it := by simpa using hb
    rcases e' with z | z
    · rw [z]; exact ⟨_, he, fun v q => nomatch q⟩
    · rw [z]; exact ⟨o, ho, fun v q => by rw [hd] at q; cases q⟩
  keep := fun i h h' st k => let ⟨⟨old, he⟩, hi, hne⟩ := st; ⟨⟨old, k e (by simp) _ he⟩, hi.at fun o q => k it (by simp) o q, hne⟩
  item := by
    intro X hP hw hK hc i pins s σ H E I hf st hg
    subst hP hw hK
    obtain ⟨⟨old, he⟩, hti, hne, hea⟩ := st
    obtain ⟨hq, hi⟩ := hg
    obtain ⟨its, rv, p, hz⟩ := I.tuple hq
    have hx : xs[i]? = some xs[i] := by simp [hi]
    obtain ⟨u, hu, ru⟩ := rv.get hx
    have hl := rv.length
    have hel : e < s.heap.objs.size := Heap.lt_size he
    have hil : it < s.heap.objs.size := by obtain ⟨_, q, _⟩ := hti; exact Heap.lt_size q
    have hh : X.A.in1.handled = none := I.ok.hd hc
    refine wpAny_pyNext_enum_itemD (Draws.tuple hh it a hit its.toArray) he ⟨hti, p⟩ (by simp; omega) hne (fun q => by
      rcases List.mem_cons.mp q with z | q
      · exact hne z
      · exact hea (List.mem_singleton.mp q)) fun x h' tk hPx ho hit' hT hsz hk => ?_
    have ex : x = u := by
      have h1 : its[i]? = some x := by simpa using hPx
      rw [hu] at h1
      exact (Option.some.inj h1).symm
    subst ex
    refine ⟨_, rfl, wpAny_letOwnedTupleGo_enum (s := { s with heap := h', toks := tk + 1 }) ho fun h'' he' sb => ?_⟩
    have hT2 : h''.get? s.heap.objs.size = some { cls := .type "tuple", data := .seq #[.int i tk, x] } := (sb.2 _ (Nat.ne_of_gt hel)).trans hT
    have new : ObjOk X.prog X.w (upd H s.heap.objs.size (.frz { cls := .type "tuple", data := .seq #[.int i tk, x] } (.tup [.int (i : Nat), xs[i]]))) h'' s.heap.objs.size (.frz { cls := .type "tuple", data := .seq #[.int i tk, x] } (.tup [.int (i : Nat), xs[i]])) :=
      ⟨hT2, by show 2 ≤ sizeLine; decide, [.int i tk, x], .cons ⟨_, rfl⟩ (.cons ru .nil), ⟨_, hT2, rfl, _, rfl⟩⟩
    have I1 : Inv X pins σ (upd H s.heap.objs.size (.frz { cls := .type "tuple", data := .seq #[.int i tk, x] } (.tup [.int (i : Nat), xs[i]]))) { s with heap := h'', toks := tk + 1 } :=
      I.turnedNew (ch := [e, it]) (fun b ob hb q => (sb.2 b (fun z => hb (by simp [z]))).trans (hk b ob (fun z => hb (by simp [z])) (fun z => hb (by simp [z])) q)) hf (Nat.le_refl _) new
    refine ⟨.ref s.heap.objs.size, _, I1, rfl, ⟨_, _, xs[i], rfl, I.hok.fresh (Nat.le_refl _), rfl, rfl, hx⟩, ⟨⟨x, ?_⟩, hit'.1.at fun o q => (sb.2 it (Ne.symm hne)).trans q, hne, hea⟩, fun b hb => ?_⟩
    · have e1 : ((i + 1 : Nat) : Int) = (i : Int) + 1 := by omega
      rw [e1]; exact he'
    · have hb' : b < s.heap.objs.size := by
        have e' : b = e ∨ b = it := by simpa using hb
        rcases e' with z | z
        · rw [z]; exact hel
        · rw [z]; exact hil
      rw [upd_ne (Nat.ne_of_lt hb')]
      exact (hf b hb).1
  done := by
    intro X hP hw hK hc i pins s σ H E I hf st hg
    subst hP hw hK
    obtain ⟨⟨old, he⟩, hti, hne, hea⟩ := st
    obtain ⟨hq, hx⟩ := hg
    obtain ⟨its, rv, p, hz⟩ := I.tuple hq
    obtain ⟨f0, f1, f2, f3, f4, f5⟩ := hf it (by simp)
    have hl := rv.length
    have hh : X.A.handled = none := I.ok.hd hc
    exact (by
      have e3 : its.toArray.size = i := by simp; omega
      subst e3
      exact wpAny_pyNext_enum_endD (Draws.tuple (show X.A.in1.handled = none from hh) it a hit its.toArray) he ⟨hti, p⟩ fun h' eb => ⟨rfl, I.turned (t' := s.toks) (fun b o hb q => eb b o hb q) f0 f1 f3 f4 f5⟩)
  self := fun A i s Q E st h => let ⟨⟨_, he⟩, _⟩ := st; wpAny_pyIter_enum he h
end
theorem pair_rp {c : Ct} {G H : Hp} {T : Addr} {o : Obj} {i : Nat} {x : V} {d : D} (g : Ge G H) (n : H T = none) (ho : o.dict = none) (r : Rp c G x d) : ∃ G', Gr G H G' (upd H T (.frz o (.tup [.int (i : Nat), x]))) ∧ Rp c G' (.ref T) (.tuple [.int (i : Nat), d]) := by
  have gr := Gr.laid (o := .frz o (.tup [.int (i : Nat), x])) g n
  exact ⟨_, gr, .tup upd_same ho (.cons (.int _) (.cons (r.mono gr.ge) .nil))⟩
/-- the items with their places -/
def numb (l : List D) : List D := (List.range l.length).map fun (i : Nat) => .tuple [.int (i : Int), l.getD i .none]
def iEnum (a : Ev) : Iv := fun ρ => match a ρ with
  | some (.list l, ρ1) => some (numb l, ρ1)
  | some (.tuple l, ρ1) => some (numb l, ρ1)
  | _ => none
theorem numb_at {l : List D} {i : Nat} {d : D} (h : (numb l)[i]? = some d) : ∃ x, l[i]? = some x ∧ d = .tuple [.int (i : Int), x] := by
  unfold numb at h
  rw [List.getElem?_map] at h
  by_cases hi : i < l.length
  · rw [List.getElem?_range hi] at h
    refine ⟨l[i], by simp [hi], ?_⟩
    have := (Option.some.inj h).symm
    simpa [hi] using this
  · rw [List.getElem?_eq_none (by simpa using hi)] at h
    cases h
theorem ci_enum {c : Ct} {X : Cx} {e : Expr} {f : Ev} {p pos tpos : Pos} {elts : List Expr} {kk : Nat} (C : XC c X) (hg : Gl X "enumerate") (h : CE c X e f) (hs : starEach [e] X.env = [(false, eval e X.env)] := by rfl) :
    CI c X (.Tuple elts kk tpos) (.Call (.Name "enumerate" p) [e] [] pos) (iEnum f) := by
  refine ⟨fun pins s σ H R I ⟨Pr, G, ρ, xs, ρ', E, q, k⟩ => ?_⟩
  refine Call_ (ld_blt I hg (C.blt _ (by decide)) boot_enumerate (PyProof.Rows.callWith_type1 (spl1 (t := pure .none) hs ?_) hs rfl))
  have hlen : ∀ l : List D, (numb l).length = l.length := fun l => by simp [numb]
  unfold iEnum at q
  split at q
  · rename_i l ρ1 hf
    cases q
    refine thn (h pins s σ H Pr G ρ ρ' _ I E hf) fun v s1 ⟨x, H1, I1, r1, G1, g1, E1, q1⟩ => ?_
    cases q1 with
    | @lst a vs _ sq ra =>
      cases r1
      have sq' : SqL X.K H1 a vs := by rw [C.K]; exact Ge.sqL E1.gh sq
      obtain ⟨its, rv, p', hz⟩ := I1.list sq'
      have hal : a < s1.heap.objs.size := let ⟨_, ho, _⟩ := p'.isList; Heap.lt_size ho
      refine call_enumerate_list p'.isList fun h' he hit hsz hk => wpAny_pyIter_enum he ?_
      have I2 : Inv X pins σ H1 { s1 with heap := h' } := I1.kept (t' := s1.toks) hk
      refine ⟨s1.heap.objs.size + 1, [s1.heap.objs.size + 1, s1.heap.objs.size], _, _, H1, rfl, I2, turn_enumL a (s1.heap.objs.size + 1) s1.heap.objs.size vs (Nat.ne_of_lt hal), ⟨⟨.none, he⟩, hit, Nat.succ_ne_self _, Nat.ne_of_gt (Nat.lt_succ_of_lt hal)⟩, fun b hb => ?_, k _ G1 H1 g1 E1 ⟨by rw [hlen, ← ra.length]; exact hz, fun G3 H3 g3 gh i d hd => ?_, fun G3 H3 g3 gh => ⟨by rw [C.K]; exact Ge.sqL (g3.trans gh) sq, by rw [hlen, ra.length]⟩⟩⟩
      · have e' : b = s1.heap.objs.size + 1 ∨ b = s1.heap.objs.size := by simpa using hb
        have hle : s1.heap.objs.size ≤ b := by
          rcases e' with z | z
          · rw [z]; exact Nat.le_add_right _ _
          · rw [z]; exact Nat.le_refl _
        exact I1.fpOk hle (I1.hok.fresh hle)
      · obtain ⟨x, hx, rfl⟩ := numb_at hd
        obtain ⟨v, hv, rv⟩ := ra.get hx
        refine ⟨⟨by rw [C.K]; exact Ge.sqL (g3.trans gh) sq, (List.getElem?_eq_some_iff.mp hv).1⟩, fun x' H' ⟨T, o, y, e1, n, ho, e2, hy⟩ => ?_⟩
        subst e1 e2
        rw [hv] at hy
        cases hy
        exact pair_rp gh n ho (rv.mono g3)
  · rename_i l ρ1 hf
    cases q
    refine thn (h pins s σ H Pr G ρ ρ' _ I E hf) fun v s1 ⟨x, H1, I1, r1, G1, g1, E1, q1⟩ => ?_
    cases q1 with
    | @tup a o vs _ sq0 nd ra =>
      cases r1
      have sq : SqT c.K G1 a vs := .inl (.inr ⟨o, sq0⟩)
      have sq' : SqT X.K H1 a vs := by rw [C.K]; exact Ge.sqT E1.gh sq
      obtain ⟨its, rv, p', hz⟩ := I1.tuple sq'
      have hal : a < s1.heap.objs.size := let ⟨_, ho, _⟩ := p'; Heap.lt_size ho
      refine call_enumerate_tuple p' fun h' he hit hsz hk => wpAny_pyIter_enum he ?_
      have I2 : Inv X pins σ H1 { s1 with heap := h' } := I1.kept (t' := s1.toks) hk
      refine ⟨s1.heap.objs.size + 1, [s1.heap.objs.size + 1, s1.heap.objs.size], _, _, H1, rfl, I2, turn_enumT a (s1.heap.objs.size + 1) s1.heap.objs.size vs (Nat.ne_of_lt hal), ⟨⟨.none, he⟩, hit, Nat.succ_ne_self _, Nat.ne_of_gt (Nat.lt_succ_of_lt hal)⟩, fun b hb => ?_, k _ G1 H1 g1 E1 ⟨by rw [hlen, ← ra.length]; exact hz, fun G3 H3 g3 gh i d hd => ?_, fun G3 H3 g3 gh => ⟨by rw [C.K]; exact Ge.sqT (g3.trans gh) sq, by rw [hlen, ra.length]⟩⟩⟩
      · have e' : b = s1.heap.objs.size + 1 ∨ b = s1.heap.objs.size := by simpa using hb
        have hle : s1.heap.objs.size ≤ b := by
          rcases e' with z | z
          · rw [z]; exact Nat.le_add_right _ _
          · rw [z]; exact Nat.le_refl _
        exact I1.fpOk hle (I1.hok.fresh hle)
      · obtain ⟨x, hx, rfl⟩ := numb_at hd
        obtain ⟨v, hv, rv⟩ := ra.get hx
        refine ⟨⟨by rw [C.K]; exact Ge.sqT (g3.trans gh) sq, (List.getElem?_eq_some_iff.mp hv).1⟩, fun x' H' ⟨T, o, y, e1, n, ho, e2, hy⟩ => ?_⟩
        subst e1 e2
        rw [hv] at hy
        cases hy
        exact pair_rp gh n ho (rv.mono g3)
  · cases q
end VL

set_option Elab.async false
set_option linter.all false
set_option maxRecDepth 100000
/-! V20: the items of a dict: walked, sorted. -/
namespace VL
open PySem PySem.Spec PyProof.Rows L2 PySem.W

def prs (l : List (D × D)) : List D := l.map fun p => .tuple [p.1, p.2]
section
variable {c : Ct} {X : Cx} {Pr G H : Hp} {σ : L2.St} {ρ ρ' : List O} {pins : List (Addr × Obj)} {s : Shared}
/-- new pairs that lie there are tracked -/
theorem take_pairs {s0 : Shared} {H0 : Hp} (I0 : Inv X pins σ H0 s0) : ∀ (as : List Addr) (es : List DictEntry) {hs : List Int} {xs ys : List V} {l : List (D × D)} {G H : Hp} {s : Shared}, Inv X pins σ H s → Ge G H → as.Nodup → (∀ a ∈ as, s0.heap.objs.size ≤ a ∧ H a = none) →
    (∀ (j : Nat) (a : Addr), as[j]? = some a → ∃ e, es[j]? = some e ∧ s.heap.get? a = some { cls := .type "tuple", data := .seq #[e.key, e.val] }) → as.length = es.length → Ent es hs xs ys → RpA c G xs (l.map (·.1)) → RpA c G ys (l.map (·.2)) →
    ∃ G' H', Gr G H G' H' ∧ Inv X pins σ H' s ∧ RpA c G' (as.map V.ref) (prs l)
  | [], es, hs, xs, ys, l, G, H, s, I, g, nd, fr, hp, hl, he, r1, r2 => by
    have e0 : es = [] := List.length_eq_zero_iff.mp hl.symm
    subst e0
    cases he
    cases l with
    | nil => exact ⟨G, H, Gr.refl g, I, .nil⟩
    | cons p l => cases r1
  | a :: as, es, hs, xs, ys, l, G, H, s, I, g, nd, fr, hp, hl, he, r1, r2 => by
    cases he with
    | nil => simp at hl
    | @cons e es h hs x y xs ys f1 f2 f3 f4 =>
      cases l with
      | nil => cases r1
      | cons p l =>
        cases r1 with
        | cons q1 r1 =>
          cases r2 with
          | cons q2 r2 =>
            obtain ⟨e', z1, z2⟩ := hp 0 a rfl
            have z1 := Option.some.inj z1
            subst z1
            obtain ⟨hsz, hn⟩ := fr a List.mem_cons_self
            obtain ⟨nd1, nd2⟩ := List.nodup_cons.mp nd
            have new : ObjOk X.prog X.w (upd H a (.frz { cls := .type "tuple", data := .seq #[e.key, e.val] } (.tup [x, y]))) s.heap a (.frz { cls := .type "tuple", data := .seq #[e.key, e.val] } (.tup [x, y])) :=
              ⟨z2, by show 2 ≤ sizeLine; decide, [e.key, e.val], .cons f2 (.cons f3 .nil), ⟨_, z2, rfl, _, rfl⟩⟩
            have gr := Gr.laid (o := .frz { cls := .type "tuple", data := .seq #[e.key, e.val] } (.tup [x, y])) g hn
            have I1 : Inv X pins σ (upd H a (.frz { cls := .type "tuple", data := .seq #[e.key, e.val] } (.tup [x, y]))) s := by
              have := I.take (h' := s.heap) (t' := s.toks) (fun b ob _ e => e) (I0.fpOk hsz hn) new
              exact this
            obtain ⟨G', H', gr', I', ra⟩ := take_pairs I0 as es (l := l) I1 gr.gh nd2 (fun b hb => ⟨(fr b (List.mem_cons_of_mem _ hb)).1, by
              rw [upd_ne fun e => nd1 (by rw [← e]; exact hb)]
              exact (fr b (List.mem_cons_of_mem _ hb)).2⟩) (fun j b hj => hp (j + 1) b hj) (by simpa using hl) f4 (r1.mono gr.ge) (r2.mono gr.ge)
            refine ⟨G', H', gr.trans gr', I', .cons (.tup (gr'.ge _ _ upd_same) rfl (.cons (q1.mono (gr.ge.trans gr'.ge)) (.cons (q2.mono (gr.ge.trans gr'.ge)) .nil))) ra⟩
theorem nodup_rise {as : List Addr} (h : as.Pairwise (· < ·)) : as.Nodup := h.imp fun h => Nat.ne_of_lt h

/-! ### sorted(d.items()) -/
def sSortedIt : D → Option D
  | .dict l => if sortable (prs l) then some (.list (isort (prs l))) else none
  | _ => none
theorem prs_len (l : List (D × D)) : (prs l).length = l.length := by simp [prs]
theorem cf_sortedIt {o : Expr} {p : Pk} {pn apos cpos pos : Pos} (C : XC c X) (hg : Gl X "sorted") (ho : CK c X o p)
    (hbase : attributeBase o "items" X.env (eval o X.env) = eval o X.env := by rfl) (hline : (apos.endLine == cpos.line) = true := by rfl)
    (hs : starEach [.Call (.Attribute o "items" apos) [] [] cpos] X.env = [(false, eval (.Call (.Attribute o "items" apos) [] [] cpos) X.env)] := by rfl) :
    CF c X (.Call (.Name "sorted" pn) [.Call (.Attribute o "items" apos) [] [] cpos] [] pos) (o1 sSortedIt p) := by
  intro pins s σ H Pr G ρ ρ' d I E h
  refine wpAny_Call_Name_kw (ld_blt I hg (C.blt _ (by decide)) (by decide +kernel : bootBuiltins "sorted" = some (.builtin "sorted")) ?_)
  refine PyProof.Rows.callWith_builtin1 (spl1 (t := pure .none) hs ?_) hs rfl
  refine wpAny_Call_method0_late hbase hline (k1 ho I E h fun v s2 y G2 H2 d1 I2 g E2 r1 t1 e => ?_)
  cases d1 with
  | dict l =>
    have e : (if sortable (prs l) = true then some (PyData.list (isort (prs l))) else none) = some d := e
    by_cases hsb : sortable (prs l) = true
    · rw [if_pos hsb] at e
      cases e
      obtain ⟨a, ep, hs', xs, ys, rfl, hH, h2, h3, h4, h5⟩ := rpt_dict t1 E2.gh
      obtain ⟨⟨lo, hz, es, hraw, he⟩, _⟩ := I2.hok _ _ hH
      cases r1
      have hu := C.hu
      have hsz : es.size = l.length := by
        have z1 : es.size = xs.length := by simpa using he.len.1
        have z2 := h4.length
        rw [List.length_map] at z2
        omega
      have hn : es.size ≤ sizeLine := by rw [h2, List.length_map] at hz; omega
      have lt : a < s2.heap.objs.size := let ⟨_, hq, _⟩ := hraw; Heap.lt_size hq
      obtain ⟨ob, hob, hx, hdat⟩ := hraw
      refine ⟨"dict", "dict.items", PySem.F.plainAttrs_dict, PySem.F.slot_dict_items, PySem.F.type_dict_items, ⟨ob, hob, hx.1⟩, fun b eb => by cases eb; exact ⟨ob, hob, hx.2.1⟩, ?_⟩
      refine Calls.callWith_builtin rfl (PySem.evalArgs_none (call_meetsIn PySem.F.slot_dict_items ⟨ob, hob, hx.1⟩ PySem.F.entry_dict_items (PySem.F.args_dict_items_1 _) (meets_dict_items_raw a lo) ⟨⟨es, ep, ob, hob, hx, hdat⟩, ?_⟩))
      have I3 : Inv X pins σ H2 { s2 with heap := s2.heap.push { cls := .type "dict_items", data := .fields #[.ref a] } } := I2.kept (t' := s2.toks) fun b o e => Heap.get?_push_of_some _ e
      obtain ⟨a1, a2, a3, a4⟩ := alike_of hsb
      have big : LIM ≤ sizeLine := by decide
      refine sorted_shell (s := { s2 with heap := s2.heap.push { cls := .type "dict_items", data := .fields #[.ref a] } }) (ds := prs l) (C := fun R h1 => ∃ G3 H3 tk, Gr G2 H2 G3 H3 ∧ Inv X pins σ H3 { s2 with heap := h1, toks := tk } ∧ R = fun v d => ∃ x, RelV x v ∧ Rp c G3 x d) (fun E' => ?_) a1 a2 (by omega) (fun d hd => by have h9 : d.depth ≤ 60 := a4 d hd; omega) (fun h1 h' tk p out n R hR k1 k2 hp hpo hl eo => ?_)
      · refine dil_collect (I2.ok.hd C.calm) (es := es) (ep := ep) (d := a) ⟨_, Heap.get?_push_size _ rfl, rfl, rfl⟩ ⟨ob, Heap.get?_push_of_some _ hob, hx, hdat⟩ hn fun h' tk as hk hl hG => ?_
        have I4 : Inv X pins σ H2 { s2 with heap := h', toks := tk } := I3.kept (t' := tk) hk
        obtain ⟨G3, H3, gr, I5, ra⟩ := take_pairs I2 as es.toList (l := l) I4 E2.gh (nodup_rise hG.rise) (fun b hb => by
            have hb1 : s2.heap.objs.size ≤ b := by
              have q1 := hG.above b hb
              have q2 : (s2.heap.push { cls := .type "dict_items", data := .fields #[.ref a] }).objs.size = s2.heap.objs.size + 1 := Heap.size_push ..
              have q3 : (s2.heap.push { cls := .type "dict_items", data := .fields #[.ref a] }).objs.size < b := q1
              omega
            exact ⟨hb1, I2.hok.fresh hb1⟩) (fun j b hj => by
            obtain ⟨hj2, q⟩ := hG.pairs j b hj
            exact ⟨es[j], by simp [hj2], q⟩) (by simpa using hl) he h4 h5
        have rv : Vals (as.map V.ref) (as.map Value.ref) := by
          clear ra hG hl
          induction as with
          | nil => exact .nil
          | cons b as ih => exact .cons rfl ih
        refine ⟨h', tk, _, rfl, hk, rp_each rv ra, ?_, G3, H3, tk, gr, I5, rfl⟩
        obtain ⟨bs, hr⟩ := Dp.readsAll I5 _ (as.map V.ref) (as.map Value.ref) (by rw [C.K]; exact ra.dp gr.gh (allAlike_plain a1)) rv
        refine readsAll_each (id : D → D) (as := bs) ?_
        rw [List.map_id]
        exact hr
      · obtain ⟨G3, H3, tk3, gr, I5, rfl⟩ := hR
        rw [← isort_eq] at eo
        obtain ⟨zs, rzs, qs⟩ := each_rp eo
        have hsz2 : zs.length ≤ sizeLine := by
          rw [qs.length, (isort_perm (prs l)).length_eq]
          omega
        have n0 : H3 p = none := I5.hok.fresh hp
        refine ⟨.ref p, upd H3 p (.lst zs), I5.laid (o := .lst zs) (t' := tk) k2 hp ⟨hsz2, out, n, rzs, hpo⟩, rfl, ?_⟩
        exact PostF.of g E2 ⟨G3, H3, p, zs, _, gr, rfl, n0, rfl, rfl, qs⟩
    · rw [if_neg hsb] at e
      cases e
  | _ => cases e

/-! ### for a, b in d.items() -/
def iItems (a : Ev) : Iv := fun ρ => match a ρ with
  | some (.dict l, ρ1) => some (prs l, ρ1)
  | _ => none
def ItI (a : Addr) (ep : Nat) (hs : List Int) (xs ys : List V) : It :=
  ⟨fun i H => H a = some (dO a ep hs xs ys) ∧ i < xs.length, fun i H v H' => ∃ T o x y, v = .ref T ∧ H T = none ∧ o.dict = none ∧ H' = upd H T (.frz o (.tup [x, y])) ∧ xs[i]? = some x ∧ ys[i]? = some y, fun i H => H a = some (dO a ep hs xs ys) ∧ xs.length ≤ i⟩
theorem turn_itemsI {P : Program} {w : World} {K : PySem.W.Frag} {elts : List Expr} {kk : Nat} {tpos : Pos} (a it : Addr) (hne : a ≠ it) (ep : Nat) (hs : List Int) (xs ys : List V) :
    Turn P w K (.Tuple elts kk tpos) (ItI a ep hs xs ys) [it] it (fun i h => ∃ ok ov, IsItemIter h it a i xs.length ep ok ov) where
  mem := by simp
  obj := fun i h st b hb => by
    have e : b = it := by simpa using hb
    subst e
    obtain ⟨ok, ov, e⟩ := st
    exact ⟨_, e, fun v z => by cases z⟩
  keep := fun i h h' st k => let ⟨ok, ov, e⟩ := st; ⟨ok, ov, k it (by simp) _ e⟩
  item := by
    intro X hP hw hK hc i pins s σ H E I hf st hg
    subst hP hw hK
    obtain ⟨hH, hi⟩ := hg
    obtain ⟨ok, ov, hit⟩ := st
    obtain ⟨⟨lo, hz, es, hraw, he⟩, _⟩ := I.hok _ _ hH
    obtain ⟨v1, v2, v3⟩ := he.keys
    have hl := he.len
    have hsz : es.size = xs.length := by simpa using hl.1
    have hi2 : i < es.size := by omega
    have hilt : it < s.heap.objs.size := Heap.lt_size hit
    rw [← hsz] at hit
    refine wpAny_pyNext_items_item_raw hit hraw hi2 fun h' hit' hT hz' hk => ?_
    refine ⟨_, rfl, wpAny_letOwnedTupleGo_items hit' fun h'' hit'' sb => ?_⟩
    have hx : xs[i]? = some xs[i] := by simp [hi]
    have hi3 : i < ys.length := by omega
    have hy : ys[i]? = some ys[i] := by simp [hi3]
    obtain ⟨u, hu, ru⟩ := v1.get hx
    obtain ⟨u2, hu2, ru2⟩ := v2.get hy
    have eu : u = es[i].key := by
      rw [List.getElem?_map, Array.getElem?_toList] at hu
      simp [hi2] at hu
      exact hu.symm
    have eu2 : u2 = es[i].val := by
      rw [List.getElem?_map, Array.getElem?_toList] at hu2
      simp [hi2] at hu2
      exact hu2.symm
    subst eu eu2
    have hT2 : h''.get? s.heap.objs.size = some { cls := .type "tuple", data := .seq #[es[i].key, es[i].val] } := (sb.2 _ (Nat.ne_of_gt hilt)).trans hT
    have new : ObjOk X.prog X.w (upd H s.heap.objs.size (.frz { cls := .type "tuple", data := .seq #[es[i].key, es[i].val] } (.tup [xs[i], ys[i]]))) h'' s.heap.objs.size (.frz { cls := .type "tuple", data := .seq #[es[i].key, es[i].val] } (.tup [xs[i], ys[i]])) :=
      ⟨hT2, by show 2 ≤ sizeLine; decide, [es[i].key, es[i].val], .cons ru (.cons ru2 .nil), ⟨_, hT2, rfl, _, rfl⟩⟩
    have I1 : Inv X pins σ (upd H s.heap.objs.size (.frz { cls := .type "tuple", data := .seq #[es[i].key, es[i].val] } (.tup [xs[i], ys[i]]))) { s with heap := h'' } :=
      I.turnedNew (t' := s.toks) (ch := [it]) (fun b ob hb q => (sb.2 b (fun z => hb (by simp [z]))).trans (hk b ob (fun z => hb (by simp [z])) q)) hf (Nat.le_refl _) new
    refine ⟨.ref s.heap.objs.size, _, I1, rfl, ⟨_, _, xs[i], ys[i], rfl, I.hok.fresh (Nat.le_refl _), rfl, rfl, hx, hy⟩, ⟨_, _, by rw [← hsz]; exact hit''⟩, fun b hb => ?_⟩
    have e : b = it := by simpa using hb
    rw [e, upd_ne (Nat.ne_of_lt hilt)]
    exact (hf it (by simp)).1
  done := by
    intro X hP hw hK hc i pins s σ H E I hf st hg
    subst hP hw hK
    obtain ⟨hH, hi⟩ := hg
    obtain ⟨ok, ov, hit⟩ := st
    obtain ⟨⟨lo, hz, es, hraw, he⟩, _⟩ := I.hok _ _ hH
    have hsz : es.size = xs.length := by simpa using he.len.1
    obtain ⟨f0, f1, f2, f3, f4, f5⟩ := hf it (by simp)
    rw [← hsz] at hit
    exact wpAny_pyNext_items_end_raw (I.ok.hd hc) hit hraw (by omega) fun h' eb => ⟨rfl, I.turned (t' := s.toks) (fun b o hb e => eb b o hb e) f0 f1 f3 f4 f5⟩
  self := fun _ _ _ _ _ st h => let ⟨_, _, e⟩ := st; wpAny_pyIter_itemiter e h
theorem pair_rp2 {T : Addr} {o : Obj} {x y : V} {d e : D} (g : Ge G H) (n : H T = none) (ho : o.dict = none) (r : Rp c G x d) (r2 : Rp c G y e) : ∃ G', Gr G H G' (upd H T (.frz o (.tup [x, y]))) ∧ Rp c G' (.ref T) (.tuple [d, e]) := by
  have gr := Gr.laid (o := .frz o (.tup [x, y])) g n
  exact ⟨_, gr, .tup upd_same ho (.cons (r.mono gr.ge) (.cons (r2.mono gr.ge) .nil))⟩
theorem ci_items {o : Expr} {f : Ev} {apos cpos tpos : Pos} {elts : List Expr} {kk : Nat} (C : XC c X) (h : CE c X o f)
    (hbase : attributeBase o "items" X.env (eval o X.env) = eval o X.env := by rfl) (hline : (apos.endLine == cpos.line) = true := by rfl) :
    CI c X (.Tuple elts kk tpos) (.Call (.Attribute o "items" apos) [] [] cpos) (iItems f) := by
  refine ⟨fun pins s σ H R I ⟨Pr, G, ρ, xs, ρ', E, q, k⟩ => ?_⟩
  unfold iItems at q
  split at q
  · rename_i l ρ1 hf
    cases q
    refine wpAny_Call_method0_late hbase hline (thn (h pins s σ H Pr G ρ ρ' _ I E hf) fun v s1 ⟨x, H1, I1, r1, G1, g1, E1, q1⟩ => ?_)
    cases q1 with
    | @dic a ep hs xs ys l hG h2 h3 h4 h5 =>
      cases r1
      have hH := E1.gh _ _ hG
      obtain ⟨⟨lo, hz, es, hraw, he⟩, _⟩ := I1.hok _ _ hH
      have hsz : es.size = xs.length := by simpa using he.len.1
      obtain ⟨ob, hob, hx, hdat⟩ := hraw
      have hlt : a < s1.heap.objs.size := Heap.lt_size hob
      refine ⟨"dict", "dict.items", PySem.F.plainAttrs_dict, PySem.F.slot_dict_items, PySem.F.type_dict_items, ⟨ob, hob, hx.1⟩, fun b eb => by cases eb; exact ⟨ob, hob, hx.2.1⟩, ?_⟩
      refine Calls.callWith_builtin rfl (PySem.evalArgs_none (call_meetsIn PySem.F.slot_dict_items ⟨ob, hob, hx.1⟩ PySem.F.entry_dict_items (PySem.F.args_dict_items_1 _) (meets_dict_items_raw a lo) ⟨⟨es, ep, ob, hob, hx, hdat⟩, ?_⟩))
      have I2 : Inv X pins σ H1 { s1 with heap := s1.heap.push { cls := .type "dict_items", data := .fields #[.ref a] } } := I1.kept (t' := s1.toks) fun b o e => Heap.get?_push_of_some _ e
      have hz2 : (s1.heap.push { cls := .type "dict_items", data := .fields #[.ref a] }).objs.size = s1.heap.objs.size + 1 := Heap.size_push ..
      have hne : a ≠ (s1.heap.push { cls := .type "dict_items", data := .fields #[.ref a] }).objs.size := by
        rw [hz2]
        exact Nat.ne_of_lt (Nat.lt_succ_of_lt hlt)
      refine wpAny_pyIter_items_raw (s := { s1 with heap := s1.heap.push { cls := .type "dict_items", data := .fields #[.ref a] } }) (d := a) (es := es) (ep := ep) ⟨_, Heap.get?_push_size _ rfl, rfl, rfl⟩ ⟨ob, Heap.get?_push_of_some _ hob, hx, hdat⟩ ?_
      refine ⟨(s1.heap.push { cls := .type "dict_items", data := .fields #[.ref a] }).objs.size, [(s1.heap.push { cls := .type "dict_items", data := .fields #[.ref a] }).objs.size], _, _, H1, rfl, I2.kept (t' := s1.toks) fun b o e => Heap.get?_push_of_some _ e, turn_itemsI a _ hne ep hs xs ys, ⟨.none, .none, by rw [← hsz]; exact Heap.get?_push_size _ rfl⟩, fun b hb => ?_, k _ G1 H1 g1 E1 ?_⟩
      · have e : b = (s1.heap.push { cls := .type "dict_items", data := .fields #[.ref a] }).objs.size := by simpa using hb
        subst e
        exact I2.fpOk (Nat.le_refl _) (I2.hok.fresh (Nat.le_refl _))
      · have hlen := h4.length
        rw [List.length_map] at hlen
        refine ⟨by rw [prs_len, ← hlen]; rw [he.len.2.1] at hz; exact hz, fun G3 H3 g3 gh i d hd => ?_, fun G3 H3 g3 gh => ⟨gh _ _ (g3 _ _ hG), by rw [prs_len, hlen]; exact Nat.le_refl _⟩⟩
        unfold prs at hd
        rw [List.getElem?_map] at hd
        obtain ⟨p, hp, rfl⟩ := Option.map_eq_some_iff.mp hd
        obtain ⟨v, hv, rv⟩ := h4.get (i := i) (d := p.1) (by rw [List.getElem?_map, hp]; rfl)
        obtain ⟨v2, hv2, rv2⟩ := h5.get (i := i) (d := p.2) (by rw [List.getElem?_map, hp]; rfl)
        refine ⟨⟨gh _ _ (g3 _ _ hG), (List.getElem?_eq_some_iff.mp hv).1⟩, fun x' H' ⟨T, o, y, z, e1, n, ho, e2, hy, hz3⟩ => ?_⟩
        subst e1 e2
        rw [hv] at hy
        rw [hv2] at hz3
        cases hy
        cases hz3
        exact pair_rp2 gh n ho (rv.mono g3) (rv2.mono g3)
  · cases q
end
end VL

set_option Elab.async false
set_option linter.all false
set_option maxRecDepth 100000
/-! V21: texts; constants of the program; dicts displayed with texts for keys. -/
namespace VL
open PySem PySem.Spec PyProof.Rows L2

def sAddS : D → D → Option D
  | .str a, .str b => if a.length + b.length ≤ LIM then some (.str (a ++ b)) else none
  | _, _ => none
def sStr : D → Option D
  | .int i => if i.natAbs.log2 < 1920 then some (.str (toString i)) else none
  | .str a => some (.str a)
  | _ => none
def strsOf : List D → Option (List Str)
  | [] => some []
  | .str x :: r => (strsOf r).map (x :: ·)
  | _ :: _ => none
def mJoin (d : D) (ds : List D) : Option D := match d, ds with
  | .str a, [y] => match seqOf y with
    | some l => match strsOf l with
      | some xs => if (xs.map (·.length)).sum + xs.length * a.length ≤ LIM then some (.str (Txt.join a xs)) else none
      | none => none
    | none => none
  | _, _ => none
def mSplit (d : D) (ds : List D) : Option D := match d, ds with
  | .str a, [.str b] => if (b.length == 0) = false ∧ a.length ≤ LIM then some (.list ((Txt.split a b).map .str)) else none
  | _, _ => none
section
variable {c : Ct} {X : Cx} {Pr G H : Hp} {σ : L2.St} {ρ ρ' : List O} {pins : List (Addr × Obj)} {s : Shared}
theorem op_addS : Op2 c X (binaryOp .Add) sAddS := by
  intro pins s σ H G x y v u d e r I g rx ry t1 t2 h
  cases d with
  | str a =>
    cases e with
    | str b =>
      have h : (if a.length + b.length ≤ LIM then some (PyData.str (a ++ b)) else none) = some r := h
      by_cases hl : a.length + b.length ≤ LIM
      · rw [if_pos hl] at h
        cases h
        have big : LIM ≤ sizeLine := by decide
        rw [t1.str] at rx
        rw [t2.str] at ry
        exact op_add_str pins s σ H _ _ v u _ I rx ry ⟨a, b, rfl, rfl, by omega, gr_same g (.str _)⟩
      · rw [if_neg hl] at h
        cases h
    | _ => cases h
  | _ => cases h
theorem op_strV : Op1 c X (fun v => call (.type "str") [v]) sStr := by
  intro pins s σ H G x v d r I g rx t e
  cases d with
  | int i =>
    have e : (if i.natAbs.log2 < 1920 then some (PyData.str (toString i)) else none) = some r := e
    by_cases hl : i.natAbs.log2 < 1920
    · rw [if_pos hl] at e
      cases e
      rw [t.int] at rx
      exact call_str_int pins s σ H [.int i] [v] _ I (.cons rx .nil) ⟨i, rfl, hl, gr_same g (.str _)⟩
    · rw [if_neg hl] at e
      cases e
  | str a =>
    cases e
    rw [t.str] at rx
    exact SkE.call_str_str pins s σ H [.str a] [v] _ I (.cons rx .nil) ⟨a, rfl, gr_same g (.str _)⟩
  | _ => cases e
theorem strs_of : ∀ {l : List D} {ns : List Str}, strsOf l = some ns → l = ns.map PyData.str
  | [], _, h => by cases h; rfl
  | .str i :: r, ns, h => by
    unfold strsOf at h
    cases e : strsOf r with
    | none => rw [e] at h; cases h
    | some m =>
      rw [e] at h
      cases h
      rw [strs_of e]
      rfl
  | .none :: _, _, h => by cases h
  | .bool _ :: _, _, h => by cases h
  | .int _ :: _, _, h => by cases h
  | .list _ :: _, _, h => by cases h
  | .tuple _ :: _, _, h => by cases h
  | .dict _ :: _, _, h => by cases h
theorem rpa_strs : ∀ {vs : List V} {ns : List Str}, RpA c G vs (ns.map PyData.str) → vs = ns.map V.str
  | [], [], _ => rfl
  | v :: vs, n :: ns, h => by
    cases h with
    | cons h r =>
      cases h
      rw [rpa_strs r]
      rfl
  | [], _ :: _, h => by cases h
  | _ :: _, [], h => by cases h
theorem rpa_mkstrs (G : Hp) : ∀ ns : List Str, RpA c G (ns.map V.str) (ns.map PyData.str)
  | [] => .nil
  | n :: ns => .cons (.str n) (rpa_mkstrs G ns)
theorem mt_joinV (C : XC c X) : MtV c X 3 "str.join" mJoin (NW c) := by
  intro pins s σ H G x xs v us d ds r I g rx rs t ra hk h
  unfold mJoin at h
  split at h
  · rename_i a y
    split at h
    · rename_i l h1
      split at h
      · rename_i ns h2
        split at h
        · rename_i hz
          cases h
          obtain ⟨z, rfl, rz⟩ := rpa1 ra
          rw [t.str] at rx
          obtain rfl := strs_of h2
          have big : LIM = 1000000 := rfl
          have hz2 : (ns.map (·.length)).sum + ns.length * a.length ≤ 16777216 := by omega
          cases y with
          | list m =>
            cases h1
            obtain ⟨p, zs, rfl, sq, rl⟩ := (RpT.of (H := H) rz).seqL g
            obtain rfl := rpa_strs rl
            exact mt_join pins s σ H _ _ v us _ I rx rs ⟨a, p, ns, rfl, rfl, .inl (by rw [C.K]; exact sq), hz2, gr_same g (.str _)⟩
          | tuple m =>
            cases h1
            obtain ⟨p, zs, o, rfl, f, n, sq, rl⟩ := (RpT.of (H := H) rz).seqT g
            obtain rfl := rpa_strs rl
            exact mt_join pins s σ H _ _ v us _ I rx rs ⟨a, p, ns, rfl, rfl, .inr (by rw [C.K]; exact sq), hz2, gr_same g (.str _)⟩
          | _ => cases h1
        · cases h
      · cases h
    · cases h
  · cases h
theorem mt_splitV (C : XC c X) : MtV c X 3 "str.split" mSplit (FL c) := by
  intro pins s σ H G x xs v us d ds r I g rx rs t ra hk h
  unfold mSplit at h
  split at h
  · rename_i a b
    split at h
    · rename_i hz
      cases h
      obtain ⟨z, rfl, rz⟩ := rpa1 ra
      rw [t.str] at rx
      have ez : z = .str b := by cases rz; rfl
      subst ez
      have big : LIM = 1000000 := rfl
      have big2 : sizeLine = 16777216 := sizeLine_eq
      exact mt_split pins s σ H _ _ v us _ I rx rs ⟨a, b, rfl, rfl, hz.1, by have := hz.2; omega, fun p n => ⟨G, H, p, _, _, Gr.refl g, rfl, n, rfl, rfl, rpa_mkstrs G _⟩⟩
    · cases h
  · cases h
theorem join_k {d : D} {ds : List D} {r : D} (h : mJoin d ds = some r) : kd d = 3 := by
  unfold mJoin at h
  split at h
  · rfl
  · cases h
theorem split_k {d : D} {ds : List D} {r : D} (h : mSplit d ds = some r) : kd d = 3 := by
  unfold mSplit at h
  split at h
  · rfl
  · cases h
theorem ce_join {o e : Expr} {apos cpos : Pos} {p : Pk} {f : Ev} (C : XC c X) (ho : CK c X o p) (he : CE c X e f)
    (hbase : attributeBase o "join" X.env (eval o X.env) = eval o X.env := by rfl) (hline : (apos.endLine == cpos.line) = true := by rfl) (hs : starEach [e] X.env = [(false, eval e X.env)] := by rfl) :
    CE c X (.Call (.Attribute o "join" apos) [e] [] cpos) (eM mJoin p (esCons f esNil)) :=
  ce_m (T := "str") (k := 3) C rfl (by decide) PySem.F.plainAttrs_str PySem.F.slot_str_join PySem.F.type_str_join (mt_joinV C) (fun _ _ _ h => join_k h) ho (ca_cons he ca_nil hs) hbase (by rw [hs]; rfl) hline hs rfl
theorem cf_split {o e : Expr} {apos cpos : Pos} {p : Pk} {f : Ev} (C : XC c X) (ho : CK c X o p) (he : CE c X e f)
    (hbase : attributeBase o "split" X.env (eval o X.env) = eval o X.env := by rfl) (hline : (apos.endLine == cpos.line) = true := by rfl) (hs : starEach [e] X.env = [(false, eval e X.env)] := by rfl) :
    CF c X (.Call (.Attribute o "split" apos) [e] [] cpos) (eM mSplit p (esCons f esNil)) :=
  cf_m (T := "str") (k := 3) C rfl (by decide) PySem.F.plainAttrs_str PySem.F.slot_str_split PySem.F.type_str_split (mt_splitV C) (fun _ _ _ h => split_k h) ho (ca_cons he ca_nil hs) hbase (by rw [hs]; rfl) hline hs rfl
/-- whole numbers, tuples, lists, texts -/
def sAddX : D → D → Option D := or2 sAddA sAddS
theorem op_addX (C : XC c X) : Op2 c X (binaryOp .Add) sAddX := (op_addA C).or op_addS
/-! ### constants of the program -/
def isK (mg : Str → Option Value) (x : Str) (d : D) : Prop := match d with
  | .int i => ∃ t, mg x = some (.int i t)
  | .str a => ∃ t, mg x = some (.str a t)
  | _ => False
theorem ce_glob {x : Str} {d : D} {pos : Pos} (hm : isK X.mg x d) (hg : Gl X x) (hd : (x == ("__debug__" : Str)) = false := by decide) : CE c X (.Name x pos) (eC d) := by
  intro pins s σ H Pr G ρ ρ' d' I E h
  cases h
  cases d with
  | int i =>
    obtain ⟨t, hm⟩ := hm
    exact ld_glob I hg hm ⟨.int i, H, I, ⟨t, rfl⟩, G, Ge.refl _, E, .int i⟩ hd
  | str a =>
    obtain ⟨t, hm⟩ := hm
    exact ld_glob I hg hm ⟨.str a, H, I, ⟨t, rfl⟩, G, Ge.refl _, E, .str a⟩ hd
  | _ => exact hm.elim
end

/-! ### what walks leave: no slot becomes a dict -/
class FzI (e : Iv) : Prop where
  fz : ∀ ρ z, e ρ = some z → FzR ρ z.2
section
variable {a b e cd : Ev} {it : Iv}
instance [Fz a] : FzI (iSeq a) := ⟨fun ρ z h => by
  unfold iSeq at h
  split at h
  · rename_i l ρ1 h1
    cases h
    exact Fz.fz (e := a) ρ _ h1
  · rename_i l ρ1 h1
    cases h
    exact Fz.fz (e := a) ρ _ h1
  · cases h⟩
instance [Fz a] : FzI (iSeqA a) := ⟨fun ρ z h => by
  unfold iSeqA at h
  split at h
  · rename_i l ρ1 h1
    cases h
    exact Fz.fz (e := a) ρ _ h1
  · rename_i l ρ1 h1
    cases h
    exact Fz.fz (e := a) ρ _ h1
  · rename_i l ρ1 h1
    cases h
    exact Fz.fz (e := a) ρ _ h1
  · cases h⟩
instance [Fz a] : FzI (iR1 a) := ⟨fun ρ z h => by
  unfold iR1 at h
  split at h
  · rename_i n ρ1 h1
    split at h
    · cases h
      exact Fz.fz (e := a) ρ _ h1
    · cases h
  · cases h⟩
instance [Fz a] [Fz b] : FzI (iR2 a b) := ⟨fun ρ z h => by
  unfold iR2 at h
  split at h
  · rename_i n ρ1 h1
    split at h
    · rename_i m ρ2 h2
      split at h
      · cases h
        exact (Fz.fz (e := a) ρ _ h1).trans (Fz.fz (e := b) ρ1 _ h2)
      · cases h
    · cases h
  · cases h⟩
instance [Fz a] : FzI (iEnum a) := ⟨fun ρ z h => by
  unfold iEnum at h
  split at h
  · rename_i l ρ1 h1
    cases h
    exact Fz.fz (e := a) ρ _ h1
  · rename_i l ρ1 h1
    cases h
    exact Fz.fz (e := a) ρ _ h1
  · cases h⟩
instance [Fz a] : FzI (iItems a) := ⟨fun ρ z h => by
  unfold iItems at h
  split at h
  · rename_i l ρ1 h1
    cases h
    exact Fz.fz (e := a) ρ _ h1
  · cases h⟩
instance : Fz eTrue := ⟨fun ρ z h => by cases h; exact .refl _⟩
theorem fz_back {ρ ν : List O} (h : FzR ρ ν) : ∀ vs : List Nat, FzR ρ (giveBack ρ ν vs)
  | [] => h
  | i :: is => fun j l e => by
    unfold giveBack at e
    cases q : ρ[i]? with
    | none =>
      rw [q] at e
      exact fz_back h is j l e
    | some o =>
      rw [q] at e
      by_cases hj : i = j
      · subst hj
        by_cases hl : i < (giveBack ρ ν is).length
        · have e : ((giveBack ρ ν is).set i o)[i]? = some (.dic l) := e
          rw [List.getElem?_set_self hl] at e
          rw [q]
          exact e
        · have e : ((giveBack ρ ν is).set i o)[i]? = some (.dic l) := e
          rw [List.getElem?_eq_none (by rw [List.length_set]; omega)] at e
          cases e
      · have e : ((giveBack ρ ν is).set i o)[j]? = some (.dic l) := e
        rw [List.getElem?_set_ne hj] at e
        exact fz_back h is j l e
theorem fz_lc [Fz cd] [Fz e] {tg : Tg} {vs : List Nat} : ∀ (xs : List D) (ρ : List O) (acc : List D) (z : List D × List O), lcLoop tg cd e vs xs ρ acc = some z → FzR ρ z.2
  | [], ρ, acc, z, h => by
    cases h
    exact .refl _
  | x :: xs, ρ, acc, z, h => by
    unfold lcLoop at h
    split at h
    · rename_i acc' ρ' h1
      have k := fz_lc xs ρ' acc' z h
      refine FzR.trans ?_ k
      unfold lcTurn at h1
      split at h1
      · rename_i ρ1 ht
        split at h1
        · rename_i ρ2 hc
          split at h1
          · rename_i y ρ3 he
            cases h1
            exact (((fz_tgo ht).trans (Fz.fz (e := cd) ρ1 _ hc)).trans (Fz.fz (e := e) ρ2 _ he)).trans (fz_wipe ρ3 vs)
          · cases h1
        · rename_i ρ2 hc
          cases h1
          exact ((fz_tgo ht).trans (Fz.fz (e := cd) ρ1 _ hc)).trans (fz_wipe ρ2 vs)
        · cases h1
      · cases h1
    · cases h
instance {tg : Tg} {vs : List Nat} [FzI it] [Fz cd] [Fz e] : Fz (eComp it tg cd e vs) := ⟨fun ρ z h => by
  unfold eComp at h
  split at h
  · rename_i xs ρ1 h1
    have k1 : FzR ρ ρ1 := FzI.fz (e := it) ρ _ h1
    split at h
    · split at h
      · rename_i acc ρ2 h2
        cases h
        have k2 : FzR ρ1 ρ2 := (fz_wipe ρ1 vs).trans (fz_lc xs _ _ _ h2)
        exact k1.trans (fz_back k2 vs)
      · cases h
    · cases h
  · cases h⟩
end
end VL

set_option Elab.async false
set_option linter.all false
set_option maxRecDepth 100000
/-! V22: places: a slot's own thing, a field of a slot's own object; how it is exchanged. -/
namespace VL
open PySem PySem.Spec PyProof.Rows L2

def Fs.get : Fs → Str → Option O
  | .nil, _ => none
  | .cons n o r, x => if n = x then some o else Fs.get r x
def Fs.put : Fs → Str → O → Fs
  | .nil, x, u => .cons x u .nil
  | .cons n o r, x, u => if n = x then .cons n u r else .cons n o (Fs.put r x u)
def unb : O → O
  | .bor _ o => o
  | o => o
/-- as it is lent, with another content -/
def reb : O → O → O
  | .bor j _, u => .bor j u
  | _, u => u
inductive Pl | s (i : Nat) | f (i : Nat) (x : Str)
def insOf : O → Option (Nat × Fs)
  | .ins k fs => some (k, fs)
  | _ => none
def getP (ρ : List O) : Pl → Option O
  | .s i => (ρ[i]?).map unb
  | .f i x => match (ρ[i]?).map unb with
    | some o => match insOf o with
      | some p => p.2.get x
      | none => none
    | none => none
def setP (ρ : List O) (p : Pl) (u : O) : List O := match p with
  | .s i => match ρ[i]? with
    | some o => ρ.set i (reb o u)
    | none => ρ
  | .f i x => match ρ[i]? with
    | some o => match insOf (unb o) with
      | some p => ρ.set i (reb o (.ins p.1 (p.2.put x u)))
      | none => ρ
    | none => ρ
def objD : O → Option D
  | .val d => some d
  | .lst l => some (.list l)
  | .dic l => some (.dict l)
  | _ => none
def hasRef : O → Bool
  | .lst _ => true
  | .dic _ => true
  | .ins _ _ => true
  | _ => false

theorem lookup_cons (g x : Str) (y : V) (r : List (Str × V)) : List.lookup x ((g, y) :: r) = if g = x then some y else List.lookup x r := by
  rw [List.lookup_cons]
  by_cases h : g = x
  · subst h
    simp
  · have h2 : (x == g) = false := by
      apply beq_eq_false_iff_ne.mpr
      exact fun e => h e.symm
    rw [h2, if_neg h]
theorem putF_cons (x g : Str) (v y : V) (r : List (Str × V)) : putF x v ((g, y) :: r) = if g = x then (g, v) :: r else (g, y) :: putF x v r := rfl
theorem putF_same {x : Str} {v : V} : ∀ {l : List (Str × V)}, l.lookup x = some v → putF x v l = l
  | [], h => by simp at h
  | (g, y) :: r, h => by
    rw [lookup_cons] at h
    rw [putF_cons]
    by_cases e : g = x
    · rw [if_pos e] at h ⊢
      cases h
      rfl
    · rw [if_neg e] at h ⊢
      rw [putF_same h]
theorem noBorF_put {x : Str} {u : O} (hu : noBor u = true) : ∀ {fs : Fs}, noBorF fs = true → noBorF (fs.put x u) = true
  | .nil, _ => by
    show (noBor u && noBorF .nil) = true
    rw [hu]
    rfl
  | .cons n o r, h => by
    have h : (noBor o && noBorF r) = true := h
    rw [Bool.and_eq_true] at h
    unfold Fs.put
    split
    · show (noBor u && noBorF r) = true
      rw [hu, h.2]
      rfl
    · show (noBor o && noBorF (r.put x u)) = true
      rw [h.1, noBorF_put hu h.2]
      rfl
section
variable {c : Ct} {X : Cx} {Pr G G' H H' : Hp} {σ : L2.St} {ρ ρ' : List O}
theorem RpF.len : ∀ {fs : Fs} {fl : List (Str × V)} {f : List Addr} {f' : List Addr} {fl' : List (Str × V)}, True := trivial
theorem RpF.put {x : Str} : ∀ {fs : Fs} {fl : List (Str × V)} {f : List Addr}, RpF c G H fs fl f →
    ∃ f1 f2, f.Perm (f1 ++ f2) ∧ (∀ o, fs.get x = some o → ∃ v, fl.lookup x = some v ∧ RpO c G H o (some v) f1) ∧ (fs.get x = none → fl.lookup x = none) ∧
      ∀ (G' H' : Hp) (u : O) (v : V) (f' : List Addr), Ge G G' → (∀ a ∈ f2, H' a = H a) → RpO c G' H' u (some v) f' → ∃ m, m.Perm (f' ++ f2) ∧ RpF c G' H' (fs.put x u) (putF x v fl) m
  | .nil, fl, f, h => by
    obtain ⟨e1, e2⟩ := h
    subst e1
    subst e2
    refine ⟨[], [], List.Perm.refl _, (fun o h => nomatch h), fun _ => rfl, fun G' H' u v f' g k r => ⟨f', by simp, ?_⟩⟩
    exact ⟨v, [], f', [], rfl, by simp, r, rfl, rfl⟩
  | .cons n o r, fl, f, h => by
    obtain ⟨v0, l', g1, g2, e1, e2, h1, h2⟩ := h
    subst e1
    subst e2
    by_cases hn : n = x
    · refine ⟨g1, g2, List.Perm.refl _, fun o' ho => ?_, fun ho => ?_, fun G' H' u v f' g k q => ⟨f' ++ g2, List.Perm.refl _, ?_⟩⟩
      · have ho : (if n = x then some o else Fs.get r x) = some o' := ho
        rw [if_pos hn] at ho
        cases ho
        exact ⟨v0, by rw [lookup_cons, if_pos hn], h1⟩
      · have ho : (if n = x then some o else Fs.get r x) = none := ho
        rw [if_pos hn] at ho
        cases ho
      · show RpF c G' H' (if n = x then .cons n u r else .cons n o (Fs.put r x u)) _ _
        rw [if_pos hn, putF_cons, if_pos hn]
        exact ⟨v, l', f', g2, rfl, rfl, q, h2.mono g k⟩
    · obtain ⟨f1, f2, p, k1, k2, k3⟩ := RpF.put (x := x) h2
      refine ⟨f1, g1 ++ f2, ?_, fun o' ho => ?_, fun ho => ?_, fun G' H' u v f' g k q => ?_⟩
      · refine (p.append_left g1).trans ?_
        rw [← List.append_assoc, ← List.append_assoc]
        exact (List.perm_append_comm).append_right f2
      · have ho : (if n = x then some o else Fs.get r x) = some o' := ho
        rw [if_neg hn] at ho
        obtain ⟨v, q1, q2⟩ := k1 o' ho
        exact ⟨v, by rw [lookup_cons, if_neg hn, q1], q2⟩
      · have ho : (if n = x then some o else Fs.get r x) = none := ho
        rw [if_neg hn] at ho
        rw [lookup_cons, if_neg hn, k2 ho]
      · obtain ⟨m, pm, rm⟩ := k3 G' H' u v f' g (fun a ha => k a (List.mem_append_right _ ha)) q
        refine ⟨g1 ++ m, ?_, ?_⟩
        · refine (pm.append_left g1).trans ?_
          rw [← List.append_assoc, ← List.append_assoc]
          exact (List.perm_append_comm).append_right f2
        · show RpF c G' H' (if n = x then .cons n u r else .cons n o (Fs.put r x u)) _ _
          rw [if_neg hn, putF_cons, if_neg hn]
          exact ⟨v0, _, g1, m, rfl, rfl, h1.mono g fun a ha => k a (List.mem_append_left _ ha), rm⟩
theorem RpF.names : ∀ {fs : Fs} {fl : List (Str × V)} {f : List Addr} {x : Str}, RpF c G H fs fl f → fs.get x = none → fl.lookup x = none := fun {fs fl f x} h e => by
  obtain ⟨_, _, _, _, k, _⟩ := h.put (x := x)
  exact k e
def Fs.size : Fs → Nat
  | .nil => 0
  | .cons _ _ r => r.size + 1
theorem RpF.size : ∀ {fs : Fs} {fl : List (Str × V)} {f : List Addr}, RpF c G H fs fl f → fl.length = fs.size
  | .nil, fl, f, h => by rw [h.1]; rfl
  | .cons n o r, fl, f, h => by
    obtain ⟨v0, l', g1, g2, e1, e2, h1, h2⟩ := h
    rw [e1, List.length_cons, h2.size]
    rfl
/-- a thing as it is lent, and in its own -/
theorem RpO.unb : ∀ {o : O} {s : Option V} {f : List Addr}, RpO c G H o s f → RpO c G H (unb o) s f ∧ ∀ (G' H' : Hp) (u : O) (f' : List Addr), noBor u = true → RpO c G' H' u s f' → RpO c G' H' (reb o u) s f'
  | .un, _, _, h => ⟨h, fun _ _ _ _ _ r => r⟩
  | .val _, _, _, h => ⟨h, fun _ _ _ _ _ r => r⟩
  | .lst _, _, _, h => ⟨h, fun _ _ _ _ _ r => r⟩
  | .dic _, _, _, h => ⟨h, fun _ _ _ _ _ r => r⟩
  | .ins _ _, _, _, h => ⟨h, fun _ _ _ _ _ r => r⟩
  | .bor j o, _, _, h => ⟨h.2.2, fun _ _ u _ n r => ⟨h.1, n, r⟩⟩
/-- what stands at a place -/
def PlS (c : Ct) (σ : L2.St) (H : Hp) : Pl → Option V → Prop
  | .s i, s => σ[i]? = some s
  | .f i x, s => ∃ a C dx fl k v, s = some v ∧ σ[i]? = some (some (.ref a)) ∧ H a = some (.ins C dx fl) ∧ c.ci k = some C ∧ fl.lookup x = some v
theorem nodup_mid {a b k : List Addr} (h : (a ++ k).Nodup) (hb : b.Nodup) (hd : ∀ x ∈ b, x ∉ k) : (b ++ k).Nodup := by
  rw [List.nodup_append] at h ⊢
  exact ⟨hb, h.2.1, fun x hx y hy e => by subst e; exact hd x hx hy⟩
theorem ER.swap {p : Pl} {o : O} (E : ER c Pr G H σ ρ) (h : getP ρ p = some o) :
    ∃ (s : Option V) (fp R : List Addr), PlS c σ H p s ∧ RpO c G H o s fp ∧ (fp ++ R).Nodup ∧ (∀ a ∈ fp ++ R, Pr a = none ∧ G a = none) ∧ (∀ a ∈ R, ∃ u, H a = some u) ∧
      ∀ (G' H' : Hp) (u : O) (fp' : List Addr), Ge G G' → Ge G' H' → (∀ a o, Pr a = some o → H' a = some o ∧ G' a = none) → (∀ a ∈ R, H' a = H a ∧ G' a = none) → fp'.Nodup → (∀ a ∈ fp', Pr a = none ∧ G' a = none ∧ a ∉ R) → noBor u = true → RpO c G' H' u s fp' → ER c Pr G' H' σ (setP ρ p u) := by
  obtain ⟨l, nd, ap, sl⟩ := E.own
  cases p with
  | s i =>
    have h : (ρ[i]?).map VL.unb = some o := h
    cases q : ρ[i]? with
    | none => rw [q] at h; cases h
    | some o0 =>
      rw [q] at h
      have e : VL.unb o0 = o := Option.some.inj h
      subst e
      obtain ⟨s, l1, l2, e1, pm, ro, k⟩ := sl.at q
      obtain ⟨r1, r2⟩ := ro.unb
      have th := sl.there
      refine ⟨s, l1, l2, e1, r1, pm.nodup_iff.mp nd, fun a ha => ap a (pm.mem_iff.mpr ha), fun a ha => th a (pm.mem_iff.mpr (List.mem_append_right _ ha)), fun G' H' u fp' g gh hp hr hn hf nb ru => ?_⟩
      obtain ⟨m, pm2, sm⟩ := k G' H' s (reb o0 u) fp' g (fun a ha => (hr a ha).1) (r2 G' H' u fp' nb ru)
      rw [set_same e1] at sm
      have es : setP ρ (.s i) u = ρ.set i (reb o0 u) := by
        unfold setP
        simp only [q]
      rw [es]
      refine ⟨hp, gh, m, pm2.nodup_iff.mpr (nodup_mid (pm.nodup_iff.mp nd) hn fun x hx => (hf x hx).2.2), fun a ha => ?_, sm⟩
      rcases List.mem_append.mp (pm2.mem_iff.mp ha) with z | z
      · exact ⟨(hf a z).1, (hf a z).2.1⟩
      · exact ⟨(ap a (pm.mem_iff.mpr (List.mem_append_right _ z))).1, (hr a z).2⟩
  | f i x =>
    cases q : ρ[i]? with
    | none =>
      simp only [getP, q, Option.map_none] at h
      cases h
    | some o0 =>
      simp only [getP, q, Option.map_some] at h
      cases q2 : VL.unb o0 with
      | ins k fs =>
        rw [q2] at h
        have h : fs.get x = some o := h
        obtain ⟨s, l1, l2, e1, pm, ro, kk⟩ := sl.at q
        obtain ⟨r1, r2⟩ := ro.unb
        rw [q2] at r1
        obtain ⟨a, dx, C, fl, f', rfl, hci, hA, hD, ef, rf⟩ := r1
        subst ef
        obtain ⟨f1, f2, pf, k1, k2, k3⟩ := rf.put (x := x)
        obtain ⟨v, hv, rv⟩ := k1 o h
        have th := sl.there
        have pA : l.Perm (f1 ++ (a :: dx :: (f2 ++ l2))) := by
          refine pm.trans ?_
          have p1 : (a :: dx :: f' ++ l2).Perm (a :: dx :: (f1 ++ f2) ++ l2) := List.Perm.append_right l2 ((pf.cons dx).cons a)
          refine p1.trans ?_
          have e : a :: dx :: (f1 ++ f2) ++ l2 = (a :: dx :: f1) ++ (f2 ++ l2) := by simp
          have e2 : f1 ++ (a :: dx :: (f2 ++ l2)) = (f1 ++ [a, dx]) ++ (f2 ++ l2) := by simp
          rw [e, e2]
          exact List.Perm.append_right _ (List.perm_append_comm (l₁ := [a, dx]) (l₂ := f1))
        have nd2 := pA.nodup_iff.mp nd
        refine ⟨some v, f1, a :: dx :: (f2 ++ l2), ⟨a, C, dx, fl, k, v, rfl, e1, hA, hci, hv⟩, rv, nd2, fun b hb => ap b (pA.mem_iff.mpr hb), fun b hb => th b (pA.mem_iff.mpr (List.mem_append_right _ hb)), fun G' H' u fp' g gh hp hr hn hf nb ru => ?_⟩
        obtain ⟨m, pm2, rm⟩ := k3 G' H' u v fp' g (fun b hb => (hr b (by simp [hb])).1) ru
        rw [putF_same hv] at rm
        have hA' : H' a = some (.ins C dx fl) := (hr a (by simp)).1.trans hA
        have hD' : H' dx = some (.own a) := (hr dx (by simp)).1.trans hD
        have nb0 : noBorF fs = true ∨ VL.unb o0 = o0 := by
          cases o0 with
          | bor j o1 =>
            obtain ⟨_, n, _⟩ := ro
            have q2 : o1 = .ins k fs := q2
            rw [q2] at n
            exact .inl n
          | _ => exact .inr rfl
        have rI : RpO c G' H' (.ins k (fs.put x u)) (some (.ref a)) (a :: dx :: m) := ⟨a, dx, C, fl, m, rfl, hci, hA', hD', rfl, rm⟩
        have rN : RpO c G' H' (reb o0 (.ins k (fs.put x u))) (some (.ref a)) (a :: dx :: m) := by
          rcases nb0 with n | n
          · exact r2 G' H' _ _ (noBorF_put nb n) rI
          · cases o0 with
            | bor j o1 =>
              have q2 : o1 = .ins k fs := q2
              have n : o1 = .bor j o1 := n
              rw [q2] at n
              cases n
            | _ => exact rI
        obtain ⟨m2, pm3, sm⟩ := kk G' H' (some (.ref a)) _ (a :: dx :: m) g (fun b hb => (hr b (by simp [hb])).1) rN
        rw [set_same e1] at sm
        have es : setP ρ (.f i x) u = ρ.set i (reb o0 (.ins k (fs.put x u))) := by
          unfold setP
          simp only [q, q2, insOf]
        rw [es]
        have pB : m2.Perm (fp' ++ (a :: dx :: (f2 ++ l2))) := by
          refine pm3.trans ?_
          have p1 : (a :: dx :: m ++ l2).Perm (a :: dx :: (fp' ++ f2) ++ l2) := List.Perm.append_right l2 ((pm2.cons dx).cons a)
          refine p1.trans ?_
          have e : a :: dx :: (fp' ++ f2) ++ l2 = (a :: dx :: fp') ++ (f2 ++ l2) := by simp
          have e2 : fp' ++ (a :: dx :: (f2 ++ l2)) = (fp' ++ [a, dx]) ++ (f2 ++ l2) := by simp
          rw [e, e2]
          exact List.Perm.append_right _ (List.perm_append_comm (l₁ := [a, dx]) (l₂ := fp'))
        refine ⟨hp, gh, m2, pB.nodup_iff.mpr (nodup_mid nd2 hn fun y hy => (hf y hy).2.2), fun b hb => ?_, sm⟩
        rcases List.mem_append.mp (pB.mem_iff.mp hb) with z | z
        · exact ⟨(hf b z).1, (hf b z).2.1⟩
        · exact ⟨(ap b (pA.mem_iff.mpr (List.mem_append_right _ z))).1, (hr b z).2⟩
      | _ => rw [q2] at h; cases h
end
end VL

set_option Elab.async false
set_option linter.all false
set_option maxRecDepth 100000
/-! V23: expressions that are places; expressions that only make new things; reading and writing places. -/
namespace VL
open PySem PySem.Spec PyProof.Rows L2

/-- the names of fields are fields alone, in each class -/
def CiOk (c : Ct) (x : Str) : Prop := ∀ k C, c.ci k = some C → Cls c.K C ∧ NoAttr c.K C x
/-- an expression that is a place -/
def CPl (c : Ct) (X : Cx) (e : Expr) (p : Pl) : Prop := ∀ (pins : List (Addr × Obj)) (s : Shared) (σ : L2.St) (H : Hp) (v : V), Inv X pins σ H s → PlS c σ H p (some v) →
  wpAny (model X.prog X.w) X.A (eval e X.env) (EP X pins σ fun v' H' => v' = v ∧ H' = H) X.xe s
/-- an expression that makes new things alone -/
abbrev Pv := List O → Option D
def CEp (c : Ct) (X : Cx) (e : Expr) (f : Pv) : Prop := ∀ (pins : List (Addr × Obj)) (s : Shared) (σ : L2.St) (H Pr G : Hp) (ρ : List O) (d : D), Inv X pins σ H s → ER c Pr G H σ ρ → f ρ = some d →
  wpAny (model X.prog X.w) X.A (eval e X.env) (EP X pins σ fun v H' => ∃ G', Gr G H G' H' ∧ Rp c G' v d) X.xe s
abbrev Pvs := List O → Option (List D)
def CAp (c : Ct) (X : Cx) (es : List Expr) (f : Pvs) : Prop := ∀ (pos : Pos) (pins : List (Addr × Obj)) (s : Shared) (σ : L2.St) (H Pr G : Hp) (ρ : List O) (ds : List D), Inv X pins σ H s → ER c Pr G H σ ρ → f ρ = some ds →
  wpAny (model X.prog X.w) X.A (spliced (backTo pos (starEach es X.env))) (AP X pins σ fun vs H' => ∃ G', Gr G H G' H' ∧ RpA c G' vs ds) X.xe s
def pC (d : D) : Pv := fun _ => some d
def pQ (p : Pl) : Pv := fun ρ => match getP ρ p with
  | some (.val d) => some d
  | _ => none
def psNil : Pvs := fun _ => some []
def psCons (a : Pv) (r : Pvs) : Pvs := fun ρ => match a ρ with
  | some x => match r ρ with
    | some xs => some (x :: xs)
    | none => none
  | none => none
def pTup (es : Pvs) : Pv := fun ρ => match es ρ with
  | some xs => if xs.length ≤ LIM then some (.tuple xs) else none
  | none => none
def eP (f : Pv) : Ev := fun ρ => (f ρ).map fun d => (d, ρ)
/-- what stands at a place, told as data -/
def pkQ (ρ : List O) (p : Pl) : Option D := match getP ρ p with
  | some o => objD o
  | none => none
/-- an operation, its last operand a place -/
def o1Q (f : D → Option D) (p : Pl) : Ev := fun ρ => match pkQ ρ p with
  | some x => match f x with
    | some r => some (r, ρ)
    | none => none
  | none => none
def o2Q (f : D → D → Option D) (a : Ev) (p : Pl) : Ev := fun ρ => match a ρ with
  | some (x, ρ1) => match pkQ ρ1 p with
    | some y => match f x y with
      | some r => some (r, ρ1)
      | none => none
    | none => none
  | none => none
/-- place[key] -/
def ixQ (f : D → D → Option D) (p : Pl) (k : Pv) : Ev := fun ρ => match pkQ ρ p with
  | some x => match k ρ with
    | some y => match f x y with
      | some r => some (r, ρ)
      | none => none
    | none => none
  | none => none
/-- place[key] = e, the place a dict -/
def sPutQ (p : Pl) (k : Pv) (e : Ev) : Sm := fun ρ => match e ρ with
  | some (v, ρ1) => match k ρ1 with
    | some key => match getP ρ1 p with
      | some (.dic l) => match dAsk l key with
        | some _ => if l.length < LIM then some (.nx, setP ρ1 p (.dic (dput key v l))) else none
        | none => none
      | _ => none
    | none => none
  | none => none
/-- place.append(e) -/
def sAppQ (p : Pl) (e : Pv) : Sm := fun ρ => match e ρ with
  | some d => match getP ρ p with
    | some (.lst l) => if l.length < LIM then some (.nx, setP ρ p (.lst (l ++ [d]))) else none
    | _ => none
  | none => none
def ePopQ (p : Pl) : Ev := fun ρ => match getP ρ p with
  | some (.lst l) => match l.getLast? with
    | some d => some (d, setP ρ p (.lst l.dropLast))
    | none => none
  | _ => none
/-- name.f = e -/
def sFld (i : Nat) (x : Str) (e : Ev) : Sm := fun ρ => match e ρ with
  | some (d, ρ1) => match (ρ1[i]?).map unb with
    | some o => match insOf o with
      | some p => if p.2.size < 900 then some (.nx, setP ρ1 (.f i x) (.val d)) else none
      | none => none
    | none => none
  | none => none
/-- name.f = a new list or dict -/
def sFldO (i : Nat) (x : Str) (e : Ev) : Sm := fun ρ => match e ρ with
  | some (d, ρ1) => match (ρ1[i]?).map unb with
    | some o => match insOf o with
      | some p => if p.2.size < 900 then match d with
        | .list l => some (.nx, setP ρ1 (.f i x) (.lst l))
        | .dict l => some (.nx, setP ρ1 (.f i x) (.dic l))
        | _ => none
        else none
      | none => none
    | none => none
  | none => none

section
variable {c : Ct} {X : Cx} {Pr G G' H H' : Hp} {σ : L2.St} {ρ ρ' : List O} {pins : List (Addr × Obj)} {s : Shared} {e : Expr} {es : List Expr} {pos p p' apos cpos : Pos} {x f : Str}
theorem cpl_s (i : Nat) (hN : X.N[i]? = some x := by rfl) (hv : Vis X.env.scope x := by first | exact .inl rfl | exact .inr (.inl rfl) | exact .inr (.inr rfl)) (hd : (x == ("__debug__" : Str)) = false := by decide) (hcd : (x == ("__classdict__" : Str)) = false := by decide) : CPl c X (.Name x pos) (.s i) :=
  fun pins s σ H v I h => (pe_var hN hv hd hcd).run pins s σ H _ I ⟨v, h, rfl, rfl⟩
theorem cpl_f (C : XC c X) (ci : CiOk c f) (i : Nat) (hN : X.N[i]? = some x := by rfl) (hv : Vis X.env.scope x := by first | exact .inl rfl | exact .inr (.inl rfl) | exact .inr (.inr rfl)) (hd : (x == ("__debug__" : Str)) = false := by decide) (hcd : (x == ("__classdict__" : Str)) = false := by decide)
    (hb : attributeBase (.Name x p) f X.env (eval (.Name x p) X.env) = eval (.Name x p) X.env := by rfl) : CPl c X (.Attribute (.Name x p) f pos) (.f i f) :=
  fun pins s σ H v I ⟨a, C0, dx, fl, k, v', e1, e2, hA, hci, hl⟩ => by
    cases e1
    obtain ⟨c1, c2⟩ := ci k C0 hci
    exact (pe_fld (pe_var hN hv hd hcd) hb).run pins s σ H _ I ⟨.ref a, e2, a, C0, dx, fl, v, rfl, hA, by rw [C.K]; exact c1, by rw [C.K]; exact c2, hl, rfl, rfl⟩
def tPl (c : Ct) (p : Pl) : TE := fun σ H Q => ∃ v, PlS c σ H p (some v) ∧ Q v H
theorem CPl.pe {q : Pl} (h : CPl c X e q) : PE X e (tPl c q) := ⟨fun pins s σ H Q I ⟨v, hv, k⟩ => thn (h pins s σ H v I hv) fun u s' ⟨v', H', I', r, e1, e2⟩ => by
  subst e1
  subst e2
  exact ⟨_, _, I', r, k⟩⟩
theorem PlS.uniq {q : Pl} {s t : Option V} (a : PlS c σ H q s) (b : PlS c σ H q t) : s = t := by
  cases q with
  | s i =>
    have a : σ[i]? = some s := a
    have b : σ[i]? = some t := b
    rw [a] at b
    exact Option.some.inj b
  | f i x =>
    obtain ⟨a1, C1, d1, f1, k1, v1, e1, e2, e3, _, e5⟩ := a
    obtain ⟨a2, C2, d2, f2, k2, v2, g1, g2, g3, _, g5⟩ := b
    rw [e2] at g2
    cases g2
    rw [e3] at g3
    cases g3
    rw [e5] at g5
    rw [e1, g1, g5]
theorem PlS.ge {q : Pl} {s : Option V} (g : Ge H H') (a : PlS c σ H q s) : PlS c σ H' q s := by
  cases q with
  | s i => exact a
  | f i x =>
    obtain ⟨a1, C1, d1, f1, k1, v1, e1, e2, e3, e4, e5⟩ := a
    exact ⟨a1, C1, d1, f1, k1, v1, e1, e2, g _ _ e3, e4, e5⟩
theorem RpO.data {o : O} {s : Option V} {fp : List Addr} {d : D} (r : RpO c G H o s fp) (h : objD o = some d) : ∃ v, s = some v ∧ RpT c G H v d := by
  cases o with
  | val z =>
    cases h
    obtain ⟨_, v, e, q⟩ := r
    exact ⟨v, e, .of q⟩
  | lst z =>
    cases h
    obtain ⟨a, xs, e, _, h3, h4⟩ := r
    exact ⟨_, e, .lst h3 h4⟩
  | dic z =>
    cases h
    obtain ⟨a, ep, hs, xs, ys, e, _, h3, h4, h5, h6, h7⟩ := r
    exact ⟨_, e, .dic h3 h4 h5 h6 h7⟩
  | _ => cases h
theorem ER.placeData {q : Pl} {d : D} (E : ER c Pr G H σ ρ) (h : pkQ ρ q = some d) : ∃ v, PlS c σ H q (some v) ∧ RpT c G H v d := by
  unfold pkQ at h
  split at h
  · rename_i o ho
    obtain ⟨s, fp, R, h1, h2, _⟩ := E.swap ho
    obtain ⟨v, rfl, r⟩ := h2.data h
    exact ⟨v, h1, r⟩
  · cases h
/-! ### making new things alone -/
theorem cp_c {v : V} {d : D} (h : PE X e (tC v)) (r : ∀ G, Rp c G v d) : CEp c X e (pC d) := fun pins s σ H Pr G ρ d' I E q => by
  cases q
  exact h.run pins s σ H _ I (same_gr E.gh (r G))
theorem cp_int {i j} : CEp c X (.Constant (.int i) j pos) (pC (.int i)) := cp_c pe_int fun _ => .int i
theorem cp_bl {b j} : CEp c X (.Constant (.bool b) j pos) (pC (.bool b)) := cp_c pe_bl fun _ => .bl b
theorem cp_non {j} : CEp c X (.Constant .none j pos) (pC .none) := cp_c pe_non fun _ => .non
theorem cp_str {y j} : CEp c X (.Constant (.str y) j pos) (pC (.str y)) := cp_c pe_str fun _ => .str y
theorem cp_q {q : Pl} (h : CPl c X e q) : CEp c X e (pQ q) := fun pins s σ H Pr G ρ d I E w => by
  unfold pQ at w
  split at w
  · rename_i z hz
    cases w
    obtain ⟨t, fp, R, h1, ⟨_, v, e1, rv⟩, _⟩ := E.swap hz
    subst e1
    exact thn (h pins s σ H v I h1) fun u s' ⟨v', H', I', r, e1, e2⟩ => by
      subst e1
      subst e2
      exact ⟨_, _, I', r, same_gr E.gh rv⟩
  · cases w
theorem cps_nil : CAp c X [] psNil := fun pos pins s σ H Pr G ρ ds I E q => by
  cases q
  exact Calls.spliced_nil ⟨[], H, I, .nil, G, Gr.refl E.gh, .nil⟩
theorem cps_cons {a : Pv} {r : Pvs} (ha : CEp c X e a) (hr : CAp c X es r) (hs : starEach (e :: es) X.env = (false, eval e X.env) :: starEach es X.env := by rfl) : CAp c X (e :: es) (psCons a r) := fun pos pins s σ H Pr G ρ ds I E q => by
  unfold psCons at q
  split at q
  · rename_i d1 h1
    split at q
    · rename_i ds2 h2
      cases q
      rw [hs]
      show wpAny _ _ (spliced ((false, eval e X.env) :: backTo pos (starEach es X.env))) _ _ s
      refine Calls.spliced_cons (thn (ha pins s σ H Pr G ρ d1 I E h1) fun u s1 ⟨y, H1, I1, r1, G1, g1, q1⟩ => ?_)
      exact thn (hr pos pins s1 σ H1 Pr G1 ρ ds2 I1 (E.gr g1) h2) fun us s2 ⟨xs, H2, I2, r2, G2, g2, q2⟩ => ⟨y :: xs, H2, I2, .cons r1 r2, G2, g1.trans g2, .cons (q1.mono g2.ge) q2⟩
    · cases q
  · cases q
theorem cp_tup {x1} {fs : Pvs} (h : CAp c X es fs) : CEp c X (.Tuple es x1 pos) (pTup fs) := fun pins s σ H Pr G ρ d I E q => by
  unfold pTup at q
  split at q
  · rename_i ds h1
    split at q
    · rename_i hl
      cases q
      have big : LIM ≤ sizeLine := by decide
      refine wpAny_Tuple_spliced (thn (h pos pins s σ H Pr G ρ ds I E h1) fun us s1 ⟨vs, H1, I1, r1, G1, g1, q1⟩ => ?_)
      have l1 := q1.length
      have l2 := r1.length
      refine ⟨by omega, ?_⟩
      obtain ⟨z, H2, I2, rz, G2, gr, rp⟩ := laidT (s := s1) (h' := s1.heap) (tk := s1.toks) I1 g1.gh r1 (by omega) q1
      exact ⟨z, H2, I2, rz, G2, g1.trans gr, rp⟩
    · cases q
  · cases q
theorem CEp.ce {a : Pv} (h : CEp c X e a) : CE c X e (eP a) := fun pins s σ H Pr G ρ ρ' d I E q => by
  unfold eP at q
  cases h1 : a ρ with
  | none => rw [h1] at q; cases q
  | some z =>
    rw [h1] at q
    cases q
    exact thn (h pins s σ H Pr G ρ d I E h1) fun u s' ⟨v, H', I', r, G', g, rp⟩ => ⟨v, H', I', r, G', g.ge, E.gr g, rp⟩
def tPv (c : Ct) (a : Pv) : TE := fun σ H Q => ∃ Pr G ρ d, ER c Pr G H σ ρ ∧ a ρ = some d ∧ ∀ v H' G', Gr G H G' H' → Rp c G' v d → Q v H'
theorem CEp.pe {a : Pv} (h : CEp c X e a) : PE X e (tPv c a) := ⟨fun pins s σ H Q I ⟨Pr, G, ρ, d, E, q, k⟩ =>
  thn (h pins s σ H Pr G ρ d I E q) fun u s' ⟨v, H', I', r, G', g, rp⟩ => ⟨v, H', I', r, k v H' G' g rp⟩⟩
/-- a field's value -/
abbrev eQ (p : Pl) : Ev := eP (pQ p)
theorem ce_q {q : Pl} (h : CPl c X e q) : CE c X e (eQ q) := (cp_q h).ce
/-! ### operations whose last operand is a place -/
theorem o1Q_some {g : D → Option D} {q : Pl} {z : D × List O} (h : o1Q g q ρ = some z) : ∃ y, pkQ ρ q = some y ∧ g y = some z.1 ∧ z.2 = ρ := by
  unfold o1Q at h
  split at h
  · rename_i y h1
    split at h
    · rename_i r h2
      cases h
      exact ⟨y, h1, h2, rfl⟩
    · cases h
  · cases h
theorem ce_b1Q {id : String} {a : Expr} {g : D → Option D} {q : Pl} (C : XC c X) (ho : Op1 c X (fun v => call (.builtin id) [v]) g) (hg : Gl X x) (hm : x ∈ bltNames) (hv : bootBuiltins x = some (.builtin id)) (ha : CPl c X a q) (hn : x ≠ "__name__" := by decide) (hdb : (x == ("__debug__" : Str)) = false := by decide)
    (hs : starEach [a] X.env = [(false, eval a X.env)] := by rfl) : CE c X (.Call (.Name x p) [a] [] pos) (o1Q g q) := by
  intro pins s σ H Pr G ρ ρ' d I E h
  obtain ⟨y, h1, h2, h3⟩ := o1Q_some h
  cases h3
  obtain ⟨v0, hp, rt⟩ := E.placeData h1
  refine wpAny_Call_Name_kw (ld_blt I hg (C.blt x hm) hv ?_ hn hdb)
  refine PyProof.Rows.callWith_builtin1 (spl1 (t := pure .none) hs (thn (ha pins s σ H v0 I hp) fun v s2 ⟨v', H', I2, rv, e1, e2⟩ => ?_)) hs rfl
  subst e1
  subst e2
  exact thn (ho pins s2 σ _ G _ v y d I2 E.gh rv rt h2) fun z s3 ⟨w', H3, I3, r3, G3, g3, q3⟩ => ⟨w', H3, I3, r3, PostE.of (Ge.refl _) E g3 q3⟩
theorem o2Q_some {g : D → D → Option D} {a : Ev} {q : Pl} {z : D × List O} (h : o2Q g a q ρ = some z) : ∃ w y, a ρ = some (w, z.2) ∧ pkQ z.2 q = some y ∧ g w y = some z.1 := by
  unfold o2Q at h
  split at h
  · rename_i w ρ1 h0
    split at h
    · rename_i y h1
      split at h
      · rename_i r h2
        cases h
        exact ⟨w, y, h0, h1, h2⟩
      · cases h
    · cases h
  · cases h
theorem ce_cmpQ {a b : Expr} {op : CmpOp} {g : D → D → Option D} {fa : Ev} {q : Pl} (ho : Op2 c X (compareOp op) g) (ha : CE c X a fa) (hb : CPl c X b q) (hm : behindInMarks op b = false) : CE c X (.Compare a [op] [b] pos) (o2Q g fa q) := by
  intro pins s σ H Pr G ρ ρ' d I E h
  obtain ⟨w, y, h0, h1, h2⟩ := o2Q_some h
  refine wpAny_Compare1 (thn (ha pins s σ H Pr G ρ ρ' w I E h0) fun v s1 ⟨v1, H1, I1, r1, G1, g1, E1, q1⟩ => ?_) hm
  obtain ⟨v0, hp, rt⟩ := E1.placeData h1
  refine thn (hb pins s1 σ H1 v0 I1 hp) fun u s2 ⟨v', H', I2, rv, e1, e2⟩ => ?_
  subst e1
  subst e2
  exact thn (ho pins s2 σ _ G1 v1 _ v u w y d I2 E1.gh r1 rv (.of q1) rt h2) fun z s3 ⟨w', H3, I3, r3, G3, g3, q3⟩ => ⟨w', H3, I3, r3, PostE.of g1 E1 g3 q3⟩
theorem ixQ_some {g : D → D → Option D} {k : Pv} {q : Pl} {z : D × List O} (h : ixQ g q k ρ = some z) : ∃ w y, pkQ ρ q = some w ∧ k ρ = some y ∧ g w y = some z.1 ∧ z.2 = ρ := by
  unfold ixQ at h
  split at h
  · rename_i w h0
    split at h
    · rename_i y h1
      split at h
      · rename_i r h2
        cases h
        exact ⟨w, y, h0, h1, h2, rfl⟩
      · cases h
    · cases h
  · cases h
theorem RpT.gr {v : V} {d : D} (g : Gr G H G' H') (r : RpT c G H v d) : RpT c G' H' v d := by
  cases r with
  | of r => exact .of (r.mono g.ge)
  | lst h r => exact .lst (g.same _ _ h) (r.mono g.ge)
  | dic h h1 h2 r1 r2 => exact .dic (g.same _ _ h) h1 h2 (r1.mono g.ge) (r2.mono g.ge)
end
end VL

set_option Elab.async false
set_option linter.all false
set_option maxRecDepth 100000
/-! V24: places written. -/
namespace VL
open PySem PySem.Spec PyProof.Rows L2
section
variable {c : Ct} {X : Cx} {Pr G G' H H' : Hp} {σ : L2.St} {ρ ρ' : List O} {pins : List (Addr × Obj)} {s : Shared} {e : Expr} {es : List Expr} {pos p p' apos cpos : Pos} {x f : Str}
theorem ce_ixQ {a b : Expr} {g : D → D → Option D} {q : Pl} {k : Pv} (hr : IxV c X g) (ha : CPl c X a q) (hb : CEp c X b k) (hs : PlainIx b) : CE c X (.Subscript a b pos) (ixQ g q k) := by
  intro pins s σ H Pr G ρ ρ' d I E h
  obtain ⟨w, y, h0, h1, h2, h3⟩ := ixQ_some h
  cases h3
  obtain ⟨v0, hp, rt⟩ := E.placeData h0
  refine Subscript_ (thn (ha pins s σ H v0 I hp) fun v s1 ⟨v', H', I1, rv, e1, e2⟩ => ?_)
  subst e1
  subst e2
  refine thn (hb pins s1 σ _ Pr G _ y I1 E h1) fun u s2 ⟨v2, H2, I2, r2, G2, g2, q2⟩ => ?_
  exact thn (hr a b pins s2 σ H2 G2 _ v2 v u w y d I2 g2.gh rv r2 (rt.gr g2) (.of q2) h2 (hs _ _)) fun z s3 ⟨w', H3, I3, r3, G3, g3, q3⟩ => ⟨w', H3, I3, r3, PostE.of g2.ge (E.gr g2) g3 q3⟩
/-- the thing that stands alone at a place is changed -/
theorem ER.wr {q : Pl} {o u : O} {a : Addr} {t : HO} (E : ER c Pr G H σ ρ) (h : getP ρ q = some o) (hp : PlS c σ H q (some (.ref a))) (ho : ∀ s f, RpO c G H o s f → ∃ b, s = some (.ref b) ∧ f = [b]) (nb : noBor u = true)
    (hu : RpO c G (upd H a t) u (some (.ref a)) [a]) : ER c Pr G (upd H a t) σ (setP ρ q u) := by
  obtain ⟨s, fp, R, h1, h2, nd, ap, th, k⟩ := E.swap h
  have es := h1.uniq hp
  subst es
  obtain ⟨b, e1, e2⟩ := ho _ _ h2
  cases e1
  subst e2
  have ha := ap a (by simp)
  have nR : a ∉ R := fun z => (List.nodup_append.mp nd).2.2 a (by simp) a z rfl
  refine k G (upd H a t) u [a] (Ge.refl _) (fun b w e => ?_) (fun b w e => ?_) (fun b hb => ?_) (by simp) (fun b hb => ?_) nb hu
  · rw [upd_ne (ne_of_none e ha.2)]
    exact E.gh b w e
  · rw [upd_ne (ne_of_none e ha.1)]
    exact E.pr b w e
  · have hne : b ≠ a := fun z => nR (z ▸ hb)
    rw [upd_ne hne]
    exact ⟨rfl, (ap b (List.mem_append_right _ hb)).2⟩
  · rw [List.mem_singleton.mp hb]
    exact ⟨ha.1, ha.2, nR⟩
theorem ER.dicP {q : Pl} {l : List (D × D)} (E : ER c Pr G H σ ρ) (h : getP ρ q = some (.dic l)) : ∃ a ep hs xs ys, PlS c σ H q (some (.ref a)) ∧ H a = some (dO a ep hs xs ys) ∧ hs = l.map (fun p => hashK c.w p.1) ∧ keysNd l ∧ RpA c G xs (l.map (·.1)) ∧ RpA c G ys (l.map (·.2)) := by
  obtain ⟨s, fp, R, h1, ⟨a, ep, hs, xs, ys, e, _, h3, h4, h5, h6, h7⟩, _⟩ := E.swap h
  subst e
  exact ⟨a, ep, hs, xs, ys, h1, h3, h4, h5, h6, h7⟩
theorem ER.lstP {q : Pl} {l : List D} (E : ER c Pr G H σ ρ) (h : getP ρ q = some (.lst l)) : ∃ a xs, PlS c σ H q (some (.ref a)) ∧ H a = some (.lst xs) ∧ RpA c G xs l := by
  obtain ⟨s, fp, R, h1, ⟨a, xs, e, _, h3, h4⟩, _⟩ := E.swap h
  subst e
  exact ⟨a, xs, h1, h3, h4⟩
theorem RpO.one {l : List (D × D)} : ∀ s f, RpO c G H (.dic l) s f → ∃ b, s = some (.ref b) ∧ f = [b] := fun s f ⟨a, ep, hs, xs, ys, e, e2, _⟩ => ⟨a, e, e2⟩
theorem RpO.oneL {l : List D} : ∀ s f, RpO c G H (.lst l) s f → ∃ b, s = some (.ref b) ∧ f = [b] := fun s f ⟨a, xs, e, e2, _⟩ => ⟨a, e, e2⟩
theorem sPutQ_some {q : Pl} {k : Pv} {e : Ev} {z : Fl × List O} (h : sPutQ q k e ρ = some z) : ∃ v ρ1 key l cl, e ρ = some (v, ρ1) ∧ k ρ1 = some key ∧ getP ρ1 q = some (.dic l) ∧ kcls key = some cl ∧ keysAre cl l = true ∧ l.length < LIM ∧ z = (.nx, setP ρ1 q (.dic (dput key v l))) := by
  unfold sPutQ at h
  split at h
  · rename_i v ρ1 h1
    split at h
    · rename_i key h2
      split at h
      · rename_i l h3
        split at h
        · rename_i o h4
          split at h
          · rename_i h5
            cases h
            obtain ⟨cl, k1, k2, _⟩ := dAsk_some h4
            exact ⟨v, ρ1, key, l, cl, h1, h2, h3, k1, k2, h5, rfl⟩
          · cases h
        · cases h
      · cases h
    · cases h
  · cases h
theorem cs_putQ {q : Pl} {oe ke e : Expr} {fk : Pv} {fe : Ev} (C : XC c X) (ho : CPl c X oe q) (hk : CEp c X ke fk) (he : CE c X e fe) (hs : swapsWith e (some (.Subscript oe ke p')) pos.line X.env = pure false := by rfl) :
    CS c X (.Assign [.Subscript oe ke p'] e pos) (sPutQ q fk fe) := ⟨fun pins s σ H D0 I ⟨Pr, G, ρ, fl, ρ', E, w, kk⟩ => by
  obtain ⟨v, ρ1, key, l, cl, h1, h2, h3, k1, k2, h5, h6⟩ := sPutQ_some w
  cases h6
  refine wpAny_Assign_Subscript (thn (he pins s σ H Pr G ρ ρ1 v I E h1) fun r s1 ⟨vv, H1, I1, rv, G1, g1, E1, q1⟩ => ?_) hs
  obtain ⟨a, ep0, hs0, xs0, ys0, e0, hH0, _⟩ := E1.dicP h3
  refine thn (ho pins s1 σ H1 _ I1 e0) fun u s2 ⟨w', H', I2, ru, ew, eh⟩ => ?_
  subst ew
  subst eh
  cases ru
  refine thn (hk pins s2 σ _ Pr G1 ρ1 key I2 E1 h2) fun iv s3 ⟨y, H3, I3, ry, G3, g3, q3⟩ => ?_
  have E3 := E1.gr g3
  obtain ⟨a', ep, hs', xs, ys, e1, hH, g1', g2', g3', g4'⟩ := E3.dicP h3
  have ea := (PlS.ge g3.same e0).uniq e1
  cases ea
  have big : LIM ≤ sizeLine := by decide
  have hl1 := dput_len (key := key) (d := v) l
  have hkd : ∀ p ∈ dput key v l, (kcls p.1).isSome = true := fun p hp => by
    rcases dput_mem p hp with e | ⟨z, hz, e⟩
    · rw [e, k1]; rfl
    · rw [← e]; exact g2'.2 z hz
  obtain ⟨a2, ep2, hs2, xs2, ys2, ea, eu, hH2, lo, hl, h7⟩ := d_shape C I3 E3.gh (.dic hH g1' g2' g3' g4') (.of (H := H3) q3) (x := .ref a) (v := .ref a) rfl ry k1 k2
  cases ea
  rw [hH] at hH2
  have hH2 := Option.some.inj hH2
  rcases h7 with ⟨_, b, k, x3, rfl, rfl, n1, n2, n3, T, D3⟩ | ⟨_, k, kvs, n1, n2, n3, n4, M, D3⟩
  · have nd : (x3.map (·.1)).Nodup := let ⟨_, _, _, _, _, _, _, _, nd⟩ := D3; nd
    obtain ⟨xs', ys', T'⟩ := T.put n1 n2.1 n2.2 n3 rv (q1.mono g3.ge) nd
    refine wpAny_setItem_heap (hsz := by rw [T.rpa.2.2.2]; omega) (room1 C _ (by show X.A.units + 1 ≤ _; omega)) n2 D3 fun h' D4 sb => ?_
    obtain ⟨ep4, ph, nd4⟩ := dPhi_T3 (l := dput key v l) C lo (by omega) D4 T'
    have hes : ∃ q, h'.get? a = some q := let ⟨q, _, _, hq, _⟩ := D4; ⟨q, hq⟩
    have I4 := d_write (t' := s3.toks + (nestedKind X.prog X.w).draws k) I3 (by rw [hH]; exact True.intro) sb hes (dO_ok ph)
    exact ⟨σ, _, I4, kk σ _ G3 (g1.trans g3.ge) (E3.wr h3 e1 RpO.one rfl ⟨a, _, _, _, _, rfl, rfl, upd_same, rfl, T'.nd nd4 hkd, T'.rpa.1, T'.rpa.2.1⟩)⟩
  · have nd : (kvs.map (·.1)).Nodup := let ⟨_, _, _, _, _, _, _, _, nd⟩ := D3; nd
    obtain ⟨xs', ys', M'⟩ := M.put n1 n3 n4 rv (q1.mono g3.ge) nd
    refine wpAny_setItem_pairs (hsz := by rw [M.rpa.2.2]; omega) n2 D3 fun h' D4 sb => ?_
    obtain ⟨ep4, ph, nd4⟩ := dPhi_M3 (l := dput key v l) C lo (by omega) D4 M'
    have hes : ∃ q, h'.get? a = some q := let ⟨q, _, _, hq, _⟩ := D4; ⟨q, hq⟩
    have I4 := d_write (t' := s3.toks + 1) I3 (by rw [hH]; exact True.intro) sb hes (dO_ok ph)
    exact ⟨σ, _, I4, kk σ _ G3 (g1.trans g3.ge) (E3.wr h3 e1 RpO.one rfl ⟨a, _, _, _, _, rfl, rfl, upd_same, rfl, M'.nd nd4 hkd, M'.rpa.1, M'.rpa.2.1⟩)⟩⟩
/-- place.append(e) -/
theorem cs_appQ {q : Pl} {o e : Expr} {fe : Pv} (ho : CPl c X o q) (he : CEp c X e fe) (hs : swapsWith (.Call (.Attribute o "append" apos) [e] [] cpos) none pos.line X.env = pure false := by rfl)
    (hbase : attributeBase o "append" X.env (eval o X.env) = eval o X.env := by rfl) (hst : starEach [e] X.env = (false, eval e X.env) :: starEach [] X.env := by rfl) (hline : (apos.endLine == cpos.line) = true := by rfl) :
    CS c X (.Expr (.Call (.Attribute o "append" apos) [e] [] cpos) pos) (sAppQ q fe) := ⟨fun pins s σ H D0 I ⟨Pr, G, ρ, fl, ρ', E, w, k⟩ => by
  unfold sAppQ at w
  split at w
  · rename_i d h0
    split at w
    · rename_i l h1
      split at w
      · rename_i hz
        cases w
        obtain ⟨a0, xs0, e0, hA0, _⟩ := E.lstP h1
        refine (ps_expr (pe_bm PySem.F.plainAttrs_list PySem.F.slot_list_append PySem.F.type_list_append mt_append ho.pe (pa_cons he.pe pa_nil hst) hbase (by rw [hst]; rfl) hline hst rfl) hs).run pins s σ H D0 I ?_
        refine ⟨.ref a0, e0, .inl ⟨rfl, xs0, .inl (.inl hA0)⟩, Pr, G, ρ, d, E, h0, fun y H' G' g r => ?_⟩
        have E' := E.gr g
        obtain ⟨a1, xs1, e1, hA1, ra⟩ := E'.lstP h1
        have ea := (PlS.ge g.same e0).uniq e1
        cases ea
        have big : LIM ≤ sizeLine := by decide
        refine ⟨a0, xs1, y, rfl, rfl, hA1, by rw [ra.length]; omega, ?_⟩
        exact k σ _ G' g.ge (E'.wr h1 e1 RpO.oneL rfl ⟨a0, _, rfl, rfl, upd_same, ra.append (.cons r .nil)⟩)
      · cases w
    · cases w
  · cases w⟩
/-- place.pop() -/
theorem ce_popQ {q : Pl} {o : Expr} (ho : CPl c X o q) (hbase : attributeBase o "pop" X.env (eval o X.env) = eval o X.env := by rfl) (hline : (apos.endLine == cpos.line) = true := by rfl) :
    CE c X (.Call (.Attribute o "pop" apos) [] [] cpos) (ePopQ q) := by
  intro pins s σ H Pr G ρ ρ' d I E h
  unfold ePopQ at h
  split at h
  · rename_i l h0
    split at h
    · rename_i d' h1
      cases h
      obtain ⟨a, xs, e0, hA, ra⟩ := E.lstP h0
      refine (pe_bm0 PySem.F.plainAttrs_list PySem.F.slot_list_pop PySem.F.type_list_pop mt_pop ho.pe hbase hline).run pins s σ H _ I ⟨.ref a, e0, .inl ⟨rfl, xs, .inl (.inl hA)⟩, ?_⟩
      rw [List.getLast?_eq_getElem?] at h1
      obtain ⟨v, hv, rv⟩ := ra.get h1
      rw [← ra.length] at hv
      refine ⟨a, xs, v, rfl, rfl, hA, hv, G, Ge.refl _, E.wr h0 e0 RpO.oneL rfl ⟨a, _, rfl, rfl, upd_same, rpa_dropLast ra⟩, rv⟩
    · cases h
  · cases h
/-! ### fields stored -/
/-- what stands ahead of the slots comes into a field -/
theorem ER.fput {i k : Nat} {y : Str} {v : V} {u o0 : O} {fs : Fs} (E : ER c Pr G H (some v :: σ) (u :: ρ)) (hi : ρ[i]? = some o0) (ho : unb o0 = .ins k fs) (nb : noBor u = true) :
    ∃ a C dx fl, σ[i]? = some (some (.ref a)) ∧ H a = some (.ins C dx fl) ∧ c.ci k = some C ∧ fl.length = fs.size ∧ ER c Pr G (upd H a (.ins C dx (putF y v fl))) σ (setP ρ (.f i y) u) := by
  obtain ⟨l, nd, ap, l1, l2, el, ru, sl⟩ := E.own
  subst el
  obtain ⟨s, m1, m2, e1, pm, ro, kk⟩ := sl.at hi
  obtain ⟨r1, r2⟩ := ro.unb
  rw [ho] at r1
  obtain ⟨a, dx, C, fl, f', rfl, hci, hA, hD, ef, rf⟩ := r1
  subst ef
  have sz := rf.size
  obtain ⟨f1, f2, pf, k1, k2, k3⟩ := rf.put (x := y)
  -- the addresses, apart
  have pA : (l1 ++ l2).Perm (a :: dx :: ((l1 ++ f2) ++ (f1 ++ m2))) := by
    have p1 : (l1 ++ l2).Perm (l1 ++ ((a :: dx :: (f1 ++ f2)) ++ m2)) := (pm.trans (List.Perm.append_right m2 ((pf.cons dx).cons a))).append_left l1
    refine p1.trans ?_
    refine (List.perm_append_comm).trans ?_
    have e1 : (a :: dx :: (f1 ++ f2)) ++ m2 ++ l1 = a :: dx :: (f1 ++ (f2 ++ (m2 ++ l1))) := by simp
    have e2 : a :: dx :: ((l1 ++ f2) ++ (f1 ++ m2)) = a :: dx :: (l1 ++ (f2 ++ (f1 ++ m2))) := by simp
    rw [e1, e2]
    refine ((?_ : (f1 ++ (f2 ++ (m2 ++ l1))).Perm (l1 ++ (f2 ++ (f1 ++ m2)))).cons dx).cons a
    refine (List.perm_append_comm_assoc f1 f2 (m2 ++ l1)).trans ?_
    refine List.Perm.trans ?_ (List.perm_append_comm_assoc f2 l1 (f1 ++ m2))
    refine List.Perm.append_left f2 ?_
    refine List.Perm.trans ?_ (List.perm_append_comm (l₁ := f1 ++ m2) (l₂ := l1))
    rw [List.append_assoc]
  have nd2 := pA.nodup_iff.mp nd
  have na : a ∉ dx :: ((l1 ++ f2) ++ (f1 ++ m2)) := (List.nodup_cons.mp nd2).1
  have hapA := ap a (pA.mem_iff.mpr (by simp))
  have out : ∀ b ∈ dx :: ((l1 ++ f2) ++ (f1 ++ m2)), upd H a (.ins C dx (putF y v fl)) b = H b := fun b hb => upd_ne fun z => na (z ▸ hb)
  refine ⟨a, C, dx, fl, e1, hA, hci, sz, ?_⟩
  have ru' : RpO c G (upd H a (.ins C dx (putF y v fl))) u (some v) l1 := ru.mono (Ge.refl _) fun b hb => out b (by simp [hb])
  obtain ⟨m, pm2, rm⟩ := k3 G (upd H a (.ins C dx (putF y v fl))) u v l1 (Ge.refl _) (fun b hb => out b (by simp [hb])) ru'
  have rI : RpO c G (upd H a (.ins C dx (putF y v fl))) (.ins k (fs.put y u)) (some (.ref a)) (a :: dx :: m) := ⟨a, dx, C, _, m, rfl, hci, upd_same, (out dx (by simp)).trans hD, rfl, rm⟩
  have nb0 : noBorF fs = true ∨ unb o0 = o0 := by
    cases o0 with
    | bor j o1 =>
      obtain ⟨_, n, _⟩ := ro
      have q2 : o1 = .ins k fs := ho
      rw [q2] at n
      exact .inl n
    | _ => exact .inr rfl
  have rN : RpO c G (upd H a (.ins C dx (putF y v fl))) (reb o0 (.ins k (fs.put y u))) (some (.ref a)) (a :: dx :: m) := by
    rcases nb0 with n | n
    · exact r2 _ _ _ _ (noBorF_put nb n) rI
    · cases o0 with
      | bor j o1 =>
        have q2 : o1 = .ins k fs := ho
        have n : o1 = .bor j o1 := n
        rw [q2] at n
        cases n
      | _ => exact rI
  obtain ⟨m3, pm3, sm⟩ := kk G _ (some (.ref a)) _ (a :: dx :: m) (Ge.refl _) (fun b hb => out b (by simp [hb])) rN
  rw [set_same e1] at sm
  have es : setP ρ (.f i y) u = ρ.set i (reb o0 (.ins k (fs.put y u))) := by
    unfold setP
    simp only [hi, ho, insOf]
  rw [es]
  have pB : m3.Perm (a :: dx :: ((l1 ++ f2) ++ m2)) := by
    refine pm3.trans ?_
    have p1 : (a :: dx :: m ++ m2).Perm (a :: dx :: (l1 ++ f2) ++ m2) := List.Perm.append_right m2 ((pm2.cons dx).cons a)
    exact p1
  have sub : (a :: dx :: ((l1 ++ f2) ++ m2)).Sublist (a :: dx :: ((l1 ++ f2) ++ (f1 ++ m2))) := by
    refine List.Sublist.cons_cons _ (List.Sublist.cons_cons _ ?_)
    exact List.Sublist.append_left (List.sublist_append_right f1 m2) _
  refine ⟨fun b w e => ?_, fun b w e => ?_, m3, pB.nodup_iff.mpr (nd2.sublist sub), fun b hb => ap b (pA.mem_iff.mpr (sub.subset (pB.mem_iff.mp hb))), sm⟩
  · rw [upd_ne (ne_of_none e hapA.1)]
    exact E.pr b w e
  · rw [upd_ne (ne_of_none e hapA.2)]
    exact E.gh b w e
theorem ER.ahead {v : V} {d : D} (E : ER c Pr G H σ ρ) (r : Rp c G v d) : ER c Pr G H (some v :: σ) (.val d :: ρ) := by
  obtain ⟨l, nd, ap, sl⟩ := E.own
  exact ⟨E.pr, E.gh, l, nd, ap, [], l, rfl, ⟨rfl, v, rfl, r⟩, sl⟩
theorem cs_fld {i : Nat} {o e : Expr} {fe : Ev} (C : XC c X) (ci : CiOk c f) (ho : CPl c X o (.s i)) (he : CE c X e fe) (hs : swapsWith e (some (.Attribute o f p')) pos.line X.env = pure false := by rfl) :
    CS c X (.Assign [.Attribute o f p'] e pos) (sFld i f fe) := ⟨fun pins s σ H D0 I ⟨Pr, G, ρ, fl, ρ', E, w, k⟩ => by
  unfold sFld at w
  split at w
  · rename_i d ρ1 h0
    split at w
    · rename_i o1 h1
      split at w
      · rename_i kf h2
        split at w
        · rename_i hz
          cases w
          refine (ps_fld ho.pe he.pe hs).run pins s σ H D0 I ⟨Pr, G, ρ, d, ρ1, E, h0, fun v H' ⟨G', g, E', r⟩ => ?_⟩
          cases q : ρ1[i]? with
          | none => rw [q] at h1; cases h1
          | some o0 =>
            rw [q] at h1
            have e1 : unb o0 = o1 := Option.some.inj h1
            have e2 : o1 = .ins kf.1 kf.2 := by
              cases o1 with
              | ins k fs => cases h2; rfl
              | _ => cases h2
            obtain ⟨a, C0, dx, fl, s1, hA, hci, sz, E2⟩ := (E'.ahead r).fput (y := f) q (e1.trans e2) rfl
            obtain ⟨c1, c2⟩ := ci _ _ hci
            exact ⟨.ref a, s1, a, C0, dx, fl, rfl, hA, by rw [C.K]; exact c1, by rw [C.K]; exact c2, by omega, k σ _ G' g E2⟩
        · cases w
      · cases w
    · cases w
  · cases w⟩
theorem cs_fldO {i : Nat} {o e : Expr} {fe : Ev} (C : XC c X) (ci : CiOk c f) (ho : CPl c X o (.s i)) (he : CF c X e fe) (hs : swapsWith e (some (.Attribute o f p')) pos.line X.env = pure false := by rfl) :
    CS c X (.Assign [.Attribute o f p'] e pos) (sFldO i f fe) := ⟨fun pins s σ H D0 I ⟨Pr, G, ρ, fl, ρ', E, w, k⟩ => by
  unfold sFldO at w
  split at w
  · rename_i d ρ1 h0
    split at w
    · rename_i o1 h1
      split at w
      · rename_i kf h2
        split at w
        · rename_i hz
          refine (ps_fld ho.pe he.pe hs).run pins s σ H D0 I ⟨Pr, G, ρ, d, ρ1, E, h0, fun v H' ⟨G', u, g, E', hu⟩ => ?_⟩
          cases q : ρ1[i]? with
          | none => rw [q] at h1; cases h1
          | some o0 =>
            rw [q] at h1
            have e1 : unb o0 = o1 := Option.some.inj h1
            have e2 : o1 = .ins kf.1 kf.2 := by
              cases o1 with
              | ins k fs => cases h2; rfl
              | _ => cases h2
            have key : noBor u = true ∧ fl = .nx ∧ ρ' = setP ρ1 (.f i f) u := by
              rcases hu with ⟨z, rfl, rfl⟩ | ⟨z, rfl, rfl⟩
              · cases w; exact ⟨rfl, rfl, rfl⟩
              · cases w; exact ⟨rfl, rfl, rfl⟩
            obtain ⟨n, rfl, rfl⟩ := key
            obtain ⟨a, C0, dx, fl, s1, hA, hci, sz, E2⟩ := E'.fput (y := f) q (e1.trans e2) n
            obtain ⟨c1, c2⟩ := ci _ _ hci
            exact ⟨.ref a, s1, a, C0, dx, fl, rfl, hA, by rw [C.K]; exact c1, by rw [C.K]; exact c2, by omega, k σ _ G' g E2⟩
        · cases w
      · cases w
    · cases w
  · cases w⟩
theorem ct_cmpQ {a b : Expr} {op : CmpOp} {g : D → D → Option D} {fa : Ev} {q : Pl} (ho : Op2 c X (compareOp op) g) (ha : CE c X a fa) (hb : CPl c X b q) (hm : behindInMarks op b = false) : CT c X (.Compare a [op] [b] pos) (o2Q g fa q) := by
  intro pins s σ H Pr G ρ ρ' k I E h
  obtain ⟨w, y, h0, h1, h2⟩ := o2Q_some h
  refine wpAny_isTrue_Compare1 (thn (ha pins s σ H Pr G ρ ρ' w I E h0) fun v s1 ⟨v1, H1, I1, r1, G1, g1, E1, q1⟩ => ?_) hm
  obtain ⟨v0, hp, rt⟩ := E1.placeData h1
  refine thn (hb pins s1 σ H1 v0 I1 hp) fun u s2 ⟨v', H', I2, rv, e1, e2⟩ => ?_
  subst e1
  subst e2
  refine thn (ho pins s2 σ _ G1 v1 _ v u w y _ I2 E1.gh r1 rv (.of q1) rt h2) fun z s3 ⟨w', H3, I3, r3, G3, g3, q3⟩ => ?_
  cases q3
  cases r3
  exact wpAny_truthy_bool ⟨H3, I3, PostT.of g1 E1 g3⟩
end
end VL

set_option Elab.async false
set_option linter.all false
set_option maxRecDepth 100000
/-! V25: what is lent to a def, and comes back changed. -/
namespace VL
open PySem PySem.Spec PyProof.Rows L2
section
variable {c : Ct} {X : Cx} {Pr G G' H H' : Hp} {σ : L2.St} {ρ ρ' : List O} {pins : List (Addr × Obj)} {s : Shared} {e : Expr} {es : List Expr} {pos p p' apos cpos : Pos} {x f : Str}
/-- everything that stands and is neither seen nor of fp -/
def aside (G H : Hp) (fp : List Addr) : Hp := fun b => if (G b).isSome then none else if b ∈ fp then none else H b
theorem aside_some {fp : List Addr} {b : Addr} {u : HO} (h : aside G H fp b = some u) : G b = none ∧ b ∉ fp ∧ H b = some u := by
  unfold aside at h
  split at h
  · cases h
  · rename_i hG
    split at h
    · cases h
    · rename_i hf
      refine ⟨?_, hf, h⟩
      cases e : G b with
      | none => rfl
      | some w => rw [e] at hG; exact absurd rfl hG
theorem aside_of {fp : List Addr} {b : Addr} {u : HO} (h1 : G b = none) (h2 : b ∉ fp) (h3 : H b = some u) : aside G H fp b = some u := by
  unfold aside
  rw [h1, if_neg (by simp), if_neg h2, h3]
theorem aside_fp {fp : List Addr} {b : Addr} (h : b ∈ fp) : aside G H fp b = none := by
  unfold aside
  rw [if_pos h]
  split <;> rfl
theorem ER.lend {q : Pl} {o : O} (E : ER c Pr G H σ ρ) (h : getP ρ q = some o) : ∃ s Pr1, PlS c σ H q s ∧ ER c Pr1 G H [s] [o] ∧
    ∀ G' H' o', Ge G G' → noBor o' = true → ER c Pr1 G' H' [s] [o'] → ER c Pr G' H' σ (setP ρ q o') := by
  obtain ⟨s, fp, R, h1, h2, nd, ap, th, k⟩ := E.swap h
  refine ⟨s, aside G H fp, h1, ⟨fun b u e => ?_, E.gh, fp, (List.nodup_append.mp nd).1, fun b hb => ⟨aside_fp hb, (ap b (List.mem_append_left _ hb)).2⟩, fp, [], by simp, h2, rfl⟩, fun G' H' o' g nb E' => ?_⟩
  · obtain ⟨q1, _, q3⟩ := aside_some e
    exact ⟨q3, q1⟩
  · obtain ⟨l', nd', ap', f1, f2, el, ro, sl⟩ := E'.own
    have e2 : f2 = [] := sl
    subst e2
    rw [List.append_nil] at el
    subst el
    have keep : ∀ b u, G b = none → b ∉ fp → H b = some u → H' b = some u ∧ G' b = none := fun b u h1 h2 h3 => E'.pr b u (aside_of h1 h2 h3)
    have nfp : ∀ b u, Pr b = some u → b ∉ fp := fun b u e hb => by
      rw [(ap b (List.mem_append_left _ hb)).1] at e
      cases e
    refine k G' H' o' l' g E'.gh (fun b u e => ?_) (fun b hb => ?_) nd' (fun b hb => ?_) nb ro
    · obtain ⟨p1, p2⟩ := E.pr b u e
      exact keep b u p2 (nfp b u e) p1
    · obtain ⟨u, hu⟩ := th b hb
      have n : b ∉ fp := fun z => (List.nodup_append.mp nd).2.2 b z b hb rfl
      have r := keep b u (ap b (List.mem_append_right _ hb)).2 n hu
      exact ⟨r.1.trans hu.symm, r.2⟩
    · obtain ⟨a1, a2⟩ := ap' b hb
      refine ⟨?_, a2, fun hR => ?_⟩
      · cases e : Pr b with
        | none => rfl
        | some u =>
          obtain ⟨p1, p2⟩ := E.pr b u e
          rw [aside_of p2 (nfp b u e) p1] at a1
          cases a1
      · obtain ⟨u, hu⟩ := th b hR
        have n : b ∉ fp := fun z => (List.nodup_append.mp nd).2.2 b z b hR rfl
        rw [aside_of (ap b (List.mem_append_right _ hR)).2 n hu] at a1
        cases a1
/-- what stands ahead of the slots is put apart, and taken back -/
theorem ER.park {v : Option V} {o : O} (E : ER c Pr G H (v :: σ) (o :: ρ)) : ∃ Pr', ER c Pr' G H σ ρ ∧ ∀ G' H' σ' ρ', Ge G G' → ER c Pr' G' H' σ' ρ' → ER c Pr G' H' (v :: σ') (o :: ρ') := by
  obtain ⟨l, nd, ap, l1, l2, el, ro, sl⟩ := E.own
  subst el
  have th := ro.there
  obtain ⟨nd1, nd2, nd3⟩ := List.nodup_append.mp nd
  refine ⟨fun b => if b ∈ l1 then H b else Pr b, ⟨fun b u e => ?_, E.gh, l2, nd2, fun b hb => ?_, sl⟩, fun G' H' σ' ρ' g E' => ?_⟩
  · by_cases hb : b ∈ l1
    · have e : (if b ∈ l1 then H b else Pr b) = some u := e
      rw [if_pos hb] at e
      exact ⟨e, (ap b (List.mem_append_left _ hb)).2⟩
    · have e : (if b ∈ l1 then H b else Pr b) = some u := e
      rw [if_neg hb] at e
      exact E.pr b u e
  · have n : b ∉ l1 := fun z => nd3 b z b hb rfl
    show (if b ∈ l1 then H b else Pr b) = none ∧ _
    rw [if_neg n]
    exact ap b (List.mem_append_right _ hb)
  · obtain ⟨m, md, mp, ms⟩ := E'.own
    have inl : ∀ b ∈ l1, H' b = H b ∧ G' b = none := fun b hb => by
      obtain ⟨u, hu⟩ := th b hb
      have r := E'.pr b u (by show (if b ∈ l1 then H b else Pr b) = some u; rw [if_pos hb]; exact hu)
      exact ⟨r.1.trans hu.symm, r.2⟩
    have nm : ∀ b ∈ l1, b ∉ m := fun b hb z => by
      obtain ⟨u, hu⟩ := th b hb
      have r := (mp b z).1
      have r : (if b ∈ l1 then H b else Pr b) = none := r
      rw [if_pos hb, hu] at r
      cases r
    refine ⟨fun b u e => ?_, E'.gh, l1 ++ m, List.nodup_append.mpr ⟨nd1, md, fun b hb b' hb' e => nm b hb (e ▸ hb')⟩, fun b hb => ?_, l1, m, rfl, ro.mono g fun b hb => (inl b hb).1, ms⟩
    · have n : b ∉ l1 := fun z => by
        rw [(ap b (List.mem_append_left _ z)).1] at e
        cases e
      exact E'.pr b u (by show (if b ∈ l1 then H b else Pr b) = some u; rw [if_neg n]; exact e)
    · rcases List.mem_append.mp hb with z | z
      · exact ⟨(ap b (List.mem_append_left _ z)).1, (inl b z).2⟩
      · refine ⟨?_, (mp b z).2⟩
        have n : b ∉ l1 := fun w => nm b w z
        have r := (mp b z).1
        have r : (if b ∈ l1 then H b else Pr b) = none := r
        rw [if_neg n] at r
        exact r
/-- a new thing beside all that stood -/
theorem ER.add {v : Option V} {o : O} (E : ER c Pr G H σ ρ) (g : Ge G G') (E' : ER c (aside G H []) G' H' [v] [o]) : ER c Pr G' H' (v :: σ) (o :: ρ) := by
  obtain ⟨l, nd, ap, sl⟩ := E.own
  obtain ⟨m, md, mp, f1, f2, el, ro, s2⟩ := E'.own
  have e2 : f2 = [] := s2
  subst e2
  rw [List.append_nil] at el
  subst el
  have th := sl.there
  have inl : ∀ b ∈ l, H' b = H b ∧ G' b = none ∧ b ∉ m := fun b hb => by
    obtain ⟨u, hu⟩ := th b hb
    have q := aside_of (fp := []) (ap b hb).2 (by simp) hu
    have r := E'.pr b u q
    refine ⟨r.1.trans hu.symm, r.2, fun z => ?_⟩
    rw [(mp b z).1] at q
    cases q
  refine ⟨fun b u e => ?_, E'.gh, m ++ l, List.nodup_append.mpr ⟨md, nd, fun b hb b' hb' e => (inl b' hb').2.2 (e ▸ hb)⟩, fun b hb => ?_, m, l, rfl, ro, sl.mono g fun b hb => (inl b hb).1⟩
  · obtain ⟨p1, p2⟩ := E.pr b u e
    exact E'.pr b u (aside_of p2 (by simp) p1)
  · rcases List.mem_append.mp hb with z | z
    · refine ⟨?_, (mp b z).2⟩
      cases e : Pr b with
      | none => rfl
      | some u =>
        obtain ⟨p1, p2⟩ := E.pr b u e
        have q := aside_of (fp := []) p2 (by simp) p1
        rw [(mp b z).1] at q
        cases q
    · exact ⟨(ap b z).1, (inl b z).2.1⟩
/-! ### another table of lent things -/
def Ct.at (c : Ct) (t : Nat → Addr) : Ct := ⟨c.K, c.w, c.ci, t⟩
mutual
theorem Rp.tau {t : Nat → Addr} : ∀ {v : V} {d : D}, Rp c G v d → Rp (c.at t) G v d
  | _, _, .non => .non
  | _, _, .bl b => .bl b
  | _, _, .int i => .int i
  | _, _, .str x => .str x
  | _, _, .lst h r => .lst h (RpA.tau r)
  | _, _, .tup h k r => .tup h k (RpA.tau r)
  | _, _, .dic h1 h2 h3 r1 r2 => .dic h1 h2 h3 (RpA.tau r1) (RpA.tau r2)
theorem RpA.tau {t : Nat → Addr} : ∀ {vs : List V} {ds : List D}, RpA c G vs ds → RpA (c.at t) G vs ds
  | _, _, .nil => .nil
  | _, _, .cons h r => .cons (Rp.tau h) (RpA.tau r)
end
theorem Rp.tau' {t : Nat → Addr} {v : V} {d : D} (h : Rp (c.at t) G v d) : Rp c G v d := Rp.tau (c := c.at t) (t := c.tau) h
theorem RpA.tau' {t : Nat → Addr} {v : List V} {d : List D} (h : RpA (c.at t) G v d) : RpA c G v d := RpA.tau (c := c.at t) (t := c.tau) h
mutual
theorem RpO.tau {t : Nat → Addr} : ∀ {o : O} {s : Option V} {fp : List Addr}, noBor o = true → RpO c G H o s fp → RpO (c.at t) G H o s fp
  | .un, _, _, _, h => h
  | .val d, _, _, _, ⟨h0, v, h1, h2⟩ => ⟨h0, v, h1, h2.tau⟩
  | .lst l, _, _, _, ⟨a, xs, h1, h2, h3, h4⟩ => ⟨a, xs, h1, h2, h3, h4.tau⟩
  | .dic l, _, _, _, ⟨a, ep, hs, xs, ys, h1, h2, h3, h4, h5, h6, h7⟩ => ⟨a, ep, hs, xs, ys, h1, h2, h3, h4, h5, h6.tau, h7.tau⟩
  | .ins n fs, _, _, k, ⟨a, dx, C, flds, f', h1, h2, h3, h4, h5, h6⟩ => ⟨a, dx, C, flds, f', h1, h2, h3, h4, h5, RpF.tau k h6⟩
  | .bor _ _, _, _, k, _ => nomatch k
theorem RpF.tau {t : Nat → Addr} : ∀ {fs : Fs} {l : List (Str × V)} {fp : List Addr}, noBorF fs = true → RpF c G H fs l fp → RpF (c.at t) G H fs l fp
  | .nil, _, _, _, h => h
  | .cons n o r, _, _, k, ⟨v, l', f1, f2, h1, h2, h3, h4⟩ => by
    have k : (noBor o && noBorF r) = true := k
    rw [Bool.and_eq_true] at k
    exact ⟨v, l', f1, f2, h1, h2, RpO.tau k.1 h3, RpF.tau k.2 h4⟩
end
theorem RpO.tau' {t : Nat → Addr} {o : O} {s : Option V} {fp : List Addr} (n : noBor o = true) (h : RpO (c.at t) G H o s fp) : RpO c G H o s fp := RpO.tau (c := c.at t) (t := c.tau) n h
theorem ER.tau {t : Nat → Addr} {s : Option V} {o : O} (n : noBor o = true) (E : ER c Pr G H [s] [o]) : ER (c.at t) Pr G H [s] [o] := by
  obtain ⟨l, nd, ap, f1, f2, el, ro, s2⟩ := E.own
  exact ⟨E.pr, E.gh, l, nd, ap, f1, f2, el, ro.tau n, s2⟩
theorem ER.tau' {t : Nat → Addr} {s : Option V} {o : O} (n : noBor o = true) (E : ER (c.at t) Pr G H [s] [o]) : ER c Pr G H [s] [o] := by
  obtain ⟨l, nd, ap, f1, f2, el, ro, s2⟩ := E.own
  exact ⟨E.pr, E.gh, l, nd, ap, f1, f2, el, ro.tau' n, s2⟩
theorem spP_tau {t : Nat → Addr} {n : Nat} {φ : List D → Option D} {vs : List V} {Q : VK} {Ex : XK} (h : spP (c.at t) n φ vs H Q Ex) : spP c n φ vs H Q Ex := by
  obtain ⟨h1, G, ds, r, g, ra, h2, k⟩ := h
  exact ⟨h1, G, ds, r, g, ra.tau', h2, fun v G' H' gr rp => k v G' H' gr rp.tau⟩
/-! ### what a def promises that is lent a thing -/
def spB (c : Ct) (n j : Nat) (φ : O → List D → Option (D × O)) : Sp := fun vs H Q _ => vs.length = n ∧ ∃ (Pr G : Hp) (o o' : O) (ds : List D) (d : D) (a : Addr), vs[j]? = some (.ref a) ∧ noBor o = true ∧ ER c Pr G H [some (.ref a)] [o] ∧ RpA c G (vs.eraseIdx j) ds ∧ φ o ds = some (d, o') ∧
  ∀ v G' H', Ge G G' → noBor o' = true → ER c Pr G' H' [some (.ref a)] [o'] → Rp c G' v d → Q v H'
theorem spB_tau {t : Nat → Addr} {n j : Nat} {φ : O → List D → Option (D × O)} {vs : List V} {Q : VK} {Ex : XK} (h : spB (c.at t) n j φ vs H Q Ex) : spB c n j φ vs H Q Ex := by
  obtain ⟨h1, Pr, G, o, o', ds, d, a, h2, h3, h4, h5, h6, h7⟩ := h
  exact ⟨h1, Pr, G, o, o', ds, d, a, h2, h3, h4.tau' h3, h5.tau', h6, fun v G' H' g n' E r => h7 v G' H' g n' (E.tau n') r.tau⟩
end
end VL

set_option Elab.async false
set_option linter.all false
set_option maxRecDepth 100000
/-! V26: calls that lend a thing; objects made; defs by their bodies. -/
namespace VL
open PySem PySem.Spec PyProof.Rows L2
/-- arguments, the slot i's own thing the j-th -/
def CAB (c : Ct) (X : Cx) (es : List Expr) (i j : Nat) (f : Evs) : Prop := ∀ (pos : Pos) (pins : List (Addr × Obj)) (s : Shared) (σ : L2.St) (H Pr G : Hp) (ρ ρ' : List O) (ds : List D) (v : V), Inv X pins σ H s → ER c Pr G H σ ρ → σ[i]? = some (some v) → f ρ = some (ds, ρ') →
  wpAny (model X.prog X.w) X.A (spliced (backTo pos (starEach es X.env))) (AP X pins σ fun vs H' => vs[j]? = some v ∧ PostA c Pr G σ ρ' ds (vs.eraseIdx j) H') X.xe s
def lentK (d : D) (o : Option O) : Option (D × O) := match o with
  | some (.bor _ u) => some (d, u)
  | _ => none
/-- the slots of a def that is lent the j-th -/
def insB : Nat → O → List D → List O
  | 0, o, ds => o :: ds.map .val
  | _ + 1, _, [] => []
  | j + 1, o, d :: ds => .val d :: insB j o ds
def runB (n j : Nat) (m : Sm) (o : O) (ds : List D) : Option (D × O) := if (noBor o && hasRef o) = true then match m (insB j (.bor 0 o) ds ++ List.replicate (n - (ds.length + 1)) .un) with
  | some (.rt d, ρ') => lentK d ρ'[j]?
  | some (.nx, ρ') => lentK .none ρ'[j]?
  | _ => none
  else none
def mkB (p n j : Nat) (m : Sm) : O → List D → Option (D × O) := fun o ds => if ds.length + 1 = p ∧ j ≤ ds.length then runB n j m o ds else none
/-- f(.., name, ..), name's own thing lent -/
def eCallB (i : Nat) (φ : O → List D → Option (D × O)) (es : Evs) : Ev := fun ρ => match getP ρ (.s i) with
  | some o0 => if hasRef o0 = true then match es ρ with
    | some (ds, ρ1) => match getP ρ1 (.s i) with
      | some o => match φ o ds with
        | some (d, o') => some (d, setP ρ1 (.s i) o')
        | none => none
      | none => none
    | none => none
    else none
  | none => none
def isIns (cl : Nat) (m : Str) : O → Bool
  | .ins k fs => decide (k = cl) && (fs.get m).isNone
  | _ => false
/-- name.m(..) -/
def eMeth (i cl : Nat) (m : Str) (φ : O → List D → Option (D × O)) (es : Evs) : Ev := fun ρ => match getP ρ (.s i) with
  | some o0 => if isIns cl m o0 = true then match es ρ with
    | some (ds, ρ1) => match getP ρ1 (.s i) with
      | some o => match φ o ds with
        | some (d, o') => some (d, setP ρ1 (.s i) o')
        | none => none
      | none => none
    | none => none
    else none
  | none => none
/-- a new object -/
abbrev Eo := List O → Option (O × List O)
def oMake (cl : Nat) (φ : O → List D → Option (D × O)) (es : Evs) : Eo := fun ρ => match es ρ with
  | some (ds, ρ1) => match φ (.ins cl .nil) ds with
    | some (.none, o) => some (o, ρ1)
    | _ => none
  | none => none
def PostO (c : Ct) (Pr G : Hp) (σ : L2.St) (ρ' : List O) (o : O) : VK := fun v H' => ∃ G', Ge G G' ∧ noBor o = true ∧ ER c Pr G' H' (some v :: σ) (o :: ρ')
def CO (c : Ct) (X : Cx) (e : Expr) (f : Eo) : Prop := ∀ (pins : List (Addr × Obj)) (s : Shared) (σ : L2.St) (H Pr G : Hp) (ρ ρ' : List O) (o : O), Inv X pins σ H s → ER c Pr G H σ ρ → f ρ = some (o, ρ') →
  wpAny (model X.prog X.w) X.A (eval e X.env) (EP X pins σ (PostO c Pr G σ ρ' o)) X.xe s
/-- name = a new object -/
def sOwnO (i : Nat) (f : Eo) : Sm := fun ρ => match f ρ with
  | some (o, ρ1) => some (.nx, ρ1.set i o)
  | none => none
/-- C(..).m(..) -/
def eMethT (f : Eo) (cl : Nat) (m : Str) (φ : O → List D → Option (D × O)) (es : Evs) : Ev := fun ρ => match f ρ with
  | some (o, ρ1) => if isIns cl m o = true then match es ρ1 with
    | some (ds, ρ2) => match φ o ds with
      | some (d, _) => some (d, ρ2)
      | none => none
    | none => none
    else none
  | none => none
/-- the def x, lent the j-th argument -/
def FB (c : Ct) (P : Program) (mg : Str → Option Value) (base : Heap) (k : Nat) (x : Str) (j : Nat) (φ : O → List D → Option (D × O)) : Prop :=
  ∃ f fd ps, mg x = some (.ref f) ∧ PySem.W.keepIn c.K (.ref f) = true ∧ Binds c.K fd ps [] ∧ (∀ o ds r, φ o ds = some r → ds.length + 1 = ps.length ∧ noBor o = true) ∧ FnOk P c.w c.K mg base CX0 k f fd ps (spB c ps.length j φ)
/-- the method m of the class cl -/
def FM (c : Ct) (P : Program) (mg : Str → Option Value) (base : Heap) (k cl : Nat) (m : Str) (φ : O → List D → Option (D × O)) : Prop :=
  ∃ C f fd ps, c.ci cl = some C ∧ Cls c.K C ∧ Meth c.K C m f ∧ Binds c.K fd ps [] ∧ (∀ o ds r, φ o ds = some r → ds.length + 1 = ps.length ∧ noBor o = true) ∧ FnOk P c.w c.K mg base CX0 k f fd ps (spB c ps.length 0 φ)
/-- the class x, by its __init__ -/
def FI (c : Ct) (P : Program) (mg : Str → Option Value) (base : Heap) (k : Nat) (x : Str) (cl : Nat) (φ : O → List D → Option (D × O)) : Prop :=
  ∃ C f fd ps, c.ci cl = some C ∧ mg x = some (.ref C) ∧ Mk c.K C f ∧ Binds c.K fd ps [] ∧ (∀ o ds r, φ o ds = some r → ds.length + 1 = ps.length ∧ noBor o = true) ∧ FnOk P c.w c.K mg base CX0 k f fd ps (spB c ps.length 0 φ)
section
variable {c : Ct} {X : Cx} {Pr G G' H H' : Hp} {σ : L2.St} {ρ ρ' : List O} {pins : List (Addr × Obj)} {s : Shared} {e : Expr} {es : List Expr} {pos p p' apos cpos : Pos} {x f m : Str} {P : Program} {mg : Str → Option Value} {base : Heap} {j k cl i : Nat} {φ : O → List D → Option (D × O)} {fs : Evs}
theorem FP.tau {t : Nat → Addr} {ψ : List D → Option D} (F : FP c P mg base k x ψ) : FP (c.at t) P mg base k x ψ := by
  obtain ⟨f, fd, ps, h1, h2, h3, h4, h5⟩ := F
  exact ⟨f, fd, ps, h1, h2, h3, h4, h5.imp fun vs H Q E h => spP_tau h⟩
theorem FB.tau {t : Nat → Addr} (F : FB c P mg base k x j φ) : FB (c.at t) P mg base k x j φ := by
  obtain ⟨f, fd, ps, h1, h2, h3, h4, h5⟩ := F
  exact ⟨f, fd, ps, h1, h2, h3, h4, h5.imp fun vs H Q E h => spB_tau h⟩
theorem FM.tau {t : Nat → Addr} (F : FM c P mg base k cl m φ) : FM (c.at t) P mg base k cl m φ := by
  obtain ⟨C, f, fd, ps, h1, h2, h3, h4, h5, h6⟩ := F
  exact ⟨C, f, fd, ps, h1, h2, h3, h4, h5, h6.imp fun vs H Q E h => spB_tau h⟩
theorem FI.tau {t : Nat → Addr} (F : FI c P mg base k x cl φ) : FI (c.at t) P mg base k x cl φ := by
  obtain ⟨C, f, fd, ps, h1, h2, h3, h4, h5, h6⟩ := F
  exact ⟨C, f, fd, ps, h1, h2, h3, h4, h5, h6.imp fun vs H Q E h => spB_tau h⟩
theorem FB.mono {k' : Nat} (F : FB c P mg base k x j φ) (h : k ≤ k') : FB c P mg base k' x j φ := by
  obtain ⟨f, fd, ps, h1, h2, h3, h4, h5⟩ := F
  exact ⟨f, fd, ps, h1, h2, h3, h4, h5.mono h⟩
theorem FM.mono {k' : Nat} (F : FM c P mg base k cl m φ) (h : k ≤ k') : FM c P mg base k' cl m φ := by
  obtain ⟨C, f, fd, ps, h1, h2, h3, h4, h5, h6⟩ := F
  exact ⟨C, f, fd, ps, h1, h2, h3, h4, h5, h6.mono h⟩
theorem FI.mono {k' : Nat} (F : FI c P mg base k x cl φ) (h : k ≤ k') : FI c P mg base k' x cl φ := by
  obtain ⟨C, f, fd, ps, h1, h2, h3, h4, h5, h6⟩ := F
  exact ⟨C, f, fd, ps, h1, h2, h3, h4, h5, h6.mono h⟩
theorem XC.at (C : XC c X) (t : Nat → Addr) : XC (c.at t) X := ⟨C.K, C.w, C.calm, C.nd, C.hu, C.blt, C.xe⟩
/-! ### arguments -/
theorem cab_here {f : Evs} (i : Nat) (hr : CA c X es f) (hN : X.N[i]? = some x := by rfl) (hv : Vis X.env.scope x := by first | exact .inl rfl | exact .inr (.inl rfl) | exact .inr (.inr rfl)) (hd : (x == ("__debug__" : Str)) = false := by decide) (hcd : (x == ("__classdict__" : Str)) = false := by decide)
    (hs : starEach (.Name x p :: es) X.env = (false, eval (.Name x p) X.env) :: starEach es X.env := by rfl) : CAB c X (.Name x p :: es) i 0 f := by
  intro pos pins s σ H Pr G ρ ρ' ds v I E hσ h
  rw [hs]
  show wpAny _ _ (spliced ((false, eval (.Name x p) X.env) :: backTo pos (starEach es X.env))) _ _ s
  refine Calls.spliced_cons (thn ((pe_var hN hv hd hcd).run pins s σ H (fun w H' => w = v ∧ H' = H) I ⟨v, hσ, rfl, rfl⟩) fun u s1 ⟨w, H1, I1, r1, e1, e2⟩ => ?_)
  subst e1
  subst e2
  exact thn (hr pos pins s1 σ _ Pr G ρ ρ' ds I1 E h) fun us s2 ⟨xs, H2, I2, r2, q2⟩ => ⟨_ :: xs, H2, I2, .cons r1 r2, rfl, q2⟩
theorem cab_skip {f : Ev} {r : Evs} (ha : CE c X e f) (hr : CAB c X es i j r) (hs : starEach (e :: es) X.env = (false, eval e X.env) :: starEach es X.env := by rfl) : CAB c X (e :: es) i (j + 1) (esCons f r) := by
  intro pos pins s σ H Pr G ρ ρ' ds v I E hσ h
  unfold esCons at h
  cases h1 : f ρ with
  | none => rw [h1] at h; cases h
  | some z1 =>
    obtain ⟨d1, ρ1⟩ := z1
    rw [h1] at h
    cases h2 : r ρ1 with
    | none => simp only [h2] at h; cases h
    | some z2 =>
      obtain ⟨ds2, ρ2⟩ := z2
      simp only [h2] at h
      cases h
      rw [hs]
      show wpAny _ _ (spliced ((false, eval e X.env) :: backTo pos (starEach es X.env))) _ _ s
      refine Calls.spliced_cons (thn (ha pins s σ H Pr G ρ ρ1 d1 I E h1) fun u s1 ⟨y, H1, I1, r1, G1, g1, E1, q1⟩ => ?_)
      exact thn (hr pos pins s1 σ H1 Pr G1 ρ1 ρ' ds2 v I1 E1 hσ h2) fun us s2 ⟨xs, H2, I2, r2, hj, G2, g2, E2, q2⟩ => ⟨y :: xs, H2, I2, .cons r1 r2, by simpa using hj, G2, g1.trans g2, E2, by
        rw [List.eraseIdx_cons_succ]
        exact .cons (q1.mono g2) q2⟩
def tAB (c : Ct) (i j : Nat) (f : Evs) : TA := fun σ H Q => ∃ Pr G ρ ds ρ' v, ER c Pr G H σ ρ ∧ σ[i]? = some (some v) ∧ f ρ = some (ds, ρ') ∧ ∀ vs H', vs[j]? = some v → PostA c Pr G σ ρ' ds (vs.eraseIdx j) H' → Q vs H'
theorem CAB.pa {f : Evs} (h : CAB c X es i j f) : PA X es (tAB c i j f) := ⟨fun pos pins s σ H Q I ⟨Pr, G, ρ, ds, ρ', v, E, hσ, q, k⟩ =>
  thn (h pos pins s σ H Pr G ρ ρ' ds v I E hσ q) fun us s' ⟨vs, H', I', r, hj, p⟩ => ⟨vs, H', I', r, k vs H' hj p⟩⟩
theorem RpO.ref {o : O} {s : Option V} {fp : List Addr} (r : RpO c G H o s fp) (h : hasRef o = true) : ∃ a, s = some (.ref a) := by
  cases o with
  | lst l => obtain ⟨a, xs, e, _⟩ := r; exact ⟨a, e⟩
  | dic l => obtain ⟨a, ep, hs, xs, ys, e, _⟩ := r; exact ⟨a, e⟩
  | ins n fs => obtain ⟨a, dx, C, flds, f', e, _⟩ := r; exact ⟨a, e⟩
  | _ => cases h
theorem ER.refAt {o : O} (E : ER c Pr G H σ ρ) (h : getP ρ (.s i) = some o) (hr : hasRef o = true) : ∃ a, σ[i]? = some (some (.ref a)) := by
  obtain ⟨s, fp, R, h1, h2, _⟩ := E.swap h
  obtain ⟨a, rfl⟩ := h2.ref hr
  exact ⟨a, h1⟩
theorem ER.insAt {o : O} (E : ER c Pr G H σ ρ) (h : getP ρ (.s i) = some o) (hr : isIns cl m o = true) : ∃ a C dx fl, σ[i]? = some (some (.ref a)) ∧ c.ci cl = some C ∧ H a = some (.ins C dx fl) ∧ fl.lookup m = none := by
  obtain ⟨s, fp, R, h1, h2, _⟩ := E.swap h
  cases o with
  | ins n fs =>
    obtain ⟨a, dx, C, flds, f', e, hci, hA, hD, ef, rf⟩ := h2
    subst e
    have hr : (decide (n = cl) && (fs.get m).isNone) = true := hr
    rw [Bool.and_eq_true, decide_eq_true_iff] at hr
    obtain ⟨hn, hg⟩ := hr
    subst hn
    exact ⟨a, C, dx, flds, h1, hci, hA, rf.names (Option.isNone_iff_eq_none.mp hg)⟩
  | _ => cases hr
/-! ### the call's core -/
theorem lend_core {o o' : O} {d : D} {ds : List D} {vs : List V} {a : Addr} {n : Nat} (hφ : φ o ds = some (d, o')) (hn : noBor o = true) (hv : vs[j]? = some (.ref a)) (hl : vs.length = n) (E : ER c Pr G H σ ρ) (ho : getP ρ (.s i) = some o) (hσ : σ[i]? = some (some (.ref a))) (ra : RpA c G (vs.eraseIdx j) ds)
    {Q : VK} (k : ∀ v G' H', Ge G G' → ER c Pr G' H' σ (setP ρ (.s i) o') → Rp c G' v d → Q v H') : spB c n j φ vs H Q E0 := by
  obtain ⟨s, Pr1, h1, E1, back⟩ := E.lend ho
  have h1 : σ[i]? = some s := h1
  rw [hσ] at h1
  have es := Option.some.inj h1
  subst es
  exact ⟨hl, Pr1, G, o, o', ds, d, a, hv, hn, E1, ra, hφ, fun v G' H' g nb E' r => k v G' H' g (back G' H' o' g nb E') r⟩
theorem len_erase {α : Type} {l : List α} {j : Nat} {x : α} (h : l[j]? = some x) : l.length = (l.eraseIdx j).length + 1 := by
  have hj : j < l.length := (List.getElem?_eq_some_iff.mp h).1
  rw [List.length_eraseIdx, if_pos hj]
  omega
theorem eCallB_some {z : D × List O} (h : eCallB i φ fs ρ = some z) : ∃ o0 ds ρ1 o o', getP ρ (.s i) = some o0 ∧ hasRef o0 = true ∧ fs ρ = some (ds, ρ1) ∧ getP ρ1 (.s i) = some o ∧ φ o ds = some (z.1, o') ∧ z.2 = setP ρ1 (.s i) o' := by
  unfold eCallB at h
  split at h
  · rename_i o0 h0
    split at h
    · rename_i h1
      split at h
      · rename_i ds ρ1 h2
        split at h
        · rename_i o h3
          split at h
          · rename_i d o' h4
            cases h
            exact ⟨o0, ds, ρ1, o, o', h0, h1, h2, h3, h4, rfl⟩
          · cases h
        · cases h
      · cases h
    · cases h
  · cases h
theorem ce_callB {es : List Expr} (C : XC c X) (F : FB c X.prog X.mg X.base k x j φ) (hr : Room k X.A) (hg : Gl X x) (ha : CAB c X (e :: es) i j fs)
    (hdb : (x == ("__debug__" : Str)) = false := by decide) (he : starEach (e :: es) X.env = (false, eval e X.env) :: starEach es X.env := by rfl) (hpl : (backTo pos (starEach es X.env)).any (·.1) = false := by rfl) : CE c X (.Call (.Name x p) (e :: es) [] pos) (eCallB i φ fs) := by
  intro pins s σ H Pr G ρ ρ' d I E h
  obtain ⟨o0, ds, ρ1, o, o', h0, h1, h2, h3, h4, h5⟩ := eCallB_some h
  have h5 : ρ' = setP ρ1 (.s i) o' := h5
  subst h5
  obtain ⟨a, hσ⟩ := E.refAt h0 h1
  obtain ⟨f, fd, ps, f1, f2, f3, f4, f5⟩ := F
  obtain ⟨l1, l2⟩ := f4 o ds _ h4
  have f5 : FnOk X.prog X.w X.K X.mg X.base CX0 k f fd ps (spB c ps.length j φ) := by rw [C.K, C.w]; exact f5
  refine (pe_call (E := E0) f5 hr hg f1 (by rw [C.K]; exact f2) (by rw [C.K]; exact f3) .nil pass0 ha.pa hdb he hpl).run pins s σ H _ I ⟨Pr, G, ρ, ds, ρ1, _, E, hσ, h2, fun vs H1 hj ⟨G1, g1, E1, ra⟩ => ?_⟩
  show spB c ps.length j φ (vs ++ []) H1 (PostE c Pr G σ (setP ρ1 (.s i) o') d) E0
  rw [List.append_nil]
  exact lend_core h4 l2 hj (by rw [len_erase hj, ra.length]; exact l1) E1 h3 hσ ra fun v G' H' g E' r => ⟨G', g1.trans g, E', r⟩
theorem eMeth_some {z : D × List O} (h : eMeth i cl m φ fs ρ = some z) : ∃ o0 ds ρ1 o o', getP ρ (.s i) = some o0 ∧ isIns cl m o0 = true ∧ fs ρ = some (ds, ρ1) ∧ getP ρ1 (.s i) = some o ∧ φ o ds = some (z.1, o') ∧ z.2 = setP ρ1 (.s i) o' := by
  unfold eMeth at h
  split at h
  · rename_i o0 h0
    split at h
    · rename_i h1
      split at h
      · rename_i ds ρ1 h2
        split at h
        · rename_i o h3
          split at h
          · rename_i d o' h4
            cases h
            exact ⟨o0, ds, ρ1, o, o', h0, h1, h2, h3, h4, rfl⟩
          · cases h
        · cases h
      · cases h
    · cases h
  · cases h
theorem ce_meth {es : List Expr} {pl : Sem Bool} (C : XC c X) (F : FM c X.prog X.mg X.base k cl m φ) (hr : Room k X.A) (i : Nat) (ha : CA c X (e :: es) fs)
    (hN : X.N[i]? = some x := by rfl) (hv : Vis X.env.scope x := by first | exact .inl rfl | exact .inr (.inl rfl) | exact .inr (.inr rfl)) (hd : (x == ("__debug__" : Str)) = false := by decide) (hcd : (x == ("__classdict__" : Str)) = false := by decide)
    (hst : starEach (e :: es) X.env = (false, eval e X.env) :: starEach es X.env := by rfl) (hpl : (backTo pos (starEach es X.env)).any (·.1) = false := by rfl)
    (ht : eval (.Call (.Attribute (.Name x p) m apos) (e :: es) [] pos) X.env = (do
      let ov ← eval (.Name x p) X.env
      standAt apos.atName
      let (f, first) ← holding [ov] (getMethod ov m pl)
      callWith pos f first (backTo pos (starEach (e :: es) X.env)) (backToKw pos (keywordEach [] X.env))) := by rfl) :
    CE c X (.Call (.Attribute (.Name x p) m apos) (e :: es) [] pos) (eMeth i cl m φ fs) := by
  intro pins s σ H Pr G ρ ρ' d I E h
  obtain ⟨o0, ds, ρ1, o, o', h0, h1, h2, h3, h4, h5⟩ := eMeth_some h
  have h5 : ρ' = setP ρ1 (.s i) o' := h5
  subst h5
  obtain ⟨a, C1, dx, fl, hσ, hci, hA, hlk⟩ := E.insAt h0 h1
  obtain ⟨C0, f, fd, ps, f0, f1, f2, f3, f4, f5⟩ := F
  rw [f0] at hci
  cases hci
  obtain ⟨l1, l2⟩ := f4 o ds _ h4
  have f5 : FnOk X.prog X.w X.K X.mg X.base CX0 k f fd ps (spB c ps.length 0 φ) := by rw [C.K, C.w]; exact f5
  refine (pe_meth (E := E0) (pe_var hN hv hd hcd) (by rw [C.K]; exact f1) (by rw [C.K]; exact f2) f5 hr (by rw [C.K]; exact f3) .nil pass0 ha.pa hst hpl ht).run pins s σ H _ I ⟨.ref a, hσ, a, dx, fl, rfl, hA, hlk, Pr, G, ρ, ds, ρ1, E, h2, fun vs H1 ⟨G1, g1, E1, ra⟩ => ?_⟩
  show spB c ps.length 0 φ (.ref a :: (vs ++ [])) H1 (PostE c Pr G σ (setP ρ1 (.s i) o') d) E0
  rw [List.append_nil]
  exact lend_core (j := 0) h4 l2 (vs := .ref a :: vs) rfl (by rw [List.length_cons, ra.length]; exact l1) E1 h3 hσ ra fun v G' H' g E' r => ⟨G', g1.trans g, E', r⟩
theorem ce_meth0 {pl : Sem Bool} (C : XC c X) (F : FM c X.prog X.mg X.base k cl m φ) (hr : Room k X.A) (i : Nat)
    (hN : X.N[i]? = some x := by rfl) (hv : Vis X.env.scope x := by first | exact .inl rfl | exact .inr (.inl rfl) | exact .inr (.inr rfl)) (hd : (x == ("__debug__" : Str)) = false := by decide) (hcd : (x == ("__classdict__" : Str)) = false := by decide)
    (ht : eval (.Call (.Attribute (.Name x p) m apos) [] [] pos) X.env = (do
      let ov ← eval (.Name x p) X.env
      standAt apos.atName
      let (f, first) ← holding [ov] (getMethod ov m pl)
      callWith pos f first (backTo pos (starEach [] X.env)) (backToKw pos (keywordEach [] X.env))) := by rfl) :
    CE c X (.Call (.Attribute (.Name x p) m apos) [] [] pos) (eMeth i cl m φ esNil) := by
  intro pins s σ H Pr G ρ ρ' d I E h
  obtain ⟨o0, ds, ρ1, o, o', h0, h1, h2, h3, h4, h5⟩ := eMeth_some h
  have h5 : ρ' = setP ρ1 (.s i) o' := h5
  subst h5
  cases h2
  obtain ⟨a, C1, dx, fl, hσ, hci, hA, hlk⟩ := E.insAt h0 h1
  obtain ⟨C0, f, fd, ps, f0, f1, f2, f3, f4, f5⟩ := F
  rw [f0] at hci
  cases hci
  obtain ⟨l1, l2⟩ := f4 o [] _ h4
  have f5 : FnOk X.prog X.w X.K X.mg X.base CX0 k f fd ps (spB c ps.length 0 φ) := by rw [C.K, C.w]; exact f5
  refine (pe_meth0 (E := E0) (pe_var hN hv hd hcd) (by rw [C.K]; exact f1) (by rw [C.K]; exact f2) f5 hr (by rw [C.K]; exact f3) .nil pass0 ht).run pins s σ H _ I ⟨.ref a, hσ, a, dx, fl, rfl, hA, hlk, ?_⟩
  show spB c ps.length 0 φ (.ref a :: ([] ++ [])) H (PostE c Pr G σ (setP _ (.s i) o') d) E0
  exact lend_core (j := 0) h4 l2 (vs := [.ref a]) rfl l1 E h3 hσ .nil fun v G' H' g E' r => ⟨G', g, E', r⟩
/-! ### objects made -/
theorem co_make {es : List Expr} (C : XC c X) (F : FI c X.prog X.mg X.base k x cl φ) (hr : Room (k + 1) X.A) (hg : Gl X x) (ha : CA c X (e :: es) fs)
    (hdb : (x == ("__debug__" : Str)) = false := by decide) (he : starEach (e :: es) X.env = (false, eval e X.env) :: starEach es X.env := by rfl) (hpl : (backTo pos (starEach es X.env)).any (·.1) = false := by rfl) : CO c X (.Call (.Name x p) (e :: es) [] pos) (oMake cl φ fs) := by
  intro pins s σ H Pr G ρ ρ' o I E h
  unfold oMake at h
  split at h
  · rename_i ds ρ1 h1
    split at h
    · rename_i o1 h2
      cases h
      obtain ⟨C0, f, fd, ps, f0, f1, f2, f3, f4, f5⟩ := F
      obtain ⟨l1, l2⟩ := f4 _ ds _ h2
      have f5 : FnOk X.prog X.w X.K X.mg X.base CX0 k f fd ps (spB c ps.length 0 φ) := by rw [C.K, C.w]; exact f5
      refine (pe_make (E := E0) (by rw [C.K]; exact f2) f5 hr hg f1 (by rw [C.K]; exact f3) .nil pass0 ha.pa hdb he hpl).run pins s σ H _ I ⟨Pr, G, ρ, ds, _, E, h1, fun vs H1 ⟨G1, g1, E1, ra⟩ a dx n1 n2 ne => ?_⟩
      show spB c ps.length 0 φ (.ref a :: (vs ++ [])) _ _ E0
      rw [List.append_nil]
      have nG : ∀ b, H1 b = none → G1 b = none := fun b e => by
        cases e2 : G1 b with
        | none => rfl
        | some u => rw [E1.gh b u e2] at e; cases e
      refine ⟨by rw [List.length_cons, ra.length]; exact l1, aside G1 H1 [], G1, .ins cl .nil, o, ds, .none, a, rfl, l2, ⟨fun b u e => ?_, fun b u e => ?_, [a, dx], ?_, fun b hb => ?_, [a, dx], [], rfl, ⟨a, dx, C0, [], [], rfl, f0, upd_same, ?_, rfl, rfl, rfl⟩, rfl⟩, ra, h2, fun v G' H' g nb E' r => ?_⟩
      · obtain ⟨q1, _, q3⟩ := aside_some e
        have k1 : b ≠ a := ne_of_none q3 n1
        have k2 : b ≠ dx := ne_of_none q3 n2
        exact ⟨by rw [upd_ne k1, upd_ne k2]; exact q3, q1⟩
      · have q3 := E1.gh b u e
        have k1 : b ≠ a := ne_of_none q3 n1
        have k2 : b ≠ dx := ne_of_none q3 n2
        rw [upd_ne k1, upd_ne k2]
        exact q3
      · exact List.nodup_cons.mpr ⟨fun z => ne (List.mem_singleton.mp z).symm, by simp⟩
      · rcases List.mem_cons.mp hb with e | hb
        · subst e
          refine ⟨?_, nG _ n1⟩
          unfold aside
          rw [n1]
          split <;> rfl
        · rw [List.mem_singleton.mp hb]
          refine ⟨?_, nG _ n2⟩
          unfold aside
          rw [n2]
          split <;> rfl
      · rw [upd_ne ne, upd_same]
      · cases r
        exact ⟨rfl, G', g1.trans g, nb, E1.add g E'⟩
    · cases h
  · cases h
def tO (c : Ct) (f : Eo) : TE := fun σ H Q => ∃ Pr G ρ o ρ', ER c Pr G H σ ρ ∧ f ρ = some (o, ρ') ∧ ∀ v H', PostO c Pr G σ ρ' o v H' → Q v H'
theorem CO.pe {f : Eo} (h : CO c X e f) : PE X e (tO c f) := ⟨fun pins s σ H Q I ⟨Pr, G, ρ, o, ρ', E, q, k⟩ =>
  thn (h pins s σ H Pr G ρ ρ' o I E q) fun u s' ⟨v, H', I', r, p⟩ => ⟨v, H', I', r, k v H' p⟩⟩
/-- name = C(..) -/
theorem cs_ownO {f : Eo} (C : XC c X) (i : Nat) (he : CO c X e f) (hi : X.N[i]? = some x := by rfl) (hx : Loc X.env.scope x := by first | exact .inl rfl | exact .inr rfl) (hs : swapsWith e (some (.Name x p')) pos.line X.env = pure false := by rfl) (hf : X.fn x = true ∨ X.env.scope.names.lookup x = some .local := by first | exact .inl rfl | exact .inr rfl) :
    CS c X (.Assign [.Name x p'] e pos) (sOwnO i f) := ⟨fun pins s σ H D0 I ⟨Pr, G, ρ, fl, ρ', E, q, k⟩ => by
  unfold sOwnO at q
  split at q
  · rename_i o ρ1 h1
    cases q
    exact (ps_set C.nd hi hx he.pe hs hf).run pins s σ H D0 I ⟨Pr, G, ρ, o, ρ1, E, h1, fun v H' ⟨G', g, nb, E'⟩ => k _ H' G' g E'.moveIn⟩
  · cases q⟩
theorem noBor_unb {o : O} (h : noBor o = true) : unb o = o := by
  cases o with
  | bor j o => cases h
  | _ => rfl
/-- C(..).m(..) -/
theorem ce_methT {es : List Expr} {o : Expr} {pl : Sem Bool} {fo : Eo} (C : XC c X) (F : FM c X.prog X.mg X.base k cl m φ) (hr : Room k X.A) (ho : CO c X o fo) (ha : CA c X (e :: es) fs)
    (hst : starEach (e :: es) X.env = (false, eval e X.env) :: starEach es X.env := by rfl) (hpl : (backTo pos (starEach es X.env)).any (·.1) = false := by rfl)
    (ht : eval (.Call (.Attribute o m apos) (e :: es) [] pos) X.env = (do
      let ov ← eval o X.env
      standAt apos.atName
      let (f, first) ← holding [ov] (getMethod ov m pl)
      callWith pos f first (backTo pos (starEach (e :: es) X.env)) (backToKw pos (keywordEach [] X.env))) := by rfl) :
    CE c X (.Call (.Attribute o m apos) (e :: es) [] pos) (eMethT fo cl m φ fs) := by
  intro pins s σ H Pr G ρ ρ' d I E h
  unfold eMethT at h
  split at h
  · rename_i o0 ρ1 h0
    split at h
    · rename_i h1
      split at h
      · rename_i ds ρ2 h2
        split at h
        · rename_i d' o' h4
          cases h
          obtain ⟨C0, f, fd, ps, f0, f1, f2, f3, f4, f5⟩ := F
          obtain ⟨l1, l2⟩ := f4 o0 ds _ h4
          have f5 : FnOk X.prog X.w X.K X.mg X.base CX0 k f fd ps (spB c ps.length 0 φ) := by rw [C.K, C.w]; exact f5
          refine (pe_meth (E := E0) ho.pe (by rw [C.K]; exact f1) (by rw [C.K]; exact f2) f5 hr (by rw [C.K]; exact f3) .nil pass0 ha.pa hst hpl ht).run pins s σ H _ I ⟨Pr, G, ρ, o0, ρ1, E, h0, fun v H1 ⟨G1, g1, nb, E1⟩ => ?_⟩
          have hu : getP (o0 :: ρ1) (.s 0) = some o0 := by
            show some (unb o0) = some o0
            rw [noBor_unb nb]
          obtain ⟨a, C1, dx, fl, hσ, hci, hA, hlk⟩ := E1.insAt hu h1
          have hσ : some (some v) = some (some (V.ref a)) := hσ
          cases hσ
          rw [f0] at hci
          cases hci
          obtain ⟨Pr', E2, back⟩ := E1.park
          refine ⟨a, dx, fl, rfl, hA, hlk, Pr', G1, ρ1, ds, _, E2, h2, fun vs H2 ⟨G2, g2, E3, ra⟩ => ?_⟩
          have E4 := back G2 H2 σ _ g2 E3
          show spB c ps.length 0 φ (.ref a :: (vs ++ [])) H2 _ E0
          rw [List.append_nil]
          refine lend_core (i := 0) (j := 0) h4 l2 (vs := .ref a :: vs) rfl (by rw [List.length_cons, ra.length]; exact l1) E4 (by show some (unb o0) = some o0; rw [noBor_unb nb]) rfl ra fun v G' H' g E' r => ?_
          have e0 : ∀ (ρ2 : List O), setP (o0 :: ρ2) (.s 0) o' = reb o0 o' :: ρ2 := fun ρ2 => rfl
          rw [e0] at E'
          exact ⟨G', (g1.trans g2).trans g, E'.tail, r⟩
        · cases h
      · cases h
    · cases h
  · cases h
end
end VL

set_option Elab.async false
set_option linter.all false
set_option maxRecDepth 100000
/-! V27: defs that are lent a thing, by their bodies. -/
namespace VL
open PySem PySem.Spec PyProof.Rows L2
section
variable {c : Ct} {X : Cx} {Pr G G' H H' : Hp} {σ : L2.St} {ρ ρ' : List O} {P : Program} {mg : Str → Option Value} {base : Heap}
theorem slots_insB {u : O} {v : V} {n : Nat} {l : List Addr} (ro : RpO c G H u (some v) l) : ∀ {j : Nat} {vs : List V} {ds : List D}, vs[j]? = some v → RpA c G (vs.eraseIdx j) ds → Slots c G H (vs.map some ++ List.replicate n none) (insB j u ds ++ List.replicate n .un) l
  | 0, [], _, h, _ => by simp at h
  | 0, w :: vs, ds, h, r => by
    have h : some w = some v := h
    cases h
    exact ⟨l, [], by simp, ro, rpa_vals r⟩
  | j + 1, [], _, h, _ => by simp at h
  | j + 1, w :: vs, ds, h, r => by
    rw [List.eraseIdx_cons_succ] at r
    cases r with
    | cons h1 r => exact ⟨[], l, rfl, ⟨rfl, w, rfl, h1⟩, slots_insB ro (by simpa using h) r⟩
theorem mkB_some {p n j : Nat} {m : Sm} {o : O} {ds : List D} {z : D × O} (h : mkB p n j m o ds = some z) : ds.length + 1 = p ∧ j ≤ ds.length ∧ noBor o = true ∧ hasRef o = true ∧
    ∃ fl ρ', m (insB j (.bor 0 o) ds ++ List.replicate (n - (ds.length + 1)) .un) = some (fl, ρ') ∧ (∃ q, ρ'[j]? = some (.bor q z.2)) ∧ (fl = .rt z.1 ∨ fl = .nx ∧ z.1 = .none) := by
  unfold mkB at h
  split at h
  · rename_i h1
    unfold runB at h
    split at h
    · rename_i h2
      rw [Bool.and_eq_true] at h2
      refine ⟨h1.1, h1.2, h2.1, h2.2, ?_⟩
      have key : ∀ {d : D} {o : Option O}, lentK d o = some z → ∃ q, o = some (.bor q z.2) ∧ d = z.1 := fun {d o} e => by
        unfold lentK at e
        split at e
        · cases e; exact ⟨_, rfl, rfl⟩
        · cases e
      split at h
      · rename_i d ρ' h3
        obtain ⟨q, e1, e2⟩ := key h
        exact ⟨_, ρ', h3, ⟨q, e1⟩, .inl (by rw [e2])⟩
      · rename_i ρ' h3
        obtain ⟨q, e1, e2⟩ := key h
        exact ⟨_, ρ', h3, ⟨q, e1⟩, .inr ⟨rfl, e2.symm⟩⟩
      · cases h
    · cases h
  · cases h
theorem fnB_of {x qual : Str} {st : Stmt} {f : Addr} {fd : FuncData} {N ps : List Str} {k j : Nat} {m : Sm} (F : Fun c.K x qual st f fd) (S : FnScope N ps (defScope st)) (hblt : ∀ y ∈ bltNames, mg y = none)
    (body : ∀ (t : Nat → Addr) (cdv : Value) (A : Around) (outer : List Env) (s : Shared) (H : Hp) (E : XK), XC (c.at t) (cxOf CX0 P c.w c.K mg base N qual (defScope st) f cdv A outer s H E).nox → Room k (cxOf CX0 P c.w c.K mg base N qual (defScope st) f cdv A outer s H E).nox.A → CB (c.at t) (cxOf CX0 P c.w c.K mg base N qual (defScope st) f cdv A outer s H E).nox (defBody st) m) :
    FnOk P c.w c.K mg base CX0 (k + 1) f fd ps (spB c ps.length j (mkB ps.length N.length j m)) := by
  refine F.ok S (fun vs H Q E h => h.1) fun cdv A outer s H vs Q E hr h => ?_
  obtain ⟨hl, Pr, G, o, o', ds, d, a, hv, hn, E1, ra, hφ, kk⟩ := h
  obtain ⟨l1, l2, _, _, fl, ρ', hm, ⟨q, hq⟩, hfl⟩ := mkB_some hφ
  have C : XC (c.at fun _ => a) (cxOf CX0 P c.w c.K mg base N qual (defScope st) f cdv A outer s H E).nox := ⟨rfl, rfl, rfl, S.nd, by have := hr.un; show (A.deeper _).units + 150 < cLine; omega, hblt, rfl⟩
  refine ⟨_, body (fun _ => a) cdv A outer s H E C hr, ?_⟩
  obtain ⟨l, nd, ap, f1, f2, el, ro, sl⟩ := E1.own
  have e2 : f2 = [] := sl
  subst e2
  rw [List.append_nil] at el
  subst el
  have hlen : vs.length = ds.length + 1 := by rw [hl]; exact l1.symm
  have rb : RpO (c.at fun _ => a) G H (.bor 0 o) (some (.ref a)) l := ⟨rfl, hn, ro.tau hn⟩
  have E0 : ER (c.at fun _ => a) Pr G H (L2.start N vs) (insB j (.bor 0 o) ds ++ List.replicate (N.length - (ds.length + 1)) .un) := by
    refine ⟨E1.pr, E1.gh, l, nd, ap, ?_⟩
    unfold L2.start
    rw [hlen]
    exact slots_insB rb hv ra.tau
  have back : ∀ {G' H' : Hp} {σ' : L2.St}, Ge G G' → ER (c.at fun _ => a) Pr G' H' σ' ρ' → noBor o' = true ∧ ER c Pr G' H' [some (.ref a)] [o'] := fun {G' H' σ'} g E' => by
    obtain ⟨l', nd', ap', sl'⟩ := E'.own
    obtain ⟨s0, m1, m2, e1, pm, ⟨r1, r2, r3⟩, _⟩ := sl'.at hq
    subst r1
    have nm := pm.nodup_iff.mp nd'
    exact ⟨r2, E'.pr, E'.gh, m1, (List.nodup_append.mp nm).1, fun b hb => ap' b (pm.mem_iff.mpr (List.mem_append_left _ hb)), m1, [], by simp, r3.tau' r2, rfl⟩
  rcases hfl with rfl | ⟨rfl, e⟩
  · refine ⟨Pr, G, _, _, ρ', E0, hm, fun σ' H' G' g' E' v rp => ?_⟩
    obtain ⟨n', E2⟩ := back g' E'
    exact kk v G' H' g' n' E2 rp.tau'
  · refine ⟨Pr, G, _, _, ρ', E0, hm, fun σ' H' G' g' E' => ?_⟩
    obtain ⟨n', E2⟩ := back g' E'
    have e : d = .none := e
    rw [e] at kk
    exact kk .non G' H' g' n' E2 .non
theorem mkB_len {n j : Nat} {m : Sm} {ps : List Str} : ∀ o ds r, mkB ps.length n j m o ds = some r → ds.length + 1 = ps.length ∧ noBor o = true := fun o ds r h => by
  obtain ⟨h1, _, h2, _⟩ := mkB_some h
  exact ⟨h1, h2⟩
section
variable {x qual : Str} {st : Stmt} {f C0 : Addr} {fd : FuncData} {N ps : List Str} {k j cl : Nat} {m : Sm}
theorem fb_mk (F : Fun c.K x qual st f fd) (S : FnScope N ps (defScope st)) (hm : mg x = some (.ref f)) (hb : Binds c.K fd ps []) (hblt : ∀ y ∈ bltNames, mg y = none)
    (body : ∀ (t : Nat → Addr) (cdv : Value) (A : Around) (outer : List Env) (s : Shared) (H : Hp) (E : XK), XC (c.at t) (cxOf CX0 P c.w c.K mg base N qual (defScope st) f cdv A outer s H E).nox → Room k (cxOf CX0 P c.w c.K mg base N qual (defScope st) f cdv A outer s H E).nox.A → CB (c.at t) (cxOf CX0 P c.w c.K mg base N qual (defScope st) f cdv A outer s H E).nox (defBody st) m) :
    FB c P mg base (k + 1) x j (mkB ps.length N.length j m) :=
  ⟨f, fd, ps, hm, F.kp, hb, mkB_len, fnB_of F S hblt body⟩
theorem fm_mk {y : Str} (F : Fun c.K x qual st f fd) (S : FnScope N ps (defScope st)) (hC : c.ci cl = some C0) (hcl : Cls c.K C0) (hM : Meth c.K C0 y f) (hb : Binds c.K fd ps []) (hblt : ∀ y ∈ bltNames, mg y = none)
    (body : ∀ (t : Nat → Addr) (cdv : Value) (A : Around) (outer : List Env) (s : Shared) (H : Hp) (E : XK), XC (c.at t) (cxOf CX0 P c.w c.K mg base N qual (defScope st) f cdv A outer s H E).nox → Room k (cxOf CX0 P c.w c.K mg base N qual (defScope st) f cdv A outer s H E).nox.A → CB (c.at t) (cxOf CX0 P c.w c.K mg base N qual (defScope st) f cdv A outer s H E).nox (defBody st) m) :
    FM c P mg base (k + 1) cl y (mkB ps.length N.length 0 m) :=
  ⟨C0, f, fd, ps, hC, hcl, hM, hb, mkB_len, fnB_of F S hblt body⟩
theorem fi_mk {y : Str} (F : Fun c.K x qual st f fd) (S : FnScope N ps (defScope st)) (hC : c.ci cl = some C0) (hm : mg y = some (.ref C0)) (hM : Mk c.K C0 f) (hb : Binds c.K fd ps []) (hblt : ∀ y ∈ bltNames, mg y = none)
    (body : ∀ (t : Nat → Addr) (cdv : Value) (A : Around) (outer : List Env) (s : Shared) (H : Hp) (E : XK), XC (c.at t) (cxOf CX0 P c.w c.K mg base N qual (defScope st) f cdv A outer s H E).nox → Room k (cxOf CX0 P c.w c.K mg base N qual (defScope st) f cdv A outer s H E).nox.A → CB (c.at t) (cxOf CX0 P c.w c.K mg base N qual (defScope st) f cdv A outer s H E).nox (defBody st) m) :
    FI c P mg base (k + 1) y cl (mkB ps.length N.length 0 m) :=
  ⟨C0, f, fd, ps, hC, hm, hM, hb, mkB_len, fnB_of F S hblt body⟩
/-! ### nothing promised -/
theorem fb_none (hm : mg x = some (.ref f)) (hk : PySem.W.keepIn c.K (.ref f) = true) (hb : Binds c.K fd ps []) : FB c P mg base k x j fun _ _ => none :=
  ⟨f, fd, ps, hm, hk, hb, (fun _ _ _ h => nomatch h), ⟨fun vs H Q E h => h.1, fun A outer s H args us vs Q E _ _ _ _ ⟨_, _, _, _, _, _, _, _, _, _, _, _, h, _⟩ => nomatch h⟩⟩
theorem fm_none {y : Str} (hC : c.ci cl = some C0) (hcl : Cls c.K C0) (hM : Meth c.K C0 y f) (hb : Binds c.K fd ps []) : FM c P mg base k cl y fun _ _ => none :=
  ⟨C0, f, fd, ps, hC, hcl, hM, hb, (fun _ _ _ h => nomatch h), ⟨fun vs H Q E h => h.1, fun A outer s H args us vs Q E _ _ _ _ ⟨_, _, _, _, _, _, _, _, _, _, _, _, h, _⟩ => nomatch h⟩⟩
theorem fp_none (hm : mg x = some (.ref f)) (hk : PySem.W.keepIn c.K (.ref f) = true) (hb : Binds c.K fd ps []) : FP c P mg base k x fun _ => none :=
  ⟨f, fd, ps, hm, hk, hb, (fun _ _ h => nomatch h), ⟨fun vs H Q E h => h.1, fun A outer s H args us vs Q E _ _ _ _ ⟨_, _, _, _, _, _, h, _⟩ => nomatch h⟩⟩
end
/-! ### the classes by number -/
def ci1 (a : Addr) : Nat → Option Addr
  | 0 => some a
  | _ => none
def ci2 (a b : Addr) : Nat → Option Addr
  | 0 => some a
  | 1 => some b
  | _ => none
def ci3 (a b d : Addr) : Nat → Option Addr
  | 0 => some a
  | 1 => some b
  | 2 => some d
  | _ => none
theorem ciOk1 {K : PySem.W.Frag} {w : World} {a : Addr} {x : Str} (h : Cls K a) (n : NoAttr K a x) : CiOk ⟨K, w, ci1 a, fun _ => 0⟩ x := fun k C e => match k, e with
  | 0, e => by cases e; exact ⟨h, n⟩
  | _ + 1, e => nomatch e
theorem ciOk2 {K : PySem.W.Frag} {w : World} {a b : Addr} {x : Str} (h : Cls K a) (n : NoAttr K a x) (h2 : Cls K b) (n2 : NoAttr K b x) : CiOk ⟨K, w, ci2 a b, fun _ => 0⟩ x := fun k C e => match k, e with
  | 0, e => by cases e; exact ⟨h, n⟩
  | 1, e => by cases e; exact ⟨h2, n2⟩
  | _ + 2, e => nomatch e
theorem ciOk3 {K : PySem.W.Frag} {w : World} {a b d : Addr} {x : Str} (h : Cls K a) (n : NoAttr K a x) (h2 : Cls K b) (n2 : NoAttr K b x) (h3 : Cls K d) (n3 : NoAttr K d x) : CiOk ⟨K, w, ci3 a b d, fun _ => 0⟩ x := fun k C e => match k, e with
  | 0, e => by cases e; exact ⟨h, n⟩
  | 1, e => by cases e; exact ⟨h2, n2⟩
  | 2, e => by cases e; exact ⟨h3, n3⟩
  | _ + 3, e => nomatch e
end
end VL

set_option Elab.async false
set_option linter.all false
set_option maxRecDepth 100000
/-! V28: sorted tuples whose first items that differ can be compared. -/
namespace VL
open PySem PySem.Spec PyProof.Rows L2 PySem.W PySem.SeqAt
def cmpOk : List D → List D → Bool
  | x :: xs, y :: ys => alike x y && (!PyData.eqv x y || cmpOk xs ys)
  | _, _ => true
def tup1 : D → Bool
  | .tuple (x :: xs) => x.plain && PyData.plainAll xs
  | _ => false
def cmp2 : D → D → Bool
  | .tuple xs, .tuple ys => cmpOk xs ys
  | _, _ => false
def sortableT (l : List D) : Bool := (l.all tup1) && ((l.all fun x => l.all fun y => cmp2 x y) && (decide (l.length ≤ LIM) && l.all fun x => decide (x.depth ≤ lvl)))
theorem sortableT_of {l : List D} (h : sortableT l = true) : (∀ d ∈ l, ∃ x xs, d = .tuple (x :: xs) ∧ x.plain = true ∧ PyData.plainAll xs = true) ∧ (∀ d ∈ l, ∀ d' ∈ l, cmp2 d d' = true) ∧ l.length ≤ LIM ∧ ∀ d ∈ l, d.depth ≤ lvl := by
  unfold sortableT at h
  simp only [Bool.and_eq_true, List.all_eq_true, decide_eq_true_eq] at h
  obtain ⟨h1, h2, h3, h4⟩ := h
  refine ⟨fun d hd => ?_, h2, h3, h4⟩
  have := h1 d hd
  cases d with
  | tuple xs =>
    cases xs with
    | nil => cases this
    | cons x xs =>
      have this : (x.plain && PyData.plainAll xs) = true := this
      rw [Bool.and_eq_true] at this
      exact ⟨x, xs, rfl, this.1, this.2⟩
  | _ => cases this
section
variable {prog : Program} {w : World} {A : Around} {s : Shared}
theorem katLex_ok {b fin : Bool} {Q : Bool → Shared → Prop} : ∀ (xs ys : List PyData) (i : Nat) (vs ws : List Value) (as bs : List Addr), ReadsAll s.heap vs xs as → ReadsAll s.heap ws ys bs → cmpOk xs ys = true →
    A.units + min (PyData.depthAll xs) (PyData.depthAll ys) < cLine → (b = true → i = 0 → ∀ x r t, xs = x :: r → x ≠ .tuple t) → fin = decide (xs.length < ys.length) → Q (PyProof.Rows.lexLt itemOrd (keyToksAll xs) (keyToksAll ys)) s → KatLex prog w A b fin Q (vs.zip ws) i s
  | [], [], i, _, _, _, _, ra, rb, _, _, _, hf, hq => by
    cases ra
    cases rb
    have e : fin = false := by rw [hf]; rfl
    subst e
    rw [lex_irrefl] at hq
    exact kat_nil hq
  | [], y :: ys, i, _, _, _, _, ra, rb, _, _, _, hf, hq => by
    cases ra
    have e : fin = true := by rw [hf]; exact decide_eq_true (Nat.succ_pos _)
    subst e
    rw [toks_all_cons] at hq
    simp only [keyToksAll] at hq
    rw [lex_diff (O := itemOrd) (by simp)] at hq
    rw [List.zip_nil_left]
    exact kat_nil (by simpa [itemLt] using hq)
  | x :: xs, [], i, _, _, _, _, ra, rb, _, _, _, hf, hq => by
    cases rb
    have e : fin = false := by rw [hf]; exact decide_eq_false (Nat.not_lt_zero _)
    subst e
    rw [toks_all_cons] at hq
    simp only [keyToksAll] at hq
    rw [lex_diff (O := itemOrd) (by simp)] at hq
    rw [List.zip_nil_right]
    exact kat_nil (by simpa [itemLt] using hq)
  | x :: xs, y :: ys, i, _, _, _, _, ra, rb, h, hu, hb, hf, hq => by
    have h : (alike x y && (!PyData.eqv x y || cmpOk xs ys)) = true := h
    rw [Bool.and_eq_true] at h
    obtain ⟨h1, h2⟩ := h
    have hf' : fin = decide (xs.length < ys.length) := by
      rw [hf]
      simp only [List.length_cons, Nat.add_lt_add_iff_right]
    cases ra with
    | cons r rs =>
      cases rb with
      | cons r' rs' =>
        rw [List.zip_cons_cons]
        refine kat_cons (eqAt_alike x y A s _ _ _ _ r r' h1 (room_head hu) prog w _ _ ?_)
        cases hx : PyData.eqv x y with
        | true =>
          rw [hx] at h2
          rw [dataLt_all_yes h1 hx] at hq
          exact kat_yes (katLex_ok xs ys (i + 1) _ _ _ _ rs rs' h2 (room_tail hu) (fun _ hi => absurd hi (Nat.succ_ne_zero i)) hf' hq)
        | false =>
          rw [dataLt_all_no h1 hx] at hq
          refine kat_no (oneLt_alike (fun hbi t => ?_) r r' h1 (ne_none_of h1 hx) (room_head hu) hq)
          rw [Bool.and_eq_true] at hbi
          exact hb hbi.1 (by simpa using hbi.2) x xs t rfl
theorem dataKind_plain {h : Heap} {ds : List PyData} (hp : ∀ d ∈ ds, d.plain = true) {v : Value} {d : PyData} {as : List Addr} (hd : d ∈ ds) (r : Reads h v d as) : (dataKind h ds).keyOf v = some (keyToks d) := by
  have q : ∃ d, d ∈ ds ∧ ∃ as, Reads h v d as := ⟨d, hd, as, r⟩
  have e : (dataKind h ds).keyOf v = some (keyToks q.choose) := by
    show (open Classical in if q : ∃ d, d ∈ ds ∧ ∃ as, Reads h v d as then some (keyToks q.choose) else none) = _
    rw [dif_pos q]
  obtain ⟨h1, as', h2⟩ := q.choose_spec
  rw [e, plain_unique _ _ _ _ _ (hp _ h1) h2 r]
theorem sortsAt_T {vs : List Value} {ds : List D} (e : EachIs (fun v d => ∃ as, Reads s.heap v d as) vs ds) (ht : ∀ d ∈ ds, ∃ x r, d = .tuple (x :: r)) (hp : ∀ d ∈ ds, d.plain = true) (hal : ∀ d ∈ ds, ∀ d' ∈ ds, cmp2 d d' = true) (hu : ∀ d, d ∈ ds → A.units + d.depth < cLine) : SortsAt prog w A s (dataKind s.heap ds) vs := by
  have room : ∀ {d d' : PyData}, d ∈ ds → A.units + min d.depth d'.depth < cLine := fun {d d'} hd => Nat.lt_of_le_of_lt (Nat.add_le_add_left (Nat.min_le_left _ _) _) (hu d hd)
  refine ⟨fun v hv => ?_, ?_⟩
  · obtain ⟨d, hd, as, r⟩ := e.left v hv
    exact ⟨_, dataKind_plain hp hd r⟩
  · cases ds with
    | nil =>
      cases e
      exact ⟨general', fun E x y a b Q ha _ _ => (by
        obtain ⟨d, _, hd, _⟩ := dataKind_inv ha
        exact absurd hd (by simp)), fun h2 => absurd h2 (by simp)⟩
    | cons d₀ ds₀ =>
      obtain ⟨x₀, r₀, e₀⟩ := ht d₀ (List.mem_cons_self ..)
      have hfirst : ∀ x r, PyData.tuple (x :: r) ∈ d₀ :: ds₀ → alike x x₀ = true := by
        intro x r hm
        have q := hal _ hm d₀ (List.mem_cons_self ..)
        rw [e₀] at q
        have q : (alike x x₀ && (!PyData.eqv x x₀ || cmpOk r r₀)) = true := q
        rw [Bool.and_eq_true] at q
        exact q.1
      refine ⟨tuples' (dataType x₀ != Value.type "tuple"), ?_, fun h2 E Q hq => ?_⟩
      · intro E x y a b Q ha hb hq
        obtain ⟨d, as, hd, ra, rfl⟩ := dataKind_inv ha
        obtain ⟨d', as', hd', rb, rfl⟩ := dataKind_inv hb
        have hdd := hal d hd d' hd'
        have hroom := room (d' := d') hd
        obtain ⟨x1, r1, rfl⟩ := ht d hd
        obtain ⟨x2, r2, rfl⟩ := ht d' hd'
        have hq' : Q (dataLt (.tuple (x1 :: r1)) (.tuple (x2 :: r2))) s := hq
        rw [dataLt_tuple] at hq'
        cases ra with
        | @tuple l o xs n _ _ h1 h2 h3 h4 =>
          cases rb with
          | @tuple l' o' xs' n' _ _ k1 k2 k3 k4 =>
            have n1 : xs.size = (x1 :: r1).length := by simpa using SeqAt.ReadsAll.length _ _ _ h4
            have n2 : xs'.size = (x2 :: r2).length := by simpa using SeqAt.ReadsAll.length _ _ _ k4
            refine kat_lt h1 h3 k1 k3 (katLex_ok (x1 :: r1) (x2 :: r2) 0 _ _ _ _ h4 k4 hdd (by have q := SeqAt.room_in hroom; omega) (fun hb _ x r t ex => ?_) (by rw [n1, n2]) hq')
            obtain ⟨rfl, rfl⟩ := List.cons.inj ex
            have q := dataType_alike (hfirst _ _ hd)
            rw [← q] at hb
            exact dataType_tuple hb t
      · obtain ⟨fs, t1, t2, t3⟩ := each_katTups e ht
        refine kat_kind (T := dataType x₀) t1 (by omega) (fun f hf => ?_) (beq_self_eq_true _) hq
        obtain ⟨x, r, as, m1, m2⟩ := t3 f hf
        rw [← dataType_alike (hfirst x r m1)]
        exact looks_reads m2
end
/-- sorted(x), whatever is walked, the items tuples -/
theorem sorted_shellT {P : Program} {w : World} {A : Around} {E : Value → Shared → Prop} {s : Shared} {r : Value} {ds : List D} {C : (Value → D → Prop) → Heap → Prop} {Q : Value → Shared → Prop}
    (hcol : ∀ E' : Value → Shared → Prop, wpAny (model P w) A.in1 (collect r) (fun vs s1 => ∃ (h' : Heap) (tk : Nat) (R : Value → D → Prop), s1 = { s with heap := h', toks := tk } ∧ (∀ b o, s.heap.get? b = some o → h'.get? b = some o) ∧ EachIs R vs ds ∧ EachIs (fun v d => ∃ as, Reads h' v d as) vs ds ∧ C R h') E' s)
    (ht : ∀ d ∈ ds, ∃ x r, d = .tuple (x :: r)) (hp : ∀ d ∈ ds, d.plain = true) (hal : ∀ d ∈ ds, ∀ d' ∈ ds, cmp2 d d' = true) (hL : ds.length ≤ sizeLine) (hu : ∀ d, d ∈ ds → A.units + 2 + d.depth < cLine)
    (h : ∀ (h1 h' : Heap) (tk : Nat) (p : Addr) (out : List Value) (n : Nat) (R : Value → D → Prop), C R h1 → (∀ b o, s.heap.get? b = some o → h1.get? b = some o) → (∀ b o, h1.get? b = some o → h'.get? b = some o) → h1.objs.size ≤ p → h'.get? p = some { cls := .type "list", data := .seq out.toArray n } → out.length = ds.length → EachIs R out (ds.mergeSort (dataLe false id)) → Q (.ref p) { s with heap := h', toks := tk }) :
    wpAny (model P w) A (call (.builtin "sorted") [r]) Q E s := by
  refine call_function_entry_kw kind_sorted plain_sorted entry_sorted (args_sorted1 _) ?_
  unfold Builtin.«sorted»
  refine wpAny_bind (m := checkCount "sorted" 1 1 _) (wpAny_pure ?_)
  refine wpAny_bind (wpAny_mono (hcol _) (fun vs s1 ⟨h1, tk, R, e1, k1, eR, er, hC⟩ => ?_) fun _ _ x => x)
  subst e1
  have hlen : vs.length = ds.length := eR.length
  refine wpAny_bind (wpAny_newList ?_ (by rw [hlen]; exact hL))
  have ho : (h1.push (seqObj "list" vs.toArray 0)).get? h1.objs.size = some (seqObj "list" vs.toArray 0) := Heap.get?_push_size _ rfl
  have kp : ∀ b o, h1.get? b = some o → (h1.push (seqObj "list" vs.toArray 0)).get? b = some o := fun b o e => Heap.get?_push_of_some _ e
  have ks : ∀ b o, h1.get? b = some o → (sortingHeap (h1.push (seqObj "list" vs.toArray 0)) h1.objs.size vs).get? b = some o := fun b o e => sortingHeap_old (Nat.ne_of_lt (Heap.lt_size e)) (kp b o e)
  have er' : EachIs (fun v d => ∃ as, Reads (sortingHeap (h1.push (seqObj "list" vs.toArray 0)) h1.objs.size vs) v d as) vs ds := er.mono fun _ _ ⟨as, r⟩ => ⟨as, PyProof.Rows.Reads.keeps ks r⟩
  refine wpAny_bind (wpAny_holding (wpAny_call_entry_kw slot_list_sort ⟨_, ho, rfl⟩ entry_list_sort ?body (args_list_sort _)))
  case body =>
    show wpAny (model P w) A.in1.in1 (Builtin.«list.sort» ⟨[.ref h1.objs.size], []⟩) _ _ { s with heap := h1.push (seqObj "list" vs.toArray 0), toks := tk }
    refine list_sort_vals (s := { s with heap := h1.push (seqObj "list" vs.toArray 0), toks := tk }) (κ := dataKind (sortingHeap (h1.push (seqObj "list" vs.toArray 0)) h1.objs.size vs) ds) ho (sortsAt_T (s := { s with heap := sortingHeap (h1.push (seqObj "list" vs.toArray 0)) h1.objs.size vs, toks := tk }) er' ht hp hal hu) (by rw [hlen]; exact hL) ?_
    refine ⟨.none, rfl, wpAny_pure ⟨_, rfl, ?_⟩⟩
    obtain ⟨n, hn⟩ := PyProof.Rows.sortedHeap_at (vs := vs) (out := (sortVals (dataKind (sortingHeap (h1.push (seqObj "list" vs.toArray 0)) h1.objs.size vs) ds) false vs vs).toArray) ho
    refine h h1 _ tk h1.objs.size _ n R hC k1 (fun b o e => ?_) (Nat.le_refl _) hn (by rw [sortVals_length false rfl]; exact hlen) ?_
    · exact (PyProof.Rows.sortedHeap_old (Nat.ne_of_lt (Heap.lt_size e)) (Heap.lt_size (kp b o e))).trans (kp b o e)
    · exact sortVals_each (κ := dataKind (sortingHeap (h1.push (seqObj "list" vs.toArray 0)) h1.objs.size vs) ds) (fun b : D => keyToks b) eR ((each_mem er').mono fun _ _ ⟨⟨_, r⟩, hd⟩ => dataKind_plain hp hd r)
def sSortedT : D → Option D
  | .list l => if sortableT l then some (.list (isort l)) else none
  | _ => none
def sSortedA : D → Option D := or1 sSorted sSortedT
theorem plain_all {l : List D} (h : ∀ d ∈ l, d.plain = true) : PyData.plainAll l = true := by
  induction l with
  | nil => rfl
  | cons x l ih =>
    rw [PyData.plainAll, h x List.mem_cons_self, ih fun d hd => h d (List.mem_cons_of_mem _ hd)]
    rfl
section
variable {c : Ct} {X : Cx} {Pr G H : Hp} {σ : L2.St} {ρ ρ' : List O} {pins : List (Addr × Obj)} {s : Shared}
theorem fp_sortedT (C : XC c X) : Fp1 c X (fun v => call (.builtin "sorted") [v]) sSortedT := by
  intro pins s σ H G x v d r I g rx t e
  unfold sSortedT at e
  have hu := C.hu
  cases d with
  | list l =>
    have e : (if sortableT l = true then some (PyData.list (isort l)) else none) = some r := e
    by_cases hs : sortableT l = true
    · rw [if_pos hs] at e
      cases e
      obtain ⟨a, xs, rfl, q, ra⟩ := t.seqL g
      obtain ⟨its, rv, pl, hz⟩ := I.list (by rw [C.K]; exact q)
      cases rx
      obtain ⟨o, ho, hc, n, hd⟩ := pl.isList
      obtain ⟨a1, a2, a3, a4⟩ := sortableT_of hs
      have hp : ∀ d ∈ l, d.plain = true := fun d hd => by
        obtain ⟨y, ys, rfl, h1, h2⟩ := a1 d hd
        show PyData.plainAll (y :: ys) = true
        rw [PyData.plainAll, h1, h2]
        rfl
      have big : LIM ≤ sizeLine := by decide
      refine sorted_shellT (ds := l) (C := fun R _ => R = fun v d => ∃ x, RelV x v ∧ Rp c G x d) (fun E' => ?_) (fun d hd => let ⟨y, ys, e, _⟩ := a1 d hd; ⟨y, ys, e⟩) hp a2 (by omega) (fun d hd => by have h9 : d.depth ≤ 60 := a4 d hd; omega) (fun h1 h' tk p out n R hR k1 k2 hpp hpo hl eo => ?_)
      · refine wpAny_collect_seq a (.inl rfl) ho hc hd (fun h' k => ?_) (by rw [List.size_toArray, ← rv.length]; exact hz)
        refine ⟨h', s.toks, _, rfl, k, rp_each rv ra, ?_, rfl⟩
        have I' := I.kept (t' := s.toks) k
        obtain ⟨as, hr⟩ := Dp.readsAll I' _ xs its (by rw [C.K]; exact ra.dp g (plain_all hp)) rv
        refine readsAll_each (id : D → D) (as := as) ?_
        rw [List.map_id]
        exact hr
      · subst hR
        rw [← isort_eq] at eo
        obtain ⟨ys, rys, qs⟩ := each_rp eo
        have hsz : ys.length ≤ sizeLine := by
          rw [qs.length, (isort_perm l).length_eq]
          omega
        have I1 := I.kept (t' := s.toks) k1
        have n0 : H p = none := I1.hok.fresh hpp
        exact ⟨.ref p, upd H p (.lst ys), I1.laid (o := .lst ys) (t' := tk) k2 hpp ⟨hsz, out, n, rys, hpo⟩, rfl, G, H, p, ys, _, Gr.refl g, rfl, n0, rfl, rfl, qs⟩
    · rw [if_neg hs] at e
      cases e
  | _ => cases e
theorem fp_sortedA (C : XC c X) : Fp1 c X (fun v => call (.builtin "sorted") [v]) sSortedA := (fp_sortedV C).or (fp_sortedT C)
end
end VL

set_option Elab.async false
set_option linter.all false
set_option maxRecDepth 100000
/-! P1: plain evaluation of mirrors: equations for simp. No program in sight. -/
namespace VL
open PySem

/-! ### which slots an expression hands out -/
def okS (S : List Nat) (ρ : List O) : Bool := S.all fun i => match ρ[i]? with
  | some (.lst _) => false
  | some (.dic _) => false
  | some (.ins _ _) => false
  | _ => true
class Stab (S : outParam (List Nat)) (e : Ev) : Prop where
  st : ∀ ρ z, okS S ρ = true → e ρ = some z → z.2 = ρ
class StabK (S : outParam (List Nat)) (p : Pk) : Prop where
  st : ∀ ρ z, okS S ρ = true → p ρ = some z → z.2 = ρ
class StabS (S : outParam (List Nat)) (e : Evs) : Prop where
  st : ∀ ρ z, okS S ρ = true → e ρ = some z → z.2 = ρ
class StabI (S : outParam (List Nat)) (e : Iv) : Prop where
  st : ∀ ρ z, okS S ρ = true → e ρ = some z → z.2 = ρ
theorem okS_app {S T : List Nat} {ρ : List O} (h : okS (S ++ T) ρ = true) : okS S ρ = true ∧ okS T ρ = true := by
  unfold okS at *
  rw [List.all_append, Bool.and_eq_true] at h
  exact h
section
variable {S T U : List Nat} {a b e : Ev} {p q r : Pk} {es : Evs}
instance (d : D) : Stab [] (eC d) := ⟨fun ρ z _ h => by cases h; rfl⟩
instance (i : Nat) : Stab [i] (eV i) := ⟨fun ρ z k h => by
  unfold okS at k
  unfold eV at h
  simp only [List.all_cons, List.all_nil, Bool.and_true] at k
  split at h
  · cases h; rfl
  · rename_i l e
    rw [e] at k
    cases k
  · rename_i l e
    rw [e] at k
    cases k
  · cases h⟩
instance (i : Nat) : StabK [] (kP i) := ⟨fun ρ z k h => by
  unfold kP at h
  split at h
  · cases h; rfl
  · cases h⟩
instance [Stab S a] : StabK S (kE a) := ⟨fun ρ z k h => by
  obtain ⟨d, h1, _⟩ := kE_some h
  exact Stab.st (e := a) ρ _ k h1⟩
instance {f : D → Option D} [StabK S p] : Stab S (o1 f p) := ⟨fun ρ z k h => by
  obtain ⟨t, d, h1, _⟩ := o1_some h
  exact StabK.st (p := p) ρ _ k h1⟩
instance {f : D → D → Option D} [StabK S p] [StabK T q] : Stab (S ++ T) (o2 f p q) := ⟨fun ρ z k h => by
  obtain ⟨k1, k2⟩ := okS_app k
  unfold o2 at h
  split at h
  · rename_i t ρ1 h1
    have e1 : ρ1 = ρ := StabK.st (p := p) ρ _ k1 h1
    subst e1
    split at h
    · rename_i u ρ2 h2
      have e2 : ρ2 = ρ1 := StabK.st (p := q) ρ1 _ k2 h2
      subst e2
      split at h
      · split at h
        · cases h; rfl
        · cases h
      · cases h
    · cases h
  · cases h⟩
instance {f : D → D → D → Option D} [StabK S p] [StabK T q] [StabK U r] : Stab (S ++ (T ++ U)) (o3 f p q r) := ⟨fun ρ z k h => by
  obtain ⟨k1, k2⟩ := okS_app k
  obtain ⟨k2, k3⟩ := okS_app k2
  obtain ⟨t, u, v, ρ1, ρ2, x, y, w, h1, h2, h3, _⟩ := o3_some h
  have e1 : ρ1 = ρ := StabK.st (p := p) ρ _ k1 h1
  subst e1
  have e2 : ρ2 = ρ1 := StabK.st (p := q) ρ1 _ k2 h2
  subst e2
  exact StabK.st (p := r) ρ2 _ k3 h3⟩
instance : StabS [] esNil := ⟨fun ρ z _ h => by cases h; rfl⟩
instance [Stab S a] [StabS T es] : StabS (S ++ T) (esCons a es) := ⟨fun ρ z k h => by
  obtain ⟨k1, k2⟩ := okS_app k
  unfold esCons at h
  split at h
  · rename_i x ρ1 h1
    have e1 : ρ1 = ρ := Stab.st (e := a) ρ _ k1 h1
    subst e1
    split at h
    · rename_i xs ρ2 h2
      cases h
      have := StabS.st (e := es) ρ1 (xs, ρ2) k2 h2
      exact this
    · cases h
  · cases h⟩
instance [StabS S es] : Stab S (eTup es) := ⟨fun ρ z k h => by
  unfold eTup at h
  split at h
  · rename_i x ρ1 h1
    split at h
    · cases h
      exact StabS.st (e := es) ρ _ k h1
    · cases h
  · cases h⟩
instance [StabS S es] : Stab S (eLst es) := ⟨fun ρ z k h => by
  unfold eLst at h
  split at h
  · rename_i x ρ1 h1
    split at h
    · cases h
      exact StabS.st (e := es) ρ _ k h1
    · cases h
  · cases h⟩
instance {φ : List D → Option D} [StabS S es] : Stab S (eCall φ es) := ⟨fun ρ z k h => by
  obtain ⟨ds, h1, _⟩ := eCall_some h
  exact StabS.st (e := es) ρ _ k h1⟩
instance {f : D → List D → Option D} [StabK S p] [StabS T es] : Stab (S ++ T) (eM f p es) := ⟨fun ρ z k h => by
  obtain ⟨k1, k2⟩ := okS_app k
  obtain ⟨t, ρ1, d0, ds, d, h1, h2, h3, _⟩ := eM_some h
  have e1 : ρ1 = ρ := StabK.st (p := p) ρ _ k1 h1
  subst e1
  exact StabS.st (e := es) ρ1 _ k2 h3⟩
instance [Stab S a] [Stab T b] : Stab (S ++ T) (eAnd a b) := ⟨fun ρ z k h => by
  obtain ⟨k1, k2⟩ := okS_app k
  obtain ⟨j, ρ1, h1, h2, h3⟩ := eAnd_true h
  have e1 : ρ1 = ρ := Stab.st (e := a) ρ _ k1 h1
  subst e1
  cases j with
  | true => exact Stab.st (e := b) ρ1 _ k2 (h2 rfl)
  | false => rw [h3 rfl]⟩
instance [Stab S a] [Stab T b] : Stab (S ++ T) (eOr a b) := ⟨fun ρ z k h => by
  obtain ⟨k1, k2⟩ := okS_app k
  obtain ⟨j, ρ1, h1, h2, h3⟩ := eOr_true h
  have e1 : ρ1 = ρ := Stab.st (e := a) ρ _ k1 h1
  subst e1
  cases j with
  | false => exact Stab.st (e := b) ρ1 _ k2 (h2 rfl)
  | true => rw [h3 rfl]⟩
instance {f g : D → D → Option D} [Stab S a] [Stab T b] [Stab U e] : Stab (S ++ (T ++ U)) (eChain f g a b e) := ⟨fun ρ z k h => by
  obtain ⟨k1, k2⟩ := okS_app k
  obtain ⟨k2, k3⟩ := okS_app k2
  obtain ⟨x, ρ1, y, ρ2, j, h1, h2, h3, h4, h5⟩ := eChain_some h
  have e1 : ρ1 = ρ := Stab.st (e := a) ρ _ k1 h1
  subst e1
  have e2 : ρ2 = ρ1 := Stab.st (e := b) ρ1 _ k2 h2
  subst e2
  cases j with
  | true =>
    obtain ⟨w, j, h6, _⟩ := h5 rfl
    have := Stab.st (e := e) ρ2 _ k3 h6
    exact this
  | false => rw [h4 rfl]⟩
instance [Stab S a] : StabI S (iSeq a) := ⟨fun ρ z k h => by
  unfold iSeq at h
  split at h
  · rename_i l ρ1 h1
    cases h
    exact Stab.st (e := a) ρ _ k h1
  · rename_i l ρ1 h1
    cases h
    exact Stab.st (e := a) ρ _ k h1
  · cases h⟩
instance [Stab S a] : StabI S (iSeqA a) := ⟨fun ρ z k h => by
  unfold iSeqA at h
  split at h
  · rename_i l ρ1 h1
    cases h
    exact Stab.st (e := a) ρ _ k h1
  · rename_i l ρ1 h1
    cases h
    exact Stab.st (e := a) ρ _ k h1
  · rename_i l ρ1 h1
    cases h
    exact Stab.st (e := a) ρ _ k h1
  · cases h⟩
instance : Stab [] eDnil := ⟨fun ρ z _ h => by cases h; rfl⟩
instance [Stab S a] : StabI S (iR1 a) := ⟨fun ρ z k h => by
  unfold iR1 at h
  split at h
  · rename_i l ρ1 h1
    split at h
    · cases h
      exact Stab.st (e := a) ρ _ k h1
    · cases h
  · cases h⟩
instance [Stab S a] [Stab T b] : StabI (S ++ T) (iR2 a b) := ⟨fun ρ z k h => by
  obtain ⟨k1, k2⟩ := okS_app k
  unfold iR2 at h
  split at h
  · rename_i m ρ1 h1
    have e1 : ρ1 = ρ := Stab.st (e := a) ρ _ k1 h1
    subst e1
    split at h
    · rename_i n ρ2 h2
      split at h
      · cases h
        exact Stab.st (e := b) ρ1 _ k2 h2
      · cases h
    · cases h
  · cases h⟩
end
instance : Stab [] eTrue := ⟨fun ρ z _ h => by cases h; rfl⟩

/-! ### comprehensions as functions -/
/-- all answers, some left out; none if any has none -/
def mapMO {α : Type} (f : α → Option (Option D)) : List α → Option (List D)
  | [] => some []
  | x :: xs => match f x with
    | some (some y) => (mapMO f xs).map (y :: ·)
    | some none => mapMO f xs
    | none => none
/-- one turn -/
def turnO (c e : Ev) (ρ : List O) : Option (Option D) := match c ρ with
  | some (.bool true, _) => match e ρ with
    | some (y, _) => some (some y)
    | none => none
  | some (.bool false, _) => some none
  | _ => none
def turnT (tg : Tg) (c e : Ev) (ρ : List O) (x : D) : Option (Option D) := match tgo tg x ρ with
  | some ρ1 => turnO c e ρ1
  | none => none
def covers (tg : Tg) (vs : List Nat) : Bool := (tgIs tg).all fun i => vs.any fun j => Nat.beq i j
theorem wipeO_len : ∀ (vs : List Nat) (ρ : List O), (wipeO ρ vs).length = ρ.length
  | [], _ => rfl
  | v :: vs, ρ => by unfold wipeO; rw [List.length_set, wipeO_len vs ρ]
theorem wipeO_at : ∀ (vs : List Nat) (ρ : List O) (j : Nat), (wipeO ρ vs)[j]? = if j ∈ vs then (if j < ρ.length then some .un else none) else ρ[j]?
  | [], ρ, j => by simp [wipeO]
  | v :: vs, ρ, j => by
    unfold wipeO
    by_cases h : v = j
    · subst h
      rw [if_pos List.mem_cons_self]
      by_cases hl : v < ρ.length
      · rw [List.getElem?_set_self (by rw [wipeO_len]; exact hl), if_pos hl]
      · rw [if_neg hl, List.getElem?_eq_none (by rw [List.length_set, wipeO_len]; omega)]
    · rw [List.getElem?_set_ne h, wipeO_at vs ρ j]
      have h2 : ¬ j = v := fun e => h e.symm
      by_cases hj : j ∈ vs
      · rw [if_pos hj, if_pos (List.mem_cons_of_mem _ hj)]
      · rw [if_neg hj, if_neg (fun q => (List.mem_cons.mp q).elim h2 hj)]
theorem setAll_at : ∀ (is : List Nat) (ds : List D) (ρ ρ' : List O), setAll is ds ρ = some ρ' → ρ'.length = ρ.length ∧ ∀ j, (j ∉ is → ρ'[j]? = ρ[j]?) ∧ (j ∈ is → ∀ o, ρ'[j]? = some o → ∃ d, o = .val d)
  | [], [], ρ, ρ', h => by
    cases h
    exact ⟨rfl, fun j => ⟨fun _ => rfl, fun h => by cases h⟩⟩
  | i :: is, d :: ds, ρ, ρ', h => by
    have h : setAll is ds (ρ.set i (.val d)) = some ρ' := h
    obtain ⟨h1, h2⟩ := setAll_at is ds _ _ h
    refine ⟨by rw [h1, List.length_set], fun j => ⟨fun hj => ?_, fun hj o e => ?_⟩⟩
    · rw [(h2 j).1 fun q => hj (List.mem_cons_of_mem _ q), List.getElem?_set_ne fun q => hj (by subst q; exact List.mem_cons_self)]
    · by_cases hi : j ∈ is
      · exact (h2 j).2 hi o e
      · have e2 : j = i := (List.mem_cons.mp hj).resolve_right hi
        subst e2
        rw [(h2 j).1 hi] at e
        by_cases hl : j < ρ.length
        · rw [List.getElem?_set_self hl] at e
          exact ⟨d, (Option.some.inj e).symm⟩
        · rw [List.getElem?_eq_none (by rw [List.length_set]; omega)] at e
          cases e
  | [], _ :: _, _, _, h => by cases h
  | _ :: _, [], _, _, h => by cases h
theorem tgo_at {tg : Tg} {x : D} {ρ ρ' : List O} (h : tgo tg x ρ = some ρ') : ρ'.length = ρ.length ∧ ∀ j, (j ∉ tgIs tg → ρ'[j]? = ρ[j]?) ∧ (j ∈ tgIs tg → ∀ o, ρ'[j]? = some o → ∃ d, o = .val d) := by
  cases tg with
  | one i => exact setAll_at [i] [x] ρ ρ' h
  | many is =>
    cases x with
    | tuple ds => exact setAll_at is ds ρ ρ' h
    | _ => cases h
theorem covers_mem {tg : Tg} {vs : List Nat} (h : covers tg vs = true) {j : Nat} (hj : j ∈ tgIs tg) : j ∈ vs := by
  unfold covers at h
  rw [List.all_eq_true] at h
  have := h j hj
  rw [List.any_eq_true] at this
  obtain ⟨k, hk, e⟩ := this
  have e2 : j = k := Nat.eq_of_beq_eq_true e
  rw [e2]
  exact hk
theorem giveBack_wipe (ρ : List O) (vs : List Nat) : giveBack ρ (wipeO ρ vs) vs = ρ := by
  have key : ∀ (is : List Nat) (ν : List O), ν.length = ρ.length → (giveBack ρ ν is).length = ρ.length ∧ ∀ j, (giveBack ρ ν is)[j]? = if j ∈ is then ρ[j]? else ν[j]? := by
    intro is
    induction is with
    | nil => intro ν h; exact ⟨h, fun j => by simp [giveBack]⟩
    | cons i is ih =>
      intro ν h
      obtain ⟨h1, h2⟩ := ih ν h
      unfold giveBack
      cases e : ρ[i]? with
      | none =>
        refine ⟨h1, fun j => ?_⟩
        simp only
        rw [h2 j]
        by_cases hj : j = i
        · subst hj
          have : ν[j]? = none := by
            rw [List.getElem?_eq_none_iff] at e ⊢
            omega
          simp [e, this]
        · simp [hj]
      | some o =>
        simp only
        refine ⟨by rw [List.length_set]; exact h1, fun j => ?_⟩
        by_cases hj : i = j
        · subst hj
          have hi : i < (giveBack ρ ν is).length := by
            rw [h1]
            exact (List.getElem?_eq_some_iff.mp e).1
          rw [List.getElem?_set_self hi]
          simp [e]
        · rw [List.getElem?_set_ne hj, h2 j]
          have : ¬ j = i := fun q => hj q.symm
          simp [this]
  refine List.ext_getElem? fun j => ?_
  rw [(key vs _ (wipeO_len vs ρ)).2 j, wipeO_at]
  by_cases hj : j ∈ vs
  · rw [if_pos hj]
  · rw [if_neg hj, if_neg hj]
/-- what a comprehension does where nothing of its own is handed out -/
theorem eComp_eq {Si Sc Se : List Nat} {it : Iv} {tg : Tg} {vs : List Nat} {c e : Ev} {ρ : List O} [StabI Si it] [Stab Sc c] [Stab Se e] (h : (okS Si ρ && (noOwn ρ vs && (okS (Sc ++ Se) (wipeO ρ vs) && covers tg vs))) = true) :
    eComp it tg c e vs ρ = (it ρ).bind fun z => (mapMO (turnT tg c e (wipeO ρ vs)) z.1).map fun l => (.list l, ρ) := by
  simp only [Bool.and_eq_true] at h
  obtain ⟨h1, h2, h3, h4⟩ := h
  unfold eComp
  cases hit : it ρ with
  | none => rfl
  | some z =>
    obtain ⟨xs, ρ1⟩ := z
    have e1 : ρ1 = ρ := StabI.st (e := it) ρ _ h1 hit
    subst e1
    simp only [h2, if_true]
    obtain ⟨kc, ke⟩ := okS_app h3
    have okx : ∀ (S : List Nat) (x : D) (ρ' : List O), okS S (wipeO ρ1 vs) = true → tgo tg x (wipeO ρ1 vs) = some ρ' → okS S ρ' = true := fun S x ρ' h q => by
      obtain ⟨_, q⟩ := tgo_at q
      unfold okS at *
      rw [List.all_eq_true] at *
      intro j hj
      have := h j hj
      by_cases hi : j ∈ tgIs tg
      · cases e : ρ'[j]? with
        | none => rfl
        | some o =>
          obtain ⟨d, rfl⟩ := (q j).2 hi o e
          rfl
      · rw [(q j).1 hi]
        exact this
    have back : ∀ (x : D) (ρ' : List O), tgo tg x (wipeO ρ1 vs) = some ρ' → wipeO ρ' vs = wipeO ρ1 vs := fun x ρ' q => by
      obtain ⟨hl, q⟩ := tgo_at q
      rw [wipeO_len] at hl
      refine List.ext_getElem? fun j => ?_
      rw [wipeO_at, wipeO_at, hl]
      by_cases hj : j ∈ vs
      · rw [if_pos hj, if_pos hj]
      · rw [if_neg hj, if_neg hj, (q j).1 fun hi => hj (covers_mem h4 hi), wipeO_at, if_neg hj]
    have key : ∀ (xs acc : List D), lcLoop tg c e vs xs (wipeO ρ1 vs) acc = (mapMO (turnT tg c e (wipeO ρ1 vs)) xs).map fun l => (acc ++ l, wipeO ρ1 vs) := by
      intro xs
      induction xs with
      | nil => intro acc; simp [lcLoop, mapMO]
      | cons x xs ih =>
        intro acc
        have hm : mapMO (turnT tg c e (wipeO ρ1 vs)) (x :: xs) = match turnT tg c e (wipeO ρ1 vs) x with
          | some (some y) => (mapMO (turnT tg c e (wipeO ρ1 vs)) xs).map (y :: ·)
          | some none => mapMO (turnT tg c e (wipeO ρ1 vs)) xs
          | none => none := rfl
        rw [hm]
        unfold lcLoop lcTurn
        cases ht : tgo tg x (wipeO ρ1 vs) with
        | none =>
          have eT : turnT tg c e (wipeO ρ1 vs) x = none := by unfold turnT; rw [ht]
          rw [eT]
          rfl
        | some ρ' =>
          have kc' := okx _ x ρ' kc ht
          have ke' := okx _ x ρ' ke ht
          have bk := back x ρ' ht
          simp only
          cases hc : c ρ' with
          | none =>
            have eT : turnT tg c e (wipeO ρ1 vs) x = none := by unfold turnT turnO; simp only [ht, hc]
            rw [eT]
            rfl
          | some w =>
            obtain ⟨d, ρ2⟩ := w
            have e2 : ρ2 = ρ' := Stab.st (e := c) _ _ kc' hc
            subst e2
            cases d with
            | bool b =>
              cases b with
              | true =>
                simp only
                cases he : e ρ2 with
                | none =>
                  have eT : turnT tg c e (wipeO ρ1 vs) x = none := by unfold turnT turnO; simp only [ht, hc, he]
                  rw [eT]
                  rfl
                | some w =>
                  obtain ⟨y, ρ3⟩ := w
                  have e3 : ρ3 = ρ2 := Stab.st (e := e) _ _ ke' he
                  subst e3
                  have eT : turnT tg c e (wipeO ρ1 vs) x = some (some y) := by unfold turnT turnO; simp only [ht, hc, he]
                  rw [eT]
                  simp only
                  rw [bk, ih]
                  cases mapMO (turnT tg c e (wipeO ρ1 vs)) xs with
                  | none => rfl
                  | some l => simp
              | false =>
                have eT : turnT tg c e (wipeO ρ1 vs) x = some none := by unfold turnT turnO; simp only [ht, hc]
                rw [eT]
                simp only
                rw [bk, ih]
            | _ =>
              have eT : turnT tg c e (wipeO ρ1 vs) x = none := by unfold turnT turnO; simp only [ht, hc]
              rw [eT]
              rfl
    rw [key]
    show _ = (mapMO (turnT tg c e (wipeO ρ1 vs)) xs).map fun l => (PyData.list l, ρ1)
    cases mapMO (turnT tg c e (wipeO ρ1 vs)) xs with
    | none => rfl
    | some l =>
      simp only [Option.map_some, List.nil_append]
      rw [giveBack_wipe]
class Cov (tg : Tg) (vs : List Nat) : Prop where
  cov : covers tg vs = true
theorem beq_self_nat (i : Nat) : Nat.beq i i = true := Nat.beq_refl i
instance (i : Nat) : Cov (.one i) [i] := ⟨by simp [covers, tgIs]⟩
instance (i j : Nat) : Cov (.many [i, j]) [i, j] := ⟨by simp [covers, tgIs]⟩
instance (i j k : Nat) : Cov (.many [i, j, k]) [i, j, k] := ⟨by simp [covers, tgIs]⟩
/-- comprehensions within expressions -/
instance {Si Sc Se : List Nat} {it : Iv} {tg : Tg} {vs : List Nat} {c e : Ev} [StabI Si it] [Stab Sc c] [Stab Se e] [Cov tg vs] : Stab (Si ++ (Sc ++ Se)) (eComp it tg c e vs) := ⟨fun ρ z k h => by
  obtain ⟨k1, k2⟩ := okS_app k
  by_cases hn : noOwn ρ vs = true
  · have kw : okS (Sc ++ Se) (wipeO ρ vs) = true := by
      unfold okS at *
      rw [List.all_eq_true] at *
      intro j hj
      have := k2 j hj
      rw [wipeO_at]
      split
      · rename_i o e
        split at e
        · split at e <;> cases e
        · simp only [e] at this
          exact this
      · rename_i o e
        split at e
        · split at e <;> cases e
        · simp only [e] at this
          exact this
      · rename_i o f e
        split at e
        · split at e <;> cases e
        · simp only [e] at this
          exact this
      · rfl
    rw [eComp_eq (Si := Si) (Sc := Sc) (Se := Se) (by rw [k1, hn, kw, Cov.cov]; rfl)] at h
    obtain ⟨w, h1, h2⟩ := Option.bind_eq_some_iff.mp h
    obtain ⟨l, h3, h4⟩ := Option.map_eq_some_iff.mp h2
    rw [← h4]
  · exfalso
    unfold eComp at h
    split at h
    · rename_i xs ρ1 hit
      have e1 : ρ1 = ρ := StabI.st (e := it) ρ _ k1 hit
      subst e1
      rw [if_neg hn] at h
      cases h
    · cases h⟩
end VL

set_option Elab.async false
set_option linter.all false
set_option maxRecDepth 100000
/-! P2: equations of the mirror's words, for simp. -/
namespace VL
open PySem

def vK (o : Option O) (i : Nat) (ρ : List O) : Option (D × List O) := match o with
  | some (.val d) => some (d, ρ)
  | some (.lst l) => some (.list l, ρ.set i (.val (.list l)))
  | some (.dic l) => some (.dict l, ρ.set i (.val (.dict l)))
  | _ => none
def pkK (o : Option O) : Option D := match o with
  | some (.val d) => some d
  | some (.lst l) => some (.list l)
  | some (.dic l) => some (.dict l)
  | some (.bor _ (.lst l)) => some (.list l)
  | some (.bor _ (.dic l)) => some (.dict l)
  | _ => none
def tupK (z : List D × List O) : Option (D × List O) := if z.1.length ≤ LIM then some (.tuple z.1, z.2) else none
def lstK (z : List D × List O) : Option (D × List O) := if z.1.length ≤ LIM then some (.list z.1, z.2) else none
def andK (x : D) (r : Option (D × List O)) (ρ : List O) : Option (D × List O) := match x with
  | .bool true => r
  | .bool false => some (.bool false, ρ)
  | _ => none
def orK (x : D) (r : Option (D × List O)) (ρ : List O) : Option (D × List O) := match x with
  | .bool true => some (.bool true, ρ)
  | .bool false => r
  | _ => none
def ifK (x : D) (u v : Option (Fl × List O)) : Option (Fl × List O) := match x with
  | .bool true => u
  | .bool false => v
  | _ => none
def tuK (x : D) (r : Option (D × List O)) : Option (Option D) := match x with
  | .bool true => r.map fun w => some w.1
  | .bool false => some none
  | _ => none
def seqK (r : Option (Fl × List O)) (b : Sm) : Option (Fl × List O) := match r with
  | some (.nx, ρ1) => b ρ1
  | r => r
def forK (r : Option (Fl × List O)) (k : Sm) : Option (Fl × List O) := match r with
  | some (.nx, ρ2) => k ρ2
  | some (.ct, ρ2) => k ρ2
  | some (.bk, ρ2) => some (.nx, ρ2)
  | some (.rt d, ρ2) => some (.rt d, ρ2)
  | none => none
def runK (r : Option (Fl × List O)) : Option D := match r with
  | some (.rt d, _) => some d
  | some (.nx, _) => some .none
  | _ => none
def ownK (i : Nat) (x : D) (ρ : List O) : Option (Fl × List O) := match x with
  | .list l => some (.nx, ρ.set i (.lst l))
  | .dict l => some (.nx, ρ.set i (.dic l))
  | _ => none
def r1K (x : D) (ρ : List O) : Option (List D × List O) := match x with
  | .int n => if -LIM ≤ n ∧ n ≤ LIM then some (rangeL 0 n.toNat, ρ) else none
  | _ => none
def r2K (x y : D) (ρ : List O) : Option (List D × List O) := match x, y with
  | .int m, .int n => if -LIM ≤ m ∧ m ≤ LIM ∧ -LIM ≤ n ∧ n ≤ LIM then some (rangeL m (n - m).toNat, ρ) else none
  | _, _ => none

section
variable {ρ : List O} {a b e : Ev} {es r : Evs} {i : Nat} {d x : D} {f : D → Option D} {f2 g2 : D → D → Option D} {p : Pk}
theorem ap_c : eC d ρ = some (d, ρ) := rfl
theorem ap_t : eTrue ρ = some (.bool true, ρ) := rfl
theorem ap_v : eV i ρ = vK ρ[i]? i ρ := by
  unfold eV vK
  rfl
theorem vK_val : vK (some (.val d)) i ρ = some (d, ρ) := rfl
theorem vK_lst {l : List D} : vK (some (.lst l)) i ρ = some (.list l, ρ.set i (.val (.list l))) := rfl
theorem vK_dic {l : List (D × D)} : vK (some (.dic l)) i ρ = some (.dict l, ρ.set i (.val (.dict l))) := rfl
theorem ap_peek : peek ρ i = pkK ρ[i]? := by
  unfold peek pkK
  rfl
theorem pkK_val : pkK (some (.val d)) = some d := rfl
theorem pkK_lst {l : List D} : pkK (some (.lst l)) = some (.list l) := rfl
theorem pkK_dic {l : List (D × D)} : pkK (some (.dic l)) = some (.dict l) := rfl
theorem ap_kE : kE a ρ = (a ρ).map fun z => (fun _ => some z.1, z.2) := by
  unfold kE
  cases a ρ <;> rfl
theorem ap_kP : kP i ρ = (peek ρ i).map fun _ => (fun ρ' => peek ρ' i, ρ) := by
  unfold kP
  cases peek ρ i <;> rfl
theorem ap_o1E : o1 f (kE a) ρ = (a ρ).bind fun z => (f z.1).map fun r => (r, z.2) := by
  unfold o1
  rw [ap_kE]
  cases a ρ with
  | none => rfl
  | some z => cases h : f z.1 <;> simp [h]
theorem ap_o1P : o1 f (kP i) ρ = (peek ρ i).bind fun d => (f d).map fun r => (r, ρ) := by
  unfold o1
  rw [ap_kP]
  cases h : peek ρ i with
  | none => rfl
  | some d => cases h2 : f d <;> simp [h, h2]
theorem ap_o2EE : o2 f2 (kE a) (kE b) ρ = (a ρ).bind fun z => (b z.2).bind fun w => (f2 z.1 w.1).map fun r => (r, w.2) := by
  unfold o2
  rw [ap_kE]
  cases a ρ with
  | none => rfl
  | some z =>
    simp only [Option.map_some, ap_kE, Option.bind_some]
    cases b z.2 with
    | none => rfl
    | some w => cases h : f2 z.1 w.1 <;> simp [h]
theorem ap_o2EP : o2 f2 (kE a) (kP i) ρ = (a ρ).bind fun z => (peek z.2 i).bind fun w => (f2 z.1 w).map fun r => (r, z.2) := by
  unfold o2
  rw [ap_kE]
  cases a ρ with
  | none => rfl
  | some z =>
    simp only [Option.map_some, ap_kP, Option.bind_some]
    cases h : peek z.2 i with
    | none => rfl
    | some w => cases h2 : f2 z.1 w <;> simp [h, h2]
theorem ap_o2PE : o2 f2 (kP i) (kE b) ρ = (peek ρ i).bind fun _ => (b ρ).bind fun w => (peek w.2 i).bind fun d => (f2 d w.1).map fun r => (r, w.2) := by
  unfold o2
  rw [ap_kP]
  cases peek ρ i with
  | none => rfl
  | some z =>
    simp only [Option.map_some, ap_kE, Option.bind_some]
    cases b ρ with
    | none => rfl
    | some w =>
      simp only [Option.map_some, Option.bind_some]
      cases h : peek w.2 i with
      | none => rfl
      | some d => cases h2 : f2 d w.1 <;> simp [h2]
theorem ap_o2PP {j : Nat} : o2 f2 (kP i) (kP j) ρ = (peek ρ i).bind fun d => (peek ρ j).bind fun w => (f2 d w).map fun r => (r, ρ) := by
  unfold o2
  rw [ap_kP]
  cases h : peek ρ i with
  | none => rfl
  | some z =>
    simp only [Option.map_some, ap_kP, Option.bind_some]
    cases h2 : peek ρ j with
    | none => rfl
    | some w => cases h3 : f2 z w <;> simp [h, h2, h3]
theorem ap_o3E {f3 : D → D → D → Option D} : o3 f3 (kE a) (kE b) (kE e) ρ = (a ρ).bind fun z => (b z.2).bind fun w => (e w.2).bind fun u => (f3 z.1 w.1 u.1).map fun r => (r, u.2) := by
  unfold o3
  rw [ap_kE]
  cases a ρ with
  | none => rfl
  | some z =>
    simp only [Option.map_some, ap_kE, Option.bind_some]
    cases b z.2 with
    | none => rfl
    | some w =>
      simp only [Option.map_some, Option.bind_some]
      cases e w.2 with
      | none => rfl
      | some u => cases h : f3 z.1 w.1 u.1 <;> simp [h]
theorem ap_o3P {f3 : D → D → D → Option D} : o3 f3 (kP i) (kE b) (kE e) ρ = (peek ρ i).bind fun _ => (b ρ).bind fun w => (e w.2).bind fun u => (peek u.2 i).bind fun d => (f3 d w.1 u.1).map fun r => (r, u.2) := by
  unfold o3
  rw [ap_kP]
  cases peek ρ i with
  | none => rfl
  | some z =>
    simp only [Option.map_some, ap_kE, Option.bind_some]
    cases b ρ with
    | none => rfl
    | some w =>
      simp only [Option.map_some, Option.bind_some]
      cases e w.2 with
      | none => rfl
      | some u =>
        simp only [Option.map_some, Option.bind_some]
        cases h : peek u.2 i with
        | none => rfl
        | some d => cases h2 : f3 d w.1 u.1 <;> simp [h2]
theorem ap_esNil : esNil ρ = some ([], ρ) := rfl
theorem ap_esCons : esCons a r ρ = (a ρ).bind fun z => (r z.2).map fun w => (z.1 :: w.1, w.2) := by
  unfold esCons
  cases a ρ with
  | none => rfl
  | some z =>
    obtain ⟨x, ρ1⟩ := z
    simp only [Option.bind_some]
    cases r ρ1 <;> rfl
theorem ap_tup : eTup es ρ = (es ρ).bind tupK := by
  unfold eTup
  cases es ρ <;> rfl
theorem ap_lst : eLst es ρ = (es ρ).bind lstK := by
  unfold eLst
  cases es ρ <;> rfl
theorem ap_and : eAnd a b ρ = (a ρ).bind fun z => andK z.1 (b z.2) z.2 := by
  unfold eAnd
  cases a ρ with
  | none => rfl
  | some z =>
    obtain ⟨d, ρ1⟩ := z
    cases d with
    | bool x => cases x <;> rfl
    | _ => rfl
theorem ap_or : eOr a b ρ = (a ρ).bind fun z => orK z.1 (b z.2) z.2 := by
  unfold eOr
  cases a ρ with
  | none => rfl
  | some z =>
    obtain ⟨d, ρ1⟩ := z
    cases d with
    | bool x => cases x <;> rfl
    | _ => rfl
theorem andK_t {r : Option (D × List O)} : andK (.bool true) r ρ = r := rfl
theorem andK_f {r : Option (D × List O)} : andK (.bool false) r ρ = some (.bool false, ρ) := rfl
theorem andK_b {x y : Bool} : andK (.bool x) (some (.bool y, ρ)) ρ = some (.bool (x && y), ρ) := by cases x <;> rfl
theorem orK_t {r : Option (D × List O)} : orK (.bool true) r ρ = some (.bool true, ρ) := rfl
theorem orK_f {r : Option (D × List O)} : orK (.bool false) r ρ = r := rfl
theorem orK_b {x y : Bool} : orK (.bool x) (some (.bool y, ρ)) ρ = some (.bool (x || y), ρ) := by cases x <;> rfl
theorem ap_call {φ : List D → Option D} : eCall φ es ρ = (es ρ).bind fun z => (φ z.1).map fun r => (r, z.2) := by
  unfold eCall
  cases es ρ with
  | none => rfl
  | some z => cases h : φ z.1 <;> simp [h]
theorem ap_mP {m : D → List D → Option D} : eM m (kP i) es ρ = (peek ρ i).bind fun d0 => (es ρ).bind fun z => (peek z.2 i).bind fun d => if kd d0 = kd d then (m d z.1).map (fun r => (r, z.2)) else none := by
  unfold eM
  rw [ap_kP]
  cases h0 : peek ρ i with
  | none => rfl
  | some d0 =>
    simp only [Option.map_some, Option.bind_some, h0]
    cases es ρ with
    | none => rfl
    | some z =>
      simp only [Option.bind_some]
      cases h1 : peek z.2 i with
      | none => rfl
      | some d =>
        simp only [Option.bind_some]
        split
        · cases h2 : m d z.1 <;> rfl
        · rfl
theorem ap_mE {m : D → List D → Option D} : eM m (kE a) es ρ = (a ρ).bind fun w => (es w.2).bind fun z => (m w.1 z.1).map fun r => (r, z.2) := by
  unfold eM
  rw [ap_kE]
  cases a ρ with
  | none => rfl
  | some w =>
    simp only [Option.map_some, Option.bind_some]
    cases es w.2 with
    | none => rfl
    | some z =>
      simp only [Option.bind_some, if_true]
      cases h2 : m w.1 z.1 <;> rfl
theorem ap_iSeq : iSeq a ρ = (a ρ).bind fun z => (seqOf z.1).map fun l => (l, z.2) := by
  unfold iSeq
  cases a ρ with
  | none => rfl
  | some z =>
    obtain ⟨d, ρ1⟩ := z
    cases d <;> rfl
theorem ap_iSeqA : iSeqA a ρ = (a ρ).bind fun z => (keysOf z.1).map fun l => (l, z.2) := by
  unfold iSeqA
  cases a ρ with
  | none => rfl
  | some z =>
    obtain ⟨d, ρ1⟩ := z
    cases d <;> rfl
theorem kOfL (l : List D) : keysOf (.list l) = some l := rfl
theorem kOfT (l : List D) : keysOf (.tuple l) = some l := rfl
theorem kOfD (l : List (D × D)) : keysOf (.dict l) = some (l.map (·.1)) := rfl
theorem ap_dnil : eDnil ρ = some (.dict [], ρ) := rfl
theorem ap_iR1 : iR1 a ρ = (a ρ).bind fun z => r1K z.1 z.2 := by
  unfold iR1
  cases a ρ with
  | none => rfl
  | some z =>
    obtain ⟨d, ρ1⟩ := z
    cases d <;> rfl
theorem ap_iR2 : iR2 a b ρ = (a ρ).bind fun z => (b z.2).bind fun w => r2K z.1 w.1 w.2 := by
  unfold iR2
  cases a ρ with
  | none => rfl
  | some z =>
    obtain ⟨d, ρ1⟩ := z
    cases d with
    | int m =>
      simp only [Option.bind_some]
      cases b ρ1 with
      | none => rfl
      | some w =>
        obtain ⟨d2, ρ2⟩ := w
        cases d2 <;> rfl
    | _ =>
      simp only [Option.bind_some]
      cases b ρ1 <;> rfl
theorem ap_tgo1 : tgo (.one i) d ρ = some (ρ.set i (.val d)) := rfl
theorem ap_tgoM {is : List Nat} {ds : List D} : tgo (.many is) (.tuple ds) ρ = setAll is ds ρ := rfl
theorem setAll0 : setAll [] [] ρ = some ρ := rfl
theorem setAllC {is : List Nat} {ds : List D} : setAll (i :: is) (d :: ds) ρ = setAll is ds (ρ.set i (.val d)) := rfl
theorem ap_turnT {tg : Tg} : turnT tg a e ρ x = (tgo tg x ρ).bind fun ρ1 => turnO a e ρ1 := by
  unfold turnT
  cases tgo tg x ρ <;> rfl
theorem ap_turnO : turnO a e ρ = (a ρ).bind fun z => tuK z.1 (e ρ) := by
  unfold turnO
  cases a ρ with
  | none => rfl
  | some z =>
    obtain ⟨d, ρ1⟩ := z
    cases d with
    | bool b =>
      cases b with
      | true =>
        simp only [Option.bind_some]
        cases e ρ <;> rfl
      | false => rfl
    | _ => rfl
theorem tuK_t {w : D × List O} : tuK (.bool true) (some w) = some (some w.1) := rfl
theorem tuK_f {w : Option (D × List O)} : tuK (.bool false) w = some none := rfl
theorem tuK_b {y : Bool} {w : D × List O} : tuK (.bool y) (some w) = if y = true then some (some w.1) else some none := by cases y <;> rfl
/-! statements -/
theorem ap_seq {u v : Sm} : sSeq u v ρ = seqK (u ρ) v := rfl
theorem seqK_nx {v : Sm} : seqK (some (.nx, ρ)) v = v ρ := rfl
theorem seqK_rt {v : Sm} : seqK (some (.rt d, ρ)) v = some (.rt d, ρ) := rfl
theorem seqK_ct {v : Sm} : seqK (some (.ct, ρ)) v = some (.ct, ρ) := rfl
theorem seqK_bk {v : Sm} : seqK (some (.bk, ρ)) v = some (.bk, ρ) := rfl
theorem seqK_no {v : Sm} : seqK none v = none := rfl
theorem seqK_if {q : Prop} [Decidable q] {s t : Option (Fl × List O)} {v : Sm} : seqK (if q then s else t) v = if q then seqK s v else seqK t v := by split <;> rfl
theorem ap_nil : sNil ρ = some (.nx, ρ) := rfl
theorem ap_cnt : sCnt ρ = some (.ct, ρ) := rfl
theorem ap_brk : sBrk ρ = some (.bk, ρ) := rfl
theorem ap_set {t : Tg} : sSet t e ρ = (e ρ).bind fun z => (tgo t z.1 z.2).map fun ρ2 => (.nx, ρ2) := by
  unfold sSet
  cases e ρ with
  | none => rfl
  | some z => cases h : tgo t z.1 z.2 <;> simp [h]
theorem ap_own : sOwn i e ρ = (e ρ).bind fun z => ownK i z.1 z.2 := by
  unfold sOwn
  cases e ρ with
  | none => rfl
  | some z =>
    obtain ⟨d, ρ1⟩ := z
    cases d <;> rfl
theorem ownK_l {l : List D} : ownK i (.list l) ρ = some (.nx, ρ.set i (.lst l)) := rfl
theorem ownK_d {l : List (D × D)} : ownK i (.dict l) ρ = some (.nx, ρ.set i (.dic l)) := rfl
theorem ap_ret : sRet e ρ = (e ρ).map fun z => (.rt z.1, z.2) := by
  unfold sRet
  cases e ρ <;> rfl
theorem ap_if {u v : Sm} : sIf a u v ρ = (a ρ).bind fun z => ifK z.1 (u z.2) (v z.2) := by
  unfold sIf
  cases a ρ with
  | none => rfl
  | some z =>
    obtain ⟨d, ρ1⟩ := z
    cases d with
    | bool x => cases x <;> rfl
    | _ => rfl
theorem ifK_t {u v : Option (Fl × List O)} : ifK (.bool true) u v = u := rfl
theorem ifK_f {u v : Option (Fl × List O)} : ifK (.bool false) u v = v := rfl
theorem ifK_b {x : Bool} {u v : Option (Fl × List O)} : ifK (.bool x) u v = if x = true then u else v := by cases x <;> rfl
theorem ap_for {t : Tg} {it : Iv} {u : Sm} : sFor t it u ρ = (it ρ).bind fun z => forLoop t u z.1 z.2 := by
  unfold sFor
  cases it ρ <;> rfl
theorem forL_nil {t : Tg} {u : Sm} : forLoop t u [] ρ = some (.nx, ρ) := rfl
theorem forL_cons {t : Tg} {u : Sm} {xs : List D} : forLoop t u (x :: xs) ρ = (tgo t x ρ).bind fun ρ1 => forK (u ρ1) (forLoop t u xs) := by
  show (match tgo t x ρ with
    | some ρ1 => match u ρ1 with
      | some (.nx, ρ2) => forLoop t u xs ρ2
      | some (.ct, ρ2) => forLoop t u xs ρ2
      | some (.bk, ρ2) => some (.nx, ρ2)
      | some (.rt d, ρ2) => some (.rt d, ρ2)
      | none => none
    | none => none) = _
  cases tgo t x ρ with
  | none => rfl
  | some ρ1 =>
    simp only [Option.bind_some]
    unfold forK
    rfl
theorem forK_nx {k : Sm} : forK (some (.nx, ρ)) k = k ρ := rfl
theorem forK_ct {k : Sm} : forK (some (.ct, ρ)) k = k ρ := rfl
theorem forK_bk {k : Sm} : forK (some (.bk, ρ)) k = some (.nx, ρ) := rfl
theorem forK_rt {k : Sm} : forK (some (.rt d, ρ)) k = some (.rt d, ρ) := rfl
theorem forK_if {q : Prop} [Decidable q] {s t : Option (Fl × List O)} {k : Sm} : forK (if q then s else t) k = if q then forK s k else forK t k := by split <;> rfl
theorem ap_par {j : Nat} : sPar i j a b ρ = (a ρ).bind fun z => (b z.2).map fun w => (.nx, (w.2.set i (.val z.1)).set j (.val w.1)) := by
  unfold sPar
  cases a ρ with
  | none => rfl
  | some z =>
    obtain ⟨d, ρ1⟩ := z
    simp only [Option.bind_some]
    cases b ρ1 <;> rfl
theorem run_eq {n : Nat} {u : Sm} {ds : List D} : runDef n u ds = runK (u (ds.map .val ++ List.replicate (n - ds.length) .un)) := rfl
theorem runK_rt : runK (some (.rt d, ρ)) = some d := rfl
theorem runK_nx : runK (some (.nx, ρ)) = some .none := rfl
theorem runK_if {q : Prop} [Decidable q] {s t : Option (Fl × List O)} : runK (if q then s else t) = if q then runK s else runK t := by split <;> rfl
end
theorem r1_eq {n : Int} {ρ : List O} : r1K (.int n) ρ = if -1000000 ≤ n ∧ n ≤ 1000000 then some (rangeL 0 n.toNat, ρ) else none := rfl
theorem r2_eq {m n : Int} {ρ : List O} : r2K (.int m) (.int n) ρ = if -1000000 ≤ m ∧ m ≤ 1000000 ∧ -1000000 ≤ n ∧ n ≤ 1000000 then some (rangeL m (n - m).toNat, ρ) else none := rfl
theorem LIM_eq : LIM = 1000000 := Nat.le_antisymm (Nat.le_refl 1000000) (Nat.le_refl 1000000)
/-! ### values -/
theorem v_add (a b : Int) : sAddA (.int a) (.int b) = some (.int (a + b)) := rfl
theorem v_sub (a b : Int) : sSub (.int a) (.int b) = some (.int (a - b)) := rfl
theorem v_neg (a : Int) : sNeg (.int a) = some (.int (-a)) := rfl
theorem v_mod (a b : Int) (h : 0 < b) : sMod (.int a) (.int b) = some (.int (a % b)) := if_pos h
theorem v_div (a b : Int) (h0 : 0 < b) (h1 : b < 18446744073709551616) : sDiv (.int a) (.int b) = some (.int (a / b)) := by
  have h2 : b.natAbs.log2 < 9000 := by
    have h3 : b.natAbs < 2 ^ 64 := by
      have e : (2 : Nat) ^ 64 = 18446744073709551616 := by decide
      omega
    have h4 : b.natAbs ≠ 0 := by omega
    have := (Nat.log2_lt h4).mpr h3
    omega
  exact if_pos (by rw [decide_eq_true h0, decide_eq_true h2]; rfl)
theorem abs_lt {b : Int} (h0 : -18446744073709551616 < b) (h1 : b < 18446744073709551616) : b.natAbs < 2 ^ 64 := by
  have e : (2 : Nat) ^ 64 = 18446744073709551616 := by decide
  omega
theorem v_mulR (a b : Int) (h0 : -18446744073709551616 < b) (h1 : b < 18446744073709551616) : sMulA (.int a) (.int b) = some (.int (a * b)) := by
  have e : mulOk a b = true := by
    unfold mulOk
    rw [decide_eq_true (abs_lt h0 h1)]
    rfl
  unfold sMulA or2 sMul
  simp only [e, if_true]
theorem v_mulL (a b : Int) (h0 : -18446744073709551616 < a) (h1 : a < 18446744073709551616) : sMulA (.int a) (.int b) = some (.int (a * b)) := by
  have e : mulOk a b = true := by
    unfold mulOk
    rw [decide_eq_true (abs_lt h0 h1)]
    simp
  unfold sMulA or2 sMul
  simp only [e, if_true]
theorem v_mulB (a : Int) (q : Prop) [Decidable q] : sMulA (.int a) (.int (if q then 1 else 0)) = some (.int (a * (if q then 1 else 0))) := by
  split <;> exact v_mulR _ _ (by omega) (by omega)
theorem v_addT (a b : List D) (h : a.length + b.length ≤ LIM) : sAddA (.tuple a) (.tuple b) = some (.tuple (a ++ b)) := by
  unfold sAddA or2 sAdd
  simp [h]
theorem v_addL (a b : List D) (h : a.length + b.length ≤ LIM) : sAddA (.list a) (.list b) = some (.list (a ++ b)) := by
  unfold sAddA or2 sAdd sCat
  simp [h]
theorem v_catL (a b : List D) (h : a.length + b.length ≤ LIM) : sCat (.list a) (.list b) = some (.list (a ++ b)) := by
  unfold sCat
  simp [h]
theorem v_lt (a b : Int) : sLt (.int a) (.int b) = some (.bool (decide (a < b))) := rfl
theorem v_le (a b : Int) : sLe (.int a) (.int b) = some (.bool (decide (a ≤ b))) := rfl
theorem v_gt (a b : Int) : sGt (.int a) (.int b) = some (.bool (decide (b < a))) := rfl
theorem v_ge (a b : Int) : sGe (.int a) (.int b) = some (.bool (decide (b ≤ a))) := rfl
theorem eqv_int (a b : Int) : PyData.eqv (.int a) (.int b) = decide (a = b) := by
  by_cases h : a = b
  · subst h; simp [PyData.eqv]
  · simp [PyData.eqv, h]
theorem eqv_str (a b : Str) : PyData.eqv (.str a) (.str b) = decide (a = b) := by
  by_cases h : a = b
  · subst h; simp [PyData.eqv]
  · simp [PyData.eqv, h]
theorem v_eqI (a b : Int) : sEq (.int a) (.int b) = some (.bool (decide (a = b))) := by
  unfold sEq
  rw [eqv_int]
  simp [PyData.plain, PyData.depth, lvl]
theorem v_neI (a b : Int) : sNe (.int a) (.int b) = some (.bool (!decide (a = b))) := by
  unfold sNe
  rw [eqv_int]
  simp [PyData.plain, PyData.depth, lvl]
theorem v_eqS (a b : Str) : sEq (.str a) (.str b) = some (.bool (decide (a = b))) := by
  unfold sEq
  rw [eqv_str]
  simp [PyData.plain, PyData.depth, lvl]
theorem v_neS (a b : Str) : sNe (.str a) (.str b) = some (.bool (!decide (a = b))) := by
  unfold sNe
  rw [eqv_str]
  simp [PyData.plain, PyData.depth, lvl]
theorem v_lenT (l : List D) : sLenA (.tuple l) = some (.int l.length) := rfl
theorem v_lenL (l : List D) : sLenA (.list l) = some (.int l.length) := rfl
theorem v_intB (b : Bool) : sInt (.bool b) = some (.int (if b = true then 1 else 0)) := by cases b <;> rfl
theorem v_intI (i : Int) : sInt (.int i) = some (.int i) := rfl
theorem v_not (b : Bool) : sNot (.bool b) = some (.bool (!b)) := rfl
theorem v_min (a b : Int) : sMin2 (.int a) (.int b) = some (.int (if b < a then b else a)) := rfl
theorem v_max (a b : Int) : sMax2 (.int a) (.int b) = some (.int (if a < b then b else a)) := rfl
theorem v_abs (a : Int) : sAbs (.int a) = some (.int (if a < 0 then -a else a)) := rfl
theorem v_tupL (l : List D) : sTuple (.list l) = some (.tuple l) := rfl
theorem v_tupT (l : List D) : sTuple (.tuple l) = some (.tuple l) := rfl
theorem v_isi {f : D → Bool} (d : D) (h : d.plain = true) : sIsi f d = some (.bool (f d)) := if_pos h
theorem v_ixT (l : List D) (i : Int) : sIxA (.tuple l) (.int i) = ixOf l i := by
  unfold sIxA or2 sIx
  simp only
  cases ixOf l i <;> rfl
theorem v_ixL (l : List D) (i : Int) : sIxA (.list l) (.int i) = ixOf l i := by
  unfold sIxA or2 sIx
  simp only
  cases ixOf l i <;> rfl
theorem ixOf_nat (l : List D) (j : Nat) (h : j < l.length) : ixOf l (j : Int) = l[j]? := by
  unfold ixOf L2.atI L2.ixN
  have h2 : (j : Int) < (l.length : Int) := by omega
  simp [h2]
theorem ix0 (x : D) (l : List D) : ixOf (x :: l) 0 = some x := ixOf_nat (x :: l) 0 (by simp)
theorem ix1 (x y : D) (l : List D) : ixOf (x :: y :: l) 1 = some y := ixOf_nat (x :: y :: l) 1 (by simp)
theorem ix2 (x y z : D) (l : List D) : ixOf (x :: y :: z :: l) 2 = some z := ixOf_nat (x :: y :: z :: l) 2 (by simp)
theorem ix3 (x y z u : D) (l : List D) : ixOf (x :: y :: z :: u :: l) 3 = some u := ixOf_nat (x :: y :: z :: u :: l) 3 (by simp)
theorem seqT (l : List D) : seqOf (.tuple l) = some l := rfl
theorem seqL (l : List D) : seqOf (.list l) = some l := rfl
theorem intsOf_map (l : List Int) : intsOf (l.map .int) = some l := by
  induction l with
  | nil => rfl
  | cons x l ih =>
    show (intsOf (l.map .int)).map (x :: ·) = some (x :: l)
    rw [ih]
    rfl
theorem boolsOf_map (l : List Bool) : boolsOf (l.map .bool) = some l := by
  induction l with
  | nil => rfl
  | cons x l ih =>
    show (boolsOf (l.map .bool)).map (x :: ·) = some (x :: l)
    rw [ih]
    rfl
theorem v_sumT (l : List Int) : sSum (.tuple (l.map .int)) = some (.int l.sum) := by
  unfold sSum
  simp [seqOf, intsOf_map]
theorem v_sumL (l : List Int) : sSum (.list (l.map .int)) = some (.int l.sum) := by
  unfold sSum
  simp [seqOf, intsOf_map]
theorem v_any {α : Type} (f : α → Bool) (l : List α) : sAny (.list (l.map fun x => .bool (f x))) = some (.bool (l.any f)) := by
  have e : (l.map fun x => PyData.bool (f x)) = (l.map f).map .bool := by rw [List.map_map]; rfl
  rw [e]
  show (boolsOf _).map _ = _
  rw [boolsOf_map]
  simp
theorem v_all {α : Type} (f : α → Bool) (l : List α) : sAll (.list (l.map fun x => .bool (f x))) = some (.bool (l.all f)) := by
  have e : (l.map fun x => PyData.bool (f x)) = (l.map f).map .bool := by rw [List.map_map]; rfl
  rw [e]
  show (boolsOf _).map _ = _
  rw [boolsOf_map]
  simp
theorem plain_ints (l : List Int) : PyData.plainAll (l.map .int) = true := by
  induction l with
  | nil => rfl
  | cons x l ih =>
    show (PyData.plain (.int x) && PyData.plainAll (l.map .int)) = true
    rw [ih]
    rfl
theorem v_inT (a : Int) (l : List Int) : sInA (.int a) (.tuple (l.map .int)) = some (.bool (l.contains a)) := by
  unfold sInA or2 sIn
  have e : ((l.map PyData.int).any fun z => PyData.eqv z (.int a)) = l.contains a := by
    induction l with
    | nil => rfl
    | cons x l ih =>
      rw [List.map_cons, List.any_cons, ih, eqv_int, List.contains_cons]
      congr 1
      by_cases h : x = a
      · subst h; simp
      · have h2 : ¬ a = x := fun q => h q.symm
        simp [h, h2]
  simp [plain_ints, PyData.plain, PyData.depth, lvl, e]
theorem v_inL (a : Int) (l : List Int) : sInA (.int a) (.list (l.map .int)) = some (.bool (l.contains a)) := v_inT a l
theorem v_ninT (a : Int) (l : List Int) : sNinA (.int a) (.tuple (l.map .int)) = some (.bool (!l.contains a)) := by
  have e : ((l.map PyData.int).any fun z => PyData.eqv z (.int a)) = l.contains a := by
    induction l with
    | nil => rfl
    | cons x l ih =>
      rw [List.map_cons, List.any_cons, ih, eqv_int, List.contains_cons]
      congr 1
      by_cases h : x = a
      · subst h; simp
      · have h2 : ¬ a = x := fun q => h q.symm
        simp [h, h2]
  unfold sNinA or2 sNin
  simp [plain_ints, PyData.plain, PyData.depth, lvl, e]
theorem v_ninL (a : Int) (l : List Int) : sNinA (.int a) (.list (l.map .int)) = some (.bool (!l.contains a)) := v_ninT a l
theorem v_countT (a : Int) (l : List Int) : mCountA (.tuple (l.map .int)) [.int a] = some (.int (l.count a)) := by
  unfold mCountA mCountT
  have e : ((l.map PyData.int).countP fun y => PyData.eqv y (.int a)) = l.count a := by
    rw [List.countP_map]
    unfold List.count
    refine List.countP_congr fun x _ => ?_
    simp [eqv_int]
  simp [plain_ints, PyData.plain, PyData.depth, lvl, e]
/-! ### comprehensions' answers -/
theorem mapMO_all {α : Type} (g : α → D) (l : List α) : mapMO (fun x => some (some (g x))) l = some (l.map g) := by
  induction l with
  | nil => rfl
  | cons x l ih =>
    show (mapMO _ l).map (g x :: ·) = _
    rw [ih]
    rfl
theorem mapMO_some {α : Type} (p : α → Bool) (g : α → D) (l : List α) : mapMO (fun x => if p x = true then some (some (g x)) else some none) l = some ((l.filter p).map g) := by
  induction l with
  | nil => rfl
  | cons x l ih =>
    unfold mapMO
    rw [ih]
    cases h : p x <;> simp [h]
theorem mapMO_map {α β : Type} (f : β → Option (Option D)) (h : α → β) (l : List α) : mapMO f (l.map h) = mapMO (fun x => f (h x)) l := by
  induction l with
  | nil => rfl
  | cons x l ih =>
    show (match f (h x) with
      | some (some y) => (mapMO f (l.map h)).map (y :: ·)
      | some none => mapMO f (l.map h)
      | none => none) = _
    rw [ih]
    rfl
theorem mapMO_range (f : D → Option (Option D)) (lo : Int) (n : Nat) : mapMO f (rangeL lo n) = mapMO (fun i : Nat => f (.int (lo + (i : Int)))) (List.range n) := mapMO_map f _ _
theorem mapMO_nil {α : Type} (f : α → Option (Option D)) : mapMO f [] = some [] := rfl
theorem mapMO_congr {α : Type} {f g : α → Option (Option D)} {l : List α} (h : ∀ x ∈ l, f x = g x) : mapMO f l = mapMO g l := by
  induction l with
  | nil => rfl
  | cons x l ih =>
    unfold mapMO
    rw [h x List.mem_cons_self, ih fun y hy => h y (List.mem_cons_of_mem _ hy)]
end VL

set_option Elab.async false
set_option linter.all false
set_option maxRecDepth 100000
/-! P3: lists of whole numbers: sorted, cut, greatest; choice by a place. -/
namespace VL
open PySem

def insI (x : Int) : List Int → List Int
  | [] => [x]
  | y :: r => if x ≤ y then x :: y :: r else y :: insI x r
def isortI : List Int → List Int
  | [] => []
  | x :: l => insI x (isortI l)
theorem dle_int (x y : Int) : PySem.W.dataLe false id (.int x : D) (.int y) = decide (x ≤ y) := by
  have h := congrFun (congrFun (PySem.W.dataLe_int (β := Int) id) x) y
  exact h
theorem insD_int (x : Int) : ∀ l : List Int, insD (.int x) (l.map .int) = (insI x l).map .int
  | [] => rfl
  | y :: r => by
    show (if PySem.W.dataLe false id (.int x : D) (.int y) = true then (.int x : D) :: .int y :: r.map .int else .int y :: insD (.int x) (r.map .int)) = _
    rw [dle_int, insD_int x r, show insI x (y :: r) = if x ≤ y then x :: y :: r else y :: insI x r from rfl]
    by_cases h : x ≤ y
    · simp [h]
    · simp [h]
theorem isort_int : ∀ l : List Int, isort (l.map .int) = (isortI l).map .int
  | [] => rfl
  | x :: l => by
    show insD (.int x) (isort (l.map .int)) = _
    rw [isort_int l, insD_int]
    rfl
theorem sortable_int (l : List Int) (h : l.length ≤ LIM) : sortable (l.map .int) = true := by
  unfold sortable
  rw [List.length_map, decide_eq_true h]
  simp [PySem.W.alike, kd, PyData.depth, lvl]
theorem v_sortedL (l : List Int) (h : l.length ≤ LIM) : sSorted (.list (l.map .int)) = some (.list ((isortI l).map .int)) := by
  unfold sSorted
  simp only [keysOf, sortable_int l h, if_true, isort_int]
theorem v_sortedT (l : List Int) (h : l.length ≤ LIM) : sSorted (.tuple (l.map .int)) = some (.list ((isortI l).map .int)) := by
  unfold sSorted
  simp only [keysOf, sortable_int l h, if_true, isort_int]
theorem insI_perm (x : Int) : ∀ l : List Int, (insI x l).Perm (x :: l)
  | [] => List.Perm.refl _
  | y :: r => by
    unfold insI
    split
    · exact List.Perm.refl _
    · exact ((insI_perm x r).cons y).trans (List.Perm.swap x y r)
theorem isortI_perm : ∀ l : List Int, (isortI l).Perm l
  | [] => List.Perm.refl _
  | x :: l => (insI_perm x _).trans ((isortI_perm l).cons x)
theorem insI_sorted (x : Int) : ∀ {l : List Int}, l.Pairwise (· ≤ ·) → (insI x l).Pairwise (· ≤ ·)
  | [], _ => List.pairwise_singleton _ _
  | y :: r, h => by
    obtain ⟨h1, h2⟩ := List.pairwise_cons.mp h
    unfold insI
    split
    · rename_i hx
      refine List.pairwise_cons.mpr ⟨fun z hz => ?_, h⟩
      rcases List.mem_cons.mp hz with e | hz
      · rw [e]; exact hx
      · exact Int.le_trans hx (h1 z hz)
    · rename_i hx
      refine List.pairwise_cons.mpr ⟨fun z hz => ?_, insI_sorted x h2⟩
      rcases List.mem_cons.mp ((insI_perm x r).mem_iff.mp hz) with e | hz
      · rw [e]; omega
      · exact h1 z hz
theorem isortI_sorted : ∀ l : List Int, (isortI l).Pairwise (· ≤ ·)
  | [] => List.Pairwise.nil
  | x :: l => insI_sorted x (isortI_sorted l)
theorem isortI_length (l : List Int) : (isortI l).length = l.length := (isortI_perm l).length_eq
/-! cut -/
theorem cutL_map {α β : Type} (f : α → β) (l : List α) (a b : Option Int) : cutL (l.map f) a b = (cutL l a b).map f := by
  unfold cutL
  rw [List.length_map, List.map_take, List.map_drop]
theorem v_cutTL (l : List D) (x y : D) (a b : Option Int) (ha : partOf x = some a) (hb : partOf y = some b) : sCutA (.tuple l) x y = some (.tuple (cutL l a b)) := by
  unfold sCutA sCutT
  simp only [ha, hb]
theorem v_cutLL (l : List D) (x y : D) (a b : Option Int) (ha : partOf x = some a) (hb : partOf y = some b) : sCutA (.list l) x y = some (.list (cutL l a b)) := by
  unfold sCutA sCutT sCutL
  simp only [ha, hb]
theorem v_cT (l : List D) (a b : Int) : sCutA (.tuple l) (.int a) (.int b) = some (.tuple (cutL l (some a) (some b))) := v_cutTL l _ _ _ _ rfl rfl
theorem v_cTl (l : List D) (a : Int) : sCutA (.tuple l) (.int a) .none = some (.tuple (cutL l (some a) none)) := v_cutTL l _ _ _ _ rfl rfl
theorem v_cTh (l : List D) (a : Int) : sCutA (.tuple l) .none (.int a) = some (.tuple (cutL l none (some a))) := v_cutTL l _ _ _ _ rfl rfl
theorem v_cL (l : List D) (a b : Int) : sCutA (.list l) (.int a) (.int b) = some (.list (cutL l (some a) (some b))) := v_cutLL l _ _ _ _ rfl rfl
theorem v_cLl (l : List D) (a : Int) : sCutA (.list l) (.int a) .none = some (.list (cutL l (some a) none)) := v_cutLL l _ _ _ _ rfl rfl
theorem v_cLh (l : List D) (a : Int) : sCutA (.list l) .none (.int a) = some (.list (cutL l none (some a))) := v_cutLL l _ _ _ _ rfl rfl
theorem cut2 (a b c d : D) : cutL [a, b, c, d] (some 2) none = [c, d] := rfl
theorem v_max0 (l : List Int) (x : Int) : sMax (.list ((x :: l).map .int)) = some (.int (l.foldl max x)) := by
  unfold sMax
  simp only [intsOf_map]
theorem v_maxI (l : List Int) (h : l ≠ []) : sMax (.list (l.map .int)) = some (.int (l.tail.foldl max (l.headD 0))) := by
  cases l with
  | nil => exact absurd rfl h
  | cons x l => exact v_max0 l x
/-! == [] -/
theorem eqv_nil (l : List D) : PyData.eqv (.list l) (.list []) = l.isEmpty := by
  cases l <;> simp [PyData.eqv, PyData.eqvAll]
theorem depth_ints0 (l : List Int) : PyData.depth (.list (l.map .int)) = 1 := by
  rw [PyData.depth, PySem.W.depth_ints]
theorem v_eqNil (l : List Int) : sEq (.list (l.map .int)) (.list []) = some (.bool l.isEmpty) := by
  unfold sEq
  rw [eqv_nil, depth_ints0]
  simp [PyData.plain, plain_ints, PyData.plainAll, lvl]
theorem v_neNil (l : List Int) : sNe (.list (l.map .int)) (.list []) = some (.bool (!l.isEmpty)) := by
  unfold sNe
  rw [eqv_nil, depth_ints0]
  simp [PyData.plain, plain_ints, PyData.plainAll, lvl]
/-! a choice of four -/
def sel4 {α : Type} (i : Int) (a b c d : α) : α := if i = 0 then a else if i = 1 then b else if i = 2 then c else d
theorem ix4 (x : Int) (a b c d : D) : ixOf [a, b, c, d] (x % 4) = some (sel4 (x % 4) a b c d) := by
  have h : x % 4 = 0 ∨ x % 4 = 1 ∨ x % 4 = 2 ∨ x % 4 = 3 := by omega
  rcases h with h | h | h | h <;> rw [h] <;> rfl
theorem sel4_int (i a b c d : Int) : (sel4 i (.int a) (.int b) (.int c) (.int d) : D) = .int (sel4 i a b c d) := by
  unfold sel4
  split
  · rfl
  · split
    · rfl
    · split <;> rfl
theorem sel4_le {i a b c d lo hi : Int} (h : lo ≤ a ∧ a ≤ hi) (h2 : lo ≤ b ∧ b ≤ hi) (h3 : lo ≤ c ∧ c ≤ hi) (h4 : lo ≤ d ∧ d ≤ hi) : lo ≤ sel4 i a b c d ∧ sel4 i a b c d ≤ hi := by
  unfold sel4
  split
  · exact h
  · split
    · exact h2
    · split
      · exact h3
      · exact h4
theorem mapMO_int {α : Type} (f : α → Int) (l : List α) : (l.map fun x => PyData.int (f x)) = (l.map f).map PyData.int := by
  rw [List.map_map]
  rfl
theorem ixOf_map (l : List Int) (k : Nat) (h : k < l.length) : ixOf (l.map .int) (k : Int) = some (.int (l.getD k 0)) := by
  rw [ixOf_nat _ _ (by rw [List.length_map]; exact h), List.getElem?_map]
  simp [h]
theorem mod_lo (x : Int) (m : Int) (h : 0 < m) : -18446744073709551616 < x % m := by
  have := Int.emod_nonneg x (show m ≠ 0 by omega)
  omega
theorem mod_hi (x : Int) (m : Int) (h : 0 < m) (h2 : m < 18446744073709551616) : x % m < 18446744073709551616 := by
  have := Int.emod_lt_of_pos x h
  omega
theorem pl_int (x : Int) : PyData.plain (.int x) = true := rfl
theorem pl_str (x : Str) : PyData.plain (.str x) = true := rfl
theorem pl_bool (x : Bool) : PyData.plain (.bool x) = true := rfl
theorem pl_none : PyData.plain .none = true := rfl
theorem v_isiI {f : D → Bool} (x : Int) : sIsi f (.int x) = some (.bool (f (.int x))) := rfl
theorem v_isiS {f : D → Bool} (x : Str) : sIsi f (.str x) = some (.bool (f (.str x))) := rfl
theorem v_isiB {f : D → Bool} (x : Bool) : sIsi f (.bool x) = some (.bool (f (.bool x))) := rfl
theorem v_isiN {f : D → Bool} : sIsi f .none = some (.bool (f .none)) := rfl
theorem ib_int (x : Int) : PyData.isBool (.int x) = false := rfl
theorem eq_dec {α : Type} [DecidableEq α] (x : α) : decide (x = x) = true := decide_eq_true rfl
theorem rl1 : rangeL 0 1 = [.int 0] := rfl
theorem rl2 : rangeL 0 2 = [.int 0, .int 1] := rfl
theorem rl3 : rangeL 0 3 = [.int 0, .int 1, .int 2] := rfl
theorem rl4 : rangeL 0 4 = [.int 0, .int 1, .int 2, .int 3] := rfl
/-- tuple * k -/
theorem v_repT (l : List D) (k : Int) (h : k ≤ 1000 ∧ -1000 ≤ k ∧ l.length ≤ 1000) : sMulA (.tuple l) (.int k) = some (.tuple (List.replicate k.toNat l).flatten) := by
  unfold sMulA or2 sMul sRep
  simp only [h, and_self, if_true]
end VL

set_option Elab.async false
set_option linter.all false
set_option maxRecDepth 100000
/-! P4: lists and dicts that are changed; loops by an invariant. -/
namespace VL
open PySem
def lstK1 (o : Option O) (r : Option (Fl × List O)) : Option (Fl × List O) := match o with
  | some (.lst _) => r
  | _ => none
def lstL (o : Option O) (f : List D → Option (Fl × List O)) : Option (Fl × List O) := match o with
  | some (.lst l) => f l
  | _ => none
def dicL (o : Option O) (f : List (D × D) → Option (Fl × List O)) : Option (Fl × List O) := match o with
  | some (.dic l) => f l
  | _ => none
def listK (d : D) (f : List D → Option (Fl × List O)) : Option (Fl × List O) := match d with
  | .list m => f m
  | _ => none
section
variable {i : Nat} {e k : Ev} {ρ : List O} {l : List D} {dl : List (D × D)} {r : Option (Fl × List O)} {f : List D → Option (Fl × List O)} {df : List (D × D) → Option (Fl × List O)}
theorem lstK1_l : lstK1 (some (.lst l)) r = r := rfl
theorem lstL_l : lstL (some (.lst l)) f = f l := rfl
theorem dicL_d : dicL (some (.dic dl)) df = df dl := rfl
theorem listK_l : listK (.list l) f = f l := rfl
theorem ap_ext : sExt i e ρ = lstK1 ρ[i]? ((e ρ).bind fun z => listK z.1 fun m => lstL z.2[i]? fun l => if l.length + m.length ≤ LIM then some (.nx, z.2.set i (.lst (l ++ m))) else none) := by
  unfold sExt
  cases h : ρ[i]? with
  | none => rfl
  | some o =>
    cases o with
    | lst l0 =>
      show (match e ρ with
        | some (.list m, ρ1) => match ρ1[i]? with
          | some (.lst l) => if l.length + m.length ≤ LIM then some (Fl.nx, ρ1.set i (.lst (l ++ m))) else none
          | _ => none
        | _ => none) = _
      rw [lstK1_l]
      cases he : e ρ with
      | none => rfl
      | some z =>
        obtain ⟨d, ρ1⟩ := z
        cases d with
        | list m =>
          simp only [Option.bind_some, listK_l]
          cases h2 : ρ1[i]? with
          | none => rfl
          | some o => cases o <;> rfl
        | _ => rfl
    | _ => rfl
theorem ap_app : sApp i e ρ = lstK1 ρ[i]? ((e ρ).bind fun z => lstL z.2[i]? fun l => if l.length < LIM then some (.nx, z.2.set i (.lst (l ++ [z.1]))) else none) := by
  unfold sApp
  cases h : ρ[i]? with
  | none => rfl
  | some o =>
    cases o with
    | lst l0 =>
      show (match e ρ with
        | some (d, ρ1) => match ρ1[i]? with
          | some (.lst l) => if l.length < LIM then some (Fl.nx, ρ1.set i (.lst (l ++ [d]))) else none
          | _ => none
        | none => none) = _
      rw [lstK1_l]
      cases he : e ρ with
      | none => rfl
      | some z =>
        simp only [Option.bind_some]
        cases h2 : z.2[i]? with
        | none => rfl
        | some o => cases o <;> rfl
    | _ => rfl
theorem ap_put : sPut i k e ρ = (e ρ).bind fun z => (k z.2).bind fun w => dicL w.2[i]? fun l => (dAsk l w.1).bind fun _ => if l.length < LIM then some (.nx, w.2.set i (.dic (dput w.1 z.1 l))) else none := by
  unfold sPut
  cases he : e ρ with
  | none => rfl
  | some z =>
    simp only [Option.bind_some]
    cases hk : k z.2 with
    | none => rfl
    | some w =>
      simp only [Option.bind_some]
      cases h2 : w.2[i]? with
      | none => rfl
      | some o =>
        cases o with
        | dic l =>
          rw [dicL_d]
          cases hd : dAsk l w.1 <;> simp only [hd] <;> rfl
        | _ => rfl
end
/-- a for by an invariant: each turn goes on -/
theorem for_inv {t : Tg} {b : Sm} (I : List O → Prop) : ∀ (xs : List D), (∀ x ∈ xs, ∀ ρ, I ρ → ∃ ρ1 ρ2, tgo t x ρ = some ρ1 ∧ (b ρ1 = some (.nx, ρ2) ∨ b ρ1 = some (.ct, ρ2)) ∧ I ρ2) → ∀ ρ, I ρ → ∃ ρ', forLoop t b xs ρ = some (.nx, ρ') ∧ I ρ'
  | [], _, ρ, h => ⟨ρ, rfl, h⟩
  | x :: xs, k, ρ, h => by
    obtain ⟨ρ1, ρ2, h1, h2, h3⟩ := k x List.mem_cons_self ρ h
    obtain ⟨ρ', h4, h5⟩ := for_inv I xs (fun y hy => k y (List.mem_cons_of_mem _ hy)) ρ2 h3
    refine ⟨ρ', ?_, h5⟩
    rw [forL_cons, h1]
    rcases h2 with h2 | h2
    · simp only [Option.bind_some, h2, forK_nx, h4]
    · simp only [Option.bind_some, h2, forK_ct, h4]
/-- the same, with what has been walked -/
theorem for_inv2 {t : Tg} {b : Sm} (I : List D → List O → Prop) : ∀ (xs pre : List D), (∀ pre' x, (∃ post, xs = pre' ++ x :: post) → ∀ ρ, I (pre ++ pre') ρ → ∃ ρ1 ρ2, tgo t x ρ = some ρ1 ∧ (b ρ1 = some (.nx, ρ2) ∨ b ρ1 = some (.ct, ρ2)) ∧ I (pre ++ pre' ++ [x]) ρ2) → ∀ ρ, I pre ρ → ∃ ρ', forLoop t b xs ρ = some (.nx, ρ') ∧ I (pre ++ xs) ρ'
  | [], pre, _, ρ, h => ⟨ρ, rfl, by rw [List.append_nil]; exact h⟩
  | x :: xs, pre, k, ρ, h => by
    obtain ⟨ρ1, ρ2, h1, h2, h3⟩ := k [] x ⟨xs, rfl⟩ ρ (by rw [List.append_nil]; exact h)
    rw [List.append_nil] at h3
    obtain ⟨ρ', h4, h5⟩ := for_inv2 I xs (pre ++ [x]) (fun pre' y ⟨post, hp⟩ ρ hI => by
      have := k (x :: pre') y ⟨post, by rw [hp]; rfl⟩ ρ (by simpa using hI)
      simpa using this) ρ2 h3
    refine ⟨ρ', ?_, by simpa using h5⟩
    rw [forL_cons, h1]
    rcases h2 with h2 | h2
    · simp only [Option.bind_some, h2, forK_nx, h4]
    · simp only [Option.bind_some, h2, forK_ct, h4]
end VL

set_option Elab.async false
set_option linter.all false
set_option maxRecDepth 100000
/-! P5: comprehensions and loops that carry a state; objects lent. -/
namespace VL
open PySem
theorem comp_st {α β : Type} {it : Iv} {tg : Tg} {cd e : Ev} {vs : List Nat} (E : β → List O) (P : β → Prop) (enc out : α → D) (xs : List α) (hit : ∀ b, it (E b) = some (xs.map enc, E b)) (hno : ∀ b, noOwn (E b) vs = true) (hw : ∀ b, wipeO (E b) vs = E b) (hg : ∀ b b', giveBack (E b) (E b') vs = E b')
    (step : ∀ q ∈ xs, ∀ b, P b → ∃ b', P b' ∧ ∀ acc, lcTurn tg cd e vs (enc q) (E b) acc = some (acc ++ [out q], E b')) (b : β) (hb : P b) : ∃ b', P b' ∧ eComp it tg cd e vs (E b) = some (.list (xs.map out), E b') := by
  have key : ∀ (ys : List α), (∀ q ∈ ys, q ∈ xs) → ∀ (b : β) (acc : List D), P b → ∃ b', P b' ∧ lcLoop tg cd e vs (ys.map enc) (E b) acc = some (acc ++ ys.map out, E b') := by
    intro ys
    induction ys with
    | nil => intro _ b acc hb; exact ⟨b, hb, by simp [lcLoop]⟩
    | cons y ys ih =>
      intro hs b acc hb
      obtain ⟨b1, h1, h2⟩ := step y (hs y List.mem_cons_self) b hb
      obtain ⟨b2, h3, h4⟩ := ih (fun q hq => hs q (List.mem_cons_of_mem _ hq)) b1 (acc ++ [out y]) h1
      refine ⟨b2, h3, ?_⟩
      rw [List.map_cons]
      unfold lcLoop
      rw [h2]
      simp only [h4]
      simp
  obtain ⟨b', h1, h2⟩ := key xs (fun _ h => h) b [] hb
  refine ⟨b', h1, ?_⟩
  unfold eComp
  simp only [hit, hno, if_true, hw, h2, hg, List.nil_append]
/-- a comprehension told turn by turn -/
theorem comp_fl {α : Type} {it : Iv} {tg : Tg} {cd e : Ev} {vs : List Nat} {ρ ρ1 ρw ρe : List O} (xs : List α) (enc : α → D) (p : α → Bool) (out : α → D) (hit : it ρ = some (xs.map enc, ρ1)) (hno : noOwn ρ1 vs = true) (hw : wipeO ρ1 vs = ρw) (hg : giveBack ρ1 ρw vs = ρe)
    (step : ∀ q ∈ xs, ∀ acc, lcTurn tg cd e vs (enc q) ρw acc = some (if p q = true then acc ++ [out q] else acc, ρw)) : eComp it tg cd e vs ρ = some (.list ((xs.filter p).map out), ρe) := by
  have key : ∀ (ys : List α), (∀ q ∈ ys, q ∈ xs) → ∀ acc : List D, lcLoop tg cd e vs (ys.map enc) ρw acc = some (acc ++ (ys.filter p).map out, ρw) := by
    intro ys
    induction ys with
    | nil => intro _ acc; simp [lcLoop]
    | cons y ys ih =>
      intro hs acc
      have h1 := step y (hs y List.mem_cons_self) acc
      rw [List.map_cons]
      unfold lcLoop
      rw [h1]
      simp only [ih (fun q hq => hs q (List.mem_cons_of_mem _ hq))]
      cases h : p y <;> simp [List.filter_cons, h]
  unfold eComp
  simp only [hit, hno, if_true, hw, key xs (fun _ h => h) [], hg, List.nil_append]
theorem comp_fa {α : Type} {it : Iv} {tg : Tg} {cd e : Ev} {vs : List Nat} {ρ ρ1 ρw ρe : List O} (xs : List α) (enc : α → D) (out : α → D) (hit : it ρ = some (xs.map enc, ρ1)) (hno : noOwn ρ1 vs = true) (hw : wipeO ρ1 vs = ρw) (hg : giveBack ρ1 ρw vs = ρe)
    (step : ∀ q ∈ xs, ∀ acc, lcTurn tg cd e vs (enc q) ρw acc = some (acc ++ [out q], ρw)) : eComp it tg cd e vs ρ = some (.list (xs.map out), ρe) := by
  have := comp_fl xs enc (fun _ => true) out hit hno hw hg (fun q hq acc => by rw [step q hq acc]; rfl)
  rwa [List.filter_eq_self.mpr (fun _ _ => rfl)] at this
theorem comp_fa1 {α : Type} {it : Iv} {tg : Tg} {cd e : Ev} {vs : List Nat} {ρ : List O} (xs : List α) (enc : α → D) (out : α → D) (hit : it ρ = some (xs.map enc, ρ)) (hno : noOwn ρ vs = true) (hw : wipeO ρ vs = ρ) (hg : giveBack ρ ρ vs = ρ)
    (step : ∀ q ∈ xs, ∀ acc, lcTurn tg cd e vs (enc q) ρ acc = some (acc ++ [out q], ρ)) : eComp it tg cd e vs ρ = some (.list (xs.map out), ρ) := comp_fa xs enc out hit hno hw hg step
theorem comp_fl1 {α : Type} {it : Iv} {tg : Tg} {cd e : Ev} {vs : List Nat} {ρ : List O} (xs : List α) (enc : α → D) (p : α → Bool) (out : α → D) (hit : it ρ = some (xs.map enc, ρ)) (hno : noOwn ρ vs = true) (hw : wipeO ρ vs = ρ) (hg : giveBack ρ ρ vs = ρ)
    (step : ∀ q ∈ xs, ∀ acc, lcTurn tg cd e vs (enc q) ρ acc = some (if p q = true then acc ++ [out q] else acc, ρ)) : eComp it tg cd e vs ρ = some (.list ((xs.filter p).map out), ρ) := comp_fl xs enc p out hit hno hw hg step
theorem for_st {α β γ : Type} {t : Tg} {bd : Sm} (E : β → γ → List O) (P : β → Prop) (Q : γ → Prop) (enc : α → D) (F : γ → α → γ) : ∀ (xs : List α), (∀ x ∈ xs, ∀ s c, P s → Q c → ∃ s', P s' ∧ Q (F c x) ∧ ((tgo t (enc x) (E s c)).bind bd = some (.nx, E s' (F c x)) ∨ (tgo t (enc x) (E s c)).bind bd = some (.ct, E s' (F c x)))) →
    ∀ s c, P s → Q c → ∃ s', P s' ∧ Q (xs.foldl F c) ∧ forLoop t bd (xs.map enc) (E s c) = some (.nx, E s' (xs.foldl F c))
  | [], _, s, c, h1, h2 => ⟨s, h1, h2, rfl⟩
  | x :: xs, k, s, c, h1, h2 => by
    obtain ⟨s1, p1, q1, r1⟩ := k x List.mem_cons_self s c h1 h2
    obtain ⟨s2, p2, q2, r2⟩ := for_st E P Q enc F xs (fun y hy => k y (List.mem_cons_of_mem _ hy)) s1 (F c x) p1 q1
    refine ⟨s2, p2, q2, ?_⟩
    rw [List.map_cons, forL_cons, List.foldl_cons]
    cases ht : tgo t (enc x) (E s c) with
    | none => rw [ht] at r1; rcases r1 with r1 | r1 <;> cases r1
    | some ρ1 =>
      rw [ht] at r1
      simp only [Option.bind_some] at r1 ⊢
      rcases r1 with r1 | r1
      · rw [r1, forK_nx, r2]
      · rw [r1, forK_ct, r2]
/-! the object with a game and a book -/
abbrev obj (k : Nat) (G : D) (M : List (D × D)) : O := .ins k (.cons "game" (.val G) (.cons "known" (.dic M) .nil))
section
variable {k : Nat} {G d : D} {M M' : List (D × D)} {r r' : List O} {ds : List D} {m : Str} {φ : O → List D → Option (D × O)} {es : Evs} {f : Pv}
theorem obj_ok : (noBor (obj k G M) && hasRef (obj k G M)) = true := rfl
theorem obj_game {j : Nat} : getP (.bor j (obj k G M) :: r) (.f 0 "game") = some (.val G) := by kernel_rfl
theorem obj_known {j : Nat} : getP (.bor j (obj k G M) :: r) (.f 0 "known") = some (.dic M) := by kernel_rfl
theorem obj_put {j : Nat} : setP (.bor j (obj k G M) :: r) (.f 0 "known") (.dic M') = .bor j (obj k G M') :: r := by kernel_rfl
theorem ap_eQg {j : Nat} : eP (pQ (.f 0 "game")) (.bor j (obj k G M) :: r) = some (G, .bor j (obj k G M) :: r) := by
  unfold eP pQ
  rw [obj_game]
  rfl
theorem is_of_stand : isIns k "of_stand" (obj k G M) = true := by
  have h : (Fs.get (.cons "game" (.val G) (.cons "known" (.dic M) .nil)) "of_stand").isNone = true := by kernel_rfl
  show (decide (k = k) && (Fs.get (.cons "game" (.val G) (.cons "known" (.dic M) .nil)) "of_stand").isNone) = true
  rw [h, decide_eq_true rfl]
  rfl
theorem is_of_move : isIns k "of_move" (obj k G M) = true := by
  have h : (Fs.get (.cons "game" (.val G) (.cons "known" (.dic M) .nil)) "of_move").isNone = true := by kernel_rfl
  show (decide (k = k) && (Fs.get (.cons "game" (.val G) (.cons "known" (.dic M) .nil)) "of_move").isNone) = true
  rw [h, decide_eq_true rfl]
  rfl
theorem is_known_of : isIns k "known_of" (obj k G M) = true := by
  have h : (Fs.get (.cons "game" (.val G) (.cons "known" (.dic M) .nil)) "known_of").isNone = true := by kernel_rfl
  show (decide (k = k) && (Fs.get (.cons "game" (.val G) (.cons "known" (.dic M) .nil)) "known_of").isNone) = true
  rw [h, decide_eq_true rfl]
  rfl
/-! one step where the book lies -/
theorem ap_o2k {j : Nat} {f : D → D → Option D} {a : Ev} {x : D} (ha : a (.bor j (obj k G M) :: r) = some (x, .bor j (obj k G M) :: r)) : o2Q f a (.f 0 "known") (.bor j (obj k G M) :: r) = (f x (.dict M)).bind fun d => some (d, .bor j (obj k G M) :: r) := by
  unfold o2Q pkQ
  rw [ha]
  simp only [obj_known]
  show (match f x (.dict M) with
    | some d => some (d, O.bor j (obj k G M) :: r)
    | none => none) = _
  cases f x (.dict M) <;> rfl
theorem ap_ixk {j : Nat} {g : D → D → Option D} {x : D} (hx : f (.bor j (obj k G M) :: r) = some x) : ixQ g (.f 0 "known") f (.bor j (obj k G M) :: r) = (g (.dict M) x).bind fun d => some (d, .bor j (obj k G M) :: r) := by
  unfold ixQ pkQ
  simp only [obj_known, hx]
  show (match g (.dict M) x with
    | some d => some (d, O.bor j (obj k G M) :: r)
    | none => none) = _
  cases g (.dict M) x <;> rfl
theorem ap_putk {j : Nat} {e : Ev} {x v : D} {ρ : List O} (he : e ρ = some (v, .bor j (obj k G M) :: r)) (hx : f (.bor j (obj k G M) :: r) = some x) (hd : (dAsk M x).isSome = true) (hM : M.length < LIM) : sPutQ (.f 0 "known") f e ρ = some (.nx, .bor j (obj k G (dput x v M)) :: r) := by
  unfold sPutQ
  simp only [he, hx, obj_known, obj_put]
  cases h : dAsk M x with
  | none => rw [h] at hd; cases hd
  | some y => simp only [if_pos hM]
/-- a call of the lent object's method -/
theorem meth_at {j : Nat} (hI : isIns k m (obj k G M) = true) (hes : es (.bor j (obj k G M) :: r) = some (ds, .bor j (obj k G M) :: r)) (hφ : φ (obj k G M) ds = some (d, obj k G M')) : eMeth 0 k m φ es (.bor j (obj k G M) :: r) = some (d, .bor j (obj k G M') :: r) := by
  unfold eMeth
  have e : getP (.bor j (obj k G M) :: r) (.s 0) = some (obj k G M) := rfl
  simp only [e, hI, if_true, hes, hφ]
  rfl
/-- the slot i's own object's method -/
theorem methI_at {i : Nat} {ρ : List O} (hρ : ρ[i]? = some (obj k G M)) (hI : isIns k m (obj k G M) = true) (hes : es ρ = some (ds, ρ)) (hφ : φ (obj k G M) ds = some (d, obj k G M')) : eMeth i k m φ es ρ = some (d, ρ.set i (obj k G M')) := by
  unfold eMeth
  have e : getP ρ (.s i) = some (obj k G M) := by
    show (ρ[i]?).map unb = _
    rw [hρ]
    rfl
  have e2 : setP ρ (.s i) (obj k G M') = ρ.set i (obj k G M') := by
    unfold setP
    simp only [hρ]
    rfl
  simp only [e, hI, if_true, hes, hφ, e2]
theorem mkB_obj {p n : Nat} {b : Sm} (hl : ds.length + 1 = p) (hm : b (.bor 0 (obj k G M) :: (ds.map .val ++ List.replicate (n - (ds.length + 1)) .un)) = some (.rt d, .bor 0 (obj k G M') :: r')) : mkB p n 0 b (obj k G M) ds = some (d, obj k G M') := by
  unfold mkB runB
  rw [if_pos ⟨hl, Nat.zero_le _⟩, if_pos obj_ok]
  show (match b (.bor 0 (obj k G M) :: (ds.map .val ++ List.replicate (n - (ds.length + 1)) .un)) with
    | some (.rt d, ρ') => lentK d ρ'[0]?
    | some (.nx, ρ') => lentK .none ρ'[0]?
    | _ => none) = _
  rw [hm]
  rfl
/-- a dict lent to a call -/
theorem callB_at {i : Nat} {ρ : List O} (hρ : (ρ[i]?).map unb = some (.dic M)) (hes : es ρ = some (ds, ρ)) (hφ : φ (.dic M) ds = some (d, .dic M')) : eCallB i φ es ρ = some (d, setP ρ (.s i) (.dic M')) := by
  unfold eCallB
  have e : getP ρ (.s i) = some (.dic M) := hρ
  have h : hasRef (.dic M) = true := rfl
  simp only [e, h, if_true, hes, hφ]
theorem mkB_dic {n : Nat} {b : Sm} {a1 a2 : D} {ρ' : List O} (hn : 3 ≤ n) (hm : b (.val a1 :: .val a2 :: .bor 0 (.dic M) :: List.replicate (n - 3) .un) = some (.rt d, ρ')) (h2 : ρ'[2]? = some (.bor 0 (.dic M'))) : mkB 3 n 2 b (.dic M) [a1, a2] = some (d, .dic M') := by
  unfold mkB runB
  rw [if_pos ⟨rfl, Nat.le_refl _⟩, if_pos (show (noBor (O.dic M) && hasRef (O.dic M)) = true from rfl)]
  show (match b (.val a1 :: .val a2 :: .bor 0 (.dic M) :: List.replicate (n - 3) .un) with
    | some (.rt d, ρ') => lentK d ρ'[2]?
    | some (.nx, ρ') => lentK .none ρ'[2]?
    | _ => none) = _
  rw [hm]
  show lentK d ρ'[2]? = _
  rw [h2]
  rfl
theorem putQ_s {i : Nat} {e : Ev} {ρ ρ1 : List O} {x v : D} (he : e ρ = some (v, ρ1)) (hx : f ρ1 = some x) (h2 : (ρ1[i]?).map unb = some (.dic M)) (hd : (dAsk M x).isSome = true) (hM : M.length < LIM) : sPutQ (.s i) f e ρ = some (.nx, setP ρ1 (.s i) (.dic (dput x v M))) := by
  unfold sPutQ
  have e1 : getP ρ1 (.s i) = some (.dic M) := h2
  simp only [he, hx, e1]
  cases h : dAsk M x with
  | none => rw [h] at hd; cases hd
  | some y => simp only [if_pos hM]
theorem pkK_bd {j : Nat} : pkK (some (.bor j (.dic M))) = some (.dict M) := rfl
end
end VL

set_option Elab.async false
set_option linter.all false
set_option maxRecDepth 100000
set_option maxHeartbeats 0
namespace VL
open PySem PySem.Spec PyProof.Rows L2
/-! law_above -/
abbrev N_law_above : List Str := ["_law_one", "_law_other"]
def m_law_above : Sm := (sRet (o2 sGt (kE (o2 sMulA (kE (o2 sIxA (kP 0) (kE (eC (.int 0))))) (kE (o2 sIxA (kP 1) (kE (eC (.int 1))))))) (kE (o2 sMulA (kE (o2 sIxA (kP 1) (kE (eC (.int 0))))) (kE (o2 sIxA (kP 0) (kE (eC (.int 1)))))))))
def f_law_above : List D → Option D := mkF 2 2 (m_law_above)
/-! law_box -/
abbrev N_law_box : List Str := ["_law_number", "_law_kind", "_law_some"]
def m_law_box_t3 : Sm := (sRet (o2 sIxA (kE (o2 sAddA (kP 2) (kE (eLst (esCons (eTup (esCons (eC (.str "even")) (esCons (o2 sAddA (kE (eC (.int 1))) (kE (o2 sMod (kE (o2 sDiv (kP 0) (kE (eC (.int 6))))) (kE (eC (.int 50)))))) esNil))) esNil))))) (kP 1)))
def m_law_box_s2 : Sm := (sSet (.one 2) (o2 sAddA (kP 2) (kE (eLst (esCons (eTup (esCons (eC (.str "run")) (esCons (o2 sAddA (kE (eC (.int 2))) (kE (o2 sMod (kE (o2 sDiv (kP 0) (kE (eC (.int 6))))) (kE (eC (.int 3)))))) (esCons (o2 sAddA (kE (eC (.int 1))) (kE (o2 sMod (kE (o2 sDiv (kP 0) (kE (eC (.int 64))))) (kE (eC (.int 50)))))) esNil)))) (esCons (eTup (esCons (eC (.str "under")) (esCons (o2 sAddA (kE (eC (.int 1))) (kE (o2 sMod (kE (o2 sDiv (kP 0) (kE (eC (.int 6))))) (kE (eC (.int 24)))))) esNil))) esNil))))))
def m_law_box_t2 : Sm := sSeq (m_law_box_s2) (m_law_box_t3)
def m_law_box_s1 : Sm := (sSet (.one 2) (eLst (esCons (eTup (esCons (eC (.str "face")) (esCons (o2 sAddA (kE (eC (.int 1))) (kE (o2 sMod (kE (o2 sDiv (kP 0) (kE (eC (.int 6))))) (kE (eC (.int 6)))))) esNil))) (esCons (eTup (esCons (eC (.str "all")) esNil)) (esCons (eTup (esCons (eC (.str "alike")) (esCons (o2 sAddA (kE (eC (.int 2))) (kE (o2 sMod (kE (o2 sDiv (kP 0) (kE (eC (.int 6))))) (kE (eC (.int 3)))))) (esCons (o2 sAddA (kE (eC (.int 1))) (kE (o2 sMod (kE (o2 sDiv (kP 0) (kE (eC (.int 64))))) (kE (eC (.int 50)))))) esNil)))) esNil)))))
def m_law_box_t1 : Sm := sSeq (m_law_box_s1) (m_law_box_t2)
def m_law_box_s0 : Sm := (sSet (.one 1) (o2 sMod (kP 0) (kE (eC (.int 6)))))
def m_law_box_t0 : Sm := sSeq (m_law_box_s0) (m_law_box_t1)
def m_law_box : Sm := m_law_box_t0
def f_law_box : List D → Option D := mkF 1 3 (m_law_box)
/-! law_drawn -/
abbrev N_law_drawn : List Str := ["_law_number", "_law_k", "_law_drawn_here"]
def m_law_drawn_t1 : Sm := (sRet (o2 sMod (kE (o2 sAddA (kE (o2 sAddA (kE (o2 sMulA (kP 2) (kP 2))) (kE (o2 sMulA (kE (eC (.int 3))) (kP 2))))) (kP 1))) (kE (eC (.int 2147483629)))))
def m_law_drawn_s0 : Sm := (sSet (.one 2) (o2 sMod (kE (o2 sMulA (kE (o2 sAddA (kE (o2 sAddA (kP 0) (kE (o2 sMulA (kE (eC (.int 104729))) (kP 1))))) (kE (eC (.int 17))))) (kE (eC (.int 69621))))) (kE (eC (.int 2147483647)))))
def m_law_drawn_t0 : Sm := sSeq (m_law_drawn_s0) (m_law_drawn_t1)
def m_law_drawn : Sm := m_law_drawn_t0
def f_law_drawn : List D → Option D := mkF 2 3 (m_law_drawn)
/-! law_game -/
abbrev N_law_game : List Str := ["_law_number", "_law_great", "_law_many", "_law_sides", "_law_throws", "_law_boxes", "_law_k"]
def m_law_game_t6 : Sm := (sRet (eTup (esCons (eV 2) (esCons (eV 3) (esCons (eV 4) (esCons (eV 5) esNil))))))
def m_law_game_s5 : Sm := (sIf (eOr (eAnd (o2 sEq (kP 2) (kE (eC (.int 3)))) (o2 sEq (kP 3) (kE (eC (.int 4))))) (eAnd (o2 sEq (kE (o1 sLenA (kP 5))) (kE (eC (.int 3)))) (o2 sGt (kE (o2 sMulA (kE (o2 sMulA (kP 2) (kP 3))) (kP 4))) (kE (eC (.int 12)))))) (sRet (eTup (esCons (eC (.int 2)) (esCons (o2 sMin2 (kP 3) (kE (eC (.int 3)))) (esCons (o2 sMin2 (kP 4) (kE (eC (.int 2)))) (esCons (eV 5) esNil)))))) sNil)
def m_law_game_t5 : Sm := sSeq (m_law_game_s5) (m_law_game_t6)
def m_law_game_s4 : Sm := (sIf (o2 sEq (kP 1) (kE (eC (.int 1)))) (sRet (eTup (esCons (o2 sAddA (kE (eC (.int 1))) (kE (o2 sMod (kE (o2 sDiv (kP 0) (kE (eC (.int 256))))) (kE (eC (.int 4)))))) (esCons (o2 sAddA (kE (eC (.int 2))) (kE (o2 sMod (kE (o2 sDiv (kP 0) (kE (eC (.int 1024))))) (kE (eC (.int 5)))))) (esCons (eV 4) (esCons (eV 5) esNil)))))) sNil)
def m_law_game_t4 : Sm := sSeq (m_law_game_s4) (m_law_game_t5)
def m_law_game_s3 : Sm := (sSet (.one 5) (o1 sTuple (kE (eComp (iR1 (o2 sIxA (kE (eTup (esCons (eC (.int 1)) (esCons (eC (.int 2)) (esCons (eC (.int 2)) (esCons (eC (.int 3)) esNil)))))) (kE (o2 sMod (kE (o2 sDiv (kP 0) (kE (eC (.int 64))))) (kE (eC (.int 4))))))) (.one 6) eTrue (eCall f_law_box (esCons (o2 sDiv (kE (eCall f_law_drawn (esCons (eV 0) (esCons (eV 6) esNil)))) (kE (eC (.int 4)))) esNil)) [6]))))
def m_law_game_t3 : Sm := sSeq (m_law_game_s3) (m_law_game_t4)
def m_law_game_s2 : Sm := (sSet (.one 4) (o2 sIxA (kE (eTup (esCons (eC (.int 1)) (esCons (eC (.int 2)) (esCons (eC (.int 3)) (esCons (eC (.int 2)) esNil)))))) (kE (o2 sMod (kE (o2 sDiv (kP 0) (kE (eC (.int 16))))) (kE (eC (.int 4)))))))
def m_law_game_t2 : Sm := sSeq (m_law_game_s2) (m_law_game_t3)
def m_law_game_s1 : Sm := (sSet (.one 3) (o2 sIxA (kE (eTup (esCons (eC (.int 2)) (esCons (eC (.int 3)) (esCons (eC (.int 4)) (esCons (eC (.int 2)) esNil)))))) (kE (o2 sMod (kE (o2 sDiv (kP 0) (kE (eC (.int 4))))) (kE (eC (.int 4)))))))
def m_law_game_t1 : Sm := sSeq (m_law_game_s1) (m_law_game_t2)
def m_law_game_s0 : Sm := (sSet (.one 2) (o2 sIxA (kE (eTup (esCons (eC (.int 2)) (esCons (eC (.int 1)) (esCons (eC (.int 3)) (esCons (eC (.int 2)) esNil)))))) (kE (o2 sMod (kP 0) (kE (eC (.int 4)))))))
def m_law_game_t0 : Sm := sSeq (m_law_game_s0) (m_law_game_t1)
def m_law_game : Sm := m_law_game_t0
def f_law_game : List D → Option D := mkF 2 7 (m_law_game)
/-! law_little -/
abbrev N_law_little : List Str := ["_law_number", "_law_game_here"]
def m_law_little_t1 : Sm := (sRet (eTup (esCons (o2 sMin2 (kE (o2 sIxA (kP 1) (kE (eC (.int 0))))) (kE (eC (.int 2)))) (esCons (o2 sMin2 (kE (o2 sIxA (kP 1) (kE (eC (.int 1))))) (kE (eC (.int 3)))) (esCons (o2 sMin2 (kE (o2 sIxA (kP 1) (kE (eC (.int 2))))) (kE (eC (.int 2)))) (esCons (o3 sCutA (kE (o2 sIxA (kP 1) (kE (eC (.int 3))))) (kE (eC .none)) (kE (eC (.int 2)))) esNil))))))
def m_law_little_s0 : Sm := (sSet (.one 1) (eCall f_law_game (esCons (eV 0) (esCons (eC (.int 0)) esNil))))
def m_law_little_t0 : Sm := sSeq (m_law_little_s0) (m_law_little_t1)
def m_law_little : Sm := m_law_little_t0
def f_law_little : List D → Option D := mkF 1 2 (m_law_little)
/-! law_plain -/
abbrev N_law_plain : List Str := ["_law_upper", "_law_lower", "_law_one", "_law_other"]
def m_law_plain_t3 : Sm := (sRet (eTup (esCons (o2 sDiv (kP 0) (kP 3)) (esCons (o2 sDiv (kP 1) (kP 3)) esNil))))
def m_law_plain_s2 : Sm := (sWh (muI 2) (o2 sGt (kP 2) (kE (eC (.int 0))))
    (sPar 2 3 (o2 sMod (kP 3) (kP 2)) (eV 2)))
def m_law_plain_t2 : Sm := sSeq (m_law_plain_s2) (m_law_plain_t3)
def m_law_plain_s1 : Sm := (sSet (.one 3) (eV 1))
def m_law_plain_t1 : Sm := sSeq (m_law_plain_s1) (m_law_plain_t2)
def m_law_plain_s0 : Sm := (sSet (.one 2) (o1 sAbs (kP 0)))
def m_law_plain_t0 : Sm := sSeq (m_law_plain_s0) (m_law_plain_t1)
def m_law_plain : Sm := m_law_plain_t0
def f_law_plain : List D → Option D := mkF 2 4 (m_law_plain)
/-! law_sum -/
abbrev N_law_sum : List Str := ["_law_pairs", "_law_upper", "_law_lower", "_law_share", "_law_value"]
def m_law_sum_t3 : Sm := (sRet (eTup (esCons (eV 1) (esCons (eV 2) esNil))))
def m_law_sum_s2 : Sm := (sFor (.many [3, 4]) (iSeqA (eV 0))
    (sSeq (sSet (.one 1) (o2 sAddA (kE (o2 sMulA (kE (o2 sMulA (kP 1) (kE (o2 sIxA (kP 3) (kE (eC (.int 1))))))) (kE (o2 sIxA (kP 4) (kE (eC (.int 1))))))) (kE (o2 sMulA (kE (o2 sMulA (kE (o2 sIxA (kP 3) (kE (eC (.int 0))))) (kE (o2 sIxA (kP 4) (kE (eC (.int 0))))))) (kP 2)))))
  (sSeq (sSet (.one 2) (o2 sMulA (kE (o2 sMulA (kP 2) (kE (o2 sIxA (kP 3) (kE (eC (.int 1))))))) (kE (o2 sIxA (kP 4) (kE (eC (.int 1)))))))
  (sSet (.many [1, 2]) (eCall f_law_plain (esCons (eV 1) (esCons (eV 2) esNil)))))))
def m_law_sum_t2 : Sm := sSeq (m_law_sum_s2) (m_law_sum_t3)
def m_law_sum_s1 : Sm := (sSet (.one 2) (eC (.int 1)))
def m_law_sum_t1 : Sm := sSeq (m_law_sum_s1) (m_law_sum_t2)
def m_law_sum_s0 : Sm := (sSet (.one 1) (eC (.int 0)))
def m_law_sum_t0 : Sm := sSeq (m_law_sum_s0) (m_law_sum_t1)
def m_law_sum : Sm := m_law_sum_t0
def f_law_sum : List D → Option D := mkF 1 5 (m_law_sum)
/-! counted -/
abbrev N_counted : List Str := ["many", "sides", "found", "whole", "k", "more", "dice", "die", "new"]
def m_counted_t3 : Sm := (sRet (eTup (esCons (eV 2) (esCons (eV 3) esNil))))
def m_counted_s2 : Sm := (sFor (.one 4) (iR1 (eV 0))
    (sSeq (sOwn 5 eDnil)
  (sSeq (sFor (.one 6) (iSeqA (eV 2))
    (sFor (.one 7) (iR2 (eC (.int 1)) (o2 sAddA (kP 1) (kE (eC (.int 1)))))
    (sSeq (sSet (.one 8) (o1 sTuple (kE (o1 sSorted (kE (o2 sAddA (kP 6) (kE (eTup (esCons (eV 7) esNil)))))))))
  (sPut 5 (eV 8) (o2 sAddA (kE (eM mGet2 (kP 5) (esCons (eV 8) (esCons (eC (.int 0)) esNil)))) (kE (o2 sIxA (kP 2) (kP 6))))))))
  (sSeq (sSet (.one 2) (eV 5))
  (sSet (.one 3) (o2 sMulA (kP 3) (kP 1)))))))
def m_counted_t2 : Sm := sSeq (m_counted_s2) (m_counted_t3)
def m_counted_s1 : Sm := (sSet (.one 3) (eC (.int 1)))
def m_counted_t1 : Sm := sSeq (m_counted_s1) (m_counted_t2)
def m_counted_s0 : Sm := (sSet (.one 2) (eD1 (eTup esNil) (eC (.int 1))))
def m_counted_t0 : Sm := sSeq (m_counted_s0) (m_counted_t1)
def m_counted : Sm := m_counted_t0
def f_counted : List D → Option D := mkF 2 9 (m_counted)
/-! plain -/
abbrev N_plain : List Str := ["upper", "lower", "one", "other"]
def m_plain_t3 : Sm := (sRet (eTup (esCons (o2 sDiv (kP 0) (kP 3)) (esCons (o2 sDiv (kP 1) (kP 3)) esNil))))
def m_plain_s2 : Sm := (sWh (muI 2) (o2 sGt (kP 2) (kE (eC (.int 0))))
    (sPar 2 3 (o2 sMod (kP 3) (kP 2)) (eV 2)))
def m_plain_t2 : Sm := sSeq (m_plain_s2) (m_plain_t3)
def m_plain_s1 : Sm := (sSet (.one 3) (eV 1))
def m_plain_t1 : Sm := sSeq (m_plain_s1) (m_plain_t2)
def m_plain_s0 : Sm := (sSet (.one 2) (o1 sAbs (kP 0)))
def m_plain_t0 : Sm := sSeq (m_plain_s0) (m_plain_t1)
def m_plain : Sm := m_plain_t0
def f_plain : List D → Option D := mkF 2 4 (m_plain)
/-! throws_of -/
abbrev N_throws_of : List Str := ["many", "sides", "found", "whole", "dice"]
def m_throws_of_t1 : Sm := (sRet (o1 sTuple (kE (eComp (iSeqA (o1 sSorted (kP 2))) (.one 4) eTrue (eTup (esCons (eV 4) (esCons (eCall f_plain (esCons (o2 sIxA (kP 2) (kP 4)) (esCons (eV 3) esNil))) esNil))) [4]))))
def m_throws_of_s0 : Sm := (sSet (.many [2, 3]) (eCall f_counted (esCons (eV 0) (esCons (eV 1) esNil))))
def m_throws_of_t0 : Sm := sSeq (m_throws_of_s0) (m_throws_of_t1)
def m_throws_of : Sm := m_throws_of_t0
def f_throws_of : List D → Option D := mkF 2 5 (m_throws_of)
/-! after -/
abbrev N_after : List Str := ["game", "kept", "found", "dice", "share"]
def m_after_t1 : Sm := (sRet (o1 sTuple (kE (o1 sSorted (kP 2)))))
def m_after_s0 : Sm := (sOwn 2 (eComp (iSeqA (eCall f_throws_of (esCons (o2 sSub (kE (o2 sIxA (kP 0) (kE (eC (.int 0))))) (kE (o1 sLenA (kP 1)))) (esCons (o2 sIxA (kP 0) (kE (eC (.int 1)))) esNil)))) (.many [3, 4]) eTrue (eTup (esCons (o1 sTuple (kE (o1 sSorted (kE (o2 sAddA (kP 1) (kP 3)))))) (esCons (eV 4) esNil))) [3, 4]))
def m_after_t0 : Sm := sSeq (m_after_s0) (m_after_t1)
def m_after : Sm := m_after_t0
def f_after : List D → Option D := mkF 2 5 (m_after)
/-! begins -/
abbrev N_begins : List Str := ["game", "boxes", "dice", "share"]
def m_begins_t1 : Sm := (sRet (o1 sTuple (kE (eComp (iSeqA (eCall f_throws_of (esCons (o2 sIxA (kP 0) (kE (eC (.int 0)))) (esCons (o2 sIxA (kP 0) (kE (eC (.int 1)))) esNil)))) (.many [2, 3]) eTrue (eTup (esCons (eTup (esCons (eV 1) (esCons (o2 sSub (kE (o2 sIxA (kP 0) (kE (eC (.int 2))))) (kE (eC (.int 1)))) (esCons (eV 2) esNil)))) (esCons (eV 3) esNil))) [2, 3]))))
def m_begins_s0 : Sm := (sIf (o2 sEq (kE (o1 sLenA (kP 1))) (kE (eC (.int 0)))) (sRet (eTup esNil)) sNil)
def m_begins_t0 : Sm := sSeq (m_begins_s0) (m_begins_t1)
def m_begins : Sm := m_begins_t0
def f_begins : List D → Option D := mkF 2 4 (m_begins)
/-! has_run -/
abbrev N_has_run : List Str := ["dice", "many", "first", "k"]
def m_has_run : Sm := (sRet (o1 sAny (kE (eComp (iSeqA (eV 0)) (.one 2) eTrue (o1 sAll (kE (eComp (iR1 (eV 1)) (.one 3) eTrue (o2 sInA (kE (o2 sAddA (kP 2) (kP 3))) (kP 0)) [3]))) [2]))))
def f_has_run : List D → Option D := mkF 2 4 (m_has_run)
/-! points -/
abbrev N_points : List Str := ["box", "dice", "word", "die"]
def m_points_t6 : Sm := (sRet (o2 sMulA (kE (o2 sIxA (kP 0) (kE (eC (.int 1))))) (kE (o1 sInt (kE (o1 sAll (kE (eComp (iSeqA (eV 1)) (.one 3) eTrue (o2 sEq (kE (o2 sMod (kP 3) (kE (eC (.int 2))))) (kE (eC (.int 0)))) [3]))))))))
def m_points_s5 : Sm := (sIf (o2 sEq (kP 2) (kE (eC (.str "under")))) (sRet (o2 sMulA (kE (o1 sSum (kP 1))) (kE (o1 sInt (kE (o2 sLe (kE (o1 sSum (kP 1))) (kE (o2 sIxA (kP 0) (kE (eC (.int 1))))))))))) sNil)
def m_points_t5 : Sm := sSeq (m_points_s5) (m_points_t6)
def m_points_s4 : Sm := (sIf (o2 sEq (kP 2) (kE (eC (.str "run")))) (sRet (o2 sMulA (kE (o2 sIxA (kP 0) (kE (eC (.int 2))))) (kE (o1 sInt (kE (eCall f_has_run (esCons (eV 1) (esCons (o2 sIxA (kP 0) (kE (eC (.int 1)))) esNil)))))))) sNil)
def m_points_t4 : Sm := sSeq (m_points_s4) (m_points_t5)
def m_points_s3 : Sm := (sIf (o2 sEq (kP 2) (kE (eC (.str "alike")))) (sRet (o2 sMulA (kE (o2 sIxA (kP 0) (kE (eC (.int 2))))) (kE (o1 sInt (kE (o1 sAny (kE (eComp (iSeqA (eV 1)) (.one 3) eTrue (o2 sGe (kE (eM mCountA (kP 1) (esCons (eV 3) esNil))) (kE (o2 sIxA (kP 0) (kE (eC (.int 1)))))) [3])))))))) sNil)
def m_points_t3 : Sm := sSeq (m_points_s3) (m_points_t4)
def m_points_s2 : Sm := (sIf (o2 sEq (kP 2) (kE (eC (.str "all")))) (sRet (o1 sSum (kP 1))) sNil)
def m_points_t2 : Sm := sSeq (m_points_s2) (m_points_t3)
def m_points_s1 : Sm := (sIf (o2 sEq (kP 2) (kE (eC (.str "face")))) (sRet (o2 sMulA (kE (o2 sIxA (kP 0) (kE (eC (.int 1))))) (kE (eM mCountA (kP 1) (esCons (o2 sIxA (kP 0) (kE (eC (.int 1)))) esNil))))) sNil)
def m_points_t1 : Sm := sSeq (m_points_s1) (m_points_t2)
def m_points_s0 : Sm := (sSet (.one 2) (o2 sIxA (kP 0) (kE (eC (.int 0)))))
def m_points_t0 : Sm := sSeq (m_points_s0) (m_points_t1)
def m_points : Sm := m_points_t0
def f_points : List D → Option D := mkF 2 4 (m_points)
/-! comes -/
abbrev N_comes : List Str := ["game", "stand", "move", "boxes", "left", "dice", "rest", "new", "share", "k"]
def m_comes_t3 : Sm := (sRet (eTup (esCons (eCall f_points (esCons (o2 sIxA (kE (o2 sIxA (kP 0) (kE (eC (.int 3))))) (kE (o2 sIxA (kP 2) (kE (eC (.int 1)))))) (esCons (eV 5) esNil))) (esCons (eCall f_begins (esCons (eV 0) (esCons (eV 6) esNil))) esNil))))
def m_comes_s2 : Sm := (sSet (.one 6) (o1 sTuple (kE (eComp (iSeqA (eV 3)) (.one 9) (o2 sNe (kP 9) (kE (o2 sIxA (kP 2) (kE (eC (.int 1)))))) (eV 9) [9]))))
def m_comes_t2 : Sm := sSeq (m_comes_s2) (m_comes_t3)
def m_comes_s1 : Sm := (sIf (o2 sEq (kE (o2 sIxA (kP 2) (kE (eC (.int 0))))) (kE (eC (.str "keep")))) (sRet (eTup (esCons (eC (.int 0)) (esCons (o1 sTuple (kE (eComp (iSeqA (eCall f_after (esCons (eV 0) (esCons (o2 sIxA (kP 2) (kE (eC (.int 1)))) esNil)))) (.many [7, 8]) eTrue (eTup (esCons (eTup (esCons (eV 3) (esCons (o2 sSub (kP 4) (kE (eC (.int 1)))) (esCons (eV 7) esNil)))) (esCons (eV 8) esNil))) [7, 8]))) esNil)))) sNil)
def m_comes_t1 : Sm := sSeq (m_comes_s1) (m_comes_t2)
def m_comes_s0 : Sm := (sSet (.many [3, 4, 5]) (eV 1))
def m_comes_t0 : Sm := sSeq (m_comes_s0) (m_comes_t1)
def m_comes : Sm := m_comes_t0
def f_comes : List D → Option D := mkF 3 10 (m_comes)
/-! Chances_init -/
abbrev N_Chances_init : List Str := ["self", "game"]
def m_Chances_init_t1 : Sm := (sFldO 0 "known" eDnil)
def m_Chances_init_s0 : Sm := (sFld 0 "game" (eV 1))
def m_Chances_init_t0 : Sm := sSeq (m_Chances_init_s0) (m_Chances_init_t1)
def m_Chances_init : Sm := m_Chances_init_t0
def f_Chances_init : O → List D → Option (D × O) := mkB 2 2 0 (m_Chances_init)
/-! times -/
abbrev N_times : List Str := ["one", "other"]
def m_times : Sm := (sRet (eCall f_plain (esCons (o2 sMulA (kE (o2 sIxA (kP 0) (kE (eC (.int 0))))) (kE (o2 sIxA (kP 1) (kE (eC (.int 0)))))) (esCons (o2 sMulA (kE (o2 sIxA (kP 0) (kE (eC (.int 1))))) (kE (o2 sIxA (kP 1) (kE (eC (.int 1)))))) esNil))))
def f_times : List D → Option D := mkF 2 2 (m_times)
/-! total -/
abbrev N_total : List Str := ["some", "upper", "lower", "part"]
def m_total_t3 : Sm := (sRet (eTup (esCons (eV 1) (esCons (eV 2) esNil))))
def m_total_s2 : Sm := (sFor (.one 3) (iSeqA (eV 0))
    (sSeq (sSet (.one 1) (o2 sAddA (kE (o2 sMulA (kP 1) (kE (o2 sIxA (kP 3) (kE (eC (.int 1))))))) (kE (o2 sMulA (kE (o2 sIxA (kP 3) (kE (eC (.int 0))))) (kP 2)))))
  (sSeq (sSet (.one 2) (o2 sMulA (kP 2) (kE (o2 sIxA (kP 3) (kE (eC (.int 1)))))))
  (sSet (.many [1, 2]) (eCall f_plain (esCons (eV 1) (esCons (eV 2) esNil)))))))
def m_total_t2 : Sm := sSeq (m_total_s2) (m_total_t3)
def m_total_s1 : Sm := (sSet (.one 2) (eC (.int 1)))
def m_total_t1 : Sm := sSeq (m_total_s1) (m_total_t2)
def m_total_s0 : Sm := (sSet (.one 1) (eC (.int 0)))
def m_total_t0 : Sm := sSeq (m_total_s0) (m_total_t1)
def m_total : Sm := m_total_t0
def f_total : List D → Option D := mkF 1 4 (m_total)
/-! is_less -/
abbrev N_is_less : List Str := ["one", "other"]
def m_is_less : Sm := (sRet (o2 sLt (kE (o2 sMulA (kE (o2 sIxA (kP 0) (kE (eC (.int 0))))) (kE (o2 sIxA (kP 1) (kE (eC (.int 1))))))) (kE (o2 sMulA (kE (o2 sIxA (kP 1) (kE (eC (.int 0))))) (kE (o2 sIxA (kP 0) (kE (eC (.int 1)))))))))
def f_is_less : List D → Option D := mkF 2 2 (m_is_less)
/-! keeps -/
abbrev N_keeps : List Str := ["dice", "found", "die", "some"]
def m_keeps_t2 : Sm := (sRet (o1 sTuple (kE (o1 sSorted (kP 1)))))
def m_keeps_s1 : Sm := (sFor (.one 2) (iSeqA (eV 0))
    (sFor (.one 3) (iSeqA (o1 sListA (kP 1)))
    (sPut 1 (o2 sAddA (kP 3) (kE (eTup (esCons (eV 2) esNil)))) (eC (.bool true)))))
def m_keeps_t1 : Sm := sSeq (m_keeps_s1) (m_keeps_t2)
def m_keeps_s0 : Sm := (sOwn 1 (eD1 (eTup esNil) (eC (.bool true))))
def m_keeps_t0 : Sm := sSeq (m_keeps_s0) (m_keeps_t1)
def m_keeps : Sm := m_keeps_t0
def f_keeps : List D → Option D := mkF 1 4 (m_keeps)
/-! moves -/
abbrev N_moves : List Str := ["game", "stand", "boxes", "left", "dice", "found", "k", "kept"]
def m_moves_t3 : Sm := (sRet (o1 sTuple (kP 5)))
def m_moves_s2 : Sm := (sIf (o2 sGt (kP 3) (kE (eC (.int 0)))) (sExt 5 (eComp (iSeqA (eCall f_keeps (esCons (eV 4) esNil))) (.one 7) eTrue (eTup (esCons (eC (.str "keep")) (esCons (eV 7) esNil))) [7])) sNil)
def m_moves_t2 : Sm := sSeq (m_moves_s2) (m_moves_t3)
def m_moves_s1 : Sm := (sOwn 5 (eComp (iSeqA (eV 2)) (.one 6) eTrue (eTup (esCons (eC (.str "fill")) (esCons (eV 6) esNil))) [6]))
def m_moves_t1 : Sm := sSeq (m_moves_s1) (m_moves_t2)
def m_moves_s0 : Sm := (sSet (.many [2, 3, 4]) (eV 1))
def m_moves_t0 : Sm := sSeq (m_moves_s0) (m_moves_t1)
def m_moves : Sm := m_moves_t0
def f_moves : List D → Option D := mkF 2 8 (m_moves)
/-! Chances_of_move -/
abbrev N_Chances_of_move : List Str := ["self", "need", "stand", "move", "had", "stands", "new", "share"]
def m_Chances_of_move_t2 (r : O → List D → Option (D × O)) : Sm := (sRet (eCall f_total (esCons (eComp (iSeqA (eV 5)) (.many [6, 7]) eTrue (eCall f_times (esCons (eV 7) (esCons (o2 sIxA (kE (eMeth 0 0 "known_of" r (esCons (o2 sSub (kP 1) (kP 4)) (esCons (eV 6) esNil)))) (kE (eC (.int 0)))) esNil))) [6, 7]) esNil)))
def m_Chances_of_move_s1 (r : O → List D → Option (D × O)) : Sm := (sIf (o2 sEq (kE (o1 sLenA (kP 5))) (kE (eC (.int 0)))) (sRet (eTup (esCons (o1 sInt (kE (o2 sGe (kP 4) (kP 1)))) (esCons (eC (.int 1)) esNil)))) sNil)
def m_Chances_of_move_t1 (r : O → List D → Option (D × O)) : Sm := sSeq (m_Chances_of_move_s1 r) (m_Chances_of_move_t2 r)
def m_Chances_of_move_s0 (r : O → List D → Option (D × O)) : Sm := (sSet (.many [4, 5]) (eCall f_comes (esCons (eQ (.f 0 "game")) (esCons (eV 2) (esCons (eV 3) esNil)))))
def m_Chances_of_move_t0 (r : O → List D → Option (D × O)) : Sm := sSeq (m_Chances_of_move_s0 r) (m_Chances_of_move_t1 r)
def m_Chances_of_move (r : O → List D → Option (D × O)) : Sm := m_Chances_of_move_t0 r
def f_Chances_of_move (r : O → List D → Option (D × O)) : O → List D → Option (D × O) := mkB 4 8 0 (m_Chances_of_move r)
/-! Chances_known_of -/
abbrev N_Chances_known_of : List Str := ["self", "need", "stand", "found", "move", "often"]
def m_Chances_known_of_t1 (r : O → List D → Option (D × O)) : Sm := (sRet (ixQ sIxA (.f 0 "known") (pTup (psCons (pQ (.s 1)) (psCons (pQ (.s 2)) psNil)))))
def m_Chances_known_of_s0 (r : O → List D → Option (D × O)) : Sm := (sIf (o2Q sNinA (eTup (esCons (eV 1) (esCons (eV 2) esNil))) (.f 0 "known")) (sSeq (sSet (.one 3) (eC .none))
  (sSeq (sFor (.one 4) (iSeqA (eCall f_moves (esCons (eQ (.f 0 "game")) (esCons (eV 2) esNil))))
    (sSeq (sSet (.one 5) (eMeth 0 0 "of_move" (f_Chances_of_move r) (esCons (eV 1) (esCons (eV 2) (esCons (eV 4) esNil)))))
  (sIf (eOr (o2 sIs (kP 3) (kE (eC .none))) (eCall f_is_less (esCons (o2 sIxA (kP 3) (kE (eC (.int 0)))) (esCons (eV 5) esNil)))) (sSet (.one 3) (eTup (esCons (eV 5) (esCons (eV 4) esNil)))) sNil)))
  (sPutQ (.f 0 "known") (pTup (psCons (pQ (.s 1)) (psCons (pQ (.s 2)) psNil))) (eV 3)))) sNil)
def m_Chances_known_of_t0 (r : O → List D → Option (D × O)) : Sm := sSeq (m_Chances_known_of_s0 r) (m_Chances_known_of_t1 r)
def m_Chances_known_of (r : O → List D → Option (D × O)) : Sm := m_Chances_known_of_t0 r
def f_Chances_known_of_step (r : O → List D → Option (D × O)) : O → List D → Option (D × O) := mkB 3 6 0 (m_Chances_known_of r)
def f_Chances_known_of : Nat → O → List D → Option (D × O)
  | 0 => fun _ _ => none
  | k + 1 => f_Chances_known_of_step (f_Chances_known_of k)
/-! goal_chance -/
abbrev N_goal_chance : List Str := ["game", "goal", "had", "stand"]
def m_goal_chance : Sm := (sRet (o2 sIxA (kE (eMethT (oMake 0 f_Chances_init (esCons (eV 0) esNil)) 0 "known_of" (f_Chances_known_of 16) (esCons (o2 sSub (kP 1) (kP 2)) (esCons (eV 3) esNil)))) (kE (eC (.int 0)))))
def f_goal_chance : List D → Option D := mkF 4 4 (m_goal_chance)
/-! law_made -/
abbrev N_law_made : List Str := ["_law_game_here", "_law_goal", "_law_had", "_law_stand_here", "_law_move", "_law_won", "_law_stands", "_law_one", "_law_share"]
def m_law_made_t2 : Sm := (sRet (eCall f_law_sum (esCons (eComp (iSeqA (eV 6)) (.many [7, 8]) eTrue (eTup (esCons (eV 8) (esCons (eCall f_goal_chance (esCons (eV 0) (esCons (eV 1) (esCons (o2 sAddA (kP 2) (kP 5)) (esCons (eV 7) esNil))))) esNil))) [7, 8]) esNil)))
def m_law_made_s1 : Sm := (sIf (o2 sEq (kP 6) (kE (eTup esNil))) (sRet (eTup (esCons (o1 sInt (kE (o2 sGe (kE (o2 sAddA (kP 2) (kP 5))) (kP 1)))) (esCons (eC (.int 1)) esNil)))) sNil)
def m_law_made_t1 : Sm := sSeq (m_law_made_s1) (m_law_made_t2)
def m_law_made_s0 : Sm := (sSet (.many [5, 6]) (eCall f_comes (esCons (eV 0) (esCons (eV 3) (esCons (eV 4) esNil)))))
def m_law_made_t0 : Sm := sSeq (m_law_made_s0) (m_law_made_t1)
def m_law_made : Sm := m_law_made_t0
def f_law_made : List D → Option D := mkF 5 9 (m_law_made)
/-! law_cell_at -/
abbrev N_law_cell_at : List Str := ["_law_script", "_law_k"]
def m_law_cell_at_t1 : Sm := (sRet (eC (.int 0)))
def m_law_cell_at_s0 : Sm := (sIf (o2 sLt (kP 1) (kE (o1 sLenA (kP 0)))) (sRet (o2 sIxA (kP 0) (kP 1))) sNil)
def m_law_cell_at_t0 : Sm := sSeq (m_law_cell_at_s0) (m_law_cell_at_t1)
def m_law_cell_at : Sm := m_law_cell_at_t0
def f_law_cell_at : List D → Option D := mkF 2 2 (m_law_cell_at)
/-! law_mixed -/
abbrev N_law_mixed : List Str := ["_law_script", "_law_k", "_law_drawn_here"]
def m_law_mixed_t1 : Sm := (sRet (o2 sMod (kE (o2 sAddA (kE (o2 sAddA (kE (o2 sMulA (kP 2) (kP 2))) (kE (o2 sMulA (kE (eC (.int 7))) (kP 2))))) (kP 1))) (kE (eC (.int 2147483629)))))
def m_law_mixed_s0 : Sm := (sSet (.one 2) (o2 sMod (kE (o2 sMulA (kE (o2 sAddA (kE (o2 sAddA (kE (eCall f_law_cell_at (esCons (eV 0) (esCons (eV 1) esNil)))) (kE (o2 sMulA (kE (eC (.int 7919))) (kP 1))))) (kE (eC (.int 1))))) (kE (eC (.int 48271))))) (kE (eC (.int 2147483647)))))
def m_law_mixed_t0 : Sm := sSeq (m_law_mixed_s0) (m_law_mixed_t1)
def m_law_mixed : Sm := m_law_mixed_t0
def f_law_mixed : List D → Option D := mkF 2 3 (m_law_mixed)
/-! law_dice -/
abbrev N_law_dice : List Str := ["_law_game_here", "_law_number", "_law_k"]
def m_law_dice : Sm := (sRet (o1 sTuple (kE (o1 sSorted (kE (eComp (iR1 (o2 sIxA (kP 0) (kE (eC (.int 0))))) (.one 2) eTrue (o2 sAddA (kE (eC (.int 1))) (kE (o2 sMod (kE (o2 sDiv (kE (eCall f_law_drawn (esCons (eV 1) (esCons (o2 sAddA (kE (eC (.int 30))) (kP 2)) esNil)))) (kE (eC (.int 4))))) (kE (o2 sIxA (kP 0) (kE (eC (.int 1)))))))) [2]))))))
def f_law_dice : List D → Option D := mkF 2 3 (m_law_dice)
/-! law_stand -/
abbrev N_law_stand : List Str := ["_law_game_here", "_law_number", "_law_boxes", "_law_k"]
def m_law_stand_t2 : Sm := (sRet (eTup (esCons (o1 sTuple (kP 2)) (esCons (o2 sMod (kE (o2 sDiv (kP 1) (kE (eC (.int 64))))) (kE (o2 sIxA (kP 0) (kE (eC (.int 2)))))) (esCons (eCall f_law_dice (esCons (eV 0) (esCons (eV 1) esNil))) esNil)))))
def m_law_stand_s1 : Sm := (sIf (o2 sEq (kP 2) (kE (eLst esNil))) (sSet (.one 2) (eLst (esCons (o2 sMod (kE (o2 sDiv (kP 1) (kE (eC (.int 16))))) (kE (o1 sLenA (kE (o2 sIxA (kP 0) (kE (eC (.int 3)))))))) esNil))) sNil)
def m_law_stand_t1 : Sm := sSeq (m_law_stand_s1) (m_law_stand_t2)
def m_law_stand_s0 : Sm := (sOwn 2 (eComp (iR1 (o1 sLenA (kE (o2 sIxA (kP 0) (kE (eC (.int 3))))))) (.one 3) (o2 sEq (kE (o2 sMod (kE (o2 sDiv (kP 1) (kE (o2 sIxA (kE (eTup (esCons (eC (.int 1)) (esCons (eC (.int 2)) (esCons (eC (.int 4)) (esCons (eC (.int 8)) esNil)))))) (kP 3))))) (kE (eC (.int 2))))) (kE (eC (.int 1)))) (eV 3) [3]))
def m_law_stand_t0 : Sm := sSeq (m_law_stand_s0) (m_law_stand_t1)
def m_law_stand : Sm := m_law_stand_t0
def f_law_stand : List D → Option D := mkF 2 4 (m_law_stand)
/-! goal_move -/
abbrev N_goal_move : List Str := ["game", "goal", "had", "stand"]
def m_goal_move : Sm := (sRet (o2 sIxA (kE (eMethT (oMake 0 f_Chances_init (esCons (eV 0) esNil)) 0 "known_of" (f_Chances_known_of 16) (esCons (o2 sSub (kP 1) (kP 2)) (esCons (eV 3) esNil)))) (kE (eC (.int 1)))))
def f_goal_move : List D → Option D := mkF 4 4 (m_goal_move)
/-! law -/
abbrev N_law : List Str := ["_law_script", "_law_game_here", "_law_number", "_law_stand_here", "_law_goal", "_law_had", "_law_due", "_law_values", "_law_move", "_law_value"]
def m_law_t11 : Sm := (sRet (o2 sEq (kE (eCall f_goal_chance (esCons (eV 1) (esCons (eV 5) (esCons (eV 5) (esCons (eV 3) esNil)))))) (kE (eTup (esCons (eC (.int 1)) (esCons (eC (.int 1)) esNil))))))
def m_law_s10 : Sm := (sIf (eCall f_law_above (esCons (eV 6) (esCons (eCall f_goal_chance (esCons (eV 1) (esCons (eV 4) (esCons (o2 sAddA (kP 5) (kE (eC (.int 1)))) (esCons (eV 3) esNil))))) esNil))) (sRet (eC (.bool false))) sNil)
def m_law_t10 : Sm := sSeq (m_law_s10) (m_law_t11)
def m_law_s9 : Sm := (sIf (eOr (o2 sNe (kE (eCall f_goal_chance (esCons (eV 1) (esCons (o2 sSub (kP 4) (kP 5)) (esCons (eC (.int 0)) (esCons (eV 3) esNil)))))) (kP 6)) (o2 sNe (kE (eCall f_goal_chance (esCons (eV 1) (esCons (o2 sAddA (kP 4) (kE (eC (.int 9)))) (esCons (o2 sAddA (kP 5) (kE (eC (.int 9)))) (esCons (eV 3) esNil)))))) (kP 6))) (sRet (eC (.bool false))) sNil)
def m_law_t9 : Sm := sSeq (m_law_s9) (m_law_t10)
def m_law_s8 : Sm := (sIf (eOr (o2 sNinA (kP 8) (kE (eCall f_moves (esCons (eV 1) (esCons (eV 3) esNil))))) (o2 sNe (kE (eCall f_law_made (esCons (eV 1) (esCons (eV 4) (esCons (eV 5) (esCons (eV 3) (esCons (eV 8) esNil))))))) (kP 6))) (sRet (eC (.bool false))) sNil)
def m_law_t8 : Sm := sSeq (m_law_s8) (m_law_t9)
def m_law_s7 : Sm := (sSet (.one 8) (eCall f_goal_move (esCons (eV 1) (esCons (eV 4) (esCons (eV 5) (esCons (eV 3) esNil))))))
def m_law_t7 : Sm := sSeq (m_law_s7) (m_law_t8)
def m_law_s6 : Sm := (sIf (eOr (o2 sNinA (kP 6) (kP 7)) (o2 sNe (kE (eComp (iSeqA (eV 7)) (.one 9) (eCall f_law_above (esCons (eV 9) (esCons (eV 6) esNil))) (eV 9) [9])) (kE (eLst esNil)))) (sRet (eC (.bool false))) sNil)
def m_law_t6 : Sm := sSeq (m_law_s6) (m_law_t7)
def m_law_s5 : Sm := (sOwn 7 (eComp (iSeqA (eCall f_moves (esCons (eV 1) (esCons (eV 3) esNil)))) (.one 8) eTrue (eCall f_law_made (esCons (eV 1) (esCons (eV 4) (esCons (eV 5) (esCons (eV 3) (esCons (eV 8) esNil)))))) [8]))
def m_law_t5 : Sm := sSeq (m_law_s5) (m_law_t6)
def m_law_s4 : Sm := (sSet (.one 6) (eCall f_goal_chance (esCons (eV 1) (esCons (eV 4) (esCons (eV 5) (esCons (eV 3) esNil))))))
def m_law_t4 : Sm := sSeq (m_law_s4) (m_law_t5)
def m_law_s3 : Sm := (sSet (.many [4, 5]) (eTup (esCons (o2 sMod (kP 2) (kE (eC (.int 30)))) (esCons (o2 sMod (kE (o2 sDiv (kP 2) (kE (eC (.int 64))))) (kE (eC (.int 12)))) esNil))))
def m_law_t3 : Sm := sSeq (m_law_s3) (m_law_t4)
def m_law_s2 : Sm := (sSet (.one 3) (eCall f_law_stand (esCons (eV 1) (esCons (eCall f_law_mixed (esCons (eV 0) (esCons (eC (.int 2)) esNil))) esNil))))
def m_law_t2 : Sm := sSeq (m_law_s2) (m_law_t3)
def m_law_s1 : Sm := (sSet (.one 2) (eCall f_law_mixed (esCons (eV 0) (esCons (eC (.int 1)) esNil))))
def m_law_t1 : Sm := sSeq (m_law_s1) (m_law_t2)
def m_law_s0 : Sm := (sSet (.one 1) (eCall f_law_little (esCons (eCall f_law_mixed (esCons (eV 0) (esCons (eC (.int 0)) esNil))) esNil)))
def m_law_t0 : Sm := sSeq (m_law_s0) (m_law_t1)
def m_law : Sm := m_law_t0
def f_law : List D → Option D := mkF 1 10 (m_law)
end VL
set_option Elab.async false
set_option linter.all false
set_option maxRecDepth 100000
set_option maxHeartbeats 0
namespace VL
open PySem PySem.Spec PyProof.Rows L2
def top (i : Nat) : Stmt := PySem.Challenge.pw_diceboxes_k42_whole_goals_move_by_move.main.body.getD i s0
abbrev st_law_above : Stmt := top 30
abbrev st_law_box : Stmt := top 24
abbrev st_law_drawn : Stmt := top 23
abbrev st_law_game : Stmt := top 25
abbrev st_law_little : Stmt := top 31
abbrev st_law_plain : Stmt := top 28
abbrev st_law_sum : Stmt := top 29
abbrev st_counted : Stmt := top 8
abbrev st_plain : Stmt := top 1
abbrev st_throws_of : Stmt := top 9
abbrev st_after : Stmt := top 11
abbrev st_begins : Stmt := top 14
abbrev st_has_run : Stmt := top 6
abbrev st_points : Stmt := top 7
abbrev st_comes : Stmt := top 15
abbrev st_Chances_init : Stmt := atS (top 17) [0]
abbrev st_times : Stmt := top 2
abbrev st_total : Stmt := top 4
abbrev st_is_less : Stmt := top 3
abbrev st_keeps : Stmt := top 10
abbrev st_moves : Stmt := top 13
abbrev st_Chances_of_move : Stmt := atS (top 17) [1]
abbrev st_Chances_known_of : Stmt := atS (top 17) [2]
abbrev st_goal_chance : Stmt := top 18
abbrev st_law_made : Stmt := top 32
abbrev st_law_cell_at : Stmt := top 21
abbrev st_law_mixed : Stmt := top 22
abbrev st_law_dice : Stmt := top 26
abbrev st_law_stand : Stmt := top 27
abbrev st_goal_move : Stmt := top 19
abbrev st_law : Stmt := top 33
theorem sc_law_above : FnScope N_law_above ["_law_one", "_law_other"] (defScope st_law_above) := ⟨rfl, rfl, rfl, by decide +kernel, rfl, by decide +kernel, by decide +kernel⟩
theorem fp_law_above {c : Ct} {P : Program} {mg : Str → Option Value} {base : Heap} {k : Nat} {f : Addr} {fd : FuncData} (F : Fun c.K "_law_above" "_law_above" st_law_above f fd) (hm : mg "_law_above" = some (.ref f)) (hb : Binds c.K fd ["_law_one", "_law_other"] []) (hblt : ∀ y ∈ bltNames, mg y = none)    : FP c P mg base (k + 1) "_law_above" f_law_above := by
  refine fp_mk F sc_law_above hm hb hblt (m := (sRet (o2 sGt (kE (o2 sMulA (kE (o2 sIxA (kP 0) (kE (eC (.int 0))))) (kE (o2 sIxA (kP 1) (kE (eC (.int 1))))))) (kE (o2 sMulA (kE (o2 sIxA (kP 1) (kE (eC (.int 0))))) (kE (o2 sIxA (kP 0) (kE (eC (.int 1)))))))))) fun cdv A outer s H E C hr => ?_
  exact (cb_one (cs_ret (ce_cmp op_gtV (ce_bin (op_mulA2 C) (ce_ix (ix_A C) (nP 0) ce_int.ck (fun _ _ => rfl)).ck (ce_ix (ix_A C) (nP 1) ce_int.ck (fun _ _ => rfl)).ck).ck (ce_bin (op_mulA2 C) (ce_ix (ix_A C) (nP 1) ce_int.ck (fun _ _ => rfl)).ck (ce_ix (ix_A C) (nP 0) ce_int.ck (fun _ _ => rfl)).ck).ck (by rfl))))
theorem sc_law_box : FnScope N_law_box ["_law_number"] (defScope st_law_box) := ⟨rfl, rfl, rfl, by decide +kernel, rfl, by decide +kernel, by decide +kernel⟩
theorem fp_law_box {c : Ct} {P : Program} {mg : Str → Option Value} {base : Heap} {k : Nat} {f : Addr} {fd : FuncData} (F : Fun c.K "_law_box" "_law_box" st_law_box f fd) (hm : mg "_law_box" = some (.ref f)) (hb : Binds c.K fd ["_law_number"] []) (hblt : ∀ y ∈ bltNames, mg y = none)    : FP c P mg base (k + 1) "_law_box" f_law_box := by
  refine fp_mk F sc_law_box hm hb hblt (m := (sSeq (sSet (.one 1) (o2 sMod (kP 0) (kE (eC (.int 6)))))
  (sSeq (sSet (.one 2) (eLst (esCons (eTup (esCons (eC (.str "face")) (esCons (o2 sAddA (kE (eC (.int 1))) (kE (o2 sMod (kE (o2 sDiv (kP 0) (kE (eC (.int 6))))) (kE (eC (.int 6)))))) esNil))) (esCons (eTup (esCons (eC (.str "all")) esNil)) (esCons (eTup (esCons (eC (.str "alike")) (esCons (o2 sAddA (kE (eC (.int 2))) (kE (o2 sMod (kE (o2 sDiv (kP 0) (kE (eC (.int 6))))) (kE (eC (.int 3)))))) (esCons (o2 sAddA (kE (eC (.int 1))) (kE (o2 sMod (kE (o2 sDiv (kP 0) (kE (eC (.int 64))))) (kE (eC (.int 50)))))) esNil)))) esNil)))))
  (sSeq (sSet (.one 2) (o2 sAddA (kP 2) (kE (eLst (esCons (eTup (esCons (eC (.str "run")) (esCons (o2 sAddA (kE (eC (.int 2))) (kE (o2 sMod (kE (o2 sDiv (kP 0) (kE (eC (.int 6))))) (kE (eC (.int 3)))))) (esCons (o2 sAddA (kE (eC (.int 1))) (kE (o2 sMod (kE (o2 sDiv (kP 0) (kE (eC (.int 64))))) (kE (eC (.int 50)))))) esNil)))) (esCons (eTup (esCons (eC (.str "under")) (esCons (o2 sAddA (kE (eC (.int 1))) (kE (o2 sMod (kE (o2 sDiv (kP 0) (kE (eC (.int 6))))) (kE (eC (.int 24)))))) esNil))) esNil))))))
  (sRet (o2 sIxA (kE (o2 sAddA (kP 2) (kE (eLst (esCons (eTup (esCons (eC (.str "even")) (esCons (o2 sAddA (kE (eC (.int 1))) (kE (o2 sMod (kE (o2 sDiv (kP 0) (kE (eC (.int 6))))) (kE (eC (.int 50)))))) esNil))) esNil))))) (kP 1))))))) fun cdv A outer s H E C hr => ?_
  exact (cb_cons (sN C 1 (ce_bin op_modV (nP 0) ce_int.ck))
  (cb_cons (sN C 2 (cf_lst (ca_cons (ce_tup (ca_cons ce_str (ca_cons (ce_bin (op_addA C) ce_int.ck (ce_bin op_modV (ce_bin op_divV (nP 0) ce_int.ck).ck ce_int.ck).ck) ca_nil))) (ca_cons (ce_tup (ca_cons ce_str ca_nil)) (ca_cons (ce_tup (ca_cons ce_str (ca_cons (ce_bin (op_addA C) ce_int.ck (ce_bin op_modV (ce_bin op_divV (nP 0) ce_int.ck).ck ce_int.ck).ck) (ca_cons (ce_bin (op_addA C) ce_int.ck (ce_bin op_modV (ce_bin op_divV (nP 0) ce_int.ck).ck ce_int.ck).ck) ca_nil)))) ca_nil)))).ce)
  (cb_cons (sN C 2 (ce_bin (op_addA C) (nP 2) (cf_lst (ca_cons (ce_tup (ca_cons ce_str (ca_cons (ce_bin (op_addA C) ce_int.ck (ce_bin op_modV (ce_bin op_divV (nP 0) ce_int.ck).ck ce_int.ck).ck) (ca_cons (ce_bin (op_addA C) ce_int.ck (ce_bin op_modV (ce_bin op_divV (nP 0) ce_int.ck).ck ce_int.ck).ck) ca_nil)))) (ca_cons (ce_tup (ca_cons ce_str (ca_cons (ce_bin (op_addA C) ce_int.ck (ce_bin op_modV (ce_bin op_divV (nP 0) ce_int.ck).ck ce_int.ck).ck) ca_nil))) ca_nil))).ce.ck))
  (cb_one (cs_ret (ce_ix (ix_A C) (ce_bin (op_addA C) (nP 2) (cf_lst (ca_cons (ce_tup (ca_cons ce_str (ca_cons (ce_bin (op_addA C) ce_int.ck (ce_bin op_modV (ce_bin op_divV (nP 0) ce_int.ck).ck ce_int.ck).ck) ca_nil))) ca_nil)).ce.ck).ck (nP 1) (fun _ _ => rfl)))))))
theorem sc_law_drawn : FnScope N_law_drawn ["_law_number", "_law_k"] (defScope st_law_drawn) := ⟨rfl, rfl, rfl, by decide +kernel, rfl, by decide +kernel, by decide +kernel⟩
theorem fp_law_drawn {c : Ct} {P : Program} {mg : Str → Option Value} {base : Heap} {k : Nat} {f : Addr} {fd : FuncData} (F : Fun c.K "_law_drawn" "_law_drawn" st_law_drawn f fd) (hm : mg "_law_drawn" = some (.ref f)) (hb : Binds c.K fd ["_law_number", "_law_k"] []) (hblt : ∀ y ∈ bltNames, mg y = none)    : FP c P mg base (k + 1) "_law_drawn" f_law_drawn := by
  refine fp_mk F sc_law_drawn hm hb hblt (m := (sSeq (sSet (.one 2) (o2 sMod (kE (o2 sMulA (kE (o2 sAddA (kE (o2 sAddA (kP 0) (kE (o2 sMulA (kE (eC (.int 104729))) (kP 1))))) (kE (eC (.int 17))))) (kE (eC (.int 69621))))) (kE (eC (.int 2147483647)))))
  (sRet (o2 sMod (kE (o2 sAddA (kE (o2 sAddA (kE (o2 sMulA (kP 2) (kP 2))) (kE (o2 sMulA (kE (eC (.int 3))) (kP 2))))) (kP 1))) (kE (eC (.int 2147483629))))))) fun cdv A outer s H E C hr => ?_
  exact (cb_cons (sN C 2 (ce_bin op_modV (ce_bin (op_mulA2 C) (ce_bin (op_addA C) (ce_bin (op_addA C) (nP 0) (ce_bin (op_mulA2 C) ce_int.ck (nP 1)).ck).ck ce_int.ck).ck ce_int.ck).ck ce_int.ck))
  (cb_one (cs_ret (ce_bin op_modV (ce_bin (op_addA C) (ce_bin (op_addA C) (ce_bin (op_mulA2 C) (nP 2) (nP 2)).ck (ce_bin (op_mulA2 C) ce_int.ck (nP 2)).ck).ck (nP 1)).ck ce_int.ck))))
theorem sc_law_game : FnScope N_law_game ["_law_number", "_law_great"] (defScope st_law_game) := ⟨rfl, rfl, rfl, by decide +kernel, rfl, by decide +kernel, by decide +kernel⟩
theorem fp_law_game {c : Ct} {P : Program} {mg : Str → Option Value} {base : Heap} {k : Nat} {f : Addr} {fd : FuncData} (F : Fun c.K "_law_game" "_law_game" st_law_game f fd) (hm : mg "_law_game" = some (.ref f)) (hb : Binds c.K fd ["_law_number", "_law_great"] []) (hblt : ∀ y ∈ bltNames, mg y = none)   (F_law_box : FP c P mg base k "_law_box" f_law_box) (F_law_drawn : FP c P mg base k "_law_drawn" f_law_drawn) : FP c P mg base (k + 1) "_law_game" f_law_game := by
  refine fp_mk F sc_law_game hm hb hblt (m := (sSeq (sSet (.one 2) (o2 sIxA (kE (eTup (esCons (eC (.int 2)) (esCons (eC (.int 1)) (esCons (eC (.int 3)) (esCons (eC (.int 2)) esNil)))))) (kE (o2 sMod (kP 0) (kE (eC (.int 4)))))))
  (sSeq (sSet (.one 3) (o2 sIxA (kE (eTup (esCons (eC (.int 2)) (esCons (eC (.int 3)) (esCons (eC (.int 4)) (esCons (eC (.int 2)) esNil)))))) (kE (o2 sMod (kE (o2 sDiv (kP 0) (kE (eC (.int 4))))) (kE (eC (.int 4)))))))
  (sSeq (sSet (.one 4) (o2 sIxA (kE (eTup (esCons (eC (.int 1)) (esCons (eC (.int 2)) (esCons (eC (.int 3)) (esCons (eC (.int 2)) esNil)))))) (kE (o2 sMod (kE (o2 sDiv (kP 0) (kE (eC (.int 16))))) (kE (eC (.int 4)))))))
  (sSeq (sSet (.one 5) (o1 sTuple (kE (eComp (iR1 (o2 sIxA (kE (eTup (esCons (eC (.int 1)) (esCons (eC (.int 2)) (esCons (eC (.int 2)) (esCons (eC (.int 3)) esNil)))))) (kE (o2 sMod (kE (o2 sDiv (kP 0) (kE (eC (.int 64))))) (kE (eC (.int 4))))))) (.one 6) eTrue (eCall f_law_box (esCons (o2 sDiv (kE (eCall f_law_drawn (esCons (eV 0) (esCons (eV 6) esNil)))) (kE (eC (.int 4)))) esNil)) [6]))))
  (sSeq (sIf (o2 sEq (kP 1) (kE (eC (.int 1)))) (sRet (eTup (esCons (o2 sAddA (kE (eC (.int 1))) (kE (o2 sMod (kE (o2 sDiv (kP 0) (kE (eC (.int 256))))) (kE (eC (.int 4)))))) (esCons (o2 sAddA (kE (eC (.int 2))) (kE (o2 sMod (kE (o2 sDiv (kP 0) (kE (eC (.int 1024))))) (kE (eC (.int 5)))))) (esCons (eV 4) (esCons (eV 5) esNil)))))) sNil)
  (sSeq (sIf (eOr (eAnd (o2 sEq (kP 2) (kE (eC (.int 3)))) (o2 sEq (kP 3) (kE (eC (.int 4))))) (eAnd (o2 sEq (kE (o1 sLenA (kP 5))) (kE (eC (.int 3)))) (o2 sGt (kE (o2 sMulA (kE (o2 sMulA (kP 2) (kP 3))) (kP 4))) (kE (eC (.int 12)))))) (sRet (eTup (esCons (eC (.int 2)) (esCons (o2 sMin2 (kP 3) (kE (eC (.int 3)))) (esCons (o2 sMin2 (kP 4) (kE (eC (.int 2)))) (esCons (eV 5) esNil)))))) sNil)
  (sRet (eTup (esCons (eV 2) (esCons (eV 3) (esCons (eV 4) (esCons (eV 5) esNil))))))))))))) fun cdv A outer s H E C hr => ?_
  have hr_law_box := hr
  have hr_law_drawn := hr
  exact (cb_cons (sN C 2 (ce_ix (ix_A C) (ce_tup (ca_cons ce_int (ca_cons ce_int (ca_cons ce_int (ca_cons ce_int ca_nil))))).ck (ce_bin op_modV (nP 0) ce_int.ck).ck (fun _ _ => rfl)))
  (cb_cons (sN C 3 (ce_ix (ix_A C) (ce_tup (ca_cons ce_int (ca_cons ce_int (ca_cons ce_int (ca_cons ce_int ca_nil))))).ck (ce_bin op_modV (ce_bin op_divV (nP 0) ce_int.ck).ck ce_int.ck).ck (fun _ _ => rfl)))
  (cb_cons (sN C 4 (ce_ix (ix_A C) (ce_tup (ca_cons ce_int (ca_cons ce_int (ca_cons ce_int (ca_cons ce_int ca_nil))))).ck (ce_bin op_modV (ce_bin op_divV (nP 0) ce_int.ck).ck ce_int.ck).ck (fun _ _ => rfl)))
  (cb_cons (sN C 5 (ce_t1 C (op_tupleV C) (by rfl) (by decide) (by decide +kernel) (cf_comp C (ci_range1 C (by rfl) (ce_ix (ix_A C) (ce_tup (ca_cons ce_int (ca_cons ce_int (ca_cons ce_int (ca_cons ce_int ca_nil))))).ck (ce_bin op_modV (ce_bin op_divV (nP 0) ce_int.ck).ck ce_int.ck).ck (fun _ _ => rfl))) (blkOk_by (N := N_law_game) (sc := (defScope st_law_game)) (scope := scE (atSE st_law_game [3] 0 [1])) (own := [("_law_k", 6)]) (by decide +kernel)) (by decide) (fun s1 H1 K1 cl1 fp1 => (gN (C.inn s1 H1 (scE (atSE st_law_game [3] 0 [1])) K1 cl1 fp1) 6)) (fun s1 H1 K1 cl1 fp1 => pts_true) (fun s1 H1 K1 cl1 fp1 => (ce_call (C.inn s1 H1 (scE (atSE st_law_game [3] 0 [1])) K1 cl1 fp1) F_law_box hr_law_box (by rfl) (ca_cons (ce_bin op_divV (ce_call (C.inn s1 H1 (scE (atSE st_law_game [3] 0 [1])) K1 cl1 fp1) F_law_drawn hr_law_drawn (by rfl) (ca_cons (nV 0) (ca_cons (nV 6) ca_nil))).ck ce_int.ck) ca_nil)))).ce.ck))
  (cb_cons (cs_if (ct_cmp (op_eqV C) (nP 1) ce_int.ck (by rfl)) (cb_one (cs_ret (ce_tup (ca_cons (ce_bin (op_addA C) ce_int.ck (ce_bin op_modV (ce_bin op_divV (nP 0) ce_int.ck).ck ce_int.ck).ck) (ca_cons (ce_bin (op_addA C) ce_int.ck (ce_bin op_modV (ce_bin op_divV (nP 0) ce_int.ck).ck ce_int.ck).ck) (ca_cons (nV 4) (ca_cons (nV 5) ca_nil))))))) cb_nil)
  (cb_cons (cs_if (cw_or (cw_and (ct_cmp (op_eqV C) (nP 2) ce_int.ck (by rfl)) (cw_and1 (ct_cmp (op_eqV C) (nP 3) ce_int.ck (by rfl)))).ct (cw_or1 (cw_and (ct_cmp (op_eqV C) (ce_b1 C (op_lenA C) (by rfl) (by decide) (by decide +kernel) (nP 5)).ck ce_int.ck (by rfl)) (cw_and1 (ct_cmp op_gtV (ce_bin (op_mulA2 C) (ce_bin (op_mulA2 C) (nP 2) (nP 3)).ck (nP 4)).ck ce_int.ck (by rfl)))).ct)).ct (cb_one (cs_ret (ce_tup (ca_cons ce_int (ca_cons (ce_b2 C (op_min2V C) (by rfl) (by decide) (by decide +kernel) (nP 3) ce_int.ck) (ca_cons (ce_b2 C (op_min2V C) (by rfl) (by decide) (by decide +kernel) (nP 4) ce_int.ck) (ca_cons (nV 5) ca_nil))))))) cb_nil)
  (cb_one (cs_ret (ce_tup (ca_cons (nV 2) (ca_cons (nV 3) (ca_cons (nV 4) (ca_cons (nV 5) ca_nil)))))))))))))
theorem sc_law_little : FnScope N_law_little ["_law_number"] (defScope st_law_little) := ⟨rfl, rfl, rfl, by decide +kernel, rfl, by decide +kernel, by decide +kernel⟩
theorem fp_law_little {c : Ct} {P : Program} {mg : Str → Option Value} {base : Heap} {k : Nat} {f : Addr} {fd : FuncData} (F : Fun c.K "_law_little" "_law_little" st_law_little f fd) (hm : mg "_law_little" = some (.ref f)) (hb : Binds c.K fd ["_law_number"] []) (hblt : ∀ y ∈ bltNames, mg y = none)   (F_law_game : FP c P mg base k "_law_game" f_law_game) : FP c P mg base (k + 1) "_law_little" f_law_little := by
  refine fp_mk F sc_law_little hm hb hblt (m := (sSeq (sSet (.one 1) (eCall f_law_game (esCons (eV 0) (esCons (eC (.int 0)) esNil))))
  (sRet (eTup (esCons (o2 sMin2 (kE (o2 sIxA (kP 1) (kE (eC (.int 0))))) (kE (eC (.int 2)))) (esCons (o2 sMin2 (kE (o2 sIxA (kP 1) (kE (eC (.int 1))))) (kE (eC (.int 3)))) (esCons (o2 sMin2 (kE (o2 sIxA (kP 1) (kE (eC (.int 2))))) (kE (eC (.int 2)))) (esCons (o3 sCutA (kE (o2 sIxA (kP 1) (kE (eC (.int 3))))) (kE (eC .none)) (kE (eC (.int 2)))) esNil)))))))) fun cdv A outer s H E C hr => ?_
  have hr_law_game := hr
  exact (cb_cons (sN C 1 (ce_call C F_law_game hr_law_game (by rfl) (ca_cons (nV 0) (ca_cons ce_int ca_nil))))
  (cb_one (cs_ret (ce_tup (ca_cons (ce_b2 C (op_min2V C) (by rfl) (by decide) (by decide +kernel) (ce_ix (ix_A C) (nP 1) ce_int.ck (fun _ _ => rfl)).ck ce_int.ck) (ca_cons (ce_b2 C (op_min2V C) (by rfl) (by decide) (by decide +kernel) (ce_ix (ix_A C) (nP 1) ce_int.ck (fun _ _ => rfl)).ck ce_int.ck) (ca_cons (ce_b2 C (op_min2V C) (by rfl) (by decide) (by decide +kernel) (ce_ix (ix_A C) (nP 1) ce_int.ck (fun _ _ => rfl)).ck ce_int.ck) (ca_cons (ce_cutA C (ce_ix (ix_A C) (nP 1) ce_int.ck (fun _ _ => rfl)).ck cp_none (cp_some ce_int)) ca_nil))))))))
theorem sc_law_plain : FnScope N_law_plain ["_law_upper", "_law_lower"] (defScope st_law_plain) := ⟨rfl, rfl, rfl, by decide +kernel, rfl, by decide +kernel, by decide +kernel⟩
theorem fp_law_plain {c : Ct} {P : Program} {mg : Str → Option Value} {base : Heap} {k : Nat} {f : Addr} {fd : FuncData} (F : Fun c.K "_law_plain" "_law_plain" st_law_plain f fd) (hm : mg "_law_plain" = some (.ref f)) (hb : Binds c.K fd ["_law_upper", "_law_lower"] []) (hblt : ∀ y ∈ bltNames, mg y = none)    : FP c P mg base (k + 1) "_law_plain" f_law_plain := by
  refine fp_mk F sc_law_plain hm hb hblt (m := (sSeq (sSet (.one 2) (o1 sAbs (kP 0)))
  (sSeq (sSet (.one 3) (eV 1))
  (sSeq (sWh (muI 2) (o2 sGt (kP 2) (kE (eC (.int 0))))
    (sPar 2 3 (o2 sMod (kP 3) (kP 2)) (eV 2)))
  (sRet (eTup (esCons (o2 sDiv (kP 0) (kP 3)) (esCons (o2 sDiv (kP 1) (kP 3)) esNil)))))))) fun cdv A outer s H E C hr => ?_
  exact (cb_cons (sN C 2 (ce_b1 C op_absV (by rfl) (by decide) (by decide +kernel) (nP 0)))
  (cb_cons (sN C 3 (nV 1))
  (cb_cons (cs_while C (ct_cmp op_gtV (nP 2) ce_int.ck (by rfl))
    (cb_one (cs_par C (by rfl) (by rfl) (by decide) (by rfl) (by rfl) (ce_bin op_modV (nP 3) (nP 2)) (nV 2) (by rfl))))
  (cb_one (cs_ret (ce_tup (ca_cons (ce_bin op_divV (nP 0) (nP 3)) (ca_cons (ce_bin op_divV (nP 1) (nP 3)) ca_nil))))))))
theorem sc_law_sum : FnScope N_law_sum ["_law_pairs"] (defScope st_law_sum) := ⟨rfl, rfl, rfl, by decide +kernel, rfl, by decide +kernel, by decide +kernel⟩
theorem fp_law_sum {c : Ct} {P : Program} {mg : Str → Option Value} {base : Heap} {k : Nat} {f : Addr} {fd : FuncData} (F : Fun c.K "_law_sum" "_law_sum" st_law_sum f fd) (hm : mg "_law_sum" = some (.ref f)) (hb : Binds c.K fd ["_law_pairs"] []) (hblt : ∀ y ∈ bltNames, mg y = none)   (F_law_plain : FP c P mg base k "_law_plain" f_law_plain) : FP c P mg base (k + 1) "_law_sum" f_law_sum := by
  refine fp_mk F sc_law_sum hm hb hblt (m := (sSeq (sSet (.one 1) (eC (.int 0)))
  (sSeq (sSet (.one 2) (eC (.int 1)))
  (sSeq (sFor (.many [3, 4]) (iSeqA (eV 0))
    (sSeq (sSet (.one 1) (o2 sAddA (kE (o2 sMulA (kE (o2 sMulA (kP 1) (kE (o2 sIxA (kP 3) (kE (eC (.int 1))))))) (kE (o2 sIxA (kP 4) (kE (eC (.int 1))))))) (kE (o2 sMulA (kE (o2 sMulA (kE (o2 sIxA (kP 3) (kE (eC (.int 0))))) (kE (o2 sIxA (kP 4) (kE (eC (.int 0))))))) (kP 2)))))
  (sSeq (sSet (.one 2) (o2 sMulA (kE (o2 sMulA (kP 2) (kE (o2 sIxA (kP 3) (kE (eC (.int 1))))))) (kE (o2 sIxA (kP 4) (kE (eC (.int 1)))))))
  (sSet (.many [1, 2]) (eCall f_law_plain (esCons (eV 1) (esCons (eV 2) esNil)))))))
  (sRet (eTup (esCons (eV 1) (esCons (eV 2) esNil)))))))) fun cdv A outer s H E C hr => ?_
  have hr_law_plain := hr
  exact (cb_cons (sN C 1 ce_int)
  (cb_cons (sN C 2 ce_int)
  (cb_cons (cs_for C (ci_seqA C (nV 0)) (cg_tup C (gNs C 3 (gNs C 4 cgs_nil)))
    (cb_cons (sN C 1 (ce_bin (op_addA C) (ce_bin (op_mulA2 C) (ce_bin (op_mulA2 C) (nP 1) (ce_ix (ix_A C) (nP 3) ce_int.ck (fun _ _ => rfl)).ck).ck (ce_ix (ix_A C) (nP 4) ce_int.ck (fun _ _ => rfl)).ck).ck (ce_bin (op_mulA2 C) (ce_bin (op_mulA2 C) (ce_ix (ix_A C) (nP 3) ce_int.ck (fun _ _ => rfl)).ck (ce_ix (ix_A C) (nP 4) ce_int.ck (fun _ _ => rfl)).ck).ck (nP 2)).ck))
  (cb_cons (sN C 2 (ce_bin (op_mulA2 C) (ce_bin (op_mulA2 C) (nP 2) (ce_ix (ix_A C) (nP 3) ce_int.ck (fun _ _ => rfl)).ck).ck (ce_ix (ix_A C) (nP 4) ce_int.ck (fun _ _ => rfl)).ck))
  (cb_one (cs_setT (cg_tup C (gNs C 1 (gNs C 2 cgs_nil))) (ce_call C F_law_plain hr_law_plain (by rfl) (ca_cons (nV 1) (ca_cons (nV 2) ca_nil))))))))
  (cb_one (cs_ret (ce_tup (ca_cons (nV 1) (ca_cons (nV 2) ca_nil))))))))
theorem sc_counted : FnScope N_counted ["many", "sides"] (defScope st_counted) := ⟨rfl, rfl, rfl, by decide +kernel, rfl, by decide +kernel, by decide +kernel⟩
theorem fp_counted {c : Ct} {P : Program} {mg : Str → Option Value} {base : Heap} {k : Nat} {f : Addr} {fd : FuncData} (F : Fun c.K "counted" "counted" st_counted f fd) (hm : mg "counted" = some (.ref f)) (hb : Binds c.K fd ["many", "sides"] []) (hblt : ∀ y ∈ bltNames, mg y = none)    : FP c P mg base (k + 1) "counted" f_counted := by
  refine fp_mk F sc_counted hm hb hblt (m := (sSeq (sSet (.one 2) (eD1 (eTup esNil) (eC (.int 1))))
  (sSeq (sSet (.one 3) (eC (.int 1)))
  (sSeq (sFor (.one 4) (iR1 (eV 0))
    (sSeq (sOwn 5 eDnil)
  (sSeq (sFor (.one 6) (iSeqA (eV 2))
    (sFor (.one 7) (iR2 (eC (.int 1)) (o2 sAddA (kP 1) (kE (eC (.int 1)))))
    (sSeq (sSet (.one 8) (o1 sTuple (kE (o1 sSorted (kE (o2 sAddA (kP 6) (kE (eTup (esCons (eV 7) esNil)))))))))
  (sPut 5 (eV 8) (o2 sAddA (kE (eM mGet2 (kP 5) (esCons (eV 8) (esCons (eC (.int 0)) esNil)))) (kE (o2 sIxA (kP 2) (kP 6))))))))
  (sSeq (sSet (.one 2) (eV 5))
  (sSet (.one 3) (o2 sMulA (kP 3) (kP 1)))))))
  (sRet (eTup (esCons (eV 2) (esCons (eV 3) esNil)))))))) fun cdv A outer s H E C hr => ?_
  exact (cb_cons (sN C 2 (cf_d1 C (ce_tup ca_nil) ce_int).ce)
  (cb_cons (sN C 3 ce_int)
  (cb_cons (cs_for C (ci_range1 C (by rfl) (nV 0)) (gN C 4)
    (cb_cons (sO C 5 cf_dnil)
  (cb_cons (cs_for C (ci_seqA C (nV 2)) (gN C 6)
    (cb_one (cs_for C (ci_range2 C (by rfl) ce_int (ce_bin (op_addA C) (nP 1) ce_int.ck)) (gN C 7)
    (cb_cons (sN C 8 (ce_t1 C (op_tupleV C) (by rfl) (by decide) (by decide +kernel) (cf_b1 C (fp_sortedV C) (by rfl) (by decide) (by decide +kernel) (ce_bin (op_addA C) (nP 6) (ce_tup (ca_cons (nV 7) ca_nil)).ck).ck).ce.ck))
  (cb_one (cs_putF (i := 5) C (nV 8) (ce_bin (op_addA C) (ce_get2 C (nP 5) (nV 8) ce_int).ck (ce_ix (ix_A C) (nP 2) (nP 6) (fun _ _ => rfl)).ck)))))))
  (cb_cons (sN C 2 (nV 5))
  (cb_one (sN C 3 (ce_bin (op_mulA2 C) (nP 3) (nP 1))))))))
  (cb_one (cs_ret (ce_tup (ca_cons (nV 2) (ca_cons (nV 3) ca_nil))))))))
theorem sc_plain : FnScope N_plain ["upper", "lower"] (defScope st_plain) := ⟨rfl, rfl, rfl, by decide +kernel, rfl, by decide +kernel, by decide +kernel⟩
theorem fp_plain {c : Ct} {P : Program} {mg : Str → Option Value} {base : Heap} {k : Nat} {f : Addr} {fd : FuncData} (F : Fun c.K "plain" "plain" st_plain f fd) (hm : mg "plain" = some (.ref f)) (hb : Binds c.K fd ["upper", "lower"] []) (hblt : ∀ y ∈ bltNames, mg y = none)    : FP c P mg base (k + 1) "plain" f_plain := by
  refine fp_mk F sc_plain hm hb hblt (m := (sSeq (sSet (.one 2) (o1 sAbs (kP 0)))
  (sSeq (sSet (.one 3) (eV 1))
  (sSeq (sWh (muI 2) (o2 sGt (kP 2) (kE (eC (.int 0))))
    (sPar 2 3 (o2 sMod (kP 3) (kP 2)) (eV 2)))
  (sRet (eTup (esCons (o2 sDiv (kP 0) (kP 3)) (esCons (o2 sDiv (kP 1) (kP 3)) esNil)))))))) fun cdv A outer s H E C hr => ?_
  exact (cb_cons (sN C 2 (ce_b1 C op_absV (by rfl) (by decide) (by decide +kernel) (nP 0)))
  (cb_cons (sN C 3 (nV 1))
  (cb_cons (cs_while C (ct_cmp op_gtV (nP 2) ce_int.ck (by rfl))
    (cb_one (cs_par C (by rfl) (by rfl) (by decide) (by rfl) (by rfl) (ce_bin op_modV (nP 3) (nP 2)) (nV 2) (by rfl))))
  (cb_one (cs_ret (ce_tup (ca_cons (ce_bin op_divV (nP 0) (nP 3)) (ca_cons (ce_bin op_divV (nP 1) (nP 3)) ca_nil))))))))
theorem sc_throws_of : FnScope N_throws_of ["many", "sides"] (defScope st_throws_of) := ⟨rfl, rfl, rfl, by decide +kernel, rfl, by decide +kernel, by decide +kernel⟩
theorem fp_throws_of {c : Ct} {P : Program} {mg : Str → Option Value} {base : Heap} {k : Nat} {f : Addr} {fd : FuncData} (F : Fun c.K "throws_of" "throws_of" st_throws_of f fd) (hm : mg "throws_of" = some (.ref f)) (hb : Binds c.K fd ["many", "sides"] []) (hblt : ∀ y ∈ bltNames, mg y = none)   (F_counted : FP c P mg base k "counted" f_counted) (F_plain : FP c P mg base k "plain" f_plain) : FP c P mg base (k + 1) "throws_of" f_throws_of := by
  refine fp_mk F sc_throws_of hm hb hblt (m := (sSeq (sSet (.many [2, 3]) (eCall f_counted (esCons (eV 0) (esCons (eV 1) esNil))))
  (sRet (o1 sTuple (kE (eComp (iSeqA (o1 sSorted (kP 2))) (.one 4) eTrue (eTup (esCons (eV 4) (esCons (eCall f_plain (esCons (o2 sIxA (kP 2) (kP 4)) (esCons (eV 3) esNil))) esNil))) [4])))))) fun cdv A outer s H E C hr => ?_
  have hr_counted := hr
  have hr_plain := hr
  exact (cb_cons (cs_setT (cg_tup C (gNs C 2 (gNs C 3 cgs_nil))) (ce_call C F_counted hr_counted (by rfl) (ca_cons (nV 0) (ca_cons (nV 1) ca_nil))))
  (cb_one (cs_ret (ce_t1 C (op_tupleV C) (by rfl) (by decide) (by decide +kernel) (cf_comp C (ci_seqA C (cf_b1 C (fp_sortedV C) (by rfl) (by decide) (by decide +kernel) (nP 2)).ce) (blkOk_by (N := N_throws_of) (sc := (defScope st_throws_of)) (scope := scE (atSE st_throws_of [1] 0 [1])) (own := [("dice", 4)]) (by decide +kernel)) (by decide) (fun s1 H1 K1 cl1 fp1 => (gN (C.inn s1 H1 (scE (atSE st_throws_of [1] 0 [1])) K1 cl1 fp1) 4)) (fun s1 H1 K1 cl1 fp1 => pts_true) (fun s1 H1 K1 cl1 fp1 => (ce_tup (ca_cons (nV 4) (ca_cons (ce_call (C.inn s1 H1 (scE (atSE st_throws_of [1] 0 [1])) K1 cl1 fp1) F_plain hr_plain (by rfl) (ca_cons (ce_ix (ix_A (C.inn s1 H1 (scE (atSE st_throws_of [1] 0 [1])) K1 cl1 fp1)) (nP 2) (nP 4) (fun _ _ => rfl)) (ca_cons (nV 3) ca_nil))) ca_nil))))).ce.ck))))
theorem sc_after : FnScope N_after ["game", "kept"] (defScope st_after) := ⟨rfl, rfl, rfl, by decide +kernel, rfl, by decide +kernel, by decide +kernel⟩
theorem fp_after {c : Ct} {P : Program} {mg : Str → Option Value} {base : Heap} {k : Nat} {f : Addr} {fd : FuncData} (F : Fun c.K "after" "after" st_after f fd) (hm : mg "after" = some (.ref f)) (hb : Binds c.K fd ["game", "kept"] []) (hblt : ∀ y ∈ bltNames, mg y = none)   (F_throws_of : FP c P mg base k "throws_of" f_throws_of) : FP c P mg base (k + 1) "after" f_after := by
  refine fp_mk F sc_after hm hb hblt (m := (sSeq (sOwn 2 (eComp (iSeqA (eCall f_throws_of (esCons (o2 sSub (kE (o2 sIxA (kP 0) (kE (eC (.int 0))))) (kE (o1 sLenA (kP 1)))) (esCons (o2 sIxA (kP 0) (kE (eC (.int 1)))) esNil)))) (.many [3, 4]) eTrue (eTup (esCons (o1 sTuple (kE (o1 sSorted (kE (o2 sAddA (kP 1) (kP 3)))))) (esCons (eV 4) esNil))) [3, 4]))
  (sRet (o1 sTuple (kE (o1 sSorted (kP 2))))))) fun cdv A outer s H E C hr => ?_
  have hr_throws_of := hr
  exact (cb_cons (cs_ownC C (by rfl) (by rfl) (by rfl) (ci_seqA C (ce_call C F_throws_of hr_throws_of (by rfl) (ca_cons (ce_bin op_subV (ce_ix (ix_A C) (nP 0) ce_int.ck (fun _ _ => rfl)).ck (ce_b1 C (op_lenA C) (by rfl) (by decide) (by decide +kernel) (nP 1)).ck) (ca_cons (ce_ix (ix_A C) (nP 0) ce_int.ck (fun _ _ => rfl)) ca_nil)))) (blkOk_by (N := N_after) (sc := (defScope st_after)) (scope := scE (atSE st_after [0] 0 [])) (own := [("dice", 3), ("share", 4)]) (by decide +kernel)) (by decide) (fun s1 H1 K1 cl1 fp1 => (cg_tup (C.inn s1 H1 (scE (atSE st_after [0] 0 [])) K1 cl1 fp1) (gNs (C.inn s1 H1 (scE (atSE st_after [0] 0 [])) K1 cl1 fp1) 3 (gNs (C.inn s1 H1 (scE (atSE st_after [0] 0 [])) K1 cl1 fp1) 4 cgs_nil)))) (fun s1 H1 K1 cl1 fp1 => pts_true) (fun s1 H1 K1 cl1 fp1 => (ce_tup (ca_cons (ce_t1 (C.inn s1 H1 (scE (atSE st_after [0] 0 [])) K1 cl1 fp1) (op_tupleV (C.inn s1 H1 (scE (atSE st_after [0] 0 [])) K1 cl1 fp1)) (by rfl) (by decide) (by decide +kernel) (cf_b1 (C.inn s1 H1 (scE (atSE st_after [0] 0 [])) K1 cl1 fp1) (fp_sortedV (C.inn s1 H1 (scE (atSE st_after [0] 0 [])) K1 cl1 fp1)) (by rfl) (by decide) (by decide +kernel) (ce_bin (op_addA (C.inn s1 H1 (scE (atSE st_after [0] 0 [])) K1 cl1 fp1)) (nP 1) (nP 3)).ck).ce.ck) (ca_cons (nV 4) ca_nil)))))
  (cb_one (cs_ret (ce_t1 C (op_tupleV C) (by rfl) (by decide) (by decide +kernel) (cf_b1 C (fp_sortedV C) (by rfl) (by decide) (by decide +kernel) (nP 2)).ce.ck))))
theorem sc_begins : FnScope N_begins ["game", "boxes"] (defScope st_begins) := ⟨rfl, rfl, rfl, by decide +kernel, rfl, by decide +kernel, by decide +kernel⟩
theorem fp_begins {c : Ct} {P : Program} {mg : Str → Option Value} {base : Heap} {k : Nat} {f : Addr} {fd : FuncData} (F : Fun c.K "begins" "begins" st_begins f fd) (hm : mg "begins" = some (.ref f)) (hb : Binds c.K fd ["game", "boxes"] []) (hblt : ∀ y ∈ bltNames, mg y = none)   (F_throws_of : FP c P mg base k "throws_of" f_throws_of) : FP c P mg base (k + 1) "begins" f_begins := by
  refine fp_mk F sc_begins hm hb hblt (m := (sSeq (sIf (o2 sEq (kE (o1 sLenA (kP 1))) (kE (eC (.int 0)))) (sRet (eTup esNil)) sNil)
  (sRet (o1 sTuple (kE (eComp (iSeqA (eCall f_throws_of (esCons (o2 sIxA (kP 0) (kE (eC (.int 0)))) (esCons (o2 sIxA (kP 0) (kE (eC (.int 1)))) esNil)))) (.many [2, 3]) eTrue (eTup (esCons (eTup (esCons (eV 1) (esCons (o2 sSub (kE (o2 sIxA (kP 0) (kE (eC (.int 2))))) (kE (eC (.int 1)))) (esCons (eV 2) esNil)))) (esCons (eV 3) esNil))) [2, 3])))))) fun cdv A outer s H E C hr => ?_
  have hr_throws_of := hr
  exact (cb_cons (cs_if (ct_cmp (op_eqV C) (ce_b1 C (op_lenA C) (by rfl) (by decide) (by decide +kernel) (nP 1)).ck ce_int.ck (by rfl)) (cb_one (cs_ret (ce_tup ca_nil))) cb_nil)
  (cb_one (cs_ret (ce_t1 C (op_tupleV C) (by rfl) (by decide) (by decide +kernel) (cf_comp C (ci_seqA C (ce_call C F_throws_of hr_throws_of (by rfl) (ca_cons (ce_ix (ix_A C) (nP 0) ce_int.ck (fun _ _ => rfl)) (ca_cons (ce_ix (ix_A C) (nP 0) ce_int.ck (fun _ _ => rfl)) ca_nil)))) (blkOk_by (N := N_begins) (sc := (defScope st_begins)) (scope := scE (atSE st_begins [1] 0 [1])) (own := [("dice", 2), ("share", 3)]) (by decide +kernel)) (by decide) (fun s1 H1 K1 cl1 fp1 => (cg_tup (C.inn s1 H1 (scE (atSE st_begins [1] 0 [1])) K1 cl1 fp1) (gNs (C.inn s1 H1 (scE (atSE st_begins [1] 0 [1])) K1 cl1 fp1) 2 (gNs (C.inn s1 H1 (scE (atSE st_begins [1] 0 [1])) K1 cl1 fp1) 3 cgs_nil)))) (fun s1 H1 K1 cl1 fp1 => pts_true) (fun s1 H1 K1 cl1 fp1 => (ce_tup (ca_cons (ce_tup (ca_cons (nV 1) (ca_cons (ce_bin op_subV (ce_ix (ix_A (C.inn s1 H1 (scE (atSE st_begins [1] 0 [1])) K1 cl1 fp1)) (nP 0) ce_int.ck (fun _ _ => rfl)).ck ce_int.ck) (ca_cons (nV 2) ca_nil)))) (ca_cons (nV 3) ca_nil))))).ce.ck))))
theorem sc_has_run : FnScope N_has_run ["dice", "many"] (defScope st_has_run) := ⟨rfl, rfl, rfl, by decide +kernel, rfl, by decide +kernel, by decide +kernel⟩
theorem fp_has_run {c : Ct} {P : Program} {mg : Str → Option Value} {base : Heap} {k : Nat} {f : Addr} {fd : FuncData} (F : Fun c.K "has_run" "has_run" st_has_run f fd) (hm : mg "has_run" = some (.ref f)) (hb : Binds c.K fd ["dice", "many"] []) (hblt : ∀ y ∈ bltNames, mg y = none)    : FP c P mg base (k + 1) "has_run" f_has_run := by
  refine fp_mk F sc_has_run hm hb hblt (m := (sRet (o1 sAny (kE (eComp (iSeqA (eV 0)) (.one 2) eTrue (o1 sAll (kE (eComp (iR1 (eV 1)) (.one 3) eTrue (o2 sInA (kE (o2 sAddA (kP 2) (kP 3))) (kP 0)) [3]))) [2]))))) fun cdv A outer s H E C hr => ?_
  exact (cb_one (cs_ret (ce_b1 C (op_anyV C) (by rfl) (by decide) (by decide +kernel) (cf_comp C (ci_seqA C (nV 0)) (blkOk_by (N := N_has_run) (sc := (defScope st_has_run)) (scope := scE (atSE st_has_run [0] 0 [1])) (own := [("first", 2)]) (by decide +kernel)) (by decide) (fun s1 H1 K1 cl1 fp1 => (gN (C.inn s1 H1 (scE (atSE st_has_run [0] 0 [1])) K1 cl1 fp1) 2)) (fun s1 H1 K1 cl1 fp1 => pts_true) (fun s1 H1 K1 cl1 fp1 => (ce_b1 (C.inn s1 H1 (scE (atSE st_has_run [0] 0 [1])) K1 cl1 fp1) (op_allV (C.inn s1 H1 (scE (atSE st_has_run [0] 0 [1])) K1 cl1 fp1)) (by rfl) (by decide) (by decide +kernel) (cf_comp (C.inn s1 H1 (scE (atSE st_has_run [0] 0 [1])) K1 cl1 fp1) (ci_range1 (C.inn s1 H1 (scE (atSE st_has_run [0] 0 [1])) K1 cl1 fp1) (by rfl) (nV 1)) (blkOk_by (N := N_has_run) (sc := (relS (scE (atSE st_has_run [0] 0 [1])) (defScope st_has_run))) (scope := scE (atSE st_has_run [0] 0 [1, 0, 1])) (own := [("k", 3)]) (by decide +kernel)) (by decide) (fun s2 H2 K2 cl2 fp2 => (gN ((C.inn s1 H1 (scE (atSE st_has_run [0] 0 [1])) K1 cl1 fp1).inn s2 H2 (scE (atSE st_has_run [0] 0 [1, 0, 1])) K2 cl2 fp2) 3)) (fun s2 H2 K2 cl2 fp2 => pts_true) (fun s2 H2 K2 cl2 fp2 => (ce_cmp (op_inA ((C.inn s1 H1 (scE (atSE st_has_run [0] 0 [1])) K1 cl1 fp1).inn s2 H2 (scE (atSE st_has_run [0] 0 [1, 0, 1])) K2 cl2 fp2)) (ce_bin (op_addA ((C.inn s1 H1 (scE (atSE st_has_run [0] 0 [1])) K1 cl1 fp1).inn s2 H2 (scE (atSE st_has_run [0] 0 [1, 0, 1])) K2 cl2 fp2)) (nP 2) (nP 3)).ck (nP 0) (by rfl)))).ce.ck))).ce.ck)))
theorem sc_points : FnScope N_points ["box", "dice"] (defScope st_points) := ⟨rfl, rfl, rfl, by decide +kernel, rfl, by decide +kernel, by decide +kernel⟩
theorem fp_points {c : Ct} {P : Program} {mg : Str → Option Value} {base : Heap} {k : Nat} {f : Addr} {fd : FuncData} (F : Fun c.K "points" "points" st_points f fd) (hm : mg "points" = some (.ref f)) (hb : Binds c.K fd ["box", "dice"] []) (hblt : ∀ y ∈ bltNames, mg y = none)   (F_has_run : FP c P mg base k "has_run" f_has_run) : FP c P mg base (k + 1) "points" f_points := by
  refine fp_mk F sc_points hm hb hblt (m := (sSeq (sSet (.one 2) (o2 sIxA (kP 0) (kE (eC (.int 0)))))
  (sSeq (sIf (o2 sEq (kP 2) (kE (eC (.str "face")))) (sRet (o2 sMulA (kE (o2 sIxA (kP 0) (kE (eC (.int 1))))) (kE (eM mCountA (kP 1) (esCons (o2 sIxA (kP 0) (kE (eC (.int 1)))) esNil))))) sNil)
  (sSeq (sIf (o2 sEq (kP 2) (kE (eC (.str "all")))) (sRet (o1 sSum (kP 1))) sNil)
  (sSeq (sIf (o2 sEq (kP 2) (kE (eC (.str "alike")))) (sRet (o2 sMulA (kE (o2 sIxA (kP 0) (kE (eC (.int 2))))) (kE (o1 sInt (kE (o1 sAny (kE (eComp (iSeqA (eV 1)) (.one 3) eTrue (o2 sGe (kE (eM mCountA (kP 1) (esCons (eV 3) esNil))) (kE (o2 sIxA (kP 0) (kE (eC (.int 1)))))) [3])))))))) sNil)
  (sSeq (sIf (o2 sEq (kP 2) (kE (eC (.str "run")))) (sRet (o2 sMulA (kE (o2 sIxA (kP 0) (kE (eC (.int 2))))) (kE (o1 sInt (kE (eCall f_has_run (esCons (eV 1) (esCons (o2 sIxA (kP 0) (kE (eC (.int 1)))) esNil)))))))) sNil)
  (sSeq (sIf (o2 sEq (kP 2) (kE (eC (.str "under")))) (sRet (o2 sMulA (kE (o1 sSum (kP 1))) (kE (o1 sInt (kE (o2 sLe (kE (o1 sSum (kP 1))) (kE (o2 sIxA (kP 0) (kE (eC (.int 1))))))))))) sNil)
  (sRet (o2 sMulA (kE (o2 sIxA (kP 0) (kE (eC (.int 1))))) (kE (o1 sInt (kE (o1 sAll (kE (eComp (iSeqA (eV 1)) (.one 3) eTrue (o2 sEq (kE (o2 sMod (kP 3) (kE (eC (.int 2))))) (kE (eC (.int 0)))) [3]))))))))))))))) fun cdv A outer s H E C hr => ?_
  have hr_has_run := hr
  exact (cb_cons (sN C 2 (ce_ix (ix_A C) (nP 0) ce_int.ck (fun _ _ => rfl)))
  (cb_cons (cs_if (ct_cmp (op_eqV C) (nP 2) ce_str.ck (by rfl)) (cb_one (cs_ret (ce_bin (op_mulA2 C) (ce_ix (ix_A C) (nP 0) ce_int.ck (fun _ _ => rfl)).ck (ce_countA C (nP 1) (ce_ix (ix_A C) (nP 0) ce_int.ck (fun _ _ => rfl))).ck))) cb_nil)
  (cb_cons (cs_if (ct_cmp (op_eqV C) (nP 2) ce_str.ck (by rfl)) (cb_one (cs_ret (ce_b1 C (op_sumV C) (by rfl) (by decide) (by decide +kernel) (nP 1)))) cb_nil)
  (cb_cons (cs_if (ct_cmp (op_eqV C) (nP 2) ce_str.ck (by rfl)) (cb_one (cs_ret (ce_bin (op_mulA2 C) (ce_ix (ix_A C) (nP 0) ce_int.ck (fun _ _ => rfl)).ck (ce_t1 C op_intV (by rfl) (by decide) (by decide +kernel) (ce_b1 C (op_anyV C) (by rfl) (by decide) (by decide +kernel) (cf_comp C (ci_seqA C (nV 1)) (blkOk_by (N := N_points) (sc := (defScope st_points)) (scope := scE (atSE st_points [3, 0] 0 [1, 1, 1])) (own := [("die", 3)]) (by decide +kernel)) (by decide) (fun s1 H1 K1 cl1 fp1 => (gN (C.inn s1 H1 (scE (atSE st_points [3, 0] 0 [1, 1, 1])) K1 cl1 fp1) 3)) (fun s1 H1 K1 cl1 fp1 => pts_true) (fun s1 H1 K1 cl1 fp1 => (ce_cmp op_geV (ce_countA (C.inn s1 H1 (scE (atSE st_points [3, 0] 0 [1, 1, 1])) K1 cl1 fp1) (nP 1) (nV 3)).ck (ce_ix (ix_A (C.inn s1 H1 (scE (atSE st_points [3, 0] 0 [1, 1, 1])) K1 cl1 fp1)) (nP 0) ce_int.ck (fun _ _ => rfl)).ck (by rfl)))).ce.ck).ck).ck))) cb_nil)
  (cb_cons (cs_if (ct_cmp (op_eqV C) (nP 2) ce_str.ck (by rfl)) (cb_one (cs_ret (ce_bin (op_mulA2 C) (ce_ix (ix_A C) (nP 0) ce_int.ck (fun _ _ => rfl)).ck (ce_t1 C op_intV (by rfl) (by decide) (by decide +kernel) (ce_call C F_has_run hr_has_run (by rfl) (ca_cons (nV 1) (ca_cons (ce_ix (ix_A C) (nP 0) ce_int.ck (fun _ _ => rfl)) ca_nil))).ck).ck))) cb_nil)
  (cb_cons (cs_if (ct_cmp (op_eqV C) (nP 2) ce_str.ck (by rfl)) (cb_one (cs_ret (ce_bin (op_mulA2 C) (ce_b1 C (op_sumV C) (by rfl) (by decide) (by decide +kernel) (nP 1)).ck (ce_t1 C op_intV (by rfl) (by decide) (by decide +kernel) (ce_cmp op_leV (ce_b1 C (op_sumV C) (by rfl) (by decide) (by decide +kernel) (nP 1)).ck (ce_ix (ix_A C) (nP 0) ce_int.ck (fun _ _ => rfl)).ck (by rfl)).ck).ck))) cb_nil)
  (cb_one (cs_ret (ce_bin (op_mulA2 C) (ce_ix (ix_A C) (nP 0) ce_int.ck (fun _ _ => rfl)).ck (ce_t1 C op_intV (by rfl) (by decide) (by decide +kernel) (ce_b1 C (op_allV C) (by rfl) (by decide) (by decide +kernel) (cf_comp C (ci_seqA C (nV 1)) (blkOk_by (N := N_points) (sc := (defScope st_points)) (scope := scE (atSE st_points [6] 0 [1, 1, 1])) (own := [("die", 3)]) (by decide +kernel)) (by decide) (fun s1 H1 K1 cl1 fp1 => (gN (C.inn s1 H1 (scE (atSE st_points [6] 0 [1, 1, 1])) K1 cl1 fp1) 3)) (fun s1 H1 K1 cl1 fp1 => pts_true) (fun s1 H1 K1 cl1 fp1 => (ce_cmp (op_eqV (C.inn s1 H1 (scE (atSE st_points [6] 0 [1, 1, 1])) K1 cl1 fp1)) (ce_bin op_modV (nP 3) ce_int.ck).ck ce_int.ck (by rfl)))).ce.ck).ck).ck)))))))))
theorem sc_comes : FnScope N_comes ["game", "stand", "move"] (defScope st_comes) := ⟨rfl, rfl, rfl, by decide +kernel, rfl, by decide +kernel, by decide +kernel⟩
theorem fp_comes {c : Ct} {P : Program} {mg : Str → Option Value} {base : Heap} {k : Nat} {f : Addr} {fd : FuncData} (F : Fun c.K "comes" "comes" st_comes f fd) (hm : mg "comes" = some (.ref f)) (hb : Binds c.K fd ["game", "stand", "move"] []) (hblt : ∀ y ∈ bltNames, mg y = none)   (F_after : FP c P mg base k "after" f_after) (F_begins : FP c P mg base k "begins" f_begins) (F_points : FP c P mg base k "points" f_points) : FP c P mg base (k + 1) "comes" f_comes := by
  refine fp_mk F sc_comes hm hb hblt (m := (sSeq (sSet (.many [3, 4, 5]) (eV 1))
  (sSeq (sIf (o2 sEq (kE (o2 sIxA (kP 2) (kE (eC (.int 0))))) (kE (eC (.str "keep")))) (sRet (eTup (esCons (eC (.int 0)) (esCons (o1 sTuple (kE (eComp (iSeqA (eCall f_after (esCons (eV 0) (esCons (o2 sIxA (kP 2) (kE (eC (.int 1)))) esNil)))) (.many [7, 8]) eTrue (eTup (esCons (eTup (esCons (eV 3) (esCons (o2 sSub (kP 4) (kE (eC (.int 1)))) (esCons (eV 7) esNil)))) (esCons (eV 8) esNil))) [7, 8]))) esNil)))) sNil)
  (sSeq (sSet (.one 6) (o1 sTuple (kE (eComp (iSeqA (eV 3)) (.one 9) (o2 sNe (kP 9) (kE (o2 sIxA (kP 2) (kE (eC (.int 1)))))) (eV 9) [9]))))
  (sRet (eTup (esCons (eCall f_points (esCons (o2 sIxA (kE (o2 sIxA (kP 0) (kE (eC (.int 3))))) (kE (o2 sIxA (kP 2) (kE (eC (.int 1)))))) (esCons (eV 5) esNil))) (esCons (eCall f_begins (esCons (eV 0) (esCons (eV 6) esNil))) esNil)))))))) fun cdv A outer s H E C hr => ?_
  have hr_after := hr
  have hr_begins := hr
  have hr_points := hr
  exact (cb_cons (cs_setT (cg_tup C (gNs C 3 (gNs C 4 (gNs C 5 cgs_nil)))) (nV 1))
  (cb_cons (cs_if (ct_cmp (op_eqV C) (ce_ix (ix_A C) (nP 2) ce_int.ck (fun _ _ => rfl)).ck ce_str.ck (by rfl)) (cb_one (cs_ret (ce_tup (ca_cons ce_int (ca_cons (ce_t1 C (op_tupleV C) (by rfl) (by decide) (by decide +kernel) (cf_comp C (ci_seqA C (ce_call C F_after hr_after (by rfl) (ca_cons (nV 0) (ca_cons (ce_ix (ix_A C) (nP 2) ce_int.ck (fun _ _ => rfl)) ca_nil)))) (blkOk_by (N := N_comes) (sc := (defScope st_comes)) (scope := scE (atSE st_comes [1, 0] 0 [1, 1])) (own := [("new", 7), ("share", 8)]) (by decide +kernel)) (by decide) (fun s1 H1 K1 cl1 fp1 => (cg_tup (C.inn s1 H1 (scE (atSE st_comes [1, 0] 0 [1, 1])) K1 cl1 fp1) (gNs (C.inn s1 H1 (scE (atSE st_comes [1, 0] 0 [1, 1])) K1 cl1 fp1) 7 (gNs (C.inn s1 H1 (scE (atSE st_comes [1, 0] 0 [1, 1])) K1 cl1 fp1) 8 cgs_nil)))) (fun s1 H1 K1 cl1 fp1 => pts_true) (fun s1 H1 K1 cl1 fp1 => (ce_tup (ca_cons (ce_tup (ca_cons (nV 3) (ca_cons (ce_bin op_subV (nP 4) ce_int.ck) (ca_cons (nV 7) ca_nil)))) (ca_cons (nV 8) ca_nil))))).ce.ck) ca_nil))))) cb_nil)
  (cb_cons (sN C 6 (ce_t1 C (op_tupleV C) (by rfl) (by decide) (by decide +kernel) (cf_comp C (ci_seqA C (nV 3)) (blkOk_by (N := N_comes) (sc := (defScope st_comes)) (scope := scE (atSE st_comes [2] 0 [1])) (own := [("k", 9)]) (by decide +kernel)) (by decide) (fun s1 H1 K1 cl1 fp1 => (gN (C.inn s1 H1 (scE (atSE st_comes [2] 0 [1])) K1 cl1 fp1) 9)) (fun s1 H1 K1 cl1 fp1 => (pts_test (ct_cmp (op_neV (C.inn s1 H1 (scE (atSE st_comes [2] 0 [1])) K1 cl1 fp1)) (nP 9) (ce_ix (ix_A (C.inn s1 H1 (scE (atSE st_comes [2] 0 [1])) K1 cl1 fp1)) (nP 2) ce_int.ck (fun _ _ => rfl)).ck (by rfl)))) (fun s1 H1 K1 cl1 fp1 => (nV 9))).ce.ck))
  (cb_one (cs_ret (ce_tup (ca_cons (ce_call C F_points hr_points (by rfl) (ca_cons (ce_ix (ix_A C) (ce_ix (ix_A C) (nP 0) ce_int.ck (fun _ _ => rfl)).ck (ce_ix (ix_A C) (nP 2) ce_int.ck (fun _ _ => rfl)).ck (fun _ _ => rfl)) (ca_cons (nV 5) ca_nil))) (ca_cons (ce_call C F_begins hr_begins (by rfl) (ca_cons (nV 0) (ca_cons (nV 6) ca_nil))) ca_nil))))))))
theorem sc_Chances_init : FnScope N_Chances_init ["self", "game"] (defScope st_Chances_init) := ⟨rfl, rfl, rfl, by decide +kernel, rfl, by decide +kernel, by decide +kernel⟩
theorem fp_Chances_init {c : Ct} {P : Program} {mg : Str → Option Value} {base : Heap} {k : Nat} {f : Addr} {fd : FuncData} (F : Fun c.K "__init__" "Chances.__init__" st_Chances_init f fd) {C0 : Addr} (hC : c.ci 0 = some C0) (hm : mg "Chances" = some (.ref C0)) (hM : Mk c.K C0 f) (hb : Binds c.K fd ["self", "game"] []) (hblt : ∀ y ∈ bltNames, mg y = none) (ci_game : CiOk c "game") (ci_known : CiOk c "known")   : FI c P mg base (k + 1) "Chances" 0 f_Chances_init := by
  refine fi_mk F sc_Chances_init hC hm hM hb hblt (m := (sSeq (sFld 0 "game" (eV 1))
  (sFldO 0 "known" eDnil))) fun t cdv A outer s H E C hr => ?_
  exact (cb_cons (cs_fld C ci_game (cpl_s 0) (nV 1))
  (cb_one (cs_fldO C ci_known (cpl_s 0) cf_dnil)))
theorem sc_times : FnScope N_times ["one", "other"] (defScope st_times) := ⟨rfl, rfl, rfl, by decide +kernel, rfl, by decide +kernel, by decide +kernel⟩
theorem fp_times {c : Ct} {P : Program} {mg : Str → Option Value} {base : Heap} {k : Nat} {f : Addr} {fd : FuncData} (F : Fun c.K "times" "times" st_times f fd) (hm : mg "times" = some (.ref f)) (hb : Binds c.K fd ["one", "other"] []) (hblt : ∀ y ∈ bltNames, mg y = none)   (F_plain : FP c P mg base k "plain" f_plain) : FP c P mg base (k + 1) "times" f_times := by
  refine fp_mk F sc_times hm hb hblt (m := (sRet (eCall f_plain (esCons (o2 sMulA (kE (o2 sIxA (kP 0) (kE (eC (.int 0))))) (kE (o2 sIxA (kP 1) (kE (eC (.int 0)))))) (esCons (o2 sMulA (kE (o2 sIxA (kP 0) (kE (eC (.int 1))))) (kE (o2 sIxA (kP 1) (kE (eC (.int 1)))))) esNil))))) fun cdv A outer s H E C hr => ?_
  have hr_plain := hr
  exact (cb_one (cs_ret (ce_call C F_plain hr_plain (by rfl) (ca_cons (ce_bin (op_mulA2 C) (ce_ix (ix_A C) (nP 0) ce_int.ck (fun _ _ => rfl)).ck (ce_ix (ix_A C) (nP 1) ce_int.ck (fun _ _ => rfl)).ck) (ca_cons (ce_bin (op_mulA2 C) (ce_ix (ix_A C) (nP 0) ce_int.ck (fun _ _ => rfl)).ck (ce_ix (ix_A C) (nP 1) ce_int.ck (fun _ _ => rfl)).ck) ca_nil)))))
theorem sc_total : FnScope N_total ["some"] (defScope st_total) := ⟨rfl, rfl, rfl, by decide +kernel, rfl, by decide +kernel, by decide +kernel⟩
theorem fp_total {c : Ct} {P : Program} {mg : Str → Option Value} {base : Heap} {k : Nat} {f : Addr} {fd : FuncData} (F : Fun c.K "total" "total" st_total f fd) (hm : mg "total" = some (.ref f)) (hb : Binds c.K fd ["some"] []) (hblt : ∀ y ∈ bltNames, mg y = none)   (F_plain : FP c P mg base k "plain" f_plain) : FP c P mg base (k + 1) "total" f_total := by
  refine fp_mk F sc_total hm hb hblt (m := (sSeq (sSet (.one 1) (eC (.int 0)))
  (sSeq (sSet (.one 2) (eC (.int 1)))
  (sSeq (sFor (.one 3) (iSeqA (eV 0))
    (sSeq (sSet (.one 1) (o2 sAddA (kE (o2 sMulA (kP 1) (kE (o2 sIxA (kP 3) (kE (eC (.int 1))))))) (kE (o2 sMulA (kE (o2 sIxA (kP 3) (kE (eC (.int 0))))) (kP 2)))))
  (sSeq (sSet (.one 2) (o2 sMulA (kP 2) (kE (o2 sIxA (kP 3) (kE (eC (.int 1)))))))
  (sSet (.many [1, 2]) (eCall f_plain (esCons (eV 1) (esCons (eV 2) esNil)))))))
  (sRet (eTup (esCons (eV 1) (esCons (eV 2) esNil)))))))) fun cdv A outer s H E C hr => ?_
  have hr_plain := hr
  exact (cb_cons (sN C 1 ce_int)
  (cb_cons (sN C 2 ce_int)
  (cb_cons (cs_for C (ci_seqA C (nV 0)) (gN C 3)
    (cb_cons (sN C 1 (ce_bin (op_addA C) (ce_bin (op_mulA2 C) (nP 1) (ce_ix (ix_A C) (nP 3) ce_int.ck (fun _ _ => rfl)).ck).ck (ce_bin (op_mulA2 C) (ce_ix (ix_A C) (nP 3) ce_int.ck (fun _ _ => rfl)).ck (nP 2)).ck))
  (cb_cons (sN C 2 (ce_bin (op_mulA2 C) (nP 2) (ce_ix (ix_A C) (nP 3) ce_int.ck (fun _ _ => rfl)).ck))
  (cb_one (cs_setT (cg_tup C (gNs C 1 (gNs C 2 cgs_nil))) (ce_call C F_plain hr_plain (by rfl) (ca_cons (nV 1) (ca_cons (nV 2) ca_nil))))))))
  (cb_one (cs_ret (ce_tup (ca_cons (nV 1) (ca_cons (nV 2) ca_nil))))))))
theorem sc_is_less : FnScope N_is_less ["one", "other"] (defScope st_is_less) := ⟨rfl, rfl, rfl, by decide +kernel, rfl, by decide +kernel, by decide +kernel⟩
theorem fp_is_less {c : Ct} {P : Program} {mg : Str → Option Value} {base : Heap} {k : Nat} {f : Addr} {fd : FuncData} (F : Fun c.K "is_less" "is_less" st_is_less f fd) (hm : mg "is_less" = some (.ref f)) (hb : Binds c.K fd ["one", "other"] []) (hblt : ∀ y ∈ bltNames, mg y = none)    : FP c P mg base (k + 1) "is_less" f_is_less := by
  refine fp_mk F sc_is_less hm hb hblt (m := (sRet (o2 sLt (kE (o2 sMulA (kE (o2 sIxA (kP 0) (kE (eC (.int 0))))) (kE (o2 sIxA (kP 1) (kE (eC (.int 1))))))) (kE (o2 sMulA (kE (o2 sIxA (kP 1) (kE (eC (.int 0))))) (kE (o2 sIxA (kP 0) (kE (eC (.int 1)))))))))) fun cdv A outer s H E C hr => ?_
  exact (cb_one (cs_ret (ce_cmp op_ltV (ce_bin (op_mulA2 C) (ce_ix (ix_A C) (nP 0) ce_int.ck (fun _ _ => rfl)).ck (ce_ix (ix_A C) (nP 1) ce_int.ck (fun _ _ => rfl)).ck).ck (ce_bin (op_mulA2 C) (ce_ix (ix_A C) (nP 1) ce_int.ck (fun _ _ => rfl)).ck (ce_ix (ix_A C) (nP 0) ce_int.ck (fun _ _ => rfl)).ck).ck (by rfl))))
theorem sc_keeps : FnScope N_keeps ["dice"] (defScope st_keeps) := ⟨rfl, rfl, rfl, by decide +kernel, rfl, by decide +kernel, by decide +kernel⟩
theorem fp_keeps {c : Ct} {P : Program} {mg : Str → Option Value} {base : Heap} {k : Nat} {f : Addr} {fd : FuncData} (F : Fun c.K "keeps" "keeps" st_keeps f fd) (hm : mg "keeps" = some (.ref f)) (hb : Binds c.K fd ["dice"] []) (hblt : ∀ y ∈ bltNames, mg y = none)    : FP c P mg base (k + 1) "keeps" f_keeps := by
  refine fp_mk F sc_keeps hm hb hblt (m := (sSeq (sOwn 1 (eD1 (eTup esNil) (eC (.bool true))))
  (sSeq (sFor (.one 2) (iSeqA (eV 0))
    (sFor (.one 3) (iSeqA (o1 sListA (kP 1)))
    (sPut 1 (o2 sAddA (kP 3) (kE (eTup (esCons (eV 2) esNil)))) (eC (.bool true)))))
  (sRet (o1 sTuple (kE (o1 sSorted (kP 1)))))))) fun cdv A outer s H E C hr => ?_
  exact (cb_cons (sO C 1 (cf_d1 C (ce_tup ca_nil) ce_bl))
  (cb_cons (cs_for C (ci_seqA C (nV 0)) (gN C 2)
    (cb_one (cs_for C (ci_seqA C (cf_t1 C (fp_listA C) (by rfl) (by decide) (by decide +kernel) (nP 1)).ce) (gN C 3)
    (cb_one (cs_putF (i := 1) C (ce_bin (op_addA C) (nP 3) (ce_tup (ca_cons (nV 2) ca_nil)).ck) ce_bl)))))
  (cb_one (cs_ret (ce_t1 C (op_tupleV C) (by rfl) (by decide) (by decide +kernel) (cf_b1 C (fp_sortedV C) (by rfl) (by decide) (by decide +kernel) (nP 1)).ce.ck)))))
theorem sc_moves : FnScope N_moves ["game", "stand"] (defScope st_moves) := ⟨rfl, rfl, rfl, by decide +kernel, rfl, by decide +kernel, by decide +kernel⟩
theorem fp_moves {c : Ct} {P : Program} {mg : Str → Option Value} {base : Heap} {k : Nat} {f : Addr} {fd : FuncData} (F : Fun c.K "moves" "moves" st_moves f fd) (hm : mg "moves" = some (.ref f)) (hb : Binds c.K fd ["game", "stand"] []) (hblt : ∀ y ∈ bltNames, mg y = none)   (F_keeps : FP c P mg base k "keeps" f_keeps) : FP c P mg base (k + 1) "moves" f_moves := by
  refine fp_mk F sc_moves hm hb hblt (m := (sSeq (sSet (.many [2, 3, 4]) (eV 1))
  (sSeq (sOwn 5 (eComp (iSeqA (eV 2)) (.one 6) eTrue (eTup (esCons (eC (.str "fill")) (esCons (eV 6) esNil))) [6]))
  (sSeq (sIf (o2 sGt (kP 3) (kE (eC (.int 0)))) (sExt 5 (eComp (iSeqA (eCall f_keeps (esCons (eV 4) esNil))) (.one 7) eTrue (eTup (esCons (eC (.str "keep")) (esCons (eV 7) esNil))) [7])) sNil)
  (sRet (o1 sTuple (kP 5))))))) fun cdv A outer s H E C hr => ?_
  have hr_keeps := hr
  exact (cb_cons (cs_setT (cg_tup C (gNs C 2 (gNs C 3 (gNs C 4 cgs_nil)))) (nV 1))
  (cb_cons (cs_ownC C (by rfl) (by rfl) (by rfl) (ci_seqA C (nV 2)) (blkOk_by (N := N_moves) (sc := (defScope st_moves)) (scope := scE (atSE st_moves [1] 0 [])) (own := [("k", 6)]) (by decide +kernel)) (by decide) (fun s1 H1 K1 cl1 fp1 => (gN (C.inn s1 H1 (scE (atSE st_moves [1] 0 [])) K1 cl1 fp1) 6)) (fun s1 H1 K1 cl1 fp1 => pts_true) (fun s1 H1 K1 cl1 fp1 => (ce_tup (ca_cons ce_str (ca_cons (nV 6) ca_nil)))))
  (cb_cons (cs_if (ct_cmp op_gtV (nP 3) ce_int.ck (by rfl)) (cb_one (cs_ext (i := 5) (by rfl) (by first | exact .inl rfl | exact .inr (.inl rfl) | exact .inr (.inr rfl)) (cf_comp C (ci_seqA C (ce_call C F_keeps hr_keeps (by rfl) (ca_cons (nV 4) ca_nil))) (blkOk_by (N := N_moves) (sc := (defScope st_moves)) (scope := scE (atSE st_moves [2, 0] 0 [1])) (own := [("kept", 7)]) (by decide +kernel)) (by decide) (fun s1 H1 K1 cl1 fp1 => (gN (C.inn s1 H1 (scE (atSE st_moves [2, 0] 0 [1])) K1 cl1 fp1) 7)) (fun s1 H1 K1 cl1 fp1 => pts_true) (fun s1 H1 K1 cl1 fp1 => (ce_tup (ca_cons ce_str (ca_cons (nV 7) ca_nil))))))) cb_nil)
  (cb_one (cs_ret (ce_t1 C (op_tupleV C) (by rfl) (by decide) (by decide +kernel) (nP 5)))))))
theorem sc_Chances_of_move : FnScope N_Chances_of_move ["self", "need", "stand", "move"] (defScope st_Chances_of_move) := ⟨rfl, rfl, rfl, by decide +kernel, rfl, by decide +kernel, by decide +kernel⟩
theorem fp_Chances_of_move {c : Ct} {P : Program} {mg : Str → Option Value} {base : Heap} {k : Nat} {r : O → List D → Option (D × O)} {f : Addr} {fd : FuncData} (F : Fun c.K "of_move" "Chances.of_move" st_Chances_of_move f fd) {C0 : Addr} (hC : c.ci 0 = some C0) (hcl : Cls c.K C0) (hM : Meth c.K C0 "of_move" f) (hb : Binds c.K fd ["self", "need", "stand", "move"] []) (hblt : ∀ y ∈ bltNames, mg y = none) (ci_game : CiOk c "game")  (F_Chances_known_of : FM c P mg base k 0 "known_of" r) (F_comes : FP c P mg base k "comes" f_comes) (F_times : FP c P mg base k "times" f_times) (F_total : FP c P mg base k "total" f_total) : FM c P mg base (k + 1) 0 "of_move" (f_Chances_of_move r) := by
  refine fm_mk F sc_Chances_of_move hC hcl hM hb hblt (m := (sSeq (sSet (.many [4, 5]) (eCall f_comes (esCons (eQ (.f 0 "game")) (esCons (eV 2) (esCons (eV 3) esNil)))))
  (sSeq (sIf (o2 sEq (kE (o1 sLenA (kP 5))) (kE (eC (.int 0)))) (sRet (eTup (esCons (o1 sInt (kE (o2 sGe (kP 4) (kP 1)))) (esCons (eC (.int 1)) esNil)))) sNil)
  (sRet (eCall f_total (esCons (eComp (iSeqA (eV 5)) (.many [6, 7]) eTrue (eCall f_times (esCons (eV 7) (esCons (o2 sIxA (kE (eMeth 0 0 "known_of" r (esCons (o2 sSub (kP 1) (kP 4)) (esCons (eV 6) esNil)))) (kE (eC (.int 0)))) esNil))) [6, 7]) esNil)))))) fun t cdv A outer s H E C hr => ?_
  have hr_Chances_known_of := hr
  replace F_Chances_known_of := F_Chances_known_of.tau (t := t)
  have hr_comes := hr
  replace F_comes := F_comes.tau (t := t)
  have hr_times := hr
  replace F_times := F_times.tau (t := t)
  have hr_total := hr
  replace F_total := F_total.tau (t := t)
  exact (cb_cons (cs_setT (cg_tup C (gNs C 4 (gNs C 5 cgs_nil))) (ce_call C F_comes hr_comes (by rfl) (ca_cons (ce_q (cpl_f C ci_game 0)) (ca_cons (nV 2) (ca_cons (nV 3) ca_nil)))))
  (cb_cons (cs_if (ct_cmp (op_eqV C) (ce_b1 C (op_lenA C) (by rfl) (by decide) (by decide +kernel) (nP 5)).ck ce_int.ck (by rfl)) (cb_one (cs_ret (ce_tup (ca_cons (ce_t1 C op_intV (by rfl) (by decide) (by decide +kernel) (ce_cmp op_geV (nP 4) (nP 1) (by rfl)).ck) (ca_cons ce_int ca_nil))))) cb_nil)
  (cb_one (cs_ret (ce_call C F_total hr_total (by rfl) (ca_cons (cf_comp C (ci_seqA C (nV 5)) (blkOk_by (N := N_Chances_of_move) (sc := (defScope st_Chances_of_move)) (scope := scE (atSE st_Chances_of_move [2] 0 [1])) (own := [("new", 6), ("share", 7)]) (by decide +kernel)) (by decide) (fun s1 H1 K1 cl1 fp1 => (cg_tup (C.inn s1 H1 (scE (atSE st_Chances_of_move [2] 0 [1])) K1 cl1 fp1) (gNs (C.inn s1 H1 (scE (atSE st_Chances_of_move [2] 0 [1])) K1 cl1 fp1) 6 (gNs (C.inn s1 H1 (scE (atSE st_Chances_of_move [2] 0 [1])) K1 cl1 fp1) 7 cgs_nil)))) (fun s1 H1 K1 cl1 fp1 => pts_true) (fun s1 H1 K1 cl1 fp1 => (ce_call (C.inn s1 H1 (scE (atSE st_Chances_of_move [2] 0 [1])) K1 cl1 fp1) F_times hr_times (by rfl) (ca_cons (nV 7) (ca_cons (ce_ix (ix_A (C.inn s1 H1 (scE (atSE st_Chances_of_move [2] 0 [1])) K1 cl1 fp1)) (ce_meth (pl := _) (C.inn s1 H1 (scE (atSE st_Chances_of_move [2] 0 [1])) K1 cl1 fp1) F_Chances_known_of hr_Chances_known_of 0 (ca_cons (ce_bin op_subV (nP 1) (nP 4)) (ca_cons (nV 6) ca_nil))).ck ce_int.ck (fun _ _ => rfl)) ca_nil))))).ce ca_nil))))))
theorem sc_Chances_known_of : FnScope N_Chances_known_of ["self", "need", "stand"] (defScope st_Chances_known_of) := ⟨rfl, rfl, rfl, by decide +kernel, rfl, by decide +kernel, by decide +kernel⟩
theorem fp_Chances_known_of {c : Ct} {P : Program} {mg : Str → Option Value} {base : Heap} {k : Nat} {r : O → List D → Option (D × O)} {f : Addr} {fd : FuncData} (F : Fun c.K "known_of" "Chances.known_of" st_Chances_known_of f fd) {C0 : Addr} (hC : c.ci 0 = some C0) (hcl : Cls c.K C0) (hM : Meth c.K C0 "known_of" f) (hb : Binds c.K fd ["self", "need", "stand"] []) (hblt : ∀ y ∈ bltNames, mg y = none) (ci_game : CiOk c "game") (ci_known : CiOk c "known")  (F_Chances_of_move : FM c P mg base k 0 "of_move" (f_Chances_of_move r)) (F_is_less : FP c P mg base k "is_less" f_is_less) (F_moves : FP c P mg base k "moves" f_moves) : FM c P mg base (k + 1) 0 "known_of" (f_Chances_known_of_step r) := by
  refine fm_mk F sc_Chances_known_of hC hcl hM hb hblt (m := (sSeq (sIf (o2Q sNinA (eTup (esCons (eV 1) (esCons (eV 2) esNil))) (.f 0 "known")) (sSeq (sSet (.one 3) (eC .none))
  (sSeq (sFor (.one 4) (iSeqA (eCall f_moves (esCons (eQ (.f 0 "game")) (esCons (eV 2) esNil))))
    (sSeq (sSet (.one 5) (eMeth 0 0 "of_move" (f_Chances_of_move r) (esCons (eV 1) (esCons (eV 2) (esCons (eV 4) esNil)))))
  (sIf (eOr (o2 sIs (kP 3) (kE (eC .none))) (eCall f_is_less (esCons (o2 sIxA (kP 3) (kE (eC (.int 0)))) (esCons (eV 5) esNil)))) (sSet (.one 3) (eTup (esCons (eV 5) (esCons (eV 4) esNil)))) sNil)))
  (sPutQ (.f 0 "known") (pTup (psCons (pQ (.s 1)) (psCons (pQ (.s 2)) psNil))) (eV 3)))) sNil)
  (sRet (ixQ sIxA (.f 0 "known") (pTup (psCons (pQ (.s 1)) (psCons (pQ (.s 2)) psNil))))))) fun t cdv A outer s H E C hr => ?_
  have hr_Chances_of_move := hr
  replace F_Chances_of_move := F_Chances_of_move.tau (t := t)
  have hr_is_less := hr
  replace F_is_less := F_is_less.tau (t := t)
  have hr_moves := hr
  replace F_moves := F_moves.tau (t := t)
  exact (cb_cons (cs_if (ct_cmpQ (op_ninA C) (ce_tup (ca_cons (nV 1) (ca_cons (nV 2) ca_nil))) (cpl_f C ci_known 0) (by rfl)) (cb_cons (sN C 3 ce_non)
  (cb_cons (cs_for C (ci_seqA C (ce_call C F_moves hr_moves (by rfl) (ca_cons (ce_q (cpl_f C ci_game 0)) (ca_cons (nV 2) ca_nil)))) (gN C 4)
    (cb_cons (sN C 5 (ce_meth (pl := _) C F_Chances_of_move hr_Chances_of_move 0 (ca_cons (nV 1) (ca_cons (nV 2) (ca_cons (nV 4) ca_nil)))))
  (cb_one (cs_if (cw_or (ct_cmp op_isV (nP 3) ce_non.ck (by rfl)) (cw_or1 (ce_call C F_is_less hr_is_less (by rfl) (ca_cons (ce_ix (ix_A C) (nP 3) ce_int.ck (fun _ _ => rfl)) (ca_cons (nV 5) ca_nil))).ct)).ct (cb_one (sN C 3 (ce_tup (ca_cons (nV 5) (ca_cons (nV 4) ca_nil))))) cb_nil))))
  (cb_one (cs_putQ C (cpl_f C ci_known 0) (cp_tup (cps_cons (cp_q (cpl_s 1)) (cps_cons (cp_q (cpl_s 2)) cps_nil))) (nV 3))))) cb_nil)
  (cb_one (cs_ret (ce_ixQ (ix_A C) (cpl_f C ci_known 0) (cp_tup (cps_cons (cp_q (cpl_s 1)) (cps_cons (cp_q (cpl_s 2)) cps_nil))) (fun _ _ => rfl)))))
theorem sc_goal_chance : FnScope N_goal_chance ["game", "goal", "had", "stand"] (defScope st_goal_chance) := ⟨rfl, rfl, rfl, by decide +kernel, rfl, by decide +kernel, by decide +kernel⟩
theorem fp_goal_chance {c : Ct} {P : Program} {mg : Str → Option Value} {base : Heap} {k : Nat} {f : Addr} {fd : FuncData} (F : Fun c.K "goal_chance" "goal_chance" st_goal_chance f fd) (hm : mg "goal_chance" = some (.ref f)) (hb : Binds c.K fd ["game", "goal", "had", "stand"] []) (hblt : ∀ y ∈ bltNames, mg y = none)   (F_Chances_init : FI c P mg base k "Chances" 0 f_Chances_init) (F_Chances_known_of : FM c P mg base (k + 1) 0 "known_of" (f_Chances_known_of 16)) : FP c P mg base (k + 1 + 1) "goal_chance" f_goal_chance := by
  refine fp_mk F sc_goal_chance hm hb hblt (m := (sRet (o2 sIxA (kE (eMethT (oMake 0 f_Chances_init (esCons (eV 0) esNil)) 0 "known_of" (f_Chances_known_of 16) (esCons (o2 sSub (kP 1) (kP 2)) (esCons (eV 3) esNil)))) (kE (eC (.int 0)))))) fun cdv A outer s H E C hr => ?_
  have hr_Chances_init := hr
  have hr_Chances_known_of := hr
  exact (cb_one (cs_ret (ce_ix (ix_A C) (ce_methT (pl := _) C F_Chances_known_of hr_Chances_known_of (co_make C F_Chances_init hr_Chances_init (by rfl) (ca_cons (nV 0) ca_nil)) (ca_cons (ce_bin op_subV (nP 1) (nP 2)) (ca_cons (nV 3) ca_nil))).ck ce_int.ck (fun _ _ => rfl))))
theorem sc_law_made : FnScope N_law_made ["_law_game_here", "_law_goal", "_law_had", "_law_stand_here", "_law_move"] (defScope st_law_made) := ⟨rfl, rfl, rfl, by decide +kernel, rfl, by decide +kernel, by decide +kernel⟩
theorem fp_law_made {c : Ct} {P : Program} {mg : Str → Option Value} {base : Heap} {k : Nat} {f : Addr} {fd : FuncData} (F : Fun c.K "_law_made" "_law_made" st_law_made f fd) (hm : mg "_law_made" = some (.ref f)) (hb : Binds c.K fd ["_law_game_here", "_law_goal", "_law_had", "_law_stand_here", "_law_move"] []) (hblt : ∀ y ∈ bltNames, mg y = none)   (F_law_sum : FP c P mg base k "_law_sum" f_law_sum) (F_comes : FP c P mg base k "comes" f_comes) (F_goal_chance : FP c P mg base k "goal_chance" f_goal_chance) : FP c P mg base (k + 1) "_law_made" f_law_made := by
  refine fp_mk F sc_law_made hm hb hblt (m := (sSeq (sSet (.many [5, 6]) (eCall f_comes (esCons (eV 0) (esCons (eV 3) (esCons (eV 4) esNil)))))
  (sSeq (sIf (o2 sEq (kP 6) (kE (eTup esNil))) (sRet (eTup (esCons (o1 sInt (kE (o2 sGe (kE (o2 sAddA (kP 2) (kP 5))) (kP 1)))) (esCons (eC (.int 1)) esNil)))) sNil)
  (sRet (eCall f_law_sum (esCons (eComp (iSeqA (eV 6)) (.many [7, 8]) eTrue (eTup (esCons (eV 8) (esCons (eCall f_goal_chance (esCons (eV 0) (esCons (eV 1) (esCons (o2 sAddA (kP 2) (kP 5)) (esCons (eV 7) esNil))))) esNil))) [7, 8]) esNil)))))) fun cdv A outer s H E C hr => ?_
  have hr_law_sum := hr
  have hr_comes := hr
  have hr_goal_chance := hr
  exact (cb_cons (cs_setT (cg_tup C (gNs C 5 (gNs C 6 cgs_nil))) (ce_call C F_comes hr_comes (by rfl) (ca_cons (nV 0) (ca_cons (nV 3) (ca_cons (nV 4) ca_nil)))))
  (cb_cons (cs_if (ct_cmp (op_eqV C) (nP 6) (ce_tup ca_nil).ck (by rfl)) (cb_one (cs_ret (ce_tup (ca_cons (ce_t1 C op_intV (by rfl) (by decide) (by decide +kernel) (ce_cmp op_geV (ce_bin (op_addA C) (nP 2) (nP 5)).ck (nP 1) (by rfl)).ck) (ca_cons ce_int ca_nil))))) cb_nil)
  (cb_one (cs_ret (ce_call C F_law_sum hr_law_sum (by rfl) (ca_cons (cf_comp C (ci_seqA C (nV 6)) (blkOk_by (N := N_law_made) (sc := (defScope st_law_made)) (scope := scE (atSE st_law_made [2] 0 [1])) (own := [("_law_one", 7), ("_law_share", 8)]) (by decide +kernel)) (by decide) (fun s1 H1 K1 cl1 fp1 => (cg_tup (C.inn s1 H1 (scE (atSE st_law_made [2] 0 [1])) K1 cl1 fp1) (gNs (C.inn s1 H1 (scE (atSE st_law_made [2] 0 [1])) K1 cl1 fp1) 7 (gNs (C.inn s1 H1 (scE (atSE st_law_made [2] 0 [1])) K1 cl1 fp1) 8 cgs_nil)))) (fun s1 H1 K1 cl1 fp1 => pts_true) (fun s1 H1 K1 cl1 fp1 => (ce_tup (ca_cons (nV 8) (ca_cons (ce_call (C.inn s1 H1 (scE (atSE st_law_made [2] 0 [1])) K1 cl1 fp1) F_goal_chance hr_goal_chance (by rfl) (ca_cons (nV 0) (ca_cons (nV 1) (ca_cons (ce_bin (op_addA (C.inn s1 H1 (scE (atSE st_law_made [2] 0 [1])) K1 cl1 fp1)) (nP 2) (nP 5)) (ca_cons (nV 7) ca_nil))))) ca_nil))))).ce ca_nil))))))
theorem sc_law_cell_at : FnScope N_law_cell_at ["_law_script", "_law_k"] (defScope st_law_cell_at) := ⟨rfl, rfl, rfl, by decide +kernel, rfl, by decide +kernel, by decide +kernel⟩
theorem fp_law_cell_at {c : Ct} {P : Program} {mg : Str → Option Value} {base : Heap} {k : Nat} {f : Addr} {fd : FuncData} (F : Fun c.K "_law_cell_at" "_law_cell_at" st_law_cell_at f fd) (hm : mg "_law_cell_at" = some (.ref f)) (hb : Binds c.K fd ["_law_script", "_law_k"] []) (hblt : ∀ y ∈ bltNames, mg y = none)    : FP c P mg base (k + 1) "_law_cell_at" f_law_cell_at := by
  refine fp_mk F sc_law_cell_at hm hb hblt (m := (sSeq (sIf (o2 sLt (kP 1) (kE (o1 sLenA (kP 0)))) (sRet (o2 sIxA (kP 0) (kP 1))) sNil)
  (sRet (eC (.int 0))))) fun cdv A outer s H E C hr => ?_
  exact (cb_cons (cs_if (ct_cmp op_ltV (nP 1) (ce_b1 C (op_lenA C) (by rfl) (by decide) (by decide +kernel) (nP 0)).ck (by rfl)) (cb_one (cs_ret (ce_ix (ix_A C) (nP 0) (nP 1) (fun _ _ => rfl)))) cb_nil)
  (cb_one (cs_ret ce_int)))
theorem sc_law_mixed : FnScope N_law_mixed ["_law_script", "_law_k"] (defScope st_law_mixed) := ⟨rfl, rfl, rfl, by decide +kernel, rfl, by decide +kernel, by decide +kernel⟩
theorem fp_law_mixed {c : Ct} {P : Program} {mg : Str → Option Value} {base : Heap} {k : Nat} {f : Addr} {fd : FuncData} (F : Fun c.K "_law_mixed" "_law_mixed" st_law_mixed f fd) (hm : mg "_law_mixed" = some (.ref f)) (hb : Binds c.K fd ["_law_script", "_law_k"] []) (hblt : ∀ y ∈ bltNames, mg y = none)   (F_law_cell_at : FP c P mg base k "_law_cell_at" f_law_cell_at) : FP c P mg base (k + 1) "_law_mixed" f_law_mixed := by
  refine fp_mk F sc_law_mixed hm hb hblt (m := (sSeq (sSet (.one 2) (o2 sMod (kE (o2 sMulA (kE (o2 sAddA (kE (o2 sAddA (kE (eCall f_law_cell_at (esCons (eV 0) (esCons (eV 1) esNil)))) (kE (o2 sMulA (kE (eC (.int 7919))) (kP 1))))) (kE (eC (.int 1))))) (kE (eC (.int 48271))))) (kE (eC (.int 2147483647)))))
  (sRet (o2 sMod (kE (o2 sAddA (kE (o2 sAddA (kE (o2 sMulA (kP 2) (kP 2))) (kE (o2 sMulA (kE (eC (.int 7))) (kP 2))))) (kP 1))) (kE (eC (.int 2147483629))))))) fun cdv A outer s H E C hr => ?_
  have hr_law_cell_at := hr
  exact (cb_cons (sN C 2 (ce_bin op_modV (ce_bin (op_mulA2 C) (ce_bin (op_addA C) (ce_bin (op_addA C) (ce_call C F_law_cell_at hr_law_cell_at (by rfl) (ca_cons (nV 0) (ca_cons (nV 1) ca_nil))).ck (ce_bin (op_mulA2 C) ce_int.ck (nP 1)).ck).ck ce_int.ck).ck ce_int.ck).ck ce_int.ck))
  (cb_one (cs_ret (ce_bin op_modV (ce_bin (op_addA C) (ce_bin (op_addA C) (ce_bin (op_mulA2 C) (nP 2) (nP 2)).ck (ce_bin (op_mulA2 C) ce_int.ck (nP 2)).ck).ck (nP 1)).ck ce_int.ck))))
theorem sc_law_dice : FnScope N_law_dice ["_law_game_here", "_law_number"] (defScope st_law_dice) := ⟨rfl, rfl, rfl, by decide +kernel, rfl, by decide +kernel, by decide +kernel⟩
theorem fp_law_dice {c : Ct} {P : Program} {mg : Str → Option Value} {base : Heap} {k : Nat} {f : Addr} {fd : FuncData} (F : Fun c.K "_law_dice" "_law_dice" st_law_dice f fd) (hm : mg "_law_dice" = some (.ref f)) (hb : Binds c.K fd ["_law_game_here", "_law_number"] []) (hblt : ∀ y ∈ bltNames, mg y = none)   (F_law_drawn : FP c P mg base k "_law_drawn" f_law_drawn) : FP c P mg base (k + 1) "_law_dice" f_law_dice := by
  refine fp_mk F sc_law_dice hm hb hblt (m := (sRet (o1 sTuple (kE (o1 sSorted (kE (eComp (iR1 (o2 sIxA (kP 0) (kE (eC (.int 0))))) (.one 2) eTrue (o2 sAddA (kE (eC (.int 1))) (kE (o2 sMod (kE (o2 sDiv (kE (eCall f_law_drawn (esCons (eV 1) (esCons (o2 sAddA (kE (eC (.int 30))) (kP 2)) esNil)))) (kE (eC (.int 4))))) (kE (o2 sIxA (kP 0) (kE (eC (.int 1)))))))) [2]))))))) fun cdv A outer s H E C hr => ?_
  have hr_law_drawn := hr
  exact (cb_one (cs_ret (ce_t1 C (op_tupleV C) (by rfl) (by decide) (by decide +kernel) (cf_b1 C (fp_sortedV C) (by rfl) (by decide) (by decide +kernel) (cf_comp C (ci_range1 C (by rfl) (ce_ix (ix_A C) (nP 0) ce_int.ck (fun _ _ => rfl))) (blkOk_by (N := N_law_dice) (sc := (defScope st_law_dice)) (scope := scE (atSE st_law_dice [0] 0 [1, 1])) (own := [("_law_k", 2)]) (by decide +kernel)) (by decide) (fun s1 H1 K1 cl1 fp1 => (gN (C.inn s1 H1 (scE (atSE st_law_dice [0] 0 [1, 1])) K1 cl1 fp1) 2)) (fun s1 H1 K1 cl1 fp1 => pts_true) (fun s1 H1 K1 cl1 fp1 => (ce_bin (op_addA (C.inn s1 H1 (scE (atSE st_law_dice [0] 0 [1, 1])) K1 cl1 fp1)) ce_int.ck (ce_bin op_modV (ce_bin op_divV (ce_call (C.inn s1 H1 (scE (atSE st_law_dice [0] 0 [1, 1])) K1 cl1 fp1) F_law_drawn hr_law_drawn (by rfl) (ca_cons (nV 1) (ca_cons (ce_bin (op_addA (C.inn s1 H1 (scE (atSE st_law_dice [0] 0 [1, 1])) K1 cl1 fp1)) ce_int.ck (nP 2)) ca_nil))).ck ce_int.ck).ck (ce_ix (ix_A (C.inn s1 H1 (scE (atSE st_law_dice [0] 0 [1, 1])) K1 cl1 fp1)) (nP 0) ce_int.ck (fun _ _ => rfl)).ck).ck))).ce.ck).ce.ck)))
theorem sc_law_stand : FnScope N_law_stand ["_law_game_here", "_law_number"] (defScope st_law_stand) := ⟨rfl, rfl, rfl, by decide +kernel, rfl, by decide +kernel, by decide +kernel⟩
theorem fp_law_stand {c : Ct} {P : Program} {mg : Str → Option Value} {base : Heap} {k : Nat} {f : Addr} {fd : FuncData} (F : Fun c.K "_law_stand" "_law_stand" st_law_stand f fd) (hm : mg "_law_stand" = some (.ref f)) (hb : Binds c.K fd ["_law_game_here", "_law_number"] []) (hblt : ∀ y ∈ bltNames, mg y = none)   (F_law_dice : FP c P mg base k "_law_dice" f_law_dice) : FP c P mg base (k + 1) "_law_stand" f_law_stand := by
  refine fp_mk F sc_law_stand hm hb hblt (m := (sSeq (sOwn 2 (eComp (iR1 (o1 sLenA (kE (o2 sIxA (kP 0) (kE (eC (.int 3))))))) (.one 3) (o2 sEq (kE (o2 sMod (kE (o2 sDiv (kP 1) (kE (o2 sIxA (kE (eTup (esCons (eC (.int 1)) (esCons (eC (.int 2)) (esCons (eC (.int 4)) (esCons (eC (.int 8)) esNil)))))) (kP 3))))) (kE (eC (.int 2))))) (kE (eC (.int 1)))) (eV 3) [3]))
  (sSeq (sIf (o2 sEq (kP 2) (kE (eLst esNil))) (sSet (.one 2) (eLst (esCons (o2 sMod (kE (o2 sDiv (kP 1) (kE (eC (.int 16))))) (kE (o1 sLenA (kE (o2 sIxA (kP 0) (kE (eC (.int 3)))))))) esNil))) sNil)
  (sRet (eTup (esCons (o1 sTuple (kP 2)) (esCons (o2 sMod (kE (o2 sDiv (kP 1) (kE (eC (.int 64))))) (kE (o2 sIxA (kP 0) (kE (eC (.int 2)))))) (esCons (eCall f_law_dice (esCons (eV 0) (esCons (eV 1) esNil))) esNil)))))))) fun cdv A outer s H E C hr => ?_
  have hr_law_dice := hr
  exact (cb_cons (cs_ownC C (by rfl) (by rfl) (by rfl) (ci_range1 C (by rfl) (ce_b1 C (op_lenA C) (by rfl) (by decide) (by decide +kernel) (ce_ix (ix_A C) (nP 0) ce_int.ck (fun _ _ => rfl)).ck)) (blkOk_by (N := N_law_stand) (sc := (defScope st_law_stand)) (scope := scE (atSE st_law_stand [0] 0 [])) (own := [("_law_k", 3)]) (by decide +kernel)) (by decide) (fun s1 H1 K1 cl1 fp1 => (gN (C.inn s1 H1 (scE (atSE st_law_stand [0] 0 [])) K1 cl1 fp1) 3)) (fun s1 H1 K1 cl1 fp1 => (pts_test (ct_cmp (op_eqV (C.inn s1 H1 (scE (atSE st_law_stand [0] 0 [])) K1 cl1 fp1)) (ce_bin op_modV (ce_bin op_divV (nP 1) (ce_ix (ix_A (C.inn s1 H1 (scE (atSE st_law_stand [0] 0 [])) K1 cl1 fp1)) (ce_tup (ca_cons ce_int (ca_cons ce_int (ca_cons ce_int (ca_cons ce_int ca_nil))))).ck (nP 3) (fun _ _ => rfl)).ck).ck ce_int.ck).ck ce_int.ck (by rfl)))) (fun s1 H1 K1 cl1 fp1 => (nV 3)))
  (cb_cons (cs_if (ct_cmp (op_eqV C) (nP 2) (cf_lst ca_nil).ce.ck (by rfl)) (cb_one (sN C 2 (cf_lst (ca_cons (ce_bin op_modV (ce_bin op_divV (nP 1) ce_int.ck).ck (ce_b1 C (op_lenA C) (by rfl) (by decide) (by decide +kernel) (ce_ix (ix_A C) (nP 0) ce_int.ck (fun _ _ => rfl)).ck).ck) ca_nil)).ce)) cb_nil)
  (cb_one (cs_ret (ce_tup (ca_cons (ce_t1 C (op_tupleV C) (by rfl) (by decide) (by decide +kernel) (nP 2)) (ca_cons (ce_bin op_modV (ce_bin op_divV (nP 1) ce_int.ck).ck (ce_ix (ix_A C) (nP 0) ce_int.ck (fun _ _ => rfl)).ck) (ca_cons (ce_call C F_law_dice hr_law_dice (by rfl) (ca_cons (nV 0) (ca_cons (nV 1) ca_nil))) ca_nil))))))))
theorem sc_goal_move : FnScope N_goal_move ["game", "goal", "had", "stand"] (defScope st_goal_move) := ⟨rfl, rfl, rfl, by decide +kernel, rfl, by decide +kernel, by decide +kernel⟩
theorem fp_goal_move {c : Ct} {P : Program} {mg : Str → Option Value} {base : Heap} {k : Nat} {f : Addr} {fd : FuncData} (F : Fun c.K "goal_move" "goal_move" st_goal_move f fd) (hm : mg "goal_move" = some (.ref f)) (hb : Binds c.K fd ["game", "goal", "had", "stand"] []) (hblt : ∀ y ∈ bltNames, mg y = none)   (F_Chances_init : FI c P mg base k "Chances" 0 f_Chances_init) (F_Chances_known_of : FM c P mg base (k + 1) 0 "known_of" (f_Chances_known_of 16)) : FP c P mg base (k + 1 + 1) "goal_move" f_goal_move := by
  refine fp_mk F sc_goal_move hm hb hblt (m := (sRet (o2 sIxA (kE (eMethT (oMake 0 f_Chances_init (esCons (eV 0) esNil)) 0 "known_of" (f_Chances_known_of 16) (esCons (o2 sSub (kP 1) (kP 2)) (esCons (eV 3) esNil)))) (kE (eC (.int 1)))))) fun cdv A outer s H E C hr => ?_
  have hr_Chances_init := hr
  have hr_Chances_known_of := hr
  exact (cb_one (cs_ret (ce_ix (ix_A C) (ce_methT (pl := _) C F_Chances_known_of hr_Chances_known_of (co_make C F_Chances_init hr_Chances_init (by rfl) (ca_cons (nV 0) ca_nil)) (ca_cons (ce_bin op_subV (nP 1) (nP 2)) (ca_cons (nV 3) ca_nil))).ck ce_int.ck (fun _ _ => rfl))))
theorem sc_law : FnScope N_law ["_law_script"] (defScope st_law) := ⟨rfl, rfl, rfl, by decide +kernel, rfl, by decide +kernel, by decide +kernel⟩
theorem fn_law {c : Ct} {P : Program} {mg : Str → Option Value} {base : Heap} {k : Nat} {f : Addr} {fd : FuncData} (F : Fun c.K "law" "law" st_law f fd) (hblt : ∀ y ∈ bltNames, mg y = none)   (F_law_above : FP c P mg base k "_law_above" f_law_above) (F_law_little : FP c P mg base k "_law_little" f_law_little) (F_law_made : FP c P mg base k "_law_made" f_law_made) (F_law_mixed : FP c P mg base k "_law_mixed" f_law_mixed) (F_law_stand : FP c P mg base k "_law_stand" f_law_stand) (F_goal_chance : FP c P mg base k "goal_chance" f_goal_chance) (F_goal_move : FP c P mg base k "goal_move" f_goal_move) (F_moves : FP c P mg base k "moves" f_moves) : FnOk P c.w c.K mg base CX0 (k + 1) f fd ["_law_script"] (spP c 1 f_law) := by
  refine fn_mk F sc_law hblt (m := (sSeq (sSet (.one 1) (eCall f_law_little (esCons (eCall f_law_mixed (esCons (eV 0) (esCons (eC (.int 0)) esNil))) esNil)))
  (sSeq (sSet (.one 2) (eCall f_law_mixed (esCons (eV 0) (esCons (eC (.int 1)) esNil))))
  (sSeq (sSet (.one 3) (eCall f_law_stand (esCons (eV 1) (esCons (eCall f_law_mixed (esCons (eV 0) (esCons (eC (.int 2)) esNil))) esNil))))
  (sSeq (sSet (.many [4, 5]) (eTup (esCons (o2 sMod (kP 2) (kE (eC (.int 30)))) (esCons (o2 sMod (kE (o2 sDiv (kP 2) (kE (eC (.int 64))))) (kE (eC (.int 12)))) esNil))))
  (sSeq (sSet (.one 6) (eCall f_goal_chance (esCons (eV 1) (esCons (eV 4) (esCons (eV 5) (esCons (eV 3) esNil))))))
  (sSeq (sOwn 7 (eComp (iSeqA (eCall f_moves (esCons (eV 1) (esCons (eV 3) esNil)))) (.one 8) eTrue (eCall f_law_made (esCons (eV 1) (esCons (eV 4) (esCons (eV 5) (esCons (eV 3) (esCons (eV 8) esNil)))))) [8]))
  (sSeq (sIf (eOr (o2 sNinA (kP 6) (kP 7)) (o2 sNe (kE (eComp (iSeqA (eV 7)) (.one 9) (eCall f_law_above (esCons (eV 9) (esCons (eV 6) esNil))) (eV 9) [9])) (kE (eLst esNil)))) (sRet (eC (.bool false))) sNil)
  (sSeq (sSet (.one 8) (eCall f_goal_move (esCons (eV 1) (esCons (eV 4) (esCons (eV 5) (esCons (eV 3) esNil))))))
  (sSeq (sIf (eOr (o2 sNinA (kP 8) (kE (eCall f_moves (esCons (eV 1) (esCons (eV 3) esNil))))) (o2 sNe (kE (eCall f_law_made (esCons (eV 1) (esCons (eV 4) (esCons (eV 5) (esCons (eV 3) (esCons (eV 8) esNil))))))) (kP 6))) (sRet (eC (.bool false))) sNil)
  (sSeq (sIf (eOr (o2 sNe (kE (eCall f_goal_chance (esCons (eV 1) (esCons (o2 sSub (kP 4) (kP 5)) (esCons (eC (.int 0)) (esCons (eV 3) esNil)))))) (kP 6)) (o2 sNe (kE (eCall f_goal_chance (esCons (eV 1) (esCons (o2 sAddA (kP 4) (kE (eC (.int 9)))) (esCons (o2 sAddA (kP 5) (kE (eC (.int 9)))) (esCons (eV 3) esNil)))))) (kP 6))) (sRet (eC (.bool false))) sNil)
  (sSeq (sIf (eCall f_law_above (esCons (eV 6) (esCons (eCall f_goal_chance (esCons (eV 1) (esCons (eV 4) (esCons (o2 sAddA (kP 5) (kE (eC (.int 1)))) (esCons (eV 3) esNil))))) esNil))) (sRet (eC (.bool false))) sNil)
  (sRet (o2 sEq (kE (eCall f_goal_chance (esCons (eV 1) (esCons (eV 5) (esCons (eV 5) (esCons (eV 3) esNil)))))) (kE (eTup (esCons (eC (.int 1)) (esCons (eC (.int 1)) esNil)))))))))))))))))) fun cdv A outer s H E C hr => ?_
  have hr_law_above := hr
  have hr_law_little := hr
  have hr_law_made := hr
  have hr_law_mixed := hr
  have hr_law_stand := hr
  have hr_goal_chance := hr
  have hr_goal_move := hr
  have hr_moves := hr
  exact (cb_cons (sN C 1 (ce_call C F_law_little hr_law_little (by rfl) (ca_cons (ce_call C F_law_mixed hr_law_mixed (by rfl) (ca_cons (nV 0) (ca_cons ce_int ca_nil))) ca_nil)))
  (cb_cons (sN C 2 (ce_call C F_law_mixed hr_law_mixed (by rfl) (ca_cons (nV 0) (ca_cons ce_int ca_nil))))
  (cb_cons (sN C 3 (ce_call C F_law_stand hr_law_stand (by rfl) (ca_cons (nV 1) (ca_cons (ce_call C F_law_mixed hr_law_mixed (by rfl) (ca_cons (nV 0) (ca_cons ce_int ca_nil))) ca_nil))))
  (cb_cons (cs_setT (cg_tup C (gNs C 4 (gNs C 5 cgs_nil))) (ce_tup (ca_cons (ce_bin op_modV (nP 2) ce_int.ck) (ca_cons (ce_bin op_modV (ce_bin op_divV (nP 2) ce_int.ck).ck ce_int.ck) ca_nil))))
  (cb_cons (sN C 6 (ce_call C F_goal_chance hr_goal_chance (by rfl) (ca_cons (nV 1) (ca_cons (nV 4) (ca_cons (nV 5) (ca_cons (nV 3) ca_nil))))))
  (cb_cons (cs_ownC C (by rfl) (by rfl) (by rfl) (ci_seqA C (ce_call C F_moves hr_moves (by rfl) (ca_cons (nV 1) (ca_cons (nV 3) ca_nil)))) (blkOk_by (N := N_law) (sc := (defScope st_law)) (scope := scE (atSE st_law [5] 0 [])) (own := [("_law_move", 8)]) (by decide +kernel)) (by decide) (fun s1 H1 K1 cl1 fp1 => (gN (C.inn s1 H1 (scE (atSE st_law [5] 0 [])) K1 cl1 fp1) 8)) (fun s1 H1 K1 cl1 fp1 => pts_true) (fun s1 H1 K1 cl1 fp1 => (ce_call (C.inn s1 H1 (scE (atSE st_law [5] 0 [])) K1 cl1 fp1) F_law_made hr_law_made (by rfl) (ca_cons (nV 1) (ca_cons (nV 4) (ca_cons (nV 5) (ca_cons (nV 3) (ca_cons (nV 8) ca_nil))))))))
  (cb_cons (cs_if (cw_or (ct_cmp (op_ninA C) (nP 6) (nP 7) (by rfl)) (cw_or1 (ct_cmp (op_neV C) (cf_comp C (ci_seqA C (nV 7)) (blkOk_by (N := N_law) (sc := (defScope st_law)) (scope := scE (atSE st_law [6] 0 [1, 0])) (own := [("_law_value", 9)]) (by decide +kernel)) (by decide) (fun s1 H1 K1 cl1 fp1 => (gN (C.inn s1 H1 (scE (atSE st_law [6] 0 [1, 0])) K1 cl1 fp1) 9)) (fun s1 H1 K1 cl1 fp1 => (pts_test (ce_call (C.inn s1 H1 (scE (atSE st_law [6] 0 [1, 0])) K1 cl1 fp1) F_law_above hr_law_above (by rfl) (ca_cons (nV 9) (ca_cons (nV 6) ca_nil))).ct)) (fun s1 H1 K1 cl1 fp1 => (nV 9))).ce.ck (cf_lst ca_nil).ce.ck (by rfl)))).ct (cb_one (cs_ret ce_bl)) cb_nil)
  (cb_cons (sN C 8 (ce_call C F_goal_move hr_goal_move (by rfl) (ca_cons (nV 1) (ca_cons (nV 4) (ca_cons (nV 5) (ca_cons (nV 3) ca_nil))))))
  (cb_cons (cs_if (cw_or (ct_cmp (op_ninA C) (nP 8) (ce_call C F_moves hr_moves (by rfl) (ca_cons (nV 1) (ca_cons (nV 3) ca_nil))).ck (by rfl)) (cw_or1 (ct_cmp (op_neV C) (ce_call C F_law_made hr_law_made (by rfl) (ca_cons (nV 1) (ca_cons (nV 4) (ca_cons (nV 5) (ca_cons (nV 3) (ca_cons (nV 8) ca_nil)))))).ck (nP 6) (by rfl)))).ct (cb_one (cs_ret ce_bl)) cb_nil)
  (cb_cons (cs_if (cw_or (ct_cmp (op_neV C) (ce_call C F_goal_chance hr_goal_chance (by rfl) (ca_cons (nV 1) (ca_cons (ce_bin op_subV (nP 4) (nP 5)) (ca_cons ce_int (ca_cons (nV 3) ca_nil))))).ck (nP 6) (by rfl)) (cw_or1 (ct_cmp (op_neV C) (ce_call C F_goal_chance hr_goal_chance (by rfl) (ca_cons (nV 1) (ca_cons (ce_bin (op_addA C) (nP 4) ce_int.ck) (ca_cons (ce_bin (op_addA C) (nP 5) ce_int.ck) (ca_cons (nV 3) ca_nil))))).ck (nP 6) (by rfl)))).ct (cb_one (cs_ret ce_bl)) cb_nil)
  (cb_cons (cs_if (ce_call C F_law_above hr_law_above (by rfl) (ca_cons (nV 6) (ca_cons (ce_call C F_goal_chance hr_goal_chance (by rfl) (ca_cons (nV 1) (ca_cons (nV 4) (ca_cons (ce_bin (op_addA C) (nP 5) ce_int.ck) (ca_cons (nV 3) ca_nil))))) ca_nil))).ct (cb_one (cs_ret ce_bl)) cb_nil)
  (cb_one (cs_ret (ce_cmp (op_eqV C) (ce_call C F_goal_chance hr_goal_chance (by rfl) (ca_cons (nV 1) (ca_cons (nV 5) (ca_cons (nV 5) (ca_cons (nV 3) ca_nil))))).ck (ce_tup (ca_cons ce_int (ca_cons ce_int ca_nil))).ck (by rfl)))))))))))))))
theorem all_mk {P : Program} {w : World} {K : PySem.W.Frag} {h : Heap} {mg : Str → Option Value} {fa : Addr} (X : K.In h) (G : h.Ns mainGlobals mg) (hfa : mg "law" = some (.ref fa))
    {C0 : Addr}
    {f0 : Addr} {od0 an0 : Option Addr} {sl0 : Array (Option Value)} {oc0 kV0 dc0 pm0 cd0 ct0 : Value}
    {f1 : Addr} {od1 an1 : Option Addr} {sl1 : Array (Option Value)} {oc1 kV1 dc1 pm1 cd1 ct1 : Value}
    {f2 : Addr} {od2 an2 : Option Addr} {sl2 : Array (Option Value)} {oc2 kV2 dc2 pm2 cd2 ct2 : Value}
    {f3 : Addr} {od3 an3 : Option Addr} {sl3 : Array (Option Value)} {oc3 kV3 dc3 pm3 cd3 ct3 : Value}
    {f4 : Addr} {od4 an4 : Option Addr} {sl4 : Array (Option Value)} {oc4 kV4 dc4 pm4 cd4 ct4 : Value}
    {f5 : Addr} {od5 an5 : Option Addr} {sl5 : Array (Option Value)} {oc5 kV5 dc5 pm5 cd5 ct5 : Value}
    {f6 : Addr} {od6 an6 : Option Addr} {sl6 : Array (Option Value)} {oc6 kV6 dc6 pm6 cd6 ct6 : Value}
    {f7 : Addr} {od7 an7 : Option Addr} {sl7 : Array (Option Value)} {oc7 kV7 dc7 pm7 cd7 ct7 : Value}
    {f8 : Addr} {od8 an8 : Option Addr} {sl8 : Array (Option Value)} {oc8 kV8 dc8 pm8 cd8 ct8 : Value}
    {f9 : Addr} {od9 an9 : Option Addr} {sl9 : Array (Option Value)} {oc9 kV9 dc9 pm9 cd9 ct9 : Value}
    {f10 : Addr} {od10 an10 : Option Addr} {sl10 : Array (Option Value)} {oc10 kV10 dc10 pm10 cd10 ct10 : Value}
    {f11 : Addr} {od11 an11 : Option Addr} {sl11 : Array (Option Value)} {oc11 kV11 dc11 pm11 cd11 ct11 : Value}
    {f12 : Addr} {od12 an12 : Option Addr} {sl12 : Array (Option Value)} {oc12 kV12 dc12 pm12 cd12 ct12 : Value}
    {f13 : Addr} {od13 an13 : Option Addr} {sl13 : Array (Option Value)} {oc13 kV13 dc13 pm13 cd13 ct13 : Value}
    {f14 : Addr} {od14 an14 : Option Addr} {sl14 : Array (Option Value)} {oc14 kV14 dc14 pm14 cd14 ct14 : Value}
    {f15 : Addr} {od15 an15 : Option Addr} {sl15 : Array (Option Value)} {oc15 kV15 dc15 pm15 cd15 ct15 : Value}
    {f16 : Addr} {od16 an16 : Option Addr} {sl16 : Array (Option Value)} {oc16 kV16 dc16 pm16 cd16 ct16 : Value}
    {f17 : Addr} {od17 an17 : Option Addr} {sl17 : Array (Option Value)} {oc17 kV17 dc17 pm17 cd17 ct17 : Value}
    {f18 : Addr} {od18 an18 : Option Addr} {sl18 : Array (Option Value)} {oc18 kV18 dc18 pm18 cd18 ct18 : Value}
    {f19 : Addr} {od19 an19 : Option Addr} {sl19 : Array (Option Value)} {oc19 kV19 dc19 pm19 cd19 ct19 : Value}
    {f20 : Addr} {od20 an20 : Option Addr} {sl20 : Array (Option Value)} {oc20 kV20 dc20 pm20 cd20 ct20 : Value}
    {f21 : Addr} {od21 an21 : Option Addr} {sl21 : Array (Option Value)} {oc21 kV21 dc21 pm21 cd21 ct21 : Value}
    {f22 : Addr} {od22 an22 : Option Addr} {sl22 : Array (Option Value)} {oc22 kV22 dc22 pm22 cd22 ct22 : Value}
    {f23 : Addr} {od23 an23 : Option Addr} {sl23 : Array (Option Value)} {oc23 kV23 dc23 pm23 cd23 ct23 : Value}
    {f24 : Addr} {od24 an24 : Option Addr} {sl24 : Array (Option Value)} {oc24 kV24 dc24 pm24 cd24 ct24 : Value}
    {f25 : Addr} {od25 an25 : Option Addr} {sl25 : Array (Option Value)} {oc25 kV25 dc25 pm25 cd25 ct25 : Value}
    {f26 : Addr} {od26 an26 : Option Addr} {sl26 : Array (Option Value)} {oc26 kV26 dc26 pm26 cd26 ct26 : Value}
    {f27 : Addr} {od27 an27 : Option Addr} {sl27 : Array (Option Value)} {oc27 kV27 dc27 pm27 cd27 ct27 : Value}
    {f28 : Addr} {od28 an28 : Option Addr} {sl28 : Array (Option Value)} {oc28 kV28 dc28 pm28 cd28 ct28 : Value}
    {f29 : Addr} {od29 an29 : Option Addr} {sl29 : Array (Option Value)} {oc29 kV29 dc29 pm29 cd29 ct29 : Value}
    {f30 : Addr} {od30 an30 : Option Addr} {sl30 : Array (Option Value)} {oc30 kV30 dc30 pm30 cd30 ct30 : Value}
    (aC0 : PySem.W.nsIn K mainGlobals "Chances" = some (some (.ref C0)))
    (a0 : PySem.W.nsIn K mainGlobals "_law_above" = some (some (.ref f0)))
    (l0 : K.lookup f0 = some ⟨oc0, od0, .func (PySem.W.fnOf "_law_above" "_law_above" (defArgs st_law_above) (defBody st_law_above) (defScope st_law_above) .none kV0 dc0 pm0 an0 cd0 ct0), sl0⟩) (c0 : PySem.W.codeIn K cd0 "_law_above" = true) (k0 : PySem.W.keepIn K (.ref f0) = true)
    (a1 : PySem.W.nsIn K mainGlobals "_law_box" = some (some (.ref f1)))
    (l1 : K.lookup f1 = some ⟨oc1, od1, .func (PySem.W.fnOf "_law_box" "_law_box" (defArgs st_law_box) (defBody st_law_box) (defScope st_law_box) .none kV1 dc1 pm1 an1 cd1 ct1), sl1⟩) (c1 : PySem.W.codeIn K cd1 "_law_box" = true) (k1 : PySem.W.keepIn K (.ref f1) = true)
    (a2 : PySem.W.nsIn K mainGlobals "_law_drawn" = some (some (.ref f2)))
    (l2 : K.lookup f2 = some ⟨oc2, od2, .func (PySem.W.fnOf "_law_drawn" "_law_drawn" (defArgs st_law_drawn) (defBody st_law_drawn) (defScope st_law_drawn) .none kV2 dc2 pm2 an2 cd2 ct2), sl2⟩) (c2 : PySem.W.codeIn K cd2 "_law_drawn" = true) (k2 : PySem.W.keepIn K (.ref f2) = true)
    (a3 : PySem.W.nsIn K mainGlobals "_law_game" = some (some (.ref f3)))
    (l3 : K.lookup f3 = some ⟨oc3, od3, .func (PySem.W.fnOf "_law_game" "_law_game" (defArgs st_law_game) (defBody st_law_game) (defScope st_law_game) .none kV3 dc3 pm3 an3 cd3 ct3), sl3⟩) (c3 : PySem.W.codeIn K cd3 "_law_game" = true) (k3 : PySem.W.keepIn K (.ref f3) = true)
    (a4 : PySem.W.nsIn K mainGlobals "_law_little" = some (some (.ref f4)))
    (l4 : K.lookup f4 = some ⟨oc4, od4, .func (PySem.W.fnOf "_law_little" "_law_little" (defArgs st_law_little) (defBody st_law_little) (defScope st_law_little) .none kV4 dc4 pm4 an4 cd4 ct4), sl4⟩) (c4 : PySem.W.codeIn K cd4 "_law_little" = true) (k4 : PySem.W.keepIn K (.ref f4) = true)
    (a5 : PySem.W.nsIn K mainGlobals "_law_plain" = some (some (.ref f5)))
    (l5 : K.lookup f5 = some ⟨oc5, od5, .func (PySem.W.fnOf "_law_plain" "_law_plain" (defArgs st_law_plain) (defBody st_law_plain) (defScope st_law_plain) .none kV5 dc5 pm5 an5 cd5 ct5), sl5⟩) (c5 : PySem.W.codeIn K cd5 "_law_plain" = true) (k5 : PySem.W.keepIn K (.ref f5) = true)
    (a6 : PySem.W.nsIn K mainGlobals "_law_sum" = some (some (.ref f6)))
    (l6 : K.lookup f6 = some ⟨oc6, od6, .func (PySem.W.fnOf "_law_sum" "_law_sum" (defArgs st_law_sum) (defBody st_law_sum) (defScope st_law_sum) .none kV6 dc6 pm6 an6 cd6 ct6), sl6⟩) (c6 : PySem.W.codeIn K cd6 "_law_sum" = true) (k6 : PySem.W.keepIn K (.ref f6) = true)
    (a7 : PySem.W.nsIn K mainGlobals "counted" = some (some (.ref f7)))
    (l7 : K.lookup f7 = some ⟨oc7, od7, .func (PySem.W.fnOf "counted" "counted" (defArgs st_counted) (defBody st_counted) (defScope st_counted) .none kV7 dc7 pm7 an7 cd7 ct7), sl7⟩) (c7 : PySem.W.codeIn K cd7 "counted" = true) (k7 : PySem.W.keepIn K (.ref f7) = true)
    (a8 : PySem.W.nsIn K mainGlobals "plain" = some (some (.ref f8)))
    (l8 : K.lookup f8 = some ⟨oc8, od8, .func (PySem.W.fnOf "plain" "plain" (defArgs st_plain) (defBody st_plain) (defScope st_plain) .none kV8 dc8 pm8 an8 cd8 ct8), sl8⟩) (c8 : PySem.W.codeIn K cd8 "plain" = true) (k8 : PySem.W.keepIn K (.ref f8) = true)
    (a9 : PySem.W.nsIn K mainGlobals "throws_of" = some (some (.ref f9)))
    (l9 : K.lookup f9 = some ⟨oc9, od9, .func (PySem.W.fnOf "throws_of" "throws_of" (defArgs st_throws_of) (defBody st_throws_of) (defScope st_throws_of) .none kV9 dc9 pm9 an9 cd9 ct9), sl9⟩) (c9 : PySem.W.codeIn K cd9 "throws_of" = true) (k9 : PySem.W.keepIn K (.ref f9) = true)
    (a10 : PySem.W.nsIn K mainGlobals "after" = some (some (.ref f10)))
    (l10 : K.lookup f10 = some ⟨oc10, od10, .func (PySem.W.fnOf "after" "after" (defArgs st_after) (defBody st_after) (defScope st_after) .none kV10 dc10 pm10 an10 cd10 ct10), sl10⟩) (c10 : PySem.W.codeIn K cd10 "after" = true) (k10 : PySem.W.keepIn K (.ref f10) = true)
    (a11 : PySem.W.nsIn K mainGlobals "begins" = some (some (.ref f11)))
    (l11 : K.lookup f11 = some ⟨oc11, od11, .func (PySem.W.fnOf "begins" "begins" (defArgs st_begins) (defBody st_begins) (defScope st_begins) .none kV11 dc11 pm11 an11 cd11 ct11), sl11⟩) (c11 : PySem.W.codeIn K cd11 "begins" = true) (k11 : PySem.W.keepIn K (.ref f11) = true)
    (a12 : PySem.W.nsIn K mainGlobals "has_run" = some (some (.ref f12)))
    (l12 : K.lookup f12 = some ⟨oc12, od12, .func (PySem.W.fnOf "has_run" "has_run" (defArgs st_has_run) (defBody st_has_run) (defScope st_has_run) .none kV12 dc12 pm12 an12 cd12 ct12), sl12⟩) (c12 : PySem.W.codeIn K cd12 "has_run" = true) (k12 : PySem.W.keepIn K (.ref f12) = true)
    (a13 : PySem.W.nsIn K mainGlobals "points" = some (some (.ref f13)))
    (l13 : K.lookup f13 = some ⟨oc13, od13, .func (PySem.W.fnOf "points" "points" (defArgs st_points) (defBody st_points) (defScope st_points) .none kV13 dc13 pm13 an13 cd13 ct13), sl13⟩) (c13 : PySem.W.codeIn K cd13 "points" = true) (k13 : PySem.W.keepIn K (.ref f13) = true)
    (a14 : PySem.W.nsIn K mainGlobals "comes" = some (some (.ref f14)))
    (l14 : K.lookup f14 = some ⟨oc14, od14, .func (PySem.W.fnOf "comes" "comes" (defArgs st_comes) (defBody st_comes) (defScope st_comes) .none kV14 dc14 pm14 an14 cd14 ct14), sl14⟩) (c14 : PySem.W.codeIn K cd14 "comes" = true) (k14 : PySem.W.keepIn K (.ref f14) = true)
    (a15 : PySem.W.findIn K (.ref C0) "__init__" = some (some (.ref f15))) (i15 : PySem.W.isFn K (.ref f15) = true)
    (l15 : K.lookup f15 = some ⟨oc15, od15, .func (PySem.W.fnOf "__init__" "Chances.__init__" (defArgs st_Chances_init) (defBody st_Chances_init) (defScope st_Chances_init) .none kV15 dc15 pm15 an15 cd15 ct15), sl15⟩) (c15 : PySem.W.codeIn K cd15 "Chances.__init__" = true) (k15 : PySem.W.keepIn K (.ref f15) = true)
    (a16 : PySem.W.nsIn K mainGlobals "times" = some (some (.ref f16)))
    (l16 : K.lookup f16 = some ⟨oc16, od16, .func (PySem.W.fnOf "times" "times" (defArgs st_times) (defBody st_times) (defScope st_times) .none kV16 dc16 pm16 an16 cd16 ct16), sl16⟩) (c16 : PySem.W.codeIn K cd16 "times" = true) (k16 : PySem.W.keepIn K (.ref f16) = true)
    (a17 : PySem.W.nsIn K mainGlobals "total" = some (some (.ref f17)))
    (l17 : K.lookup f17 = some ⟨oc17, od17, .func (PySem.W.fnOf "total" "total" (defArgs st_total) (defBody st_total) (defScope st_total) .none kV17 dc17 pm17 an17 cd17 ct17), sl17⟩) (c17 : PySem.W.codeIn K cd17 "total" = true) (k17 : PySem.W.keepIn K (.ref f17) = true)
    (a18 : PySem.W.nsIn K mainGlobals "is_less" = some (some (.ref f18)))
    (l18 : K.lookup f18 = some ⟨oc18, od18, .func (PySem.W.fnOf "is_less" "is_less" (defArgs st_is_less) (defBody st_is_less) (defScope st_is_less) .none kV18 dc18 pm18 an18 cd18 ct18), sl18⟩) (c18 : PySem.W.codeIn K cd18 "is_less" = true) (k18 : PySem.W.keepIn K (.ref f18) = true)
    (a19 : PySem.W.nsIn K mainGlobals "keeps" = some (some (.ref f19)))
    (l19 : K.lookup f19 = some ⟨oc19, od19, .func (PySem.W.fnOf "keeps" "keeps" (defArgs st_keeps) (defBody st_keeps) (defScope st_keeps) .none kV19 dc19 pm19 an19 cd19 ct19), sl19⟩) (c19 : PySem.W.codeIn K cd19 "keeps" = true) (k19 : PySem.W.keepIn K (.ref f19) = true)
    (a20 : PySem.W.nsIn K mainGlobals "moves" = some (some (.ref f20)))
    (l20 : K.lookup f20 = some ⟨oc20, od20, .func (PySem.W.fnOf "moves" "moves" (defArgs st_moves) (defBody st_moves) (defScope st_moves) .none kV20 dc20 pm20 an20 cd20 ct20), sl20⟩) (c20 : PySem.W.codeIn K cd20 "moves" = true) (k20 : PySem.W.keepIn K (.ref f20) = true)
    (a21 : PySem.W.findIn K (.ref C0) "of_move" = some (some (.ref f21))) (i21 : PySem.W.isFn K (.ref f21) = true)
    (l21 : K.lookup f21 = some ⟨oc21, od21, .func (PySem.W.fnOf "of_move" "Chances.of_move" (defArgs st_Chances_of_move) (defBody st_Chances_of_move) (defScope st_Chances_of_move) .none kV21 dc21 pm21 an21 cd21 ct21), sl21⟩) (c21 : PySem.W.codeIn K cd21 "Chances.of_move" = true) (k21 : PySem.W.keepIn K (.ref f21) = true)
    (a22 : PySem.W.findIn K (.ref C0) "known_of" = some (some (.ref f22))) (i22 : PySem.W.isFn K (.ref f22) = true)
    (l22 : K.lookup f22 = some ⟨oc22, od22, .func (PySem.W.fnOf "known_of" "Chances.known_of" (defArgs st_Chances_known_of) (defBody st_Chances_known_of) (defScope st_Chances_known_of) .none kV22 dc22 pm22 an22 cd22 ct22), sl22⟩) (c22 : PySem.W.codeIn K cd22 "Chances.known_of" = true) (k22 : PySem.W.keepIn K (.ref f22) = true)
    (a23 : PySem.W.nsIn K mainGlobals "goal_chance" = some (some (.ref f23)))
    (l23 : K.lookup f23 = some ⟨oc23, od23, .func (PySem.W.fnOf "goal_chance" "goal_chance" (defArgs st_goal_chance) (defBody st_goal_chance) (defScope st_goal_chance) .none kV23 dc23 pm23 an23 cd23 ct23), sl23⟩) (c23 : PySem.W.codeIn K cd23 "goal_chance" = true) (k23 : PySem.W.keepIn K (.ref f23) = true)
    (a24 : PySem.W.nsIn K mainGlobals "_law_made" = some (some (.ref f24)))
    (l24 : K.lookup f24 = some ⟨oc24, od24, .func (PySem.W.fnOf "_law_made" "_law_made" (defArgs st_law_made) (defBody st_law_made) (defScope st_law_made) .none kV24 dc24 pm24 an24 cd24 ct24), sl24⟩) (c24 : PySem.W.codeIn K cd24 "_law_made" = true) (k24 : PySem.W.keepIn K (.ref f24) = true)
    (a25 : PySem.W.nsIn K mainGlobals "_law_cell_at" = some (some (.ref f25)))
    (l25 : K.lookup f25 = some ⟨oc25, od25, .func (PySem.W.fnOf "_law_cell_at" "_law_cell_at" (defArgs st_law_cell_at) (defBody st_law_cell_at) (defScope st_law_cell_at) .none kV25 dc25 pm25 an25 cd25 ct25), sl25⟩) (c25 : PySem.W.codeIn K cd25 "_law_cell_at" = true) (k25 : PySem.W.keepIn K (.ref f25) = true)
    (a26 : PySem.W.nsIn K mainGlobals "_law_mixed" = some (some (.ref f26)))
    (l26 : K.lookup f26 = some ⟨oc26, od26, .func (PySem.W.fnOf "_law_mixed" "_law_mixed" (defArgs st_law_mixed) (defBody st_law_mixed) (defScope st_law_mixed) .none kV26 dc26 pm26 an26 cd26 ct26), sl26⟩) (c26 : PySem.W.codeIn K cd26 "_law_mixed" = true) (k26 : PySem.W.keepIn K (.ref f26) = true)
    (a27 : PySem.W.nsIn K mainGlobals "_law_dice" = some (some (.ref f27)))
    (l27 : K.lookup f27 = some ⟨oc27, od27, .func (PySem.W.fnOf "_law_dice" "_law_dice" (defArgs st_law_dice) (defBody st_law_dice) (defScope st_law_dice) .none kV27 dc27 pm27 an27 cd27 ct27), sl27⟩) (c27 : PySem.W.codeIn K cd27 "_law_dice" = true) (k27 : PySem.W.keepIn K (.ref f27) = true)
    (a28 : PySem.W.nsIn K mainGlobals "_law_stand" = some (some (.ref f28)))
    (l28 : K.lookup f28 = some ⟨oc28, od28, .func (PySem.W.fnOf "_law_stand" "_law_stand" (defArgs st_law_stand) (defBody st_law_stand) (defScope st_law_stand) .none kV28 dc28 pm28 an28 cd28 ct28), sl28⟩) (c28 : PySem.W.codeIn K cd28 "_law_stand" = true) (k28 : PySem.W.keepIn K (.ref f28) = true)
    (a29 : PySem.W.nsIn K mainGlobals "goal_move" = some (some (.ref f29)))
    (l29 : K.lookup f29 = some ⟨oc29, od29, .func (PySem.W.fnOf "goal_move" "goal_move" (defArgs st_goal_move) (defBody st_goal_move) (defScope st_goal_move) .none kV29 dc29 pm29 an29 cd29 ct29), sl29⟩) (c29 : PySem.W.codeIn K cd29 "goal_move" = true) (k29 : PySem.W.keepIn K (.ref f29) = true)
    (a30 : PySem.W.nsIn K mainGlobals "law" = some (some (.ref f30)))
    (l30 : K.lookup f30 = some ⟨oc30, od30, .func (PySem.W.fnOf "law" "law" (defArgs st_law) (defBody st_law) (defScope st_law) .none kV30 dc30 pm30 an30 cd30 ct30), sl30⟩) (c30 : PySem.W.codeIn K cd30 "law" = true) (k30 : PySem.W.keepIn K (.ref f30) = true)
    (pg0 : PySem.W.plainGet K C0 Str.empty = true) (hd0 : PySem.W.hasDictIn K C0 = true) (po0 : PySem.W.plainOver K C0 = true) (sa0 : PySem.W.findIn K (.ref C0) "__setattr__" = some (some (.builtin "object.__setattr__"))) (mk0 : PySem.W.makesIn K C0 = true) (kc0 : PySem.W.keepIn K (.ref C0) = true)
    (n0_game : PySem.W.findIn K (.ref C0) "game" = some none)
    (n0_known : PySem.W.findIn K (.ref C0) "known" = some none)
    (z0 : PySem.W.nsIn K mainGlobals "len" = some none)
    (z1 : PySem.W.nsIn K mainGlobals "sum" = some none)
    (z2 : PySem.W.nsIn K mainGlobals "any" = some none)
    (z3 : PySem.W.nsIn K mainGlobals "all" = some none)
    (z4 : PySem.W.nsIn K mainGlobals "max" = some none)
    (z5 : PySem.W.nsIn K mainGlobals "min" = some none)
    (z6 : PySem.W.nsIn K mainGlobals "abs" = some none)
    (z7 : PySem.W.nsIn K mainGlobals "int" = some none)
    (z8 : PySem.W.nsIn K mainGlobals "str" = some none)
    (z9 : PySem.W.nsIn K mainGlobals "tuple" = some none)
    (z10 : PySem.W.nsIn K mainGlobals "list" = some none)
    (z11 : PySem.W.nsIn K mainGlobals "sorted" = some none)
    (z12 : PySem.W.nsIn K mainGlobals "isinstance" = some none)
    (z13 : PySem.W.nsIn K mainGlobals "range" = some none)
    (z14 : PySem.W.nsIn K mainGlobals "zip" = some none)
    (z15 : PySem.W.nsIn K mainGlobals "enumerate" = some none)
    (z16 : PySem.W.nsIn K mainGlobals "dict" = some none)
    (z17 : PySem.W.nsIn K mainGlobals "set" = some none)
    (z18 : PySem.W.nsIn K mainGlobals "repr" = some none)
    (z19 : PySem.W.nsIn K mainGlobals "bool" = some none)
    (plain : ∀ ns : List Int, ns.length ≤ 63 → f_law [.list (ns.map .int)] = some (.bool true)) :
    ∃ fd : FuncData, (∀ (s : Shared) (v : Value), BindsTo s fd ⟨[v], []⟩ [("_law_script", v)]) ∧ ∀ base : Heap, K.In base → base.Ns mainGlobals mg → FnOk P w K mg base CX0 39 fa fd ["_law_script"] (spLaw ⟨K, w, fun _ => none, fun _ => 0⟩) := by
  have hblt : ∀ y ∈ bltNames, mg y = none := by
    intro y hy
    simp only [bltNames, List.mem_cons, List.not_mem_nil, or_false] at hy
    rcases hy with rfl | rfl | rfl | rfl | rfl | rfl | rfl | rfl | rfl | rfl | rfl | rfl | rfl | rfl | rfl | rfl | rfl | rfl | rfl | rfl
    · exact PySem.W.mg_none_of X G z0
    · exact PySem.W.mg_none_of X G z1
    · exact PySem.W.mg_none_of X G z2
    · exact PySem.W.mg_none_of X G z3
    · exact PySem.W.mg_none_of X G z4
    · exact PySem.W.mg_none_of X G z5
    · exact PySem.W.mg_none_of X G z6
    · exact PySem.W.mg_none_of X G z7
    · exact PySem.W.mg_none_of X G z8
    · exact PySem.W.mg_none_of X G z9
    · exact PySem.W.mg_none_of X G z10
    · exact PySem.W.mg_none_of X G z11
    · exact PySem.W.mg_none_of X G z12
    · exact PySem.W.mg_none_of X G z13
    · exact PySem.W.mg_none_of X G z14
    · exact PySem.W.mg_none_of X G z15
    · exact PySem.W.mg_none_of X G z16
    · exact PySem.W.mg_none_of X G z17
    · exact PySem.W.mg_none_of X G z18
    · exact PySem.W.mg_none_of X G z19
  have e := hfa.symm.trans (PySem.W.mg_of X G a30)
  cases e
  have F0 := fun_mk (st := st_law_above) l0 c0 k0
  have b0 := F0.binds (ps := ["_law_one", "_law_other"]) fun _ _ _ _ _ _ us hl => match us, hl with | [_, _], _ => rfl
  have F1 := fun_mk (st := st_law_box) l1 c1 k1
  have b1 := F1.binds (ps := ["_law_number"]) fun _ _ _ _ _ _ us hl => match us, hl with | [_], _ => rfl
  have F2 := fun_mk (st := st_law_drawn) l2 c2 k2
  have b2 := F2.binds (ps := ["_law_number", "_law_k"]) fun _ _ _ _ _ _ us hl => match us, hl with | [_, _], _ => rfl
  have F3 := fun_mk (st := st_law_game) l3 c3 k3
  have b3 := F3.binds (ps := ["_law_number", "_law_great"]) fun _ _ _ _ _ _ us hl => match us, hl with | [_, _], _ => rfl
  have F4 := fun_mk (st := st_law_little) l4 c4 k4
  have b4 := F4.binds (ps := ["_law_number"]) fun _ _ _ _ _ _ us hl => match us, hl with | [_], _ => rfl
  have F5 := fun_mk (st := st_law_plain) l5 c5 k5
  have b5 := F5.binds (ps := ["_law_upper", "_law_lower"]) fun _ _ _ _ _ _ us hl => match us, hl with | [_, _], _ => rfl
  have F6 := fun_mk (st := st_law_sum) l6 c6 k6
  have b6 := F6.binds (ps := ["_law_pairs"]) fun _ _ _ _ _ _ us hl => match us, hl with | [_], _ => rfl
  have F7 := fun_mk (st := st_counted) l7 c7 k7
  have b7 := F7.binds (ps := ["many", "sides"]) fun _ _ _ _ _ _ us hl => match us, hl with | [_, _], _ => rfl
  have F8 := fun_mk (st := st_plain) l8 c8 k8
  have b8 := F8.binds (ps := ["upper", "lower"]) fun _ _ _ _ _ _ us hl => match us, hl with | [_, _], _ => rfl
  have F9 := fun_mk (st := st_throws_of) l9 c9 k9
  have b9 := F9.binds (ps := ["many", "sides"]) fun _ _ _ _ _ _ us hl => match us, hl with | [_, _], _ => rfl
  have F10 := fun_mk (st := st_after) l10 c10 k10
  have b10 := F10.binds (ps := ["game", "kept"]) fun _ _ _ _ _ _ us hl => match us, hl with | [_, _], _ => rfl
  have F11 := fun_mk (st := st_begins) l11 c11 k11
  have b11 := F11.binds (ps := ["game", "boxes"]) fun _ _ _ _ _ _ us hl => match us, hl with | [_, _], _ => rfl
  have F12 := fun_mk (st := st_has_run) l12 c12 k12
  have b12 := F12.binds (ps := ["dice", "many"]) fun _ _ _ _ _ _ us hl => match us, hl with | [_, _], _ => rfl
  have F13 := fun_mk (st := st_points) l13 c13 k13
  have b13 := F13.binds (ps := ["box", "dice"]) fun _ _ _ _ _ _ us hl => match us, hl with | [_, _], _ => rfl
  have F14 := fun_mk (st := st_comes) l14 c14 k14
  have b14 := F14.binds (ps := ["game", "stand", "move"]) fun _ _ _ _ _ _ us hl => match us, hl with | [_, _, _], _ => rfl
  have F15 := fun_mk (st := st_Chances_init) l15 c15 k15
  have b15 := F15.binds (ps := ["self", "game"]) fun _ _ _ _ _ _ us hl => match us, hl with | [_, _], _ => rfl
  have F16 := fun_mk (st := st_times) l16 c16 k16
  have b16 := F16.binds (ps := ["one", "other"]) fun _ _ _ _ _ _ us hl => match us, hl with | [_, _], _ => rfl
  have F17 := fun_mk (st := st_total) l17 c17 k17
  have b17 := F17.binds (ps := ["some"]) fun _ _ _ _ _ _ us hl => match us, hl with | [_], _ => rfl
  have F18 := fun_mk (st := st_is_less) l18 c18 k18
  have b18 := F18.binds (ps := ["one", "other"]) fun _ _ _ _ _ _ us hl => match us, hl with | [_, _], _ => rfl
  have F19 := fun_mk (st := st_keeps) l19 c19 k19
  have b19 := F19.binds (ps := ["dice"]) fun _ _ _ _ _ _ us hl => match us, hl with | [_], _ => rfl
  have F20 := fun_mk (st := st_moves) l20 c20 k20
  have b20 := F20.binds (ps := ["game", "stand"]) fun _ _ _ _ _ _ us hl => match us, hl with | [_, _], _ => rfl
  have F21 := fun_mk (st := st_Chances_of_move) l21 c21 k21
  have b21 := F21.binds (ps := ["self", "need", "stand", "move"]) fun _ _ _ _ _ _ us hl => match us, hl with | [_, _, _, _], _ => rfl
  have F22 := fun_mk (st := st_Chances_known_of) l22 c22 k22
  have b22 := F22.binds (ps := ["self", "need", "stand"]) fun _ _ _ _ _ _ us hl => match us, hl with | [_, _, _], _ => rfl
  have F23 := fun_mk (st := st_goal_chance) l23 c23 k23
  have b23 := F23.binds (ps := ["game", "goal", "had", "stand"]) fun _ _ _ _ _ _ us hl => match us, hl with | [_, _, _, _], _ => rfl
  have F24 := fun_mk (st := st_law_made) l24 c24 k24
  have b24 := F24.binds (ps := ["_law_game_here", "_law_goal", "_law_had", "_law_stand_here", "_law_move"]) fun _ _ _ _ _ _ us hl => match us, hl with | [_, _, _, _, _], _ => rfl
  have F25 := fun_mk (st := st_law_cell_at) l25 c25 k25
  have b25 := F25.binds (ps := ["_law_script", "_law_k"]) fun _ _ _ _ _ _ us hl => match us, hl with | [_, _], _ => rfl
  have F26 := fun_mk (st := st_law_mixed) l26 c26 k26
  have b26 := F26.binds (ps := ["_law_script", "_law_k"]) fun _ _ _ _ _ _ us hl => match us, hl with | [_, _], _ => rfl
  have F27 := fun_mk (st := st_law_dice) l27 c27 k27
  have b27 := F27.binds (ps := ["_law_game_here", "_law_number"]) fun _ _ _ _ _ _ us hl => match us, hl with | [_, _], _ => rfl
  have F28 := fun_mk (st := st_law_stand) l28 c28 k28
  have b28 := F28.binds (ps := ["_law_game_here", "_law_number"]) fun _ _ _ _ _ _ us hl => match us, hl with | [_, _], _ => rfl
  have F29 := fun_mk (st := st_goal_move) l29 c29 k29
  have b29 := F29.binds (ps := ["game", "goal", "had", "stand"]) fun _ _ _ _ _ _ us hl => match us, hl with | [_, _, _, _], _ => rfl
  have F30 := fun_mk (st := st_law) l30 c30 k30
  have b30 := F30.binds (ps := ["_law_script"]) fun _ _ _ _ _ _ us hl => match us, hl with | [_], _ => rfl
  have ci_game : CiOk ⟨K, w, ci1 C0, fun _ => 0⟩ "game" := ciOk1 ⟨pg0, hd0, po0, sa0⟩ n0_game
  have ci_known : CiOk ⟨K, w, ci1 C0, fun _ => 0⟩ "known" := ciOk1 ⟨pg0, hd0, po0, sa0⟩ n0_known
  refine ⟨PySem.W.fnOf "law" "law" (defArgs st_law) (defBody st_law) (defScope st_law) .none kV30 dc30 pm30 an30 cd30 ct30, fun s v => .of_eq rfl, fun base _ _ => ?_⟩
  have Q0 : FP ⟨K, w, ci1 C0, fun _ => 0⟩ P mg base 1 "_law_above" f_law_above := fp_law_above (c := ⟨K, w, ci1 C0, fun _ => 0⟩) (k := 0) F0 (PySem.W.mg_of X G a0) b0 hblt 
  have Q1 : FP ⟨K, w, ci1 C0, fun _ => 0⟩ P mg base 1 "_law_box" f_law_box := fp_law_box (c := ⟨K, w, ci1 C0, fun _ => 0⟩) (k := 0) F1 (PySem.W.mg_of X G a1) b1 hblt 
  have Q2 : FP ⟨K, w, ci1 C0, fun _ => 0⟩ P mg base 1 "_law_drawn" f_law_drawn := fp_law_drawn (c := ⟨K, w, ci1 C0, fun _ => 0⟩) (k := 0) F2 (PySem.W.mg_of X G a2) b2 hblt 
  have Q3 : FP ⟨K, w, ci1 C0, fun _ => 0⟩ P mg base 2 "_law_game" f_law_game := fp_law_game (c := ⟨K, w, ci1 C0, fun _ => 0⟩) (k := 1) F3 (PySem.W.mg_of X G a3) b3 hblt (Q1.mono (by decide)) (Q2.mono (by decide))
  have Q4 : FP ⟨K, w, ci1 C0, fun _ => 0⟩ P mg base 3 "_law_little" f_law_little := fp_law_little (c := ⟨K, w, ci1 C0, fun _ => 0⟩) (k := 2) F4 (PySem.W.mg_of X G a4) b4 hblt (Q3.mono (by decide))
  have Q5 : FP ⟨K, w, ci1 C0, fun _ => 0⟩ P mg base 1 "_law_plain" f_law_plain := fp_law_plain (c := ⟨K, w, ci1 C0, fun _ => 0⟩) (k := 0) F5 (PySem.W.mg_of X G a5) b5 hblt 
  have Q6 : FP ⟨K, w, ci1 C0, fun _ => 0⟩ P mg base 2 "_law_sum" f_law_sum := fp_law_sum (c := ⟨K, w, ci1 C0, fun _ => 0⟩) (k := 1) F6 (PySem.W.mg_of X G a6) b6 hblt (Q5.mono (by decide))
  have Q7 : FP ⟨K, w, ci1 C0, fun _ => 0⟩ P mg base 1 "counted" f_counted := fp_counted (c := ⟨K, w, ci1 C0, fun _ => 0⟩) (k := 0) F7 (PySem.W.mg_of X G a7) b7 hblt 
  have Q8 : FP ⟨K, w, ci1 C0, fun _ => 0⟩ P mg base 1 "plain" f_plain := fp_plain (c := ⟨K, w, ci1 C0, fun _ => 0⟩) (k := 0) F8 (PySem.W.mg_of X G a8) b8 hblt 
  have Q9 : FP ⟨K, w, ci1 C0, fun _ => 0⟩ P mg base 2 "throws_of" f_throws_of := fp_throws_of (c := ⟨K, w, ci1 C0, fun _ => 0⟩) (k := 1) F9 (PySem.W.mg_of X G a9) b9 hblt (Q7.mono (by decide)) (Q8.mono (by decide))
  have Q10 : FP ⟨K, w, ci1 C0, fun _ => 0⟩ P mg base 3 "after" f_after := fp_after (c := ⟨K, w, ci1 C0, fun _ => 0⟩) (k := 2) F10 (PySem.W.mg_of X G a10) b10 hblt (Q9.mono (by decide))
  have Q11 : FP ⟨K, w, ci1 C0, fun _ => 0⟩ P mg base 3 "begins" f_begins := fp_begins (c := ⟨K, w, ci1 C0, fun _ => 0⟩) (k := 2) F11 (PySem.W.mg_of X G a11) b11 hblt (Q9.mono (by decide))
  have Q12 : FP ⟨K, w, ci1 C0, fun _ => 0⟩ P mg base 1 "has_run" f_has_run := fp_has_run (c := ⟨K, w, ci1 C0, fun _ => 0⟩) (k := 0) F12 (PySem.W.mg_of X G a12) b12 hblt 
  have Q13 : FP ⟨K, w, ci1 C0, fun _ => 0⟩ P mg base 2 "points" f_points := fp_points (c := ⟨K, w, ci1 C0, fun _ => 0⟩) (k := 1) F13 (PySem.W.mg_of X G a13) b13 hblt (Q12.mono (by decide))
  have Q14 : FP ⟨K, w, ci1 C0, fun _ => 0⟩ P mg base 4 "comes" f_comes := fp_comes (c := ⟨K, w, ci1 C0, fun _ => 0⟩) (k := 3) F14 (PySem.W.mg_of X G a14) b14 hblt (Q10.mono (by decide)) (Q11.mono (by decide)) (Q13.mono (by decide))
  have Q15 : FI ⟨K, w, ci1 C0, fun _ => 0⟩ P mg base 1 "Chances" 0 f_Chances_init := fp_Chances_init (c := ⟨K, w, ci1 C0, fun _ => 0⟩) (k := 0) F15 rfl (PySem.W.mg_of X G aC0) ⟨mk0, a15, i15, kc0⟩ b15 hblt ci_game ci_known
  have Q16 : FP ⟨K, w, ci1 C0, fun _ => 0⟩ P mg base 2 "times" f_times := fp_times (c := ⟨K, w, ci1 C0, fun _ => 0⟩) (k := 1) F16 (PySem.W.mg_of X G a16) b16 hblt (Q8.mono (by decide))
  have Q17 : FP ⟨K, w, ci1 C0, fun _ => 0⟩ P mg base 2 "total" f_total := fp_total (c := ⟨K, w, ci1 C0, fun _ => 0⟩) (k := 1) F17 (PySem.W.mg_of X G a17) b17 hblt (Q8.mono (by decide))
  have Q18 : FP ⟨K, w, ci1 C0, fun _ => 0⟩ P mg base 1 "is_less" f_is_less := fp_is_less (c := ⟨K, w, ci1 C0, fun _ => 0⟩) (k := 0) F18 (PySem.W.mg_of X G a18) b18 hblt 
  have Q19 : FP ⟨K, w, ci1 C0, fun _ => 0⟩ P mg base 1 "keeps" f_keeps := fp_keeps (c := ⟨K, w, ci1 C0, fun _ => 0⟩) (k := 0) F19 (PySem.W.mg_of X G a19) b19 hblt 
  have Q20 : FP ⟨K, w, ci1 C0, fun _ => 0⟩ P mg base 2 "moves" f_moves := fp_moves (c := ⟨K, w, ci1 C0, fun _ => 0⟩) (k := 1) F20 (PySem.W.mg_of X G a20) b20 hblt (Q19.mono (by decide))
  have R22 : ∀ n : Nat, FM ⟨K, w, ci1 C0, fun _ => 0⟩ P mg base (4 + 2 * n) 0 "known_of" (f_Chances_known_of n) := by
    intro n
    induction n with
    | zero => exact fm_none rfl ⟨pg0, hd0, po0, sa0⟩ ⟨a22, i22, k22⟩ b22
    | succ n ih =>
      have S21 := fp_Chances_of_move (c := ⟨K, w, ci1 C0, fun _ => 0⟩) (k := 4 + 2 * n + 0) (r := f_Chances_known_of n) F21 rfl ⟨pg0, hd0, po0, sa0⟩ ⟨a21, i21, k21⟩ b21 hblt ci_game (ih.mono (by omega)) (Q14.mono (by omega)) (Q16.mono (by omega)) (Q17.mono (by omega))
      exact (fp_Chances_known_of (c := ⟨K, w, ci1 C0, fun _ => 0⟩) (k := 4 + 2 * n + 1) (r := f_Chances_known_of n) F22 rfl ⟨pg0, hd0, po0, sa0⟩ ⟨a22, i22, k22⟩ b22 hblt ci_game ci_known (S21.mono (by omega)) (Q18.mono (by omega)) (Q20.mono (by omega))).mono (by omega)
  have Q22 := R22 16
  have Q21 : FM ⟨K, w, ci1 C0, fun _ => 0⟩ P mg base 37 0 "of_move" (f_Chances_of_move (f_Chances_known_of 16)) := fp_Chances_of_move (c := ⟨K, w, ci1 C0, fun _ => 0⟩) (k := 36) (r := f_Chances_known_of 16) F21 rfl ⟨pg0, hd0, po0, sa0⟩ ⟨a21, i21, k21⟩ b21 hblt ci_game (Q22.mono (by decide)) (Q14.mono (by decide)) (Q16.mono (by decide)) (Q17.mono (by decide))
  have Q23 : FP ⟨K, w, ci1 C0, fun _ => 0⟩ P mg base 37 "goal_chance" f_goal_chance := fp_goal_chance (c := ⟨K, w, ci1 C0, fun _ => 0⟩) (k := 35) F23 (PySem.W.mg_of X G a23) b23 hblt (Q15.mono (by decide)) (Q22.mono (by decide))
  have Q24 : FP ⟨K, w, ci1 C0, fun _ => 0⟩ P mg base 38 "_law_made" f_law_made := fp_law_made (c := ⟨K, w, ci1 C0, fun _ => 0⟩) (k := 37) F24 (PySem.W.mg_of X G a24) b24 hblt (Q6.mono (by decide)) (Q14.mono (by decide)) (Q23.mono (by decide))
  have Q25 : FP ⟨K, w, ci1 C0, fun _ => 0⟩ P mg base 1 "_law_cell_at" f_law_cell_at := fp_law_cell_at (c := ⟨K, w, ci1 C0, fun _ => 0⟩) (k := 0) F25 (PySem.W.mg_of X G a25) b25 hblt 
  have Q26 : FP ⟨K, w, ci1 C0, fun _ => 0⟩ P mg base 2 "_law_mixed" f_law_mixed := fp_law_mixed (c := ⟨K, w, ci1 C0, fun _ => 0⟩) (k := 1) F26 (PySem.W.mg_of X G a26) b26 hblt (Q25.mono (by decide))
  have Q27 : FP ⟨K, w, ci1 C0, fun _ => 0⟩ P mg base 2 "_law_dice" f_law_dice := fp_law_dice (c := ⟨K, w, ci1 C0, fun _ => 0⟩) (k := 1) F27 (PySem.W.mg_of X G a27) b27 hblt (Q2.mono (by decide))
  have Q28 : FP ⟨K, w, ci1 C0, fun _ => 0⟩ P mg base 3 "_law_stand" f_law_stand := fp_law_stand (c := ⟨K, w, ci1 C0, fun _ => 0⟩) (k := 2) F28 (PySem.W.mg_of X G a28) b28 hblt (Q27.mono (by decide))
  have Q29 : FP ⟨K, w, ci1 C0, fun _ => 0⟩ P mg base 37 "goal_move" f_goal_move := fp_goal_move (c := ⟨K, w, ci1 C0, fun _ => 0⟩) (k := 35) F29 (PySem.W.mg_of X G a29) b29 hblt (Q15.mono (by decide)) (Q22.mono (by decide))
  exact law_of (c := ⟨K, w, ci1 C0, fun _ => 0⟩) (fn_law (c := ⟨K, w, ci1 C0, fun _ => 0⟩) (k := 38) F30 hblt (Q0.mono (by decide)) (Q4.mono (by decide)) (Q24.mono (by decide)) (Q26.mono (by decide)) (Q28.mono (by decide)) (Q23.mono (by decide)) (Q29.mono (by decide)) (Q20.mono (by decide))) plain
theorem walk {l : PySem.W.OpenLaw} {q : Program} {loose : List Str} {XP : (Str → Option Value) → Heap → Prop} {YP : World → Heap → Prop} {d : DefRec} {K : Params → PySem.W.Frag} (hn : l.most = some 63) (hdf : d.params.defaults = [])
    (hY : ∀ (w : World) (h : Heap), YP w h → (K w.params).In h)
    (F : ∀ (w : World) (mg : Str → Option Value) (fa : Addr) (h : Heap), (K w.params).In h → h.Ns mainGlobals mg → mg d.name = some (.ref fa) →
      ∃ fd : FuncData, (∀ (s : Shared) (u : Value), BindsTo s fd ⟨[u], []⟩ [("_law_script", u)]) ∧ ∀ base : Heap, (K w.params).In base → base.Ns mainGlobals mg → FnOk l.prog w (K w.params) mg base CX0 39 fa fd ["_law_script"] (spLaw ⟨K w.params, w, fun _ => none, fun _ => 0⟩)) :
    PySem.W.WalkO q loose XP YP l.row.toRowW d [] (fun f vs => PySem.call f vs) :=
  L2.walk_of (n := 63) (k := 39) (x := "_law_script") (CX := fun _ => CX0) (sp := fun w => spLaw ⟨K w.params, w, fun _ => none, fun _ => 0⟩) hn (by decide) hdf ⟨rfl, by decide, by decide⟩ hY F (fun _ _ a ns hl _ hS => ⟨a, ns, rfl, hS, hl, fun _ => rfl⟩) fun _ _ _ _ _ z => z
end VL
set_option Elab.async false
set_option linter.all false
set_option maxRecDepth 1000000
set_option maxHeartbeats 0
namespace VL
open PySem
theorem se_face : decide ((Str.ofString "face") = Str.ofString "face") = true := decide_eq_true rfl
theorem sn_face_all : decide ((Str.ofString "face") = Str.ofString "all") = false := by decide +kernel
theorem sn_face_alike : decide ((Str.ofString "face") = Str.ofString "alike") = false := by decide +kernel
theorem sn_face_run : decide ((Str.ofString "face") = Str.ofString "run") = false := by decide +kernel
theorem sn_face_under : decide ((Str.ofString "face") = Str.ofString "under") = false := by decide +kernel
theorem sn_face_even : decide ((Str.ofString "face") = Str.ofString "even") = false := by decide +kernel
theorem sn_face_keep : decide ((Str.ofString "face") = Str.ofString "keep") = false := by decide +kernel
theorem sn_face_fill : decide ((Str.ofString "face") = Str.ofString "fill") = false := by decide +kernel
theorem se_all : decide ((Str.ofString "all") = Str.ofString "all") = true := decide_eq_true rfl
theorem sn_all_face : decide ((Str.ofString "all") = Str.ofString "face") = false := by decide +kernel
theorem sn_all_alike : decide ((Str.ofString "all") = Str.ofString "alike") = false := by decide +kernel
theorem sn_all_run : decide ((Str.ofString "all") = Str.ofString "run") = false := by decide +kernel
theorem sn_all_under : decide ((Str.ofString "all") = Str.ofString "under") = false := by decide +kernel
theorem sn_all_even : decide ((Str.ofString "all") = Str.ofString "even") = false := by decide +kernel
theorem sn_all_keep : decide ((Str.ofString "all") = Str.ofString "keep") = false := by decide +kernel
theorem sn_all_fill : decide ((Str.ofString "all") = Str.ofString "fill") = false := by decide +kernel
theorem se_alike : decide ((Str.ofString "alike") = Str.ofString "alike") = true := decide_eq_true rfl
theorem sn_alike_face : decide ((Str.ofString "alike") = Str.ofString "face") = false := by decide +kernel
theorem sn_alike_all : decide ((Str.ofString "alike") = Str.ofString "all") = false := by decide +kernel
theorem sn_alike_run : decide ((Str.ofString "alike") = Str.ofString "run") = false := by decide +kernel
theorem sn_alike_under : decide ((Str.ofString "alike") = Str.ofString "under") = false := by decide +kernel
theorem sn_alike_even : decide ((Str.ofString "alike") = Str.ofString "even") = false := by decide +kernel
theorem sn_alike_keep : decide ((Str.ofString "alike") = Str.ofString "keep") = false := by decide +kernel
theorem sn_alike_fill : decide ((Str.ofString "alike") = Str.ofString "fill") = false := by decide +kernel
theorem se_run : decide ((Str.ofString "run") = Str.ofString "run") = true := decide_eq_true rfl
theorem sn_run_face : decide ((Str.ofString "run") = Str.ofString "face") = false := by decide +kernel
theorem sn_run_all : decide ((Str.ofString "run") = Str.ofString "all") = false := by decide +kernel
theorem sn_run_alike : decide ((Str.ofString "run") = Str.ofString "alike") = false := by decide +kernel
theorem sn_run_under : decide ((Str.ofString "run") = Str.ofString "under") = false := by decide +kernel
theorem sn_run_even : decide ((Str.ofString "run") = Str.ofString "even") = false := by decide +kernel
theorem sn_run_keep : decide ((Str.ofString "run") = Str.ofString "keep") = false := by decide +kernel
theorem sn_run_fill : decide ((Str.ofString "run") = Str.ofString "fill") = false := by decide +kernel
theorem se_under : decide ((Str.ofString "under") = Str.ofString "under") = true := decide_eq_true rfl
theorem sn_under_face : decide ((Str.ofString "under") = Str.ofString "face") = false := by decide +kernel
theorem sn_under_all : decide ((Str.ofString "under") = Str.ofString "all") = false := by decide +kernel
theorem sn_under_alike : decide ((Str.ofString "under") = Str.ofString "alike") = false := by decide +kernel
theorem sn_under_run : decide ((Str.ofString "under") = Str.ofString "run") = false := by decide +kernel
theorem sn_under_even : decide ((Str.ofString "under") = Str.ofString "even") = false := by decide +kernel
theorem sn_under_keep : decide ((Str.ofString "under") = Str.ofString "keep") = false := by decide +kernel
theorem sn_under_fill : decide ((Str.ofString "under") = Str.ofString "fill") = false := by decide +kernel
theorem se_even : decide ((Str.ofString "even") = Str.ofString "even") = true := decide_eq_true rfl
theorem sn_even_face : decide ((Str.ofString "even") = Str.ofString "face") = false := by decide +kernel
theorem sn_even_all : decide ((Str.ofString "even") = Str.ofString "all") = false := by decide +kernel
theorem sn_even_alike : decide ((Str.ofString "even") = Str.ofString "alike") = false := by decide +kernel
theorem sn_even_run : decide ((Str.ofString "even") = Str.ofString "run") = false := by decide +kernel
theorem sn_even_under : decide ((Str.ofString "even") = Str.ofString "under") = false := by decide +kernel
theorem sn_even_keep : decide ((Str.ofString "even") = Str.ofString "keep") = false := by decide +kernel
theorem sn_even_fill : decide ((Str.ofString "even") = Str.ofString "fill") = false := by decide +kernel
theorem se_keep : decide ((Str.ofString "keep") = Str.ofString "keep") = true := decide_eq_true rfl
theorem sn_keep_face : decide ((Str.ofString "keep") = Str.ofString "face") = false := by decide +kernel
theorem sn_keep_all : decide ((Str.ofString "keep") = Str.ofString "all") = false := by decide +kernel
theorem sn_keep_alike : decide ((Str.ofString "keep") = Str.ofString "alike") = false := by decide +kernel
theorem sn_keep_run : decide ((Str.ofString "keep") = Str.ofString "run") = false := by decide +kernel
theorem sn_keep_under : decide ((Str.ofString "keep") = Str.ofString "under") = false := by decide +kernel
theorem sn_keep_even : decide ((Str.ofString "keep") = Str.ofString "even") = false := by decide +kernel
theorem sn_keep_fill : decide ((Str.ofString "keep") = Str.ofString "fill") = false := by decide +kernel
theorem se_fill : decide ((Str.ofString "fill") = Str.ofString "fill") = true := decide_eq_true rfl
theorem sn_fill_face : decide ((Str.ofString "fill") = Str.ofString "face") = false := by decide +kernel
theorem sn_fill_all : decide ((Str.ofString "fill") = Str.ofString "all") = false := by decide +kernel
theorem sn_fill_alike : decide ((Str.ofString "fill") = Str.ofString "alike") = false := by decide +kernel
theorem sn_fill_run : decide ((Str.ofString "fill") = Str.ofString "run") = false := by decide +kernel
theorem sn_fill_under : decide ((Str.ofString "fill") = Str.ofString "under") = false := by decide +kernel
theorem sn_fill_even : decide ((Str.ofString "fill") = Str.ofString "even") = false := by decide +kernel
theorem sn_fill_keep : decide ((Str.ofString "fill") = Str.ofString "keep") = false := by decide +kernel
/-! the drawn numbers -/
def drawnH (n k : Int) : Int := (n + 104729 * k + 17) * 69621 % 2147483647
def drawnV (n k : Int) : Int := (drawnH n k * drawnH n k + 3 * drawnH n k + k) % 2147483629
theorem f_drawn (n k : Int) : f_law_drawn [.int n, .int k] = some (.int (drawnV n k)) := by
  simp only [f_law_drawn, m_law_drawn, m_law_drawn_t0, m_law_drawn_t1, m_law_drawn_s0, ap_c, ap_t, ap_v, vK_val, vK_lst, vK_dic, ap_peek, pkK_val, pkK_lst, pkK_dic, ap_o1E, ap_o1P, ap_o2EE, ap_o2EP, ap_o2PE, ap_o2PP, ap_o3E, ap_o3P, ap_esNil, ap_esCons, ap_tup, ap_lst, tupK, lstK, ap_and, ap_or, andK_t, andK_f, andK_b, orK_t, orK_f, orK_b, ap_call, ap_mP, ap_mE, ap_iSeq, ap_iSeqA, kOfL, kOfT, kOfD, ap_dnil, ap_iR1, ap_iR2, r1_eq, r2_eq, ap_tgo1, ap_tgoM, setAll0, setAllC, eComp_eq, ap_turnT, ap_turnO, tuK_t, tuK_f, tuK_b, ap_seq, seqK_nx, seqK_rt, seqK_ct, seqK_bk, seqK_no, seqK_if, ap_nil, ap_cnt, ap_brk, ap_set, ap_own, ownK_l, ownK_d, ap_ret, ap_if, ifK_t, ifK_f, ifK_b, ap_for, forL_nil, forL_cons, forK_nx, forK_ct, forK_bk, forK_rt, forK_if, ap_par, run_eq, runK_rt, runK_nx, runK_if, v_add, v_sub, v_neg, v_mod, v_div, v_mulR, v_mulL, v_mulB, v_addT, v_addL, v_catL, v_lt, v_le, v_gt, v_ge, v_eqI, v_neI, v_eqS, v_neS, v_lenT, v_lenL, v_intB, v_intI, v_not, v_min, v_max, v_abs, v_tupL, v_tupT, v_ixT, v_ixL, ix0, ix1, ix2, ix3, seqT, seqL, v_sumT, v_sumL, v_any, v_all, v_inT, v_inL, v_ninT, v_ninL, v_countT, mapMO_all, mapMO_some, mapMO_map, mapMO_range, v_sortedL, v_sortedT, v_cT, v_cTl, v_cTh, v_cL, v_cLl, v_cLh, v_eqNil, v_neNil, ix4, sel4_int, v_repT, v_isiI, v_isiS, v_isiB, v_isiN, ib_int, eq_dec, rl1, rl2, rl3, rl4, Bool.not_true, Bool.not_false, List.length_map, cutL_map, mkF, List.length_cons, List.length_nil, List.map_cons, List.map_nil, List.append_eq, List.cons_append, List.nil_append, List.getElem?_cons_zero, List.getElem?_cons_succ, List.set_cons_zero, List.set_cons_succ, Option.bind_some, Option.map_some, Option.bind_none, Option.map_none, Nat.zero_add, Nat.reduceAdd, Nat.reduceSub, Nat.reduceLeDiff, Nat.reduceLT, Nat.reduceEqDiff, Nat.reduceMul, LIM_eq, List.replicate_succ, List.replicate_zero, if_true, if_false, Bool.false_eq_true, Bool.true_eq_false, decide_true, decide_false, okS, noOwn, covers, tgIs, wipeO, List.all_cons, List.all_nil, List.any_cons, List.any_nil, Bool.and_true, Bool.true_and, Bool.and_self, Bool.or_false, Bool.false_or, Bool.or_true, beq_self_nat, kd, Int.reduceLT, Int.reduceLE, Int.reduceNeg, Int.reduceAdd, Int.reduceToNat, Int.reduceMul, Int.reduceSub, and_true, true_and, and_self, ite_true, ite_false, ↓reduceIte, mod_lo, mod_hi]
  rfl
def cellV (l : List Int) (k : Nat) : Int := l.getD k 0
theorem f_cell (l : List Int) (k : Nat) : f_law_cell_at [.list (l.map .int), .int k] = some (.int (cellV l k)) := by
  by_cases h : k < l.length
  · have e : decide ((k : Int) < (l.length : Int)) = true := decide_eq_true (by omega)
    simp only [f_law_cell_at, m_law_cell_at, m_law_cell_at_t0, m_law_cell_at_t1, m_law_cell_at_s0, ap_c, ap_t, ap_v, vK_val, vK_lst, vK_dic, ap_peek, pkK_val, pkK_lst, pkK_dic, ap_o1E, ap_o1P, ap_o2EE, ap_o2EP, ap_o2PE, ap_o2PP, ap_o3E, ap_o3P, ap_esNil, ap_esCons, ap_tup, ap_lst, tupK, lstK, ap_and, ap_or, andK_t, andK_f, andK_b, orK_t, orK_f, orK_b, ap_call, ap_mP, ap_mE, ap_iSeq, ap_iSeqA, kOfL, kOfT, kOfD, ap_dnil, ap_iR1, ap_iR2, r1_eq, r2_eq, ap_tgo1, ap_tgoM, setAll0, setAllC, eComp_eq, ap_turnT, ap_turnO, tuK_t, tuK_f, tuK_b, ap_seq, seqK_nx, seqK_rt, seqK_ct, seqK_bk, seqK_no, seqK_if, ap_nil, ap_cnt, ap_brk, ap_set, ap_own, ownK_l, ownK_d, ap_ret, ap_if, ifK_t, ifK_f, ifK_b, ap_for, forL_nil, forL_cons, forK_nx, forK_ct, forK_bk, forK_rt, forK_if, ap_par, run_eq, runK_rt, runK_nx, runK_if, v_add, v_sub, v_neg, v_mod, v_div, v_mulR, v_mulL, v_mulB, v_addT, v_addL, v_catL, v_lt, v_le, v_gt, v_ge, v_eqI, v_neI, v_eqS, v_neS, v_lenT, v_lenL, v_intB, v_intI, v_not, v_min, v_max, v_abs, v_tupL, v_tupT, v_ixT, v_ixL, ix0, ix1, ix2, ix3, seqT, seqL, v_sumT, v_sumL, v_any, v_all, v_inT, v_inL, v_ninT, v_ninL, v_countT, mapMO_all, mapMO_some, mapMO_map, mapMO_range, v_sortedL, v_sortedT, v_cT, v_cTl, v_cTh, v_cL, v_cLl, v_cLh, v_eqNil, v_neNil, ix4, sel4_int, v_repT, v_isiI, v_isiS, v_isiB, v_isiN, ib_int, eq_dec, rl1, rl2, rl3, rl4, Bool.not_true, Bool.not_false, List.length_map, cutL_map, mkF, List.length_cons, List.length_nil, List.map_cons, List.map_nil, List.append_eq, List.cons_append, List.nil_append, List.getElem?_cons_zero, List.getElem?_cons_succ, List.set_cons_zero, List.set_cons_succ, Option.bind_some, Option.map_some, Option.bind_none, Option.map_none, Nat.zero_add, Nat.reduceAdd, Nat.reduceSub, Nat.reduceLeDiff, Nat.reduceLT, Nat.reduceEqDiff, Nat.reduceMul, LIM_eq, List.replicate_succ, List.replicate_zero, if_true, if_false, Bool.false_eq_true, Bool.true_eq_false, decide_true, decide_false, okS, noOwn, covers, tgIs, wipeO, List.all_cons, List.all_nil, List.any_cons, List.any_nil, Bool.and_true, Bool.true_and, Bool.and_self, Bool.or_false, Bool.false_or, Bool.or_true, beq_self_nat, kd, Int.reduceLT, Int.reduceLE, Int.reduceNeg, Int.reduceAdd, Int.reduceToNat, Int.reduceMul, Int.reduceSub, and_true, true_and, and_self, ite_true, ite_false, ↓reduceIte, List.length_map, e, ixOf_map l k h]
    rfl
  · have e : decide ((k : Int) < (l.length : Int)) = false := decide_eq_false (by omega)
    have e2 : cellV l k = 0 := by
      unfold cellV
      simp [h]
    simp only [f_law_cell_at, m_law_cell_at, m_law_cell_at_t0, m_law_cell_at_t1, m_law_cell_at_s0, ap_c, ap_t, ap_v, vK_val, vK_lst, vK_dic, ap_peek, pkK_val, pkK_lst, pkK_dic, ap_o1E, ap_o1P, ap_o2EE, ap_o2EP, ap_o2PE, ap_o2PP, ap_o3E, ap_o3P, ap_esNil, ap_esCons, ap_tup, ap_lst, tupK, lstK, ap_and, ap_or, andK_t, andK_f, andK_b, orK_t, orK_f, orK_b, ap_call, ap_mP, ap_mE, ap_iSeq, ap_iSeqA, kOfL, kOfT, kOfD, ap_dnil, ap_iR1, ap_iR2, r1_eq, r2_eq, ap_tgo1, ap_tgoM, setAll0, setAllC, eComp_eq, ap_turnT, ap_turnO, tuK_t, tuK_f, tuK_b, ap_seq, seqK_nx, seqK_rt, seqK_ct, seqK_bk, seqK_no, seqK_if, ap_nil, ap_cnt, ap_brk, ap_set, ap_own, ownK_l, ownK_d, ap_ret, ap_if, ifK_t, ifK_f, ifK_b, ap_for, forL_nil, forL_cons, forK_nx, forK_ct, forK_bk, forK_rt, forK_if, ap_par, run_eq, runK_rt, runK_nx, runK_if, v_add, v_sub, v_neg, v_mod, v_div, v_mulR, v_mulL, v_mulB, v_addT, v_addL, v_catL, v_lt, v_le, v_gt, v_ge, v_eqI, v_neI, v_eqS, v_neS, v_lenT, v_lenL, v_intB, v_intI, v_not, v_min, v_max, v_abs, v_tupL, v_tupT, v_ixT, v_ixL, ix0, ix1, ix2, ix3, seqT, seqL, v_sumT, v_sumL, v_any, v_all, v_inT, v_inL, v_ninT, v_ninL, v_countT, mapMO_all, mapMO_some, mapMO_map, mapMO_range, v_sortedL, v_sortedT, v_cT, v_cTl, v_cTh, v_cL, v_cLl, v_cLh, v_eqNil, v_neNil, ix4, sel4_int, v_repT, v_isiI, v_isiS, v_isiB, v_isiN, ib_int, eq_dec, rl1, rl2, rl3, rl4, Bool.not_true, Bool.not_false, List.length_map, cutL_map, mkF, List.length_cons, List.length_nil, List.map_cons, List.map_nil, List.append_eq, List.cons_append, List.nil_append, List.getElem?_cons_zero, List.getElem?_cons_succ, List.set_cons_zero, List.set_cons_succ, Option.bind_some, Option.map_some, Option.bind_none, Option.map_none, Nat.zero_add, Nat.reduceAdd, Nat.reduceSub, Nat.reduceLeDiff, Nat.reduceLT, Nat.reduceEqDiff, Nat.reduceMul, LIM_eq, List.replicate_succ, List.replicate_zero, if_true, if_false, Bool.false_eq_true, Bool.true_eq_false, decide_true, decide_false, okS, noOwn, covers, tgIs, wipeO, List.all_cons, List.all_nil, List.any_cons, List.any_nil, Bool.and_true, Bool.true_and, Bool.and_self, Bool.or_false, Bool.false_or, Bool.or_true, beq_self_nat, kd, Int.reduceLT, Int.reduceLE, Int.reduceNeg, Int.reduceAdd, Int.reduceToNat, Int.reduceMul, Int.reduceSub, and_true, true_and, and_self, ite_true, ite_false, ↓reduceIte, List.length_map, e, e2]
def mixedH (l : List Int) (k : Nat) : Int := (cellV l k + 7919 * (k : Int) + 1) * 48271 % 2147483647
def mixedV (l : List Int) (k : Nat) : Int := (mixedH l k * mixedH l k + 7 * mixedH l k + (k : Int)) % 2147483629
theorem f_mixed (l : List Int) (k : Nat) : f_law_mixed [.list (l.map .int), .int k] = some (.int (mixedV l k)) := by
  simp only [f_law_mixed, m_law_mixed, m_law_mixed_t0, m_law_mixed_t1, m_law_mixed_s0, ap_c, ap_t, ap_v, vK_val, vK_lst, vK_dic, ap_peek, pkK_val, pkK_lst, pkK_dic, ap_o1E, ap_o1P, ap_o2EE, ap_o2EP, ap_o2PE, ap_o2PP, ap_o3E, ap_o3P, ap_esNil, ap_esCons, ap_tup, ap_lst, tupK, lstK, ap_and, ap_or, andK_t, andK_f, andK_b, orK_t, orK_f, orK_b, ap_call, ap_mP, ap_mE, ap_iSeq, ap_iSeqA, kOfL, kOfT, kOfD, ap_dnil, ap_iR1, ap_iR2, r1_eq, r2_eq, ap_tgo1, ap_tgoM, setAll0, setAllC, eComp_eq, ap_turnT, ap_turnO, tuK_t, tuK_f, tuK_b, ap_seq, seqK_nx, seqK_rt, seqK_ct, seqK_bk, seqK_no, seqK_if, ap_nil, ap_cnt, ap_brk, ap_set, ap_own, ownK_l, ownK_d, ap_ret, ap_if, ifK_t, ifK_f, ifK_b, ap_for, forL_nil, forL_cons, forK_nx, forK_ct, forK_bk, forK_rt, forK_if, ap_par, run_eq, runK_rt, runK_nx, runK_if, v_add, v_sub, v_neg, v_mod, v_div, v_mulR, v_mulL, v_mulB, v_addT, v_addL, v_catL, v_lt, v_le, v_gt, v_ge, v_eqI, v_neI, v_eqS, v_neS, v_lenT, v_lenL, v_intB, v_intI, v_not, v_min, v_max, v_abs, v_tupL, v_tupT, v_ixT, v_ixL, ix0, ix1, ix2, ix3, seqT, seqL, v_sumT, v_sumL, v_any, v_all, v_inT, v_inL, v_ninT, v_ninL, v_countT, mapMO_all, mapMO_some, mapMO_map, mapMO_range, v_sortedL, v_sortedT, v_cT, v_cTl, v_cTh, v_cL, v_cLl, v_cLh, v_eqNil, v_neNil, ix4, sel4_int, v_repT, v_isiI, v_isiS, v_isiB, v_isiN, ib_int, eq_dec, rl1, rl2, rl3, rl4, Bool.not_true, Bool.not_false, List.length_map, cutL_map, mkF, List.length_cons, List.length_nil, List.map_cons, List.map_nil, List.append_eq, List.cons_append, List.nil_append, List.getElem?_cons_zero, List.getElem?_cons_succ, List.set_cons_zero, List.set_cons_succ, Option.bind_some, Option.map_some, Option.bind_none, Option.map_none, Nat.zero_add, Nat.reduceAdd, Nat.reduceSub, Nat.reduceLeDiff, Nat.reduceLT, Nat.reduceEqDiff, Nat.reduceMul, LIM_eq, List.replicate_succ, List.replicate_zero, if_true, if_false, Bool.false_eq_true, Bool.true_eq_false, decide_true, decide_false, okS, noOwn, covers, tgIs, wipeO, List.all_cons, List.all_nil, List.any_cons, List.any_nil, Bool.and_true, Bool.true_and, Bool.and_self, Bool.or_false, Bool.false_or, Bool.or_true, beq_self_nat, kd, Int.reduceLT, Int.reduceLE, Int.reduceNeg, Int.reduceAdd, Int.reduceToNat, Int.reduceMul, Int.reduceSub, and_true, true_and, and_self, ite_true, ite_false, ↓reduceIte, mod_lo, mod_hi, f_cell]
  rfl
theorem mixed_nn (l : List Int) (k : Nat) : 0 ≤ mixedV l k := Int.emod_nonneg _ (by decide)
theorem drawn_nn (n k : Int) : 0 ≤ drawnV n k := Int.emod_nonneg _ (by decide)
/-! boxes -/
inductive Bx
  | face (a : Int) | all | alike (m p : Int) | run (m p : Int) | under (a : Int) | even (a : Int)
def Bx.d : Bx → D
  | .face a => .tuple [.str "face", .int a]
  | .all => .tuple [.str "all"]
  | .alike m p => .tuple [.str "alike", .int m, .int p]
  | .run m p => .tuple [.str "run", .int m, .int p]
  | .under a => .tuple [.str "under", .int a]
  | .even a => .tuple [.str "even", .int a]
def Bx.ok : Bx → Prop
  | .face a => 1 ≤ a ∧ a ≤ 6
  | .all => True
  | .alike m p => 2 ≤ m ∧ m ≤ 4 ∧ 1 ≤ p ∧ p ≤ 50
  | .run m p => 2 ≤ m ∧ m ≤ 4 ∧ 1 ≤ p ∧ p ≤ 50
  | .under a => 1 ≤ a ∧ a ≤ 24
  | .even a => 1 ≤ a ∧ a ≤ 50
theorem six {n : Int} (h : 0 ≤ n) : n % 6 = 0 ∨ n % 6 = 1 ∨ n % 6 = 2 ∨ n % 6 = 3 ∨ n % 6 = 4 ∨ n % 6 = 5 := by omega
def bxV (n : Int) : Bx := if n % 6 = 0 then .face (1 + n / 6 % 6) else if n % 6 = 1 then .all else if n % 6 = 2 then .alike (2 + n / 6 % 3) (1 + n / 64 % 50) else if n % 6 = 3 then .run (2 + n / 6 % 3) (1 + n / 64 % 50) else if n % 6 = 4 then .under (1 + n / 6 % 24) else .even (1 + n / 6 % 50)
theorem bx_ok (n : Int) (h : 0 ≤ n) : (bxV n).ok := by
  unfold bxV
  split
  · exact ⟨by omega, by omega⟩
  · split
    · trivial
    · split
      · exact ⟨by omega, by omega, by omega, by omega⟩
      · split
        · exact ⟨by omega, by omega, by omega, by omega⟩
        · split
          · exact ⟨by omega, by omega⟩
          · exact ⟨by omega, by omega⟩
theorem f_box (n : Int) (h : 0 ≤ n) : f_law_box [.int n] = some (bxV n).d := by
  have q : ∀ i x, ixOf ([.tuple [.str "face", .int (1 + n / 6 % 6)], .tuple [.str "all"], .tuple [.str "alike", .int (2 + n / 6 % 3), .int (1 + n / 64 % 50)], .tuple [.str "run", .int (2 + n / 6 % 3), .int (1 + n / 64 % 50)], .tuple [.str "under", .int (1 + n / 6 % 24)], .tuple [.str "even", .int (1 + n / 6 % 50)]] : List D) i = some x → n % 6 = i → f_law_box [.int n] = some x := by
    intro i x h1 h2
    simp only [f_law_box, m_law_box, m_law_box_t0, m_law_box_t1, m_law_box_t2, m_law_box_t3, m_law_box_s0, m_law_box_s1, m_law_box_s2, ap_c, ap_t, ap_v, vK_val, vK_lst, vK_dic, ap_peek, pkK_val, pkK_lst, pkK_dic, ap_o1E, ap_o1P, ap_o2EE, ap_o2EP, ap_o2PE, ap_o2PP, ap_o3E, ap_o3P, ap_esNil, ap_esCons, ap_tup, ap_lst, tupK, lstK, ap_and, ap_or, andK_t, andK_f, andK_b, orK_t, orK_f, orK_b, ap_call, ap_mP, ap_mE, ap_iSeq, ap_iSeqA, kOfL, kOfT, kOfD, ap_dnil, ap_iR1, ap_iR2, r1_eq, r2_eq, ap_tgo1, ap_tgoM, setAll0, setAllC, eComp_eq, ap_turnT, ap_turnO, tuK_t, tuK_f, tuK_b, ap_seq, seqK_nx, seqK_rt, seqK_ct, seqK_bk, seqK_no, seqK_if, ap_nil, ap_cnt, ap_brk, ap_set, ap_own, ownK_l, ownK_d, ap_ret, ap_if, ifK_t, ifK_f, ifK_b, ap_for, forL_nil, forL_cons, forK_nx, forK_ct, forK_bk, forK_rt, forK_if, ap_par, run_eq, runK_rt, runK_nx, runK_if, v_add, v_sub, v_neg, v_mod, v_div, v_mulR, v_mulL, v_mulB, v_addT, v_addL, v_catL, v_lt, v_le, v_gt, v_ge, v_eqI, v_neI, v_eqS, v_neS, v_lenT, v_lenL, v_intB, v_intI, v_not, v_min, v_max, v_abs, v_tupL, v_tupT, v_ixT, v_ixL, ix0, ix1, ix2, ix3, seqT, seqL, v_sumT, v_sumL, v_any, v_all, v_inT, v_inL, v_ninT, v_ninL, v_countT, mapMO_all, mapMO_some, mapMO_map, mapMO_range, v_sortedL, v_sortedT, v_cT, v_cTl, v_cTh, v_cL, v_cLl, v_cLh, v_eqNil, v_neNil, ix4, sel4_int, v_repT, v_isiI, v_isiS, v_isiB, v_isiN, ib_int, eq_dec, rl1, rl2, rl3, rl4, Bool.not_true, Bool.not_false, List.length_map, cutL_map, mkF, List.length_cons, List.length_nil, List.map_cons, List.map_nil, List.append_eq, List.cons_append, List.nil_append, List.getElem?_cons_zero, List.getElem?_cons_succ, List.set_cons_zero, List.set_cons_succ, Option.bind_some, Option.map_some, Option.bind_none, Option.map_none, Nat.zero_add, Nat.reduceAdd, Nat.reduceSub, Nat.reduceLeDiff, Nat.reduceLT, Nat.reduceEqDiff, Nat.reduceMul, LIM_eq, List.replicate_succ, List.replicate_zero, if_true, if_false, Bool.false_eq_true, Bool.true_eq_false, decide_true, decide_false, okS, noOwn, covers, tgIs, wipeO, List.all_cons, List.all_nil, List.any_cons, List.any_nil, Bool.and_true, Bool.true_and, Bool.and_self, Bool.or_false, Bool.false_or, Bool.or_true, beq_self_nat, kd, Int.reduceLT, Int.reduceLE, Int.reduceNeg, Int.reduceAdd, Int.reduceToNat, Int.reduceMul, Int.reduceSub, and_true, true_and, and_self, ite_true, ite_false, ↓reduceIte, h2, h1]
  unfold bxV
  rcases six h with e | e | e | e | e | e
  · rw [if_pos e]; exact q 0 _ rfl e
  · rw [if_neg (by omega), if_pos e]; exact q 1 _ rfl e
  · rw [if_neg (by omega), if_neg (by omega), if_pos e]; exact q 2 _ rfl e
  · rw [if_neg (by omega), if_neg (by omega), if_neg (by omega), if_pos e]; exact q 3 _ rfl e
  · rw [if_neg (by omega), if_neg (by omega), if_neg (by omega), if_neg (by omega), if_pos e]; exact q 4 _ rfl e
  · rw [if_neg (by omega), if_neg (by omega), if_neg (by omega), if_neg (by omega), if_neg (by omega)]; exact q 5 _ rfl e
theorem div_nn (n k : Int) : 0 ≤ drawnV n k / 4 := by
  have := drawn_nn n k
  omega
/-! the game, the dice -/
def boxesV (n : Int) : List Bx := (List.range (sel4 (n / 64 % 4) 1 2 2 3 : Int).toNat).map fun (k : Nat) => bxV (drawnV n (0 + (k : Int)) / 4)
theorem some_map {α β : Type} (f : α → β) (x : α) : Option.map f (some x) = some (f x) := rfl
theorem nbx_ok (n : Int) : -1000000 ≤ (sel4 (n / 64 % 4) 1 2 2 3 : Int) ∧ (sel4 (n / 64 % 4) 1 2 2 3 : Int) ≤ 1000000 := sel4_le (by omega) (by omega) (by omega) (by omega)
theorem f_game1 (n : Int) (h : 0 ≤ n) : f_law_game [.int n, .int 1] = some (.tuple [.int (1 + n / 256 % 4), .int (2 + n / 1024 % 5), .int (sel4 (n / 16 % 4) 1 2 3 2), .tuple ((boxesV n).map Bx.d)]) := by
  simp only [f_law_game, m_law_game, m_law_game_t0, m_law_game_t1, m_law_game_t2, m_law_game_t3, m_law_game_t4, m_law_game_t5, m_law_game_t6, m_law_game_s0, m_law_game_s1, m_law_game_s2, m_law_game_s3, m_law_game_s4, m_law_game_s5, ap_c, ap_t, ap_v, vK_val, vK_lst, vK_dic, ap_peek, pkK_val, pkK_lst, pkK_dic, ap_o1E, ap_o1P, ap_o2EE, ap_o2EP, ap_o2PE, ap_o2PP, ap_o3E, ap_o3P, ap_esNil, ap_esCons, ap_tup, ap_lst, tupK, lstK, ap_and, ap_or, andK_t, andK_f, andK_b, orK_t, orK_f, orK_b, ap_call, ap_mP, ap_mE, ap_iSeq, ap_iSeqA, kOfL, kOfT, kOfD, ap_dnil, ap_iR1, ap_iR2, r1_eq, r2_eq, ap_tgo1, ap_tgoM, setAll0, setAllC, eComp_eq, ap_turnT, ap_turnO, tuK_t, tuK_f, tuK_b, ap_seq, seqK_nx, seqK_rt, seqK_ct, seqK_bk, seqK_no, seqK_if, ap_nil, ap_cnt, ap_brk, ap_set, ap_own, ownK_l, ownK_d, ap_ret, ap_if, ifK_t, ifK_f, ifK_b, ap_for, forL_nil, forL_cons, forK_nx, forK_ct, forK_bk, forK_rt, forK_if, ap_par, run_eq, runK_rt, runK_nx, runK_if, v_add, v_sub, v_neg, v_mod, v_div, v_mulR, v_mulL, v_mulB, v_addT, v_addL, v_catL, v_lt, v_le, v_gt, v_ge, v_eqI, v_neI, v_eqS, v_neS, v_lenT, v_lenL, v_intB, v_intI, v_not, v_min, v_max, v_abs, v_tupL, v_tupT, v_ixT, v_ixL, ix0, ix1, ix2, ix3, seqT, seqL, v_sumT, v_sumL, v_any, v_all, v_inT, v_inL, v_ninT, v_ninL, v_countT, mapMO_all, mapMO_some, mapMO_map, mapMO_range, v_sortedL, v_sortedT, v_cT, v_cTl, v_cTh, v_cL, v_cLl, v_cLh, v_eqNil, v_neNil, ix4, sel4_int, v_repT, v_isiI, v_isiS, v_isiB, v_isiN, ib_int, eq_dec, rl1, rl2, rl3, rl4, Bool.not_true, Bool.not_false, List.length_map, cutL_map, mkF, List.length_cons, List.length_nil, List.map_cons, List.map_nil, List.append_eq, List.cons_append, List.nil_append, List.getElem?_cons_zero, List.getElem?_cons_succ, List.set_cons_zero, List.set_cons_succ, Option.bind_some, Option.map_some, Option.bind_none, Option.map_none, Nat.zero_add, Nat.reduceAdd, Nat.reduceSub, Nat.reduceLeDiff, Nat.reduceLT, Nat.reduceEqDiff, Nat.reduceMul, LIM_eq, List.replicate_succ, List.replicate_zero, if_true, if_false, Bool.false_eq_true, Bool.true_eq_false, decide_true, decide_false, okS, noOwn, covers, tgIs, wipeO, List.all_cons, List.all_nil, List.any_cons, List.any_nil, Bool.and_true, Bool.true_and, Bool.and_self, Bool.or_false, Bool.false_or, Bool.or_true, beq_self_nat, kd, Int.reduceLT, Int.reduceLE, Int.reduceNeg, Int.reduceAdd, Int.reduceToNat, Int.reduceMul, Int.reduceSub, and_true, true_and, and_self, ite_true, ite_false, ↓reduceIte, f_drawn, f_box, div_nn, nbx_ok, v_eqI]
  unfold boxesV
  rw [List.map_map]
  rfl
def diceV (m s : Int) (n : Int) : List Int := isortI ((List.range m.toNat).map fun (k : Nat) => 1 + drawnV n (30 + (0 + (k : Int))) / 4 % s)
theorem f_dice (m s x y n : D) (mi si ni : Int) (hm : m = .int mi) (hs : s = .int si) (hn : n = .int ni) (h1 : -1000000 ≤ mi ∧ mi ≤ 1000000) (h2 : 0 < si) (h3 : mi.toNat ≤ 1000000) : f_law_dice [.tuple [m, s, x, y], n] = some (.tuple ((diceV mi si ni).map .int)) := by
  subst hm hs hn
  simp only [f_law_dice, m_law_dice, ap_c, ap_t, ap_v, vK_val, vK_lst, vK_dic, ap_peek, pkK_val, pkK_lst, pkK_dic, ap_o1E, ap_o1P, ap_o2EE, ap_o2EP, ap_o2PE, ap_o2PP, ap_o3E, ap_o3P, ap_esNil, ap_esCons, ap_tup, ap_lst, tupK, lstK, ap_and, ap_or, andK_t, andK_f, andK_b, orK_t, orK_f, orK_b, ap_call, ap_mP, ap_mE, ap_iSeq, ap_iSeqA, kOfL, kOfT, kOfD, ap_dnil, ap_iR1, ap_iR2, r1_eq, r2_eq, ap_tgo1, ap_tgoM, setAll0, setAllC, eComp_eq, ap_turnT, ap_turnO, tuK_t, tuK_f, tuK_b, ap_seq, seqK_nx, seqK_rt, seqK_ct, seqK_bk, seqK_no, seqK_if, ap_nil, ap_cnt, ap_brk, ap_set, ap_own, ownK_l, ownK_d, ap_ret, ap_if, ifK_t, ifK_f, ifK_b, ap_for, forL_nil, forL_cons, forK_nx, forK_ct, forK_bk, forK_rt, forK_if, ap_par, run_eq, runK_rt, runK_nx, runK_if, v_add, v_sub, v_neg, v_mod, v_div, v_mulR, v_mulL, v_mulB, v_addT, v_addL, v_catL, v_lt, v_le, v_gt, v_ge, v_eqI, v_neI, v_eqS, v_neS, v_lenT, v_lenL, v_intB, v_intI, v_not, v_min, v_max, v_abs, v_tupL, v_tupT, v_ixT, v_ixL, ix0, ix1, ix2, ix3, seqT, seqL, v_sumT, v_sumL, v_any, v_all, v_inT, v_inL, v_ninT, v_ninL, v_countT, mapMO_all, mapMO_some, mapMO_map, mapMO_range, v_sortedL, v_sortedT, v_cT, v_cTl, v_cTh, v_cL, v_cLl, v_cLh, v_eqNil, v_neNil, ix4, sel4_int, v_repT, v_isiI, v_isiS, v_isiB, v_isiN, ib_int, eq_dec, rl1, rl2, rl3, rl4, Bool.not_true, Bool.not_false, List.length_map, cutL_map, mkF, List.length_cons, List.length_nil, List.map_cons, List.map_nil, List.append_eq, List.cons_append, List.nil_append, List.getElem?_cons_zero, List.getElem?_cons_succ, List.set_cons_zero, List.set_cons_succ, Option.bind_some, Option.map_some, Option.bind_none, Option.map_none, Nat.zero_add, Nat.reduceAdd, Nat.reduceSub, Nat.reduceLeDiff, Nat.reduceLT, Nat.reduceEqDiff, Nat.reduceMul, LIM_eq, List.replicate_succ, List.replicate_zero, if_true, if_false, Bool.false_eq_true, Bool.true_eq_false, decide_true, decide_false, okS, noOwn, covers, tgIs, wipeO, List.all_cons, List.all_nil, List.any_cons, List.any_nil, Bool.and_true, Bool.true_and, Bool.and_self, Bool.or_false, Bool.false_or, Bool.or_true, beq_self_nat, kd, Int.reduceLT, Int.reduceLE, Int.reduceNeg, Int.reduceAdd, Int.reduceToNat, Int.reduceMul, Int.reduceSub, and_true, true_and, and_self, ite_true, ite_false, ↓reduceIte, f_drawn, h1, h2]
  rw [mapMO_int]
  simp only [ap_c, ap_t, ap_v, vK_val, vK_lst, vK_dic, ap_peek, pkK_val, pkK_lst, pkK_dic, ap_o1E, ap_o1P, ap_o2EE, ap_o2EP, ap_o2PE, ap_o2PP, ap_o3E, ap_o3P, ap_esNil, ap_esCons, ap_tup, ap_lst, tupK, lstK, ap_and, ap_or, andK_t, andK_f, andK_b, orK_t, orK_f, orK_b, ap_call, ap_mP, ap_mE, ap_iSeq, ap_iSeqA, kOfL, kOfT, kOfD, ap_dnil, ap_iR1, ap_iR2, r1_eq, r2_eq, ap_tgo1, ap_tgoM, setAll0, setAllC, eComp_eq, ap_turnT, ap_turnO, tuK_t, tuK_f, tuK_b, ap_seq, seqK_nx, seqK_rt, seqK_ct, seqK_bk, seqK_no, seqK_if, ap_nil, ap_cnt, ap_brk, ap_set, ap_own, ownK_l, ownK_d, ap_ret, ap_if, ifK_t, ifK_f, ifK_b, ap_for, forL_nil, forL_cons, forK_nx, forK_ct, forK_bk, forK_rt, forK_if, ap_par, run_eq, runK_rt, runK_nx, runK_if, v_add, v_sub, v_neg, v_mod, v_div, v_mulR, v_mulL, v_mulB, v_addT, v_addL, v_catL, v_lt, v_le, v_gt, v_ge, v_eqI, v_neI, v_eqS, v_neS, v_lenT, v_lenL, v_intB, v_intI, v_not, v_min, v_max, v_abs, v_tupL, v_tupT, v_ixT, v_ixL, ix0, ix1, ix2, ix3, seqT, seqL, v_sumT, v_sumL, v_any, v_all, v_inT, v_inL, v_ninT, v_ninL, v_countT, mapMO_all, mapMO_some, mapMO_map, mapMO_range, v_sortedL, v_sortedT, v_cT, v_cTl, v_cTh, v_cL, v_cLl, v_cLh, v_eqNil, v_neNil, ix4, sel4_int, v_repT, v_isiI, v_isiS, v_isiB, v_isiN, ib_int, eq_dec, rl1, rl2, rl3, rl4, Bool.not_true, Bool.not_false, List.length_map, cutL_map, mkF, List.length_cons, List.length_nil, List.map_cons, List.map_nil, List.append_eq, List.cons_append, List.nil_append, List.getElem?_cons_zero, List.getElem?_cons_succ, List.set_cons_zero, List.set_cons_succ, Option.bind_some, Option.map_some, Option.bind_none, Option.map_none, Nat.zero_add, Nat.reduceAdd, Nat.reduceSub, Nat.reduceLeDiff, Nat.reduceLT, Nat.reduceEqDiff, Nat.reduceMul, LIM_eq, List.replicate_succ, List.replicate_zero, if_true, if_false, Bool.false_eq_true, Bool.true_eq_false, decide_true, decide_false, okS, noOwn, covers, tgIs, wipeO, List.all_cons, List.all_nil, List.any_cons, List.any_nil, Bool.and_true, Bool.true_and, Bool.and_self, Bool.or_false, Bool.false_or, Bool.or_true, beq_self_nat, kd, Int.reduceLT, Int.reduceLE, Int.reduceNeg, Int.reduceAdd, Int.reduceToNat, Int.reduceMul, Int.reduceSub, and_true, true_and, and_self, ite_true, ite_false, ↓reduceIte, h3, List.length_range]
  rfl

/-! points -/
theorem nw (a b : Str) (h : decide (a = b) = false) : decide (a = b) = false := h
def hasRun (l : List Int) (m : Int) : Bool := l.any fun x => (List.range m.toNat).all fun k => l.contains (x + (0 + (k : Int)))
theorem f_run (l : List Int) (m : Int) (h : -1000000 ≤ m ∧ m ≤ 1000000) : f_has_run [.tuple (l.map .int), .int m] = some (.bool (hasRun l m)) := by
  simp only [f_has_run, m_has_run, ap_c, ap_t, ap_v, vK_val, vK_lst, vK_dic, ap_peek, pkK_val, pkK_lst, pkK_dic, ap_o1E, ap_o1P, ap_o2EE, ap_o2EP, ap_o2PE, ap_o2PP, ap_o3E, ap_o3P, ap_esNil, ap_esCons, ap_tup, ap_lst, tupK, lstK, ap_and, ap_or, andK_t, andK_f, andK_b, orK_t, orK_f, orK_b, ap_call, ap_mP, ap_mE, ap_iSeq, ap_iSeqA, kOfL, kOfT, kOfD, ap_dnil, ap_iR1, ap_iR2, r1_eq, r2_eq, ap_tgo1, ap_tgoM, setAll0, setAllC, eComp_eq, ap_turnT, ap_turnO, tuK_t, tuK_f, tuK_b, ap_seq, seqK_nx, seqK_rt, seqK_ct, seqK_bk, seqK_no, seqK_if, ap_nil, ap_cnt, ap_brk, ap_set, ap_own, ownK_l, ownK_d, ap_ret, ap_if, ifK_t, ifK_f, ifK_b, ap_for, forL_nil, forL_cons, forK_nx, forK_ct, forK_bk, forK_rt, forK_if, ap_par, run_eq, runK_rt, runK_nx, runK_if, v_add, v_sub, v_neg, v_mod, v_div, v_mulR, v_mulL, v_mulB, v_addT, v_addL, v_catL, v_lt, v_le, v_gt, v_ge, v_eqI, v_neI, v_eqS, v_neS, v_lenT, v_lenL, v_intB, v_intI, v_not, v_min, v_max, v_abs, v_tupL, v_tupT, v_ixT, v_ixL, ix0, ix1, ix2, ix3, seqT, seqL, v_sumT, v_sumL, v_any, v_all, v_inT, v_inL, v_ninT, v_ninL, v_countT, mapMO_all, mapMO_some, mapMO_map, mapMO_range, v_sortedL, v_sortedT, v_cT, v_cTl, v_cTh, v_cL, v_cLl, v_cLh, v_eqNil, v_neNil, ix4, sel4_int, v_repT, v_isiI, v_isiS, v_isiB, v_isiN, ib_int, eq_dec, rl1, rl2, rl3, rl4, Bool.not_true, Bool.not_false, List.length_map, cutL_map, mkF, List.length_cons, List.length_nil, List.map_cons, List.map_nil, List.append_eq, List.cons_append, List.nil_append, List.getElem?_cons_zero, List.getElem?_cons_succ, List.set_cons_zero, List.set_cons_succ, Option.bind_some, Option.map_some, Option.bind_none, Option.map_none, Nat.zero_add, Nat.reduceAdd, Nat.reduceSub, Nat.reduceLeDiff, Nat.reduceLT, Nat.reduceEqDiff, Nat.reduceMul, LIM_eq, List.replicate_succ, List.replicate_zero, if_true, if_false, Bool.false_eq_true, Bool.true_eq_false, decide_true, decide_false, okS, noOwn, covers, tgIs, wipeO, List.all_cons, List.all_nil, List.any_cons, List.any_nil, Bool.and_true, Bool.true_and, Bool.and_self, Bool.or_false, Bool.false_or, Bool.or_true, beq_self_nat, kd, Int.reduceLT, Int.reduceLE, Int.reduceNeg, Int.reduceAdd, Int.reduceToNat, Int.reduceMul, Int.reduceSub, and_true, true_and, and_self, ite_true, ite_false, ↓reduceIte, h]
  rfl
def pts : Bx → List Int → Int
  | .face a, l => a * (l.count a : Int)
  | .all, l => l.sum
  | .alike m p, l => p * (if (l.any fun x => decide (m ≤ (l.count x : Int))) = true then 1 else 0)
  | .run m p, l => p * (if hasRun l m = true then 1 else 0)
  | .under a, l => l.sum * (if decide (l.sum ≤ a) = true then 1 else 0)
  | .even a, l => a * (if (l.all fun x => decide (x % 2 = 0)) = true then 1 else 0)
theorem f_pts (b : Bx) (l : List Int) (h : b.ok) (hl : l.length ≤ 10) : f_points [b.d, .tuple (l.map .int)] = some (.int (pts b l)) := by
  cases b with
  | face a =>
    have h1 : -18446744073709551616 < a := by have := h.1; omega
    have h2 : a < 18446744073709551616 := by have := h.2; omega
    simp only [f_points, m_points, m_points_t0, m_points_t1, m_points_t2, m_points_t3, m_points_t4, m_points_t5, m_points_t6, m_points_s0, m_points_s1, m_points_s2, m_points_s3, m_points_s4, m_points_s5, Bx.d, ap_c, ap_t, ap_v, vK_val, vK_lst, vK_dic, ap_peek, pkK_val, pkK_lst, pkK_dic, ap_o1E, ap_o1P, ap_o2EE, ap_o2EP, ap_o2PE, ap_o2PP, ap_o3E, ap_o3P, ap_esNil, ap_esCons, ap_tup, ap_lst, tupK, lstK, ap_and, ap_or, andK_t, andK_f, andK_b, orK_t, orK_f, orK_b, ap_call, ap_mP, ap_mE, ap_iSeq, ap_iSeqA, kOfL, kOfT, kOfD, ap_dnil, ap_iR1, ap_iR2, r1_eq, r2_eq, ap_tgo1, ap_tgoM, setAll0, setAllC, eComp_eq, ap_turnT, ap_turnO, tuK_t, tuK_f, tuK_b, ap_seq, seqK_nx, seqK_rt, seqK_ct, seqK_bk, seqK_no, seqK_if, ap_nil, ap_cnt, ap_brk, ap_set, ap_own, ownK_l, ownK_d, ap_ret, ap_if, ifK_t, ifK_f, ifK_b, ap_for, forL_nil, forL_cons, forK_nx, forK_ct, forK_bk, forK_rt, forK_if, ap_par, run_eq, runK_rt, runK_nx, runK_if, v_add, v_sub, v_neg, v_mod, v_div, v_mulR, v_mulL, v_mulB, v_addT, v_addL, v_catL, v_lt, v_le, v_gt, v_ge, v_eqI, v_neI, v_eqS, v_neS, v_lenT, v_lenL, v_intB, v_intI, v_not, v_min, v_max, v_abs, v_tupL, v_tupT, v_ixT, v_ixL, ix0, ix1, ix2, ix3, seqT, seqL, v_sumT, v_sumL, v_any, v_all, v_inT, v_inL, v_ninT, v_ninL, v_countT, mapMO_all, mapMO_some, mapMO_map, mapMO_range, v_sortedL, v_sortedT, v_cT, v_cTl, v_cTh, v_cL, v_cLl, v_cLh, v_eqNil, v_neNil, ix4, sel4_int, v_repT, v_isiI, v_isiS, v_isiB, v_isiN, ib_int, eq_dec, rl1, rl2, rl3, rl4, Bool.not_true, Bool.not_false, List.length_map, cutL_map, mkF, List.length_cons, List.length_nil, List.map_cons, List.map_nil, List.append_eq, List.cons_append, List.nil_append, List.getElem?_cons_zero, List.getElem?_cons_succ, List.set_cons_zero, List.set_cons_succ, Option.bind_some, Option.map_some, Option.bind_none, Option.map_none, Nat.zero_add, Nat.reduceAdd, Nat.reduceSub, Nat.reduceLeDiff, Nat.reduceLT, Nat.reduceEqDiff, Nat.reduceMul, LIM_eq, List.replicate_succ, List.replicate_zero, if_true, if_false, Bool.false_eq_true, Bool.true_eq_false, decide_true, decide_false, okS, noOwn, covers, tgIs, wipeO, List.all_cons, List.all_nil, List.any_cons, List.any_nil, Bool.and_true, Bool.true_and, Bool.and_self, Bool.or_false, Bool.false_or, Bool.or_true, beq_self_nat, kd, Int.reduceLT, Int.reduceLE, Int.reduceNeg, Int.reduceAdd, Int.reduceToNat, Int.reduceMul, Int.reduceSub, and_true, true_and, and_self, ite_true, ite_false, ↓reduceIte, h1, h2, se_face, se_all, se_alike, se_run, se_under, se_even, sn_face_all, sn_face_alike, sn_face_run, sn_face_under, sn_face_even, sn_all_face, sn_all_alike, sn_all_run, sn_all_under, sn_all_even, sn_alike_face, sn_alike_all, sn_alike_run, sn_alike_under, sn_alike_even, sn_run_face, sn_run_all, sn_run_alike, sn_run_under, sn_run_even, sn_under_face, sn_under_all, sn_under_alike, sn_under_run, sn_under_even, sn_even_face, sn_even_all, sn_even_alike, sn_even_run, sn_even_under]
    rfl
  | all =>
    simp only [f_points, m_points, m_points_t0, m_points_t1, m_points_t2, m_points_t3, m_points_t4, m_points_t5, m_points_t6, m_points_s0, m_points_s1, m_points_s2, m_points_s3, m_points_s4, m_points_s5, Bx.d, ap_c, ap_t, ap_v, vK_val, vK_lst, vK_dic, ap_peek, pkK_val, pkK_lst, pkK_dic, ap_o1E, ap_o1P, ap_o2EE, ap_o2EP, ap_o2PE, ap_o2PP, ap_o3E, ap_o3P, ap_esNil, ap_esCons, ap_tup, ap_lst, tupK, lstK, ap_and, ap_or, andK_t, andK_f, andK_b, orK_t, orK_f, orK_b, ap_call, ap_mP, ap_mE, ap_iSeq, ap_iSeqA, kOfL, kOfT, kOfD, ap_dnil, ap_iR1, ap_iR2, r1_eq, r2_eq, ap_tgo1, ap_tgoM, setAll0, setAllC, eComp_eq, ap_turnT, ap_turnO, tuK_t, tuK_f, tuK_b, ap_seq, seqK_nx, seqK_rt, seqK_ct, seqK_bk, seqK_no, seqK_if, ap_nil, ap_cnt, ap_brk, ap_set, ap_own, ownK_l, ownK_d, ap_ret, ap_if, ifK_t, ifK_f, ifK_b, ap_for, forL_nil, forL_cons, forK_nx, forK_ct, forK_bk, forK_rt, forK_if, ap_par, run_eq, runK_rt, runK_nx, runK_if, v_add, v_sub, v_neg, v_mod, v_div, v_mulR, v_mulL, v_mulB, v_addT, v_addL, v_catL, v_lt, v_le, v_gt, v_ge, v_eqI, v_neI, v_eqS, v_neS, v_lenT, v_lenL, v_intB, v_intI, v_not, v_min, v_max, v_abs, v_tupL, v_tupT, v_ixT, v_ixL, ix0, ix1, ix2, ix3, seqT, seqL, v_sumT, v_sumL, v_any, v_all, v_inT, v_inL, v_ninT, v_ninL, v_countT, mapMO_all, mapMO_some, mapMO_map, mapMO_range, v_sortedL, v_sortedT, v_cT, v_cTl, v_cTh, v_cL, v_cLl, v_cLh, v_eqNil, v_neNil, ix4, sel4_int, v_repT, v_isiI, v_isiS, v_isiB, v_isiN, ib_int, eq_dec, rl1, rl2, rl3, rl4, Bool.not_true, Bool.not_false, List.length_map, cutL_map, mkF, List.length_cons, List.length_nil, List.map_cons, List.map_nil, List.append_eq, List.cons_append, List.nil_append, List.getElem?_cons_zero, List.getElem?_cons_succ, List.set_cons_zero, List.set_cons_succ, Option.bind_some, Option.map_some, Option.bind_none, Option.map_none, Nat.zero_add, Nat.reduceAdd, Nat.reduceSub, Nat.reduceLeDiff, Nat.reduceLT, Nat.reduceEqDiff, Nat.reduceMul, LIM_eq, List.replicate_succ, List.replicate_zero, if_true, if_false, Bool.false_eq_true, Bool.true_eq_false, decide_true, decide_false, okS, noOwn, covers, tgIs, wipeO, List.all_cons, List.all_nil, List.any_cons, List.any_nil, Bool.and_true, Bool.true_and, Bool.and_self, Bool.or_false, Bool.false_or, Bool.or_true, beq_self_nat, kd, Int.reduceLT, Int.reduceLE, Int.reduceNeg, Int.reduceAdd, Int.reduceToNat, Int.reduceMul, Int.reduceSub, and_true, true_and, and_self, ite_true, ite_false, ↓reduceIte, se_face, se_all, se_alike, se_run, se_under, se_even, sn_face_all, sn_face_alike, sn_face_run, sn_face_under, sn_face_even, sn_all_face, sn_all_alike, sn_all_run, sn_all_under, sn_all_even, sn_alike_face, sn_alike_all, sn_alike_run, sn_alike_under, sn_alike_even, sn_run_face, sn_run_all, sn_run_alike, sn_run_under, sn_run_even, sn_under_face, sn_under_all, sn_under_alike, sn_under_run, sn_under_even, sn_even_face, sn_even_all, sn_even_alike, sn_even_run, sn_even_under]
    rfl
  | alike m p =>
    have h1 : -18446744073709551616 < p := by have := h.2.2.1; omega
    have h2 : p < 18446744073709551616 := by have := h.2.2.2; omega
    simp only [f_points, m_points, m_points_t0, m_points_t1, m_points_t2, m_points_t3, m_points_t4, m_points_t5, m_points_t6, m_points_s0, m_points_s1, m_points_s2, m_points_s3, m_points_s4, m_points_s5, Bx.d, ap_c, ap_t, ap_v, vK_val, vK_lst, vK_dic, ap_peek, pkK_val, pkK_lst, pkK_dic, ap_o1E, ap_o1P, ap_o2EE, ap_o2EP, ap_o2PE, ap_o2PP, ap_o3E, ap_o3P, ap_esNil, ap_esCons, ap_tup, ap_lst, tupK, lstK, ap_and, ap_or, andK_t, andK_f, andK_b, orK_t, orK_f, orK_b, ap_call, ap_mP, ap_mE, ap_iSeq, ap_iSeqA, kOfL, kOfT, kOfD, ap_dnil, ap_iR1, ap_iR2, r1_eq, r2_eq, ap_tgo1, ap_tgoM, setAll0, setAllC, eComp_eq, ap_turnT, ap_turnO, tuK_t, tuK_f, tuK_b, ap_seq, seqK_nx, seqK_rt, seqK_ct, seqK_bk, seqK_no, seqK_if, ap_nil, ap_cnt, ap_brk, ap_set, ap_own, ownK_l, ownK_d, ap_ret, ap_if, ifK_t, ifK_f, ifK_b, ap_for, forL_nil, forL_cons, forK_nx, forK_ct, forK_bk, forK_rt, forK_if, ap_par, run_eq, runK_rt, runK_nx, runK_if, v_add, v_sub, v_neg, v_mod, v_div, v_mulR, v_mulL, v_mulB, v_addT, v_addL, v_catL, v_lt, v_le, v_gt, v_ge, v_eqI, v_neI, v_eqS, v_neS, v_lenT, v_lenL, v_intB, v_intI, v_not, v_min, v_max, v_abs, v_tupL, v_tupT, v_ixT, v_ixL, ix0, ix1, ix2, ix3, seqT, seqL, v_sumT, v_sumL, v_any, v_all, v_inT, v_inL, v_ninT, v_ninL, v_countT, mapMO_all, mapMO_some, mapMO_map, mapMO_range, v_sortedL, v_sortedT, v_cT, v_cTl, v_cTh, v_cL, v_cLl, v_cLh, v_eqNil, v_neNil, ix4, sel4_int, v_repT, v_isiI, v_isiS, v_isiB, v_isiN, ib_int, eq_dec, rl1, rl2, rl3, rl4, Bool.not_true, Bool.not_false, List.length_map, cutL_map, mkF, List.length_cons, List.length_nil, List.map_cons, List.map_nil, List.append_eq, List.cons_append, List.nil_append, List.getElem?_cons_zero, List.getElem?_cons_succ, List.set_cons_zero, List.set_cons_succ, Option.bind_some, Option.map_some, Option.bind_none, Option.map_none, Nat.zero_add, Nat.reduceAdd, Nat.reduceSub, Nat.reduceLeDiff, Nat.reduceLT, Nat.reduceEqDiff, Nat.reduceMul, LIM_eq, List.replicate_succ, List.replicate_zero, if_true, if_false, Bool.false_eq_true, Bool.true_eq_false, decide_true, decide_false, okS, noOwn, covers, tgIs, wipeO, List.all_cons, List.all_nil, List.any_cons, List.any_nil, Bool.and_true, Bool.true_and, Bool.and_self, Bool.or_false, Bool.false_or, Bool.or_true, beq_self_nat, kd, Int.reduceLT, Int.reduceLE, Int.reduceNeg, Int.reduceAdd, Int.reduceToNat, Int.reduceMul, Int.reduceSub, and_true, true_and, and_self, ite_true, ite_false, ↓reduceIte, h1, h2, se_face, se_all, se_alike, se_run, se_under, se_even, sn_face_all, sn_face_alike, sn_face_run, sn_face_under, sn_face_even, sn_all_face, sn_all_alike, sn_all_run, sn_all_under, sn_all_even, sn_alike_face, sn_alike_all, sn_alike_run, sn_alike_under, sn_alike_even, sn_run_face, sn_run_all, sn_run_alike, sn_run_under, sn_run_even, sn_under_face, sn_under_all, sn_under_alike, sn_under_run, sn_under_even, sn_even_face, sn_even_all, sn_even_alike, sn_even_run, sn_even_under]
    rfl
  | run m p =>
    have h1 : -18446744073709551616 < p := by have := h.2.2.1; omega
    have h2 : p < 18446744073709551616 := by have := h.2.2.2; omega
    have h3 : -1000000 ≤ m ∧ m ≤ 1000000 := ⟨by have := h.1; omega, by have := h.2.1; omega⟩
    simp only [f_points, m_points, m_points_t0, m_points_t1, m_points_t2, m_points_t3, m_points_t4, m_points_t5, m_points_t6, m_points_s0, m_points_s1, m_points_s2, m_points_s3, m_points_s4, m_points_s5, Bx.d, ap_c, ap_t, ap_v, vK_val, vK_lst, vK_dic, ap_peek, pkK_val, pkK_lst, pkK_dic, ap_o1E, ap_o1P, ap_o2EE, ap_o2EP, ap_o2PE, ap_o2PP, ap_o3E, ap_o3P, ap_esNil, ap_esCons, ap_tup, ap_lst, tupK, lstK, ap_and, ap_or, andK_t, andK_f, andK_b, orK_t, orK_f, orK_b, ap_call, ap_mP, ap_mE, ap_iSeq, ap_iSeqA, kOfL, kOfT, kOfD, ap_dnil, ap_iR1, ap_iR2, r1_eq, r2_eq, ap_tgo1, ap_tgoM, setAll0, setAllC, eComp_eq, ap_turnT, ap_turnO, tuK_t, tuK_f, tuK_b, ap_seq, seqK_nx, seqK_rt, seqK_ct, seqK_bk, seqK_no, seqK_if, ap_nil, ap_cnt, ap_brk, ap_set, ap_own, ownK_l, ownK_d, ap_ret, ap_if, ifK_t, ifK_f, ifK_b, ap_for, forL_nil, forL_cons, forK_nx, forK_ct, forK_bk, forK_rt, forK_if, ap_par, run_eq, runK_rt, runK_nx, runK_if, v_add, v_sub, v_neg, v_mod, v_div, v_mulR, v_mulL, v_mulB, v_addT, v_addL, v_catL, v_lt, v_le, v_gt, v_ge, v_eqI, v_neI, v_eqS, v_neS, v_lenT, v_lenL, v_intB, v_intI, v_not, v_min, v_max, v_abs, v_tupL, v_tupT, v_ixT, v_ixL, ix0, ix1, ix2, ix3, seqT, seqL, v_sumT, v_sumL, v_any, v_all, v_inT, v_inL, v_ninT, v_ninL, v_countT, mapMO_all, mapMO_some, mapMO_map, mapMO_range, v_sortedL, v_sortedT, v_cT, v_cTl, v_cTh, v_cL, v_cLl, v_cLh, v_eqNil, v_neNil, ix4, sel4_int, v_repT, v_isiI, v_isiS, v_isiB, v_isiN, ib_int, eq_dec, rl1, rl2, rl3, rl4, Bool.not_true, Bool.not_false, List.length_map, cutL_map, mkF, List.length_cons, List.length_nil, List.map_cons, List.map_nil, List.append_eq, List.cons_append, List.nil_append, List.getElem?_cons_zero, List.getElem?_cons_succ, List.set_cons_zero, List.set_cons_succ, Option.bind_some, Option.map_some, Option.bind_none, Option.map_none, Nat.zero_add, Nat.reduceAdd, Nat.reduceSub, Nat.reduceLeDiff, Nat.reduceLT, Nat.reduceEqDiff, Nat.reduceMul, LIM_eq, List.replicate_succ, List.replicate_zero, if_true, if_false, Bool.false_eq_true, Bool.true_eq_false, decide_true, decide_false, okS, noOwn, covers, tgIs, wipeO, List.all_cons, List.all_nil, List.any_cons, List.any_nil, Bool.and_true, Bool.true_and, Bool.and_self, Bool.or_false, Bool.false_or, Bool.or_true, beq_self_nat, kd, Int.reduceLT, Int.reduceLE, Int.reduceNeg, Int.reduceAdd, Int.reduceToNat, Int.reduceMul, Int.reduceSub, and_true, true_and, and_self, ite_true, ite_false, ↓reduceIte, h1, h2, f_run l m h3, se_face, se_all, se_alike, se_run, se_under, se_even, sn_face_all, sn_face_alike, sn_face_run, sn_face_under, sn_face_even, sn_all_face, sn_all_alike, sn_all_run, sn_all_under, sn_all_even, sn_alike_face, sn_alike_all, sn_alike_run, sn_alike_under, sn_alike_even, sn_run_face, sn_run_all, sn_run_alike, sn_run_under, sn_run_even, sn_under_face, sn_under_all, sn_under_alike, sn_under_run, sn_under_even, sn_even_face, sn_even_all, sn_even_alike, sn_even_run, sn_even_under]
    rfl
  | under a =>
    simp only [f_points, m_points, m_points_t0, m_points_t1, m_points_t2, m_points_t3, m_points_t4, m_points_t5, m_points_t6, m_points_s0, m_points_s1, m_points_s2, m_points_s3, m_points_s4, m_points_s5, Bx.d, ap_c, ap_t, ap_v, vK_val, vK_lst, vK_dic, ap_peek, pkK_val, pkK_lst, pkK_dic, ap_o1E, ap_o1P, ap_o2EE, ap_o2EP, ap_o2PE, ap_o2PP, ap_o3E, ap_o3P, ap_esNil, ap_esCons, ap_tup, ap_lst, tupK, lstK, ap_and, ap_or, andK_t, andK_f, andK_b, orK_t, orK_f, orK_b, ap_call, ap_mP, ap_mE, ap_iSeq, ap_iSeqA, kOfL, kOfT, kOfD, ap_dnil, ap_iR1, ap_iR2, r1_eq, r2_eq, ap_tgo1, ap_tgoM, setAll0, setAllC, eComp_eq, ap_turnT, ap_turnO, tuK_t, tuK_f, tuK_b, ap_seq, seqK_nx, seqK_rt, seqK_ct, seqK_bk, seqK_no, seqK_if, ap_nil, ap_cnt, ap_brk, ap_set, ap_own, ownK_l, ownK_d, ap_ret, ap_if, ifK_t, ifK_f, ifK_b, ap_for, forL_nil, forL_cons, forK_nx, forK_ct, forK_bk, forK_rt, forK_if, ap_par, run_eq, runK_rt, runK_nx, runK_if, v_add, v_sub, v_neg, v_mod, v_div, v_mulR, v_mulL, v_mulB, v_addT, v_addL, v_catL, v_lt, v_le, v_gt, v_ge, v_eqI, v_neI, v_eqS, v_neS, v_lenT, v_lenL, v_intB, v_intI, v_not, v_min, v_max, v_abs, v_tupL, v_tupT, v_ixT, v_ixL, ix0, ix1, ix2, ix3, seqT, seqL, v_sumT, v_sumL, v_any, v_all, v_inT, v_inL, v_ninT, v_ninL, v_countT, mapMO_all, mapMO_some, mapMO_map, mapMO_range, v_sortedL, v_sortedT, v_cT, v_cTl, v_cTh, v_cL, v_cLl, v_cLh, v_eqNil, v_neNil, ix4, sel4_int, v_repT, v_isiI, v_isiS, v_isiB, v_isiN, ib_int, eq_dec, rl1, rl2, rl3, rl4, Bool.not_true, Bool.not_false, List.length_map, cutL_map, mkF, List.length_cons, List.length_nil, List.map_cons, List.map_nil, List.append_eq, List.cons_append, List.nil_append, List.getElem?_cons_zero, List.getElem?_cons_succ, List.set_cons_zero, List.set_cons_succ, Option.bind_some, Option.map_some, Option.bind_none, Option.map_none, Nat.zero_add, Nat.reduceAdd, Nat.reduceSub, Nat.reduceLeDiff, Nat.reduceLT, Nat.reduceEqDiff, Nat.reduceMul, LIM_eq, List.replicate_succ, List.replicate_zero, if_true, if_false, Bool.false_eq_true, Bool.true_eq_false, decide_true, decide_false, okS, noOwn, covers, tgIs, wipeO, List.all_cons, List.all_nil, List.any_cons, List.any_nil, Bool.and_true, Bool.true_and, Bool.and_self, Bool.or_false, Bool.false_or, Bool.or_true, beq_self_nat, kd, Int.reduceLT, Int.reduceLE, Int.reduceNeg, Int.reduceAdd, Int.reduceToNat, Int.reduceMul, Int.reduceSub, and_true, true_and, and_self, ite_true, ite_false, ↓reduceIte, se_face, se_all, se_alike, se_run, se_under, se_even, sn_face_all, sn_face_alike, sn_face_run, sn_face_under, sn_face_even, sn_all_face, sn_all_alike, sn_all_run, sn_all_under, sn_all_even, sn_alike_face, sn_alike_all, sn_alike_run, sn_alike_under, sn_alike_even, sn_run_face, sn_run_all, sn_run_alike, sn_run_under, sn_run_even, sn_under_face, sn_under_all, sn_under_alike, sn_under_run, sn_under_even, sn_even_face, sn_even_all, sn_even_alike, sn_even_run, sn_even_under]
    rfl
  | even a =>
    have h1 : -18446744073709551616 < a := by have := h.1; omega
    have h2 : a < 18446744073709551616 := by have := h.2; omega
    simp only [f_points, m_points, m_points_t0, m_points_t1, m_points_t2, m_points_t3, m_points_t4, m_points_t5, m_points_t6, m_points_s0, m_points_s1, m_points_s2, m_points_s3, m_points_s4, m_points_s5, Bx.d, ap_c, ap_t, ap_v, vK_val, vK_lst, vK_dic, ap_peek, pkK_val, pkK_lst, pkK_dic, ap_o1E, ap_o1P, ap_o2EE, ap_o2EP, ap_o2PE, ap_o2PP, ap_o3E, ap_o3P, ap_esNil, ap_esCons, ap_tup, ap_lst, tupK, lstK, ap_and, ap_or, andK_t, andK_f, andK_b, orK_t, orK_f, orK_b, ap_call, ap_mP, ap_mE, ap_iSeq, ap_iSeqA, kOfL, kOfT, kOfD, ap_dnil, ap_iR1, ap_iR2, r1_eq, r2_eq, ap_tgo1, ap_tgoM, setAll0, setAllC, eComp_eq, ap_turnT, ap_turnO, tuK_t, tuK_f, tuK_b, ap_seq, seqK_nx, seqK_rt, seqK_ct, seqK_bk, seqK_no, seqK_if, ap_nil, ap_cnt, ap_brk, ap_set, ap_own, ownK_l, ownK_d, ap_ret, ap_if, ifK_t, ifK_f, ifK_b, ap_for, forL_nil, forL_cons, forK_nx, forK_ct, forK_bk, forK_rt, forK_if, ap_par, run_eq, runK_rt, runK_nx, runK_if, v_add, v_sub, v_neg, v_mod, v_div, v_mulR, v_mulL, v_mulB, v_addT, v_addL, v_catL, v_lt, v_le, v_gt, v_ge, v_eqI, v_neI, v_eqS, v_neS, v_lenT, v_lenL, v_intB, v_intI, v_not, v_min, v_max, v_abs, v_tupL, v_tupT, v_ixT, v_ixL, ix0, ix1, ix2, ix3, seqT, seqL, v_sumT, v_sumL, v_any, v_all, v_inT, v_inL, v_ninT, v_ninL, v_countT, mapMO_all, mapMO_some, mapMO_map, mapMO_range, v_sortedL, v_sortedT, v_cT, v_cTl, v_cTh, v_cL, v_cLl, v_cLh, v_eqNil, v_neNil, ix4, sel4_int, v_repT, v_isiI, v_isiS, v_isiB, v_isiN, ib_int, eq_dec, rl1, rl2, rl3, rl4, Bool.not_true, Bool.not_false, List.length_map, cutL_map, mkF, List.length_cons, List.length_nil, List.map_cons, List.map_nil, List.append_eq, List.cons_append, List.nil_append, List.getElem?_cons_zero, List.getElem?_cons_succ, List.set_cons_zero, List.set_cons_succ, Option.bind_some, Option.map_some, Option.bind_none, Option.map_none, Nat.zero_add, Nat.reduceAdd, Nat.reduceSub, Nat.reduceLeDiff, Nat.reduceLT, Nat.reduceEqDiff, Nat.reduceMul, LIM_eq, List.replicate_succ, List.replicate_zero, if_true, if_false, Bool.false_eq_true, Bool.true_eq_false, decide_true, decide_false, okS, noOwn, covers, tgIs, wipeO, List.all_cons, List.all_nil, List.any_cons, List.any_nil, Bool.and_true, Bool.true_and, Bool.and_self, Bool.or_false, Bool.false_or, Bool.or_true, beq_self_nat, kd, Int.reduceLT, Int.reduceLE, Int.reduceNeg, Int.reduceAdd, Int.reduceToNat, Int.reduceMul, Int.reduceSub, and_true, true_and, and_self, ite_true, ite_false, ↓reduceIte, h1, h2, se_face, se_all, se_alike, se_run, se_under, se_even, sn_face_all, sn_face_alike, sn_face_run, sn_face_under, sn_face_even, sn_all_face, sn_all_alike, sn_all_run, sn_all_under, sn_all_even, sn_alike_face, sn_alike_all, sn_alike_run, sn_alike_under, sn_alike_even, sn_run_face, sn_run_all, sn_run_alike, sn_run_under, sn_run_even, sn_under_face, sn_under_all, sn_under_alike, sn_under_run, sn_under_even, sn_even_face, sn_even_all, sn_even_alike, sn_even_run, sn_even_under]
    rfl


def R6 : List Int := [1, 2, 3, 4, 5, 6]
theorem mem6 {x : Int} (h : 1 ≤ x ∧ x ≤ 6) : x ∈ R6 := by
  have : x = 1 ∨ x = 2 ∨ x = 3 ∨ x = 4 ∨ x = 5 ∨ x = 6 := by omega
  rcases this with h | h | h | h | h | h <;> rw [h] <;> decide
/-- dice as they come here -/
structure Dice (l : List Int) : Prop where
  lo : 1 ≤ l.length
  hi : l.length ≤ 4
  six : ∀ x ∈ l, 1 ≤ x ∧ x ≤ 6
  up : l.Pairwise (· ≤ ·)

/-! dice by their order, what can be kept, what can come -/
def DL : Nat → Nat → Nat → List (List Int)
  | 0, _, _ => [[]]
  | m + 1, s, a => (List.range' a (s + 1 - a)).flatMap fun b => (DL m s b).map fun l => (b : Int) :: l
def notHd (a : Int) : List Int → Bool
  | [] => false
  | b :: _ => !(b == a)
def kps : List Int → List (List Int)
  | [] => [[]]
  | a :: l => [] :: ((kps l).map (a :: ·) ++ (kps l).filter (notHd a))
def subL (x y : List Int) : Bool := x.all fun a => decide (x.count a ≤ y.count a)
def facN : Nat → Nat
  | 0 => 1
  | n + 1 => (n + 1) * facN n
def wayN (s r : Nat) (x y : List Int) : Nat := facN r / (List.range s).foldl (fun p d => p * facN (y.count ((d + 1 : Nat) : Int) - x.count ((d + 1 : Nat) : Int))) 1
def aft (m s : Nat) (x : List Int) : List (List Int × Int × Int) := (DL m s 1).filterMap fun y => if subL x y then some (y, ((wayN s (m - x.length) x y / Nat.gcd (wayN s (m - x.length) x y) (s ^ (m - x.length)) : Nat) : Int), ((s ^ (m - x.length) / Nat.gcd (wayN s (m - x.length) x y) (s ^ (m - x.length)) : Nat) : Int)) else none
abbrev tup (l : List Int) : D := .tuple (l.map .int)
abbrev frD (u l : Int) : D := .tuple [.int u, .int l]
abbrev aftD (p : List Int × Int × Int) : D := .tuple [tup p.1, frD p.2.1 p.2.2]
theorem mem_DL (s : Nat) : ∀ (l : List Int) (a : Nat), (∀ x ∈ l, (a : Int) ≤ x ∧ x ≤ (s : Int)) → l.Pairwise (· ≤ ·) → l ∈ DL l.length s a
  | [], _, _, _ => List.mem_singleton.mpr rfl
  | b :: l, a, h1, h2 => by
    obtain ⟨h3, h4⟩ := List.pairwise_cons.mp h2
    have hb := h1 b List.mem_cons_self
    obtain ⟨n, rfl⟩ := Int.eq_ofNat_of_zero_le (show 0 ≤ b by omega)
    have ih := mem_DL s l n (fun x hx => ⟨h3 x hx, (h1 x (List.mem_cons_of_mem _ hx)).2⟩) h4
    refine List.mem_flatMap.mpr ⟨n, List.mem_range'_1.mpr ⟨by omega, by omega⟩, List.mem_map.mpr ⟨l, ih, rfl⟩⟩
theorem DL_mem (s : Nat) : ∀ (m a : Nat) (l : List Int), l ∈ DL m s a → l.length = m ∧ (∀ x ∈ l, (a : Int) ≤ x ∧ x ≤ (s : Int)) ∧ l.Pairwise (· ≤ ·)
  | 0, a, l, h => by
    have e : l = [] := List.mem_singleton.mp h
    subst e
    exact ⟨rfl, (fun x hx => nomatch hx), List.Pairwise.nil⟩
  | m + 1, a, l, h => by
    obtain ⟨b, hb, h2⟩ := List.mem_flatMap.mp h
    obtain ⟨l', h3, rfl⟩ := List.mem_map.mp h2
    obtain ⟨k1, k2, k3⟩ := DL_mem s m b l' h3
    have hb := List.mem_range'_1.mp hb
    refine ⟨by rw [List.length_cons, k1], fun x hx => ?_, List.pairwise_cons.mpr ⟨fun x hx => (k2 x hx).1, k3⟩⟩
    rcases List.mem_cons.mp hx with rfl | hx
    · omega
    · have := k2 x hx
      omega
theorem kd_one {m s : Nat} {l : List Int} (h : ((kps l).all fun x => decide (x.length ≤ m) && (DL x.length s 1).contains x) = true) {x : List Int} (hx : x ∈ kps l) : x.length ≤ m ∧ x ∈ DL x.length s 1 := by
  have := List.all_eq_true.mp h x hx
  rw [Bool.and_eq_true, decide_eq_true_iff, List.contains_iff_mem] at this
  exact this
theorem kp12 : (DL 1 2 1).map (fun l => f_keeps [tup l]) = (DL 1 2 1).map fun l => some (.tuple ((kps l).map tup)) := by kernel_rfl
theorem kd12 : (DL 1 2 1).map (fun l => (kps l).all fun x => decide (x.length ≤ 1) && (DL x.length 2 1).contains x) = (DL 1 2 1).map fun _ => true := by kernel_rfl
theorem th12 : f_throws_of [.int 1, .int 2] = some (.tuple ((aft 1 2 []).map aftD)) := by kernel_rfl
theorem af120 (t b : D) : (DL 0 2 1).map (fun x => f_after [.tuple [.int 1, .int 2, t, b], tup x]) = (DL 0 2 1).map fun x => some (.tuple ((aft 1 2 x).map aftD)) := by kernel_rfl
theorem af121 (t b : D) : (DL 1 2 1).map (fun x => f_after [.tuple [.int 1, .int 2, t, b], tup x]) = (DL 1 2 1).map fun x => some (.tuple ((aft 1 2 x).map aftD)) := by kernel_rfl
theorem af12 (t b : D) (x : List Int) (h : x ∈ DL x.length 2 1) (h2 : x.length ≤ 1) : f_after [.tuple [.int 1, .int 2, t, b], tup x] = some (.tuple ((aft 1 2 x).map aftD)) := by
  have h3 : x.length = 0 ∨ x.length = 1 := by omega
  rcases h3 with e | e
  · rw [e] at h; exact List.map_inj_left.mp (af120 t b) x h
  · rw [e] at h; exact List.map_inj_left.mp (af121 t b) x h
theorem kp13 : (DL 1 3 1).map (fun l => f_keeps [tup l]) = (DL 1 3 1).map fun l => some (.tuple ((kps l).map tup)) := by kernel_rfl
theorem kd13 : (DL 1 3 1).map (fun l => (kps l).all fun x => decide (x.length ≤ 1) && (DL x.length 3 1).contains x) = (DL 1 3 1).map fun _ => true := by kernel_rfl
theorem th13 : f_throws_of [.int 1, .int 3] = some (.tuple ((aft 1 3 []).map aftD)) := by kernel_rfl
theorem af130 (t b : D) : (DL 0 3 1).map (fun x => f_after [.tuple [.int 1, .int 3, t, b], tup x]) = (DL 0 3 1).map fun x => some (.tuple ((aft 1 3 x).map aftD)) := by kernel_rfl
theorem af131 (t b : D) : (DL 1 3 1).map (fun x => f_after [.tuple [.int 1, .int 3, t, b], tup x]) = (DL 1 3 1).map fun x => some (.tuple ((aft 1 3 x).map aftD)) := by kernel_rfl
theorem af13 (t b : D) (x : List Int) (h : x ∈ DL x.length 3 1) (h2 : x.length ≤ 1) : f_after [.tuple [.int 1, .int 3, t, b], tup x] = some (.tuple ((aft 1 3 x).map aftD)) := by
  have h3 : x.length = 0 ∨ x.length = 1 := by omega
  rcases h3 with e | e
  · rw [e] at h; exact List.map_inj_left.mp (af130 t b) x h
  · rw [e] at h; exact List.map_inj_left.mp (af131 t b) x h
theorem kp14 : (DL 1 4 1).map (fun l => f_keeps [tup l]) = (DL 1 4 1).map fun l => some (.tuple ((kps l).map tup)) := by kernel_rfl
theorem kd14 : (DL 1 4 1).map (fun l => (kps l).all fun x => decide (x.length ≤ 1) && (DL x.length 4 1).contains x) = (DL 1 4 1).map fun _ => true := by kernel_rfl
theorem th14 : f_throws_of [.int 1, .int 4] = some (.tuple ((aft 1 4 []).map aftD)) := by kernel_rfl
theorem af140 (t b : D) : (DL 0 4 1).map (fun x => f_after [.tuple [.int 1, .int 4, t, b], tup x]) = (DL 0 4 1).map fun x => some (.tuple ((aft 1 4 x).map aftD)) := by kernel_rfl
theorem af141 (t b : D) : (DL 1 4 1).map (fun x => f_after [.tuple [.int 1, .int 4, t, b], tup x]) = (DL 1 4 1).map fun x => some (.tuple ((aft 1 4 x).map aftD)) := by kernel_rfl
theorem af14 (t b : D) (x : List Int) (h : x ∈ DL x.length 4 1) (h2 : x.length ≤ 1) : f_after [.tuple [.int 1, .int 4, t, b], tup x] = some (.tuple ((aft 1 4 x).map aftD)) := by
  have h3 : x.length = 0 ∨ x.length = 1 := by omega
  rcases h3 with e | e
  · rw [e] at h; exact List.map_inj_left.mp (af140 t b) x h
  · rw [e] at h; exact List.map_inj_left.mp (af141 t b) x h
theorem kp22 : (DL 2 2 1).map (fun l => f_keeps [tup l]) = (DL 2 2 1).map fun l => some (.tuple ((kps l).map tup)) := by kernel_rfl
theorem kd22 : (DL 2 2 1).map (fun l => (kps l).all fun x => decide (x.length ≤ 2) && (DL x.length 2 1).contains x) = (DL 2 2 1).map fun _ => true := by kernel_rfl
theorem th22 : f_throws_of [.int 2, .int 2] = some (.tuple ((aft 2 2 []).map aftD)) := by kernel_rfl
theorem af220 (t b : D) : (DL 0 2 1).map (fun x => f_after [.tuple [.int 2, .int 2, t, b], tup x]) = (DL 0 2 1).map fun x => some (.tuple ((aft 2 2 x).map aftD)) := by kernel_rfl
theorem af221 (t b : D) : (DL 1 2 1).map (fun x => f_after [.tuple [.int 2, .int 2, t, b], tup x]) = (DL 1 2 1).map fun x => some (.tuple ((aft 2 2 x).map aftD)) := by kernel_rfl
theorem af222 (t b : D) : (DL 2 2 1).map (fun x => f_after [.tuple [.int 2, .int 2, t, b], tup x]) = (DL 2 2 1).map fun x => some (.tuple ((aft 2 2 x).map aftD)) := by kernel_rfl
theorem af22 (t b : D) (x : List Int) (h : x ∈ DL x.length 2 1) (h2 : x.length ≤ 2) : f_after [.tuple [.int 2, .int 2, t, b], tup x] = some (.tuple ((aft 2 2 x).map aftD)) := by
  have h3 : x.length = 0 ∨ x.length = 1 ∨ x.length = 2 := by omega
  rcases h3 with e | e | e
  · rw [e] at h; exact List.map_inj_left.mp (af220 t b) x h
  · rw [e] at h; exact List.map_inj_left.mp (af221 t b) x h
  · rw [e] at h; exact List.map_inj_left.mp (af222 t b) x h
theorem kp23 : (DL 2 3 1).map (fun l => f_keeps [tup l]) = (DL 2 3 1).map fun l => some (.tuple ((kps l).map tup)) := by kernel_rfl
theorem kd23 : (DL 2 3 1).map (fun l => (kps l).all fun x => decide (x.length ≤ 2) && (DL x.length 3 1).contains x) = (DL 2 3 1).map fun _ => true := by kernel_rfl
theorem th23 : f_throws_of [.int 2, .int 3] = some (.tuple ((aft 2 3 []).map aftD)) := by kernel_rfl
theorem af230 (t b : D) : (DL 0 3 1).map (fun x => f_after [.tuple [.int 2, .int 3, t, b], tup x]) = (DL 0 3 1).map fun x => some (.tuple ((aft 2 3 x).map aftD)) := by kernel_rfl
theorem af231 (t b : D) : (DL 1 3 1).map (fun x => f_after [.tuple [.int 2, .int 3, t, b], tup x]) = (DL 1 3 1).map fun x => some (.tuple ((aft 2 3 x).map aftD)) := by kernel_rfl
theorem af232 (t b : D) : (DL 2 3 1).map (fun x => f_after [.tuple [.int 2, .int 3, t, b], tup x]) = (DL 2 3 1).map fun x => some (.tuple ((aft 2 3 x).map aftD)) := by kernel_rfl
theorem af23 (t b : D) (x : List Int) (h : x ∈ DL x.length 3 1) (h2 : x.length ≤ 2) : f_after [.tuple [.int 2, .int 3, t, b], tup x] = some (.tuple ((aft 2 3 x).map aftD)) := by
  have h3 : x.length = 0 ∨ x.length = 1 ∨ x.length = 2 := by omega
  rcases h3 with e | e | e
  · rw [e] at h; exact List.map_inj_left.mp (af230 t b) x h
  · rw [e] at h; exact List.map_inj_left.mp (af231 t b) x h
  · rw [e] at h; exact List.map_inj_left.mp (af232 t b) x h
theorem kp24 : (DL 2 4 1).map (fun l => f_keeps [tup l]) = (DL 2 4 1).map fun l => some (.tuple ((kps l).map tup)) := by kernel_rfl
theorem kd24 : (DL 2 4 1).map (fun l => (kps l).all fun x => decide (x.length ≤ 2) && (DL x.length 4 1).contains x) = (DL 2 4 1).map fun _ => true := by kernel_rfl
theorem th24 : f_throws_of [.int 2, .int 4] = some (.tuple ((aft 2 4 []).map aftD)) := by kernel_rfl
theorem af240 (t b : D) : (DL 0 4 1).map (fun x => f_after [.tuple [.int 2, .int 4, t, b], tup x]) = (DL 0 4 1).map fun x => some (.tuple ((aft 2 4 x).map aftD)) := by kernel_rfl
theorem af241 (t b : D) : (DL 1 4 1).map (fun x => f_after [.tuple [.int 2, .int 4, t, b], tup x]) = (DL 1 4 1).map fun x => some (.tuple ((aft 2 4 x).map aftD)) := by kernel_rfl
theorem af242 (t b : D) : (DL 2 4 1).map (fun x => f_after [.tuple [.int 2, .int 4, t, b], tup x]) = (DL 2 4 1).map fun x => some (.tuple ((aft 2 4 x).map aftD)) := by kernel_rfl
theorem af24 (t b : D) (x : List Int) (h : x ∈ DL x.length 4 1) (h2 : x.length ≤ 2) : f_after [.tuple [.int 2, .int 4, t, b], tup x] = some (.tuple ((aft 2 4 x).map aftD)) := by
  have h3 : x.length = 0 ∨ x.length = 1 ∨ x.length = 2 := by omega
  rcases h3 with e | e | e
  · rw [e] at h; exact List.map_inj_left.mp (af240 t b) x h
  · rw [e] at h; exact List.map_inj_left.mp (af241 t b) x h
  · rw [e] at h; exact List.map_inj_left.mp (af242 t b) x h
theorem kp32 : (DL 3 2 1).map (fun l => f_keeps [tup l]) = (DL 3 2 1).map fun l => some (.tuple ((kps l).map tup)) := by kernel_rfl
theorem kd32 : (DL 3 2 1).map (fun l => (kps l).all fun x => decide (x.length ≤ 3) && (DL x.length 2 1).contains x) = (DL 3 2 1).map fun _ => true := by kernel_rfl
theorem th32 : f_throws_of [.int 3, .int 2] = some (.tuple ((aft 3 2 []).map aftD)) := by kernel_rfl
theorem af320 (t b : D) : (DL 0 2 1).map (fun x => f_after [.tuple [.int 3, .int 2, t, b], tup x]) = (DL 0 2 1).map fun x => some (.tuple ((aft 3 2 x).map aftD)) := by kernel_rfl
theorem af321 (t b : D) : (DL 1 2 1).map (fun x => f_after [.tuple [.int 3, .int 2, t, b], tup x]) = (DL 1 2 1).map fun x => some (.tuple ((aft 3 2 x).map aftD)) := by kernel_rfl
theorem af322 (t b : D) : (DL 2 2 1).map (fun x => f_after [.tuple [.int 3, .int 2, t, b], tup x]) = (DL 2 2 1).map fun x => some (.tuple ((aft 3 2 x).map aftD)) := by kernel_rfl
theorem af323 (t b : D) : (DL 3 2 1).map (fun x => f_after [.tuple [.int 3, .int 2, t, b], tup x]) = (DL 3 2 1).map fun x => some (.tuple ((aft 3 2 x).map aftD)) := by kernel_rfl
theorem af32 (t b : D) (x : List Int) (h : x ∈ DL x.length 2 1) (h2 : x.length ≤ 3) : f_after [.tuple [.int 3, .int 2, t, b], tup x] = some (.tuple ((aft 3 2 x).map aftD)) := by
  have h3 : x.length = 0 ∨ x.length = 1 ∨ x.length = 2 ∨ x.length = 3 := by omega
  rcases h3 with e | e | e | e
  · rw [e] at h; exact List.map_inj_left.mp (af320 t b) x h
  · rw [e] at h; exact List.map_inj_left.mp (af321 t b) x h
  · rw [e] at h; exact List.map_inj_left.mp (af322 t b) x h
  · rw [e] at h; exact List.map_inj_left.mp (af323 t b) x h
theorem kp33 : (DL 3 3 1).map (fun l => f_keeps [tup l]) = (DL 3 3 1).map fun l => some (.tuple ((kps l).map tup)) := by kernel_rfl
theorem kd33 : (DL 3 3 1).map (fun l => (kps l).all fun x => decide (x.length ≤ 3) && (DL x.length 3 1).contains x) = (DL 3 3 1).map fun _ => true := by kernel_rfl
theorem th33 : f_throws_of [.int 3, .int 3] = some (.tuple ((aft 3 3 []).map aftD)) := by kernel_rfl
theorem af330 (t b : D) : (DL 0 3 1).map (fun x => f_after [.tuple [.int 3, .int 3, t, b], tup x]) = (DL 0 3 1).map fun x => some (.tuple ((aft 3 3 x).map aftD)) := by kernel_rfl
theorem af331 (t b : D) : (DL 1 3 1).map (fun x => f_after [.tuple [.int 3, .int 3, t, b], tup x]) = (DL 1 3 1).map fun x => some (.tuple ((aft 3 3 x).map aftD)) := by kernel_rfl
theorem af332 (t b : D) : (DL 2 3 1).map (fun x => f_after [.tuple [.int 3, .int 3, t, b], tup x]) = (DL 2 3 1).map fun x => some (.tuple ((aft 3 3 x).map aftD)) := by kernel_rfl
theorem af333 (t b : D) : (DL 3 3 1).map (fun x => f_after [.tuple [.int 3, .int 3, t, b], tup x]) = (DL 3 3 1).map fun x => some (.tuple ((aft 3 3 x).map aftD)) := by kernel_rfl
theorem af33 (t b : D) (x : List Int) (h : x ∈ DL x.length 3 1) (h2 : x.length ≤ 3) : f_after [.tuple [.int 3, .int 3, t, b], tup x] = some (.tuple ((aft 3 3 x).map aftD)) := by
  have h3 : x.length = 0 ∨ x.length = 1 ∨ x.length = 2 ∨ x.length = 3 := by omega
  rcases h3 with e | e | e | e
  · rw [e] at h; exact List.map_inj_left.mp (af330 t b) x h
  · rw [e] at h; exact List.map_inj_left.mp (af331 t b) x h
  · rw [e] at h; exact List.map_inj_left.mp (af332 t b) x h
  · rw [e] at h; exact List.map_inj_left.mp (af333 t b) x h
/-- the small kinds of dice -/
def MS (m s : Nat) : Prop := (m = 1 ∧ s = 2) ∨ (m = 1 ∧ s = 3) ∨ (m = 1 ∧ s = 4) ∨ (m = 2 ∧ s = 2) ∨ (m = 2 ∧ s = 3) ∨ (m = 2 ∧ s = 4) ∨ (m = 3 ∧ s = 2) ∨ (m = 3 ∧ s = 3)
theorem kp_all (m s : Nat) (h : MS m s) (l : List Int) (hl : l ∈ DL m s 1) : f_keeps [tup l] = some (.tuple ((kps l).map tup)) := by
  rcases h with ⟨rfl, rfl⟩ | ⟨rfl, rfl⟩ | ⟨rfl, rfl⟩ | ⟨rfl, rfl⟩ | ⟨rfl, rfl⟩ | ⟨rfl, rfl⟩ | ⟨rfl, rfl⟩ | ⟨rfl, rfl⟩
  · exact List.map_inj_left.mp kp12 l hl
  · exact List.map_inj_left.mp kp13 l hl
  · exact List.map_inj_left.mp kp14 l hl
  · exact List.map_inj_left.mp kp22 l hl
  · exact List.map_inj_left.mp kp23 l hl
  · exact List.map_inj_left.mp kp24 l hl
  · exact List.map_inj_left.mp kp32 l hl
  · exact List.map_inj_left.mp kp33 l hl
theorem kd_all (m s : Nat) (h : MS m s) (l : List Int) (hl : l ∈ DL m s 1) (x : List Int) (hx : x ∈ kps l) : x.length ≤ m ∧ x ∈ DL x.length s 1 := by
  rcases h with ⟨rfl, rfl⟩ | ⟨rfl, rfl⟩ | ⟨rfl, rfl⟩ | ⟨rfl, rfl⟩ | ⟨rfl, rfl⟩ | ⟨rfl, rfl⟩ | ⟨rfl, rfl⟩ | ⟨rfl, rfl⟩
  · exact kd_one (List.map_inj_left.mp kd12 l hl) hx
  · exact kd_one (List.map_inj_left.mp kd13 l hl) hx
  · exact kd_one (List.map_inj_left.mp kd14 l hl) hx
  · exact kd_one (List.map_inj_left.mp kd22 l hl) hx
  · exact kd_one (List.map_inj_left.mp kd23 l hl) hx
  · exact kd_one (List.map_inj_left.mp kd24 l hl) hx
  · exact kd_one (List.map_inj_left.mp kd32 l hl) hx
  · exact kd_one (List.map_inj_left.mp kd33 l hl) hx
theorem th_all (m s : Nat) (h : MS m s) : f_throws_of [.int m, .int s] = some (.tuple ((aft m s []).map aftD)) := by
  rcases h with ⟨rfl, rfl⟩ | ⟨rfl, rfl⟩ | ⟨rfl, rfl⟩ | ⟨rfl, rfl⟩ | ⟨rfl, rfl⟩ | ⟨rfl, rfl⟩ | ⟨rfl, rfl⟩ | ⟨rfl, rfl⟩
  · exact th12
  · exact th13
  · exact th14
  · exact th22
  · exact th23
  · exact th24
  · exact th32
  · exact th33
theorem af_all (m s : Nat) (h : MS m s) (t b : D) (x : List Int) (hx : x ∈ DL x.length s 1) (h2 : x.length ≤ m) : f_after [.tuple [.int m, .int s, t, b], tup x] = some (.tuple ((aft m s x).map aftD)) := by
  rcases h with ⟨rfl, rfl⟩ | ⟨rfl, rfl⟩ | ⟨rfl, rfl⟩ | ⟨rfl, rfl⟩ | ⟨rfl, rfl⟩ | ⟨rfl, rfl⟩ | ⟨rfl, rfl⟩ | ⟨rfl, rfl⟩
  · exact af12 t b x hx h2
  · exact af13 t b x hx h2
  · exact af14 t b x hx h2
  · exact af22 t b x hx h2
  · exact af23 t b x hx h2
  · exact af24 t b x hx h2
  · exact af32 t b x hx h2
  · exact af33 t b x hx h2


/-! games, stands, moves as plain things -/
structure Gd where
  m : Nat
  s : Nat
  t : Nat
  B : List Bx
structure St where
  bs : List Int
  lf : Int
  ds : List Int
  deriving DecidableEq
inductive Mv
  | fill (k : Int)
  | keep (x : List Int)
  deriving DecidableEq
def Gd.d (g : Gd) : D := .tuple [.int g.m, .int g.s, .int g.t, .tuple (g.B.map Bx.d)]
def St.d (x : St) : D := .tuple [tup x.bs, .int x.lf, tup x.ds]
def Mv.d : Mv → D
  | .fill k => .tuple [.str "fill", .int k]
  | .keep x => .tuple [.str "keep", tup x]
abbrev stD (q : St × Int × Int) : D := .tuple [q.1.d, frD q.2.1 q.2.2]
structure GdOk (g : Gd) : Prop where
  ms : MS g.m g.s
  t1 : 1 ≤ g.t
  t3 : g.t ≤ 3
  k1 : 1 ≤ g.B.length
  k3 : g.B.length ≤ 3
  bx : ∀ b ∈ g.B, b.ok
structure StOk (g : Gd) (x : St) : Prop where
  ne : x.bs ≠ []
  up : x.bs.Pairwise (· < ·)
  bd : ∀ k ∈ x.bs, 0 ≤ k ∧ k < (g.B.length : Int)
  l0 : 0 ≤ x.lf
  lt : x.lf < (g.t : Int)
  ds : x.ds ∈ DL g.m g.s 1
def begV (g : Gd) (bs : List Int) : List (St × Int × Int) := if bs.isEmpty then [] else (aft g.m g.s []).map fun p => (⟨bs, (g.t : Int) - 1, p.1⟩, p.2)
def movsV (x : St) : List Mv := x.bs.map .fill ++ if x.lf > 0 then (kps x.ds).map .keep else []
def comsV (g : Gd) (x : St) : Mv → Int × List (St × Int × Int)
  | .keep y => (0, (aft g.m g.s y).map fun p => (⟨x.bs, x.lf - 1, p.1⟩, p.2))
  | .fill k => (pts (g.B.getD k.toNat .all) x.ds, begV g (x.bs.filter fun j => !decide (j = k)))
theorem ix_map {α : Type} (f : α → D) (l : List α) (k : Nat) (z : α) (h : k < l.length) : ixOf (l.map f) (k : Int) = some (f (l.getD k z)) := by
  rw [ixOf_nat _ _ (by rw [List.length_map]; exact h), List.getElem?_map]
  simp [h]
theorem kps_len : ∀ l : List Int, (kps l).length ≤ 2 ^ l.length
  | [] => Nat.le_refl _
  | a :: l => by
    have h := kps_len l
    have e : (2 : Nat) ^ (a :: l).length = 2 * 2 ^ l.length := by rw [List.length_cons, Nat.pow_succ, Nat.mul_comm]
    have e2 : ((kps l).filter (notHd a)).length + 1 ≤ (kps l).length := by
      obtain ⟨r, hk⟩ : ∃ r, kps l = [] :: r := by
        cases l with
        | nil => exact ⟨[], rfl⟩
        | cons b l => exact ⟨_, rfl⟩
      rw [hk]
      have h3 := List.length_filter_le (notHd a) r
      rw [List.filter_cons, if_neg (by simp [notHd]), List.length_cons]
      omega
    unfold kps
    rw [List.length_cons, List.length_append, List.length_map]
    omega
theorem up_len : ∀ (l : List Int) (a n : Int), l.Pairwise (· < ·) → (∀ k ∈ l, a ≤ k ∧ k < n) → (l.length : Int) ≤ n - a ∨ l = []
  | [], _, _, _, _ => .inr rfl
  | k :: l, a, n, h1, h2 => by
    obtain ⟨h3, h4⟩ := List.pairwise_cons.mp h1
    have hk := h2 k List.mem_cons_self
    left
    rw [List.length_cons]
    rcases up_len l (k + 1) n h4 (fun j hj => ⟨by have := h3 j hj; omega, (h2 j (List.mem_cons_of_mem _ hj)).2⟩) with h | h
    · omega
    · subst h
      simp only [List.length_nil]
      omega
theorem ms_small {m s : Nat} (h : MS m s) : 1 ≤ m ∧ m ≤ 3 ∧ 2 ≤ s ∧ s ≤ 4 := by
  unfold MS at h
  omega
theorem nbeq (i j : Nat) : Nat.beq i j = decide (i = j) := by
  by_cases h : i = j
  · rw [h, Nat.beq_refl, decide_eq_true rfl]
  · rw [decide_eq_false h]
    cases e : Nat.beq i j with
    | false => rfl
    | true => exact absurd (Nat.eq_of_beq_eq_true e) h
theorem len0 (bs : List Int) : decide ((bs.length : Int) = 0) = bs.isEmpty := by
  cases bs with
  | nil => rfl
  | cons a l => simp; omega
theorem f_begV (g : Gd) (hg : GdOk g) (bs : List Int) : f_begins [g.d, tup bs] = some (.tuple ((begV g bs).map stD)) := by
  have h := th_all g.m g.s hg.ms
  unfold begV
  cases e : bs.isEmpty with
  | true =>
    have e2 : bs = [] := List.isEmpty_iff.mp e
    subst e2
    simp only [f_begins, m_begins, m_begins_t0, m_begins_t1, m_begins_s0, Gd.d, ap_c, ap_t, ap_v, vK_val, vK_lst, vK_dic, ap_peek, pkK_val, pkK_lst, pkK_dic, ap_o1E, ap_o1P, ap_o2EE, ap_o2EP, ap_o2PE, ap_o2PP, ap_o3E, ap_o3P, ap_esNil, ap_esCons, ap_tup, ap_lst, tupK, lstK, ap_and, ap_or, andK_t, andK_f, andK_b, orK_t, orK_f, orK_b, ap_call, ap_mP, ap_mE, ap_iSeq, ap_iSeqA, kOfL, kOfT, kOfD, ap_dnil, ap_iR1, ap_iR2, r1_eq, r2_eq, ap_tgo1, ap_tgoM, setAll0, setAllC, eComp_eq, ap_turnT, ap_turnO, tuK_t, tuK_f, tuK_b, ap_seq, seqK_nx, seqK_rt, seqK_ct, seqK_bk, seqK_no, seqK_if, ap_nil, ap_cnt, ap_brk, ap_set, ap_own, ownK_l, ownK_d, ap_ret, ap_if, ifK_t, ifK_f, ifK_b, ap_for, forL_nil, forL_cons, forK_nx, forK_ct, forK_bk, forK_rt, forK_if, ap_par, run_eq, runK_rt, runK_nx, runK_if, v_add, v_sub, v_neg, v_mod, v_div, v_mulR, v_mulL, v_mulB, v_addT, v_addL, v_catL, v_lt, v_le, v_gt, v_ge, v_eqI, v_neI, v_eqS, v_neS, v_lenT, v_lenL, v_intB, v_intI, v_not, v_min, v_max, v_abs, v_tupL, v_tupT, v_ixT, v_ixL, ix0, ix1, ix2, ix3, seqT, seqL, v_sumT, v_sumL, v_any, v_all, v_inT, v_inL, v_ninT, v_ninL, v_countT, mapMO_all, mapMO_some, mapMO_map, mapMO_range, v_sortedL, v_sortedT, v_cT, v_cTl, v_cTh, v_cL, v_cLl, v_cLh, v_eqNil, v_neNil, ix4, sel4_int, v_repT, v_isiI, v_isiS, v_isiB, v_isiN, ib_int, eq_dec, rl1, rl2, rl3, rl4, Bool.not_true, Bool.not_false, List.length_map, cutL_map, mkF, List.length_cons, List.length_nil, List.map_cons, List.map_nil, List.append_eq, List.cons_append, List.nil_append, List.getElem?_cons_zero, List.getElem?_cons_succ, List.set_cons_zero, List.set_cons_succ, Option.bind_some, Option.map_some, Option.bind_none, Option.map_none, Nat.zero_add, Nat.reduceAdd, Nat.reduceSub, Nat.reduceLeDiff, Nat.reduceLT, Nat.reduceEqDiff, Nat.reduceMul, LIM_eq, List.replicate_succ, List.replicate_zero, if_true, if_false, Bool.false_eq_true, Bool.true_eq_false, decide_true, decide_false, okS, noOwn, covers, tgIs, wipeO, List.all_cons, List.all_nil, List.any_cons, List.any_nil, Bool.and_true, Bool.true_and, Bool.and_self, Bool.or_false, Bool.false_or, Bool.or_true, beq_self_nat, kd, Int.reduceLT, Int.reduceLE, Int.reduceNeg, Int.reduceAdd, Int.reduceToNat, Int.reduceMul, Int.reduceSub, and_true, true_and, and_self, ite_true, ite_false, ↓reduceIte, nbeq, eq_self, ap_ext, ap_app, ap_put, lstK1_l, lstL_l, dicL_d, listK_l]
    rfl
  | false =>
    have e2 : decide ((bs.length : Int) = 0) = false := by rw [len0, e]
    simp only [f_begins, m_begins, m_begins_t0, m_begins_t1, m_begins_s0, Gd.d, ap_c, ap_t, ap_v, vK_val, vK_lst, vK_dic, ap_peek, pkK_val, pkK_lst, pkK_dic, ap_o1E, ap_o1P, ap_o2EE, ap_o2EP, ap_o2PE, ap_o2PP, ap_o3E, ap_o3P, ap_esNil, ap_esCons, ap_tup, ap_lst, tupK, lstK, ap_and, ap_or, andK_t, andK_f, andK_b, orK_t, orK_f, orK_b, ap_call, ap_mP, ap_mE, ap_iSeq, ap_iSeqA, kOfL, kOfT, kOfD, ap_dnil, ap_iR1, ap_iR2, r1_eq, r2_eq, ap_tgo1, ap_tgoM, setAll0, setAllC, eComp_eq, ap_turnT, ap_turnO, tuK_t, tuK_f, tuK_b, ap_seq, seqK_nx, seqK_rt, seqK_ct, seqK_bk, seqK_no, seqK_if, ap_nil, ap_cnt, ap_brk, ap_set, ap_own, ownK_l, ownK_d, ap_ret, ap_if, ifK_t, ifK_f, ifK_b, ap_for, forL_nil, forL_cons, forK_nx, forK_ct, forK_bk, forK_rt, forK_if, ap_par, run_eq, runK_rt, runK_nx, runK_if, v_add, v_sub, v_neg, v_mod, v_div, v_mulR, v_mulL, v_mulB, v_addT, v_addL, v_catL, v_lt, v_le, v_gt, v_ge, v_eqI, v_neI, v_eqS, v_neS, v_lenT, v_lenL, v_intB, v_intI, v_not, v_min, v_max, v_abs, v_tupL, v_tupT, v_ixT, v_ixL, ix0, ix1, ix2, ix3, seqT, seqL, v_sumT, v_sumL, v_any, v_all, v_inT, v_inL, v_ninT, v_ninL, v_countT, mapMO_all, mapMO_some, mapMO_map, mapMO_range, v_sortedL, v_sortedT, v_cT, v_cTl, v_cTh, v_cL, v_cLl, v_cLh, v_eqNil, v_neNil, ix4, sel4_int, v_repT, v_isiI, v_isiS, v_isiB, v_isiN, ib_int, eq_dec, rl1, rl2, rl3, rl4, Bool.not_true, Bool.not_false, List.length_map, cutL_map, mkF, List.length_cons, List.length_nil, List.map_cons, List.map_nil, List.append_eq, List.cons_append, List.nil_append, List.getElem?_cons_zero, List.getElem?_cons_succ, List.set_cons_zero, List.set_cons_succ, Option.bind_some, Option.map_some, Option.bind_none, Option.map_none, Nat.zero_add, Nat.reduceAdd, Nat.reduceSub, Nat.reduceLeDiff, Nat.reduceLT, Nat.reduceEqDiff, Nat.reduceMul, LIM_eq, List.replicate_succ, List.replicate_zero, if_true, if_false, Bool.false_eq_true, Bool.true_eq_false, decide_true, decide_false, okS, noOwn, covers, tgIs, wipeO, List.all_cons, List.all_nil, List.any_cons, List.any_nil, Bool.and_true, Bool.true_and, Bool.and_self, Bool.or_false, Bool.false_or, Bool.or_true, beq_self_nat, kd, Int.reduceLT, Int.reduceLE, Int.reduceNeg, Int.reduceAdd, Int.reduceToNat, Int.reduceMul, Int.reduceSub, and_true, true_and, and_self, ite_true, ite_false, ↓reduceIte, nbeq, eq_self, ap_ext, ap_app, ap_put, lstK1_l, lstL_l, dicL_d, listK_l, h, e2]
    simp only [List.map_map]
    rfl
theorem StOk.small {g : Gd} (hg : GdOk g) {x : St} (hx : StOk g x) : x.bs.length ≤ 3 ∧ (kps x.ds).length ≤ 8 ∧ x.ds.length ≤ 3 := by
  have hd := (DL_mem _ _ _ _ hx.ds).1
  have hm := (ms_small hg.ms).2.1
  have hk := kps_len x.ds
  have h3 : x.ds.length ≤ 3 := by omega
  have h4 : 2 ^ x.ds.length ≤ 2 ^ 3 := Nat.pow_le_pow_right (by decide) h3
  have hb := hg.k3
  rcases up_len x.bs 0 g.B.length hx.up hx.bd with h | h
  · exact ⟨by omega, by omega, h3⟩
  · rw [h]
    exact ⟨by simp, by omega, h3⟩

theorem f_movV (g : Gd) (hg : GdOk g) (x : St) (hx : StOk g x) : f_moves [g.d, x.d] = some (.tuple ((movsV x).map Mv.d)) := by
  have h := kp_all g.m g.s hg.ms x.ds hx.ds
  obtain ⟨s1, s2, _⟩ := hx.small hg
  have hs : x.bs.length + (kps x.ds).length ≤ 1000000 := by omega
  unfold movsV
  by_cases hl : 0 < x.lf
  · simp only [f_moves, m_moves, m_moves_t0, m_moves_t1, m_moves_t2, m_moves_t3, m_moves_s0, m_moves_s1, m_moves_s2, Gd.d, St.d, ap_c, ap_t, ap_v, vK_val, vK_lst, vK_dic, ap_peek, pkK_val, pkK_lst, pkK_dic, ap_o1E, ap_o1P, ap_o2EE, ap_o2EP, ap_o2PE, ap_o2PP, ap_o3E, ap_o3P, ap_esNil, ap_esCons, ap_tup, ap_lst, tupK, lstK, ap_and, ap_or, andK_t, andK_f, andK_b, orK_t, orK_f, orK_b, ap_call, ap_mP, ap_mE, ap_iSeq, ap_iSeqA, kOfL, kOfT, kOfD, ap_dnil, ap_iR1, ap_iR2, r1_eq, r2_eq, ap_tgo1, ap_tgoM, setAll0, setAllC, eComp_eq, ap_turnT, ap_turnO, tuK_t, tuK_f, tuK_b, ap_seq, seqK_nx, seqK_rt, seqK_ct, seqK_bk, seqK_no, seqK_if, ap_nil, ap_cnt, ap_brk, ap_set, ap_own, ownK_l, ownK_d, ap_ret, ap_if, ifK_t, ifK_f, ifK_b, ap_for, forL_nil, forL_cons, forK_nx, forK_ct, forK_bk, forK_rt, forK_if, ap_par, run_eq, runK_rt, runK_nx, runK_if, v_add, v_sub, v_neg, v_mod, v_div, v_mulR, v_mulL, v_mulB, v_addT, v_addL, v_catL, v_lt, v_le, v_gt, v_ge, v_eqI, v_neI, v_eqS, v_neS, v_lenT, v_lenL, v_intB, v_intI, v_not, v_min, v_max, v_abs, v_tupL, v_tupT, v_ixT, v_ixL, ix0, ix1, ix2, ix3, seqT, seqL, v_sumT, v_sumL, v_any, v_all, v_inT, v_inL, v_ninT, v_ninL, v_countT, mapMO_all, mapMO_some, mapMO_map, mapMO_range, v_sortedL, v_sortedT, v_cT, v_cTl, v_cTh, v_cL, v_cLl, v_cLh, v_eqNil, v_neNil, ix4, sel4_int, v_repT, v_isiI, v_isiS, v_isiB, v_isiN, ib_int, eq_dec, rl1, rl2, rl3, rl4, Bool.not_true, Bool.not_false, List.length_map, cutL_map, mkF, List.length_cons, List.length_nil, List.map_cons, List.map_nil, List.append_eq, List.cons_append, List.nil_append, List.getElem?_cons_zero, List.getElem?_cons_succ, List.set_cons_zero, List.set_cons_succ, Option.bind_some, Option.map_some, Option.bind_none, Option.map_none, Nat.zero_add, Nat.reduceAdd, Nat.reduceSub, Nat.reduceLeDiff, Nat.reduceLT, Nat.reduceEqDiff, Nat.reduceMul, LIM_eq, List.replicate_succ, List.replicate_zero, if_true, if_false, Bool.false_eq_true, Bool.true_eq_false, decide_true, decide_false, okS, noOwn, covers, tgIs, wipeO, List.all_cons, List.all_nil, List.any_cons, List.any_nil, Bool.and_true, Bool.true_and, Bool.and_self, Bool.or_false, Bool.false_or, Bool.or_true, beq_self_nat, kd, Int.reduceLT, Int.reduceLE, Int.reduceNeg, Int.reduceAdd, Int.reduceToNat, Int.reduceMul, Int.reduceSub, and_true, true_and, and_self, ite_true, ite_false, ↓reduceIte, nbeq, eq_self, ap_ext, ap_app, ap_put, lstK1_l, lstL_l, dicL_d, listK_l, h, hl, gt_iff_lt, List.map_append, List.map_map, hs]
    rfl
  · simp only [f_moves, m_moves, m_moves_t0, m_moves_t1, m_moves_t2, m_moves_t3, m_moves_s0, m_moves_s1, m_moves_s2, Gd.d, St.d, ap_c, ap_t, ap_v, vK_val, vK_lst, vK_dic, ap_peek, pkK_val, pkK_lst, pkK_dic, ap_o1E, ap_o1P, ap_o2EE, ap_o2EP, ap_o2PE, ap_o2PP, ap_o3E, ap_o3P, ap_esNil, ap_esCons, ap_tup, ap_lst, tupK, lstK, ap_and, ap_or, andK_t, andK_f, andK_b, orK_t, orK_f, orK_b, ap_call, ap_mP, ap_mE, ap_iSeq, ap_iSeqA, kOfL, kOfT, kOfD, ap_dnil, ap_iR1, ap_iR2, r1_eq, r2_eq, ap_tgo1, ap_tgoM, setAll0, setAllC, eComp_eq, ap_turnT, ap_turnO, tuK_t, tuK_f, tuK_b, ap_seq, seqK_nx, seqK_rt, seqK_ct, seqK_bk, seqK_no, seqK_if, ap_nil, ap_cnt, ap_brk, ap_set, ap_own, ownK_l, ownK_d, ap_ret, ap_if, ifK_t, ifK_f, ifK_b, ap_for, forL_nil, forL_cons, forK_nx, forK_ct, forK_bk, forK_rt, forK_if, ap_par, run_eq, runK_rt, runK_nx, runK_if, v_add, v_sub, v_neg, v_mod, v_div, v_mulR, v_mulL, v_mulB, v_addT, v_addL, v_catL, v_lt, v_le, v_gt, v_ge, v_eqI, v_neI, v_eqS, v_neS, v_lenT, v_lenL, v_intB, v_intI, v_not, v_min, v_max, v_abs, v_tupL, v_tupT, v_ixT, v_ixL, ix0, ix1, ix2, ix3, seqT, seqL, v_sumT, v_sumL, v_any, v_all, v_inT, v_inL, v_ninT, v_ninL, v_countT, mapMO_all, mapMO_some, mapMO_map, mapMO_range, v_sortedL, v_sortedT, v_cT, v_cTl, v_cTh, v_cL, v_cLl, v_cLh, v_eqNil, v_neNil, ix4, sel4_int, v_repT, v_isiI, v_isiS, v_isiB, v_isiN, ib_int, eq_dec, rl1, rl2, rl3, rl4, Bool.not_true, Bool.not_false, List.length_map, cutL_map, mkF, List.length_cons, List.length_nil, List.map_cons, List.map_nil, List.append_eq, List.cons_append, List.nil_append, List.getElem?_cons_zero, List.getElem?_cons_succ, List.set_cons_zero, List.set_cons_succ, Option.bind_some, Option.map_some, Option.bind_none, Option.map_none, Nat.zero_add, Nat.reduceAdd, Nat.reduceSub, Nat.reduceLeDiff, Nat.reduceLT, Nat.reduceEqDiff, Nat.reduceMul, LIM_eq, List.replicate_succ, List.replicate_zero, if_true, if_false, Bool.false_eq_true, Bool.true_eq_false, decide_true, decide_false, okS, noOwn, covers, tgIs, wipeO, List.all_cons, List.all_nil, List.any_cons, List.any_nil, Bool.and_true, Bool.true_and, Bool.and_self, Bool.or_false, Bool.false_or, Bool.or_true, beq_self_nat, kd, Int.reduceLT, Int.reduceLE, Int.reduceNeg, Int.reduceAdd, Int.reduceToNat, Int.reduceMul, Int.reduceSub, and_true, true_and, and_self, ite_true, ite_false, ↓reduceIte, nbeq, eq_self, ap_ext, ap_app, ap_put, lstK1_l, lstL_l, dicL_d, listK_l, h, hl, gt_iff_lt, List.map_append, List.map_map, List.append_nil]
    rfl
theorem flt_ne (bs : List Int) (k : Int) : True := trivial
theorem f_comK (g : Gd) (hg : GdOk g) (x : St) (hx : StOk g x) (y : List Int) (hy : y ∈ kps x.ds) : f_comes [g.d, x.d, (Mv.keep y).d] = some (.tuple [.int (comsV g x (.keep y)).1, .tuple ((comsV g x (.keep y)).2.map stD)]) := by
  obtain ⟨k1, k2⟩ := kd_all g.m g.s hg.ms x.ds hx.ds y hy
  have h := af_all g.m g.s hg.ms (.int g.t) (.tuple (g.B.map Bx.d)) y k2 k1
  simp only [f_comes, m_comes, m_comes_t0, m_comes_t1, m_comes_t2, m_comes_t3, m_comes_s0, m_comes_s1, m_comes_s2, Gd.d, St.d, Mv.d, comsV, ap_c, ap_t, ap_v, vK_val, vK_lst, vK_dic, ap_peek, pkK_val, pkK_lst, pkK_dic, ap_o1E, ap_o1P, ap_o2EE, ap_o2EP, ap_o2PE, ap_o2PP, ap_o3E, ap_o3P, ap_esNil, ap_esCons, ap_tup, ap_lst, tupK, lstK, ap_and, ap_or, andK_t, andK_f, andK_b, orK_t, orK_f, orK_b, ap_call, ap_mP, ap_mE, ap_iSeq, ap_iSeqA, kOfL, kOfT, kOfD, ap_dnil, ap_iR1, ap_iR2, r1_eq, r2_eq, ap_tgo1, ap_tgoM, setAll0, setAllC, eComp_eq, ap_turnT, ap_turnO, tuK_t, tuK_f, tuK_b, ap_seq, seqK_nx, seqK_rt, seqK_ct, seqK_bk, seqK_no, seqK_if, ap_nil, ap_cnt, ap_brk, ap_set, ap_own, ownK_l, ownK_d, ap_ret, ap_if, ifK_t, ifK_f, ifK_b, ap_for, forL_nil, forL_cons, forK_nx, forK_ct, forK_bk, forK_rt, forK_if, ap_par, run_eq, runK_rt, runK_nx, runK_if, v_add, v_sub, v_neg, v_mod, v_div, v_mulR, v_mulL, v_mulB, v_addT, v_addL, v_catL, v_lt, v_le, v_gt, v_ge, v_eqI, v_neI, v_eqS, v_neS, v_lenT, v_lenL, v_intB, v_intI, v_not, v_min, v_max, v_abs, v_tupL, v_tupT, v_ixT, v_ixL, ix0, ix1, ix2, ix3, seqT, seqL, v_sumT, v_sumL, v_any, v_all, v_inT, v_inL, v_ninT, v_ninL, v_countT, mapMO_all, mapMO_some, mapMO_map, mapMO_range, v_sortedL, v_sortedT, v_cT, v_cTl, v_cTh, v_cL, v_cLl, v_cLh, v_eqNil, v_neNil, ix4, sel4_int, v_repT, v_isiI, v_isiS, v_isiB, v_isiN, ib_int, eq_dec, rl1, rl2, rl3, rl4, Bool.not_true, Bool.not_false, List.length_map, cutL_map, mkF, List.length_cons, List.length_nil, List.map_cons, List.map_nil, List.append_eq, List.cons_append, List.nil_append, List.getElem?_cons_zero, List.getElem?_cons_succ, List.set_cons_zero, List.set_cons_succ, Option.bind_some, Option.map_some, Option.bind_none, Option.map_none, Nat.zero_add, Nat.reduceAdd, Nat.reduceSub, Nat.reduceLeDiff, Nat.reduceLT, Nat.reduceEqDiff, Nat.reduceMul, LIM_eq, List.replicate_succ, List.replicate_zero, if_true, if_false, Bool.false_eq_true, Bool.true_eq_false, decide_true, decide_false, okS, noOwn, covers, tgIs, wipeO, List.all_cons, List.all_nil, List.any_cons, List.any_nil, Bool.and_true, Bool.true_and, Bool.and_self, Bool.or_false, Bool.false_or, Bool.or_true, beq_self_nat, kd, Int.reduceLT, Int.reduceLE, Int.reduceNeg, Int.reduceAdd, Int.reduceToNat, Int.reduceMul, Int.reduceSub, and_true, true_and, and_self, ite_true, ite_false, ↓reduceIte, nbeq, eq_self, ap_ext, ap_app, ap_put, lstK1_l, lstL_l, dicL_d, listK_l, h, List.map_map, se_fill, se_keep, sn_fill_keep, sn_keep_fill]
  rfl
theorem f_comF (g : Gd) (hg : GdOk g) (x : St) (hx : StOk g x) (k : Int) (hk : k ∈ x.bs) : f_comes [g.d, x.d, (Mv.fill k).d] = some (.tuple [.int (comsV g x (.fill k)).1, .tuple ((comsV g x (.fill k)).2.map stD)]) := by
  obtain ⟨k1, k2⟩ := hx.bd k hk
  obtain ⟨n, rfl⟩ := Int.eq_ofNat_of_zero_le k1
  have hn : n < g.B.length := by omega
  have hb := hg.bx (g.B.getD n .all) (by rw [List.getD_eq_getElem?_getD, List.getElem?_eq_getElem hn]; exact List.getElem_mem hn)
  have hd := (DL_mem _ _ _ _ hx.ds).1
  have hm := (ms_small hg.ms).2.1
  have p := f_pts (g.B.getD n .all) x.ds hb (by omega)
  have i := ix_map Bx.d g.B n .all hn
  have b := f_begV g hg (x.bs.filter fun j => !decide (j = (n : Int)))
  unfold Gd.d at b
  simp only [f_comes, m_comes, m_comes_t0, m_comes_t1, m_comes_t2, m_comes_t3, m_comes_s0, m_comes_s1, m_comes_s2, Gd.d, St.d, Mv.d, comsV, ap_c, ap_t, ap_v, vK_val, vK_lst, vK_dic, ap_peek, pkK_val, pkK_lst, pkK_dic, ap_o1E, ap_o1P, ap_o2EE, ap_o2EP, ap_o2PE, ap_o2PP, ap_o3E, ap_o3P, ap_esNil, ap_esCons, ap_tup, ap_lst, tupK, lstK, ap_and, ap_or, andK_t, andK_f, andK_b, orK_t, orK_f, orK_b, ap_call, ap_mP, ap_mE, ap_iSeq, ap_iSeqA, kOfL, kOfT, kOfD, ap_dnil, ap_iR1, ap_iR2, r1_eq, r2_eq, ap_tgo1, ap_tgoM, setAll0, setAllC, eComp_eq, ap_turnT, ap_turnO, tuK_t, tuK_f, tuK_b, ap_seq, seqK_nx, seqK_rt, seqK_ct, seqK_bk, seqK_no, seqK_if, ap_nil, ap_cnt, ap_brk, ap_set, ap_own, ownK_l, ownK_d, ap_ret, ap_if, ifK_t, ifK_f, ifK_b, ap_for, forL_nil, forL_cons, forK_nx, forK_ct, forK_bk, forK_rt, forK_if, ap_par, run_eq, runK_rt, runK_nx, runK_if, v_add, v_sub, v_neg, v_mod, v_div, v_mulR, v_mulL, v_mulB, v_addT, v_addL, v_catL, v_lt, v_le, v_gt, v_ge, v_eqI, v_neI, v_eqS, v_neS, v_lenT, v_lenL, v_intB, v_intI, v_not, v_min, v_max, v_abs, v_tupL, v_tupT, v_ixT, v_ixL, ix0, ix1, ix2, ix3, seqT, seqL, v_sumT, v_sumL, v_any, v_all, v_inT, v_inL, v_ninT, v_ninL, v_countT, mapMO_all, mapMO_some, mapMO_map, mapMO_range, v_sortedL, v_sortedT, v_cT, v_cTl, v_cTh, v_cL, v_cLl, v_cLh, v_eqNil, v_neNil, ix4, sel4_int, v_repT, v_isiI, v_isiS, v_isiB, v_isiN, ib_int, eq_dec, rl1, rl2, rl3, rl4, Bool.not_true, Bool.not_false, List.length_map, cutL_map, mkF, List.length_cons, List.length_nil, List.map_cons, List.map_nil, List.append_eq, List.cons_append, List.nil_append, List.getElem?_cons_zero, List.getElem?_cons_succ, List.set_cons_zero, List.set_cons_succ, Option.bind_some, Option.map_some, Option.bind_none, Option.map_none, Nat.zero_add, Nat.reduceAdd, Nat.reduceSub, Nat.reduceLeDiff, Nat.reduceLT, Nat.reduceEqDiff, Nat.reduceMul, LIM_eq, List.replicate_succ, List.replicate_zero, if_true, if_false, Bool.false_eq_true, Bool.true_eq_false, decide_true, decide_false, okS, noOwn, covers, tgIs, wipeO, List.all_cons, List.all_nil, List.any_cons, List.any_nil, Bool.and_true, Bool.true_and, Bool.and_self, Bool.or_false, Bool.false_or, Bool.or_true, beq_self_nat, kd, Int.reduceLT, Int.reduceLE, Int.reduceNeg, Int.reduceAdd, Int.reduceToNat, Int.reduceMul, Int.reduceSub, and_true, true_and, and_self, ite_true, ite_false, ↓reduceIte, nbeq, eq_self, ap_ext, ap_app, ap_put, lstK1_l, lstL_l, dicL_d, listK_l, i, p, b, List.map_map, Int.toNat_natCast, se_fill, se_keep, sn_fill_keep, sn_keep_fill]
theorem v_eqNilT (l : List Int) : sEq (tup l) (.tuple []) = some (.bool l.isEmpty) := by
  have e : PyData.eqv (tup l) (.tuple []) = l.isEmpty := by
    cases l <;> simp [tup, PyData.eqv, PyData.eqvAll]
  have e2 : PyData.depth (tup l) = 1 := by
    show PyData.depth (.tuple (l.map .int)) = 1
    rw [PyData.depth, PySem.W.depth_ints]
  unfold sEq
  rw [e, e2]
  simp [PyData.plain, plain_ints, PyData.plainAll, lvl, tup]
theorem v_repL1 (l : List D) (h : l.length ≤ 1000) : sMulA (.list l) (.int 1) = some (.list l) := by
  unfold sMulA or2 sMul sRep sRepL
  simp [h]
theorem v_repL0 (l : List D) (h : l.length ≤ 1000) : sMulA (.list l) (.int 0) = some (.list []) := by
  unfold sMulA or2 sMul sRep sRepL
  simp [h]
theorem ds_dice {g : Gd} (hg : GdOk g) {x : St} (hx : StOk g x) : Dice x.ds := by
  obtain ⟨k1, k2, k3⟩ := DL_mem _ _ _ _ hx.ds
  obtain ⟨a, b, c, d⟩ := ms_small hg.ms
  exact ⟨by omega, by omega, fun z hz => by have := k2 z hz; omega, k3⟩
theorem mv_in {x : St} {m : Mv} (h : m ∈ movsV x) : (∃ k, m = .fill k ∧ k ∈ x.bs) ∨ ∃ y, m = .keep y ∧ y ∈ kps x.ds := by
  unfold movsV at h
  rcases List.mem_append.mp h with h | h
  · obtain ⟨k, hk, rfl⟩ := List.mem_map.mp h
    exact .inl ⟨k, rfl, hk⟩
  · split at h
    · obtain ⟨y, hy, rfl⟩ := List.mem_map.mp h
      exact .inr ⟨y, rfl, hy⟩
    · cases h

/-! the small game -/
theorem sel_many {i : Int} : (sel4 i 2 1 3 2 : Int) = 1 ∨ (sel4 i 2 1 3 2 : Int) = 2 ∨ (sel4 i 2 1 3 2 : Int) = 3 := by
  unfold sel4
  split
  · exact .inr (.inl rfl)
  · split
    · exact .inl rfl
    · split
      · exact .inr (.inr rfl)
      · exact .inr (.inl rfl)
theorem sel_sides {i : Int} : (sel4 i 2 3 4 2 : Int) = 2 ∨ (sel4 i 2 3 4 2 : Int) = 3 ∨ (sel4 i 2 3 4 2 : Int) = 4 := by
  unfold sel4
  split
  · exact .inl rfl
  · split
    · exact .inr (.inl rfl)
    · split
      · exact .inr (.inr rfl)
      · exact .inl rfl
theorem sel_throws {i : Int} : (sel4 i 1 2 3 2 : Int) = 1 ∨ (sel4 i 1 2 3 2 : Int) = 2 ∨ (sel4 i 1 2 3 2 : Int) = 3 := by
  unfold sel4
  split
  · exact .inl rfl
  · split
    · exact .inr (.inl rfl)
    · split
      · exact .inr (.inr rfl)
      · exact .inr (.inl rfl)
theorem sel_boxes {i : Int} : (sel4 i 1 2 2 3 : Int) = 1 ∨ (sel4 i 1 2 2 3 : Int) = 2 ∨ (sel4 i 1 2 2 3 : Int) = 3 := by
  unfold sel4
  split
  · exact .inl rfl
  · split
    · exact .inr (.inl rfl)
    · split
      · exact .inr (.inl rfl)
      · exact .inr (.inr rfl)
theorem boxesV_len (n : Int) : ((boxesV n).length : Int) = sel4 (n / 64 % 4) 1 2 2 3 := by
  unfold boxesV
  rw [List.length_map, List.length_range]
  have := @sel_boxes (n / 64 % 4)
  omega
/-- the kinds of games -/
structure Gm (m s t k : Int) : Prop where
  ms : (m = 1 ∧ (s = 2 ∨ s = 3 ∨ s = 4)) ∨ (m = 2 ∧ (s = 2 ∨ s = 3 ∨ s = 4)) ∨ (m = 3 ∧ (s = 2 ∨ s = 3))
  tt : t = 1 ∨ t = 2 ∨ t = 3
  kk : k = 1 ∨ k = 2 ∨ k = 3
  few : k = 3 → m * s * t ≤ 12
theorem boxesV_eq (n : Int) (k : Int) (hk : sel4 (n / 64 % 4) 1 2 2 3 = k) : (List.range k.toNat).map (fun (k : Nat) => (bxV (drawnV n (0 + (k : Int)) / 4)).d) = (boxesV n).map Bx.d := by
  unfold boxesV
  rw [List.map_map, hk]
  rfl
def gmM (M S T k : Int) : Int := if (M = 3 ∧ S = 4) ∨ (k = 3 ∧ M * S * T > 12) then 2 else M
def gmS (M S T k : Int) : Int := if (M = 3 ∧ S = 4) ∨ (k = 3 ∧ M * S * T > 12) then (if 3 < S then 3 else S) else S
def gmT (M S T k : Int) : Int := if (M = 3 ∧ S = 4) ∨ (k = 3 ∧ M * S * T > 12) then (if 2 < T then 2 else T) else T
theorem gm_ok (M S T k : Int) (h1 : M = 1 ∨ M = 2 ∨ M = 3) (h2 : S = 2 ∨ S = 3 ∨ S = 4) (h3 : T = 1 ∨ T = 2 ∨ T = 3) (h4 : k = 1 ∨ k = 2 ∨ k = 3) : Gm (gmM M S T k) (gmS M S T k) (gmT M S T k) k := by
  rcases h1 with rfl | rfl | rfl <;> rcases h2 with rfl | rfl | rfl <;> rcases h3 with rfl | rfl | rfl <;> rcases h4 with rfl | rfl | rfl <;> exact ⟨by decide, by decide, by decide, by decide⟩
abbrev gmE (n M S T : Int) (B : List D) : Prop := runK (m_law_game_t4 [.val (.int n), .val (.int 0), .val (.int M), .val (.int S), .val (.int T), .val (.tuple B), .un]) = some (.tuple [.int (gmM M S T B.length), .int (gmS M S T B.length), .int (gmT M S T B.length), .tuple B])
theorem gm_run (n M S T : Int) (B : List D) (h1 : M = 1 ∨ M = 2 ∨ M = 3) (h2 : S = 2 ∨ S = 3 ∨ S = 4) (h3 : T = 1 ∨ T = 2 ∨ T = 3) (h4 : (B.length : Int) = 1 ∨ (B.length : Int) = 2 ∨ (B.length : Int) = 3) : gmE n M S T B := by
  have h5 : (∃ a, B = [a]) ∨ (∃ a b, B = [a, b]) ∨ (∃ a b c, B = [a, b, c]) := by
    match B, h4 with
    | [], h4 => simp at h4
    | [a], _ => exact .inl ⟨a, rfl⟩
    | [a, b], _ => exact .inr (.inl ⟨a, b, rfl⟩)
    | [a, b, c], _ => exact .inr (.inr ⟨a, b, c, rfl⟩)
    | _ :: _ :: _ :: _ :: l, h4 =>
      simp only [List.length_cons] at h4
      omega
  clear h4
  rcases h5 with ⟨a, rfl⟩ | ⟨a, b, rfl⟩ | ⟨a, b, c, rfl⟩ <;> rcases h1 with rfl | rfl | rfl <;> rcases h2 with rfl | rfl | rfl <;> rcases h3 with rfl | rfl | rfl <;> kernel_rfl
theorem f_game0 (n : Int) (h : 0 ≤ n) : ∃ m s t : Int, Gm m s t (boxesV n).length ∧ f_law_game [.int n, .int 0] = some (.tuple [.int m, .int s, .int t, .tuple ((boxesV n).map Bx.d)]) := by
  have h1 := @sel_many (n % 4)
  have h2 := @sel_sides (n / 4 % 4)
  have h3 := @sel_throws (n / 16 % 4)
  have h4 : ((boxesV n).length : Int) = 1 ∨ ((boxesV n).length : Int) = 2 ∨ ((boxesV n).length : Int) = 3 := by
    rw [boxesV_len]
    exact @sel_boxes (n / 64 % 4)
  have hb := boxesV_eq n _ rfl
  refine ⟨_, _, _, gm_ok _ _ _ _ h1 h2 h3 h4, ?_⟩
  have h5 := gm_run n _ _ _ ((boxesV n).map Bx.d) h1 h2 h3 (by rw [List.length_map]; exact h4)
  unfold gmE at h5
  rw [List.length_map] at h5
  simp only [f_law_game, m_law_game, m_law_game_t0, m_law_game_s0, m_law_game_t1, m_law_game_s1, m_law_game_t2, m_law_game_s2, m_law_game_t3, m_law_game_s3, ap_c, ap_t, ap_v, vK_val, vK_lst, vK_dic, ap_peek, pkK_val, pkK_lst, pkK_dic, ap_o1E, ap_o1P, ap_o2EE, ap_o2EP, ap_o2PE, ap_o2PP, ap_o3E, ap_o3P, ap_esNil, ap_esCons, ap_tup, ap_lst, tupK, lstK, ap_and, ap_or, andK_t, andK_f, andK_b, orK_t, orK_f, orK_b, ap_call, ap_mP, ap_mE, ap_iSeq, ap_iSeqA, kOfL, kOfT, kOfD, ap_dnil, ap_iR1, ap_iR2, r1_eq, r2_eq, ap_tgo1, ap_tgoM, setAll0, setAllC, eComp_eq, ap_turnT, ap_turnO, tuK_t, tuK_f, tuK_b, ap_seq, seqK_nx, seqK_rt, seqK_ct, seqK_bk, seqK_no, seqK_if, ap_nil, ap_cnt, ap_brk, ap_set, ap_own, ownK_l, ownK_d, ap_ret, ap_if, ifK_t, ifK_f, ifK_b, ap_for, forL_nil, forL_cons, forK_nx, forK_ct, forK_bk, forK_rt, forK_if, ap_par, run_eq, runK_rt, runK_nx, runK_if, v_add, v_sub, v_neg, v_mod, v_div, v_mulR, v_mulL, v_mulB, v_addT, v_addL, v_catL, v_lt, v_le, v_gt, v_ge, v_eqI, v_neI, v_eqS, v_neS, v_lenT, v_lenL, v_intB, v_intI, v_not, v_min, v_max, v_abs, v_tupL, v_tupT, v_ixT, v_ixL, ix0, ix1, ix2, ix3, seqT, seqL, v_sumT, v_sumL, v_any, v_all, v_inT, v_inL, v_ninT, v_ninL, v_countT, mapMO_all, mapMO_some, mapMO_map, mapMO_range, v_sortedL, v_sortedT, v_cT, v_cTl, v_cTh, v_cL, v_cLl, v_cLh, v_eqNil, v_neNil, ix4, sel4_int, v_repT, v_isiI, v_isiS, v_isiB, v_isiN, ib_int, eq_dec, rl1, rl2, rl3, rl4, Bool.not_true, Bool.not_false, List.length_map, cutL_map, mkF, List.length_cons, List.length_nil, List.map_cons, List.map_nil, List.append_eq, List.cons_append, List.nil_append, List.getElem?_cons_zero, List.getElem?_cons_succ, List.set_cons_zero, List.set_cons_succ, Option.bind_some, Option.map_some, Option.bind_none, Option.map_none, Nat.zero_add, Nat.reduceAdd, Nat.reduceSub, Nat.reduceLeDiff, Nat.reduceLT, Nat.reduceEqDiff, Nat.reduceMul, LIM_eq, List.replicate_succ, List.replicate_zero, if_true, if_false, Bool.false_eq_true, Bool.true_eq_false, decide_true, decide_false, okS, noOwn, covers, tgIs, wipeO, List.all_cons, List.all_nil, List.any_cons, List.any_nil, Bool.and_true, Bool.true_and, Bool.and_self, Bool.or_false, Bool.false_or, Bool.or_true, beq_self_nat, kd, Int.reduceLT, Int.reduceLE, Int.reduceNeg, Int.reduceAdd, Int.reduceToNat, Int.reduceMul, Int.reduceSub, and_true, true_and, and_self, ite_true, ite_false, ↓reduceIte, f_drawn, f_box, div_nn, nbx_ok, List.length_range, hb]
  exact h5

/-! all dice of a kind -/
def rs (s : Nat) : List Int := (List.range s).map fun (k : Nat) => (k : Int) + 1
def okHd (a : Int) : List Int → Bool
  | [] => true
  | b :: _ => decide (a ≤ b)
def DD : Nat → Nat → List (List Int)
  | 0, _ => [[]]
  | m + 1, s => (DD m s).flatMap fun l => ((rs s).filter fun a => okHd a l).map fun a => a :: l
theorem mem_rs {s : Nat} {x : Int} (h : 1 ≤ x ∧ x ≤ s) : x ∈ rs s := by
  obtain ⟨k, hk⟩ := Int.eq_ofNat_of_zero_le (show 0 ≤ x - 1 by omega)
  exact List.mem_map.mpr ⟨k, List.mem_range.mpr (by omega), by omega⟩
theorem mem_DD (s : Nat) : ∀ l : List Int, (∀ x ∈ l, 1 ≤ x ∧ x ≤ (s : Int)) → l.Pairwise (· ≤ ·) → l ∈ DD l.length s
  | [], _, _ => List.mem_singleton.mpr rfl
  | a :: l, h1, h2 => by
    obtain ⟨h3, h4⟩ := List.pairwise_cons.mp h2
    have ih := mem_DD s l (fun x hx => h1 x (List.mem_cons_of_mem _ hx)) h4
    refine List.mem_flatMap.mpr ⟨l, ih, List.mem_map.mpr ⟨a, List.mem_filter.mpr ⟨mem_rs (h1 a List.mem_cons_self), ?_⟩, rfl⟩⟩
    cases l with
    | nil => rfl
    | cons b l => exact decide_eq_true (h3 b List.mem_cons_self)
theorem diceV_len (m s n : Int) : (diceV m s n).length = m.toNat := by
  unfold diceV
  rw [isortI_length, List.length_map, List.length_range]
theorem diceV_mem (m s n : Int) (h2 : 1 ≤ s) : ∀ x ∈ diceV m s n, 1 ≤ x ∧ x ≤ s := fun x hx => by
  obtain ⟨k, _, rfl⟩ := List.mem_map.mp ((isortI_perm _).mem_iff.mp hx)
  have h3 := Int.emod_nonneg (drawnV n (30 + (0 + (k : Int))) / 4) (show s ≠ 0 by omega)
  have h4 := Int.emod_lt_of_pos (drawnV n (30 + (0 + (k : Int))) / 4) (show 0 < s by omega)
  omega
theorem diceV_in (m s n : Int) (h1 : 0 ≤ m) (h2 : 1 ≤ s) : diceV m s n ∈ DD m.toNat s.toNat := by
  have hlen : (diceV m s n).length = m.toNat := by
    unfold diceV
    rw [isortI_length, List.length_map, List.length_range]
  have := mem_DD s.toNat (diceV m s n) (fun x hx => ?_) (isortI_sorted _)
  · rw [hlen] at this
    exact this
  · obtain ⟨k, _, rfl⟩ := List.mem_map.mp ((isortI_perm _).mem_iff.mp hx)
    have h3 := Int.emod_nonneg (drawnV n (30 + (0 + (k : Int))) / 4) (show s ≠ 0 by omega)
    have h4 := Int.emod_lt_of_pos (drawnV n (30 + (0 + (k : Int))) / 4) (show 0 < s by omega)
    omega
/-- what holds of all of a list by computing -/
theorem all_of {α β : Type} {f : α → β} {L : List α} {b : β} (h : L.map f = List.replicate L.length b) : ∀ x ∈ L, f x = b := fun x hx => by
  have h2 : f x ∈ L.map f := List.mem_map.mpr ⟨x, hx, rfl⟩
  rw [h] at h2
  exact List.eq_of_mem_replicate h2
theorem all_chunks {α β : Type} {f : α → β} {L : List α} {b : β} (n m : Nat) (hL : L.length ≤ m * n) (hn : 0 < n) (h : ∀ k, k < m → ∀ x ∈ (L.drop (k * n)).take n, f x = b) : ∀ x ∈ L, f x = b := fun x hx => by
  obtain ⟨i, hi, rfl⟩ := List.getElem_of_mem hx
  have h1 : i / n < m := by
    rw [Nat.div_lt_iff_lt_mul hn]
    omega
  refine h (i / n) h1 _ ?_
  have h2 : i = i / n * n + i % n := by rw [Nat.mul_comm]; exact (Nat.div_add_mod i n).symm
  have h3 : i % n < n := Nat.mod_lt _ hn
  refine List.mem_iff_getElem?.mpr ⟨i % n, ?_⟩
  rw [List.getElem?_take, if_pos h3, List.getElem?_drop, ← h2]
  simp [hi]

/-! a stand -/
theorem mapMO_cons {α : Type} (f : α → Option (Option D)) (x : α) (xs : List α) : mapMO f (x :: xs) = (f x).bind fun o => (mapMO f xs).map fun l => match o with
    | some y => y :: l
    | none => l := by
  show (match f x with
    | some (some y) => (mapMO f xs).map (y :: ·)
    | some none => mapMO f xs
    | none => none) = _
  cases f x with
  | none => rfl
  | some o =>
    cases o with
    | none =>
      simp only [Option.bind_some]
      cases mapMO f xs <;> rfl
    | some y => rfl
def oset (n k : Int) : Bool := decide (n / k % 2 = 1)
def boxesOf (n : Int) (l : Nat) : List Int := (if l ≥ 1 ∧ oset n 1 = true then [0] else []) ++ (if l ≥ 2 ∧ oset n 2 = true then [1] else []) ++ (if l ≥ 3 ∧ oset n 4 = true then [2] else [])
def standBs (n : Int) (l : Nat) : List Int := if (boxesOf n l).isEmpty then [n / 16 % l] else boxesOf n l
def standV (g : Gd) (n : Int) : St := ⟨standBs n g.B.length, n / 64 % g.t, diceV g.m g.s n⟩
theorem len123 {α : Type} {l : List α} (h1 : 1 ≤ l.length) (h3 : l.length ≤ 3) : (∃ a, l = [a]) ∨ (∃ a b, l = [a, b]) ∨ ∃ a b c, l = [a, b, c] := by
  match l, h1, h3 with
  | [a], _, _ => exact .inl ⟨a, rfl⟩
  | [a, b], _, _ => exact .inr (.inl ⟨a, b, rfl⟩)
  | [a, b, c], _, _ => exact .inr (.inr ⟨a, b, c, rfl⟩)
  | _ :: _ :: _ :: _ :: _, _, h => simp at h
theorem stand_ok (g : Gd) (hg : GdOk g) (n : Int) : StOk g (standV g n) := by
  obtain ⟨a, b, c, d⟩ := ms_small hg.ms
  have hk1 := hg.k1
  have hk3 := hg.k3
  have ht := hg.t1
  have e16 := Int.emod_nonneg (n / 16) (show (g.B.length : Int) ≠ 0 by omega)
  have f16 := Int.emod_lt_of_pos (n / 16) (show 0 < (g.B.length : Int) by omega)
  have bs : standBs n g.B.length ≠ [] ∧ (standBs n g.B.length).Pairwise (· < ·) ∧ ∀ k ∈ standBs n g.B.length, 0 ≤ k ∧ k < (g.B.length : Int) := by
    unfold standBs
    cases e : (boxesOf n g.B.length).isEmpty with
    | true =>
      simp only [if_true]
      refine ⟨by simp, List.pairwise_singleton _ _, fun k hk => ?_⟩
      rw [List.mem_singleton.mp hk]
      exact ⟨e16, f16⟩
    | false =>
      simp only [Bool.false_eq_true, if_false]
      refine ⟨fun q => (by rw [q] at e; cases e), ?_, ?_⟩
      · unfold boxesOf
        split <;> split <;> split <;> simp
      · intro k hk
        unfold boxesOf at hk
        have h3 : g.B.length = 1 ∨ g.B.length = 2 ∨ g.B.length = 3 := by omega
        simp only [List.mem_append] at hk
        rcases hk with (hk | hk) | hk
        · split at hk
          · rw [List.mem_singleton.mp hk]; omega
          · cases hk
        · split at hk
          · rename_i q
            rw [List.mem_singleton.mp hk]; omega
          · cases hk
        · split at hk
          · rename_i q
            rw [List.mem_singleton.mp hk]; omega
          · cases hk
  refine ⟨bs.1, bs.2.1, bs.2.2, Int.emod_nonneg _ (by omega), Int.emod_lt_of_pos _ (by omega), ?_⟩
  have hl := diceV_len g.m g.s n
  have h := mem_DL g.s (diceV g.m g.s n) 1 (diceV_mem g.m g.s n (by omega)) (isortI_sorted _)
  rw [hl] at h
  exact h
theorem nc1 : ((1 : Nat) : Int) = 1 := rfl
theorem nc2 : ((2 : Nat) : Int) = 2 := rfl
theorem nc3 : ((3 : Nat) : Int) = 3 := rfl
theorem eN0 : sEq (.list []) (.list []) = some (.bool true) := v_eqNil []
theorem eN1 (a : Int) : sEq (.list [.int a]) (.list []) = some (.bool false) := v_eqNil [a]
theorem eN2 (a b : Int) : sEq (.list [.int a, .int b]) (.list []) = some (.bool false) := v_eqNil [a, b]
theorem eN3 (a b c : Int) : sEq (.list [.int a, .int b, .int c]) (.list []) = some (.bool false) := v_eqNil [a, b, c]
theorem f_stand (g : Gd) (hg : GdOk g) (n : Int) : f_law_stand [g.d, .int n] = some (standV g n).d := by
  obtain ⟨m, s, t, B⟩ := g
  have hms : MS m s := hg.ms
  obtain ⟨a, b, c, d⟩ := ms_small hms
  have ht : 1 ≤ t := hg.t1
  have ht3 : t ≤ 3 := hg.t3
  have dd := fun (x y : D) => f_dice (.int m) (.int s) x y (.int n) _ _ _ rfl rfl rfl (by omega) (by omega) (by omega)
  have ht4 : (0 : Int) < (t : Int) := by omega
  have k1 : 1 ≤ B.length := hg.k1
  have k3 : B.length ≤ 3 := hg.k3
  have o1 : decide (n / 1 % 2 = 1) = oset n 1 := rfl
  have o2 : decide (n / 2 % 2 = 1) = oset n 2 := rfl
  have o4 : decide (n / 4 % 2 = 1) = oset n 4 := rfl
  unfold standV standBs boxesOf
  rcases len123 k1 k3 with ⟨p, e⟩ | ⟨p, q, e⟩ | ⟨p, q, r, e⟩
  all_goals
    subst e
    simp only [f_law_stand, m_law_stand, m_law_stand_t0, m_law_stand_t1, m_law_stand_t2, m_law_stand_s0, m_law_stand_s1, Gd.d, St.d, ap_c, ap_t, ap_v, vK_val, vK_lst, vK_dic, ap_peek, pkK_val, pkK_lst, pkK_dic, ap_o1E, ap_o1P, ap_o2EE, ap_o2EP, ap_o2PE, ap_o2PP, ap_o3E, ap_o3P, ap_esNil, ap_esCons, ap_tup, ap_lst, tupK, lstK, ap_and, ap_or, andK_t, andK_f, andK_b, orK_t, orK_f, orK_b, ap_call, ap_mP, ap_mE, ap_iSeq, ap_iSeqA, kOfL, kOfT, kOfD, ap_dnil, ap_iR1, ap_iR2, r1_eq, r2_eq, ap_tgo1, ap_tgoM, setAll0, setAllC, eComp_eq, ap_turnT, ap_turnO, tuK_t, tuK_f, tuK_b, ap_seq, seqK_nx, seqK_rt, seqK_ct, seqK_bk, seqK_no, seqK_if, ap_nil, ap_cnt, ap_brk, ap_set, ap_own, ownK_l, ownK_d, ap_ret, ap_if, ifK_t, ifK_f, ifK_b, ap_for, forL_nil, forL_cons, forK_nx, forK_ct, forK_bk, forK_rt, forK_if, ap_par, run_eq, runK_rt, runK_nx, runK_if, v_add, v_sub, v_neg, v_mod, v_div, v_mulR, v_mulL, v_mulB, v_addT, v_addL, v_catL, v_lt, v_le, v_gt, v_ge, v_eqI, v_neI, v_eqS, v_neS, v_lenT, v_lenL, v_intB, v_intI, v_not, v_min, v_max, v_abs, v_tupL, v_tupT, v_ixT, v_ixL, ix0, ix1, ix2, ix3, seqT, seqL, v_sumT, v_sumL, v_any, v_all, v_inT, v_inL, v_ninT, v_ninL, v_countT, mapMO_all, mapMO_some, mapMO_map, mapMO_range, v_sortedL, v_sortedT, v_cT, v_cTl, v_cTh, v_cL, v_cLl, v_cLh, v_eqNil, v_neNil, ix4, sel4_int, v_repT, v_isiI, v_isiS, v_isiB, v_isiN, ib_int, eq_dec, rl1, rl2, rl3, rl4, Bool.not_true, Bool.not_false, List.length_map, cutL_map, mkF, List.length_cons, List.length_nil, List.map_cons, List.map_nil, List.append_eq, List.cons_append, List.nil_append, List.getElem?_cons_zero, List.getElem?_cons_succ, List.set_cons_zero, List.set_cons_succ, Option.bind_some, Option.map_some, Option.bind_none, Option.map_none, Nat.zero_add, Nat.reduceAdd, Nat.reduceSub, Nat.reduceLeDiff, Nat.reduceLT, Nat.reduceEqDiff, Nat.reduceMul, LIM_eq, List.replicate_succ, List.replicate_zero, if_true, if_false, Bool.false_eq_true, Bool.true_eq_false, decide_true, decide_false, okS, noOwn, covers, tgIs, wipeO, List.all_cons, List.all_nil, List.any_cons, List.any_nil, Bool.and_true, Bool.true_and, Bool.and_self, Bool.or_false, Bool.false_or, Bool.or_true, beq_self_nat, kd, Int.reduceLT, Int.reduceLE, Int.reduceNeg, Int.reduceAdd, Int.reduceToNat, Int.reduceMul, Int.reduceSub, and_true, true_and, and_self, ite_true, ite_false, ↓reduceIte, nbeq, eq_self, ap_ext, ap_app, ap_put, lstK1_l, lstL_l, dicL_d, listK_l, mapMO_cons, mapMO_nil, nc1, nc2, nc3, o1, o2, o4, dd]
    generalize oset n 1 = b1
    generalize oset n 2 = b2
    generalize oset n 4 = b3
    cases b1
    all_goals cases b2
    all_goals cases b3
    all_goals simp only [ap_c, ap_t, ap_v, vK_val, vK_lst, vK_dic, ap_peek, pkK_val, pkK_lst, pkK_dic, ap_o1E, ap_o1P, ap_o2EE, ap_o2EP, ap_o2PE, ap_o2PP, ap_o3E, ap_o3P, ap_esNil, ap_esCons, ap_tup, ap_lst, tupK, lstK, ap_and, ap_or, andK_t, andK_f, andK_b, orK_t, orK_f, orK_b, ap_call, ap_mP, ap_mE, ap_iSeq, ap_iSeqA, kOfL, kOfT, kOfD, ap_dnil, ap_iR1, ap_iR2, r1_eq, r2_eq, ap_tgo1, ap_tgoM, setAll0, setAllC, eComp_eq, ap_turnT, ap_turnO, tuK_t, tuK_f, tuK_b, ap_seq, seqK_nx, seqK_rt, seqK_ct, seqK_bk, seqK_no, seqK_if, ap_nil, ap_cnt, ap_brk, ap_set, ap_own, ownK_l, ownK_d, ap_ret, ap_if, ifK_t, ifK_f, ifK_b, ap_for, forL_nil, forL_cons, forK_nx, forK_ct, forK_bk, forK_rt, forK_if, ap_par, run_eq, runK_rt, runK_nx, runK_if, v_add, v_sub, v_neg, v_mod, v_div, v_mulR, v_mulL, v_mulB, v_addT, v_addL, v_catL, v_lt, v_le, v_gt, v_ge, v_eqI, v_neI, v_eqS, v_neS, v_lenT, v_lenL, v_intB, v_intI, v_not, v_min, v_max, v_abs, v_tupL, v_tupT, v_ixT, v_ixL, ix0, ix1, ix2, ix3, seqT, seqL, v_sumT, v_sumL, v_any, v_all, v_inT, v_inL, v_ninT, v_ninL, v_countT, mapMO_all, mapMO_some, mapMO_map, mapMO_range, v_sortedL, v_sortedT, v_cT, v_cTl, v_cTh, v_cL, v_cLl, v_cLh, v_eqNil, v_neNil, ix4, sel4_int, v_repT, v_isiI, v_isiS, v_isiB, v_isiN, ib_int, eq_dec, rl1, rl2, rl3, rl4, Bool.not_true, Bool.not_false, List.length_map, cutL_map, mkF, List.length_cons, List.length_nil, List.map_cons, List.map_nil, List.append_eq, List.cons_append, List.nil_append, List.getElem?_cons_zero, List.getElem?_cons_succ, List.set_cons_zero, List.set_cons_succ, Option.bind_some, Option.map_some, Option.bind_none, Option.map_none, Nat.zero_add, Nat.reduceAdd, Nat.reduceSub, Nat.reduceLeDiff, Nat.reduceLT, Nat.reduceEqDiff, Nat.reduceMul, LIM_eq, List.replicate_succ, List.replicate_zero, if_true, if_false, Bool.false_eq_true, Bool.true_eq_false, decide_true, decide_false, okS, noOwn, covers, tgIs, wipeO, List.all_cons, List.all_nil, List.any_cons, List.any_nil, Bool.and_true, Bool.true_and, Bool.and_self, Bool.or_false, Bool.false_or, Bool.or_true, beq_self_nat, kd, Int.reduceLT, Int.reduceLE, Int.reduceNeg, Int.reduceAdd, Int.reduceToNat, Int.reduceMul, Int.reduceSub, and_true, true_and, and_self, ite_true, ite_false, ↓reduceIte, nbeq, eq_self, ap_ext, ap_app, ap_put, lstK1_l, lstL_l, dicL_d, listK_l, mapMO_cons, mapMO_nil, nc1, nc2, nc3, dd, ht4, eN0, eN1, eN2, eN3]
    all_goals rfl

/-! games as plain things -/
theorem game0 (n : Int) (h : 0 ≤ n) : ∃ g : Gd, GdOk g ∧ g.B = boxesV n ∧ (g.B.length = 3 → g.m * g.s * g.t ≤ 12) ∧ f_law_game [.int n, .int 0] = some g.d := by
  obtain ⟨m, s, t, G, e⟩ := f_game0 n h
  have hm : m = ((m.toNat : Nat) : Int) ∧ s = ((s.toNat : Nat) : Int) ∧ t = ((t.toNat : Nat) : Int) ∧ MS m.toNat s.toNat := by
    have h1 : MS m.toNat s.toNat := by
      rcases G.ms with ⟨rfl, rfl | rfl | rfl⟩ | ⟨rfl, rfl | rfl | rfl⟩ | ⟨rfl, rfl | rfl⟩ <;> (unfold MS; decide)
    refine ⟨?_, ?_, ?_, h1⟩
    · rcases G.ms with ⟨rfl, _⟩ | ⟨rfl, _⟩ | ⟨rfl, _⟩ <;> rfl
    · rcases G.ms with ⟨_, rfl | rfl | rfl⟩ | ⟨_, rfl | rfl | rfl⟩ | ⟨_, rfl | rfl⟩ <;> rfl
    · rcases G.tt with rfl | rfl | rfl <;> rfl
  obtain ⟨e1, e2, e3, hms⟩ := hm
  have few := G.few
  refine ⟨⟨m.toNat, s.toNat, t.toNat, boxesV n⟩, ⟨hms, ?_, ?_, ?_, ?_, ?_⟩, rfl, ?_, ?_⟩
  · show 1 ≤ t.toNat
    rcases G.tt with rfl | rfl | rfl <;> decide
  · show t.toNat ≤ 3
    rcases G.tt with rfl | rfl | rfl <;> decide
  · show 1 ≤ (boxesV n).length
    rcases G.kk with h | h | h <;> omega
  · show (boxesV n).length ≤ 3
    rcases G.kk with h | h | h <;> omega
  · intro b hb
    have hb : b ∈ boxesV n := hb
    unfold boxesV at hb
    obtain ⟨k, _, rfl⟩ := List.mem_map.mp hb
    exact bx_ok _ (div_nn _ _)
  · intro h3
    have h3 : (boxesV n).length = 3 := h3
    have := few (by omega)
    rw [e1, e2, e3] at this
    show m.toNat * s.toNat * t.toNat ≤ 12
    exact_mod_cast this
  · rw [e]
    unfold Gd.d
    rw [← e1, ← e2, ← e3]
/-! the same twice -/
theorem v_neSame (d : D) (h : d.plain = true) (h2 : d.depth ≤ 60) : sNe d d = some (.bool false) := by
  unfold sNe
  have h3 : decide (d.depth ≤ lvl) = true := decide_eq_true h2
  rw [h, h3, SeqAt.eqv_refl_plain d h]
  rfl
theorem v_eqSame (d : D) (h : d.plain = true) (h2 : d.depth ≤ 60) : sEq d d = some (.bool true) := by
  unfold sEq
  have h3 : decide (d.depth ≤ lvl) = true := decide_eq_true h2
  rw [h, h3, SeqAt.eqv_refl_plain d h]
  rfl
theorem plain_of {l : List D} (h : ∀ d ∈ l, d.plain = true) : PyData.plainAll l = true := by
  induction l with
  | nil => rfl
  | cons x l ih =>
    rw [PyData.plainAll, h x List.mem_cons_self, ih fun d hd => h d (List.mem_cons_of_mem _ hd)]
    rfl
theorem depth_of {l : List D} {n : Nat} (h : ∀ d ∈ l, d.depth ≤ n) : PyData.depthAll l ≤ n := by
  induction l with
  | nil => simp [PyData.depthAll]
  | cons x l ih =>
    rw [PyData.depthAll]
    have h1 := h x List.mem_cons_self
    have h2 := ih fun d hd => h d (List.mem_cons_of_mem _ hd)
    omega
def ok9 (d : D) (n : Nat) : Prop := d.plain = true ∧ d.depth ≤ n
theorem ok9_tup {l : List D} {n : Nat} (h : ∀ d ∈ l, ok9 d n) : ok9 (.tuple l) (n + 1) := by
  refine ⟨plain_of fun d hd => (h d hd).1, ?_⟩
  rw [PyData.depth]
  have := depth_of fun d hd => (h d hd).2
  omega
theorem ok9_lst {l : List D} {n : Nat} (h : ∀ d ∈ l, ok9 d n) : ok9 (.list l) (n + 1) := by
  refine ⟨plain_of fun d hd => (h d hd).1, ?_⟩
  rw [PyData.depth]
  have := depth_of fun d hd => (h d hd).2
  omega
theorem ok9_int (i : Int) (n : Nat) : ok9 (.int i) n := ⟨rfl, Nat.zero_le _⟩
theorem ok9_str (i : Str) (n : Nat) : ok9 (.str i) n := ⟨rfl, Nat.zero_le _⟩
theorem ok9_up {d : D} {n m : Nat} (h : ok9 d n) (k : n ≤ m) : ok9 d m := ⟨h.1, Nat.le_trans h.2 k⟩
theorem ok9_ints (l : List Int) (n : Nat) : ok9 (tup l) (n + 1) := ok9_tup fun d hd => by
  obtain ⟨i, _, rfl⟩ := List.mem_map.mp hd
  exact ok9_int i n
theorem ok9_fr (u l : Int) (n : Nat) : ok9 (frD u l) (n + 1) := ok9_tup fun d hd => by
  rcases List.mem_cons.mp hd with rfl | hd
  · exact ok9_int _ n
  · rw [List.mem_singleton.mp hd]; exact ok9_int _ n
theorem ok9_mv (m : Mv) : ok9 m.d 2 := by
  cases m with
  | fill k =>
    exact ok9_tup fun d hd => by
      rcases List.mem_cons.mp hd with rfl | hd
      · exact ok9_str _ _
      · rw [List.mem_singleton.mp hd]; exact ok9_int _ _
  | keep x =>
    exact ok9_tup fun d hd => by
      rcases List.mem_cons.mp hd with rfl | hd
      · exact ok9_str _ _
      · rw [List.mem_singleton.mp hd]; exact ok9_ints _ 0
theorem ok9_st (x : St) : ok9 x.d 2 := ok9_tup fun d hd => by
  rcases List.mem_cons.mp hd with rfl | hd
  · exact ok9_ints _ 0
  · rcases List.mem_cons.mp hd with rfl | hd
    · exact ok9_int _ _
    · rw [List.mem_singleton.mp hd]; exact ok9_ints _ 0
theorem ok9_stD (q : St × Int × Int) : ok9 (stD q) 3 := ok9_tup fun d hd => by
  rcases List.mem_cons.mp hd with rfl | hd
  · exact ok9_st _
  · rw [List.mem_singleton.mp hd]; exact ok9_fr _ _ 1
theorem ok9_mvs (l : List Mv) : ok9 (.tuple (l.map Mv.d)) 3 := ok9_tup fun d hd => by
  obtain ⟨m, _, rfl⟩ := List.mem_map.mp hd
  exact ok9_mv m
theorem ok9_coms (c : Int × List (St × Int × Int)) : ok9 (.tuple [.int c.1, .tuple (c.2.map stD)]) 5 := ok9_tup fun d hd => by
  rcases List.mem_cons.mp hd with rfl | hd
  · exact ok9_int _ _
  · rw [List.mem_singleton.mp hd]
    refine ok9_tup fun d hd => ?_
    obtain ⟨m, _, rfl⟩ := List.mem_map.mp hd
    exact ok9_stD m


/-! fractions -/
abbrev frR (r : Rat) : D := frD r.num (r.den : Nat)
theorem big_lt : (2 : Nat) ^ 8990 ≠ 0 := by decide
theorem log_lt {n k : Nat} (h : n < 2 ^ k) (hk : 0 < k) : n.log2 < k := by
  by_cases h0 : n = 0
  · subst h0
    simpa using hk
  · exact (Nat.log2_lt h0).mpr h
theorem v_divG (a b : Int) (h0 : 0 < b) (h1 : b.natAbs < 2 ^ 8990) : sDiv (.int a) (.int b) = some (.int (a / b)) := by
  have h2 : b.natAbs.log2 < 9000 := by
    have := log_lt h1 (by decide)
    omega
  exact if_pos (by rw [decide_eq_true h0, decide_eq_true h2]; rfl)
theorem v_mulG (a b : Int) (h1 : a.natAbs < 2 ^ 8990) (h2 : b.natAbs < 2 ^ 8990) : sMulA (.int a) (.int b) = some (.int (a * b)) := by
  have l1 := log_lt h1 (by decide)
  have l2 := log_lt h2 (by decide)
  have e : mulOk a b = true := by
    unfold mulOk
    have h3 : decide (a.natAbs.log2 + b.natAbs.log2 < 1000000) = true := decide_eq_true (by omega)
    rw [h3]
    simp
  unfold sMulA or2 sMul
  simp only [e, if_true]
theorem e_while (c : Ev) (b : Sm) (n : Nat) (ρ : List O) : whLoop c b (n + 1) ρ = (c ρ).bind fun z => ifK z.1 (forK (b z.2) (whLoop c b n)) (some (.nx, z.2)) := by
  show (match c ρ with
    | some (.bool true, ρ1) => match b ρ1 with
      | some (.nx, ρ2) => whLoop c b n ρ2
      | some (.ct, ρ2) => whLoop c b n ρ2
      | some (.bk, ρ2) => some (.nx, ρ2)
      | some (.rt d, ρ2) => some (.rt d, ρ2)
      | none => none
    | some (.bool false, ρ1) => some (.nx, ρ1)
    | _ => none) = _
  cases c ρ with
  | none => rfl
  | some z =>
    obtain ⟨d, ρ1⟩ := z
    cases d with
    | bool x =>
      cases x with
      | true =>
        simp only [Option.bind_some, ifK_t]
        unfold forK
        rfl
      | false => rfl
    | _ => rfl

theorem plain_loop (x y : O) : ∀ (n a b : Nat), a < n → whLoop (o2 sGt (kP 2) (kE (eC (.int 0)))) (sPar 2 3 (o2 sMod (kP 3) (kP 2)) (eV 2)) n [x, y, .val (.int a), .val (.int b)] = some (.nx, [x, y, .val (.int 0), .val (.int (Nat.gcd a b))])
  | 0, _, _, h => absurd h (Nat.not_lt_zero _)
  | n + 1, a, b, h => by
    rw [e_while]
    by_cases ha : 0 < a
    · have h1 : decide (0 < (a : Int)) = true := decide_eq_true (by omega)
      have h2 : (0 : Int) < (a : Int) := by omega
      have h3 : ((b : Int) % (a : Int)) = ((b % a : Nat) : Int) := (Int.natCast_emod b a).symm
      have ih := plain_loop x y n (b % a) a (by have := Nat.mod_lt b ha; omega)
      rw [← Nat.gcd_rec] at ih
      simp only [ap_c, ap_t, ap_v, vK_val, vK_lst, vK_dic, ap_peek, pkK_val, pkK_lst, pkK_dic, ap_o1E, ap_o1P, ap_o2EE, ap_o2EP, ap_o2PE, ap_o2PP, ap_o3E, ap_o3P, ap_esNil, ap_esCons, ap_tup, ap_lst, tupK, lstK, ap_and, ap_or, andK_t, andK_f, andK_b, orK_t, orK_f, orK_b, ap_call, ap_mP, ap_mE, ap_iSeq, ap_iSeqA, kOfL, kOfT, kOfD, ap_dnil, ap_iR1, ap_iR2, r1_eq, r2_eq, ap_tgo1, ap_tgoM, setAll0, setAllC, eComp_eq, ap_turnT, ap_turnO, tuK_t, tuK_f, tuK_b, ap_seq, seqK_nx, seqK_rt, seqK_ct, seqK_bk, seqK_no, seqK_if, ap_nil, ap_cnt, ap_brk, ap_set, ap_own, ownK_l, ownK_d, ap_ret, ap_if, ifK_t, ifK_f, ifK_b, ap_for, forL_nil, forL_cons, forK_nx, forK_ct, forK_bk, forK_rt, forK_if, ap_par, run_eq, runK_rt, runK_nx, runK_if, v_add, v_sub, v_neg, v_mod, v_div, v_mulR, v_mulL, v_mulB, v_addT, v_addL, v_catL, v_lt, v_le, v_gt, v_ge, v_eqI, v_neI, v_eqS, v_neS, v_lenT, v_lenL, v_intB, v_intI, v_not, v_min, v_max, v_abs, v_tupL, v_tupT, v_ixT, v_ixL, ix0, ix1, ix2, ix3, seqT, seqL, v_sumT, v_sumL, v_any, v_all, v_inT, v_inL, v_ninT, v_ninL, v_countT, mapMO_all, mapMO_some, mapMO_map, mapMO_range, v_sortedL, v_sortedT, v_cT, v_cTl, v_cTh, v_cL, v_cLl, v_cLh, v_eqNil, v_neNil, ix4, sel4_int, v_repT, v_isiI, v_isiS, v_isiB, v_isiN, ib_int, eq_dec, rl1, rl2, rl3, rl4, Bool.not_true, Bool.not_false, List.length_map, cutL_map, mkF, List.length_cons, List.length_nil, List.map_cons, List.map_nil, List.append_eq, List.cons_append, List.nil_append, List.getElem?_cons_zero, List.getElem?_cons_succ, List.set_cons_zero, List.set_cons_succ, Option.bind_some, Option.map_some, Option.bind_none, Option.map_none, Nat.zero_add, Nat.reduceAdd, Nat.reduceSub, Nat.reduceLeDiff, Nat.reduceLT, Nat.reduceEqDiff, Nat.reduceMul, LIM_eq, List.replicate_succ, List.replicate_zero, if_true, if_false, Bool.false_eq_true, Bool.true_eq_false, decide_true, decide_false, okS, noOwn, covers, tgIs, wipeO, List.all_cons, List.all_nil, List.any_cons, List.any_nil, Bool.and_true, Bool.true_and, Bool.and_self, Bool.or_false, Bool.false_or, Bool.or_true, beq_self_nat, kd, Int.reduceLT, Int.reduceLE, Int.reduceNeg, Int.reduceAdd, Int.reduceToNat, Int.reduceMul, Int.reduceSub, and_true, true_and, and_self, ite_true, ite_false, ↓reduceIte, nbeq, eq_self, ap_ext, ap_app, ap_put, lstK1_l, lstL_l, dicL_d, listK_l, h1, h2, h3]
      exact ih
    · have e : a = 0 := by omega
      subst e
      rw [Nat.gcd_zero_left]
      simp only [ap_c, ap_t, ap_v, vK_val, vK_lst, vK_dic, ap_peek, pkK_val, pkK_lst, pkK_dic, ap_o1E, ap_o1P, ap_o2EE, ap_o2EP, ap_o2PE, ap_o2PP, ap_o3E, ap_o3P, ap_esNil, ap_esCons, ap_tup, ap_lst, tupK, lstK, ap_and, ap_or, andK_t, andK_f, andK_b, orK_t, orK_f, orK_b, ap_call, ap_mP, ap_mE, ap_iSeq, ap_iSeqA, kOfL, kOfT, kOfD, ap_dnil, ap_iR1, ap_iR2, r1_eq, r2_eq, ap_tgo1, ap_tgoM, setAll0, setAllC, eComp_eq, ap_turnT, ap_turnO, tuK_t, tuK_f, tuK_b, ap_seq, seqK_nx, seqK_rt, seqK_ct, seqK_bk, seqK_no, seqK_if, ap_nil, ap_cnt, ap_brk, ap_set, ap_own, ownK_l, ownK_d, ap_ret, ap_if, ifK_t, ifK_f, ifK_b, ap_for, forL_nil, forL_cons, forK_nx, forK_ct, forK_bk, forK_rt, forK_if, ap_par, run_eq, runK_rt, runK_nx, runK_if, v_add, v_sub, v_neg, v_mod, v_div, v_mulR, v_mulL, v_mulB, v_addT, v_addL, v_catL, v_lt, v_le, v_gt, v_ge, v_eqI, v_neI, v_eqS, v_neS, v_lenT, v_lenL, v_intB, v_intI, v_not, v_min, v_max, v_abs, v_tupL, v_tupT, v_ixT, v_ixL, ix0, ix1, ix2, ix3, seqT, seqL, v_sumT, v_sumL, v_any, v_all, v_inT, v_inL, v_ninT, v_ninL, v_countT, mapMO_all, mapMO_some, mapMO_map, mapMO_range, v_sortedL, v_sortedT, v_cT, v_cTl, v_cTh, v_cL, v_cLl, v_cLh, v_eqNil, v_neNil, ix4, sel4_int, v_repT, v_isiI, v_isiS, v_isiB, v_isiN, ib_int, eq_dec, rl1, rl2, rl3, rl4, Bool.not_true, Bool.not_false, List.length_map, cutL_map, mkF, List.length_cons, List.length_nil, List.map_cons, List.map_nil, List.append_eq, List.cons_append, List.nil_append, List.getElem?_cons_zero, List.getElem?_cons_succ, List.set_cons_zero, List.set_cons_succ, Option.bind_some, Option.map_some, Option.bind_none, Option.map_none, Nat.zero_add, Nat.reduceAdd, Nat.reduceSub, Nat.reduceLeDiff, Nat.reduceLT, Nat.reduceEqDiff, Nat.reduceMul, LIM_eq, List.replicate_succ, List.replicate_zero, if_true, if_false, Bool.false_eq_true, Bool.true_eq_false, decide_true, decide_false, okS, noOwn, covers, tgIs, wipeO, List.all_cons, List.all_nil, List.any_cons, List.any_nil, Bool.and_true, Bool.true_and, Bool.and_self, Bool.or_false, Bool.false_or, Bool.or_true, beq_self_nat, kd, Int.reduceLT, Int.reduceLE, Int.reduceNeg, Int.reduceAdd, Int.reduceToNat, Int.reduceMul, Int.reduceSub, and_true, true_and, and_self, ite_true, ite_false, ↓reduceIte, nbeq, eq_self, ap_ext, ap_app, ap_put, lstK1_l, lstL_l, dicL_d, listK_l]
      rfl
theorem f_plainV (u : Int) (d : Nat) (hd : 0 < d) (hs : d < 2 ^ 8990) : f_plain [.int u, .int d] = some (frR (mkRat u d)) := by
  have e1 : (if u < 0 then -u else u) = (u.natAbs : Int) := by
    split <;> omega
  have hg : 0 < Nat.gcd u.natAbs d := Nat.gcd_pos_of_pos_right _ hd
  have hle : Nat.gcd u.natAbs d ≤ d := Nat.le_of_dvd hd (Nat.gcd_dvd_right _ _)
  have lp := plain_loop (.val (.int u)) (.val (.int d)) (u.natAbs + 1) u.natAbs d (Nat.lt_succ_self _)
  have g0 : (0 : Int) < ((Nat.gcd u.natAbs d : Nat) : Int) := by omega
  have g1 : (((Nat.gcd u.natAbs d : Nat) : Int)).natAbs < 2 ^ 8990 := by omega
  have v1 := v_divG u _ g0 g1
  have v2 := v_divG (d : Int) _ g0 g1
  have en : (mkRat u d).num = u / ((Nat.gcd u.natAbs d : Nat) : Int) := by
    rw [Rat.num_mkRat, if_neg (by omega), Nat.gcd_comm]
  have ed : ((mkRat u d).den : Int) = (d : Int) / ((Nat.gcd u.natAbs d : Nat) : Int) := by
    rw [Rat.den_mkRat, if_neg (by omega), Nat.gcd_comm, Int.natCast_ediv]
  unfold frR
  rw [en, ed]
  simp only [f_plain, m_plain, m_plain_t0, m_plain_t1, m_plain_t2, m_plain_t3, m_plain_s0, m_plain_s1, m_plain_s2, ap_c, ap_t, ap_v, vK_val, vK_lst, vK_dic, ap_peek, pkK_val, pkK_lst, pkK_dic, ap_o1E, ap_o1P, ap_o2EE, ap_o2EP, ap_o2PE, ap_o2PP, ap_o3E, ap_o3P, ap_esNil, ap_esCons, ap_tup, ap_lst, tupK, lstK, ap_and, ap_or, andK_t, andK_f, andK_b, orK_t, orK_f, orK_b, ap_call, ap_mP, ap_mE, ap_iSeq, ap_iSeqA, kOfL, kOfT, kOfD, ap_dnil, ap_iR1, ap_iR2, r1_eq, r2_eq, ap_tgo1, ap_tgoM, setAll0, setAllC, eComp_eq, ap_turnT, ap_turnO, tuK_t, tuK_f, tuK_b, ap_seq, seqK_nx, seqK_rt, seqK_ct, seqK_bk, seqK_no, seqK_if, ap_nil, ap_cnt, ap_brk, ap_set, ap_own, ownK_l, ownK_d, ap_ret, ap_if, ifK_t, ifK_f, ifK_b, ap_for, forL_nil, forL_cons, forK_nx, forK_ct, forK_bk, forK_rt, forK_if, ap_par, run_eq, runK_rt, runK_nx, runK_if, v_add, v_sub, v_neg, v_mod, v_div, v_mulR, v_mulL, v_mulB, v_addT, v_addL, v_catL, v_lt, v_le, v_gt, v_ge, v_eqI, v_neI, v_eqS, v_neS, v_lenT, v_lenL, v_intB, v_intI, v_not, v_min, v_max, v_abs, v_tupL, v_tupT, v_ixT, v_ixL, ix0, ix1, ix2, ix3, seqT, seqL, v_sumT, v_sumL, v_any, v_all, v_inT, v_inL, v_ninT, v_ninL, v_countT, mapMO_all, mapMO_some, mapMO_map, mapMO_range, v_sortedL, v_sortedT, v_cT, v_cTl, v_cTh, v_cL, v_cLl, v_cLh, v_eqNil, v_neNil, ix4, sel4_int, v_repT, v_isiI, v_isiS, v_isiB, v_isiN, ib_int, eq_dec, rl1, rl2, rl3, rl4, Bool.not_true, Bool.not_false, List.length_map, cutL_map, mkF, List.length_cons, List.length_nil, List.map_cons, List.map_nil, List.append_eq, List.cons_append, List.nil_append, List.getElem?_cons_zero, List.getElem?_cons_succ, List.set_cons_zero, List.set_cons_succ, Option.bind_some, Option.map_some, Option.bind_none, Option.map_none, Nat.zero_add, Nat.reduceAdd, Nat.reduceSub, Nat.reduceLeDiff, Nat.reduceLT, Nat.reduceEqDiff, Nat.reduceMul, LIM_eq, List.replicate_succ, List.replicate_zero, if_true, if_false, Bool.false_eq_true, Bool.true_eq_false, decide_true, decide_false, okS, noOwn, covers, tgIs, wipeO, List.all_cons, List.all_nil, List.any_cons, List.any_nil, Bool.and_true, Bool.true_and, Bool.and_self, Bool.or_false, Bool.false_or, Bool.or_true, beq_self_nat, kd, Int.reduceLT, Int.reduceLE, Int.reduceNeg, Int.reduceAdd, Int.reduceToNat, Int.reduceMul, Int.reduceSub, and_true, true_and, and_self, ite_true, ite_false, ↓reduceIte, nbeq, eq_self, ap_ext, ap_app, ap_put, lstK1_l, lstL_l, dicL_d, listK_l, e1]
  show runK (seqK (whLoop _ _ (muI 2 _) _) _) = _
  have em : muI 2 [.val (.int u), .val (.int d), .val (.int (u.natAbs : Int)), .val (.int d)] = u.natAbs + 1 := by
    show ((u.natAbs : Int)).toNat + 1 = _
    rw [Int.toNat_natCast]
  rw [em, lp]
  simp only [ap_c, ap_t, ap_v, vK_val, vK_lst, vK_dic, ap_peek, pkK_val, pkK_lst, pkK_dic, ap_o1E, ap_o1P, ap_o2EE, ap_o2EP, ap_o2PE, ap_o2PP, ap_o3E, ap_o3P, ap_esNil, ap_esCons, ap_tup, ap_lst, tupK, lstK, ap_and, ap_or, andK_t, andK_f, andK_b, orK_t, orK_f, orK_b, ap_call, ap_mP, ap_mE, ap_iSeq, ap_iSeqA, kOfL, kOfT, kOfD, ap_dnil, ap_iR1, ap_iR2, r1_eq, r2_eq, ap_tgo1, ap_tgoM, setAll0, setAllC, eComp_eq, ap_turnT, ap_turnO, tuK_t, tuK_f, tuK_b, ap_seq, seqK_nx, seqK_rt, seqK_ct, seqK_bk, seqK_no, seqK_if, ap_nil, ap_cnt, ap_brk, ap_set, ap_own, ownK_l, ownK_d, ap_ret, ap_if, ifK_t, ifK_f, ifK_b, ap_for, forL_nil, forL_cons, forK_nx, forK_ct, forK_bk, forK_rt, forK_if, ap_par, run_eq, runK_rt, runK_nx, runK_if, v_add, v_sub, v_neg, v_mod, v_div, v_mulR, v_mulL, v_mulB, v_addT, v_addL, v_catL, v_lt, v_le, v_gt, v_ge, v_eqI, v_neI, v_eqS, v_neS, v_lenT, v_lenL, v_intB, v_intI, v_not, v_min, v_max, v_abs, v_tupL, v_tupT, v_ixT, v_ixL, ix0, ix1, ix2, ix3, seqT, seqL, v_sumT, v_sumL, v_any, v_all, v_inT, v_inL, v_ninT, v_ninL, v_countT, mapMO_all, mapMO_some, mapMO_map, mapMO_range, v_sortedL, v_sortedT, v_cT, v_cTl, v_cTh, v_cL, v_cLl, v_cLh, v_eqNil, v_neNil, ix4, sel4_int, v_repT, v_isiI, v_isiS, v_isiB, v_isiN, ib_int, eq_dec, rl1, rl2, rl3, rl4, Bool.not_true, Bool.not_false, List.length_map, cutL_map, mkF, List.length_cons, List.length_nil, List.map_cons, List.map_nil, List.append_eq, List.cons_append, List.nil_append, List.getElem?_cons_zero, List.getElem?_cons_succ, List.set_cons_zero, List.set_cons_succ, Option.bind_some, Option.map_some, Option.bind_none, Option.map_none, Nat.zero_add, Nat.reduceAdd, Nat.reduceSub, Nat.reduceLeDiff, Nat.reduceLT, Nat.reduceEqDiff, Nat.reduceMul, LIM_eq, List.replicate_succ, List.replicate_zero, if_true, if_false, Bool.false_eq_true, Bool.true_eq_false, decide_true, decide_false, okS, noOwn, covers, tgIs, wipeO, List.all_cons, List.all_nil, List.any_cons, List.any_nil, Bool.and_true, Bool.true_and, Bool.and_self, Bool.or_false, Bool.false_or, Bool.or_true, beq_self_nat, kd, Int.reduceLT, Int.reduceLE, Int.reduceNeg, Int.reduceAdd, Int.reduceToNat, Int.reduceMul, Int.reduceSub, and_true, true_and, and_self, ite_true, ite_false, ↓reduceIte, nbeq, eq_self, ap_ext, ap_app, ap_put, lstK1_l, lstL_l, dicL_d, listK_l, v1, v2]

def Sml (r : Rat) : Prop := r.num.natAbs < 2 ^ 2000 ∧ r.den < 2 ^ 2000
theorem lt_mulP {x y m n : Nat} (h1 : x < 2 ^ m) (h2 : y < 2 ^ n) : x * y < 2 ^ (m + n) := by
  rw [Nat.pow_add]
  exact Nat.mul_lt_mul'' h1 h2
theorem lt_upP {x m n : Nat} (h : x < 2 ^ m) (k : m ≤ n) : x < 2 ^ n := Nat.lt_of_lt_of_le h (Nat.pow_le_pow_right (by decide) k)
theorem Sml.d0 {r : Rat} : 0 < r.den := Nat.pos_of_ne_zero r.den_nz
theorem Sml.n8 {r : Rat} (h : Sml r) : r.num.natAbs < 2 ^ 8990 := lt_upP h.1 (by decide)
theorem Sml.d8 {r : Rat} (h : Sml r) : ((r.den : Nat) : Int).natAbs < 2 ^ 8990 := by
  rw [Int.natAbs_natCast]
  exact lt_upP h.2 (by decide)
theorem Sml.dd {a b : Rat} (h : Sml a) (k : Sml b) : a.den * b.den < 2 ^ 4000 := lt_mulP h.2 k.2
theorem nat_mulI (a b : Nat) : (a : Int) * (b : Int) = ((a * b : Nat) : Int) := (Int.natCast_mul a b).symm
theorem f_timesR (a b : Rat) (ha : Sml a) (hb : Sml b) : f_times [frR a, frR b] = some (frR (a * b)) := by
  have p := f_plainV (a.num * b.num) (a.den * b.den) (Nat.mul_pos Sml.d0 Sml.d0) (lt_upP (ha.dd hb) (by decide))
  rw [← Rat.mul_def'] at p
  have m1 := v_mulG a.num b.num ha.n8 hb.n8
  have m3 := v_mulG a.den b.den ha.d8 hb.d8
  rw [nat_mulI] at m3
  simp only [f_times, m_times, ap_c, ap_t, ap_v, vK_val, vK_lst, vK_dic, ap_peek, pkK_val, pkK_lst, pkK_dic, ap_o1E, ap_o1P, ap_o2EE, ap_o2EP, ap_o2PE, ap_o2PP, ap_o3E, ap_o3P, ap_esNil, ap_esCons, ap_tup, ap_lst, tupK, lstK, ap_and, ap_or, andK_t, andK_f, andK_b, orK_t, orK_f, orK_b, ap_call, ap_mP, ap_mE, ap_iSeq, ap_iSeqA, kOfL, kOfT, kOfD, ap_dnil, ap_iR1, ap_iR2, r1_eq, r2_eq, ap_tgo1, ap_tgoM, setAll0, setAllC, eComp_eq, ap_turnT, ap_turnO, tuK_t, tuK_f, tuK_b, ap_seq, seqK_nx, seqK_rt, seqK_ct, seqK_bk, seqK_no, seqK_if, ap_nil, ap_cnt, ap_brk, ap_set, ap_own, ownK_l, ownK_d, ap_ret, ap_if, ifK_t, ifK_f, ifK_b, ap_for, forL_nil, forL_cons, forK_nx, forK_ct, forK_bk, forK_rt, forK_if, ap_par, run_eq, runK_rt, runK_nx, runK_if, v_add, v_sub, v_neg, v_mod, v_div, v_mulR, v_mulL, v_mulB, v_addT, v_addL, v_catL, v_lt, v_le, v_gt, v_ge, v_eqI, v_neI, v_eqS, v_neS, v_lenT, v_lenL, v_intB, v_intI, v_not, v_min, v_max, v_abs, v_tupL, v_tupT, v_ixT, v_ixL, ix0, ix1, ix2, ix3, seqT, seqL, v_sumT, v_sumL, v_any, v_all, v_inT, v_inL, v_ninT, v_ninL, v_countT, mapMO_all, mapMO_some, mapMO_map, mapMO_range, v_sortedL, v_sortedT, v_cT, v_cTl, v_cTh, v_cL, v_cLl, v_cLh, v_eqNil, v_neNil, ix4, sel4_int, v_repT, v_isiI, v_isiS, v_isiB, v_isiN, ib_int, eq_dec, rl1, rl2, rl3, rl4, Bool.not_true, Bool.not_false, List.length_map, cutL_map, mkF, List.length_cons, List.length_nil, List.map_cons, List.map_nil, List.append_eq, List.cons_append, List.nil_append, List.getElem?_cons_zero, List.getElem?_cons_succ, List.set_cons_zero, List.set_cons_succ, Option.bind_some, Option.map_some, Option.bind_none, Option.map_none, Nat.zero_add, Nat.reduceAdd, Nat.reduceSub, Nat.reduceLeDiff, Nat.reduceLT, Nat.reduceEqDiff, Nat.reduceMul, LIM_eq, List.replicate_succ, List.replicate_zero, if_true, if_false, Bool.false_eq_true, Bool.true_eq_false, decide_true, decide_false, okS, noOwn, covers, tgIs, wipeO, List.all_cons, List.all_nil, List.any_cons, List.any_nil, Bool.and_true, Bool.true_and, Bool.and_self, Bool.or_false, Bool.false_or, Bool.or_true, beq_self_nat, kd, Int.reduceLT, Int.reduceLE, Int.reduceNeg, Int.reduceAdd, Int.reduceToNat, Int.reduceMul, Int.reduceSub, and_true, true_and, and_self, ite_true, ite_false, ↓reduceIte, nbeq, eq_self, ap_ext, ap_app, ap_put, lstK1_l, lstL_l, dicL_d, listK_l, m1, m3, p]
def SmF : Rat → List Rat → Prop
  | a, [] => Sml a
  | a, x :: r => Sml a ∧ Sml x ∧ SmF (a + x) r
theorem total_loop (S : O) : ∀ (l : List Rat) (a : Rat) (e : O), SmF a l → ∃ e', forLoop (.one 3) (sSeq (sSet (.one 1) (o2 sAddA (kE (o2 sMulA (kP 1) (kE (o2 sIxA (kP 3) (kE (eC (.int 1))))))) (kE (o2 sMulA (kE (o2 sIxA (kP 3) (kE (eC (.int 0))))) (kP 2)))))
  (sSeq (sSet (.one 2) (o2 sMulA (kP 2) (kE (o2 sIxA (kP 3) (kE (eC (.int 1)))))))
  (sSet (.many [1, 2]) (eCall f_plain (esCons (eV 1) (esCons (eV 2) esNil)))))) (l.map frR) [S, .val (.int a.num), .val (.int a.den), e] = some (.nx, [S, .val (.int (l.foldl (· + ·) a).num), .val (.int (l.foldl (· + ·) a).den), e'])
  | [], a, e, _ => ⟨e, rfl⟩
  | x :: l, a, e, h => by
    obtain ⟨ha, hx, h⟩ := h
    obtain ⟨e', ih⟩ := total_loop S l (a + x) (.val (frR x)) h
    have p := f_plainV (a.num * x.den + x.num * a.den) (a.den * x.den) (Nat.mul_pos Sml.d0 Sml.d0) (lt_upP (ha.dd hx) (by decide))
    rw [← Rat.add_def'] at p
    have m1 := v_mulG a.num x.den ha.n8 hx.d8
    have m2 := v_mulG x.num a.den hx.n8 ha.d8
    have m3 := v_mulG a.den x.den ha.d8 hx.d8
    rw [nat_mulI] at m3
    refine ⟨e', ?_⟩
    rw [List.map_cons, forL_cons, List.foldl_cons, ← ih]
    simp only [ap_c, ap_t, ap_v, vK_val, vK_lst, vK_dic, ap_peek, pkK_val, pkK_lst, pkK_dic, ap_o1E, ap_o1P, ap_o2EE, ap_o2EP, ap_o2PE, ap_o2PP, ap_o3E, ap_o3P, ap_esNil, ap_esCons, ap_tup, ap_lst, tupK, lstK, ap_and, ap_or, andK_t, andK_f, andK_b, orK_t, orK_f, orK_b, ap_call, ap_mP, ap_mE, ap_iSeq, ap_iSeqA, kOfL, kOfT, kOfD, ap_dnil, ap_iR1, ap_iR2, r1_eq, r2_eq, ap_tgo1, ap_tgoM, setAll0, setAllC, eComp_eq, ap_turnT, ap_turnO, tuK_t, tuK_f, tuK_b, ap_seq, seqK_nx, seqK_rt, seqK_ct, seqK_bk, seqK_no, seqK_if, ap_nil, ap_cnt, ap_brk, ap_set, ap_own, ownK_l, ownK_d, ap_ret, ap_if, ifK_t, ifK_f, ifK_b, ap_for, forL_nil, forL_cons, forK_nx, forK_ct, forK_bk, forK_rt, forK_if, ap_par, run_eq, runK_rt, runK_nx, runK_if, v_add, v_sub, v_neg, v_mod, v_div, v_mulR, v_mulL, v_mulB, v_addT, v_addL, v_catL, v_lt, v_le, v_gt, v_ge, v_eqI, v_neI, v_eqS, v_neS, v_lenT, v_lenL, v_intB, v_intI, v_not, v_min, v_max, v_abs, v_tupL, v_tupT, v_ixT, v_ixL, ix0, ix1, ix2, ix3, seqT, seqL, v_sumT, v_sumL, v_any, v_all, v_inT, v_inL, v_ninT, v_ninL, v_countT, mapMO_all, mapMO_some, mapMO_map, mapMO_range, v_sortedL, v_sortedT, v_cT, v_cTl, v_cTh, v_cL, v_cLl, v_cLh, v_eqNil, v_neNil, ix4, sel4_int, v_repT, v_isiI, v_isiS, v_isiB, v_isiN, ib_int, eq_dec, rl1, rl2, rl3, rl4, Bool.not_true, Bool.not_false, List.length_map, cutL_map, mkF, List.length_cons, List.length_nil, List.map_cons, List.map_nil, List.append_eq, List.cons_append, List.nil_append, List.getElem?_cons_zero, List.getElem?_cons_succ, List.set_cons_zero, List.set_cons_succ, Option.bind_some, Option.map_some, Option.bind_none, Option.map_none, Nat.zero_add, Nat.reduceAdd, Nat.reduceSub, Nat.reduceLeDiff, Nat.reduceLT, Nat.reduceEqDiff, Nat.reduceMul, LIM_eq, List.replicate_succ, List.replicate_zero, if_true, if_false, Bool.false_eq_true, Bool.true_eq_false, decide_true, decide_false, okS, noOwn, covers, tgIs, wipeO, List.all_cons, List.all_nil, List.any_cons, List.any_nil, Bool.and_true, Bool.true_and, Bool.and_self, Bool.or_false, Bool.false_or, Bool.or_true, beq_self_nat, kd, Int.reduceLT, Int.reduceLE, Int.reduceNeg, Int.reduceAdd, Int.reduceToNat, Int.reduceMul, Int.reduceSub, and_true, true_and, and_self, ite_true, ite_false, ↓reduceIte, nbeq, eq_self, ap_ext, ap_app, ap_put, lstK1_l, lstL_l, dicL_d, listK_l, m1, m2, m3, p]
theorem f_totalR (l : List Rat) (h : SmF 0 l) : f_total [.list (l.map frR)] = some (frR (l.foldl (· + ·) 0)) := by
  obtain ⟨e, k⟩ := total_loop (.val (.list (l.map frR))) l 0 .un h
  have e1 : ((0 : Rat).num) = 0 := rfl
  have e2 : (((0 : Rat).den : Nat) : Int) = 1 := rfl
  rw [e1, e2] at k
  simp only [f_total, m_total, m_total_t0, m_total_t1, m_total_t2, m_total_t3, m_total_s0, m_total_s1, m_total_s2, ap_c, ap_t, ap_v, vK_val, vK_lst, vK_dic, ap_peek, pkK_val, pkK_lst, pkK_dic, ap_o1E, ap_o1P, ap_o2EE, ap_o2EP, ap_o2PE, ap_o2PP, ap_o3E, ap_o3P, ap_esNil, ap_esCons, ap_tup, ap_lst, tupK, lstK, ap_and, ap_or, andK_t, andK_f, andK_b, orK_t, orK_f, orK_b, ap_call, ap_mP, ap_mE, ap_iSeq, ap_iSeqA, kOfL, kOfT, kOfD, ap_dnil, ap_iR1, ap_iR2, r1_eq, r2_eq, ap_tgo1, ap_tgoM, setAll0, setAllC, eComp_eq, ap_turnT, ap_turnO, tuK_t, tuK_f, tuK_b, ap_seq, seqK_nx, seqK_rt, seqK_ct, seqK_bk, seqK_no, seqK_if, ap_nil, ap_cnt, ap_brk, ap_set, ap_own, ownK_l, ownK_d, ap_ret, ap_if, ifK_t, ifK_f, ifK_b, ap_for, forL_nil, forL_cons, forK_nx, forK_ct, forK_bk, forK_rt, forK_if, ap_par, run_eq, runK_rt, runK_nx, runK_if, v_add, v_sub, v_neg, v_mod, v_div, v_mulR, v_mulL, v_mulB, v_addT, v_addL, v_catL, v_lt, v_le, v_gt, v_ge, v_eqI, v_neI, v_eqS, v_neS, v_lenT, v_lenL, v_intB, v_intI, v_not, v_min, v_max, v_abs, v_tupL, v_tupT, v_ixT, v_ixL, ix0, ix1, ix2, ix3, seqT, seqL, v_sumT, v_sumL, v_any, v_all, v_inT, v_inL, v_ninT, v_ninL, v_countT, mapMO_all, mapMO_some, mapMO_map, mapMO_range, v_sortedL, v_sortedT, v_cT, v_cTl, v_cTh, v_cL, v_cLl, v_cLh, v_eqNil, v_neNil, ix4, sel4_int, v_repT, v_isiI, v_isiS, v_isiB, v_isiN, ib_int, eq_dec, rl1, rl2, rl3, rl4, Bool.not_true, Bool.not_false, List.length_map, cutL_map, mkF, List.length_cons, List.length_nil, List.map_cons, List.map_nil, List.append_eq, List.cons_append, List.nil_append, List.getElem?_cons_zero, List.getElem?_cons_succ, List.set_cons_zero, List.set_cons_succ, Option.bind_some, Option.map_some, Option.bind_none, Option.map_none, Nat.zero_add, Nat.reduceAdd, Nat.reduceSub, Nat.reduceLeDiff, Nat.reduceLT, Nat.reduceEqDiff, Nat.reduceMul, LIM_eq, List.replicate_succ, List.replicate_zero, if_true, if_false, Bool.false_eq_true, Bool.true_eq_false, decide_true, decide_false, okS, noOwn, covers, tgIs, wipeO, List.all_cons, List.all_nil, List.any_cons, List.any_nil, Bool.and_true, Bool.true_and, Bool.and_self, Bool.or_false, Bool.false_or, Bool.or_true, beq_self_nat, kd, Int.reduceLT, Int.reduceLE, Int.reduceNeg, Int.reduceAdd, Int.reduceToNat, Int.reduceMul, Int.reduceSub, and_true, true_and, and_self, ite_true, ite_false, ↓reduceIte, nbeq, eq_self, ap_ext, ap_app, ap_put, lstK1_l, lstL_l, dicL_d, listK_l, k]
theorem foldl_sum (l : List Rat) : ∀ a : Rat, l.foldl (· + ·) a = a + l.sum := by
  induction l with
  | nil => intro a; simp [Rat.add_zero]
  | cons x l ih => intro a; rw [List.foldl_cons, ih, List.sum_cons, Rat.add_assoc]
def SmG : Rat → List (Rat × Rat) → Prop
  | a, [] => Sml a
  | a, x :: r => Sml a ∧ Sml x.1 ∧ Sml x.2 ∧ SmG (a + x.1 * x.2) r
abbrev prD (p : Rat × Rat) : D := .tuple [frR p.1, frR p.2]
theorem add_mul3 (a x y : Rat) : mkRat (a.num * x.den * y.den + x.num * y.num * a.den) (a.den * x.den * y.den) = a + x * y := by
  have e : mkRat (x.num * y.num) (x.den * y.den) = x * y := (Rat.mul_def' x y).symm
  rw [← e]
  conv => rhs; rw [← Rat.mkRat_self a]
  rw [Rat.mkRat_add_mkRat _ _ a.den_nz (Nat.mul_ne_zero x.den_nz y.den_nz)]
  rw [Nat.mul_assoc, Int.natCast_mul, Int.mul_assoc]

theorem f_lessR (a b : Rat) (ha : Sml a) (hb : Sml b) : f_is_less [frR a, frR b] = some (.bool (decide (a < b))) := by
  have m1 := v_mulG a.num b.den ha.n8 hb.d8
  have m2 := v_mulG b.num a.den hb.n8 ha.d8
  have e : decide (a < b) = decide (a.num * (b.den : Int) < b.num * (a.den : Int)) := decide_eq_decide.mpr (Rat.lt_iff a b)
  rw [e]
  simp only [f_is_less, m_is_less, ap_c, ap_t, ap_v, vK_val, vK_lst, vK_dic, ap_peek, pkK_val, pkK_lst, pkK_dic, ap_o1E, ap_o1P, ap_o2EE, ap_o2EP, ap_o2PE, ap_o2PP, ap_o3E, ap_o3P, ap_esNil, ap_esCons, ap_tup, ap_lst, tupK, lstK, ap_and, ap_or, andK_t, andK_f, andK_b, orK_t, orK_f, orK_b, ap_call, ap_mP, ap_mE, ap_iSeq, ap_iSeqA, kOfL, kOfT, kOfD, ap_dnil, ap_iR1, ap_iR2, r1_eq, r2_eq, ap_tgo1, ap_tgoM, setAll0, setAllC, eComp_eq, ap_turnT, ap_turnO, tuK_t, tuK_f, tuK_b, ap_seq, seqK_nx, seqK_rt, seqK_ct, seqK_bk, seqK_no, seqK_if, ap_nil, ap_cnt, ap_brk, ap_set, ap_own, ownK_l, ownK_d, ap_ret, ap_if, ifK_t, ifK_f, ifK_b, ap_for, forL_nil, forL_cons, forK_nx, forK_ct, forK_bk, forK_rt, forK_if, ap_par, run_eq, runK_rt, runK_nx, runK_if, v_add, v_sub, v_neg, v_mod, v_div, v_mulR, v_mulL, v_mulB, v_addT, v_addL, v_catL, v_lt, v_le, v_gt, v_ge, v_eqI, v_neI, v_eqS, v_neS, v_lenT, v_lenL, v_intB, v_intI, v_not, v_min, v_max, v_abs, v_tupL, v_tupT, v_ixT, v_ixL, ix0, ix1, ix2, ix3, seqT, seqL, v_sumT, v_sumL, v_any, v_all, v_inT, v_inL, v_ninT, v_ninL, v_countT, mapMO_all, mapMO_some, mapMO_map, mapMO_range, v_sortedL, v_sortedT, v_cT, v_cTl, v_cTh, v_cL, v_cLl, v_cLh, v_eqNil, v_neNil, ix4, sel4_int, v_repT, v_isiI, v_isiS, v_isiB, v_isiN, ib_int, eq_dec, rl1, rl2, rl3, rl4, Bool.not_true, Bool.not_false, List.length_map, cutL_map, mkF, List.length_cons, List.length_nil, List.map_cons, List.map_nil, List.append_eq, List.cons_append, List.nil_append, List.getElem?_cons_zero, List.getElem?_cons_succ, List.set_cons_zero, List.set_cons_succ, Option.bind_some, Option.map_some, Option.bind_none, Option.map_none, Nat.zero_add, Nat.reduceAdd, Nat.reduceSub, Nat.reduceLeDiff, Nat.reduceLT, Nat.reduceEqDiff, Nat.reduceMul, LIM_eq, List.replicate_succ, List.replicate_zero, if_true, if_false, Bool.false_eq_true, Bool.true_eq_false, decide_true, decide_false, okS, noOwn, covers, tgIs, wipeO, List.all_cons, List.all_nil, List.any_cons, List.any_nil, Bool.and_true, Bool.true_and, Bool.and_self, Bool.or_false, Bool.false_or, Bool.or_true, beq_self_nat, kd, Int.reduceLT, Int.reduceLE, Int.reduceNeg, Int.reduceAdd, Int.reduceToNat, Int.reduceMul, Int.reduceSub, and_true, true_and, and_self, ite_true, ite_false, ↓reduceIte, nbeq, eq_self, ap_ext, ap_app, ap_put, lstK1_l, lstL_l, dicL_d, listK_l, m1, m2]

/-! what stands are worth -/
def shR (q : St × Int × Int) : Rat := mkRat q.2.1 q.2.2.toNat
def okSh (p : Int × Int) : Bool := decide (0 < p.2) && (decide (Nat.gcd p.1.natAbs p.2.toNat = 1) && (decide (432 % p.2.toNat = 0) && (decide (0 ≤ p.1) && decide (p.1 ≤ p.2))))
theorem sh120 : ((DL 0 2 1).all fun x => (aft 1 2 x).all fun p => okSh p.2) = true := by decide +kernel
theorem sh121 : ((DL 1 2 1).all fun x => (aft 1 2 x).all fun p => okSh p.2) = true := by decide +kernel
theorem sh130 : ((DL 0 3 1).all fun x => (aft 1 3 x).all fun p => okSh p.2) = true := by decide +kernel
theorem sh131 : ((DL 1 3 1).all fun x => (aft 1 3 x).all fun p => okSh p.2) = true := by decide +kernel
theorem sh140 : ((DL 0 4 1).all fun x => (aft 1 4 x).all fun p => okSh p.2) = true := by decide +kernel
theorem sh141 : ((DL 1 4 1).all fun x => (aft 1 4 x).all fun p => okSh p.2) = true := by decide +kernel
theorem sh220 : ((DL 0 2 1).all fun x => (aft 2 2 x).all fun p => okSh p.2) = true := by decide +kernel
theorem sh221 : ((DL 1 2 1).all fun x => (aft 2 2 x).all fun p => okSh p.2) = true := by decide +kernel
theorem sh222 : ((DL 2 2 1).all fun x => (aft 2 2 x).all fun p => okSh p.2) = true := by decide +kernel
theorem sh230 : ((DL 0 3 1).all fun x => (aft 2 3 x).all fun p => okSh p.2) = true := by decide +kernel
theorem sh231 : ((DL 1 3 1).all fun x => (aft 2 3 x).all fun p => okSh p.2) = true := by decide +kernel
theorem sh232 : ((DL 2 3 1).all fun x => (aft 2 3 x).all fun p => okSh p.2) = true := by decide +kernel
theorem sh240 : ((DL 0 4 1).all fun x => (aft 2 4 x).all fun p => okSh p.2) = true := by decide +kernel
theorem sh241 : ((DL 1 4 1).all fun x => (aft 2 4 x).all fun p => okSh p.2) = true := by decide +kernel
theorem sh242 : ((DL 2 4 1).all fun x => (aft 2 4 x).all fun p => okSh p.2) = true := by decide +kernel
theorem sh320 : ((DL 0 2 1).all fun x => (aft 3 2 x).all fun p => okSh p.2) = true := by decide +kernel
theorem sh321 : ((DL 1 2 1).all fun x => (aft 3 2 x).all fun p => okSh p.2) = true := by decide +kernel
theorem sh322 : ((DL 2 2 1).all fun x => (aft 3 2 x).all fun p => okSh p.2) = true := by decide +kernel
theorem sh323 : ((DL 3 2 1).all fun x => (aft 3 2 x).all fun p => okSh p.2) = true := by decide +kernel
theorem sh330 : ((DL 0 3 1).all fun x => (aft 3 3 x).all fun p => okSh p.2) = true := by decide +kernel
theorem sh331 : ((DL 1 3 1).all fun x => (aft 3 3 x).all fun p => okSh p.2) = true := by decide +kernel
theorem sh332 : ((DL 2 3 1).all fun x => (aft 3 3 x).all fun p => okSh p.2) = true := by decide +kernel
theorem sh333 : ((DL 3 3 1).all fun x => (aft 3 3 x).all fun p => okSh p.2) = true := by decide +kernel
theorem all2 {α β : Type} {L : List α} {f : α → List β} {b : β → Bool} (h : (L.all fun x => (f x).all b) = true) {x : α} (hx : x ∈ L) {p : β} (hp : p ∈ f x) : b p = true := List.all_eq_true.mp (List.all_eq_true.mp h x hx) p hp
theorem sh_all (m s : Nat) (h : MS m s) (x : List Int) (hx : x ∈ DL x.length s 1) (h2 : x.length ≤ m) : ∀ p ∈ aft m s x, okSh p.2 = true := by
  intro p hp
  rcases h with ⟨rfl, rfl⟩ | ⟨rfl, rfl⟩ | ⟨rfl, rfl⟩ | ⟨rfl, rfl⟩ | ⟨rfl, rfl⟩ | ⟨rfl, rfl⟩ | ⟨rfl, rfl⟩ | ⟨rfl, rfl⟩
  · have h3 : x.length = 0 ∨ x.length = 1 := by omega
    rcases h3 with e | e
    · rw [e] at hx; exact all2 sh120 hx hp
    · rw [e] at hx; exact all2 sh121 hx hp
  · have h3 : x.length = 0 ∨ x.length = 1 := by omega
    rcases h3 with e | e
    · rw [e] at hx; exact all2 sh130 hx hp
    · rw [e] at hx; exact all2 sh131 hx hp
  · have h3 : x.length = 0 ∨ x.length = 1 := by omega
    rcases h3 with e | e
    · rw [e] at hx; exact all2 sh140 hx hp
    · rw [e] at hx; exact all2 sh141 hx hp
  · have h3 : x.length = 0 ∨ x.length = 1 ∨ x.length = 2 := by omega
    rcases h3 with e | e | e
    · rw [e] at hx; exact all2 sh220 hx hp
    · rw [e] at hx; exact all2 sh221 hx hp
    · rw [e] at hx; exact all2 sh222 hx hp
  · have h3 : x.length = 0 ∨ x.length = 1 ∨ x.length = 2 := by omega
    rcases h3 with e | e | e
    · rw [e] at hx; exact all2 sh230 hx hp
    · rw [e] at hx; exact all2 sh231 hx hp
    · rw [e] at hx; exact all2 sh232 hx hp
  · have h3 : x.length = 0 ∨ x.length = 1 ∨ x.length = 2 := by omega
    rcases h3 with e | e | e
    · rw [e] at hx; exact all2 sh240 hx hp
    · rw [e] at hx; exact all2 sh241 hx hp
    · rw [e] at hx; exact all2 sh242 hx hp
  · have h3 : x.length = 0 ∨ x.length = 1 ∨ x.length = 2 ∨ x.length = 3 := by omega
    rcases h3 with e | e | e | e
    · rw [e] at hx; exact all2 sh320 hx hp
    · rw [e] at hx; exact all2 sh321 hx hp
    · rw [e] at hx; exact all2 sh322 hx hp
    · rw [e] at hx; exact all2 sh323 hx hp
  · have h3 : x.length = 0 ∨ x.length = 1 ∨ x.length = 2 ∨ x.length = 3 := by omega
    rcases h3 with e | e | e | e
    · rw [e] at hx; exact all2 sh330 hx hp
    · rw [e] at hx; exact all2 sh331 hx hp
    · rw [e] at hx; exact all2 sh332 hx hp
    · rw [e] at hx; exact all2 sh333 hx hp

theorem aft_ds {m s : Nat} {x : List Int} {p : List Int × Int × Int} (h : p ∈ aft m s x) : p.1 ∈ DL m s 1 := by
  unfold aft at h
  obtain ⟨y, hy, e⟩ := List.mem_filterMap.mp h
  split at e
  · cases e; exact hy
  · cases e
theorem aft_len {m s : Nat} (h : MS m s) (x : List Int) : (aft m s x).length ≤ 20 := by
  unfold aft
  refine Nat.le_trans (List.length_filterMap_le ..) ?_
  rcases h with ⟨rfl, rfl⟩ | ⟨rfl, rfl⟩ | ⟨rfl, rfl⟩ | ⟨rfl, rfl⟩ | ⟨rfl, rfl⟩ | ⟨rfl, rfl⟩ | ⟨rfl, rfl⟩ | ⟨rfl, rfl⟩ <;> decide +kernel
theorem okSh_fr {u l : Int} (h : okSh (u, l) = true) : frD u l = frR (mkRat u l.toNat) ∧ 0 ≤ mkRat u l.toNat ∧ mkRat u l.toNat ≤ 1 ∧ ∃ z : Int, mkRat u l.toNat = mkRat z 432 := by
  unfold okSh at h
  simp only [Bool.and_eq_true, decide_eq_true_eq] at h
  obtain ⟨h1, h2, h3, h4, h5⟩ := h
  obtain ⟨n, rfl⟩ := Int.eq_ofNat_of_zero_le (show 0 ≤ l by omega)
  rw [Int.toNat_natCast] at *
  have hn : n ≠ 0 := by omega
  have en : (mkRat u n).num = u := by rw [Rat.num_mkRat, if_neg hn, Nat.gcd_comm, h2]; simp
  have ed : (mkRat u n).den = n := by rw [Rat.den_mkRat, if_neg hn, Nat.gcd_comm, h2]; simp
  refine ⟨by unfold frR; rw [en, ed], Rat.num_nonneg.mp (by rw [en]; exact h4), ?_, ?_⟩
  · rw [Rat.le_iff, en, ed]
    simpa using h5
  · have e : 432 = n * (432 / n) := by
      have := Nat.div_add_mod 432 n
      omega
    refine ⟨u * ((432 / n : Nat) : Int), ?_⟩
    rw [e, Nat.mul_div_cancel_left _ (by omega), Rat.mkRat_mul_right]
    intro z
    rw [z] at e
    omega
/-- what comes: proper stands, of a lesser rank, with proper shares -/
def rk (g : Gd) (x : St) : Nat := x.bs.length * g.t + x.lf.toNat
structure NxOk (g : Gd) (x : St) (q : St × Int × Int) : Prop where
  ok : StOk g q.1
  rk : rk g q.1 < rk g x
  sh : okSh q.2 = true
theorem nil_in (m s : Nat) : ([] : List Int) ∈ DL ([] : List Int).length s 1 := List.mem_singleton.mpr rfl
theorem next_ok {g : Gd} (hg : GdOk g) {x : St} (hx : StOk g x) {m : Mv} (h : m ∈ movsV x) : ∀ q ∈ (comsV g x m).2, NxOk g x q := by
  intro q hq
  unfold movsV at h
  rcases List.mem_append.mp h with h | h
  · obtain ⟨k, hk, rfl⟩ := List.mem_map.mp h
    have hq : q ∈ begV g (x.bs.filter fun j => !decide (j = k)) := hq
    unfold begV at hq
    split at hq
    · cases hq
    · rename_i hne
      obtain ⟨p, hp, rfl⟩ := List.mem_map.mp hq
      have sub := List.filter_sublist (l := x.bs) (p := fun j => !decide (j = k))
      have hlen : (x.bs.filter fun j => !decide (j = k)).length < x.bs.length := by
        rw [List.length_filter_lt_length_iff_exists]
        exact ⟨k, hk, by simp⟩
      have ht := hg.t1
      refine ⟨⟨fun e => hne (by show (x.bs.filter fun j => !decide (j = k)).isEmpty = true; rw [show (x.bs.filter fun j => !decide (j = k)) = [] from e]; rfl), hx.up.sublist sub, fun j hj => hx.bd j (sub.subset hj), ?_, ?_, aft_ds hp⟩, ?_, sh_all g.m g.s hg.ms [] (nil_in g.m g.s) (Nat.zero_le _) p hp⟩
      · show (0 : Int) ≤ (g.t : Int) - 1
        omega
      · show (g.t : Int) - 1 < (g.t : Int)
        omega
      · show (x.bs.filter fun j => !decide (j = k)).length * g.t + ((g.t : Int) - 1).toNat < x.bs.length * g.t + x.lf.toNat
        have e1 : ((x.bs.filter fun j => !decide (j = k)).length + 1) * g.t ≤ x.bs.length * g.t := Nat.mul_le_mul_right _ hlen
        have e2 : ((x.bs.filter fun j => !decide (j = k)).length + 1) * g.t = (x.bs.filter fun j => !decide (j = k)).length * g.t + g.t := by rw [Nat.add_mul, Nat.one_mul]
        have e3 : ((g.t : Int) - 1).toNat = g.t - 1 := by omega
        omega
  · split at h
    · rename_i hl
      obtain ⟨y, hy, rfl⟩ := List.mem_map.mp h
      obtain ⟨k1, k2⟩ := kd_all g.m g.s hg.ms x.ds hx.ds y hy
      have hq : q ∈ (aft g.m g.s y).map fun p => ((⟨x.bs, x.lf - 1, p.1⟩ : St), p.2) := hq
      obtain ⟨p, hp, rfl⟩ := List.mem_map.mp hq
      have h0 := hx.l0
      have h1 := hx.lt
      refine ⟨⟨hx.ne, hx.up, hx.bd, ?_, ?_, aft_ds hp⟩, ?_, sh_all g.m g.s hg.ms y k2 k1 p hp⟩
      · show (0 : Int) ≤ x.lf - 1
        omega
      · show x.lf - 1 < (g.t : Int)
        omega
      · show x.bs.length * g.t + (x.lf - 1).toNat < x.bs.length * g.t + x.lf.toNat
        omega
    · cases h
theorem begV_ok {g : Gd} (hg : GdOk g) {bs : List Int} (hu : bs.Pairwise (· < ·)) (hb : ∀ k ∈ bs, 0 ≤ k ∧ k < (g.B.length : Int)) : ∀ q ∈ begV g bs, StOk g q.1 ∧ okSh q.2 = true := by
  intro q hq
  unfold begV at hq
  split at hq
  · cases hq
  · rename_i hne
    obtain ⟨p, hp, rfl⟩ := List.mem_map.mp hq
    have ht := hg.t1
    refine ⟨⟨fun e => hne (by rw [show bs = [] from e]; rfl), hu, hb, ?_, ?_, aft_ds hp⟩, sh_all g.m g.s hg.ms [] (nil_in g.m g.s) (Nat.zero_le _) p hp⟩
    · show (0 : Int) ≤ (g.t : Int) - 1
      omega
    · show (g.t : Int) - 1 < (g.t : Int)
      omega
theorem begV_len {g : Gd} (hg : GdOk g) (bs : List Int) : (begV g bs).length ≤ 20 := by
  unfold begV
  split
  · simp
  · rw [List.length_map]; exact aft_len hg.ms _
theorem coms_len {g : Gd} (hg : GdOk g) (x : St) (m : Mv) : (comsV g x m).2.length ≤ 20 := by
  cases m with
  | fill k => exact begV_len hg _
  | keep y =>
    show ((aft g.m g.s y).map _).length ≤ 20
    rw [List.length_map]
    exact aft_len hg.ms _
def valV (g : Gd) (w : St → Rat) (x : St) (m : Mv) : Rat := (((comsV g x m).1 : Int) : Rat) + ((comsV g x m).2.map fun q => shR q * w q.1).sum
def bstep (acc : Option (Rat × Mv)) (p : Rat × Mv) : Option (Rat × Mv) := match acc with
  | none => some p
  | some q => if q.1 < p.1 then some p else some q
def bst (l : List (Rat × Mv)) : Option (Rat × Mv) := l.foldl bstep none
def Wf (g : Gd) : Nat → St → Rat × Mv
  | 0, _ => (0, .fill 0)
  | n + 1, x => (bst ((movsV x).map fun m => (valV g (fun y => (Wf g n y).1) x m, m))).getD (0, .fill 0)
def Wb (g : Gd) (x : St) : Rat × Mv := Wf g (rk g x + 1) x
abbrev Wg (g : Gd) (x : St) : Rat := (Wb g x).1
theorem valV_congr {g : Gd} {x : St} {m : Mv} {w w' : St → Rat} (h : ∀ q ∈ (comsV g x m).2, w q.1 = w' q.1) : valV g w x m = valV g w' x m := by
  unfold valV
  rw [List.map_congr_left fun q hq => by rw [h q hq]]
theorem bst_congr {g : Gd} {x : St} {w w' : St → Rat} (h : ∀ m ∈ movsV x, ∀ q ∈ (comsV g x m).2, w q.1 = w' q.1) : (bst ((movsV x).map fun m => (valV g w x m, m))).getD (0, Mv.fill 0) = (bst ((movsV x).map fun m => (valV g w' x m, m))).getD (0, Mv.fill 0) := by
  have e : ((movsV x).map fun m => (valV g w x m, m)) = (movsV x).map fun m => (valV g w' x m, m) := List.map_congr_left fun m hm => by rw [valV_congr (h m hm)]
  rw [e]
theorem Wf_stable {g : Gd} (hg : GdOk g) : ∀ (r : Nat) (x : St), StOk g x → rk g x ≤ r → ∀ n, rk g x < n → Wf g n x = Wb g x := by
  intro r
  induction r with
  | zero =>
    intro x hx hr n hn
    cases n with
    | zero => omega
    | succ n =>
      unfold Wb
      exact bst_congr fun m hm q hq => by have := (next_ok hg hx hm q hq).rk; omega
  | succ r ih =>
    intro x hx hr n hn
    cases n with
    | zero => omega
    | succ n =>
      unfold Wb
      refine bst_congr fun m hm q hq => ?_
      have k := next_ok hg hx hm q hq
      have k2 := k.rk
      have e1 := ih q.1 k.ok (by omega) n (by omega)
      have e2 := ih q.1 k.ok (by omega) (rk g x) (by omega)
      show (Wf g n q.1).1 = (Wf g (rk g x) q.1).1
      rw [e1, e2]
theorem Wb_eq {g : Gd} (hg : GdOk g) {x : St} (hx : StOk g x) : Wb g x = (bst ((movsV x).map fun m => (valV g (Wg g) x m, m))).getD (0, .fill 0) := by
  conv => lhs; unfold Wb
  refine bst_congr fun m hm q hq => ?_
  have k := next_ok hg hx hm q hq
  have e1 := Wf_stable hg (rk g q.1) q.1 k.ok (Nat.le_refl _) _ k.rk
  show (Wf g (rk g x) q.1).1 = _
  rw [e1]

theorem f_com (g : Gd) (hg : GdOk g) (x : St) (hx : StOk g x) (m : Mv) (h : m ∈ movsV x) : f_comes [g.d, x.d, m.d] = some (.tuple [.int (comsV g x m).1, .tuple ((comsV g x m).2.map stD)]) := by
  rcases mv_in h with ⟨k, rfl, hk⟩ | ⟨y, rfl, hy⟩
  · exact f_comF g hg x hx k hk
  · exact f_comK g hg x hx y hy
/-! how great the numbers become -/
structure Szz (N M : Nat) (r : Rat) : Prop where
  z : ∃ z : Int, r = mkRat z N
  lo : -(M : Rat) ≤ r
  hi : r ≤ (M : Rat)
theorem Szz.sml {N M : Nat} {r : Rat} (h : Szz N M r) (hN : N < 2 ^ 1000) (hM : M < 2 ^ 900) (h0 : N ≠ 0) : Sml r := by
  obtain ⟨⟨z, e⟩, lo, hi⟩ := h
  have hd : r.den ≤ N := by
    rw [e, Rat.den_mkRat, if_neg h0]
    exact Nat.div_le_self _ _
  have h1 : r.num ≤ (M : Int) * (r.den : Int) := by
    have := (Rat.le_iff _ _).mp hi
    simpa using this
  have h2 : -((M : Int) * (r.den : Int)) ≤ r.num := by
    have := (Rat.le_iff _ _).mp lo
    simp only [Rat.neg_num, Rat.neg_den, Rat.num_natCast, Rat.den_natCast] at this
    have e1 : -(M : Int) * (r.den : Int) = -((M : Int) * (r.den : Int)) := by rw [Int.neg_mul]
    rw [e1] at this
    simpa using this
  have h3 : r.num.natAbs ≤ M * r.den := by
    have e1 : (M : Int) * (r.den : Int) = ((M * r.den : Nat) : Int) := (Int.natCast_mul _ _).symm
    rw [e1] at h1 h2
    omega
  have h4 : M * r.den < 2 ^ (900 + 1000) := lt_mulP hM (Nat.lt_of_le_of_lt hd hN)
  exact ⟨Nat.lt_of_le_of_lt h3 (lt_upP h4 (by decide)), lt_upP (Nat.lt_of_le_of_lt hd hN) (by decide)⟩
theorem Szz.add {N M M' : Nat} {a b : Rat} (ha : Szz N M a) (hb : Szz N M' b) (h0 : N ≠ 0) : Szz N (M + M') (a + b) := by
  obtain ⟨⟨z, e⟩, lo, hi⟩ := ha
  obtain ⟨⟨z', e'⟩, lo', hi'⟩ := hb
  refine ⟨⟨z + z', ?_⟩, ?_, ?_⟩
  · rw [e, e', Rat.mkRat_add_mkRat _ _ h0 h0]
    have e2 : z * (N : Int) + z' * (N : Int) = (z + z') * (N : Int) := by rw [Int.add_mul]
    rw [e2, Rat.mkRat_mul_right h0]
  · rw [Rat.natCast_add]
    grind
  · rw [Rat.natCast_add]
    grind
theorem Szz.mul {N N' M : Nat} {a b : Rat} (ha : ∃ z : Int, a = mkRat z N) (a0 : 0 ≤ a) (a1 : a ≤ 1) (hb : Szz N' M b) : Szz (N * N') M (a * b) := by
  obtain ⟨z, e⟩ := ha
  obtain ⟨⟨z', e'⟩, lo, hi⟩ := hb
  have hM : (0 : Rat) ≤ (M : Rat) := Rat.natCast_nonneg
  have k1 := Rat.mul_le_mul_of_nonneg_left hi a0
  have k2 := Rat.mul_le_mul_of_nonneg_left lo a0
  have k3 := Rat.mul_le_mul_of_nonneg_right a1 hM
  refine ⟨⟨z * z', by rw [e, e', Rat.mkRat_mul_mkRat]⟩, ?_, ?_⟩
  · rw [Rat.mul_neg] at k2
    rw [Rat.one_mul] at k3
    grind
  · rw [Rat.one_mul] at k3
    grind
theorem Szz.up {N M M' : Nat} (c : Nat) {a : Rat} (ha : Szz N M a) (hM : M ≤ M') (hc : c ≠ 0) : Szz (N * c) M' a := by
  obtain ⟨⟨z, e⟩, lo, hi⟩ := ha
  have hm : (M : Rat) ≤ (M' : Rat) := Rat.natCast_le_natCast.mpr hM
  refine ⟨⟨z * (c : Int), by rw [e, Rat.mkRat_mul_right hc]⟩, ?_, ?_⟩
  · grind
  · grind
theorem szz_int (i : Int) (N M : Nat) (h : i.natAbs ≤ M) (h0 : N ≠ 0) : Szz N M (i : Rat) := by
  refine ⟨⟨i * (N : Int), ?_⟩, ?_, ?_⟩
  · have e : mkRat (i * (N : Int)) (1 * N) = mkRat i 1 := Rat.mkRat_mul_right h0
    rw [Nat.one_mul] at e
    rw [e]
    exact (Rat.mkRat_self (i : Rat)).symm
  · rw [← Rat.intCast_natCast, ← Rat.intCast_neg]
    exact Rat.intCast_le_intCast.mpr (by omega)
  · rw [← Rat.intCast_natCast]
    exact Rat.intCast_le_intCast.mpr (by omega)
theorem szz_sum {N M : Nat} (h0 : N ≠ 0) : ∀ {l : List Rat}, (∀ r ∈ l, Szz N M r) → Szz N (l.length * M) l.sum
  | [], _ => by
    have := szz_int 0 N (0 * M) (by simp) h0
    exact this
  | x :: l, h => by
    have := (h x List.mem_cons_self).add (szz_sum h0 (l := l) fun r hr => h r (List.mem_cons_of_mem _ hr)) h0
    rw [List.sum_cons, List.length_cons, Nat.add_mul, Nat.one_mul, Nat.add_comm]
    exact this
theorem smF_of {N M : Nat} (h0 : N ≠ 0) (hN : N < 2 ^ 1000) : ∀ {l : List Rat} {M0 : Nat} {a : Rat}, (∀ r ∈ l, Szz N M r) → Szz N M0 a → M0 + l.length * M < 2 ^ 900 → SmF a l
  | [], M0, a, _, ha, hb => ha.sml hN (by simpa using hb) h0
  | x :: l, M0, a, h, ha, hb => by
    have hx := h x List.mem_cons_self
    rw [List.length_cons, Nat.add_mul, Nat.one_mul] at hb
    refine ⟨ha.sml hN (by omega) h0, hx.sml hN (by omega) h0, smF_of h0 hN (M0 := M0 + M) (fun r hr => h r (List.mem_cons_of_mem _ hr)) (ha.add hx h0) (by omega)⟩
theorem smG_of {N M : Nat} (h0 : N ≠ 0) (hN : N < 2 ^ 1000) : ∀ {l : List (Rat × Rat)} {M0 : Nat} {a : Rat}, (∀ r ∈ l, Sml r.1 ∧ Sml r.2 ∧ Szz N M (r.1 * r.2)) → Szz N M0 a → M0 + l.length * M < 2 ^ 900 → SmG a l
  | [], M0, a, _, ha, hb => ha.sml hN (by simpa using hb) h0
  | x :: l, M0, a, h, ha, hb => by
    obtain ⟨h1, h2, hx⟩ := h x List.mem_cons_self
    rw [List.length_cons, Nat.add_mul, Nat.one_mul] at hb
    refine ⟨ha.sml hN (by omega) h0, h1, h2, smG_of h0 hN (M0 := M0 + M) (fun r hr => h r (List.mem_cons_of_mem _ hr)) (ha.add hx h0) (by omega)⟩
/-! points are few -/
theorem sum_le (l : List Int) (b : Int) (h : ∀ x ∈ l, 0 ≤ x ∧ x ≤ b) : 0 ≤ l.sum ∧ l.sum ≤ b * (l.length : Int) := by
  induction l with
  | nil => simp
  | cons x l ih =>
    obtain ⟨h1, h2⟩ := ih fun y hy => h y (List.mem_cons_of_mem _ hy)
    have h3 := h x List.mem_cons_self
    rw [List.sum_cons, List.length_cons]
    have e : b * ((l.length + 1 : Nat) : Int) = b * (l.length : Int) + b := by
      rw [Int.natCast_add, Int.mul_add]
      simp
    omega
theorem pts_few {g : Gd} (hg : GdOk g) {x : St} (hx : StOk g x) (b : Bx) (hb : b.ok) : 0 ≤ pts b x.ds ∧ pts b x.ds ≤ 50 := by
  obtain ⟨k1, k2, k3⟩ := DL_mem _ _ _ _ hx.ds
  obtain ⟨p1, p2, p3, p4⟩ := ms_small hg.ms
  have hs := sum_le x.ds 4 fun z hz => by have := k2 z hz; omega
  have hl : (x.ds.length : Int) ≤ 3 := by omega
  have hs2 : 0 ≤ x.ds.sum ∧ x.ds.sum ≤ 12 := by omega
  cases b with
  | face a =>
    have h1 := hb.1
    have h2 := hb.2
    have hc : ((x.ds.count a : Nat) : Int) ≤ 3 := by
      have := List.count_le_length (a := a) (l := x.ds)
      omega
    show 0 ≤ a * (x.ds.count a : Int) ∧ a * (x.ds.count a : Int) ≤ 50
    have q1 : 0 ≤ a * (x.ds.count a : Int) := Int.mul_nonneg (by omega) (by omega)
    have q2 : a * (x.ds.count a : Int) ≤ 6 * 3 := Int.mul_le_mul h2 hc (by omega) (by omega)
    omega
  | all => exact ⟨hs2.1, by show x.ds.sum ≤ 50; omega⟩
  | alike m p =>
    have h1 := hb.2.2.1
    have h2 := hb.2.2.2
    show 0 ≤ p * (if _ then 1 else 0) ∧ p * (if _ then 1 else 0) ≤ 50
    split <;> omega
  | run m p =>
    have h1 := hb.2.2.1
    have h2 := hb.2.2.2
    show 0 ≤ p * (if _ then 1 else 0) ∧ p * (if _ then 1 else 0) ≤ 50
    split <;> omega
  | under a =>
    show 0 ≤ x.ds.sum * (if _ then 1 else 0) ∧ x.ds.sum * (if _ then 1 else 0) ≤ 50
    split <;> omega
  | even a =>
    have h1 := hb.1
    have h2 := hb.2
    show 0 ≤ a * (if _ then 1 else 0) ∧ a * (if _ then 1 else 0) ≤ 50
    split <;> omega
theorem had_few {g : Gd} (hg : GdOk g) {x : St} (hx : StOk g x) {m : Mv} (h : m ∈ movsV x) : 0 ≤ (comsV g x m).1 ∧ (comsV g x m).1 ≤ 50 := by
  rcases mv_in h with ⟨k, rfl, hk⟩ | ⟨y, rfl, hy⟩
  · obtain ⟨k1, k2⟩ := hx.bd k hk
    obtain ⟨n, rfl⟩ := Int.eq_ofNat_of_zero_le k1
    have hn : n < g.B.length := by omega
    have hb := hg.bx (g.B.getD n .all) (by rw [List.getD_eq_getElem?_getD, List.getElem?_eq_getElem hn]; exact List.getElem_mem hn)
    exact pts_few hg hx _ hb
  · exact ⟨Int.le_refl 0, by show (0 : Int) ≤ 50; decide⟩
theorem bst_mem {l : List (Rat × Mv)} {p : Rat × Mv} (h : bst l = some p) : p ∈ l := by
  have key : ∀ (l : List (Rat × Mv)) (acc : Option (Rat × Mv)) (p : Rat × Mv), l.foldl bstep acc = some p → p ∈ l ∨ acc = some p := by
    intro l
    induction l with
    | nil => intro acc p h; exact .inr h
    | cons x l ih =>
      intro acc p h
      rw [List.foldl_cons] at h
      rcases ih _ _ h with h | h
      · exact .inl (List.mem_cons_of_mem _ h)
      · unfold bstep at h
        split at h
        · cases h; exact .inl List.mem_cons_self
        · split at h
          · cases h; exact .inl List.mem_cons_self
          · exact .inr h
  rcases key l none p h with h | h
  · exact h
  · cases h
theorem bst_some {l : List (Rat × Mv)} (h : l ≠ []) : ∃ p, bst l = some p := by
  have key : ∀ (l : List (Rat × Mv)) (q : Rat × Mv), ∃ p, l.foldl bstep (some q) = some p := by
    intro l
    induction l with
    | nil => intro q; exact ⟨q, rfl⟩
    | cons x l ih =>
      intro q
      rw [List.foldl_cons]
      unfold bstep
      split
      · rename_i e; cases e
      · split
        · exact ih _
        · exact ih _
  cases l with
  | nil => exact absurd rfl h
  | cons x l => exact key l x
theorem movs_ne {g : Gd} {x : St} (hx : StOk g x) : movsV x ≠ [] := by
  unfold movsV
  intro e
  have := (List.append_eq_nil_iff.mp e).1
  exact hx.ne (List.map_eq_nil_iff.mp this)
theorem Wb_in {g : Gd} (hg : GdOk g) {x : St} (hx : StOk g x) : ∃ m ∈ movsV x, Wb g x = (valV g (Wg g) x m, m) ∧ bst ((movsV x).map fun m => (valV g (Wg g) x m, m)) = some (Wb g x) := by
  obtain ⟨p, hp⟩ := bst_some (l := (movsV x).map fun m => (valV g (Wg g) x m, m)) fun e => movs_ne hx (List.map_eq_nil_iff.mp e)
  have e := Wb_eq hg hx
  rw [hp] at e
  have e : Wb g x = p := e
  obtain ⟨m, hm, q⟩ := List.mem_map.mp (bst_mem hp)
  exact ⟨m, hm, by rw [e, ← q], by rw [hp, e]⟩
def den (n : Nat) : Nat := 432 ^ n
def bnd (n : Nat) : Nat := 100 * 21 ^ n
theorem den_ne (n : Nat) : den n ≠ 0 := by unfold den; exact Nat.ne_of_gt (Nat.pow_pos (by decide))
theorem part_szz {g : Gd} {x : St} {q : St × Int × Int} (k : NxOk g x q) {n : Nat} {w : Rat} (h : Szz (den n) (bnd n) w) : Szz (den (n + 1)) (bnd n) (shR q * w) := by
  obtain ⟨_, s0, s1, hz⟩ := okSh_fr k.sh
  have := Szz.mul hz s0 s1 h
  have e : den (n + 1) = 432 * den n := by unfold den; rw [Nat.pow_succ, Nat.mul_comm]
  rw [e]
  exact this
theorem W_szz {g : Gd} (hg : GdOk g) : ∀ (n : Nat) (x : St), StOk g x → rk g x < n → Szz (den n) (bnd n) (Wg g x)
  | 0, _, _, h => absurd h (Nat.not_lt_zero _)
  | n + 1, x, hx, hr => by
    obtain ⟨m, hm, e, _⟩ := Wb_in hg hx
    show Szz _ _ (Wb g x).1
    rw [e]
    show Szz _ _ (valV g (Wg g) x m)
    unfold valV
    have h1 := had_few hg hx hm
    have hl := coms_len hg x m
    have a := szz_int (comsV g x m).1 (den (n + 1)) 50 (by omega) (den_ne _)
    have b : Szz (den (n + 1)) (((comsV g x m).2.map fun q => shR q * Wg g q.1).length * bnd n) ((comsV g x m).2.map fun q => shR q * Wg g q.1).sum := by
      refine szz_sum (den_ne _) fun r hr2 => ?_
      obtain ⟨q, hq, rfl⟩ := List.mem_map.mp hr2
      have k := next_ok hg hx hm q hq
      exact part_szz k (W_szz hg n q.1 k.ok (by have := k.rk; omega))
    rw [List.length_map] at b
    have c := (a.add b (den_ne _)).up 1 (M' := bnd (n + 1)) (by
      unfold bnd
      have e1 : (comsV g x m).2.length * (100 * 21 ^ n) ≤ 20 * (100 * 21 ^ n) := Nat.mul_le_mul_right _ hl
      have e2 : 0 < 21 ^ n := Nat.pow_pos (by decide)
      rw [Nat.pow_succ]
      omega) (by decide)
    rw [Nat.mul_one] at c
    exact c

def BSS : List (List Int) := [[0], [1], [2], [0, 1], [0, 2], [1, 2], [0, 1, 2]]
theorem bss_of {g : Gd} (hg : GdOk g) {x : St} (hx : StOk g x) : x.bs ∈ BSS := by
  have h3 := hg.k3
  have hb : ∀ k ∈ x.bs, k = 0 ∨ k = 1 ∨ k = 2 := fun k hk => by have := hx.bd k hk; omega
  have hu := hx.up
  have hn := hx.ne
  generalize x.bs = l at hb hu hn
  match l, hb, hu, hn with
  | [], _, _, hn => exact absurd rfl hn
  | [a], hb, _, _ =>
    have := hb a (by simp)
    rcases this with rfl | rfl | rfl <;> decide
  | [a, b], hb, hu, _ =>
    have h1 := hb a (by simp)
    have h2 := hb b (by simp)
    have h3 : a < b := by simpa using hu
    rcases h1 with rfl | rfl | rfl <;> rcases h2 with rfl | rfl | rfl <;> first | omega | decide
  | [a, b, c], hb, hu, _ =>
    have h1 := hb a (by simp)
    have h2 := hb b (by simp)
    have h4 := hb c (by simp)
    have h3 : (a < b ∧ a < c) ∧ b < c := by simpa using hu
    rcases h1 with rfl | rfl | rfl <;> rcases h2 with rfl | rfl | rfl <;> rcases h4 with rfl | rfl | rfl <;> first | omega | decide
  | a :: b :: c :: d :: l, hb, hu, _ =>
    have h1 := hb a (by simp)
    have h2 := hb b (by simp)
    have h4 := hb c (by simp)
    have h5 := hb d (by simp)
    simp only [List.pairwise_cons, List.mem_cons, forall_eq_or_imp] at hu
    omega

/-! dicts by stands -/
def ints9 (l m : List Int) : PyData.eqvAll (l.map .int) (m.map .int) = decide (l = m) := by
  induction l generalizing m with
  | nil => cases m <;> simp [PyData.eqvAll]
  | cons x l ih =>
    cases m with
    | nil => simp [PyData.eqvAll]
    | cons y m =>
      rw [List.map_cons, List.map_cons, PyData.eqvAll, ih, eqv_int]
      by_cases h : x = y
      · subst h; simp
      · simp [h]
theorem eqv_tup (l m : List Int) : PyData.eqv (tup l) (tup m) = decide (l = m) := by
  rw [← ints9]
  simp [PyData.eqv]
theorem eqv_st (x y : St) : PyData.eqv x.d y.d = decide (x = y) := by
  obtain ⟨a, b, c⟩ := x
  obtain ⟨a', b', c'⟩ := y
  show PyData.eqv (.tuple [tup a, .int b, tup c]) (.tuple [tup a', .int b', tup c']) = _
  simp only [PyData.eqv, PyData.eqvAll, ints9, Bool.and_true]
  by_cases h1 : a = a' <;> by_cases h2 : b = b' <;> by_cases h3 : c = c' <;> simp [h1, h2, h3]
theorem nks_ints (l : List Int) : nks (l.map .int) = some (l.map .num) := by
  induction l with
  | nil => rfl
  | cons x l ih =>
    rw [List.map_cons]
    unfold nks
    rw [ih]
    rfl
theorem depth_nums (l : List Int) : NestedKey.depth (.tup (l.map .num)) ≤ 1 := by
  have h : NestedKey.depthAll (l.map .num) = 0 := by
    induction l with
    | nil => rfl
    | cons x l ih =>
      rw [List.map_cons, NestedKey.depthAll, ih]
      rfl
  rw [NestedKey.depth, h]
  exact Nat.le_refl _
theorem nk_tup (l : List Int) : nk (tup l) = some (.tup (l.map .num)) := by
  show (nks (l.map .int)).map NestedKey.tup = _
  rw [nks_ints]
  rfl
theorem nk_st (x : St) : nk x.d = some (.tup [.tup (x.bs.map .num), .num x.lf, .tup (x.ds.map .num)]) := by
  show (nks [tup x.bs, .int x.lf, tup x.ds]).map NestedKey.tup = _
  unfold nks
  rw [nk_tup]
  unfold nks
  unfold nks
  rw [nk_tup]
  rfl
theorem kcls_st (x : St) : kcls x.d = some true := by
  have h := nk_st x
  have h2 : nks [tup x.bs, .int x.lf, tup x.ds] = some [.tup (x.bs.map .num), .num x.lf, .tup (x.ds.map .num)] := by
    have h : (nks [tup x.bs, .int x.lf, tup x.ds]).map NestedKey.tup = some _ := h
    cases e : nks [tup x.bs, .int x.lf, tup x.ds] with
    | none => rw [e] at h; cases h
    | some z =>
      rw [e] at h
      have h := Option.some.inj h
      cases h
      rfl
  show (match nks [tup x.bs, .int x.lf, tup x.ds] with
    | some ks => if NestedKey.depth (.tup ks) ≤ 8 then some true else none
    | none => none) = _
  rw [h2]
  have d1 := depth_nums x.bs
  have d2 := depth_nums x.ds
  have : NestedKey.depth (.tup [.tup (x.bs.map .num), .num x.lf, .tup (x.ds.map .num)]) ≤ 8 := by
    simp only [NestedKey.depth, NestedKey.depthAll] at *
    omega
  simp only [if_pos this]
/-- a dict by keys of a kind, each with what belongs to it -/
structure Ky {α : Type} [DecidableEq α] (e : α → D) : Prop where
  eqv : ∀ a b, PyData.eqv (e a) (e b) = decide (a = b)
  cls : ∀ a, kcls (e a) = some true
theorem ky_st : Ky St.d := ⟨eqv_st, kcls_st⟩
section
variable {α : Type} [DecidableEq α] {e : α → D}
def mem (e v : α → D) (L : List α) : List (D × D) := L.map fun x => (e x, v x)
theorem mem_keys (k : Ky e) (v : α → D) (L : List α) : keysAre true (mem e v L) = true := by
  unfold keysAre mem
  rw [List.all_map, List.all_eq_true]
  intro x _
  show (kcls (e x) == some true) = true
  rw [k.cls]
  rfl
theorem mem_go (k : Ky e) (v : α → D) (y : α) : ∀ L : List α, dgo (e y) (mem e v L) = if y ∈ L then some (v y) else none
  | [] => by simp [mem, dgo]
  | x :: L => by
    have ih := mem_go k v y L
    show (if PyData.eqv (e x) (e y) = true then some (v x) else dgo (e y) (mem e v L)) = _
    rw [ih, k.eqv]
    by_cases h : x = y
    · subst h; simp
    · have h2 : ¬ y = x := fun q => h q.symm
      simp [h, h2]
theorem mem_ask (k : Ky e) (v : α → D) (y : α) (L : List α) : dAsk (mem e v L) (e y) = some (if y ∈ L then some (v y) else none) := by
  unfold dAsk
  rw [k.cls]
  simp only [mem_keys k, if_true, mem_go k]
theorem mem_put (k : Ky e) (v : α → D) (y : α) : ∀ L : List α, dput (e y) (v y) (mem e v L) = mem e v (if y ∈ L then L else L ++ [y])
  | [] => rfl
  | x :: L => by
    have ih := mem_put k v y L
    show (if PyData.eqv (e x) (e y) = true then (e x, v y) :: mem e v L else (e x, v x) :: dput (e y) (v y) (mem e v L)) = _
    rw [ih, k.eqv]
    by_cases h : x = y
    · subst h; simp [mem]
    · have h2 : ¬ y = x := fun q => h q.symm
      by_cases h3 : y ∈ L
      · simp [h, h2, h3, mem]
      · simp [h, h2, h3, mem]
theorem v_memNin (k : Ky e) (v : α → D) (y : α) (L : List α) : sNinA (e y) (.dict (mem e v L)) = some (.bool (!decide (y ∈ L))) := by
  unfold sNinA or2 sNin sDnin
  simp only [mem_ask k]
  by_cases h : y ∈ L <;> simp [h]
theorem v_memIn (k : Ky e) (v : α → D) (y : α) (L : List α) : sInA (e y) (.dict (mem e v L)) = some (.bool (decide (y ∈ L))) := by
  unfold sInA or2 sIn sDin
  simp only [mem_ask k]
  by_cases h : y ∈ L <;> simp [h]
theorem v_memIx (k : Ky e) (v : α → D) (y : α) (L : List α) (h : y ∈ L) : sIxA (.dict (mem e v L)) (e y) = some (v y) := by
  unfold sIxA or2 sIx sDget
  simp only [mem_ask k, if_pos h, Option.join_some]
end
/-- all stands of a game -/
def allSt (g : Gd) : List St := BSS.flatMap fun b => (List.range 3).flatMap fun (l : Nat) => (DL g.m g.s 1).map fun d => ⟨b, (l : Int), d⟩
theorem allSt_mem {g : Gd} (hg : GdOk g) {x : St} (hx : StOk g x) : x ∈ allSt g := by
  have h0 := hx.l0
  have h1 := hx.lt
  have h3 := hg.t3
  obtain ⟨n, hn⟩ := Int.eq_ofNat_of_zero_le h0
  refine List.mem_flatMap.mpr ⟨x.bs, bss_of hg hx, List.mem_flatMap.mpr ⟨n, List.mem_range.mpr (by omega), List.mem_map.mpr ⟨x.ds, hx.ds, ?_⟩⟩⟩
  rw [← hn]
theorem allSt_len {g : Gd} (hg : GdOk g) : (allSt g).length ≤ 300 := by
  have h : (DL g.m g.s 1).length ≤ 10 := by
    rcases hg.ms with ⟨e1, e2⟩ | ⟨e1, e2⟩ | ⟨e1, e2⟩ | ⟨e1, e2⟩ | ⟨e1, e2⟩ | ⟨e1, e2⟩ | ⟨e1, e2⟩ | ⟨e1, e2⟩ <;> rw [e1, e2] <;> decide +kernel
  have key : ∀ b : List Int, ((List.range 3).flatMap fun (l : Nat) => (DL g.m g.s 1).map fun d => (⟨b, (l : Int), d⟩ : St)).length ≤ 30 := fun b => by
    simp only [List.range_succ, List.range_zero, List.nil_append, List.cons_append, List.flatMap_cons, List.flatMap_nil, List.length_append, List.length_map, List.length_nil]
    omega
  unfold allSt BSS
  simp only [List.flatMap_cons, List.flatMap_nil, List.length_append, List.length_nil]
  have := key [0]
  have := key [1]
  have := key [2]
  have := key [0, 1]
  have := key [0, 2]
  have := key [1, 2]
  have := key [0, 1, 2]
  omega
theorem len_sub {α : Type} [DecidableEq α] : ∀ {l m : List α}, l.Nodup → (∀ x ∈ l, x ∈ m) → l.length ≤ m.length
  | [], _, _, _ => Nat.zero_le _
  | x :: l, m, h, k => by
    obtain ⟨h1, h2⟩ := List.nodup_cons.mp h
    have hx := k x List.mem_cons_self
    have := len_sub (l := l) (m := m.erase x) h2 fun y hy => by
      have hne : y ≠ x := fun e => h1 (e ▸ hy)
      exact (List.mem_erase_of_ne hne).mpr (k y (List.mem_cons_of_mem _ hy))
    rw [List.length_erase_of_mem hx] at this
    have := List.length_pos_of_mem hx
    rw [List.length_cons]
    omega
structure Mok (g : Gd) (L : List St) : Prop where
  nd : L.Nodup
  ok : ∀ x ∈ L, StOk g x
theorem Mok.len {g : Gd} (hg : GdOk g) {L : List St} (h : Mok g L) : L.length ≤ 300 := Nat.le_trans (len_sub h.nd fun x hx => allSt_mem hg (h.ok x hx)) (allSt_len hg)
def addL (L : List St) (x : St) : List St := if x ∈ L then L else L ++ [x]
theorem Mok.add {g : Gd} {L : List St} (h : Mok g L) {x : St} (hx : StOk g x) : Mok g (addL L x) := by
  unfold addL
  split
  · exact h
  · rename_i hn
    refine ⟨List.nodup_append.mpr ⟨h.nd, by simp, fun y hy z hz e => hn ?_⟩, fun y hy => ?_⟩
    · rw [List.mem_singleton.mp hz] at e
      rw [← e]; exact hy
    · rcases List.mem_append.mp hy with q | q
      · exact h.ok y q
      · rw [List.mem_singleton.mp q]; exact hx
theorem mem_addL (L : List St) (x : St) : x ∈ addL L x := by
  unfold addL
  split
  · assumption
  · simp

/-! sizes and calls, for all books -/
theorem sml_of {n : Nat} (hn : n ≤ 100) {N M : Nat} (hN : N ≤ den n) (hM : M ≤ 30 * bnd n) {r : Rat} (h : Szz N M r) (h0 : N ≠ 0) : Sml r := by
  refine h.sml ?_ ?_ h0
  · refine Nat.lt_of_le_of_lt hN ?_
    unfold den
    exact Nat.lt_of_le_of_lt (Nat.pow_le_pow_right (by decide) hn) (by decide +kernel)
  · refine Nat.lt_of_le_of_lt hM ?_
    unfold bnd
    have h1 : 21 ^ n ≤ 21 ^ 100 := Nat.pow_le_pow_right (by decide) hn
    have h2 : 30 * (100 * 21 ^ 100) < 2 ^ 900 := by decide +kernel
    omega
theorem den_lt {n : Nat} (hn : n ≤ 100) : den n < 2 ^ 1000 := by
  unfold den
  exact Nat.lt_of_le_of_lt (Nat.pow_le_pow_right (by decide) hn) (by decide +kernel)
theorem bnd_lt {n : Nat} (hn : n ≤ 100) : 30 * bnd n < 2 ^ 900 := by
  unfold bnd
  have h1 : 21 ^ n ≤ 21 ^ 100 := Nat.pow_le_pow_right (by decide) hn
  have h2 : 30 * (100 * 21 ^ 100) < 2 ^ 900 := by decide +kernel
  omega
theorem bnd_1 (n : Nat) : 100 ≤ bnd n := by
  unfold bnd
  have : 0 < 21 ^ n := Nat.pow_pos (by decide)
  omega
theorem rk_lt {g : Gd} (hg : GdOk g) {x : St} (hx : StOk g x) : rk g x < 12 := by
  unfold rk
  obtain ⟨s1, _, _⟩ := hx.small hg
  have h3 := hg.t3
  have h1 := hx.lt
  have h0 := hx.l0
  have e : x.bs.length * g.t ≤ 3 * 3 := Nat.mul_le_mul s1 h3
  omega
theorem sh_sml {g : Gd} {x : St} {q : St × Int × Int} (k : NxOk g x q) : Sml (shR q) := by
  obtain ⟨_, s0, s1, hz⟩ := okSh_fr k.sh
  have h : Szz 432 1 (shR q) := ⟨hz, by show -(1 : Rat) ≤ _; exact Rat.le_trans (by decide) s0, s1⟩
  exact h.sml (by decide +kernel) (by decide +kernel) (by decide)
theorem fr_int (i : Int) : frR (i : Rat) = frD i 1 := rfl
theorem fr_sh {g : Gd} {x : St} {q : St × Int × Int} (k : NxOk g x q) : frD q.2.1 q.2.2 = frR (shR q) := (okSh_fr k.sh).1
theorem rk16 {g : Gd} (hg : GdOk g) {x : St} (hx : StOk g x) : rk g x < 16 := Nat.lt_trans (rk_lt hg hx) (by decide)
theorem mkB_b {p n : Nat} {b : Sm} {k : Nat} {ds : List D} {o o' : O} {r' : List O} {G : D} {M : List (D × D)} (hl : ds.length + 1 = p) (hr : (noBor o && hasRef o) = true) (hm : b (.bor 0 o :: (ds.map .val ++ List.replicate (n - (ds.length + 1)) .un)) = some (.nx, .bor 0 o' :: r')) : mkB p n 0 b o ds = some (.none, o') := by
  unfold mkB runB
  rw [if_pos ⟨hl, Nat.zero_le _⟩, if_pos hr]
  show (match b (.bor 0 o :: (ds.map .val ++ List.replicate (n - (ds.length + 1)) .un)) with
    | some (.rt d, ρ') => lentK d ρ'[0]?
    | some (.nx, ρ') => lentK .none ρ'[0]?
    | _ => none) = _
  rw [hm]
  rfl
/-! what the program knows -/
def accD : Option (Rat × Mv) → D
  | none => .none
  | some p => .tuple [frR p.1, p.2.d]
theorem is_none : sIs .none .none = some (.bool true) := rfl
theorem is_tup (l : List D) : sIs (.tuple l) .none = some (.bool false) := rfl



theorem law_plain_loop (x y : O) : ∀ (n a b : Nat), a < n → whLoop (o2 sGt (kP 2) (kE (eC (.int 0)))) (sPar 2 3 (o2 sMod (kP 3) (kP 2)) (eV 2)) n [x, y, .val (.int a), .val (.int b)] = some (.nx, [x, y, .val (.int 0), .val (.int (Nat.gcd a b))])
  | 0, _, _, h => absurd h (Nat.not_lt_zero _)
  | n + 1, a, b, h => by
    rw [e_while]
    by_cases ha : 0 < a
    · have h1 : decide (0 < (a : Int)) = true := decide_eq_true (by omega)
      have h2 : (0 : Int) < (a : Int) := by omega
      have h3 : ((b : Int) % (a : Int)) = ((b % a : Nat) : Int) := (Int.natCast_emod b a).symm
      have ih := law_plain_loop x y n (b % a) a (by have := Nat.mod_lt b ha; omega)
      rw [← Nat.gcd_rec] at ih
      simp only [ap_c, ap_t, ap_v, vK_val, vK_lst, vK_dic, ap_peek, pkK_val, pkK_lst, pkK_dic, ap_o1E, ap_o1P, ap_o2EE, ap_o2EP, ap_o2PE, ap_o2PP, ap_o3E, ap_o3P, ap_esNil, ap_esCons, ap_tup, ap_lst, tupK, lstK, ap_and, ap_or, andK_t, andK_f, andK_b, orK_t, orK_f, orK_b, ap_call, ap_mP, ap_mE, ap_iSeq, ap_iSeqA, kOfL, kOfT, kOfD, ap_dnil, ap_iR1, ap_iR2, r1_eq, r2_eq, ap_tgo1, ap_tgoM, setAll0, setAllC, eComp_eq, ap_turnT, ap_turnO, tuK_t, tuK_f, tuK_b, ap_seq, seqK_nx, seqK_rt, seqK_ct, seqK_bk, seqK_no, seqK_if, ap_nil, ap_cnt, ap_brk, ap_set, ap_own, ownK_l, ownK_d, ap_ret, ap_if, ifK_t, ifK_f, ifK_b, ap_for, forL_nil, forL_cons, forK_nx, forK_ct, forK_bk, forK_rt, forK_if, ap_par, run_eq, runK_rt, runK_nx, runK_if, v_add, v_sub, v_neg, v_mod, v_div, v_mulR, v_mulL, v_mulB, v_addT, v_addL, v_catL, v_lt, v_le, v_gt, v_ge, v_eqI, v_neI, v_eqS, v_neS, v_lenT, v_lenL, v_intB, v_intI, v_not, v_min, v_max, v_abs, v_tupL, v_tupT, v_ixT, v_ixL, ix0, ix1, ix2, ix3, seqT, seqL, v_sumT, v_sumL, v_any, v_all, v_inT, v_inL, v_ninT, v_ninL, v_countT, mapMO_all, mapMO_some, mapMO_map, mapMO_range, v_sortedL, v_sortedT, v_cT, v_cTl, v_cTh, v_cL, v_cLl, v_cLh, v_eqNil, v_neNil, ix4, sel4_int, v_repT, v_isiI, v_isiS, v_isiB, v_isiN, ib_int, eq_dec, rl1, rl2, rl3, rl4, Bool.not_true, Bool.not_false, List.length_map, cutL_map, mkF, List.length_cons, List.length_nil, List.map_cons, List.map_nil, List.append_eq, List.cons_append, List.nil_append, List.getElem?_cons_zero, List.getElem?_cons_succ, List.set_cons_zero, List.set_cons_succ, Option.bind_some, Option.map_some, Option.bind_none, Option.map_none, Nat.zero_add, Nat.reduceAdd, Nat.reduceSub, Nat.reduceLeDiff, Nat.reduceLT, Nat.reduceEqDiff, Nat.reduceMul, LIM_eq, List.replicate_succ, List.replicate_zero, if_true, if_false, Bool.false_eq_true, Bool.true_eq_false, decide_true, decide_false, okS, noOwn, covers, tgIs, wipeO, List.all_cons, List.all_nil, List.any_cons, List.any_nil, Bool.and_true, Bool.true_and, Bool.and_self, Bool.or_false, Bool.false_or, Bool.or_true, beq_self_nat, kd, Int.reduceLT, Int.reduceLE, Int.reduceNeg, Int.reduceAdd, Int.reduceToNat, Int.reduceMul, Int.reduceSub, and_true, true_and, and_self, ite_true, ite_false, ↓reduceIte, nbeq, eq_self, ap_ext, ap_app, ap_put, lstK1_l, lstL_l, dicL_d, listK_l, h1, h2, h3]
      exact ih
    · have e : a = 0 := by omega
      subst e
      rw [Nat.gcd_zero_left]
      simp only [ap_c, ap_t, ap_v, vK_val, vK_lst, vK_dic, ap_peek, pkK_val, pkK_lst, pkK_dic, ap_o1E, ap_o1P, ap_o2EE, ap_o2EP, ap_o2PE, ap_o2PP, ap_o3E, ap_o3P, ap_esNil, ap_esCons, ap_tup, ap_lst, tupK, lstK, ap_and, ap_or, andK_t, andK_f, andK_b, orK_t, orK_f, orK_b, ap_call, ap_mP, ap_mE, ap_iSeq, ap_iSeqA, kOfL, kOfT, kOfD, ap_dnil, ap_iR1, ap_iR2, r1_eq, r2_eq, ap_tgo1, ap_tgoM, setAll0, setAllC, eComp_eq, ap_turnT, ap_turnO, tuK_t, tuK_f, tuK_b, ap_seq, seqK_nx, seqK_rt, seqK_ct, seqK_bk, seqK_no, seqK_if, ap_nil, ap_cnt, ap_brk, ap_set, ap_own, ownK_l, ownK_d, ap_ret, ap_if, ifK_t, ifK_f, ifK_b, ap_for, forL_nil, forL_cons, forK_nx, forK_ct, forK_bk, forK_rt, forK_if, ap_par, run_eq, runK_rt, runK_nx, runK_if, v_add, v_sub, v_neg, v_mod, v_div, v_mulR, v_mulL, v_mulB, v_addT, v_addL, v_catL, v_lt, v_le, v_gt, v_ge, v_eqI, v_neI, v_eqS, v_neS, v_lenT, v_lenL, v_intB, v_intI, v_not, v_min, v_max, v_abs, v_tupL, v_tupT, v_ixT, v_ixL, ix0, ix1, ix2, ix3, seqT, seqL, v_sumT, v_sumL, v_any, v_all, v_inT, v_inL, v_ninT, v_ninL, v_countT, mapMO_all, mapMO_some, mapMO_map, mapMO_range, v_sortedL, v_sortedT, v_cT, v_cTl, v_cTh, v_cL, v_cLl, v_cLh, v_eqNil, v_neNil, ix4, sel4_int, v_repT, v_isiI, v_isiS, v_isiB, v_isiN, ib_int, eq_dec, rl1, rl2, rl3, rl4, Bool.not_true, Bool.not_false, List.length_map, cutL_map, mkF, List.length_cons, List.length_nil, List.map_cons, List.map_nil, List.append_eq, List.cons_append, List.nil_append, List.getElem?_cons_zero, List.getElem?_cons_succ, List.set_cons_zero, List.set_cons_succ, Option.bind_some, Option.map_some, Option.bind_none, Option.map_none, Nat.zero_add, Nat.reduceAdd, Nat.reduceSub, Nat.reduceLeDiff, Nat.reduceLT, Nat.reduceEqDiff, Nat.reduceMul, LIM_eq, List.replicate_succ, List.replicate_zero, if_true, if_false, Bool.false_eq_true, Bool.true_eq_false, decide_true, decide_false, okS, noOwn, covers, tgIs, wipeO, List.all_cons, List.all_nil, List.any_cons, List.any_nil, Bool.and_true, Bool.true_and, Bool.and_self, Bool.or_false, Bool.false_or, Bool.or_true, beq_self_nat, kd, Int.reduceLT, Int.reduceLE, Int.reduceNeg, Int.reduceAdd, Int.reduceToNat, Int.reduceMul, Int.reduceSub, and_true, true_and, and_self, ite_true, ite_false, ↓reduceIte, nbeq, eq_self, ap_ext, ap_app, ap_put, lstK1_l, lstL_l, dicL_d, listK_l]
      rfl
theorem f_law_plainV (u : Int) (d : Nat) (hd : 0 < d) (hs : d < 2 ^ 8990) : f_law_plain [.int u, .int d] = some (frR (mkRat u d)) := by
  have e1 : (if u < 0 then -u else u) = (u.natAbs : Int) := by
    split <;> omega
  have hg : 0 < Nat.gcd u.natAbs d := Nat.gcd_pos_of_pos_right _ hd
  have hle : Nat.gcd u.natAbs d ≤ d := Nat.le_of_dvd hd (Nat.gcd_dvd_right _ _)
  have lp := law_plain_loop (.val (.int u)) (.val (.int d)) (u.natAbs + 1) u.natAbs d (Nat.lt_succ_self _)
  have g0 : (0 : Int) < ((Nat.gcd u.natAbs d : Nat) : Int) := by omega
  have g1 : (((Nat.gcd u.natAbs d : Nat) : Int)).natAbs < 2 ^ 8990 := by omega
  have v1 := v_divG u _ g0 g1
  have v2 := v_divG (d : Int) _ g0 g1
  have en : (mkRat u d).num = u / ((Nat.gcd u.natAbs d : Nat) : Int) := by
    rw [Rat.num_mkRat, if_neg (by omega), Nat.gcd_comm]
  have ed : ((mkRat u d).den : Int) = (d : Int) / ((Nat.gcd u.natAbs d : Nat) : Int) := by
    rw [Rat.den_mkRat, if_neg (by omega), Nat.gcd_comm, Int.natCast_ediv]
  unfold frR
  rw [en, ed]
  simp only [f_law_plain, m_law_plain, m_law_plain_t0, m_law_plain_t1, m_law_plain_t2, m_law_plain_t3, m_law_plain_s0, m_law_plain_s1, m_law_plain_s2, ap_c, ap_t, ap_v, vK_val, vK_lst, vK_dic, ap_peek, pkK_val, pkK_lst, pkK_dic, ap_o1E, ap_o1P, ap_o2EE, ap_o2EP, ap_o2PE, ap_o2PP, ap_o3E, ap_o3P, ap_esNil, ap_esCons, ap_tup, ap_lst, tupK, lstK, ap_and, ap_or, andK_t, andK_f, andK_b, orK_t, orK_f, orK_b, ap_call, ap_mP, ap_mE, ap_iSeq, ap_iSeqA, kOfL, kOfT, kOfD, ap_dnil, ap_iR1, ap_iR2, r1_eq, r2_eq, ap_tgo1, ap_tgoM, setAll0, setAllC, eComp_eq, ap_turnT, ap_turnO, tuK_t, tuK_f, tuK_b, ap_seq, seqK_nx, seqK_rt, seqK_ct, seqK_bk, seqK_no, seqK_if, ap_nil, ap_cnt, ap_brk, ap_set, ap_own, ownK_l, ownK_d, ap_ret, ap_if, ifK_t, ifK_f, ifK_b, ap_for, forL_nil, forL_cons, forK_nx, forK_ct, forK_bk, forK_rt, forK_if, ap_par, run_eq, runK_rt, runK_nx, runK_if, v_add, v_sub, v_neg, v_mod, v_div, v_mulR, v_mulL, v_mulB, v_addT, v_addL, v_catL, v_lt, v_le, v_gt, v_ge, v_eqI, v_neI, v_eqS, v_neS, v_lenT, v_lenL, v_intB, v_intI, v_not, v_min, v_max, v_abs, v_tupL, v_tupT, v_ixT, v_ixL, ix0, ix1, ix2, ix3, seqT, seqL, v_sumT, v_sumL, v_any, v_all, v_inT, v_inL, v_ninT, v_ninL, v_countT, mapMO_all, mapMO_some, mapMO_map, mapMO_range, v_sortedL, v_sortedT, v_cT, v_cTl, v_cTh, v_cL, v_cLl, v_cLh, v_eqNil, v_neNil, ix4, sel4_int, v_repT, v_isiI, v_isiS, v_isiB, v_isiN, ib_int, eq_dec, rl1, rl2, rl3, rl4, Bool.not_true, Bool.not_false, List.length_map, cutL_map, mkF, List.length_cons, List.length_nil, List.map_cons, List.map_nil, List.append_eq, List.cons_append, List.nil_append, List.getElem?_cons_zero, List.getElem?_cons_succ, List.set_cons_zero, List.set_cons_succ, Option.bind_some, Option.map_some, Option.bind_none, Option.map_none, Nat.zero_add, Nat.reduceAdd, Nat.reduceSub, Nat.reduceLeDiff, Nat.reduceLT, Nat.reduceEqDiff, Nat.reduceMul, LIM_eq, List.replicate_succ, List.replicate_zero, if_true, if_false, Bool.false_eq_true, Bool.true_eq_false, decide_true, decide_false, okS, noOwn, covers, tgIs, wipeO, List.all_cons, List.all_nil, List.any_cons, List.any_nil, Bool.and_true, Bool.true_and, Bool.and_self, Bool.or_false, Bool.false_or, Bool.or_true, beq_self_nat, kd, Int.reduceLT, Int.reduceLE, Int.reduceNeg, Int.reduceAdd, Int.reduceToNat, Int.reduceMul, Int.reduceSub, and_true, true_and, and_self, ite_true, ite_false, ↓reduceIte, nbeq, eq_self, ap_ext, ap_app, ap_put, lstK1_l, lstL_l, dicL_d, listK_l, e1]
  show runK (seqK (whLoop _ _ (muI 2 _) _) _) = _
  have em : muI 2 [.val (.int u), .val (.int d), .val (.int (u.natAbs : Int)), .val (.int d)] = u.natAbs + 1 := by
    show ((u.natAbs : Int)).toNat + 1 = _
    rw [Int.toNat_natCast]
  rw [em, lp]
  simp only [ap_c, ap_t, ap_v, vK_val, vK_lst, vK_dic, ap_peek, pkK_val, pkK_lst, pkK_dic, ap_o1E, ap_o1P, ap_o2EE, ap_o2EP, ap_o2PE, ap_o2PP, ap_o3E, ap_o3P, ap_esNil, ap_esCons, ap_tup, ap_lst, tupK, lstK, ap_and, ap_or, andK_t, andK_f, andK_b, orK_t, orK_f, orK_b, ap_call, ap_mP, ap_mE, ap_iSeq, ap_iSeqA, kOfL, kOfT, kOfD, ap_dnil, ap_iR1, ap_iR2, r1_eq, r2_eq, ap_tgo1, ap_tgoM, setAll0, setAllC, eComp_eq, ap_turnT, ap_turnO, tuK_t, tuK_f, tuK_b, ap_seq, seqK_nx, seqK_rt, seqK_ct, seqK_bk, seqK_no, seqK_if, ap_nil, ap_cnt, ap_brk, ap_set, ap_own, ownK_l, ownK_d, ap_ret, ap_if, ifK_t, ifK_f, ifK_b, ap_for, forL_nil, forL_cons, forK_nx, forK_ct, forK_bk, forK_rt, forK_if, ap_par, run_eq, runK_rt, runK_nx, runK_if, v_add, v_sub, v_neg, v_mod, v_div, v_mulR, v_mulL, v_mulB, v_addT, v_addL, v_catL, v_lt, v_le, v_gt, v_ge, v_eqI, v_neI, v_eqS, v_neS, v_lenT, v_lenL, v_intB, v_intI, v_not, v_min, v_max, v_abs, v_tupL, v_tupT, v_ixT, v_ixL, ix0, ix1, ix2, ix3, seqT, seqL, v_sumT, v_sumL, v_any, v_all, v_inT, v_inL, v_ninT, v_ninL, v_countT, mapMO_all, mapMO_some, mapMO_map, mapMO_range, v_sortedL, v_sortedT, v_cT, v_cTl, v_cTh, v_cL, v_cLl, v_cLh, v_eqNil, v_neNil, ix4, sel4_int, v_repT, v_isiI, v_isiS, v_isiB, v_isiN, ib_int, eq_dec, rl1, rl2, rl3, rl4, Bool.not_true, Bool.not_false, List.length_map, cutL_map, mkF, List.length_cons, List.length_nil, List.map_cons, List.map_nil, List.append_eq, List.cons_append, List.nil_append, List.getElem?_cons_zero, List.getElem?_cons_succ, List.set_cons_zero, List.set_cons_succ, Option.bind_some, Option.map_some, Option.bind_none, Option.map_none, Nat.zero_add, Nat.reduceAdd, Nat.reduceSub, Nat.reduceLeDiff, Nat.reduceLT, Nat.reduceEqDiff, Nat.reduceMul, LIM_eq, List.replicate_succ, List.replicate_zero, if_true, if_false, Bool.false_eq_true, Bool.true_eq_false, decide_true, decide_false, okS, noOwn, covers, tgIs, wipeO, List.all_cons, List.all_nil, List.any_cons, List.any_nil, Bool.and_true, Bool.true_and, Bool.and_self, Bool.or_false, Bool.false_or, Bool.or_true, beq_self_nat, kd, Int.reduceLT, Int.reduceLE, Int.reduceNeg, Int.reduceAdd, Int.reduceToNat, Int.reduceMul, Int.reduceSub, and_true, true_and, and_self, ite_true, ite_false, ↓reduceIte, nbeq, eq_self, ap_ext, ap_app, ap_put, lstK1_l, lstL_l, dicL_d, listK_l, v1, v2]

theorem lsum_loop (S : O) : ∀ (l : List (Rat × Rat)) (a : Rat) (e f : O), SmG a l → ∃ e' f', forLoop (.many [3, 4]) (sSeq (sSet (.one 1) (o2 sAddA (kE (o2 sMulA (kE (o2 sMulA (kP 1) (kE (o2 sIxA (kP 3) (kE (eC (.int 1))))))) (kE (o2 sIxA (kP 4) (kE (eC (.int 1))))))) (kE (o2 sMulA (kE (o2 sMulA (kE (o2 sIxA (kP 3) (kE (eC (.int 0))))) (kE (o2 sIxA (kP 4) (kE (eC (.int 0))))))) (kP 2)))))
  (sSeq (sSet (.one 2) (o2 sMulA (kE (o2 sMulA (kP 2) (kE (o2 sIxA (kP 3) (kE (eC (.int 1))))))) (kE (o2 sIxA (kP 4) (kE (eC (.int 1)))))))
  (sSet (.many [1, 2]) (eCall f_law_plain (esCons (eV 1) (esCons (eV 2) esNil)))))) (l.map prD) [S, .val (.int a.num), .val (.int a.den), e, f] = some (.nx, [S, .val (.int (l.foldl (fun a p => a + p.1 * p.2) a).num), .val (.int (l.foldl (fun a p => a + p.1 * p.2) a).den), e', f'])
  | [], a, e, f, _ => ⟨e, f, rfl⟩
  | x :: l, a, e, f, h => by
    obtain ⟨ha, hx, hy, h⟩ := h
    obtain ⟨e', f', ih⟩ := lsum_loop S l (a + x.1 * x.2) (.val (frR x.1)) (.val (frR x.2)) h
    have dd : a.den * x.1.den * x.2.den < 2 ^ 6000 := lt_mulP (ha.dd hx) hy.2
    have p := f_law_plainV (a.num * x.1.den * x.2.den + x.1.num * x.2.num * a.den) (a.den * x.1.den * x.2.den) (Nat.mul_pos (Nat.mul_pos Sml.d0 Sml.d0) Sml.d0) (lt_upP dd (by decide))
    rw [add_mul3] at p
    have m1 := v_mulG a.num x.1.den ha.n8 hx.d8
    have m1' := v_mulG (a.num * x.1.den) x.2.den (by rw [Int.natAbs_mul, Int.natAbs_natCast]; exact lt_upP (lt_mulP ha.1 hx.2) (by decide)) hy.d8
    have m2 := v_mulG x.1.num x.2.num hx.n8 hy.n8
    have m2' := v_mulG (x.1.num * x.2.num) a.den (by rw [Int.natAbs_mul]; exact lt_upP (lt_mulP hx.1 hy.1) (by decide)) ha.d8
    have m3 := v_mulG a.den x.1.den ha.d8 hx.d8
    have m3' := v_mulG ((a.den : Int) * (x.1.den : Int)) x.2.den (by rw [nat_mulI, Int.natAbs_natCast]; exact lt_upP (ha.dd hx) (by decide)) hy.d8
    rw [nat_mulI, nat_mulI] at m3'
    rw [nat_mulI] at m3
    refine ⟨e', f', ?_⟩
    rw [List.map_cons, forL_cons, List.foldl_cons, ← ih]
    simp only [ap_c, ap_t, ap_v, vK_val, vK_lst, vK_dic, ap_peek, pkK_val, pkK_lst, pkK_dic, ap_o1E, ap_o1P, ap_o2EE, ap_o2EP, ap_o2PE, ap_o2PP, ap_o3E, ap_o3P, ap_esNil, ap_esCons, ap_tup, ap_lst, tupK, lstK, ap_and, ap_or, andK_t, andK_f, andK_b, orK_t, orK_f, orK_b, ap_call, ap_mP, ap_mE, ap_iSeq, ap_iSeqA, kOfL, kOfT, kOfD, ap_dnil, ap_iR1, ap_iR2, r1_eq, r2_eq, ap_tgo1, ap_tgoM, setAll0, setAllC, eComp_eq, ap_turnT, ap_turnO, tuK_t, tuK_f, tuK_b, ap_seq, seqK_nx, seqK_rt, seqK_ct, seqK_bk, seqK_no, seqK_if, ap_nil, ap_cnt, ap_brk, ap_set, ap_own, ownK_l, ownK_d, ap_ret, ap_if, ifK_t, ifK_f, ifK_b, ap_for, forL_nil, forL_cons, forK_nx, forK_ct, forK_bk, forK_rt, forK_if, ap_par, run_eq, runK_rt, runK_nx, runK_if, v_add, v_sub, v_neg, v_mod, v_div, v_mulR, v_mulL, v_mulB, v_addT, v_addL, v_catL, v_lt, v_le, v_gt, v_ge, v_eqI, v_neI, v_eqS, v_neS, v_lenT, v_lenL, v_intB, v_intI, v_not, v_min, v_max, v_abs, v_tupL, v_tupT, v_ixT, v_ixL, ix0, ix1, ix2, ix3, seqT, seqL, v_sumT, v_sumL, v_any, v_all, v_inT, v_inL, v_ninT, v_ninL, v_countT, mapMO_all, mapMO_some, mapMO_map, mapMO_range, v_sortedL, v_sortedT, v_cT, v_cTl, v_cTh, v_cL, v_cLl, v_cLh, v_eqNil, v_neNil, ix4, sel4_int, v_repT, v_isiI, v_isiS, v_isiB, v_isiN, ib_int, eq_dec, rl1, rl2, rl3, rl4, Bool.not_true, Bool.not_false, List.length_map, cutL_map, mkF, List.length_cons, List.length_nil, List.map_cons, List.map_nil, List.append_eq, List.cons_append, List.nil_append, List.getElem?_cons_zero, List.getElem?_cons_succ, List.set_cons_zero, List.set_cons_succ, Option.bind_some, Option.map_some, Option.bind_none, Option.map_none, Nat.zero_add, Nat.reduceAdd, Nat.reduceSub, Nat.reduceLeDiff, Nat.reduceLT, Nat.reduceEqDiff, Nat.reduceMul, LIM_eq, List.replicate_succ, List.replicate_zero, if_true, if_false, Bool.false_eq_true, Bool.true_eq_false, decide_true, decide_false, okS, noOwn, covers, tgIs, wipeO, List.all_cons, List.all_nil, List.any_cons, List.any_nil, Bool.and_true, Bool.true_and, Bool.and_self, Bool.or_false, Bool.false_or, Bool.or_true, beq_self_nat, kd, Int.reduceLT, Int.reduceLE, Int.reduceNeg, Int.reduceAdd, Int.reduceToNat, Int.reduceMul, Int.reduceSub, and_true, true_and, and_self, ite_true, ite_false, ↓reduceIte, nbeq, eq_self, ap_ext, ap_app, ap_put, lstK1_l, lstL_l, dicL_d, listK_l, m1, m1', m2, m2', m3, m3', p]
theorem f_lsumR (l : List (Rat × Rat)) (h : SmG 0 l) : f_law_sum [.list (l.map prD)] = some (frR (l.foldl (fun a p => a + p.1 * p.2) 0)) := by
  obtain ⟨e, f, k⟩ := lsum_loop (.val (.list (l.map prD))) l 0 .un .un h
  have e1 : ((0 : Rat).num) = 0 := rfl
  have e2 : (((0 : Rat).den : Nat) : Int) = 1 := rfl
  rw [e1, e2] at k
  simp only [f_law_sum, m_law_sum, m_law_sum_t0, m_law_sum_t1, m_law_sum_t2, m_law_sum_t3, m_law_sum_s0, m_law_sum_s1, m_law_sum_s2, ap_c, ap_t, ap_v, vK_val, vK_lst, vK_dic, ap_peek, pkK_val, pkK_lst, pkK_dic, ap_o1E, ap_o1P, ap_o2EE, ap_o2EP, ap_o2PE, ap_o2PP, ap_o3E, ap_o3P, ap_esNil, ap_esCons, ap_tup, ap_lst, tupK, lstK, ap_and, ap_or, andK_t, andK_f, andK_b, orK_t, orK_f, orK_b, ap_call, ap_mP, ap_mE, ap_iSeq, ap_iSeqA, kOfL, kOfT, kOfD, ap_dnil, ap_iR1, ap_iR2, r1_eq, r2_eq, ap_tgo1, ap_tgoM, setAll0, setAllC, eComp_eq, ap_turnT, ap_turnO, tuK_t, tuK_f, tuK_b, ap_seq, seqK_nx, seqK_rt, seqK_ct, seqK_bk, seqK_no, seqK_if, ap_nil, ap_cnt, ap_brk, ap_set, ap_own, ownK_l, ownK_d, ap_ret, ap_if, ifK_t, ifK_f, ifK_b, ap_for, forL_nil, forL_cons, forK_nx, forK_ct, forK_bk, forK_rt, forK_if, ap_par, run_eq, runK_rt, runK_nx, runK_if, v_add, v_sub, v_neg, v_mod, v_div, v_mulR, v_mulL, v_mulB, v_addT, v_addL, v_catL, v_lt, v_le, v_gt, v_ge, v_eqI, v_neI, v_eqS, v_neS, v_lenT, v_lenL, v_intB, v_intI, v_not, v_min, v_max, v_abs, v_tupL, v_tupT, v_ixT, v_ixL, ix0, ix1, ix2, ix3, seqT, seqL, v_sumT, v_sumL, v_any, v_all, v_inT, v_inL, v_ninT, v_ninL, v_countT, mapMO_all, mapMO_some, mapMO_map, mapMO_range, v_sortedL, v_sortedT, v_cT, v_cTl, v_cTh, v_cL, v_cLl, v_cLh, v_eqNil, v_neNil, ix4, sel4_int, v_repT, v_isiI, v_isiS, v_isiB, v_isiN, ib_int, eq_dec, rl1, rl2, rl3, rl4, Bool.not_true, Bool.not_false, List.length_map, cutL_map, mkF, List.length_cons, List.length_nil, List.map_cons, List.map_nil, List.append_eq, List.cons_append, List.nil_append, List.getElem?_cons_zero, List.getElem?_cons_succ, List.set_cons_zero, List.set_cons_succ, Option.bind_some, Option.map_some, Option.bind_none, Option.map_none, Nat.zero_add, Nat.reduceAdd, Nat.reduceSub, Nat.reduceLeDiff, Nat.reduceLT, Nat.reduceEqDiff, Nat.reduceMul, LIM_eq, List.replicate_succ, List.replicate_zero, if_true, if_false, Bool.false_eq_true, Bool.true_eq_false, decide_true, decide_false, okS, noOwn, covers, tgIs, wipeO, List.all_cons, List.all_nil, List.any_cons, List.any_nil, Bool.and_true, Bool.true_and, Bool.and_self, Bool.or_false, Bool.false_or, Bool.or_true, beq_self_nat, kd, Int.reduceLT, Int.reduceLE, Int.reduceNeg, Int.reduceAdd, Int.reduceToNat, Int.reduceMul, Int.reduceSub, and_true, true_and, and_self, ite_true, ite_false, ↓reduceIte, nbeq, eq_self, ap_ext, ap_app, ap_put, lstK1_l, lstL_l, dicL_d, listK_l, k]
theorem foldl_sum2 (l : List (Rat × Rat)) : ∀ a : Rat, l.foldl (fun a p => a + p.1 * p.2) a = a + (l.map fun p => p.1 * p.2).sum := by
  induction l with
  | nil => intro a; simp [Rat.add_zero]
  | cons x l ih => intro a; rw [List.foldl_cons, ih, List.map_cons, List.sum_cons, Rat.add_assoc]

/-! the law's own comparing -/
theorem f_above (a b : Rat) (ha : Sml a) (hb : Sml b) : f_law_above [frR a, frR b] = some (.bool (decide (b < a))) := by
  have m1 := v_mulG a.num b.den ha.n8 hb.d8
  have m2 := v_mulG b.num a.den hb.n8 ha.d8
  have e : decide (b < a) = decide (a.num * (b.den : Int) > b.num * (a.den : Int)) := decide_eq_decide.mpr (Rat.lt_iff b a)
  rw [e]
  simp only [f_law_above, m_law_above, ap_c, ap_t, ap_v, vK_val, vK_lst, vK_dic, ap_peek, pkK_val, pkK_lst, pkK_dic, ap_o1E, ap_o1P, ap_o2EE, ap_o2EP, ap_o2PE, ap_o2PP, ap_o3E, ap_o3P, ap_esNil, ap_esCons, ap_tup, ap_lst, tupK, lstK, ap_and, ap_or, andK_t, andK_f, andK_b, orK_t, orK_f, orK_b, ap_call, ap_mP, ap_mE, ap_iSeq, ap_iSeqA, kOfL, kOfT, kOfD, ap_dnil, ap_iR1, ap_iR2, r1_eq, r2_eq, ap_tgo1, ap_tgoM, setAll0, setAllC, eComp_eq, ap_turnT, ap_turnO, tuK_t, tuK_f, tuK_b, ap_seq, seqK_nx, seqK_rt, seqK_ct, seqK_bk, seqK_no, seqK_if, ap_nil, ap_cnt, ap_brk, ap_set, ap_own, ownK_l, ownK_d, ap_ret, ap_if, ifK_t, ifK_f, ifK_b, ap_for, forL_nil, forL_cons, forK_nx, forK_ct, forK_bk, forK_rt, forK_if, ap_par, run_eq, runK_rt, runK_nx, runK_if, v_add, v_sub, v_neg, v_mod, v_div, v_mulR, v_mulL, v_mulB, v_addT, v_addL, v_catL, v_lt, v_le, v_gt, v_ge, v_eqI, v_neI, v_eqS, v_neS, v_lenT, v_lenL, v_intB, v_intI, v_not, v_min, v_max, v_abs, v_tupL, v_tupT, v_ixT, v_ixL, ix0, ix1, ix2, ix3, seqT, seqL, v_sumT, v_sumL, v_any, v_all, v_inT, v_inL, v_ninT, v_ninL, v_countT, mapMO_all, mapMO_some, mapMO_map, mapMO_range, v_sortedL, v_sortedT, v_cT, v_cTl, v_cTh, v_cL, v_cLl, v_cLh, v_eqNil, v_neNil, ix4, sel4_int, v_repT, v_isiI, v_isiS, v_isiB, v_isiN, ib_int, eq_dec, rl1, rl2, rl3, rl4, Bool.not_true, Bool.not_false, List.length_map, cutL_map, mkF, List.length_cons, List.length_nil, List.map_cons, List.map_nil, List.append_eq, List.cons_append, List.nil_append, List.getElem?_cons_zero, List.getElem?_cons_succ, List.set_cons_zero, List.set_cons_succ, Option.bind_some, Option.map_some, Option.bind_none, Option.map_none, Nat.zero_add, Nat.reduceAdd, Nat.reduceSub, Nat.reduceLeDiff, Nat.reduceLT, Nat.reduceEqDiff, Nat.reduceMul, LIM_eq, List.replicate_succ, List.replicate_zero, if_true, if_false, Bool.false_eq_true, Bool.true_eq_false, decide_true, decide_false, okS, noOwn, covers, tgIs, wipeO, List.all_cons, List.all_nil, List.any_cons, List.any_nil, Bool.and_true, Bool.true_and, Bool.and_self, Bool.or_false, Bool.false_or, Bool.or_true, beq_self_nat, kd, Int.reduceLT, Int.reduceLE, Int.reduceNeg, Int.reduceAdd, Int.reduceToNat, Int.reduceMul, Int.reduceSub, and_true, true_and, and_self, ite_true, ite_false, ↓reduceIte, nbeq, eq_self, ap_ext, ap_app, ap_put, lstK1_l, lstL_l, dicL_d, listK_l, m1, m2]

/-! the best is the greatest -/
theorem bst_fold (l : List (Rat × Mv)) : ∀ (a : Option (Rat × Mv)) (q : Rat × Mv), l.foldl bstep a = some q → (∀ p ∈ l, p.1 ≤ q.1) ∧ ∀ p, a = some p → p.1 ≤ q.1 := by
  induction l with
  | nil => intro a q h; exact ⟨fun p hp => absurd hp List.not_mem_nil, fun p hp => by rw [show List.foldl bstep a [] = a from rfl, hp] at h; rw [Option.some.inj h]; exact Rat.le_refl⟩
  | cons x l ih =>
    intro a q h
    rw [List.foldl_cons] at h
    obtain ⟨h1, h2⟩ := ih _ _ h
    have hx : ∃ y, bstep a x = some y ∧ x.1 ≤ y.1 ∧ ∀ p, a = some p → p.1 ≤ y.1 := by
      unfold bstep
      cases a with
      | none => exact ⟨x, rfl, Rat.le_refl, fun p hp => by cases hp⟩
      | some y =>
        by_cases h : y.1 < x.1
        · refine ⟨x, by simp only [if_pos h], Rat.le_refl, fun p hp => ?_⟩
          rw [← Option.some.inj hp]
          exact Rat.le_of_lt h
        · refine ⟨y, by simp only [if_neg h], Rat.not_lt.mp h, fun p hp => ?_⟩
          rw [← Option.some.inj hp]
          exact Rat.le_refl
    obtain ⟨y, e, e1, e2⟩ := hx
    have hy := h2 y e
    refine ⟨fun p hp => ?_, fun p hp => Rat.le_trans (e2 p hp) hy⟩
    rcases List.mem_cons.mp hp with rfl | hp
    · exact Rat.le_trans e1 hy
    · exact h1 p hp
theorem bst_max {l : List (Rat × Mv)} {q : Rat × Mv} (h : bst l = some q) : ∀ p ∈ l, p.1 ≤ q.1 := (bst_fold l none q h).1
theorem W_max {g : Gd} (hg : GdOk g) {x : St} (hx : StOk g x) {m : Mv} (hm : m ∈ movsV x) : valV g (Wg g) x m ≤ Wg g x := by
  obtain ⟨m0, _, _, w2⟩ := Wb_in hg hx
  exact bst_max w2 (valV g (Wg g) x m, m) (List.mem_map_of_mem hm)
theorem W_is {g : Gd} (hg : GdOk g) {x : St} (hx : StOk g x) : ∃ m ∈ movsV x, Wg g x = valV g (Wg g) x m := by
  obtain ⟨m0, h0, w1, _⟩ := Wb_in hg hx
  exact ⟨m0, h0, by show (Wb g x).1 = _; rw [w1]⟩
theorem W_le {g : Gd} (hg : GdOk g) {x : St} (hx : StOk g x) {r : Rat} (h : ∀ m ∈ movsV x, valV g (Wg g) x m ≤ r) : Wg g x ≤ r := by
  obtain ⟨m, hm, e⟩ := W_is hg hx
  rw [e]
  exact h m hm
/-! told once more -/
theorem mem_any {l : List Mv} {m : Mv} (h : m ∈ l) : (l.map Mv.d).any (fun d => PyData.eqv d m.d) = true := by
  rw [List.any_eq_true]
  exact ⟨m.d, List.mem_map_of_mem h, SeqAt.eqv_refl_plain _ (ok9_mv m).1⟩
theorem fr0 : frR 0 = .tuple [.int 0, .int 1] := rfl
theorem v_eqFr (r : Rat) : sEq (frR r) (frR r) = some (.bool true) := v_eqSame _ (ok9_fr _ _ 0).1 (Nat.le_trans (ok9_fr r.num r.den 0).2 (by decide))
theorem v_neFr (r : Rat) : sNe (frR r) (frR r) = some (.bool false) := v_neSame _ (ok9_fr _ _ 0).1 (Nat.le_trans (ok9_fr r.num r.den 0).2 (by decide))
theorem nin_of {l : List D} {d : D} {n : Nat} (hl : ∀ y ∈ l, ok9 y n) (hd : d ∈ l) (hn : n ≤ 50) : sNinA d (.list l) = some (.bool false) ∧ sNinA d (.tuple l) = some (.bool false) := by
  have h2 := hl d hd
  have q : (d.plain && PyData.plainAll l && decide (d.depth ≤ lvl)) = true := by
    have h3 : PyData.plainAll l = true := plain_of fun y hy => (hl y hy).1
    have h4 : decide (d.depth ≤ lvl) = true := decide_eq_true (Nat.le_trans h2.2 (Nat.le_trans hn (by decide)))
    rw [h2.1, h3, h4]
    rfl
  have e : l.any (fun z => PyData.eqv z d) = true := List.any_eq_true.mpr ⟨d, hd, SeqAt.eqv_refl_plain _ h2.1⟩
  constructor <;> (unfold sNinA or2 sNin; simp only [q, if_true, e, Bool.not_true])

/-! sums as the law asks them, of any values -/
def prsC (w : St → Rat) (l : List (St × Int × Int)) : List (Rat × Rat) := l.map fun q => (shR q, w q.1)
theorem some_okC {w : St → Rat} {l : List (St × Int × Int)} (h : ∀ q ∈ l, Sml (w q.1) ∧ Sml (shR q) ∧ Szz (den 13) (bnd 12) (shR q * w q.1)) (hl : l.length ≤ 20) : SmG 0 (prsC w l) := by
  have z := szz_int 0 (den 13) 0 (by simp) (den_ne _)
  refine smG_of (N := den 13) (M := bnd 12) (M0 := 0) (den_ne _) (den_lt (by decide)) (fun r hr => ?_) z ?_
  · obtain ⟨q, hq, rfl⟩ := List.mem_map.mp hr
    obtain ⟨h1, h2, h3⟩ := h q hq
    exact ⟨h2, h1, h3⟩
  · unfold prsC
    rw [List.length_map]
    have h2 := bnd_lt (n := 12) (by decide)
    have h1 : l.length * bnd 12 ≤ 20 * bnd 12 := Nat.mul_le_mul_right _ hl
    omega
theorem lsum_prC {w : St → Rat} {l : List (St × Int × Int)} (h : SmG 0 (prsC w l)) : f_law_sum [.list (l.map fun q => prD (shR q, w q.1))] = some (frR ((l.map fun q => shR q * w q.1).sum)) := by
  have := f_lsumR _ h
  rw [foldl_sum2, Rat.zero_add] at this
  unfold prsC at this
  rw [List.map_map, List.map_map] at this
  exact this

/-! how often a goal is come to -/
def endV (need had : Int) : Rat := if need ≤ had then 1 else 0
def valC (g : Gd) (c : Int → St → Rat) (need : Int) (x : St) (m : Mv) : Rat := if (comsV g x m).2.isEmpty = true then endV need (comsV g x m).1 else ((comsV g x m).2.map fun q => shR q * c (need - (comsV g x m).1) q.1).sum
def Cf (g : Gd) : Nat → Int → St → Rat × Mv
  | 0, _, _ => (0, .fill 0)
  | n + 1, need, x => (bst ((movsV x).map fun m => (valC g (fun i y => (Cf g n i y).1) need x m, m))).getD (0, .fill 0)
def Cb (g : Gd) (need : Int) (x : St) : Rat × Mv := Cf g (rk g x + 1) need x
abbrev Cg (g : Gd) (need : Int) (x : St) : Rat := (Cb g need x).1
theorem valC_congr {g : Gd} {need : Int} {x : St} {m : Mv} {w w' : Int → St → Rat} (h : ∀ q ∈ (comsV g x m).2, ∀ i, w i q.1 = w' i q.1) : valC g w need x m = valC g w' need x m := by
  unfold valC
  split
  · rfl
  · rw [List.map_congr_left fun q hq => by rw [h q hq]]
theorem bstC_congr {g : Gd} {need : Int} {x : St} {w w' : Int → St → Rat} (h : ∀ m ∈ movsV x, ∀ q ∈ (comsV g x m).2, ∀ i, w i q.1 = w' i q.1) : (bst ((movsV x).map fun m => (valC g w need x m, m))).getD (0, Mv.fill 0) = (bst ((movsV x).map fun m => (valC g w' need x m, m))).getD (0, Mv.fill 0) := by
  have e : ((movsV x).map fun m => (valC g w need x m, m)) = (movsV x).map fun m => (valC g w' need x m, m) := List.map_congr_left fun m hm => by rw [valC_congr (h m hm)]
  rw [e]
theorem Cf_stable {g : Gd} (hg : GdOk g) : ∀ (r : Nat) (x : St), StOk g x → rk g x ≤ r → ∀ n need, rk g x < n → Cf g n need x = Cb g need x := by
  intro r
  induction r with
  | zero =>
    intro x hx hr n need hn
    cases n with
    | zero => omega
    | succ n =>
      unfold Cb
      exact bstC_congr fun m hm q hq => by have := (next_ok hg hx hm q hq).rk; omega
  | succ r ih =>
    intro x hx hr n need hn
    cases n with
    | zero => omega
    | succ n =>
      unfold Cb
      refine bstC_congr fun m hm q hq i => ?_
      have k := next_ok hg hx hm q hq
      have k2 := k.rk
      have e1 := ih q.1 k.ok (by omega) n i (by omega)
      have e2 := ih q.1 k.ok (by omega) (rk g x) i (by omega)
      show (Cf g n i q.1).1 = (Cf g (rk g x) i q.1).1
      rw [e1, e2]
theorem Cb_eq {g : Gd} (hg : GdOk g) {x : St} (hx : StOk g x) (need : Int) : Cb g need x = (bst ((movsV x).map fun m => (valC g (Cg g) need x m, m))).getD (0, .fill 0) := by
  conv => lhs; unfold Cb
  refine bstC_congr fun m hm q hq i => ?_
  have k := next_ok hg hx hm q hq
  have e1 := Cf_stable hg (rk g q.1) q.1 k.ok (Nat.le_refl _) _ i k.rk
  show (Cf g (rk g x) i q.1).1 = _
  rw [e1]
theorem Cb_in {g : Gd} (hg : GdOk g) {x : St} (hx : StOk g x) (need : Int) : ∃ m ∈ movsV x, Cb g need x = (valC g (Cg g) need x m, m) ∧ bst ((movsV x).map fun m => (valC g (Cg g) need x m, m)) = some (Cb g need x) := by
  obtain ⟨p, hp⟩ := bst_some (l := (movsV x).map fun m => (valC g (Cg g) need x m, m)) fun e => movs_ne hx (List.map_eq_nil_iff.mp e)
  have e := Cb_eq hg hx need
  rw [hp] at e
  have e : Cb g need x = p := e
  obtain ⟨m, hm, q⟩ := List.mem_map.mp (bst_mem hp)
  exact ⟨m, hm, by rw [e, ← q], by rw [hp, e]⟩
theorem endV_szz (n : Nat) (need had : Int) : Szz (den n) (bnd n) (endV need had) := by
  have := bnd_1 n
  unfold endV
  split
  · exact szz_int 1 (den n) (bnd n) (by omega) (den_ne _)
  · exact szz_int 0 (den n) (bnd n) (by omega) (den_ne _)
theorem C_szz {g : Gd} (hg : GdOk g) : ∀ (n : Nat) (need : Int) (x : St), StOk g x → rk g x < n → Szz (den n) (bnd n) (Cg g need x)
  | 0, _, _, _, h => absurd h (Nat.not_lt_zero _)
  | n + 1, need, x, hx, hr => by
    obtain ⟨m, hm, e, _⟩ := Cb_in hg hx need
    show Szz _ _ (Cb g need x).1
    rw [e]
    show Szz _ _ (valC g (Cg g) need x m)
    unfold valC
    split
    · exact endV_szz _ _ _
    · have hl := coms_len hg x m
      have b : Szz (den (n + 1)) (((comsV g x m).2.map fun q => shR q * Cg g (need - (comsV g x m).1) q.1).length * bnd n) ((comsV g x m).2.map fun q => shR q * Cg g (need - (comsV g x m).1) q.1).sum := by
        refine szz_sum (den_ne _) fun r hr2 => ?_
        obtain ⟨q, hq, rfl⟩ := List.mem_map.mp hr2
        have k := next_ok hg hx hm q hq
        exact part_szz k (C_szz hg n _ q.1 k.ok (by have := k.rk; omega))
      rw [List.length_map] at b
      have c := b.up 1 (M' := bnd (n + 1)) (by
        unfold bnd
        have e1 : (comsV g x m).2.length * (100 * 21 ^ n) ≤ 20 * (100 * 21 ^ n) := Nat.mul_le_mul_right _ hl
        have e2 : 0 < 21 ^ n := Nat.pow_pos (by decide)
        rw [Nat.pow_succ]
        omega) (by decide)
      rw [Nat.mul_one] at c
      exact c
theorem C_sml {g : Gd} (hg : GdOk g) {x : St} (hx : StOk g x) (need : Int) : Sml (Cg g need x) := by
  have h := C_szz hg 12 need x hx (rk_lt hg hx)
  exact sml_of (n := 12) (by decide) (Nat.le_refl _) (by have := bnd_1 12; omega) h (den_ne _)
theorem partsC_F {g : Gd} (hg : GdOk g) {x : St} (hx : StOk g x) {m : Mv} (hm : m ∈ movsV x) (i : Int) : SmF 0 ((comsV g x m).2.map fun q => shR q * Cg g i q.1) := by
  have hl := coms_len hg x m
  have z := szz_int 0 (den 13) 0 (by simp) (den_ne _)
  refine smF_of (N := den 13) (M := bnd 12) (M0 := 0) (den_ne _) (den_lt (by decide)) (fun r hr => ?_) z ?_
  · obtain ⟨q, hq, rfl⟩ := List.mem_map.mp hr
    have k := next_ok hg hx hm q hq
    exact part_szz k (C_szz hg 12 i q.1 k.ok (rk_lt hg k.ok))
  · rw [List.length_map]
    have h2 := bnd_lt (n := 12) (by decide)
    have h1 : (comsV g x m).2.length * bnd 12 ≤ 20 * bnd 12 := Nat.mul_le_mul_right _ hl
    omega
theorem valC_sml {g : Gd} (hg : GdOk g) {x : St} (hx : StOk g x) {m : Mv} (hm : m ∈ movsV x) (need : Int) : Sml (valC g (Cg g) need x m) := by
  have hl := coms_len hg x m
  unfold valC
  split
  · exact sml_of (n := 13) (by decide) (Nat.le_refl _) (by omega) (endV_szz 13 _ _) (den_ne _)
  · have b : Szz (den 13) (((comsV g x m).2.map fun q => shR q * Cg g (need - (comsV g x m).1) q.1).length * bnd 12) ((comsV g x m).2.map fun q => shR q * Cg g (need - (comsV g x m).1) q.1).sum := by
      refine szz_sum (den_ne _) fun r hr2 => ?_
      obtain ⟨q, hq, rfl⟩ := List.mem_map.mp hr2
      have k := next_ok hg hx hm q hq
      exact part_szz k (C_szz hg 12 _ q.1 k.ok (rk_lt hg k.ok))
    rw [List.length_map] at b
    have h2 := bnd_1 12
    have e1 : (comsV g x m).2.length * bnd 12 ≤ 20 * bnd 12 := Nat.mul_le_mul_right _ hl
    have e2 : bnd 13 = bnd 12 * 21 := by unfold bnd; rw [Nat.pow_succ, Nat.mul_assoc]
    exact sml_of (n := 13) (by decide) (Nat.le_refl _) (by omega) b (den_ne _)
theorem C_max {g : Gd} (hg : GdOk g) {x : St} (hx : StOk g x) {m : Mv} (hm : m ∈ movsV x) (need : Int) : valC g (Cg g) need x m ≤ Cg g need x := by
  obtain ⟨m0, _, _, w2⟩ := Cb_in hg hx need
  exact bst_max w2 (valC g (Cg g) need x m, m) (List.mem_map_of_mem hm)
theorem C_is {g : Gd} (hg : GdOk g) {x : St} (hx : StOk g x) (need : Int) : ∃ m ∈ movsV x, Cg g need x = valC g (Cg g) need x m := by
  obtain ⟨m0, h0, w1, _⟩ := Cb_in hg hx need
  exact ⟨m0, h0, by show (Cb g need x).1 = _; rw [w1]⟩
/-! keys of a need and a stand -/
abbrev nsD (p : Int × St) : D := .tuple [.int p.1, p.2.d]
theorem ky_ns : Ky nsD := by
  refine ⟨fun a b => ?_, fun a => ?_⟩
  · obtain ⟨i, x⟩ := a
    obtain ⟨j, y⟩ := b
    show PyData.eqv (.tuple [.int i, x.d]) (.tuple [.int j, y.d]) = _
    simp only [PyData.eqv, PyData.eqvAll, eqv_int, eqv_st, Bool.and_true]
    by_cases h1 : i = j <;> by_cases h2 : x = y <;> simp [h1, h2]
  · obtain ⟨i, x⟩ := a
    have h := nk_st x
    have d1 := depth_nums x.bs
    have d2 := depth_nums x.ds
    have h2 : nks [.int i, x.d] = some [.num i, .tup [.tup (x.bs.map .num), .num x.lf, .tup (x.ds.map .num)]] := by
      unfold nks
      unfold nks
      rw [h]
      rfl
    show (match nks [.int i, x.d] with
      | some ks => if NestedKey.depth (.tup ks) ≤ 8 then some true else none
      | none => none) = _
    rw [h2]
    have : NestedKey.depth (.tup [.num i, .tup [.tup (x.bs.map .num), .num x.lf, .tup (x.ds.map .num)]]) ≤ 8 := by
      simp only [NestedKey.depth, NestedKey.depthAll] at *
      omega
    simp only [if_pos this]
structure MokC (g : Gd) (N : Int) (L : List (Int × St)) : Prop where
  nd : L.Nodup
  ok : ∀ p ∈ L, StOk g p.2 ∧ N - 800 ≤ p.1 ∧ p.1 ≤ N
def allNs (g : Gd) (N : Int) : List (Int × St) := (List.range 801).flatMap fun (k : Nat) => (allSt g).map fun x => (N - (k : Int), x)
theorem flat_len {α β : Type} (f : α → List β) (n : Nat) : ∀ l : List α, (∀ x ∈ l, (f x).length ≤ n) → (l.flatMap f).length ≤ l.length * n
  | [], _ => by simp
  | x :: l, h => by
    have h1 := h x List.mem_cons_self
    have h2 := flat_len f n l fun y hy => h y (List.mem_cons_of_mem _ hy)
    rw [List.flatMap_cons, List.length_append, List.length_cons, Nat.add_mul]
    omega
theorem MokC.len {g : Gd} (hg : GdOk g) {N : Int} {L : List (Int × St)} (h : MokC g N L) : L.length ≤ 240300 := by
  have h1 : L.length ≤ (allNs g N).length := len_sub h.nd fun p hp => by
    obtain ⟨h1, h2, h3⟩ := h.ok p hp
    refine List.mem_flatMap.mpr ⟨(N - p.1).toNat, List.mem_range.mpr (by omega), List.mem_map.mpr ⟨p.2, allSt_mem hg h1, ?_⟩⟩
    have : N - ((N - p.1).toNat : Int) = p.1 := by omega
    rw [this]
  have h2 := flat_len (fun k : Nat => (allSt g).map fun x => (N - (k : Int), x)) 300 (List.range 801) fun k _ => by
    rw [List.length_map]; exact allSt_len hg
  rw [List.length_range] at h2
  exact Nat.le_trans h1 h2
def addA {α : Type} [DecidableEq α] (L : List α) (x : α) : List α := if x ∈ L then L else L ++ [x]
theorem mem_addA {α : Type} [DecidableEq α] (L : List α) (x : α) : x ∈ addA L x := by
  unfold addA
  split
  · assumption
  · simp
theorem MokC.add {g : Gd} {N : Int} {L : List (Int × St)} (h : MokC g N L) {p : Int × St} (hp : StOk g p.2 ∧ N - 800 ≤ p.1 ∧ p.1 ≤ N) : MokC g N (addA L p) := by
  unfold addA
  split
  · exact h
  · rename_i hn
    refine ⟨List.nodup_append.mpr ⟨h.nd, by simp, fun y hy z hz e => hn ?_⟩, fun y hy => ?_⟩
    · rw [List.mem_singleton.mp hz] at e
      rw [← e]; exact hy
    · rcases List.mem_append.mp hy with q | q
      · exact h.ok y q
      · rw [List.mem_singleton.mp q]; exact hp
theorem mokC0 (g : Gd) (N : Int) : MokC g N [] := ⟨List.nodup_nil, fun x h => absurd h List.not_mem_nil⟩
def vC (g : Gd) (p : Int × St) : D := .tuple [frR (Cg g p.1 p.2), (Cb g p.1 p.2).2.d]
abbrev OC (g : Gd) (L : List (Int × St)) : O := obj 0 g.d (mem nsD (vC g) L)
def KC (g : Gd) (N : Int) (n : Nat) : Prop := ∀ need x, StOk g x → rk g x < n → N - 50 * (16 - (n : Int)) ≤ need → need ≤ N → ∀ L, MokC g N L → ∃ L', MokC g N L' ∧ f_Chances_known_of n (OC g L) [.int need, x.d] = some (vC g (need, x), OC g L')
theorem fr_end (need had : Int) : PyData.tuple [.int (if decide (had ≥ need) = true then 1 else 0), .int 1] = frR (endV need had) := by
  unfold endV
  by_cases h : need ≤ had
  · simp only [ge_iff_le, decide_eq_true h, if_true, if_pos h]; rfl
  · simp only [ge_iff_le, decide_eq_false h, if_neg h, Bool.false_eq_true, if_false]; rfl
theorem of_moveC {g : Gd} (hg : GdOk g) {N : Int} {n : Nat} (hn : n + 1 ≤ 16) (K : KC g N n) {need : Int} {x : St} (hx : StOk g x) (hr : rk g x < n + 1) (h0 : N - 50 * (16 - ((n + 1 : Nat) : Int)) ≤ need) (h1 : need ≤ N) {m : Mv} (hm : m ∈ movsV x) {L : List (Int × St)} (hL : MokC g N L) : ∃ L', MokC g N L' ∧ f_Chances_of_move (f_Chances_known_of n) (OC g L) [.int need, x.d, m.d] = some (frR (valC g (Cg g) need x m), OC g L') := by
  have c1 := f_com g hg x hx m hm
  obtain ⟨hd0, hd1⟩ := had_few hg hx hm
  by_cases hne : (comsV g x m).2.isEmpty = true
  · refine ⟨L, hL, ?_⟩
    have hl : (comsV g x m).2.length = 0 := by rw [List.isEmpty_iff.mp hne]; rfl
    have hv : valC g (Cg g) need x m = endV need (comsV g x m).1 := by unfold valC; rw [if_pos hne]
    have fe := fr_end need (comsV g x m).1
    rw [← hv] at fe
    unfold f_Chances_of_move
    refine mkB_obj (r' := [.val (.int need), .val x.d, .val m.d, .val (.int (comsV g x m).1), .val (.tuple ((comsV g x m).2.map stD)), .un, .un]) rfl ?_
    rw [← fe]
    simp only [m_Chances_of_move, m_Chances_of_move_t0, m_Chances_of_move_s0, m_Chances_of_move_t1, m_Chances_of_move_s1, ap_c, ap_t, ap_v, vK_val, vK_lst, vK_dic, ap_peek, pkK_val, pkK_lst, pkK_dic, ap_o1E, ap_o1P, ap_o2EE, ap_o2EP, ap_o2PE, ap_o2PP, ap_o3E, ap_o3P, ap_esNil, ap_esCons, ap_tup, ap_lst, tupK, lstK, ap_and, ap_or, andK_t, andK_f, andK_b, orK_t, orK_f, orK_b, ap_call, ap_mP, ap_mE, ap_iSeq, ap_iSeqA, kOfL, kOfT, kOfD, ap_dnil, ap_iR1, ap_iR2, r1_eq, r2_eq, ap_tgo1, ap_tgoM, setAll0, setAllC, eComp_eq, ap_turnT, ap_turnO, tuK_t, tuK_f, tuK_b, ap_seq, seqK_nx, seqK_rt, seqK_ct, seqK_bk, seqK_no, seqK_if, ap_nil, ap_cnt, ap_brk, ap_set, ap_own, ownK_l, ownK_d, ap_ret, ap_if, ifK_t, ifK_f, ifK_b, ap_for, forL_nil, forL_cons, forK_nx, forK_ct, forK_bk, forK_rt, forK_if, ap_par, run_eq, runK_rt, runK_nx, runK_if, v_add, v_sub, v_neg, v_mod, v_div, v_mulR, v_mulL, v_mulB, v_addT, v_addL, v_catL, v_lt, v_le, v_gt, v_ge, v_eqI, v_neI, v_eqS, v_neS, v_lenT, v_lenL, v_intB, v_intI, v_not, v_min, v_max, v_abs, v_tupL, v_tupT, v_ixT, v_ixL, ix0, ix1, ix2, ix3, seqT, seqL, v_sumT, v_sumL, v_any, v_all, v_inT, v_inL, v_ninT, v_ninL, v_countT, mapMO_all, mapMO_some, mapMO_map, mapMO_range, v_sortedL, v_sortedT, v_cT, v_cTl, v_cTh, v_cL, v_cLl, v_cLh, v_eqNil, v_neNil, ix4, sel4_int, v_repT, v_isiI, v_isiS, v_isiB, v_isiN, ib_int, eq_dec, rl1, rl2, rl3, rl4, Bool.not_true, Bool.not_false, List.length_map, cutL_map, mkF, List.length_cons, List.length_nil, List.map_cons, List.map_nil, List.append_eq, List.cons_append, List.nil_append, List.getElem?_cons_zero, List.getElem?_cons_succ, List.set_cons_zero, List.set_cons_succ, Option.bind_some, Option.map_some, Option.bind_none, Option.map_none, Nat.zero_add, Nat.reduceAdd, Nat.reduceSub, Nat.reduceLeDiff, Nat.reduceLT, Nat.reduceEqDiff, Nat.reduceMul, LIM_eq, List.replicate_succ, List.replicate_zero, if_true, if_false, Bool.false_eq_true, Bool.true_eq_false, decide_true, decide_false, okS, noOwn, covers, tgIs, wipeO, List.all_cons, List.all_nil, List.any_cons, List.any_nil, Bool.and_true, Bool.true_and, Bool.and_self, Bool.or_false, Bool.false_or, Bool.or_true, beq_self_nat, kd, Int.reduceLT, Int.reduceLE, Int.reduceNeg, Int.reduceAdd, Int.reduceToNat, Int.reduceMul, Int.reduceSub, and_true, true_and, and_self, ite_true, ite_false, ↓reduceIte, nbeq, eq_self, ap_ext, ap_app, ap_put, lstK1_l, lstL_l, dicL_d, listK_l, ap_eQg, c1, hl]
    rfl
  · obtain ⟨b, b1, b2⟩ := comp_st (it := iSeqA (eV 5)) (tg := .many [6, 7]) (cd := eTrue) (e := eCall f_times (esCons (eV 7) (esCons (o2 sIxA (kE (eMeth 0 0 "known_of" (f_Chances_known_of n) (esCons (o2 sSub (kP 1) (kP 4)) (esCons (eV 6) esNil)))) (kE (eC (.int 0)))) esNil))) (vs := [6, 7])
      (fun L => [.bor 0 (OC g L), .val (.int need), .val x.d, .val m.d, .val (.int (comsV g x m).1), .val (.tuple ((comsV g x m).2.map stD)), .un, .un]) (MokC g N) stD (fun q => frR (shR q * Cg g (need - (comsV g x m).1) q.1)) (comsV g x m).2 (fun b => rfl) (fun b => rfl) (fun b => rfl) (fun b b' => rfl)
      (fun q hq L hL => by
        have k := next_ok hg hx hm q hq
        have hr2 := k.rk
        obtain ⟨L', h1, h2⟩ := K (need - (comsV g x m).1) q.1 k.ok (by omega) (by omega) (by omega) L hL
        refine ⟨L', h1, fun acc => ?_⟩
        have e := meth_at (r := [.val (.int need), .val x.d, .val m.d, .val (.int (comsV g x m).1), .val (.tuple ((comsV g x m).2.map stD)), .val q.1.d, .val (frD q.2.1 q.2.2)]) (j := 0) (es := esCons (o2 sSub (kP 1) (kP 4)) (esCons (eV 6) esNil)) (ds := [.int (need - (comsV g x m).1), q.1.d]) is_known_of rfl h2
        have t := f_timesR (shR q) (Cg g (need - (comsV g x m).1) q.1) (sh_sml k) (C_sml hg k.ok _)
        rw [← fr_sh k] at t
        unfold lcTurn
        simp only [stD, ap_c, ap_t, ap_v, vK_val, vK_lst, vK_dic, ap_peek, pkK_val, pkK_lst, pkK_dic, ap_o1E, ap_o1P, ap_o2EE, ap_o2EP, ap_o2PE, ap_o2PP, ap_o3E, ap_o3P, ap_esNil, ap_esCons, ap_tup, ap_lst, tupK, lstK, ap_and, ap_or, andK_t, andK_f, andK_b, orK_t, orK_f, orK_b, ap_call, ap_mP, ap_mE, ap_iSeq, ap_iSeqA, kOfL, kOfT, kOfD, ap_dnil, ap_iR1, ap_iR2, r1_eq, r2_eq, ap_tgo1, ap_tgoM, setAll0, setAllC, eComp_eq, ap_turnT, ap_turnO, tuK_t, tuK_f, tuK_b, ap_seq, seqK_nx, seqK_rt, seqK_ct, seqK_bk, seqK_no, seqK_if, ap_nil, ap_cnt, ap_brk, ap_set, ap_own, ownK_l, ownK_d, ap_ret, ap_if, ifK_t, ifK_f, ifK_b, ap_for, forL_nil, forL_cons, forK_nx, forK_ct, forK_bk, forK_rt, forK_if, ap_par, run_eq, runK_rt, runK_nx, runK_if, v_add, v_sub, v_neg, v_mod, v_div, v_mulR, v_mulL, v_mulB, v_addT, v_addL, v_catL, v_lt, v_le, v_gt, v_ge, v_eqI, v_neI, v_eqS, v_neS, v_lenT, v_lenL, v_intB, v_intI, v_not, v_min, v_max, v_abs, v_tupL, v_tupT, v_ixT, v_ixL, ix0, ix1, ix2, ix3, seqT, seqL, v_sumT, v_sumL, v_any, v_all, v_inT, v_inL, v_ninT, v_ninL, v_countT, mapMO_all, mapMO_some, mapMO_map, mapMO_range, v_sortedL, v_sortedT, v_cT, v_cTl, v_cTh, v_cL, v_cLl, v_cLh, v_eqNil, v_neNil, ix4, sel4_int, v_repT, v_isiI, v_isiS, v_isiB, v_isiN, ib_int, eq_dec, rl1, rl2, rl3, rl4, Bool.not_true, Bool.not_false, List.length_map, cutL_map, mkF, List.length_cons, List.length_nil, List.map_cons, List.map_nil, List.append_eq, List.cons_append, List.nil_append, List.getElem?_cons_zero, List.getElem?_cons_succ, List.set_cons_zero, List.set_cons_succ, Option.bind_some, Option.map_some, Option.bind_none, Option.map_none, Nat.zero_add, Nat.reduceAdd, Nat.reduceSub, Nat.reduceLeDiff, Nat.reduceLT, Nat.reduceEqDiff, Nat.reduceMul, LIM_eq, List.replicate_succ, List.replicate_zero, if_true, if_false, Bool.false_eq_true, Bool.true_eq_false, decide_true, decide_false, okS, noOwn, covers, tgIs, wipeO, List.all_cons, List.all_nil, List.any_cons, List.any_nil, Bool.and_true, Bool.true_and, Bool.and_self, Bool.or_false, Bool.false_or, Bool.or_true, beq_self_nat, kd, Int.reduceLT, Int.reduceLE, Int.reduceNeg, Int.reduceAdd, Int.reduceToNat, Int.reduceMul, Int.reduceSub, and_true, true_and, and_self, ite_true, ite_false, ↓reduceIte, nbeq, eq_self, ap_ext, ap_app, ap_put, lstK1_l, lstL_l, dicL_d, listK_l, e, t, vC]) L hL
    have t1 := f_totalR _ (partsC_F hg hx hm (need - (comsV g x m).1))
    rw [foldl_sum, Rat.zero_add, List.map_map] at t1
    have hv : valC g (Cg g) need x m = ((comsV g x m).2.map fun q => shR q * Cg g (need - (comsV g x m).1) q.1).sum := by unfold valC; rw [if_neg hne]
    have t2 : f_total [.list ((comsV g x m).2.map fun q => frR (shR q * Cg g (need - (comsV g x m).1) q.1))] = some (frR (valC g (Cg g) need x m)) := by rw [hv]; exact t1
    refine ⟨b, b1, ?_⟩
    have hl : decide (((comsV g x m).2.length : Int) = 0) = false := decide_eq_false fun e => hne (by
      have : (comsV g x m).2.length = 0 := by omega
      rw [List.isEmpty_iff]; exact List.eq_nil_of_length_eq_zero this)
    unfold f_Chances_of_move
    refine mkB_obj (r' := [.val (.int need), .val x.d, .val m.d, .val (.int (comsV g x m).1), .val (.tuple ((comsV g x m).2.map stD)), .un, .un]) rfl ?_
    simp only [m_Chances_of_move, m_Chances_of_move_t0, m_Chances_of_move_s0, m_Chances_of_move_t1, m_Chances_of_move_s1, m_Chances_of_move_t2, ap_c, ap_t, ap_v, vK_val, vK_lst, vK_dic, ap_peek, pkK_val, pkK_lst, pkK_dic, ap_o1E, ap_o1P, ap_o2EE, ap_o2EP, ap_o2PE, ap_o2PP, ap_o3E, ap_o3P, ap_esNil, ap_esCons, ap_tup, ap_lst, tupK, lstK, ap_and, ap_or, andK_t, andK_f, andK_b, orK_t, orK_f, orK_b, ap_call, ap_mP, ap_mE, ap_iSeq, ap_iSeqA, kOfL, kOfT, kOfD, ap_dnil, ap_iR1, ap_iR2, r1_eq, r2_eq, ap_tgo1, ap_tgoM, setAll0, setAllC, eComp_eq, ap_turnT, ap_turnO, tuK_t, tuK_f, tuK_b, ap_seq, seqK_nx, seqK_rt, seqK_ct, seqK_bk, seqK_no, seqK_if, ap_nil, ap_cnt, ap_brk, ap_set, ap_own, ownK_l, ownK_d, ap_ret, ap_if, ifK_t, ifK_f, ifK_b, ap_for, forL_nil, forL_cons, forK_nx, forK_ct, forK_bk, forK_rt, forK_if, ap_par, run_eq, runK_rt, runK_nx, runK_if, v_add, v_sub, v_neg, v_mod, v_div, v_mulR, v_mulL, v_mulB, v_addT, v_addL, v_catL, v_lt, v_le, v_gt, v_ge, v_eqI, v_neI, v_eqS, v_neS, v_lenT, v_lenL, v_intB, v_intI, v_not, v_min, v_max, v_abs, v_tupL, v_tupT, v_ixT, v_ixL, ix0, ix1, ix2, ix3, seqT, seqL, v_sumT, v_sumL, v_any, v_all, v_inT, v_inL, v_ninT, v_ninL, v_countT, mapMO_all, mapMO_some, mapMO_map, mapMO_range, v_sortedL, v_sortedT, v_cT, v_cTl, v_cTh, v_cL, v_cLl, v_cLh, v_eqNil, v_neNil, ix4, sel4_int, v_repT, v_isiI, v_isiS, v_isiB, v_isiN, ib_int, eq_dec, rl1, rl2, rl3, rl4, Bool.not_true, Bool.not_false, List.length_map, cutL_map, mkF, List.length_cons, List.length_nil, List.map_cons, List.map_nil, List.append_eq, List.cons_append, List.nil_append, List.getElem?_cons_zero, List.getElem?_cons_succ, List.set_cons_zero, List.set_cons_succ, Option.bind_some, Option.map_some, Option.bind_none, Option.map_none, Nat.zero_add, Nat.reduceAdd, Nat.reduceSub, Nat.reduceLeDiff, Nat.reduceLT, Nat.reduceEqDiff, Nat.reduceMul, LIM_eq, List.replicate_succ, List.replicate_zero, if_true, if_false, Bool.false_eq_true, Bool.true_eq_false, decide_true, decide_false, okS, noOwn, covers, tgIs, wipeO, List.all_cons, List.all_nil, List.any_cons, List.any_nil, Bool.and_true, Bool.true_and, Bool.and_self, Bool.or_false, Bool.false_or, Bool.or_true, beq_self_nat, kd, Int.reduceLT, Int.reduceLE, Int.reduceNeg, Int.reduceAdd, Int.reduceToNat, Int.reduceMul, Int.reduceSub, and_true, true_and, and_self, ite_true, ite_false, ↓reduceIte, nbeq, eq_self, ap_ext, ap_app, ap_put, lstK1_l, lstL_l, dicL_d, listK_l, ap_eQg, c1, hl, b2, t2]

/-! what the chances know -/
theorem known_ofC {g : Gd} (hg : GdOk g) (N : Int) : ∀ n, n ≤ 16 → KC g N n := by
  intro n
  induction n with
  | zero => intro _ need x hx h; exact absurd h (Nat.not_lt_zero _)
  | succ n ih =>
    intro hn need x hx hr hb0 hb1 L hL
    have ih := ih (by omega)
    have M1 := f_movV g hg x hx
    have hnin := v_memNin ky_ns (vC g) (need, x) L
    have hgame : ∀ (L : List (Int × St)) (r : List O), eQ (.f 0 "game") (.bor 0 (OC g L) :: r) = some (g.d, .bor 0 (OC g L) :: r) := fun L r => ap_eQg
    have hq : ∀ (L : List (Int × St)) (a b c : O), pTup (psCons (pQ (.s 1)) (psCons (pQ (.s 2)) psNil)) [.bor 0 (OC g L), .val (.int need), .val x.d, a, b, c] = some (nsD (need, x)) := fun L a b c => rfl
    have he : ∀ (L : List (Int × St)) (a b c : O), eTup (esCons (eV 1) (esCons (eV 2) esNil)) [.bor 0 (OC g L), .val (.int need), .val x.d, a, b, c] = some (nsD (need, x), [.bor 0 (OC g L), .val (.int need), .val x.d, a, b, c]) := fun L a b c => rfl
    by_cases hin : (need, x) ∈ L
    · refine ⟨L, hL, ?_⟩
      show f_Chances_known_of_step (f_Chances_known_of n) (OC g L) [.int need, x.d] = _
      unfold f_Chances_known_of_step
      have hix := v_memIx ky_ns (vC g) (need, x) L hin
      have hnin : sNinA (nsD (need, x)) (.dict (mem nsD (vC g) L)) = some (.bool false) := by rw [hnin]; simp [hin]
      have e1 : o2Q sNinA (eTup (esCons (eV 1) (esCons (eV 2) esNil))) (.f 0 "known") [.bor 0 (OC g L), .val (.int need), .val x.d, .un, .un, .un] = some (.bool false, [.bor 0 (OC g L), .val (.int need), .val x.d, .un, .un, .un]) := by
        rw [ap_o2k (x := nsD (need, x)) (he _ _ _ _), hnin]; rfl
      have e2 : ixQ sIxA (.f 0 "known") (pTup (psCons (pQ (.s 1)) (psCons (pQ (.s 2)) psNil))) [.bor 0 (OC g L), .val (.int need), .val x.d, .un, .un, .un] = some (vC g (need, x), [.bor 0 (OC g L), .val (.int need), .val x.d, .un, .un, .un]) := by
        rw [ap_ixk (x := nsD (need, x)) (hq _ _ _ _), hix]; rfl
      refine mkB_obj (r' := [.val (.int need), .val x.d, .un, .un, .un]) rfl ?_
      show m_Chances_known_of (f_Chances_known_of n) [.bor 0 (OC g L), .val (.int need), .val x.d, .un, .un, .un] = _
      simp only [m_Chances_known_of, m_Chances_known_of_t0, m_Chances_known_of_s0, m_Chances_known_of_t1, ap_seq, ap_if, e1, Option.bind_some, ifK_f, ap_nil, seqK_nx, ap_ret, e2, Option.map_some]
    · have hnin : sNinA (nsD (need, x)) (.dict (mem nsD (vC g) L)) = some (.bool true) := by rw [hnin]; simp [hin]
      have e1 : o2Q sNinA (eTup (esCons (eV 1) (esCons (eV 2) esNil))) (.f 0 "known") [.bor 0 (OC g L), .val (.int need), .val x.d, .un, .un, .un] = some (.bool true, [.bor 0 (OC g L), .val (.int need), .val x.d, .un, .un, .un]) := by
        rw [ap_o2k (x := nsD (need, x)) (he _ _ _ _), hnin]; rfl
      obtain ⟨⟨L1, a1, b1⟩, p1, q1, l1⟩ := for_st (t := .one 4) (bd := (sSeq (sSet (.one 5) (eMeth 0 0 "of_move" (f_Chances_of_move (f_Chances_known_of n)) (esCons (eV 1) (esCons (eV 2) (esCons (eV 4) esNil)))))
  (sIf (eOr (o2 sIs (kP 3) (kE (eC .none))) (eCall f_is_less (esCons (o2 sIxA (kP 3) (kE (eC (.int 0)))) (esCons (eV 5) esNil)))) (sSet (.one 3) (eTup (esCons (eV 5) (esCons (eV 4) esNil)))) sNil)))
        (fun (s : List (Int × St) × O × O) (c : Option (Rat × Mv)) => [.bor 0 (OC g s.1), .val (.int need), .val x.d, .val (accD c), s.2.1, s.2.2])
        (fun s => MokC g N s.1) (fun c => c = none ∨ ∃ m ∈ movsV x, c = some (valC g (Cg g) need x m, m)) Mv.d (fun c m => bstep c (valC g (Cg g) need x m, m)) (movsV x)
        (fun m hm s c hs hc => by
          obtain ⟨L, a, b⟩ := s
          obtain ⟨L', h1, h2⟩ := of_moveC hg hn ih hx hr hb0 hb1 hm hs
          have e := meth_at (r := [.val (.int need), .val x.d, .val (accD c), .val m.d, b]) (j := 0) (es := esCons (eV 1) (esCons (eV 2) (esCons (eV 4) esNil))) (ds := [.int need, x.d, m.d]) is_of_move rfl h2
          rcases hc with rfl | ⟨m', hm', rfl⟩
          · refine ⟨(L', .val m.d, .val (frR (valC g (Cg g) need x m))), h1, .inr ⟨m, hm, rfl⟩, .inl ?_⟩
            simp only [accD] at e
            simp only [accD, bstep, ap_c, ap_t, ap_v, vK_val, vK_lst, vK_dic, ap_peek, pkK_val, pkK_lst, pkK_dic, ap_o1E, ap_o1P, ap_o2EE, ap_o2EP, ap_o2PE, ap_o2PP, ap_o3E, ap_o3P, ap_esNil, ap_esCons, ap_tup, ap_lst, tupK, lstK, ap_and, ap_or, andK_t, andK_f, andK_b, orK_t, orK_f, orK_b, ap_call, ap_mP, ap_mE, ap_iSeq, ap_iSeqA, kOfL, kOfT, kOfD, ap_dnil, ap_iR1, ap_iR2, r1_eq, r2_eq, ap_tgo1, ap_tgoM, setAll0, setAllC, eComp_eq, ap_turnT, ap_turnO, tuK_t, tuK_f, tuK_b, ap_seq, seqK_nx, seqK_rt, seqK_ct, seqK_bk, seqK_no, seqK_if, ap_nil, ap_cnt, ap_brk, ap_set, ap_own, ownK_l, ownK_d, ap_ret, ap_if, ifK_t, ifK_f, ifK_b, ap_for, forL_nil, forL_cons, forK_nx, forK_ct, forK_bk, forK_rt, forK_if, ap_par, run_eq, runK_rt, runK_nx, runK_if, v_add, v_sub, v_neg, v_mod, v_div, v_mulR, v_mulL, v_mulB, v_addT, v_addL, v_catL, v_lt, v_le, v_gt, v_ge, v_eqI, v_neI, v_eqS, v_neS, v_lenT, v_lenL, v_intB, v_intI, v_not, v_min, v_max, v_abs, v_tupL, v_tupT, v_ixT, v_ixL, ix0, ix1, ix2, ix3, seqT, seqL, v_sumT, v_sumL, v_any, v_all, v_inT, v_inL, v_ninT, v_ninL, v_countT, mapMO_all, mapMO_some, mapMO_map, mapMO_range, v_sortedL, v_sortedT, v_cT, v_cTl, v_cTh, v_cL, v_cLl, v_cLh, v_eqNil, v_neNil, ix4, sel4_int, v_repT, v_isiI, v_isiS, v_isiB, v_isiN, ib_int, eq_dec, rl1, rl2, rl3, rl4, Bool.not_true, Bool.not_false, List.length_map, cutL_map, mkF, List.length_cons, List.length_nil, List.map_cons, List.map_nil, List.append_eq, List.cons_append, List.nil_append, List.getElem?_cons_zero, List.getElem?_cons_succ, List.set_cons_zero, List.set_cons_succ, Option.bind_some, Option.map_some, Option.bind_none, Option.map_none, Nat.zero_add, Nat.reduceAdd, Nat.reduceSub, Nat.reduceLeDiff, Nat.reduceLT, Nat.reduceEqDiff, Nat.reduceMul, LIM_eq, List.replicate_succ, List.replicate_zero, if_true, if_false, Bool.false_eq_true, Bool.true_eq_false, decide_true, decide_false, okS, noOwn, covers, tgIs, wipeO, List.all_cons, List.all_nil, List.any_cons, List.any_nil, Bool.and_true, Bool.true_and, Bool.and_self, Bool.or_false, Bool.false_or, Bool.or_true, beq_self_nat, kd, Int.reduceLT, Int.reduceLE, Int.reduceNeg, Int.reduceAdd, Int.reduceToNat, Int.reduceMul, Int.reduceSub, and_true, true_and, and_self, ite_true, ite_false, ↓reduceIte, nbeq, eq_self, ap_ext, ap_app, ap_put, lstK1_l, lstL_l, dicL_d, listK_l, e, is_none]
          · have ls := f_lessR _ _ (valC_sml hg hx hm' need) (valC_sml hg hx hm need)
            refine ⟨(L', .val m.d, .val (frR (valC g (Cg g) need x m))), h1, ?_, .inl ?_⟩
            · unfold bstep
              by_cases h : valC g (Cg g) need x m' < valC g (Cg g) need x m
              · simp only [if_pos h]; exact .inr ⟨m, hm, rfl⟩
              · simp only [if_neg h]; exact .inr ⟨m', hm', rfl⟩
            · simp only [accD] at e
              by_cases h : valC g (Cg g) need x m' < valC g (Cg g) need x m
              · rw [decide_eq_true h] at ls
                simp only [accD, bstep, if_pos h, ap_c, ap_t, ap_v, vK_val, vK_lst, vK_dic, ap_peek, pkK_val, pkK_lst, pkK_dic, ap_o1E, ap_o1P, ap_o2EE, ap_o2EP, ap_o2PE, ap_o2PP, ap_o3E, ap_o3P, ap_esNil, ap_esCons, ap_tup, ap_lst, tupK, lstK, ap_and, ap_or, andK_t, andK_f, andK_b, orK_t, orK_f, orK_b, ap_call, ap_mP, ap_mE, ap_iSeq, ap_iSeqA, kOfL, kOfT, kOfD, ap_dnil, ap_iR1, ap_iR2, r1_eq, r2_eq, ap_tgo1, ap_tgoM, setAll0, setAllC, eComp_eq, ap_turnT, ap_turnO, tuK_t, tuK_f, tuK_b, ap_seq, seqK_nx, seqK_rt, seqK_ct, seqK_bk, seqK_no, seqK_if, ap_nil, ap_cnt, ap_brk, ap_set, ap_own, ownK_l, ownK_d, ap_ret, ap_if, ifK_t, ifK_f, ifK_b, ap_for, forL_nil, forL_cons, forK_nx, forK_ct, forK_bk, forK_rt, forK_if, ap_par, run_eq, runK_rt, runK_nx, runK_if, v_add, v_sub, v_neg, v_mod, v_div, v_mulR, v_mulL, v_mulB, v_addT, v_addL, v_catL, v_lt, v_le, v_gt, v_ge, v_eqI, v_neI, v_eqS, v_neS, v_lenT, v_lenL, v_intB, v_intI, v_not, v_min, v_max, v_abs, v_tupL, v_tupT, v_ixT, v_ixL, ix0, ix1, ix2, ix3, seqT, seqL, v_sumT, v_sumL, v_any, v_all, v_inT, v_inL, v_ninT, v_ninL, v_countT, mapMO_all, mapMO_some, mapMO_map, mapMO_range, v_sortedL, v_sortedT, v_cT, v_cTl, v_cTh, v_cL, v_cLl, v_cLh, v_eqNil, v_neNil, ix4, sel4_int, v_repT, v_isiI, v_isiS, v_isiB, v_isiN, ib_int, eq_dec, rl1, rl2, rl3, rl4, Bool.not_true, Bool.not_false, List.length_map, cutL_map, mkF, List.length_cons, List.length_nil, List.map_cons, List.map_nil, List.append_eq, List.cons_append, List.nil_append, List.getElem?_cons_zero, List.getElem?_cons_succ, List.set_cons_zero, List.set_cons_succ, Option.bind_some, Option.map_some, Option.bind_none, Option.map_none, Nat.zero_add, Nat.reduceAdd, Nat.reduceSub, Nat.reduceLeDiff, Nat.reduceLT, Nat.reduceEqDiff, Nat.reduceMul, LIM_eq, List.replicate_succ, List.replicate_zero, if_true, if_false, Bool.false_eq_true, Bool.true_eq_false, decide_true, decide_false, okS, noOwn, covers, tgIs, wipeO, List.all_cons, List.all_nil, List.any_cons, List.any_nil, Bool.and_true, Bool.true_and, Bool.and_self, Bool.or_false, Bool.false_or, Bool.or_true, beq_self_nat, kd, Int.reduceLT, Int.reduceLE, Int.reduceNeg, Int.reduceAdd, Int.reduceToNat, Int.reduceMul, Int.reduceSub, and_true, true_and, and_self, ite_true, ite_false, ↓reduceIte, nbeq, eq_self, ap_ext, ap_app, ap_put, lstK1_l, lstL_l, dicL_d, listK_l, e, is_tup, ls]
              · rw [decide_eq_false h] at ls
                simp only [accD, bstep, if_neg h, ap_c, ap_t, ap_v, vK_val, vK_lst, vK_dic, ap_peek, pkK_val, pkK_lst, pkK_dic, ap_o1E, ap_o1P, ap_o2EE, ap_o2EP, ap_o2PE, ap_o2PP, ap_o3E, ap_o3P, ap_esNil, ap_esCons, ap_tup, ap_lst, tupK, lstK, ap_and, ap_or, andK_t, andK_f, andK_b, orK_t, orK_f, orK_b, ap_call, ap_mP, ap_mE, ap_iSeq, ap_iSeqA, kOfL, kOfT, kOfD, ap_dnil, ap_iR1, ap_iR2, r1_eq, r2_eq, ap_tgo1, ap_tgoM, setAll0, setAllC, eComp_eq, ap_turnT, ap_turnO, tuK_t, tuK_f, tuK_b, ap_seq, seqK_nx, seqK_rt, seqK_ct, seqK_bk, seqK_no, seqK_if, ap_nil, ap_cnt, ap_brk, ap_set, ap_own, ownK_l, ownK_d, ap_ret, ap_if, ifK_t, ifK_f, ifK_b, ap_for, forL_nil, forL_cons, forK_nx, forK_ct, forK_bk, forK_rt, forK_if, ap_par, run_eq, runK_rt, runK_nx, runK_if, v_add, v_sub, v_neg, v_mod, v_div, v_mulR, v_mulL, v_mulB, v_addT, v_addL, v_catL, v_lt, v_le, v_gt, v_ge, v_eqI, v_neI, v_eqS, v_neS, v_lenT, v_lenL, v_intB, v_intI, v_not, v_min, v_max, v_abs, v_tupL, v_tupT, v_ixT, v_ixL, ix0, ix1, ix2, ix3, seqT, seqL, v_sumT, v_sumL, v_any, v_all, v_inT, v_inL, v_ninT, v_ninL, v_countT, mapMO_all, mapMO_some, mapMO_map, mapMO_range, v_sortedL, v_sortedT, v_cT, v_cTl, v_cTh, v_cL, v_cLl, v_cLh, v_eqNil, v_neNil, ix4, sel4_int, v_repT, v_isiI, v_isiS, v_isiB, v_isiN, ib_int, eq_dec, rl1, rl2, rl3, rl4, Bool.not_true, Bool.not_false, List.length_map, cutL_map, mkF, List.length_cons, List.length_nil, List.map_cons, List.map_nil, List.append_eq, List.cons_append, List.nil_append, List.getElem?_cons_zero, List.getElem?_cons_succ, List.set_cons_zero, List.set_cons_succ, Option.bind_some, Option.map_some, Option.bind_none, Option.map_none, Nat.zero_add, Nat.reduceAdd, Nat.reduceSub, Nat.reduceLeDiff, Nat.reduceLT, Nat.reduceEqDiff, Nat.reduceMul, LIM_eq, List.replicate_succ, List.replicate_zero, if_true, if_false, Bool.false_eq_true, Bool.true_eq_false, decide_true, decide_false, okS, noOwn, covers, tgIs, wipeO, List.all_cons, List.all_nil, List.any_cons, List.any_nil, Bool.and_true, Bool.true_and, Bool.and_self, Bool.or_false, Bool.false_or, Bool.or_true, beq_self_nat, kd, Int.reduceLT, Int.reduceLE, Int.reduceNeg, Int.reduceAdd, Int.reduceToNat, Int.reduceMul, Int.reduceSub, and_true, true_and, and_self, ite_true, ite_false, ↓reduceIte, nbeq, eq_self, ap_ext, ap_app, ap_put, lstK1_l, lstL_l, dicL_d, listK_l, e, is_tup, ls])
        (L, .un, .un) none hL (.inl rfl)
      obtain ⟨m0, hm0, w1, w2⟩ := Cb_in hg hx need
      have w3 : (movsV x).foldl (fun c m => bstep c (valC g (Cg g) need x m, m)) none = some (Cb g need x) := by
        rw [← w2]; unfold bst; rw [List.foldl_map]
      rw [w3] at l1
      have hok : StOk g (need, x).2 ∧ N - 800 ≤ (need, x).1 ∧ (need, x).1 ≤ N := ⟨hx, by show N - 800 ≤ need; omega, hb1⟩
      refine ⟨addA L1 (need, x), p1.add hok, ?_⟩
      show f_Chances_known_of_step (f_Chances_known_of n) (OC g L) [.int need, x.d] = _
      unfold f_Chances_known_of_step
      have hix := v_memIx ky_ns (vC g) (need, x) (addA L1 (need, x)) (mem_addA _ _)
      have e2 : ixQ sIxA (.f 0 "known") (pTup (psCons (pQ (.s 1)) (psCons (pQ (.s 2)) psNil))) [.bor 0 (OC g (addA L1 (need, x))), .val (.int need), .val x.d, .val (accD (some (Cb g need x))), a1, b1] = some (vC g (need, x), [.bor 0 (OC g (addA L1 (need, x))), .val (.int need), .val x.d, .val (accD (some (Cb g need x))), a1, b1]) := by
        rw [ap_ixk (x := nsD (need, x)) (hq _ _ _ _), hix]; rfl
      have e3 : sPutQ (.f 0 "known") (pTup (psCons (pQ (.s 1)) (psCons (pQ (.s 2)) psNil))) (eV 3) [.bor 0 (OC g L1), .val (.int need), .val x.d, .val (accD (some (Cb g need x))), a1, b1] = some (.nx, [.bor 0 (OC g (addA L1 (need, x))), .val (.int need), .val x.d, .val (accD (some (Cb g need x))), a1, b1]) := by
        have hp := mem_put ky_ns (vC g) (need, x) L1
        have := ap_putk (k := 0) (G := g.d) (M := mem nsD (vC g) L1) (r := [.val (.int need), .val x.d, .val (accD (some (Cb g need x))), a1, b1]) (j := 0) (f := pTup (psCons (pQ (.s 1)) (psCons (pQ (.s 2)) psNil))) (e := eV 3) (x := nsD (need, x)) (v := vC g (need, x)) (ρ := [.bor 0 (OC g L1), .val (.int need), .val x.d, .val (accD (some (Cb g need x))), a1, b1]) rfl (hq _ _ _ _) (by rw [mem_ask ky_ns]; rfl) (by
          unfold mem
          rw [List.length_map, LIM_eq]
          have : L1.length ≤ 240300 := MokC.len hg p1
          omega)
        rw [this, hp]
        rfl
      refine mkB_obj (r' := [.val (.int need), .val x.d, .val (accD (some (Cb g need x))), a1, b1]) rfl ?_
      show m_Chances_known_of (f_Chances_known_of n) [.bor 0 (OC g L), .val (.int need), .val x.d, .un, .un, .un] = _
      have hgm := hgame L [.val (.int need), .val x.d, .val .none, .un, .un]
      simp only [accD] at l1
      simp only [m_Chances_known_of, m_Chances_known_of_t0, m_Chances_known_of_s0, m_Chances_known_of_t1, ap_seq, ap_if, e1, Option.bind_some, ifK_t, ap_set, ap_c, ap_tgo1, List.set_cons_zero, List.set_cons_succ, ap_for, ap_iSeqA, ap_call, ap_esCons, ap_esNil, ap_v, List.getElem?_cons_succ, List.getElem?_cons_zero, vK_val, hgm, Option.map_some, M1, kOfT, l1, seqK_nx, ap_ret, e3, e2, accD]
      simp only [accD] at e2 e3
      simp only [e3, seqK_nx, ap_ret, e2, Option.bind_some, Option.map_some]
theorem init_okC (G : D) : f_Chances_init (.ins 0 .nil) [G] = some (.none, obj 0 G []) := by
  unfold f_Chances_init
  exact mkB_b (k := 0) (G := G) (M := []) (r' := [.val G]) rfl rfl (by kernel_rfl)
theorem make_okC {G : D} {es : Evs} {ρ : List O} (h : es ρ = some ([G], ρ)) : oMake 0 f_Chances_init es ρ = some (obj 0 G [], ρ) := by
  unfold oMake
  simp only [h, init_okC]
theorem chance_at {g : Gd} (hg : GdOk g) {x : St} (hx : StOk g x) (goal had : Int) : eMethT (oMake 0 f_Chances_init (esCons (eV 0) esNil)) 0 "known_of" (f_Chances_known_of 16) (esCons (o2 sSub (kP 1) (kP 2)) (esCons (eV 3) esNil)) [.val g.d, .val (.int goal), .val (.int had), .val x.d] = some (vC g (goal - had, x), [.val g.d, .val (.int goal), .val (.int had), .val x.d]) := by
  obtain ⟨L', _, h2⟩ := known_ofC hg (goal - had) 16 (Nat.le_refl _) (goal - had) x hx (rk16 hg hx) (by omega) (Int.le_refl _) [] (mokC0 g _)
  unfold eMethT
  have h1 := make_okC (G := g.d) (es := esCons (eV 0) esNil) (ρ := [.val g.d, .val (.int goal), .val (.int had), .val x.d]) rfl
  have h3 : esCons (o2 sSub (kP 1) (kP 2)) (esCons (eV 3) esNil) [.val g.d, .val (.int goal), .val (.int had), .val x.d] = some ([.int (goal - had), x.d], [.val g.d, .val (.int goal), .val (.int had), .val x.d]) := rfl
  have h2 : f_Chances_known_of 16 (obj 0 g.d []) [.int (goal - had), x.d] = _ := h2
  simp only [h1, is_known_of, if_true, h3, h2]
theorem f_gchance {g : Gd} (hg : GdOk g) {x : St} (hx : StOk g x) (goal had : Int) : f_goal_chance [g.d, .int goal, .int had, x.d] = some (frR (Cg g (goal - had) x)) := by
  have e := chance_at hg hx goal had
  simp only [f_goal_chance, m_goal_chance, ap_c, ap_t, ap_v, vK_val, vK_lst, vK_dic, ap_peek, pkK_val, pkK_lst, pkK_dic, ap_o1E, ap_o1P, ap_o2EE, ap_o2EP, ap_o2PE, ap_o2PP, ap_o3E, ap_o3P, ap_esNil, ap_esCons, ap_tup, ap_lst, tupK, lstK, ap_and, ap_or, andK_t, andK_f, andK_b, orK_t, orK_f, orK_b, ap_call, ap_mP, ap_mE, ap_iSeq, ap_iSeqA, kOfL, kOfT, kOfD, ap_dnil, ap_iR1, ap_iR2, r1_eq, r2_eq, ap_tgo1, ap_tgoM, setAll0, setAllC, eComp_eq, ap_turnT, ap_turnO, tuK_t, tuK_f, tuK_b, ap_seq, seqK_nx, seqK_rt, seqK_ct, seqK_bk, seqK_no, seqK_if, ap_nil, ap_cnt, ap_brk, ap_set, ap_own, ownK_l, ownK_d, ap_ret, ap_if, ifK_t, ifK_f, ifK_b, ap_for, forL_nil, forL_cons, forK_nx, forK_ct, forK_bk, forK_rt, forK_if, ap_par, run_eq, runK_rt, runK_nx, runK_if, v_add, v_sub, v_neg, v_mod, v_div, v_mulR, v_mulL, v_mulB, v_addT, v_addL, v_catL, v_lt, v_le, v_gt, v_ge, v_eqI, v_neI, v_eqS, v_neS, v_lenT, v_lenL, v_intB, v_intI, v_not, v_min, v_max, v_abs, v_tupL, v_tupT, v_ixT, v_ixL, ix0, ix1, ix2, ix3, seqT, seqL, v_sumT, v_sumL, v_any, v_all, v_inT, v_inL, v_ninT, v_ninL, v_countT, mapMO_all, mapMO_some, mapMO_map, mapMO_range, v_sortedL, v_sortedT, v_cT, v_cTl, v_cTh, v_cL, v_cLl, v_cLh, v_eqNil, v_neNil, ix4, sel4_int, v_repT, v_isiI, v_isiS, v_isiB, v_isiN, ib_int, eq_dec, rl1, rl2, rl3, rl4, Bool.not_true, Bool.not_false, List.length_map, cutL_map, mkF, List.length_cons, List.length_nil, List.map_cons, List.map_nil, List.append_eq, List.cons_append, List.nil_append, List.getElem?_cons_zero, List.getElem?_cons_succ, List.set_cons_zero, List.set_cons_succ, Option.bind_some, Option.map_some, Option.bind_none, Option.map_none, Nat.zero_add, Nat.reduceAdd, Nat.reduceSub, Nat.reduceLeDiff, Nat.reduceLT, Nat.reduceEqDiff, Nat.reduceMul, LIM_eq, List.replicate_succ, List.replicate_zero, if_true, if_false, Bool.false_eq_true, Bool.true_eq_false, decide_true, decide_false, okS, noOwn, covers, tgIs, wipeO, List.all_cons, List.all_nil, List.any_cons, List.any_nil, Bool.and_true, Bool.true_and, Bool.and_self, Bool.or_false, Bool.false_or, Bool.or_true, beq_self_nat, kd, Int.reduceLT, Int.reduceLE, Int.reduceNeg, Int.reduceAdd, Int.reduceToNat, Int.reduceMul, Int.reduceSub, and_true, true_and, and_self, ite_true, ite_false, ↓reduceIte, nbeq, eq_self, ap_ext, ap_app, ap_put, lstK1_l, lstL_l, dicL_d, listK_l, e, vC]

theorem f_gmove {g : Gd} (hg : GdOk g) {x : St} (hx : StOk g x) (goal had : Int) : f_goal_move [g.d, .int goal, .int had, x.d] = some (Cb g (goal - had) x).2.d := by
  have e := chance_at hg hx goal had
  simp only [f_goal_move, m_goal_move, ap_c, ap_t, ap_v, vK_val, vK_lst, vK_dic, ap_peek, pkK_val, pkK_lst, pkK_dic, ap_o1E, ap_o1P, ap_o2EE, ap_o2EP, ap_o2PE, ap_o2PP, ap_o3E, ap_o3P, ap_esNil, ap_esCons, ap_tup, ap_lst, tupK, lstK, ap_and, ap_or, andK_t, andK_f, andK_b, orK_t, orK_f, orK_b, ap_call, ap_mP, ap_mE, ap_iSeq, ap_iSeqA, kOfL, kOfT, kOfD, ap_dnil, ap_iR1, ap_iR2, r1_eq, r2_eq, ap_tgo1, ap_tgoM, setAll0, setAllC, eComp_eq, ap_turnT, ap_turnO, tuK_t, tuK_f, tuK_b, ap_seq, seqK_nx, seqK_rt, seqK_ct, seqK_bk, seqK_no, seqK_if, ap_nil, ap_cnt, ap_brk, ap_set, ap_own, ownK_l, ownK_d, ap_ret, ap_if, ifK_t, ifK_f, ifK_b, ap_for, forL_nil, forL_cons, forK_nx, forK_ct, forK_bk, forK_rt, forK_if, ap_par, run_eq, runK_rt, runK_nx, runK_if, v_add, v_sub, v_neg, v_mod, v_div, v_mulR, v_mulL, v_mulB, v_addT, v_addL, v_catL, v_lt, v_le, v_gt, v_ge, v_eqI, v_neI, v_eqS, v_neS, v_lenT, v_lenL, v_intB, v_intI, v_not, v_min, v_max, v_abs, v_tupL, v_tupT, v_ixT, v_ixL, ix0, ix1, ix2, ix3, seqT, seqL, v_sumT, v_sumL, v_any, v_all, v_inT, v_inL, v_ninT, v_ninL, v_countT, mapMO_all, mapMO_some, mapMO_map, mapMO_range, v_sortedL, v_sortedT, v_cT, v_cTl, v_cTh, v_cL, v_cLl, v_cLh, v_eqNil, v_neNil, ix4, sel4_int, v_repT, v_isiI, v_isiS, v_isiB, v_isiN, ib_int, eq_dec, rl1, rl2, rl3, rl4, Bool.not_true, Bool.not_false, List.length_map, cutL_map, mkF, List.length_cons, List.length_nil, List.map_cons, List.map_nil, List.append_eq, List.cons_append, List.nil_append, List.getElem?_cons_zero, List.getElem?_cons_succ, List.set_cons_zero, List.set_cons_succ, Option.bind_some, Option.map_some, Option.bind_none, Option.map_none, Nat.zero_add, Nat.reduceAdd, Nat.reduceSub, Nat.reduceLeDiff, Nat.reduceLT, Nat.reduceEqDiff, Nat.reduceMul, LIM_eq, List.replicate_succ, List.replicate_zero, if_true, if_false, Bool.false_eq_true, Bool.true_eq_false, decide_true, decide_false, okS, noOwn, covers, tgIs, wipeO, List.all_cons, List.all_nil, List.any_cons, List.any_nil, Bool.and_true, Bool.true_and, Bool.and_self, Bool.or_false, Bool.false_or, Bool.or_true, beq_self_nat, kd, Int.reduceLT, Int.reduceLE, Int.reduceNeg, Int.reduceAdd, Int.reduceToNat, Int.reduceMul, Int.reduceSub, and_true, true_and, and_self, ite_true, ite_false, ↓reduceIte, nbeq, eq_self, ap_ext, ap_app, ap_put, lstK1_l, lstL_l, dicL_d, listK_l, e, vC]

/-! worths side by side -/
def z432 (p : Int × Int) : Int := p.1 * (432 / p.2)
theorem sm120 : ((DL 0 2 1).all fun x => decide (((aft 1 2 x).map fun p => z432 p.2).sum = 432)) = true := by decide +kernel
theorem sm121 : ((DL 1 2 1).all fun x => decide (((aft 1 2 x).map fun p => z432 p.2).sum = 432)) = true := by decide +kernel
theorem sm130 : ((DL 0 3 1).all fun x => decide (((aft 1 3 x).map fun p => z432 p.2).sum = 432)) = true := by decide +kernel
theorem sm131 : ((DL 1 3 1).all fun x => decide (((aft 1 3 x).map fun p => z432 p.2).sum = 432)) = true := by decide +kernel
theorem sm140 : ((DL 0 4 1).all fun x => decide (((aft 1 4 x).map fun p => z432 p.2).sum = 432)) = true := by decide +kernel
theorem sm141 : ((DL 1 4 1).all fun x => decide (((aft 1 4 x).map fun p => z432 p.2).sum = 432)) = true := by decide +kernel
theorem sm220 : ((DL 0 2 1).all fun x => decide (((aft 2 2 x).map fun p => z432 p.2).sum = 432)) = true := by decide +kernel
theorem sm221 : ((DL 1 2 1).all fun x => decide (((aft 2 2 x).map fun p => z432 p.2).sum = 432)) = true := by decide +kernel
theorem sm222 : ((DL 2 2 1).all fun x => decide (((aft 2 2 x).map fun p => z432 p.2).sum = 432)) = true := by decide +kernel
theorem sm230 : ((DL 0 3 1).all fun x => decide (((aft 2 3 x).map fun p => z432 p.2).sum = 432)) = true := by decide +kernel
theorem sm231 : ((DL 1 3 1).all fun x => decide (((aft 2 3 x).map fun p => z432 p.2).sum = 432)) = true := by decide +kernel
theorem sm232 : ((DL 2 3 1).all fun x => decide (((aft 2 3 x).map fun p => z432 p.2).sum = 432)) = true := by decide +kernel
theorem sm240 : ((DL 0 4 1).all fun x => decide (((aft 2 4 x).map fun p => z432 p.2).sum = 432)) = true := by decide +kernel
theorem sm241 : ((DL 1 4 1).all fun x => decide (((aft 2 4 x).map fun p => z432 p.2).sum = 432)) = true := by decide +kernel
theorem sm242 : ((DL 2 4 1).all fun x => decide (((aft 2 4 x).map fun p => z432 p.2).sum = 432)) = true := by decide +kernel
theorem sm320 : ((DL 0 2 1).all fun x => decide (((aft 3 2 x).map fun p => z432 p.2).sum = 432)) = true := by decide +kernel
theorem sm321 : ((DL 1 2 1).all fun x => decide (((aft 3 2 x).map fun p => z432 p.2).sum = 432)) = true := by decide +kernel
theorem sm322 : ((DL 2 2 1).all fun x => decide (((aft 3 2 x).map fun p => z432 p.2).sum = 432)) = true := by decide +kernel
theorem sm323 : ((DL 3 2 1).all fun x => decide (((aft 3 2 x).map fun p => z432 p.2).sum = 432)) = true := by decide +kernel
theorem sm330 : ((DL 0 3 1).all fun x => decide (((aft 3 3 x).map fun p => z432 p.2).sum = 432)) = true := by decide +kernel
theorem sm331 : ((DL 1 3 1).all fun x => decide (((aft 3 3 x).map fun p => z432 p.2).sum = 432)) = true := by decide +kernel
theorem sm332 : ((DL 2 3 1).all fun x => decide (((aft 3 3 x).map fun p => z432 p.2).sum = 432)) = true := by decide +kernel
theorem sm333 : ((DL 3 3 1).all fun x => decide (((aft 3 3 x).map fun p => z432 p.2).sum = 432)) = true := by decide +kernel
theorem sm_all (m s : Nat) (h : MS m s) (x : List Int) (hx : x ∈ DL x.length s 1) (h2 : x.length ≤ m) : ((aft m s x).map fun p => z432 p.2).sum = 432 := by
  rcases h with ⟨rfl, rfl⟩ | ⟨rfl, rfl⟩ | ⟨rfl, rfl⟩ | ⟨rfl, rfl⟩ | ⟨rfl, rfl⟩ | ⟨rfl, rfl⟩ | ⟨rfl, rfl⟩ | ⟨rfl, rfl⟩
  · have h3 : x.length = 0 ∨ x.length = 1 := by omega
    rcases h3 with e | e
    · rw [e] at hx; exact of_decide_eq_true (List.all_eq_true.mp sm120 x hx)
    · rw [e] at hx; exact of_decide_eq_true (List.all_eq_true.mp sm121 x hx)
  · have h3 : x.length = 0 ∨ x.length = 1 := by omega
    rcases h3 with e | e
    · rw [e] at hx; exact of_decide_eq_true (List.all_eq_true.mp sm130 x hx)
    · rw [e] at hx; exact of_decide_eq_true (List.all_eq_true.mp sm131 x hx)
  · have h3 : x.length = 0 ∨ x.length = 1 := by omega
    rcases h3 with e | e
    · rw [e] at hx; exact of_decide_eq_true (List.all_eq_true.mp sm140 x hx)
    · rw [e] at hx; exact of_decide_eq_true (List.all_eq_true.mp sm141 x hx)
  · have h3 : x.length = 0 ∨ x.length = 1 ∨ x.length = 2 := by omega
    rcases h3 with e | e | e
    · rw [e] at hx; exact of_decide_eq_true (List.all_eq_true.mp sm220 x hx)
    · rw [e] at hx; exact of_decide_eq_true (List.all_eq_true.mp sm221 x hx)
    · rw [e] at hx; exact of_decide_eq_true (List.all_eq_true.mp sm222 x hx)
  · have h3 : x.length = 0 ∨ x.length = 1 ∨ x.length = 2 := by omega
    rcases h3 with e | e | e
    · rw [e] at hx; exact of_decide_eq_true (List.all_eq_true.mp sm230 x hx)
    · rw [e] at hx; exact of_decide_eq_true (List.all_eq_true.mp sm231 x hx)
    · rw [e] at hx; exact of_decide_eq_true (List.all_eq_true.mp sm232 x hx)
  · have h3 : x.length = 0 ∨ x.length = 1 ∨ x.length = 2 := by omega
    rcases h3 with e | e | e
    · rw [e] at hx; exact of_decide_eq_true (List.all_eq_true.mp sm240 x hx)
    · rw [e] at hx; exact of_decide_eq_true (List.all_eq_true.mp sm241 x hx)
    · rw [e] at hx; exact of_decide_eq_true (List.all_eq_true.mp sm242 x hx)
  · have h3 : x.length = 0 ∨ x.length = 1 ∨ x.length = 2 ∨ x.length = 3 := by omega
    rcases h3 with e | e | e | e
    · rw [e] at hx; exact of_decide_eq_true (List.all_eq_true.mp sm320 x hx)
    · rw [e] at hx; exact of_decide_eq_true (List.all_eq_true.mp sm321 x hx)
    · rw [e] at hx; exact of_decide_eq_true (List.all_eq_true.mp sm322 x hx)
    · rw [e] at hx; exact of_decide_eq_true (List.all_eq_true.mp sm323 x hx)
  · have h3 : x.length = 0 ∨ x.length = 1 ∨ x.length = 2 ∨ x.length = 3 := by omega
    rcases h3 with e | e | e | e
    · rw [e] at hx; exact of_decide_eq_true (List.all_eq_true.mp sm330 x hx)
    · rw [e] at hx; exact of_decide_eq_true (List.all_eq_true.mp sm331 x hx)
    · rw [e] at hx; exact of_decide_eq_true (List.all_eq_true.mp sm332 x hx)
    · rw [e] at hx; exact of_decide_eq_true (List.all_eq_true.mp sm333 x hx)

theorem fr432 {p : Int × Int} (h : okSh p = true) : mkRat p.1 p.2.toNat = mkRat (z432 p) 432 := by
  unfold okSh at h
  simp only [Bool.and_eq_true, decide_eq_true_eq] at h
  obtain ⟨h1, h2, h3, h4, h5⟩ := h
  obtain ⟨u, l⟩ := p
  obtain ⟨n, rfl⟩ := Int.eq_ofNat_of_zero_le (show 0 ≤ l by omega)
  simp only [Int.toNat_natCast] at *
  have hn : n ≠ 0 := by omega
  have e : 432 = n * (432 / n) := by
    have := Nat.div_add_mod 432 n
    omega
  have ez : z432 (u, (n : Int)) = u * ((432 / n : Nat) : Int) := by
    unfold z432
    rw [show (432 : Int) = ((432 : Nat) : Int) from rfl, ← Int.natCast_ediv]
  rw [ez]
  conv => rhs; rw [e, Nat.mul_div_cancel_left _ (show 0 < n by omega)]
  rw [Rat.mkRat_mul_right]
  intro z
  rw [z] at e
  omega
theorem sum432 {α : Type} (f : α → Int × Int) : ∀ (l : List α), (∀ p ∈ l, okSh (f p) = true) → (l.map fun p => mkRat (f p).1 (f p).2.toNat).sum = mkRat ((l.map fun p => z432 (f p)).sum) 432
  | [], _ => by simp only [List.map_nil, List.sum_nil]; decide +kernel
  | x :: l, h => by
    rw [List.map_cons, List.sum_cons, List.map_cons, List.sum_cons, sum432 f l (fun p hp => h p (List.mem_cons_of_mem _ hp)), fr432 (h x List.mem_cons_self), Rat.mkRat_add_mkRat _ _ (by decide) (by decide), ← Int.add_mul, show (432 * 432 : Nat) = 432 * 432 from rfl, Rat.mkRat_mul_right]
    · decide
theorem shares_one {g : Gd} (hg : GdOk g) {y : List Int} (hy : y ∈ DL y.length g.s 1) (h2 : y.length ≤ g.m) : ((aft g.m g.s y).map fun p => mkRat p.2.1 p.2.2.toNat).sum = 1 := by
  rw [sum432 (fun p : List Int × Int × Int => p.2) _ (sh_all g.m g.s hg.ms y hy h2), sm_all g.m g.s hg.ms y hy h2]
  decide +kernel
theorem sum_mono {α : Type} {f h : α → Rat} : ∀ {l : List α}, (∀ q ∈ l, f q ≤ h q) → (l.map f).sum ≤ (l.map h).sum
  | [], _ => Rat.le_refl
  | x :: l, k => by
    have h1 := k x List.mem_cons_self
    have h2 := sum_mono (l := l) (f := f) (h := h) fun q hq => k q (List.mem_cons_of_mem _ hq)
    rw [List.map_cons, List.sum_cons, List.map_cons, List.sum_cons]
    grind
theorem sum_nn {α : Type} {f : α → Rat} : ∀ {l : List α}, (∀ q ∈ l, 0 ≤ f q) → 0 ≤ (l.map f).sum
  | [], _ => Rat.le_refl
  | x :: l, k => by
    have h1 := k x List.mem_cons_self
    have h2 := sum_nn (l := l) (f := f) fun q hq => k q (List.mem_cons_of_mem _ hq)
    rw [List.map_cons, List.sum_cons]
    grind
theorem sum_addc {α : Type} (f h : α → Rat) (c : Rat) : ∀ (l : List α), (l.map fun q => f q * (h q + c)).sum = (l.map fun q => f q * h q).sum + (l.map f).sum * c
  | [] => by simp only [List.map_nil, List.sum_nil]; grind
  | x :: l => by
    have ih := sum_addc f h c l
    simp only [List.map_cons, List.sum_cons, ih]
    grind
theorem sh_nn {g : Gd} {x : St} {q : St × Int × Int} (k : NxOk g x q) : 0 ≤ shR q := (okSh_fr k.sh).2.1
theorem W_nn {g : Gd} (hg : GdOk g) : ∀ (n : Nat) (x : St), StOk g x → rk g x < n → 0 ≤ Wg g x := by
  intro n
  induction n with
  | zero => intro x _ h; exact absurd h (Nat.not_lt_zero _)
  | succ n ih =>
    intro x hx hr
    obtain ⟨m, hm, e⟩ := W_is hg hx
    rw [e]
    have h1 := had_few hg hx hm
    have h2 : (0 : Rat) ≤ (((comsV g x m).1 : Int) : Rat) := Rat.intCast_nonneg.mpr h1.1
    have h3 : 0 ≤ ((comsV g x m).2.map fun q => shR q * Wg g q.1).sum := sum_nn fun q hq => by
      have k := next_ok hg hx hm q hq
      exact Rat.mul_nonneg (sh_nn k) (ih q.1 k.ok (by have := k.rk; omega))
    exact Rat.add_nonneg h2 h3
theorem W_nn0 {g : Gd} (hg : GdOk g) {x : St} (hx : StOk g x) : 0 ≤ Wg g x := W_nn hg _ x hx (Nat.lt_succ_self _)
/-- stands that go side by side -/
def Sim (g g' : Gd) (R : St → St → Rat → Prop) : Prop := ∀ x x' c, R x x' c → StOk g x → StOk g' x' → 0 ≤ c → ∀ m ∈ movsV x, ∃ m' ∈ movsV x', ∃ c' : Rat, 0 ≤ c' ∧ (((comsV g x m).1 : Int) : Rat) + c' ≤ (((comsV g' x' m').1 : Int) : Rat) + c ∧ ((comsV g x m).2 = [] ∨ ∃ (l : List (List Int × Int × Int)) (F F' : List Int → St), (comsV g x m).2 = l.map (fun p => (F p.1, p.2)) ∧ (comsV g' x' m').2 = l.map (fun p => (F' p.1, p.2)) ∧ (∀ p ∈ l, R (F p.1) (F' p.1) c') ∧ (l.map fun p => mkRat p.2.1 p.2.2.toNat).sum = 1)
theorem sim_W {g g' : Gd} (hg : GdOk g) (hg' : GdOk g') {R : St → St → Rat → Prop} (S : Sim g g' R) : ∀ (n : Nat) (x x' : St) (c : Rat), rk g x < n → R x x' c → StOk g x → StOk g' x' → 0 ≤ c → Wg g x ≤ Wg g' x' + c := by
  intro n
  induction n with
  | zero => intro x x' c h; exact absurd h (Nat.not_lt_zero _)
  | succ n ih =>
    intro x x' c hr r hx hx' hc
    refine W_le hg hx fun m hm => ?_
    obtain ⟨m', hm', c', c0, hd, hl⟩ := S x x' c r hx hx' hc m hm
    have hW := W_max hg' hx' hm'
    refine Rat.le_trans ?_ (Rat.add_le_add_right.mpr hW)
    have nn : 0 ≤ ((comsV g' x' m').2.map fun q => shR q * Wg g' q.1).sum := sum_nn fun q hq => by
      have k := next_ok hg' hx' hm' q hq
      exact Rat.mul_nonneg (sh_nn k) (W_nn0 hg' k.ok)
    unfold valV
    rcases hl with hl | ⟨l, F, F', e1, e2, e3, e4⟩
    · rw [hl]
      simp only [List.map_nil, List.sum_nil]
      grind
    · have h1 : ((comsV g x m).2.map fun q => shR q * Wg g q.1).sum ≤ (l.map fun p => mkRat p.2.1 p.2.2.toNat * (Wg g' (F' p.1) + c')).sum := by
        rw [e1, List.map_map]
        refine sum_mono fun p hp => ?_
        have hq : (F p.1, p.2) ∈ (comsV g x m).2 := by rw [e1]; exact List.mem_map_of_mem (f := fun p : List Int × Int × Int => (F p.1, p.2)) hp
        have hq' : (F' p.1, p.2) ∈ (comsV g' x' m').2 := by rw [e2]; exact List.mem_map_of_mem (f := fun p : List Int × Int × Int => (F' p.1, p.2)) hp
        have k := next_ok hg hx hm _ hq
        have k' := next_ok hg' hx' hm' _ hq'
        exact Rat.mul_le_mul_of_nonneg_left (ih _ _ _ (by have := k.rk; show rk g (F p.1) < n; have : rk g (F p.1) < rk g x := this; omega) (e3 p hp) k.ok k'.ok c0) (sh_nn k)
      rw [sum_addc (fun p : List Int × Int × Int => mkRat p.2.1 p.2.2.toNat) (fun p => Wg g' (F' p.1)) c' l, e4] at h1
      have h2 : ((comsV g' x' m').2.map fun q => shR q * Wg g' q.1).sum = (l.map fun p => mkRat p.2.1 p.2.2.toNat * Wg g' (F' p.1)).sum := by
        rw [e2, List.map_map]
        rfl
      rw [h2]
      grind
theorem sim_le {g g' : Gd} (hg : GdOk g) (hg' : GdOk g') {R : St → St → Rat → Prop} (S : Sim g g' R) {x x' : St} {c : Rat} (r : R x x' c) (hx : StOk g x) (hx' : StOk g' x') (hc : 0 ≤ c) : Wg g x ≤ Wg g' x' + c := sim_W hg hg' S _ x x' c (Nat.lt_succ_self _) r hx hx' hc

/-! more throws, more boxes, dearer boxes -/
theorem beg_form (g : Gd) (bs : List Int) : (bs = [] ∧ begV g bs = []) ∨ (bs ≠ [] ∧ begV g bs = (aft g.m g.s []).map fun p => (⟨bs, (g.t : Int) - 1, p.1⟩, p.2)) := by
  cases bs with
  | nil => exact .inl ⟨rfl, rfl⟩
  | cons k bs => exact .inr ⟨by simp, rfl⟩
theorem nil_one {g : Gd} (hg : GdOk g) : ((aft g.m g.s []).map fun p => mkRat p.2.1 p.2.2.toNat).sum = 1 := shares_one hg (y := []) (nil_in g.m g.s) (Nat.zero_le _)
theorem kp_one {g : Gd} (hg : GdOk g) {x : St} (hx : StOk g x) {y : List Int} (hy : y ∈ kps x.ds) : ((aft g.m g.s y).map fun p => mkRat p.2.1 p.2.2.toNat).sum = 1 := by
  obtain ⟨k1, k2⟩ := kd_all g.m g.s hg.ms x.ds hx.ds y hy
  exact shares_one hg k2 k1
theorem fill_mem {x : St} {k : Int} (h : k ∈ x.bs) : Mv.fill k ∈ movsV x := List.mem_append_left _ (List.mem_map_of_mem h)
theorem keep_mem {x : St} {y : List Int} (h : y ∈ kps x.ds) (hl : x.lf > 0) : Mv.keep y ∈ movsV x := by
  unfold movsV
  rw [if_pos hl]
  exact List.mem_append_right _ (List.mem_map_of_mem h)
theorem mv_in2 {x : St} {m : Mv} (h : m ∈ movsV x) : (∃ k, m = .fill k ∧ k ∈ x.bs) ∨ ∃ y, m = .keep y ∧ y ∈ kps x.ds ∧ x.lf > 0 := by
  unfold movsV at h
  rcases List.mem_append.mp h with h | h
  · obtain ⟨k, hk, rfl⟩ := List.mem_map.mp h
    exact .inl ⟨k, rfl, hk⟩
  · split at h
    · rename_i hl
      obtain ⟨y, hy, rfl⟩ := List.mem_map.mp h
      exact .inr ⟨y, rfl, hy, hl⟩
    · cases h
abbrev restV (bs : List Int) (k : Int) : List Int := bs.filter fun j => !decide (j = k)
def RLeft (x x' : St) (c : Rat) : Prop := c = 0 ∧ (x' = x ∨ (x'.bs = x.bs ∧ x'.ds = x.ds ∧ x'.lf = x.lf + 1))
theorem sim_left {g : Gd} (hg : GdOk g) : Sim g g RLeft := by
  intro x x' c r hx hx' hc m hm
  obtain ⟨rfl, r⟩ := r
  have hbs : x'.bs = x.bs := r.elim (fun h => by rw [h]) fun r => r.1
  have hds : x'.ds = x.ds := r.elim (fun h => by rw [h]) fun r => r.2.1
  rcases mv_in2 hm with ⟨k, rfl, hk⟩ | ⟨y, rfl, hy, hl⟩
  · have e : comsV g x' (.fill k) = comsV g x (.fill k) := by show (pts _ x'.ds, begV g (restV x'.bs k)) = (pts _ x.ds, begV g (restV x.bs k)); rw [hbs, hds]
    refine ⟨.fill k, fill_mem (by rw [hbs]; exact hk), 0, Rat.le_refl, by rw [e]; grind, ?_⟩
    rw [e]
    rcases beg_form g (restV x.bs k) with ⟨h1, h2⟩ | ⟨h1, h2⟩
    · exact .inl h2
    · exact .inr ⟨_, fun p => ⟨restV x.bs k, (g.t : Int) - 1, p⟩, fun p => ⟨restV x.bs k, (g.t : Int) - 1, p⟩, h2, h2, fun p _ => ⟨rfl, .inl rfl⟩, nil_one hg⟩
  · refine ⟨.keep y, keep_mem (by rw [hds]; exact hy) (r.elim (fun h => by rw [h]; exact hl) fun r => by rw [r.2.2]; omega), 0, Rat.le_refl, by show (((0 : Int) : Int) : Rat) + 0 ≤ (((0 : Int) : Int) : Rat) + 0; grind, .inr ⟨_, fun p => ⟨x.bs, x.lf - 1, p⟩, fun p => ⟨x'.bs, x'.lf - 1, p⟩, rfl, rfl, fun p _ => ⟨rfl, ?_⟩, kp_one hg hx hy⟩⟩
    rcases r with rfl | r
    · exact .inl rfl
    · refine .inr ⟨hbs, rfl, ?_⟩
      show x'.lf - 1 = x.lf - 1 + 1
      rw [r.2.2]; omega
theorem W_left {g : Gd} (hg : GdOk g) {x : St} (hx : StOk g x) (h : x.lf + 1 < (g.t : Int)) : StOk g ⟨x.bs, x.lf + 1, x.ds⟩ ∧ Wg g x ≤ Wg g ⟨x.bs, x.lf + 1, x.ds⟩ := by
  have h0 := hx.l0
  have hy : StOk g ⟨x.bs, x.lf + 1, x.ds⟩ := ⟨hx.ne, hx.up, hx.bd, by show (0 : Int) ≤ x.lf + 1; omega, h, hx.ds⟩
  refine ⟨hy, ?_⟩
  have := sim_le hg hg (sim_left hg) (x := x) (x' := ⟨x.bs, x.lf + 1, x.ds⟩) (c := 0) ⟨rfl, .inr ⟨rfl, rfl, rfl⟩⟩ hx hy Rat.le_refl
  rwa [Rat.add_zero] at this
/-- a box more -/
def wide (g : Gd) (b : Bx) : Gd := ⟨g.m, g.s, g.t, g.B ++ [b]⟩
theorem wide_ok {g : Gd} (hg : GdOk g) (h2 : g.B.length ≤ 2) {b : Bx} (hb : b.ok) : GdOk (wide g b) := by
  refine ⟨hg.ms, hg.t1, hg.t3, ?_, ?_, fun z hz => ?_⟩
  · show 1 ≤ (g.B ++ [b]).length; simp
  · show (g.B ++ [b]).length ≤ 3; simp; omega
  · rcases List.mem_append.mp hz with h | h
    · exact hg.bx z h
    · rw [List.mem_singleton.mp h]; exact hb
theorem wide_st {g : Gd} (b : Bx) {x : St} (hx : StOk g x) : StOk (wide g b) ⟨x.bs ++ [(g.B.length : Int)], x.lf, x.ds⟩ := by
  refine ⟨by simp, ?_, fun k hk => ?_, hx.l0, hx.lt, hx.ds⟩
  · rw [List.pairwise_append]
    refine ⟨hx.up, List.pairwise_singleton _ _, fun a ha c hc => ?_⟩
    rw [List.mem_singleton.mp hc]
    exact (hx.bd a ha).2
  · show 0 ≤ k ∧ k < ((g.B ++ [b]).length : Int)
    rw [List.length_append, List.length_singleton]
    rcases List.mem_append.mp hk with h | h
    · have := hx.bd k h; omega
    · rw [List.mem_singleton.mp h]; omega
def RWide (n : Int) (x x' : St) (c : Rat) : Prop := c = 0 ∧ x' = ⟨x.bs ++ [n], x.lf, x.ds⟩
theorem rest_app {bs : List Int} {k n : Int} (h : n ≠ k) : restV (bs ++ [n]) k = restV bs k ++ [n] := by
  unfold restV
  rw [List.filter_append]
  simp [h]
theorem sim_wide {g : Gd} (hg : GdOk g) (b : Bx) : Sim g (wide g b) (RWide g.B.length) := by
  intro x x' c r hx hx' hc m hm
  obtain ⟨rfl, rfl⟩ := r
  rcases mv_in2 hm with ⟨k, rfl, hk⟩ | ⟨y, rfl, hy, hl⟩
  · obtain ⟨k0, k1⟩ := hx.bd k hk
    have hp : (comsV (wide g b) ⟨x.bs ++ [(g.B.length : Int)], x.lf, x.ds⟩ (.fill k)).1 = (comsV g x (.fill k)).1 := by
      show pts ((g.B ++ [b]).getD k.toNat .all) x.ds = pts (g.B.getD k.toNat .all) x.ds
      rw [List.getD_eq_getElem?_getD, List.getD_eq_getElem?_getD, List.getElem?_append_left (by omega)]
    have hb : (comsV (wide g b) ⟨x.bs ++ [(g.B.length : Int)], x.lf, x.ds⟩ (.fill k)).2 = (aft g.m g.s []).map fun p => ((⟨restV x.bs k ++ [(g.B.length : Int)], (g.t : Int) - 1, p.1⟩ : St), p.2) := by
      show begV (wide g b) (restV (x.bs ++ [(g.B.length : Int)]) k) = _
      rw [rest_app (by omega)]
      rcases beg_form (wide g b) (restV x.bs k ++ [(g.B.length : Int)]) with ⟨h1, _⟩ | ⟨_, h2⟩
      · simp at h1
      · exact h2
    refine ⟨.fill k, fill_mem (List.mem_append_left _ hk), 0, Rat.le_refl, by rw [hp]; grind, ?_⟩
    rcases beg_form g (restV x.bs k) with ⟨_, h2⟩ | ⟨_, h2⟩
    · exact .inl h2
    · exact .inr ⟨_, fun p => ⟨restV x.bs k, (g.t : Int) - 1, p⟩, fun p => ⟨restV x.bs k ++ [(g.B.length : Int)], (g.t : Int) - 1, p⟩, h2, hb, fun p _ => ⟨rfl, rfl⟩, nil_one hg⟩
  · exact ⟨.keep y, keep_mem hy hl, 0, Rat.le_refl, by show (((0 : Int) : Int) : Rat) + 0 ≤ (((0 : Int) : Int) : Rat) + 0; grind, .inr ⟨_, fun p => ⟨x.bs, x.lf - 1, p⟩, fun p => ⟨x.bs ++ [(g.B.length : Int)], x.lf - 1, p⟩, rfl, rfl, fun p _ => ⟨rfl, rfl⟩, kp_one hg hx hy⟩⟩
theorem W_wide {g : Gd} (hg : GdOk g) (h2 : g.B.length ≤ 2) {b : Bx} (hb : b.ok) {x : St} (hx : StOk g x) : Wg g x ≤ Wg (wide g b) ⟨x.bs ++ [(g.B.length : Int)], x.lf, x.ds⟩ := by
  have := sim_le hg (wide_ok hg h2 hb) (sim_wide hg b) (x := x) (x' := ⟨x.bs ++ [(g.B.length : Int)], x.lf, x.ds⟩) (c := 0) ⟨rfl, rfl⟩ hx (wide_st b hx) Rat.le_refl
  rwa [Rat.add_zero] at this
/-- dearer boxes -/
def dearB : Bx → Bx
  | .alike m p => if p < 50 then .alike m (p + 1) else .alike m p
  | .run m p => if p < 50 then .run m (p + 1) else .run m p
  | .even p => if p < 50 then .even (p + 1) else .even p
  | b => b
def chgB : Bx → Bool
  | .alike _ p => decide (p < 50)
  | .run _ p => decide (p < 50)
  | .even p => decide (p < 50)
  | _ => false
theorem dear_ok {b : Bx} (h : b.ok) : (dearB b).ok := by
  cases b with
  | alike m p =>
    obtain ⟨h1, h2, h3, h4⟩ := h
    by_cases h : p < 50
    · simp only [dearB, if_pos h]; exact ⟨h1, h2, by omega, by omega⟩
    · simp only [dearB, if_neg h]; exact ⟨h1, h2, h3, h4⟩
  | run m p =>
    obtain ⟨h1, h2, h3, h4⟩ := h
    by_cases h : p < 50
    · simp only [dearB, if_pos h]; exact ⟨h1, h2, by omega, by omega⟩
    · simp only [dearB, if_neg h]; exact ⟨h1, h2, h3, h4⟩
  | even p =>
    obtain ⟨h1, h2⟩ := h
    by_cases h : p < 50
    · simp only [dearB, if_pos h]; exact ⟨by omega, by omega⟩
    · simp only [dearB, if_neg h]; exact ⟨h1, h2⟩
  | _ => exact h
theorem dear_pts (b : Bx) (l : List Int) : pts b l ≤ pts (dearB b) l ∧ pts (dearB b) l ≤ pts b l + (if chgB b = true then 1 else 0) := by
  cases b with
  | alike m p =>
    unfold dearB chgB
    by_cases h : p < 50
    · simp only [if_pos h, decide_eq_true h, if_true, pts]
      split <;> omega
    · simp only [if_neg h, decide_eq_false h, Bool.false_eq_true, if_false, pts]
      omega
  | run m p =>
    unfold dearB chgB
    by_cases h : p < 50
    · simp only [if_pos h, decide_eq_true h, if_true, pts]
      split <;> omega
    · simp only [if_neg h, decide_eq_false h, Bool.false_eq_true, if_false, pts]
      omega
  | even p =>
    unfold dearB chgB
    by_cases h : p < 50
    · simp only [if_pos h, decide_eq_true h, if_true, pts]
      split <;> omega
    · simp only [if_neg h, decide_eq_false h, Bool.false_eq_true, if_false, pts]
      omega
  | _ => exact ⟨Int.le_refl _, by show _ ≤ _ + (0 : Int); exact Int.le_of_eq (by simp [dearB])⟩
def dear (g : Gd) : Gd := ⟨g.m, g.s, g.t, g.B.map dearB⟩
theorem dear_gd {g : Gd} (hg : GdOk g) : GdOk (dear g) := by
  refine ⟨hg.ms, hg.t1, hg.t3, ?_, ?_, fun z hz => ?_⟩
  · show 1 ≤ (g.B.map dearB).length; rw [List.length_map]; exact hg.k1
  · show (g.B.map dearB).length ≤ 3; rw [List.length_map]; exact hg.k3
  · obtain ⟨b, hb, rfl⟩ := List.mem_map.mp hz
    exact dear_ok (hg.bx b hb)
theorem dear_st {g : Gd} {x : St} (hx : StOk g x) : StOk (dear g) x := ⟨hx.ne, hx.up, fun k hk => by show 0 ≤ k ∧ k < ((g.B.map dearB).length : Int); rw [List.length_map]; exact hx.bd k hk, hx.l0, hx.lt, hx.ds⟩
theorem dear_at {g : Gd} {k : Int} : (g.B.map dearB).getD k.toNat .all = dearB (g.B.getD k.toNat .all) := by
  rw [List.getD_eq_getElem?_getD, List.getD_eq_getElem?_getD, List.getElem?_map]
  cases g.B[k.toNat]? <;> rfl
theorem dear_beg (g : Gd) (bs : List Int) : begV (dear g) bs = begV g bs := rfl
def cntV (g : Gd) (bs : List Int) : Nat := (bs.filter fun k => chgB (g.B.getD k.toNat .all)).length
theorem cnt_rest {g : Gd} {bs : List Int} {k : Int} (hn : bs.Nodup) (hk : k ∈ bs) : cntV g bs = cntV g (restV bs k) + (if chgB (g.B.getD k.toNat .all) = true then 1 else 0) := by
  unfold cntV restV
  induction bs with
  | nil => cases hk
  | cons j bs ih =>
    obtain ⟨h1, h2⟩ := List.nodup_cons.mp hn
    by_cases h : j = k
    · subst h
      have e : bs.filter (fun i => !decide (i = j)) = bs := List.filter_eq_self.mpr fun i hi => by
        have : i ≠ j := fun q => h1 (q ▸ hi)
        simp [this]
      rw [List.filter_cons, List.filter_cons, decide_eq_true rfl]
      simp only [Bool.not_true, Bool.false_eq_true, if_false, e]
      split <;> simp
    · have hk2 : k ∈ bs := by
        rcases List.mem_cons.mp hk with q | q
        · exact absurd q.symm h
        · exact q
      have ih := ih h2 hk2
      rw [List.filter_cons, List.filter_cons (x := j) (p := fun i => !decide (i = k)), decide_eq_false h]
      simp only [Bool.not_false, if_true, List.filter_cons]
      split <;> (try simp only [List.length_cons]) <;> omega
def RUp (x x' : St) (c : Rat) : Prop := c = 0 ∧ x' = x
theorem sim_up {g : Gd} (hg : GdOk g) : Sim g (dear g) RUp := by
  intro x x' c r hx hx' hc m hm
  obtain ⟨rfl, rfl⟩ := r
  rcases mv_in2 hm with ⟨k, rfl, hk⟩ | ⟨y, rfl, hy, hl⟩
  · have hp : (comsV g x' (.fill k)).1 ≤ (comsV (dear g) x' (.fill k)).1 := by
      show pts (g.B.getD k.toNat .all) x'.ds ≤ pts ((g.B.map dearB).getD k.toNat .all) x'.ds
      rw [dear_at]
      exact (dear_pts _ _).1
    have hp2 := Rat.intCast_le_intCast.mpr hp
    refine ⟨.fill k, hm, 0, Rat.le_refl, by grind, ?_⟩
    rcases beg_form g (restV x'.bs k) with ⟨_, h2⟩ | ⟨_, h2⟩
    · exact .inl h2
    · exact .inr ⟨_, fun p => ⟨restV x'.bs k, (g.t : Int) - 1, p⟩, fun p => ⟨restV x'.bs k, (g.t : Int) - 1, p⟩, h2, h2, fun p _ => ⟨rfl, rfl⟩, nil_one hg⟩
  · exact ⟨.keep y, hm, 0, Rat.le_refl, by show (((0 : Int) : Int) : Rat) + 0 ≤ (((0 : Int) : Int) : Rat) + 0; grind, .inr ⟨_, fun p => ⟨x'.bs, x'.lf - 1, p⟩, fun p => ⟨x'.bs, x'.lf - 1, p⟩, rfl, rfl, fun p _ => ⟨rfl, rfl⟩, kp_one hg hx hy⟩⟩
def RDn (g : Gd) (x x' : St) (c : Rat) : Prop := c = (((cntV g x.bs : Nat) : Int) : Rat) ∧ x' = x
theorem up_nodup {bs : List Int} (h : bs.Pairwise (· < ·)) : bs.Nodup := h.imp fun h e => by omega
theorem sim_dn {g : Gd} (hg : GdOk g) : Sim (dear g) g (RDn g) := by
  intro x x' c r hx hx' hc m hm
  obtain ⟨rfl, rfl⟩ := r
  rcases mv_in2 hm with ⟨k, rfl, hk⟩ | ⟨y, rfl, hy, hl⟩
  · have hp : (comsV (dear g) x' (.fill k)).1 + (cntV g (restV x'.bs k) : Int) ≤ (comsV g x' (.fill k)).1 + (cntV g x'.bs : Int) := by
      show pts ((g.B.map dearB).getD k.toNat .all) x'.ds + _ ≤ pts (g.B.getD k.toNat .all) x'.ds + _
      rw [dear_at]
      have h1 := (dear_pts (g.B.getD k.toNat .all) x'.ds).2
      have h2 := cnt_rest (g := g) (up_nodup hx.up) hk
      split at h1 <;> rename_i q <;> simp only [q, Bool.false_eq_true, if_false, if_true] at h2 <;> omega
    have hp2 := Rat.intCast_le_intCast.mpr hp
    rw [Rat.intCast_add, Rat.intCast_add] at hp2
    refine ⟨.fill k, hm, (((cntV g (restV x'.bs k) : Nat) : Int) : Rat), Rat.intCast_nonneg.mpr (by omega), hp2, ?_⟩
    rcases beg_form g (restV x'.bs k) with ⟨_, h2⟩ | ⟨_, h2⟩
    · exact .inl h2
    · exact .inr ⟨_, fun p => ⟨restV x'.bs k, (g.t : Int) - 1, p⟩, fun p => ⟨restV x'.bs k, (g.t : Int) - 1, p⟩, h2, h2, fun p _ => ⟨rfl, rfl⟩, nil_one hg⟩
  · exact ⟨.keep y, hm, (((cntV g x'.bs : Nat) : Int) : Rat), Rat.intCast_nonneg.mpr (by omega), by show (((0 : Int) : Int) : Rat) + _ ≤ (((0 : Int) : Int) : Rat) + _; exact Rat.le_refl, .inr ⟨_, fun p => ⟨x'.bs, x'.lf - 1, p⟩, fun p => ⟨x'.bs, x'.lf - 1, p⟩, rfl, rfl, fun p _ => ⟨rfl, rfl⟩, kp_one hg hx' hy⟩⟩
theorem W_dear {g : Gd} (hg : GdOk g) {x : St} (hx : StOk g x) : Wg g x ≤ Wg (dear g) x ∧ Wg (dear g) x ≤ Wg g x + (((cntV g x.bs : Nat) : Int) : Rat) := by
  have h1 := sim_le hg (dear_gd hg) (sim_up hg) (x := x) (x' := x) (c := 0) ⟨rfl, rfl⟩ hx (dear_st hx) Rat.le_refl
  have h2 := sim_le (dear_gd hg) hg (sim_dn hg) (x := x) (x' := x) (c := (((cntV g x.bs : Nat) : Int) : Rat)) ⟨rfl, rfl⟩ (dear_st hx) hx (Rat.intCast_nonneg.mpr (by omega))
  rw [Rat.add_zero] at h1
  exact ⟨h1, h2⟩
/-- what the dice would get at once -/
theorem W_once {g : Gd} (hg : GdOk g) {x : St} (hx : StOk g x) {k : Int} (hk : k ∈ x.bs) : (((pts (g.B.getD k.toNat .all) x.ds) : Int) : Rat) ≤ Wg g x := by
  have hm := fill_mem hk
  have h := W_max hg hx hm
  have nn : 0 ≤ ((comsV g x (.fill k)).2.map fun q => shR q * Wg g q.1).sum := sum_nn fun q hq => by
    have k := next_ok hg hx hm q hq
    exact Rat.mul_nonneg (sh_nn k) (W_nn0 hg k.ok)
  unfold valV at h
  have e : (comsV g x (.fill k)).1 = pts (g.B.getD k.toNat .all) x.ds := rfl
  rw [e] at h
  grind

/-! goals that rise -/
theorem com_one {g : Gd} (hg : GdOk g) {x : St} (hx : StOk g x) {m : Mv} (hm : m ∈ movsV x) (hne : ¬ (comsV g x m).2.isEmpty = true) : ((comsV g x m).2.map shR).sum = 1 := by
  rcases mv_in2 hm with ⟨k, rfl, hk⟩ | ⟨y, rfl, hy, hl⟩
  · rcases beg_form g (restV x.bs k) with ⟨_, h2⟩ | ⟨_, h2⟩
    · have e : (comsV g x (.fill k)).2 = [] := h2
      rw [e] at hne
      exact absurd rfl hne
    · have e : (comsV g x (.fill k)).2 = _ := h2
      rw [e, List.map_map]
      exact nil_one hg
  · have e : (comsV g x (.keep y)).2 = (aft g.m g.s y).map fun p => ((⟨x.bs, x.lf - 1, p.1⟩ : St), p.2) := rfl
    rw [e, List.map_map]
    exact kp_one hg hx hy
theorem C_less {g : Gd} (hg : GdOk g) : ∀ (n : Nat) (x : St), StOk g x → rk g x < n → ∀ i j : Int, i ≤ j → Cg g j x ≤ Cg g i x := by
  intro n
  induction n with
  | zero => intro x _ h; exact absurd h (Nat.not_lt_zero _)
  | succ n ih =>
    intro x hx hr i j hij
    obtain ⟨m, hm, e⟩ := C_is hg hx j
    rw [e]
    refine Rat.le_trans ?_ (C_max hg hx hm i)
    unfold valC
    split
    · unfold endV
      split
      · rw [if_pos (by omega)]; exact Rat.le_refl
      · split <;> decide +kernel
    · refine sum_mono fun q hq => ?_
      have k := next_ok hg hx hm q hq
      exact Rat.mul_le_mul_of_nonneg_left (ih q.1 k.ok (by have := k.rk; omega) _ _ (by omega)) (sh_nn k)
theorem C_sure {g : Gd} (hg : GdOk g) : ∀ (n : Nat) (x : St), StOk g x → rk g x < n → ∀ i : Int, i ≤ 0 → Cg g i x = 1 := by
  intro n
  induction n with
  | zero => intro x _ h; exact absurd h (Nat.not_lt_zero _)
  | succ n ih =>
    intro x hx hr i hi
    obtain ⟨m, hm, e⟩ := C_is hg hx i
    rw [e]
    obtain ⟨h0, _⟩ := had_few hg hx hm
    unfold valC
    split
    · unfold endV
      rw [if_pos (by omega)]
    · rename_i hne
      rw [← com_one hg hx hm hne]
      refine congrArg List.sum (List.map_congr_left fun q hq => ?_)
      have k := next_ok hg hx hm q hq
      rw [ih q.1 k.ok (by have := k.rk; omega) _ (by omega), Rat.mul_one]

theorem bx_take {g : Gd} (hg : GdOk g) : ∀ b ∈ g.B.take 2, b.ok := fun b hb => hg.bx b (List.take_subset _ _ hb)
def little (g : Gd) : Gd := ⟨min g.m 2, min g.s 3, min g.t 2, g.B.take 2⟩
theorem little_ok {g : Gd} (hg : GdOk g) : GdOk (little g) := by
  have h1 := hg.t1
  have h3 := hg.k1
  refine ⟨?_, ?_, ?_, ?_, ?_, bx_take hg⟩
  · have := hg.ms
    show MS (min g.m 2) (min g.s 3)
    unfold MS at this ⊢
    omega
  · show 1 ≤ min g.t 2; omega
  · show min g.t 2 ≤ 3; omega
  · show 1 ≤ (g.B.take 2).length; rw [List.length_take]; omega
  · show (g.B.take 2).length ≤ 3; rw [List.length_take]; omega
theorem min_ii (a b : Nat) : (if (b : Int) < (a : Int) then (b : Int) else (a : Int)) = ((min a b : Nat) : Int) := by
  split <;> omega
theorem cutD {α : Type} (l : List α) : cutL l none (some 2) = l.take 2 := by
  cases l with
  | nil => rfl
  | cons a l => cases l with
    | nil => rfl
    | cons b l =>
      show (List.drop (HT.sIx (l.length + 2) 0 none) (a :: b :: l)).take (HT.sIx (l.length + 2) (l.length + 2) (some 2) - HT.sIx (l.length + 2) 0 none) = [a, b]
      have e : HT.sIx (l.length + 2) (l.length + 2) (some 2) = 2 := by
        unfold HT.sIx
        simp
      have e0 : HT.sIx (l.length + 2) 0 none = 0 := rfl
      rw [e, e0]
      rfl
theorem f_little (n : Int) (g : Gd) (h : f_law_game [.int n, .int 0] = some g.d) : f_law_little [.int n] = some (little g).d := by
  unfold Gd.d at h
  have e1 := min_ii g.m 2
  have e2 := min_ii g.s 3
  have e3 := min_ii g.t 2
  simp only [f_law_little, m_law_little, m_law_little_t0, m_law_little_t1, m_law_little_s0, ap_c, ap_t, ap_v, vK_val, vK_lst, vK_dic, ap_peek, pkK_val, pkK_lst, pkK_dic, ap_o1E, ap_o1P, ap_o2EE, ap_o2EP, ap_o2PE, ap_o2PP, ap_o3E, ap_o3P, ap_esNil, ap_esCons, ap_tup, ap_lst, tupK, lstK, ap_and, ap_or, andK_t, andK_f, andK_b, orK_t, orK_f, orK_b, ap_call, ap_mP, ap_mE, ap_iSeq, ap_iSeqA, kOfL, kOfT, kOfD, ap_dnil, ap_iR1, ap_iR2, r1_eq, r2_eq, ap_tgo1, ap_tgoM, setAll0, setAllC, eComp_eq, ap_turnT, ap_turnO, tuK_t, tuK_f, tuK_b, ap_seq, seqK_nx, seqK_rt, seqK_ct, seqK_bk, seqK_no, seqK_if, ap_nil, ap_cnt, ap_brk, ap_set, ap_own, ownK_l, ownK_d, ap_ret, ap_if, ifK_t, ifK_f, ifK_b, ap_for, forL_nil, forL_cons, forK_nx, forK_ct, forK_bk, forK_rt, forK_if, ap_par, run_eq, runK_rt, runK_nx, runK_if, v_add, v_sub, v_neg, v_mod, v_div, v_mulR, v_mulL, v_mulB, v_addT, v_addL, v_catL, v_lt, v_le, v_gt, v_ge, v_eqI, v_neI, v_eqS, v_neS, v_lenT, v_lenL, v_intB, v_intI, v_not, v_min, v_max, v_abs, v_tupL, v_tupT, v_ixT, v_ixL, ix0, ix1, ix2, ix3, seqT, seqL, v_sumT, v_sumL, v_any, v_all, v_inT, v_inL, v_ninT, v_ninL, v_countT, mapMO_all, mapMO_some, mapMO_map, mapMO_range, v_sortedL, v_sortedT, v_cT, v_cTl, v_cTh, v_cL, v_cLl, v_cLh, v_eqNil, v_neNil, ix4, sel4_int, v_repT, v_isiI, v_isiS, v_isiB, v_isiN, ib_int, eq_dec, rl1, rl2, rl3, rl4, Bool.not_true, Bool.not_false, List.length_map, cutL_map, mkF, List.length_cons, List.length_nil, List.map_cons, List.map_nil, List.append_eq, List.cons_append, List.nil_append, List.getElem?_cons_zero, List.getElem?_cons_succ, List.set_cons_zero, List.set_cons_succ, Option.bind_some, Option.map_some, Option.bind_none, Option.map_none, Nat.zero_add, Nat.reduceAdd, Nat.reduceSub, Nat.reduceLeDiff, Nat.reduceLT, Nat.reduceEqDiff, Nat.reduceMul, LIM_eq, List.replicate_succ, List.replicate_zero, if_true, if_false, Bool.false_eq_true, Bool.true_eq_false, decide_true, decide_false, okS, noOwn, covers, tgIs, wipeO, List.all_cons, List.all_nil, List.any_cons, List.any_nil, Bool.and_true, Bool.true_and, Bool.and_self, Bool.or_false, Bool.false_or, Bool.or_true, beq_self_nat, kd, Int.reduceLT, Int.reduceLE, Int.reduceNeg, Int.reduceAdd, Int.reduceToNat, Int.reduceMul, Int.reduceSub, and_true, true_and, and_self, ite_true, ite_false, ↓reduceIte, nbeq, eq_self, ap_ext, ap_app, ap_put, lstK1_l, lstL_l, dicL_d, listK_l, h, cutD]
  unfold little Gd.d
  simp only
  rw [← e1, ← e2, ← e3, List.map_take]
  rfl

theorem eq_nilD (l : List (St × Int × Int)) : sEq (.tuple (l.map stD)) (.tuple []) = some (.bool l.isEmpty) := by
  have k : ok9 (.tuple (l.map stD)) 4 := ok9_tup fun d hd => by
    obtain ⟨q, _, rfl⟩ := List.mem_map.mp hd
    exact ok9_stD q
  have e : PyData.eqv (.tuple (l.map stD)) (.tuple []) = l.isEmpty := by
    cases l <;> simp [PyData.eqv, PyData.eqvAll]
  have h3 : decide ((PyData.tuple (l.map stD)).depth ≤ lvl) = true := decide_eq_true (Nat.le_trans k.2 (by decide))
  unfold sEq
  rw [k.1, h3, e]
  rfl
theorem f_madeC {g : Gd} (hg : GdOk g) {x : St} (hx : StOk g x) {m : Mv} (hm : m ∈ movsV x) (goal had : Int) : f_law_made [g.d, .int goal, .int had, x.d, m.d] = some (frR (valC g (Cg g) (goal - had) x m)) := by
  have c1 := f_com g hg x hx m hm
  obtain ⟨hd0, hd1⟩ := had_few hg hx hm
  have h20 := coms_len hg x m
  have en := eq_nilD (comsV g x m).2
  cases hne : (comsV g x m).2.isEmpty with
  | true =>
    rw [hne] at en
    have hv : valC g (Cg g) (goal - had) x m = endV (goal - had) (comsV g x m).1 := by unfold valC; rw [if_pos hne]
    have fe := fr_end (goal - had) (comsV g x m).1
    rw [← hv] at fe
    rw [← fe]
    have e : decide (had + (comsV g x m).1 ≥ goal) = decide ((comsV g x m).1 ≥ goal - had) := decide_eq_decide.mpr (by omega)
    simp only [f_law_made, m_law_made, m_law_made_t0, m_law_made_t1, m_law_made_t2, m_law_made_s0, m_law_made_s1, ap_c, ap_t, ap_v, vK_val, vK_lst, vK_dic, ap_peek, pkK_val, pkK_lst, pkK_dic, ap_o1E, ap_o1P, ap_o2EE, ap_o2EP, ap_o2PE, ap_o2PP, ap_o3E, ap_o3P, ap_esNil, ap_esCons, ap_tup, ap_lst, tupK, lstK, ap_and, ap_or, andK_t, andK_f, andK_b, orK_t, orK_f, orK_b, ap_call, ap_mP, ap_mE, ap_iSeq, ap_iSeqA, kOfL, kOfT, kOfD, ap_dnil, ap_iR1, ap_iR2, r1_eq, r2_eq, ap_tgo1, ap_tgoM, setAll0, setAllC, eComp_eq, ap_turnT, ap_turnO, tuK_t, tuK_f, tuK_b, ap_seq, seqK_nx, seqK_rt, seqK_ct, seqK_bk, seqK_no, seqK_if, ap_nil, ap_cnt, ap_brk, ap_set, ap_own, ownK_l, ownK_d, ap_ret, ap_if, ifK_t, ifK_f, ifK_b, ap_for, forL_nil, forL_cons, forK_nx, forK_ct, forK_bk, forK_rt, forK_if, ap_par, run_eq, runK_rt, runK_nx, runK_if, v_add, v_sub, v_neg, v_mod, v_div, v_mulR, v_mulL, v_mulB, v_addT, v_addL, v_catL, v_lt, v_le, v_gt, v_ge, v_eqI, v_neI, v_eqS, v_neS, v_lenT, v_lenL, v_intB, v_intI, v_not, v_min, v_max, v_abs, v_tupL, v_tupT, v_ixT, v_ixL, ix0, ix1, ix2, ix3, seqT, seqL, v_sumT, v_sumL, v_any, v_all, v_inT, v_inL, v_ninT, v_ninL, v_countT, mapMO_all, mapMO_some, mapMO_map, mapMO_range, v_sortedL, v_sortedT, v_cT, v_cTl, v_cTh, v_cL, v_cLl, v_cLh, v_eqNil, v_neNil, ix4, sel4_int, v_repT, v_isiI, v_isiS, v_isiB, v_isiN, ib_int, eq_dec, rl1, rl2, rl3, rl4, Bool.not_true, Bool.not_false, List.length_map, cutL_map, mkF, List.length_cons, List.length_nil, List.map_cons, List.map_nil, List.append_eq, List.cons_append, List.nil_append, List.getElem?_cons_zero, List.getElem?_cons_succ, List.set_cons_zero, List.set_cons_succ, Option.bind_some, Option.map_some, Option.bind_none, Option.map_none, Nat.zero_add, Nat.reduceAdd, Nat.reduceSub, Nat.reduceLeDiff, Nat.reduceLT, Nat.reduceEqDiff, Nat.reduceMul, LIM_eq, List.replicate_succ, List.replicate_zero, if_true, if_false, Bool.false_eq_true, Bool.true_eq_false, decide_true, decide_false, okS, noOwn, covers, tgIs, wipeO, List.all_cons, List.all_nil, List.any_cons, List.any_nil, Bool.and_true, Bool.true_and, Bool.and_self, Bool.or_false, Bool.false_or, Bool.or_true, beq_self_nat, kd, Int.reduceLT, Int.reduceLE, Int.reduceNeg, Int.reduceAdd, Int.reduceToNat, Int.reduceMul, Int.reduceSub, and_true, true_and, and_self, ite_true, ite_false, ↓reduceIte, nbeq, eq_self, ap_ext, ap_app, ap_put, lstK1_l, lstL_l, dicL_d, listK_l, c1, en, e]
  | false =>
    rw [hne] at en
    have hv : valC g (Cg g) (goal - had) x m = ((comsV g x m).2.map fun q => shR q * Cg g (goal - had - (comsV g x m).1) q.1).sum := by unfold valC; rw [if_neg (by rw [hne]; exact Bool.false_ne_true)]
    have c2 := comp_fa1 (it := iSeqA (eV 6)) (tg := .many [7, 8]) (cd := eTrue) (e := eTup (esCons (eV 8) (esCons (eCall f_goal_chance (esCons (eV 0) (esCons (eV 1) (esCons (o2 sAddA (kP 2) (kP 5)) (esCons (eV 7) esNil))))) esNil))) (vs := [7, 8])
      (ρ := [.val g.d, .val (.int goal), .val (.int had), .val x.d, .val m.d, .val (.int (comsV g x m).1), .val (.tuple ((comsV g x m).2.map stD)), .un, .un]) (comsV g x m).2 stD (fun q => prD (shR q, Cg g (goal - had - (comsV g x m).1) q.1)) rfl rfl rfl rfl (fun q hq acc => by
        have k := next_ok hg hx hm q hq
        have e := f_gchance hg k.ok goal (had + (comsV g x m).1)
        rw [show goal - (had + (comsV g x m).1) = goal - had - (comsV g x m).1 by omega] at e
        unfold lcTurn
        simp only [stD, ap_c, ap_t, ap_v, vK_val, vK_lst, vK_dic, ap_peek, pkK_val, pkK_lst, pkK_dic, ap_o1E, ap_o1P, ap_o2EE, ap_o2EP, ap_o2PE, ap_o2PP, ap_o3E, ap_o3P, ap_esNil, ap_esCons, ap_tup, ap_lst, tupK, lstK, ap_and, ap_or, andK_t, andK_f, andK_b, orK_t, orK_f, orK_b, ap_call, ap_mP, ap_mE, ap_iSeq, ap_iSeqA, kOfL, kOfT, kOfD, ap_dnil, ap_iR1, ap_iR2, r1_eq, r2_eq, ap_tgo1, ap_tgoM, setAll0, setAllC, eComp_eq, ap_turnT, ap_turnO, tuK_t, tuK_f, tuK_b, ap_seq, seqK_nx, seqK_rt, seqK_ct, seqK_bk, seqK_no, seqK_if, ap_nil, ap_cnt, ap_brk, ap_set, ap_own, ownK_l, ownK_d, ap_ret, ap_if, ifK_t, ifK_f, ifK_b, ap_for, forL_nil, forL_cons, forK_nx, forK_ct, forK_bk, forK_rt, forK_if, ap_par, run_eq, runK_rt, runK_nx, runK_if, v_add, v_sub, v_neg, v_mod, v_div, v_mulR, v_mulL, v_mulB, v_addT, v_addL, v_catL, v_lt, v_le, v_gt, v_ge, v_eqI, v_neI, v_eqS, v_neS, v_lenT, v_lenL, v_intB, v_intI, v_not, v_min, v_max, v_abs, v_tupL, v_tupT, v_ixT, v_ixL, ix0, ix1, ix2, ix3, seqT, seqL, v_sumT, v_sumL, v_any, v_all, v_inT, v_inL, v_ninT, v_ninL, v_countT, mapMO_all, mapMO_some, mapMO_map, mapMO_range, v_sortedL, v_sortedT, v_cT, v_cTl, v_cTh, v_cL, v_cLl, v_cLh, v_eqNil, v_neNil, ix4, sel4_int, v_repT, v_isiI, v_isiS, v_isiB, v_isiN, ib_int, eq_dec, rl1, rl2, rl3, rl4, Bool.not_true, Bool.not_false, List.length_map, cutL_map, mkF, List.length_cons, List.length_nil, List.map_cons, List.map_nil, List.append_eq, List.cons_append, List.nil_append, List.getElem?_cons_zero, List.getElem?_cons_succ, List.set_cons_zero, List.set_cons_succ, Option.bind_some, Option.map_some, Option.bind_none, Option.map_none, Nat.zero_add, Nat.reduceAdd, Nat.reduceSub, Nat.reduceLeDiff, Nat.reduceLT, Nat.reduceEqDiff, Nat.reduceMul, LIM_eq, List.replicate_succ, List.replicate_zero, if_true, if_false, Bool.false_eq_true, Bool.true_eq_false, decide_true, decide_false, okS, noOwn, covers, tgIs, wipeO, List.all_cons, List.all_nil, List.any_cons, List.any_nil, Bool.and_true, Bool.true_and, Bool.and_self, Bool.or_false, Bool.false_or, Bool.or_true, beq_self_nat, kd, Int.reduceLT, Int.reduceLE, Int.reduceNeg, Int.reduceAdd, Int.reduceToNat, Int.reduceMul, Int.reduceSub, and_true, true_and, and_self, ite_true, ite_false, ↓reduceIte, nbeq, eq_self, ap_ext, ap_app, ap_put, lstK1_l, lstL_l, dicL_d, listK_l, e]
        rw [fr_sh k])
    have t := lsum_prC (w := fun y => Cg g (goal - had - (comsV g x m).1) y) (some_okC (l := (comsV g x m).2) (fun q hq => by
      have k := next_ok hg hx hm q hq
      exact ⟨C_sml hg k.ok _, sh_sml k, part_szz k (C_szz hg 12 _ q.1 k.ok (rk_lt hg k.ok))⟩) h20)
    rw [← hv] at t
    simp only [f_law_made, m_law_made, m_law_made_t0, m_law_made_t1, m_law_made_t2, m_law_made_s0, m_law_made_s1, ap_c, ap_t, ap_v, vK_val, vK_lst, vK_dic, ap_peek, pkK_val, pkK_lst, pkK_dic, ap_o1E, ap_o1P, ap_o2EE, ap_o2EP, ap_o2PE, ap_o2PP, ap_o3E, ap_o3P, ap_esNil, ap_esCons, ap_tup, ap_lst, tupK, lstK, ap_and, ap_or, andK_t, andK_f, andK_b, orK_t, orK_f, orK_b, ap_call, ap_mP, ap_mE, ap_iSeq, ap_iSeqA, kOfL, kOfT, kOfD, ap_dnil, ap_iR1, ap_iR2, r1_eq, r2_eq, ap_tgo1, ap_tgoM, setAll0, setAllC, ap_turnT, ap_turnO, tuK_t, tuK_f, tuK_b, ap_seq, seqK_nx, seqK_rt, seqK_ct, seqK_bk, seqK_no, seqK_if, ap_nil, ap_cnt, ap_brk, ap_set, ap_own, ownK_l, ownK_d, ap_ret, ap_if, ifK_t, ifK_f, ifK_b, ap_for, forL_nil, forL_cons, forK_nx, forK_ct, forK_bk, forK_rt, forK_if, ap_par, run_eq, runK_rt, runK_nx, runK_if, v_add, v_sub, v_neg, v_mod, v_div, v_mulR, v_mulL, v_mulB, v_addT, v_addL, v_catL, v_lt, v_le, v_gt, v_ge, v_eqI, v_neI, v_eqS, v_neS, v_lenT, v_lenL, v_intB, v_intI, v_not, v_min, v_max, v_abs, v_tupL, v_tupT, v_ixT, v_ixL, ix0, ix1, ix2, ix3, seqT, seqL, v_sumT, v_sumL, v_any, v_all, v_inT, v_inL, v_ninT, v_ninL, v_countT, mapMO_all, mapMO_some, mapMO_map, mapMO_range, v_sortedL, v_sortedT, v_cT, v_cTl, v_cTh, v_cL, v_cLl, v_cLh, v_eqNil, v_neNil, ix4, sel4_int, v_repT, v_isiI, v_isiS, v_isiB, v_isiN, ib_int, eq_dec, rl1, rl2, rl3, rl4, Bool.not_true, Bool.not_false, List.length_map, cutL_map, mkF, List.length_cons, List.length_nil, List.map_cons, List.map_nil, List.append_eq, List.cons_append, List.nil_append, List.getElem?_cons_zero, List.getElem?_cons_succ, List.set_cons_zero, List.set_cons_succ, Option.bind_some, Option.map_some, Option.bind_none, Option.map_none, Nat.zero_add, Nat.reduceAdd, Nat.reduceSub, Nat.reduceLeDiff, Nat.reduceLT, Nat.reduceEqDiff, Nat.reduceMul, LIM_eq, List.replicate_succ, List.replicate_zero, if_true, if_false, Bool.false_eq_true, Bool.true_eq_false, decide_true, decide_false, okS, noOwn, covers, tgIs, wipeO, List.all_cons, List.all_nil, List.any_cons, List.any_nil, Bool.and_true, Bool.true_and, Bool.and_self, Bool.or_false, Bool.false_or, Bool.or_true, beq_self_nat, kd, Int.reduceLT, Int.reduceLE, Int.reduceNeg, Int.reduceAdd, Int.reduceToNat, Int.reduceMul, Int.reduceSub, and_true, true_and, and_self, ite_true, ite_false, ↓reduceIte, nbeq, eq_self, ap_ext, ap_app, ap_put, lstK1_l, lstL_l, dicL_d, listK_l, c1, en, c2, t]

theorem fr1 : frR 1 = .tuple [.int 1, .int 1] := rfl
theorem v_neNilL : sNe (.list []) (.list []) = some (.bool false) := v_neNil []
theorem plain_law (ns : List Int) (hn : ns.length ≤ 63) : f_law [.list (ns.map .int)] = some (.bool true) := by
  have m0 : f_law_mixed [.list (ns.map .int), .int 0] = some (.int (mixedV ns 0)) := f_mixed ns 0
  have m1 : f_law_mixed [.list (ns.map .int), .int 1] = some (.int (mixedV ns 1)) := f_mixed ns 1
  have m2 : f_law_mixed [.list (ns.map .int), .int 2] = some (.int (mixedV ns 2)) := f_mixed ns 2
  generalize PyData.list (ns.map .int) = S at m0 m1 m2 ⊢
  obtain ⟨g0, hg0, _, _, e0⟩ := game0 (mixedV ns 0) (mixed_nn _ _)
  have e0 := f_little _ _ e0
  have hg := little_ok hg0
  generalize little g0 = g at e0 hg
  have e1 := f_stand g hg (mixedV ns 2)
  have hx := stand_ok g hg (mixedV ns 2)
  generalize standV g (mixedV ns 2) = x at e1 hx
  have b1 : mixedV ns 1 < 2147483648 := Int.lt_trans (Int.emod_lt_of_pos _ (by decide)) (by decide)
  have b0 := mixed_nn ns 1
  generalize mixedV ns 1 = n1 at m1 b0 b1
  generalize hgo : n1 % 30 = goal
  generalize hha : n1 / 64 % 12 = had
  have e2 := f_gchance hg hx goal had
  have M1 := f_movV g hg x hx
  generalize hnd : goal - had = need at e2
  have c1 := comp_fa1 (it := iSeqA (eCall f_moves (esCons (eV 1) (esCons (eV 3) esNil)))) (tg := .one 8) (cd := eTrue) (e := eCall f_law_made (esCons (eV 1) (esCons (eV 4) (esCons (eV 5) (esCons (eV 3) (esCons (eV 8) esNil)))))) (vs := [8])
    (ρ := [.val S, .val g.d, .val (.int n1), .val x.d, .val (.int goal), .val (.int had), .val (frR (Cg g need x)), .un, .un, .un]) (movsV x) Mv.d (fun m => frR (valC g (Cg g) need x m)) (by simp only [ap_c, ap_t, ap_v, vK_val, vK_lst, vK_dic, ap_peek, pkK_val, pkK_lst, pkK_dic, ap_o1E, ap_o1P, ap_o2EE, ap_o2EP, ap_o2PE, ap_o2PP, ap_o3E, ap_o3P, ap_esNil, ap_esCons, ap_tup, ap_lst, tupK, lstK, ap_and, ap_or, andK_t, andK_f, andK_b, orK_t, orK_f, orK_b, ap_call, ap_mP, ap_mE, ap_iSeq, ap_iSeqA, kOfL, kOfT, kOfD, ap_dnil, ap_iR1, ap_iR2, r1_eq, r2_eq, ap_tgo1, ap_tgoM, setAll0, setAllC, eComp_eq, ap_turnT, ap_turnO, tuK_t, tuK_f, tuK_b, ap_seq, seqK_nx, seqK_rt, seqK_ct, seqK_bk, seqK_no, seqK_if, ap_nil, ap_cnt, ap_brk, ap_set, ap_own, ownK_l, ownK_d, ap_ret, ap_if, ifK_t, ifK_f, ifK_b, ap_for, forL_nil, forL_cons, forK_nx, forK_ct, forK_bk, forK_rt, forK_if, ap_par, run_eq, runK_rt, runK_nx, runK_if, v_add, v_sub, v_neg, v_mod, v_div, v_mulR, v_mulL, v_mulB, v_addT, v_addL, v_catL, v_lt, v_le, v_gt, v_ge, v_eqI, v_neI, v_eqS, v_neS, v_lenT, v_lenL, v_intB, v_intI, v_not, v_min, v_max, v_abs, v_tupL, v_tupT, v_ixT, v_ixL, ix0, ix1, ix2, ix3, seqT, seqL, v_sumT, v_sumL, v_any, v_all, v_inT, v_inL, v_ninT, v_ninL, v_countT, mapMO_all, mapMO_some, mapMO_map, mapMO_range, v_sortedL, v_sortedT, v_cT, v_cTl, v_cTh, v_cL, v_cLl, v_cLh, v_eqNil, v_neNil, ix4, sel4_int, v_repT, v_isiI, v_isiS, v_isiB, v_isiN, ib_int, eq_dec, rl1, rl2, rl3, rl4, Bool.not_true, Bool.not_false, List.length_map, cutL_map, mkF, List.length_cons, List.length_nil, List.map_cons, List.map_nil, List.append_eq, List.cons_append, List.nil_append, List.getElem?_cons_zero, List.getElem?_cons_succ, List.set_cons_zero, List.set_cons_succ, Option.bind_some, Option.map_some, Option.bind_none, Option.map_none, Nat.zero_add, Nat.reduceAdd, Nat.reduceSub, Nat.reduceLeDiff, Nat.reduceLT, Nat.reduceEqDiff, Nat.reduceMul, LIM_eq, List.replicate_succ, List.replicate_zero, if_true, if_false, Bool.false_eq_true, Bool.true_eq_false, decide_true, decide_false, okS, noOwn, covers, tgIs, wipeO, List.all_cons, List.all_nil, List.any_cons, List.any_nil, Bool.and_true, Bool.true_and, Bool.and_self, Bool.or_false, Bool.false_or, Bool.or_true, beq_self_nat, kd, Int.reduceLT, Int.reduceLE, Int.reduceNeg, Int.reduceAdd, Int.reduceToNat, Int.reduceMul, Int.reduceSub, and_true, true_and, and_self, ite_true, ite_false, ↓reduceIte, nbeq, eq_self, ap_ext, ap_app, ap_put, lstK1_l, lstL_l, dicL_d, listK_l, M1]) rfl rfl rfl (fun m hm acc => by
      have e := f_madeC hg hx hm goal had
      rw [hnd] at e
      unfold lcTurn
      simp only [ap_c, ap_t, ap_v, vK_val, vK_lst, vK_dic, ap_peek, pkK_val, pkK_lst, pkK_dic, ap_o1E, ap_o1P, ap_o2EE, ap_o2EP, ap_o2PE, ap_o2PP, ap_o3E, ap_o3P, ap_esNil, ap_esCons, ap_tup, ap_lst, tupK, lstK, ap_and, ap_or, andK_t, andK_f, andK_b, orK_t, orK_f, orK_b, ap_call, ap_mP, ap_mE, ap_iSeq, ap_iSeqA, kOfL, kOfT, kOfD, ap_dnil, ap_iR1, ap_iR2, r1_eq, r2_eq, ap_tgo1, ap_tgoM, setAll0, setAllC, eComp_eq, ap_turnT, ap_turnO, tuK_t, tuK_f, tuK_b, ap_seq, seqK_nx, seqK_rt, seqK_ct, seqK_bk, seqK_no, seqK_if, ap_nil, ap_cnt, ap_brk, ap_set, ap_own, ownK_l, ownK_d, ap_ret, ap_if, ifK_t, ifK_f, ifK_b, ap_for, forL_nil, forL_cons, forK_nx, forK_ct, forK_bk, forK_rt, forK_if, ap_par, run_eq, runK_rt, runK_nx, runK_if, v_add, v_sub, v_neg, v_mod, v_div, v_mulR, v_mulL, v_mulB, v_addT, v_addL, v_catL, v_lt, v_le, v_gt, v_ge, v_eqI, v_neI, v_eqS, v_neS, v_lenT, v_lenL, v_intB, v_intI, v_not, v_min, v_max, v_abs, v_tupL, v_tupT, v_ixT, v_ixL, ix0, ix1, ix2, ix3, seqT, seqL, v_sumT, v_sumL, v_any, v_all, v_inT, v_inL, v_ninT, v_ninL, v_countT, mapMO_all, mapMO_some, mapMO_map, mapMO_range, v_sortedL, v_sortedT, v_cT, v_cTl, v_cTh, v_cL, v_cLl, v_cLh, v_eqNil, v_neNil, ix4, sel4_int, v_repT, v_isiI, v_isiS, v_isiB, v_isiN, ib_int, eq_dec, rl1, rl2, rl3, rl4, Bool.not_true, Bool.not_false, List.length_map, cutL_map, mkF, List.length_cons, List.length_nil, List.map_cons, List.map_nil, List.append_eq, List.cons_append, List.nil_append, List.getElem?_cons_zero, List.getElem?_cons_succ, List.set_cons_zero, List.set_cons_succ, Option.bind_some, Option.map_some, Option.bind_none, Option.map_none, Nat.zero_add, Nat.reduceAdd, Nat.reduceSub, Nat.reduceLeDiff, Nat.reduceLT, Nat.reduceEqDiff, Nat.reduceMul, LIM_eq, List.replicate_succ, List.replicate_zero, if_true, if_false, Bool.false_eq_true, Bool.true_eq_false, decide_true, decide_false, okS, noOwn, covers, tgIs, wipeO, List.all_cons, List.all_nil, List.any_cons, List.any_nil, Bool.and_true, Bool.true_and, Bool.and_self, Bool.or_false, Bool.false_or, Bool.or_true, beq_self_nat, kd, Int.reduceLT, Int.reduceLE, Int.reduceNeg, Int.reduceAdd, Int.reduceToNat, Int.reduceMul, Int.reduceSub, and_true, true_and, and_self, ite_true, ite_false, ↓reduceIte, nbeq, eq_self, ap_ext, ap_app, ap_put, lstK1_l, lstL_l, dicL_d, listK_l, e])
  have c2 := comp_fl (ρe := [.val S, .val g.d, .val (.int n1), .val x.d, .val (.int goal), .val (.int had), .val (frR (Cg g need x)), .val (.list ((movsV x).map fun m => frR (valC g (Cg g) need x m))), .un, .un]) (ρw := [.val S, .val g.d, .val (.int n1), .val x.d, .val (.int goal), .val (.int had), .val (frR (Cg g need x)), .val (.list ((movsV x).map fun m => frR (valC g (Cg g) need x m))), .un, .un]) (it := iSeqA (eV 7)) (tg := .one 9) (cd := eCall f_law_above (esCons (eV 9) (esCons (eV 6) esNil))) (e := eV 9) (vs := [9])
    (ρ := [.val S, .val g.d, .val (.int n1), .val x.d, .val (.int goal), .val (.int had), .val (frR (Cg g need x)), .lst ((movsV x).map fun m => frR (valC g (Cg g) need x m)), .un, .un]) (movsV x) (fun m => frR (valC g (Cg g) need x m)) (fun _ => false) (fun m => frR (valC g (Cg g) need x m)) rfl rfl rfl rfl (fun m hm acc => by
      have e := f_above _ _ (valC_sml hg hx hm need) (C_sml hg hx need)
      rw [decide_eq_false (Rat.not_lt.mpr (C_max hg hx hm need))] at e
      unfold lcTurn
      simp only [ap_c, ap_t, ap_v, vK_val, vK_lst, vK_dic, ap_peek, pkK_val, pkK_lst, pkK_dic, ap_o1E, ap_o1P, ap_o2EE, ap_o2EP, ap_o2PE, ap_o2PP, ap_o3E, ap_o3P, ap_esNil, ap_esCons, ap_tup, ap_lst, tupK, lstK, ap_and, ap_or, andK_t, andK_f, andK_b, orK_t, orK_f, orK_b, ap_call, ap_mP, ap_mE, ap_iSeq, ap_iSeqA, kOfL, kOfT, kOfD, ap_dnil, ap_iR1, ap_iR2, r1_eq, r2_eq, ap_tgo1, ap_tgoM, setAll0, setAllC, eComp_eq, ap_turnT, ap_turnO, tuK_t, tuK_f, tuK_b, ap_seq, seqK_nx, seqK_rt, seqK_ct, seqK_bk, seqK_no, seqK_if, ap_nil, ap_cnt, ap_brk, ap_set, ap_own, ownK_l, ownK_d, ap_ret, ap_if, ifK_t, ifK_f, ifK_b, ap_for, forL_nil, forL_cons, forK_nx, forK_ct, forK_bk, forK_rt, forK_if, ap_par, run_eq, runK_rt, runK_nx, runK_if, v_add, v_sub, v_neg, v_mod, v_div, v_mulR, v_mulL, v_mulB, v_addT, v_addL, v_catL, v_lt, v_le, v_gt, v_ge, v_eqI, v_neI, v_eqS, v_neS, v_lenT, v_lenL, v_intB, v_intI, v_not, v_min, v_max, v_abs, v_tupL, v_tupT, v_ixT, v_ixL, ix0, ix1, ix2, ix3, seqT, seqL, v_sumT, v_sumL, v_any, v_all, v_inT, v_inL, v_ninT, v_ninL, v_countT, mapMO_all, mapMO_some, mapMO_map, mapMO_range, v_sortedL, v_sortedT, v_cT, v_cTl, v_cTh, v_cL, v_cLl, v_cLh, v_eqNil, v_neNil, ix4, sel4_int, v_repT, v_isiI, v_isiS, v_isiB, v_isiN, ib_int, eq_dec, rl1, rl2, rl3, rl4, Bool.not_true, Bool.not_false, List.length_map, cutL_map, mkF, List.length_cons, List.length_nil, List.map_cons, List.map_nil, List.append_eq, List.cons_append, List.nil_append, List.getElem?_cons_zero, List.getElem?_cons_succ, List.set_cons_zero, List.set_cons_succ, Option.bind_some, Option.map_some, Option.bind_none, Option.map_none, Nat.zero_add, Nat.reduceAdd, Nat.reduceSub, Nat.reduceLeDiff, Nat.reduceLT, Nat.reduceEqDiff, Nat.reduceMul, LIM_eq, List.replicate_succ, List.replicate_zero, if_true, if_false, Bool.false_eq_true, Bool.true_eq_false, decide_true, decide_false, okS, noOwn, covers, tgIs, wipeO, List.all_cons, List.all_nil, List.any_cons, List.any_nil, Bool.and_true, Bool.true_and, Bool.and_self, Bool.or_false, Bool.false_or, Bool.or_true, beq_self_nat, kd, Int.reduceLT, Int.reduceLE, Int.reduceNeg, Int.reduceAdd, Int.reduceToNat, Int.reduceMul, Int.reduceSub, and_true, true_and, and_self, ite_true, ite_false, ↓reduceIte, nbeq, eq_self, ap_ext, ap_app, ap_put, lstK1_l, lstL_l, dicL_d, listK_l, e])
  rw [List.filter_eq_nil_iff.mpr (fun _ _ h => by cases h)] at c2
  obtain ⟨m, hm, w1⟩ := C_is hg hx need
  have n1' : sNinA (frR (Cg g need x)) (.list ((movsV x).map fun m => frR (valC g (Cg g) need x m))) = some (.bool false) := (nin_of (n := 1) (fun y hy => by
    obtain ⟨m, _, rfl⟩ := List.mem_map.mp hy
    exact ok9_fr _ _ 0) (List.mem_map.mpr ⟨m, hm, by rw [← w1]⟩) (by decide)).1
  obtain ⟨m3, hm3, w2, _⟩ := Cb_in hg hx need
  have e4 := f_gmove hg hx goal had
  rw [hnd] at e4
  have w3 : (Cb g need x).2 = m3 := by rw [w2]
  have w4 : valC g (Cg g) need x m3 = Cg g need x := by show _ = (Cb g need x).1; rw [w2]
  rw [w3] at e4
  have n2 : sNinA m3.d (.tuple ((movsV x).map Mv.d)) = some (.bool false) := (nin_of (n := 2) (fun y hy => by
    obtain ⟨m, _, rfl⟩ := List.mem_map.mp hy
    exact ok9_mv _) (List.mem_map_of_mem hm3) (by decide)).2
  have e5 := f_madeC hg hx hm3 goal had
  rw [hnd, w4] at e5
  have e6 := v_neFr (Cg g need x)
  have e7 := f_gchance hg hx need 0
  rw [Int.sub_zero] at e7
  have e8 := f_gchance hg hx (goal + 9) (had + 9)
  rw [show goal + 9 - (had + 9) = need by omega] at e8
  have e9 := f_gchance hg hx goal (had + 1)
  have e10 := f_above _ _ (C_sml hg hx need) (C_sml hg hx (goal - (had + 1)))
  rw [decide_eq_false (Rat.not_lt.mpr (C_less hg _ x hx (Nat.lt_succ_self _) _ _ (by omega)))] at e10
  have e11 := f_gchance hg hx had had
  rw [C_sure hg _ x hx (Nat.lt_succ_self _) _ (by omega)] at e11
  have e12 := v_eqFr 1
  rw [fr1] at e11 e12
  have en : sSub (.int goal) (.int had) = some (.int need) := by rw [← hnd]; rfl
  have gg : sMod (.int n1) (.int 30) = some (.int goal) := by rw [← hgo]; simp only [ap_c, ap_t, ap_v, vK_val, vK_lst, vK_dic, ap_peek, pkK_val, pkK_lst, pkK_dic, ap_o1E, ap_o1P, ap_o2EE, ap_o2EP, ap_o2PE, ap_o2PP, ap_o3E, ap_o3P, ap_esNil, ap_esCons, ap_tup, ap_lst, tupK, lstK, ap_and, ap_or, andK_t, andK_f, andK_b, orK_t, orK_f, orK_b, ap_call, ap_mP, ap_mE, ap_iSeq, ap_iSeqA, kOfL, kOfT, kOfD, ap_dnil, ap_iR1, ap_iR2, r1_eq, r2_eq, ap_tgo1, ap_tgoM, setAll0, setAllC, eComp_eq, ap_turnT, ap_turnO, tuK_t, tuK_f, tuK_b, ap_seq, seqK_nx, seqK_rt, seqK_ct, seqK_bk, seqK_no, seqK_if, ap_nil, ap_cnt, ap_brk, ap_set, ap_own, ownK_l, ownK_d, ap_ret, ap_if, ifK_t, ifK_f, ifK_b, ap_for, forL_nil, forL_cons, forK_nx, forK_ct, forK_bk, forK_rt, forK_if, ap_par, run_eq, runK_rt, runK_nx, runK_if, v_add, v_sub, v_neg, v_mod, v_div, v_mulR, v_mulL, v_mulB, v_addT, v_addL, v_catL, v_lt, v_le, v_gt, v_ge, v_eqI, v_neI, v_eqS, v_neS, v_lenT, v_lenL, v_intB, v_intI, v_not, v_min, v_max, v_abs, v_tupL, v_tupT, v_ixT, v_ixL, ix0, ix1, ix2, ix3, seqT, seqL, v_sumT, v_sumL, v_any, v_all, v_inT, v_inL, v_ninT, v_ninL, v_countT, mapMO_all, mapMO_some, mapMO_map, mapMO_range, v_sortedL, v_sortedT, v_cT, v_cTl, v_cTh, v_cL, v_cLl, v_cLh, v_eqNil, v_neNil, ix4, sel4_int, v_repT, v_isiI, v_isiS, v_isiB, v_isiN, ib_int, eq_dec, rl1, rl2, rl3, rl4, Bool.not_true, Bool.not_false, List.length_map, cutL_map, mkF, List.length_cons, List.length_nil, List.map_cons, List.map_nil, List.append_eq, List.cons_append, List.nil_append, List.getElem?_cons_zero, List.getElem?_cons_succ, List.set_cons_zero, List.set_cons_succ, Option.bind_some, Option.map_some, Option.bind_none, Option.map_none, Nat.zero_add, Nat.reduceAdd, Nat.reduceSub, Nat.reduceLeDiff, Nat.reduceLT, Nat.reduceEqDiff, Nat.reduceMul, LIM_eq, List.replicate_succ, List.replicate_zero, if_true, if_false, Bool.false_eq_true, Bool.true_eq_false, decide_true, decide_false, okS, noOwn, covers, tgIs, wipeO, List.all_cons, List.all_nil, List.any_cons, List.any_nil, Bool.and_true, Bool.true_and, Bool.and_self, Bool.or_false, Bool.false_or, Bool.or_true, beq_self_nat, kd, Int.reduceLT, Int.reduceLE, Int.reduceNeg, Int.reduceAdd, Int.reduceToNat, Int.reduceMul, Int.reduceSub, and_true, true_and, and_self, ite_true, ite_false, ↓reduceIte, nbeq, eq_self, ap_ext, ap_app, ap_put, lstK1_l, lstL_l, dicL_d, listK_l]
  have gh : sDiv (.int n1) (.int 64) = some (.int (n1 / 64)) := by simp only [ap_c, ap_t, ap_v, vK_val, vK_lst, vK_dic, ap_peek, pkK_val, pkK_lst, pkK_dic, ap_o1E, ap_o1P, ap_o2EE, ap_o2EP, ap_o2PE, ap_o2PP, ap_o3E, ap_o3P, ap_esNil, ap_esCons, ap_tup, ap_lst, tupK, lstK, ap_and, ap_or, andK_t, andK_f, andK_b, orK_t, orK_f, orK_b, ap_call, ap_mP, ap_mE, ap_iSeq, ap_iSeqA, kOfL, kOfT, kOfD, ap_dnil, ap_iR1, ap_iR2, r1_eq, r2_eq, ap_tgo1, ap_tgoM, setAll0, setAllC, eComp_eq, ap_turnT, ap_turnO, tuK_t, tuK_f, tuK_b, ap_seq, seqK_nx, seqK_rt, seqK_ct, seqK_bk, seqK_no, seqK_if, ap_nil, ap_cnt, ap_brk, ap_set, ap_own, ownK_l, ownK_d, ap_ret, ap_if, ifK_t, ifK_f, ifK_b, ap_for, forL_nil, forL_cons, forK_nx, forK_ct, forK_bk, forK_rt, forK_if, ap_par, run_eq, runK_rt, runK_nx, runK_if, v_add, v_sub, v_neg, v_mod, v_div, v_mulR, v_mulL, v_mulB, v_addT, v_addL, v_catL, v_lt, v_le, v_gt, v_ge, v_eqI, v_neI, v_eqS, v_neS, v_lenT, v_lenL, v_intB, v_intI, v_not, v_min, v_max, v_abs, v_tupL, v_tupT, v_ixT, v_ixL, ix0, ix1, ix2, ix3, seqT, seqL, v_sumT, v_sumL, v_any, v_all, v_inT, v_inL, v_ninT, v_ninL, v_countT, mapMO_all, mapMO_some, mapMO_map, mapMO_range, v_sortedL, v_sortedT, v_cT, v_cTl, v_cTh, v_cL, v_cLl, v_cLh, v_eqNil, v_neNil, ix4, sel4_int, v_repT, v_isiI, v_isiS, v_isiB, v_isiN, ib_int, eq_dec, rl1, rl2, rl3, rl4, Bool.not_true, Bool.not_false, List.length_map, cutL_map, mkF, List.length_cons, List.length_nil, List.map_cons, List.map_nil, List.append_eq, List.cons_append, List.nil_append, List.getElem?_cons_zero, List.getElem?_cons_succ, List.set_cons_zero, List.set_cons_succ, Option.bind_some, Option.map_some, Option.bind_none, Option.map_none, Nat.zero_add, Nat.reduceAdd, Nat.reduceSub, Nat.reduceLeDiff, Nat.reduceLT, Nat.reduceEqDiff, Nat.reduceMul, LIM_eq, List.replicate_succ, List.replicate_zero, if_true, if_false, Bool.false_eq_true, Bool.true_eq_false, decide_true, decide_false, okS, noOwn, covers, tgIs, wipeO, List.all_cons, List.all_nil, List.any_cons, List.any_nil, Bool.and_true, Bool.true_and, Bool.and_self, Bool.or_false, Bool.false_or, Bool.or_true, beq_self_nat, kd, Int.reduceLT, Int.reduceLE, Int.reduceNeg, Int.reduceAdd, Int.reduceToNat, Int.reduceMul, Int.reduceSub, and_true, true_and, and_self, ite_true, ite_false, ↓reduceIte, nbeq, eq_self, ap_ext, ap_app, ap_put, lstK1_l, lstL_l, dicL_d, listK_l]
  have gi : sMod (.int (n1 / 64)) (.int 12) = some (.int had) := by rw [← hha]; simp only [ap_c, ap_t, ap_v, vK_val, vK_lst, vK_dic, ap_peek, pkK_val, pkK_lst, pkK_dic, ap_o1E, ap_o1P, ap_o2EE, ap_o2EP, ap_o2PE, ap_o2PP, ap_o3E, ap_o3P, ap_esNil, ap_esCons, ap_tup, ap_lst, tupK, lstK, ap_and, ap_or, andK_t, andK_f, andK_b, orK_t, orK_f, orK_b, ap_call, ap_mP, ap_mE, ap_iSeq, ap_iSeqA, kOfL, kOfT, kOfD, ap_dnil, ap_iR1, ap_iR2, r1_eq, r2_eq, ap_tgo1, ap_tgoM, setAll0, setAllC, eComp_eq, ap_turnT, ap_turnO, tuK_t, tuK_f, tuK_b, ap_seq, seqK_nx, seqK_rt, seqK_ct, seqK_bk, seqK_no, seqK_if, ap_nil, ap_cnt, ap_brk, ap_set, ap_own, ownK_l, ownK_d, ap_ret, ap_if, ifK_t, ifK_f, ifK_b, ap_for, forL_nil, forL_cons, forK_nx, forK_ct, forK_bk, forK_rt, forK_if, ap_par, run_eq, runK_rt, runK_nx, runK_if, v_add, v_sub, v_neg, v_mod, v_div, v_mulR, v_mulL, v_mulB, v_addT, v_addL, v_catL, v_lt, v_le, v_gt, v_ge, v_eqI, v_neI, v_eqS, v_neS, v_lenT, v_lenL, v_intB, v_intI, v_not, v_min, v_max, v_abs, v_tupL, v_tupT, v_ixT, v_ixL, ix0, ix1, ix2, ix3, seqT, seqL, v_sumT, v_sumL, v_any, v_all, v_inT, v_inL, v_ninT, v_ninL, v_countT, mapMO_all, mapMO_some, mapMO_map, mapMO_range, v_sortedL, v_sortedT, v_cT, v_cTl, v_cTh, v_cL, v_cLl, v_cLh, v_eqNil, v_neNil, ix4, sel4_int, v_repT, v_isiI, v_isiS, v_isiB, v_isiN, ib_int, eq_dec, rl1, rl2, rl3, rl4, Bool.not_true, Bool.not_false, List.length_map, cutL_map, mkF, List.length_cons, List.length_nil, List.map_cons, List.map_nil, List.append_eq, List.cons_append, List.nil_append, List.getElem?_cons_zero, List.getElem?_cons_succ, List.set_cons_zero, List.set_cons_succ, Option.bind_some, Option.map_some, Option.bind_none, Option.map_none, Nat.zero_add, Nat.reduceAdd, Nat.reduceSub, Nat.reduceLeDiff, Nat.reduceLT, Nat.reduceEqDiff, Nat.reduceMul, LIM_eq, List.replicate_succ, List.replicate_zero, if_true, if_false, Bool.false_eq_true, Bool.true_eq_false, decide_true, decide_false, okS, noOwn, covers, tgIs, wipeO, List.all_cons, List.all_nil, List.any_cons, List.any_nil, Bool.and_true, Bool.true_and, Bool.and_self, Bool.or_false, Bool.false_or, Bool.or_true, beq_self_nat, kd, Int.reduceLT, Int.reduceLE, Int.reduceNeg, Int.reduceAdd, Int.reduceToNat, Int.reduceMul, Int.reduceSub, and_true, true_and, and_self, ite_true, ite_false, ↓reduceIte, nbeq, eq_self, ap_ext, ap_app, ap_put, lstK1_l, lstL_l, dicL_d, listK_l]
  simp only [f_law, m_law, m_law_t0, m_law_s0, m_law_t1, m_law_s1, m_law_t2, m_law_s2, m_law_t3, m_law_s3, m_law_t4, m_law_s4, ap_c, ap_t, ap_v, vK_val, vK_lst, vK_dic, ap_peek, pkK_val, pkK_lst, pkK_dic, ap_o1E, ap_o1P, ap_o2EE, ap_o2EP, ap_o2PE, ap_o2PP, ap_o3E, ap_o3P, ap_esNil, ap_esCons, ap_tup, ap_lst, tupK, lstK, ap_and, ap_or, andK_t, andK_f, andK_b, orK_t, orK_f, orK_b, ap_call, ap_mP, ap_mE, ap_iSeq, ap_iSeqA, kOfL, kOfT, kOfD, ap_dnil, ap_iR1, ap_iR2, r1_eq, r2_eq, ap_tgo1, ap_tgoM, setAll0, setAllC, ap_turnT, ap_turnO, tuK_t, tuK_f, tuK_b, ap_seq, seqK_nx, seqK_rt, seqK_ct, seqK_bk, seqK_no, seqK_if, ap_nil, ap_cnt, ap_brk, ap_set, ap_own, ownK_l, ownK_d, ap_ret, ap_if, ifK_t, ifK_f, ifK_b, ap_for, forL_nil, forL_cons, forK_nx, forK_ct, forK_bk, forK_rt, forK_if, ap_par, run_eq, runK_rt, runK_nx, runK_if, v_add, v_sub, v_neg, v_mod, v_div, v_mulR, v_mulL, v_mulB, v_addT, v_addL, v_catL, v_lt, v_le, v_gt, v_ge, v_eqI, v_neI, v_eqS, v_neS, v_lenT, v_lenL, v_intB, v_intI, v_not, v_min, v_max, v_abs, v_tupL, v_tupT, v_ixT, v_ixL, ix0, ix1, ix2, ix3, seqT, seqL, v_sumT, v_sumL, v_any, v_all, v_inT, v_inL, v_ninT, v_ninL, v_countT, mapMO_all, mapMO_some, mapMO_map, mapMO_range, v_sortedL, v_sortedT, v_cT, v_cTl, v_cTh, v_cL, v_cLl, v_cLh, v_eqNil, v_neNil, ix4, sel4_int, v_repT, v_isiI, v_isiS, v_isiB, v_isiN, ib_int, eq_dec, rl1, rl2, rl3, rl4, Bool.not_true, Bool.not_false, List.length_map, cutL_map, mkF, List.length_cons, List.length_nil, List.map_cons, List.map_nil, List.append_eq, List.cons_append, List.nil_append, List.getElem?_cons_zero, List.getElem?_cons_succ, List.set_cons_zero, List.set_cons_succ, Option.bind_some, Option.map_some, Option.bind_none, Option.map_none, Nat.zero_add, Nat.reduceAdd, Nat.reduceSub, Nat.reduceLeDiff, Nat.reduceLT, Nat.reduceEqDiff, Nat.reduceMul, LIM_eq, List.replicate_succ, List.replicate_zero, if_true, if_false, Bool.false_eq_true, Bool.true_eq_false, decide_true, decide_false, okS, noOwn, covers, tgIs, wipeO, List.all_cons, List.all_nil, List.any_cons, List.any_nil, Bool.and_true, Bool.true_and, Bool.and_self, Bool.or_false, Bool.false_or, Bool.or_true, beq_self_nat, kd, Int.reduceLT, Int.reduceLE, Int.reduceNeg, Int.reduceAdd, Int.reduceToNat, Int.reduceMul, Int.reduceSub, and_true, true_and, and_self, ite_true, ite_false, ↓reduceIte, nbeq, eq_self, ap_ext, ap_app, ap_put, lstK1_l, lstL_l, dicL_d, listK_l, m0, m1, m2, e0, e1, hgo, hha, gg, gh, gi, e2]
  simp only [m_law_t5, m_law_s5, m_law_t6, m_law_s6, ap_c, ap_t, ap_v, vK_val, vK_lst, vK_dic, ap_peek, pkK_val, pkK_lst, pkK_dic, ap_o1E, ap_o1P, ap_o2EE, ap_o2EP, ap_o2PE, ap_o2PP, ap_o3E, ap_o3P, ap_esNil, ap_esCons, ap_tup, ap_lst, tupK, lstK, ap_and, ap_or, andK_t, andK_f, andK_b, orK_t, orK_f, orK_b, ap_call, ap_mP, ap_mE, ap_iSeq, ap_iSeqA, kOfL, kOfT, kOfD, ap_dnil, ap_iR1, ap_iR2, r1_eq, r2_eq, ap_tgo1, ap_tgoM, setAll0, setAllC, ap_turnT, ap_turnO, tuK_t, tuK_f, tuK_b, ap_seq, seqK_nx, seqK_rt, seqK_ct, seqK_bk, seqK_no, seqK_if, ap_nil, ap_cnt, ap_brk, ap_set, ap_own, ownK_l, ownK_d, ap_ret, ap_if, ifK_t, ifK_f, ifK_b, ap_for, forL_nil, forL_cons, forK_nx, forK_ct, forK_bk, forK_rt, forK_if, ap_par, run_eq, runK_rt, runK_nx, runK_if, v_add, v_sub, v_neg, v_mod, v_div, v_mulR, v_mulL, v_mulB, v_addT, v_addL, v_catL, v_lt, v_le, v_gt, v_ge, v_eqI, v_neI, v_eqS, v_neS, v_lenT, v_lenL, v_intB, v_intI, v_not, v_min, v_max, v_abs, v_tupL, v_tupT, v_ixT, v_ixL, ix0, ix1, ix2, ix3, seqT, seqL, v_sumT, v_sumL, v_any, v_all, v_inT, v_inL, v_ninT, v_ninL, v_countT, mapMO_all, mapMO_some, mapMO_map, mapMO_range, v_sortedL, v_sortedT, v_cT, v_cTl, v_cTh, v_cL, v_cLl, v_cLh, v_eqNil, v_neNil, ix4, sel4_int, v_repT, v_isiI, v_isiS, v_isiB, v_isiN, ib_int, eq_dec, rl1, rl2, rl3, rl4, Bool.not_true, Bool.not_false, List.length_map, cutL_map, mkF, List.length_cons, List.length_nil, List.map_cons, List.map_nil, List.append_eq, List.cons_append, List.nil_append, List.getElem?_cons_zero, List.getElem?_cons_succ, List.set_cons_zero, List.set_cons_succ, Option.bind_some, Option.map_some, Option.bind_none, Option.map_none, Nat.zero_add, Nat.reduceAdd, Nat.reduceSub, Nat.reduceLeDiff, Nat.reduceLT, Nat.reduceEqDiff, Nat.reduceMul, LIM_eq, List.replicate_succ, List.replicate_zero, if_true, if_false, Bool.false_eq_true, Bool.true_eq_false, decide_true, decide_false, okS, noOwn, covers, tgIs, wipeO, List.all_cons, List.all_nil, List.any_cons, List.any_nil, Bool.and_true, Bool.true_and, Bool.and_self, Bool.or_false, Bool.false_or, Bool.or_true, beq_self_nat, kd, Int.reduceLT, Int.reduceLE, Int.reduceNeg, Int.reduceAdd, Int.reduceToNat, Int.reduceMul, Int.reduceSub, and_true, true_and, and_self, ite_true, ite_false, ↓reduceIte, nbeq, eq_self, ap_ext, ap_app, ap_put, lstK1_l, lstL_l, dicL_d, listK_l, c1, n1', c2, v_neNilL]
  simp only [m_law_t7, m_law_s7, m_law_t8, m_law_s8, ap_c, ap_t, ap_v, vK_val, vK_lst, vK_dic, ap_peek, pkK_val, pkK_lst, pkK_dic, ap_o1E, ap_o1P, ap_o2EE, ap_o2EP, ap_o2PE, ap_o2PP, ap_o3E, ap_o3P, ap_esNil, ap_esCons, ap_tup, ap_lst, tupK, lstK, ap_and, ap_or, andK_t, andK_f, andK_b, orK_t, orK_f, orK_b, ap_call, ap_mP, ap_mE, ap_iSeq, ap_iSeqA, kOfL, kOfT, kOfD, ap_dnil, ap_iR1, ap_iR2, r1_eq, r2_eq, ap_tgo1, ap_tgoM, setAll0, setAllC, ap_turnT, ap_turnO, tuK_t, tuK_f, tuK_b, ap_seq, seqK_nx, seqK_rt, seqK_ct, seqK_bk, seqK_no, seqK_if, ap_nil, ap_cnt, ap_brk, ap_set, ap_own, ownK_l, ownK_d, ap_ret, ap_if, ifK_t, ifK_f, ifK_b, ap_for, forL_nil, forL_cons, forK_nx, forK_ct, forK_bk, forK_rt, forK_if, ap_par, run_eq, runK_rt, runK_nx, runK_if, v_add, v_sub, v_neg, v_mod, v_div, v_mulR, v_mulL, v_mulB, v_addT, v_addL, v_catL, v_lt, v_le, v_gt, v_ge, v_eqI, v_neI, v_eqS, v_neS, v_lenT, v_lenL, v_intB, v_intI, v_not, v_min, v_max, v_abs, v_tupL, v_tupT, v_ixT, v_ixL, ix0, ix1, ix2, ix3, seqT, seqL, v_sumT, v_sumL, v_any, v_all, v_inT, v_inL, v_ninT, v_ninL, v_countT, mapMO_all, mapMO_some, mapMO_map, mapMO_range, v_sortedL, v_sortedT, v_cT, v_cTl, v_cTh, v_cL, v_cLl, v_cLh, v_eqNil, v_neNil, ix4, sel4_int, v_repT, v_isiI, v_isiS, v_isiB, v_isiN, ib_int, eq_dec, rl1, rl2, rl3, rl4, Bool.not_true, Bool.not_false, List.length_map, cutL_map, mkF, List.length_cons, List.length_nil, List.map_cons, List.map_nil, List.append_eq, List.cons_append, List.nil_append, List.getElem?_cons_zero, List.getElem?_cons_succ, List.set_cons_zero, List.set_cons_succ, Option.bind_some, Option.map_some, Option.bind_none, Option.map_none, Nat.zero_add, Nat.reduceAdd, Nat.reduceSub, Nat.reduceLeDiff, Nat.reduceLT, Nat.reduceEqDiff, Nat.reduceMul, LIM_eq, List.replicate_succ, List.replicate_zero, if_true, if_false, Bool.false_eq_true, Bool.true_eq_false, decide_true, decide_false, okS, noOwn, covers, tgIs, wipeO, List.all_cons, List.all_nil, List.any_cons, List.any_nil, Bool.and_true, Bool.true_and, Bool.and_self, Bool.or_false, Bool.false_or, Bool.or_true, beq_self_nat, kd, Int.reduceLT, Int.reduceLE, Int.reduceNeg, Int.reduceAdd, Int.reduceToNat, Int.reduceMul, Int.reduceSub, and_true, true_and, and_self, ite_true, ite_false, ↓reduceIte, nbeq, eq_self, ap_ext, ap_app, ap_put, lstK1_l, lstL_l, dicL_d, listK_l, e4, M1, n2, e5, e6]
  simp only [m_law_t9, m_law_s9, m_law_t10, m_law_s10, m_law_t11, ap_c, ap_t, ap_v, vK_val, vK_lst, vK_dic, ap_peek, pkK_val, pkK_lst, pkK_dic, ap_o1E, ap_o1P, ap_o2EE, ap_o2EP, ap_o2PE, ap_o2PP, ap_o3E, ap_o3P, ap_esNil, ap_esCons, ap_tup, ap_lst, tupK, lstK, ap_and, ap_or, andK_t, andK_f, andK_b, orK_t, orK_f, orK_b, ap_call, ap_mP, ap_mE, ap_iSeq, ap_iSeqA, kOfL, kOfT, kOfD, ap_dnil, ap_iR1, ap_iR2, r1_eq, r2_eq, ap_tgo1, ap_tgoM, setAll0, setAllC, ap_turnT, ap_turnO, tuK_t, tuK_f, tuK_b, ap_seq, seqK_nx, seqK_rt, seqK_ct, seqK_bk, seqK_no, seqK_if, ap_nil, ap_cnt, ap_brk, ap_set, ap_own, ownK_l, ownK_d, ap_ret, ap_if, ifK_t, ifK_f, ifK_b, ap_for, forL_nil, forL_cons, forK_nx, forK_ct, forK_bk, forK_rt, forK_if, ap_par, run_eq, runK_rt, runK_nx, runK_if, v_add, v_sub, v_neg, v_mod, v_div, v_mulR, v_mulL, v_mulB, v_addT, v_addL, v_catL, v_lt, v_le, v_gt, v_ge, v_eqI, v_neI, v_eqS, v_neS, v_lenT, v_lenL, v_intB, v_intI, v_not, v_min, v_max, v_abs, v_tupL, v_tupT, v_ixT, v_ixL, ix0, ix1, ix2, ix3, seqT, seqL, v_sumT, v_sumL, v_any, v_all, v_inT, v_inL, v_ninT, v_ninL, v_countT, mapMO_all, mapMO_some, mapMO_map, mapMO_range, v_sortedL, v_sortedT, v_cT, v_cTl, v_cTh, v_cL, v_cLl, v_cLh, v_eqNil, v_neNil, ix4, sel4_int, v_repT, v_isiI, v_isiS, v_isiB, v_isiN, ib_int, eq_dec, rl1, rl2, rl3, rl4, Bool.not_true, Bool.not_false, List.length_map, cutL_map, mkF, List.length_cons, List.length_nil, List.map_cons, List.map_nil, List.append_eq, List.cons_append, List.nil_append, List.getElem?_cons_zero, List.getElem?_cons_succ, List.set_cons_zero, List.set_cons_succ, Option.bind_some, Option.map_some, Option.bind_none, Option.map_none, Nat.zero_add, Nat.reduceAdd, Nat.reduceSub, Nat.reduceLeDiff, Nat.reduceLT, Nat.reduceEqDiff, Nat.reduceMul, LIM_eq, List.replicate_succ, List.replicate_zero, if_true, if_false, Bool.false_eq_true, Bool.true_eq_false, decide_true, decide_false, okS, noOwn, covers, tgIs, wipeO, List.all_cons, List.all_nil, List.any_cons, List.any_nil, Bool.and_true, Bool.true_and, Bool.and_self, Bool.or_false, Bool.false_or, Bool.or_true, beq_self_nat, kd, Int.reduceLT, Int.reduceLE, Int.reduceNeg, Int.reduceAdd, Int.reduceToNat, Int.reduceMul, Int.reduceSub, and_true, true_and, and_self, ite_true, ite_false, ↓reduceIte, nbeq, eq_self, ap_ext, ap_app, ap_put, lstK1_l, lstL_l, dicL_d, listK_l, hnd, e7, e8, e6, e9, e10, e11, e12]

end VL

open PySem PySem.W PyProof.Rows
set_option maxRecDepth 100000 in
set_option maxHeartbeats 0 in
theorem PySem.Challenge.cw_diceboxes_k42_whole_goals_move_by_move_holds : PySem.Challenge.rw_diceboxes_k42_whole_goals_move_by_move.Holds := by
  w_on; o_law; k_head; (case hw => w_witness2)
  k_fill
  refine VL.walk (l := PySem.Challenge.rw_diceboxes_k42_whole_goals_move_by_move) rfl rfl (fun w h Y => PySem.W.kIn_of Y) ?F
  case F =>
    intro w mg fa h KX G hmg
    refine' VL.all_mk KX G hmg ?aC0 ?a0 ?l0 ?c0 ?k0 ?a1 ?l1 ?c1 ?k1 ?a2 ?l2 ?c2 ?k2 ?a3 ?l3 ?c3 ?k3 ?a4 ?l4 ?c4 ?k4 ?a5 ?l5 ?c5 ?k5 ?a6 ?l6 ?c6 ?k6 ?a7 ?l7 ?c7 ?k7 ?a8 ?l8 ?c8 ?k8 ?a9 ?l9 ?c9 ?k9 ?a10 ?l10 ?c10 ?k10 ?a11 ?l11 ?c11 ?k11 ?a12 ?l12 ?c12 ?k12 ?a13 ?l13 ?c13 ?k13 ?a14 ?l14 ?c14 ?k14 ?a15 ?i15 ?l15 ?c15 ?k15 ?a16 ?l16 ?c16 ?k16 ?a17 ?l17 ?c17 ?k17 ?a18 ?l18 ?c18 ?k18 ?a19 ?l19 ?c19 ?k19 ?a20 ?l20 ?c20 ?k20 ?a21 ?i21 ?l21 ?c21 ?k21 ?a22 ?i22 ?l22 ?c22 ?k22 ?a23 ?l23 ?c23 ?k23 ?a24 ?l24 ?c24 ?k24 ?a25 ?l25 ?c25 ?k25 ?a26 ?l26 ?c26 ?k26 ?a27 ?l27 ?c27 ?k27 ?a28 ?l28 ?c28 ?k28 ?a29 ?l29 ?c29 ?k29 ?a30 ?l30 ?c30 ?k30 ?pg0 ?hd0 ?po0 ?sa0 ?mk0 ?kc0 ?n0_game ?n0_known ?z0 ?z1 ?z2 ?z3 ?z4 ?z5 ?z6 ?z7 ?z8 ?z9 ?z10 ?z11 ?z12 ?z13 ?z14 ?z15 ?z16 ?z17 ?z18 ?z19 VL.plain_law
    (case aC0 => k_is)
    (case a0 => k_is)
    (case l0 => k_is)
    (case c0 => k_is)
    (case k0 => k_is)
    (case a1 => k_is)
    (case l1 => k_is)
    (case c1 => k_is)
    (case k1 => k_is)
    (case a2 => k_is)
    (case l2 => k_is)
    (case c2 => k_is)
    (case k2 => k_is)
    (case a3 => k_is)
    (case l3 => k_is)
    (case c3 => k_is)
    (case k3 => k_is)
    (case a4 => k_is)
    (case l4 => k_is)
    (case c4 => k_is)
    (case k4 => k_is)
    (case a5 => k_is)
    (case l5 => k_is)
    (case c5 => k_is)
    (case k5 => k_is)
    (case a6 => k_is)
    (case l6 => k_is)
    (case c6 => k_is)
    (case k6 => k_is)
    (case a7 => k_is)
    (case l7 => k_is)
    (case c7 => k_is)
    (case k7 => k_is)
    (case a8 => k_is)
    (case l8 => k_is)
    (case c8 => k_is)
    (case k8 => k_is)
    (case a9 => k_is)
    (case l9 => k_is)
    (case c9 => k_is)
    (case k9 => k_is)
    (case a10 => k_is)
    (case l10 => k_is)
    (case c10 => k_is)
    (case k10 => k_is)
    (case a11 => k_is)
    (case l11 => k_is)
    (case c11 => k_is)
    (case k11 => k_is)
    (case a12 => k_is)
    (case l12 => k_is)
    (case c12 => k_is)
    (case k12 => k_is)
    (case a13 => k_is)
    (case l13 => k_is)
    (case c13 => k_is)
    (case k13 => k_is)
    (case a14 => k_is)
    (case l14 => k_is)
    (case c14 => k_is)
    (case k14 => k_is)
    (case a15 => k_is)
    (case i15 => k_is)
    (case l15 => k_is)
    (case c15 => k_is)
    (case k15 => k_is)
    (case a16 => k_is)
    (case l16 => k_is)
    (case c16 => k_is)
    (case k16 => k_is)
    (case a17 => k_is)
    (case l17 => k_is)
    (case c17 => k_is)
    (case k17 => k_is)
    (case a18 => k_is)
    (case l18 => k_is)
    (case c18 => k_is)
    (case k18 => k_is)
    (case a19 => k_is)
    (case l19 => k_is)
    (case c19 => k_is)
    (case k19 => k_is)
    (case a20 => k_is)
    (case l20 => k_is)
    (case c20 => k_is)
    (case k20 => k_is)
    (case a21 => k_is)
    (case i21 => k_is)
    (case l21 => k_is)
    (case c21 => k_is)
    (case k21 => k_is)
    (case a22 => k_is)
    (case i22 => k_is)
    (case l22 => k_is)
    (case c22 => k_is)
    (case k22 => k_is)
    (case a23 => k_is)
    (case l23 => k_is)
    (case c23 => k_is)
    (case k23 => k_is)
    (case a24 => k_is)
    (case l24 => k_is)
    (case c24 => k_is)
    (case k24 => k_is)
    (case a25 => k_is)
    (case l25 => k_is)
    (case c25 => k_is)
    (case k25 => k_is)
    (case a26 => k_is)
    (case l26 => k_is)
    (case c26 => k_is)
    (case k26 => k_is)
    (case a27 => k_is)
    (case l27 => k_is)
    (case c27 => k_is)
    (case k27 => k_is)
    (case a28 => k_is)
    (case l28 => k_is)
    (case c28 => k_is)
    (case k28 => k_is)
    (case a29 => k_is)
    (case l29 => k_is)
    (case c29 => k_is)
    (case k29 => k_is)
    (case a30 => k_is)
    (case l30 => k_is)
    (case c30 => k_is)
    (case k30 => k_is)
    (case pg0 => k_is)
    (case hd0 => k_is)
    (case po0 => k_is)
    (case sa0 => k_is)
    (case mk0 => k_is)
    (case kc0 => k_is)
    (case n0_game => k_is)
    (case n0_known => k_is)
    (case z0 => k_is)
    (case z1 => k_is)
    (case z2 => k_is)
    (case z3 => k_is)
    (case z4 => k_is)
    (case z5 => k_is)
    (case z6 => k_is)
    (case z7 => k_is)
    (case z8 => k_is)
    (case z9 => k_is)
    (case z10 => k_is)
    (case z11 => k_is)
    (case z12 => k_is)
    (case z13 => k_is)
    (case z14 => k_is)
    (case z15 => k_is)
    (case z16 => k_is)
    (case z17 => k_is)
    (case z18 => k_is)
    (case z19 => k_is)
#print axioms PySem.Challenge.cw_diceboxes_k42_whole_goals_move_by_move_holds
